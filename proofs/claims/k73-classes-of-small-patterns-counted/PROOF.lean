import PyProof.Rows.All
import Wide.All
import OpenK.AllK
import Wide.FinOn
import HandS.ForMost
import HandS.ForExc
import HandS.TupAny
import HandS.TupLe
import HandS.Deep
import HandS.Wide
import HandS.IsInst
import HandS.Flow
import HandS.Lambda
import HandS.Small
import HandS.Dict
import HandS.Iter
import HandS.More
import HandS.Style
import HandS.NoneIn
import HandS.EndTab
import HandS.ExcOwn
import HandS.Defaults
import HandS.Strs
import HandS.ExcIs
import KE.KExcIs
import HandS.HotCalls
import HandS.SortRule
import HandS.SortInts
import HandS.TupSets
import KE.GoesEnum
import HandS.ListItems
import HandS.TupMul
import KE.KEqNest
import HandS.Text
import HandS.FStr
import HandS.ExcInit
import HandS.ExcField
import HandS.WordsExc
import KE.DataMinMax
import KE.SortData
import KE.KDictDisplayH
import HandS.TupLen
import HandS.DictSubView
import KE.KDictCopyH
import HandS.Conv
import KE.KDictWalk
import KE.KeyNested
import PyProof.CollectIter
import PyProof.TupleOfGen
import PySem.Challenge.RW_gridsym_k73_classes_of_small_patterns_co
set_option Elab.async false
set_option linter.all false
set_option maxRecDepth 100000
/-! the data layer: values as PyData, bindings of a frame's slots, what an expression does as a function of the bindings -/
namespace G
open PySem PySem.Spec PyProof.Rows L2
abbrev St := L2.St
def kD : Key → PyData
  | .inl i => .int i
  | .inr x => .str x
/-- a list that nobody writes: frozen, or of the module -/
def LstR (K : PySem.W.Frag) (H : Hp) (a : Addr) (xs : List V) : Prop :=
  (∃ o, H a = some (.frz o (.lst xs))) ∨
    ∃ (its : List Value) (n : Nat), K.lookup a = some { cls := .type "list", data := .seq its.toArray n } ∧ its.length ≤ sizeLine ∧ Vals xs its
/-- a list that is read -/
def LstX (K : PySem.W.Frag) (H : Hp) (a : Addr) (xs : List V) : Prop := H a = some (.lst xs) ∨ LstR K H a xs
/-- a table of code objects: it grows as lambdas are made -/
def isTb : HO → Prop
  | .tbl _ => True
  | _ => False
/-- the hash of a tuple of ints -/
def hI (ns : List Int) : Int := reduceHash (Builtin.Tuple.tupleHashOf (ns.map hashInt))
abbrev KX := List Int × Addr × Value
def entX (x : KX) : DictEntry := ⟨hI x.1, .ref x.2.1, x.2.2⟩
/-- a dict at a whose keys are tuples of ints, whatever tuples they are: told by its entries -/
def TXφ (a : Addr) (xs : List KX) (h : Heap) : Prop := (a == sysModules) = false ∧ xs.length ≤ sizeLine ∧ (xs.map (·.1)).Nodup ∧ ∃ o es ep, h.get? a = some o ∧ o.ExactDict ∧ o.data = .dict es ep ∧ es.toList = xs.map entX
def TX (a : Addr) (xs : List KX) : HO := .ext (TXφ a xs)
theorem tx_code {a c : Addr} {q : Str} {xs : List KX} : TX a xs ≠ LamX.CodeO c q := fun z => by
  injection z with z
  let ob : Obj := { cls := .none, data := .fields #[.none, .str q 0] }
  have g : ∀ b o, (⟨Array.replicate (c + 1) ob, {}⟩ : Heap).get? b = some o → o = ob := fun b o e => by
    unfold Heap.get? at e
    dsimp only at e
    rw [Array.getElem?_replicate] at e
    by_cases hb : b < c + 1
    · rw [if_pos hb] at e
      exact (Option.some.inj e).symm
    · rw [if_neg hb] at e
      cases e
  have gc : (⟨Array.replicate (c + 1) ob, {}⟩ : Heap).get? c = some ob := by
    unfold Heap.get?
    dsimp only
    rw [Array.getElem?_replicate, if_pos (Nat.lt_succ_self c)]
  have h1 : (fun h : Heap => ∃ (oc : Obj) (vs : Array Value) (t : Tok), h.get? c = some oc ∧ oc.data = .fields vs ∧ vs[1]? = some (.str q t)) (⟨Array.replicate (c + 1) ob, {}⟩ : Heap) := ⟨ob, _, 0, gc, rfl, rfl⟩
  rw [← z] at h1
  obtain ⟨_, _, _, o, es, ep, h2, _, h3, _⟩ := h1
  rw [g a o h2] at h3
  cases h3
/-- tables when a list, dict .. is written -/
theorem tabs_upd {T : List (Addr × Str)} {H : Hp} {a : Addr} {o o' : HO} (t : LamX.Tabs T H) (e : H a = some o) (n1 : ¬ isTb o) (n2 : ∀ c q, o ≠ LamX.CodeO c q) : LamX.Tabs T (upd H a o') := fun p hp => by
  obtain ⟨ps, h1, h2, h3⟩ := t p hp
  refine ⟨ps, ?_, h2, fun pos cv hc => ?_⟩
  · rw [upd_ne]
    · exact h1
    · intro z
      rw [z, e] at h1
      cases h1
      exact n1 trivial
  · obtain ⟨c, e1, e2⟩ := h3 pos cv hc
    refine ⟨c, e1, ?_⟩
    rw [upd_ne]
    · exact e2
    · intro z
      rw [z, e] at e2
      exact n2 _ _ (Option.some.inj e2)
/-- a dict; what may be locked while it is walked -/
def isDc : HO → Prop
  | .dK _ => True
  | .ext _ => True
  | _ => False
/-- the object stands there, or (a dict) stands there locked -/
def HasO (H : Hp) (a : Addr) (o : HO) : Prop := H a = some o ∨ (isDc o ∧ ∃ od, H a = some (.frz od o))
theorem HasO.lst {H : Hp} {a : Addr} {xs : List V} (h : HasO H a (.lst xs)) : H a = some (.lst xs) := by
  rcases h with h | ⟨h, _⟩
  · exact h
  · exact h.elim
theorem HasO.some {H : Hp} {a : Addr} {o : HO} (h : HasO H a o) : ∃ u, H a = some u := by
  rcases h with h | ⟨_, od, h⟩
  · exact ⟨_, h⟩
  · exact ⟨_, h⟩
mutual
/-- v is the datum d; its lists and dicts are shared ones (in S) -/
inductive Dr (K : PySem.W.Frag) (S : Addr → Prop) (H : Hp) : V → PyData → Prop
  | non : Dr K S H .non .none
  | bl (b : Bool) : Dr K S H (.bl b) (.bool b)
  | int (i : Int) : Dr K S H (.int i) (.int i)
  | str (x : Str) : Dr K S H (.str x) (.str x)
  | obj {a : Addr} {o : HO} {d : PyData} : HasO H a o → S a → Ct K S H o d → Dr K S H (.ref a) d
  | lstR {a : Addr} {xs : List V} {ds : List PyData} : LstR K H a xs → DrAll K S H xs ds → Dr K S H (.ref a) (.list ds)
  | tup {a : Addr} {xs : List V} {ds : List PyData} : SqT K H a xs → DrAll K S H xs ds → Dr K S H (.ref a) (.tuple ds)
inductive DrAll (K : PySem.W.Frag) (S : Addr → Prop) (H : Hp) : List V → List PyData → Prop
  | nil : DrAll K S H [] []
  | cons {v : V} {vs : List V} {d : PyData} {ds : List PyData} : Dr K S H v d → DrAll K S H vs ds → DrAll K S H (v :: vs) (d :: ds)
/-- what a list or dict object holds -/
inductive Ct (K : PySem.W.Frag) (S : Addr → Prop) (H : Hp) : HO → PyData → Prop
  | lst {xs : List V} {ds : List PyData} : DrAll K S H xs ds → Ct K S H (.lst xs) (.list ds)
  | dK {kvs : List (Key × V)} {ds : List PyData} : DrAll K S H (kvs.map (·.2)) ds → Ct K S H (.dK kvs) (.dict ((kvs.map fun p => kD p.1).zip ds))
  | dX {a : Addr} {xs : List KX} {vs : List V} {ds : List PyData} : (∀ x ∈ xs, SqT K H x.2.1 (x.1.map V.int)) → Vals vs (xs.map (·.2.2)) → DrAll K S H vs ds → Ct K S H (TX a xs) (.dict ((xs.map fun x => PyData.tuple (x.1.map PyData.int)).zip ds))
end
theorem DrAll.length {K : PySem.W.Frag} {S : Addr → Prop} {H : Hp} : ∀ {vs : List V} {ds : List PyData}, DrAll K S H vs ds → vs.length = ds.length
  | [], _, h => by cases h; rfl
  | v :: vs, _, h => by
    cases h with
    | cons h1 h2 => simp only [List.length_cons]; rw [DrAll.length h2]
theorem DrAll.get {K : PySem.W.Frag} {S : Addr → Prop} {H : Hp} : ∀ {vs : List V} {ds : List PyData} {i : Nat} {d : PyData}, DrAll K S H vs ds → ds[i]? = some d → ∃ v, vs[i]? = some v ∧ Dr K S H v d
  | [], _, i, d, h, e => by cases h; simp at e
  | v :: vs, _, 0, d, h, e => by
    cases h with
    | cons h1 h2 => simp at e; subst e; exact ⟨v, rfl, h1⟩
  | v :: vs, _, i + 1, d, h, e => by
    cases h with
    | cons h1 h2 =>
      obtain ⟨u, e1, e2⟩ := DrAll.get (i := i) h2 (by simpa using e)
      exact ⟨u, by simpa using e1, e2⟩
theorem DrAll.append {K : PySem.W.Frag} {S : Addr → Prop} {H : Hp} : ∀ {vs us : List V} {ds es : List PyData}, DrAll K S H vs ds → DrAll K S H us es → DrAll K S H (vs ++ us) (ds ++ es)
  | [], _, _, _, h, h' => by cases h; exact h'
  | v :: vs, _, _, _, h, h' => by
    cases h with
    | cons h1 h2 => exact .cons h1 (DrAll.append h2 h')
theorem DrAll.drop {K : PySem.W.Frag} {S : Addr → Prop} {H : Hp} : ∀ {vs : List V} {ds : List PyData} (n : Nat), DrAll K S H vs ds → DrAll K S H (vs.drop n) (ds.drop n)
  | _, _, 0, h => h
  | [], _, n + 1, h => by cases h; exact .nil
  | v :: vs, _, n + 1, h => by
    cases h with
    | cons h1 h2 => exact DrAll.drop n h2
theorem DrAll.take {K : PySem.W.Frag} {S : Addr → Prop} {H : Hp} : ∀ {vs : List V} {ds : List PyData} (n : Nat), DrAll K S H vs ds → DrAll K S H (vs.take n) (ds.take n)
  | _, _, 0, h => .nil
  | [], _, n + 1, h => by cases h; exact .nil
  | v :: vs, _, n + 1, h => by
    cases h with
    | cons h1 h2 => exact .cons h1 (DrAll.take n h2)
theorem DrAll.set {K : PySem.W.Frag} {S : Addr → Prop} {H : Hp} {v : V} {d : PyData} (r : Dr K S H v d) : ∀ {vs : List V} {ds : List PyData} (n : Nat), DrAll K S H vs ds → DrAll K S H (vs.set n v) (ds.set n d)
  | [], _, _, h => by cases h; exact .nil
  | u :: vs, _, 0, h => by
    cases h with
    | cons h1 h2 => exact .cons r h2
  | u :: vs, _, n + 1, h => by
    cases h with
    | cons h1 h2 => exact .cons h1 (DrAll.set r n h2)
theorem DrAll.reverse {K : PySem.W.Frag} {S : Addr → Prop} {H : Hp} : ∀ {vs : List V} {ds : List PyData}, DrAll K S H vs ds → DrAll K S H vs.reverse ds.reverse
  | [], _, h => by cases h; exact .nil
  | v :: vs, _, h => by
    cases h with
    | cons h1 h2 => rw [List.reverse_cons, List.reverse_cons]; exact (DrAll.reverse h2).append (.cons h1 .nil)
/-- the data part of a step: what Dr leans on is kept -/
structure Ex (S : Addr → Prop) (H : Hp) (S' : Addr → Prop) (H' : Hp) : Prop where
  s : ∀ a, S a → S' a
  sh : ∀ a o, S a → ¬ isTb o → HasO H a o → HasO H' a o
  tup : ∀ a xs, H a = some (.tup xs) → H' a = some (.tup xs)
  frz : ∀ a o u, H a = some (.frz o u) → H' a = some (.frz o u)
  xd : ∀ a fs, H a = some (.xd fs) → H' a = some (.xd fs)
theorem SqT.ex {K : PySem.W.Frag} {S S' : Addr → Prop} {H H' : Hp} (e : Ex S H S' H') {a : Addr} {xs : List V} (h : SqT K H a xs) : SqT K H' a xs := by
  rcases h with (h | ⟨o, h⟩) | h
  · exact .inl (.inl (e.tup _ _ h))
  · exact .inl (.inr ⟨o, e.frz _ _ _ h⟩)
  · exact .inr h
theorem LstR.ex {K : PySem.W.Frag} {S S' : Addr → Prop} {H H' : Hp} (e : Ex S H S' H') {a : Addr} {xs : List V} (h : LstR K H a xs) : LstR K H' a xs := by
  rcases h with ⟨o, h⟩ | h
  · exact .inl ⟨o, e.frz _ _ _ h⟩
  · exact .inr h
theorem LstR.sq {K : PySem.W.Frag} {H : Hp} {a : Addr} {xs : List V} (h : LstR K H a xs) : SqL K H a xs := by
  rcases h with ⟨o, h⟩ | ⟨its, n, h, z, v⟩
  · exact .inl (.inr ⟨o, h⟩)
  · exact .inr ⟨_, its.toArray, n, h, rfl, rfl, rfl, by simpa using z, by simpa using v⟩
theorem LstX.sq {K : PySem.W.Frag} {H : Hp} {a : Addr} {xs : List V} (h : LstX K H a xs) : SqL K H a xs := by
  rcases h with h | h
  · exact .inl (.inl h)
  · exact h.sq
theorem LstX.at_ {X : Cx} {pins : List (Addr × Obj)} {σ : St} {H : Hp} {s : Shared} {a : Addr} {xs : List V} (I : Inv X pins σ H s) (h : LstX X.K H a xs) :
    ∃ (its : List Value) (n : Nat), Vals xs its ∧ s.heap.get? a = some { cls := .type "list", data := .seq its.toArray n } ∧ xs.length ≤ sizeLine := by
  rcases h with h | ⟨o, h⟩ | ⟨its, n, h, z, v⟩
  · exact I.lst h
  · obtain ⟨e, q⟩ := (show ObjOk X.prog X.w H s.heap a (.frz o (.lst xs)) from I.hok a _ h)
    obtain ⟨z, its, n, r, e2⟩ := q
    exact ⟨its, n, r, e2, z⟩
  · exact ⟨its, n, v, I.kIn _ _ h, by rw [v.length]; exact z⟩
theorem Ct.notTb {K : PySem.W.Frag} {S : Addr → Prop} {H : Hp} {o : HO} {d : PyData} (h : Ct K S H o d) : ¬ isTb o := by cases h <;> exact fun z => z
theorem Ct.notCode {K : PySem.W.Frag} {S : Addr → Prop} {H : Hp} {o : HO} {d : PyData} (h : Ct K S H o d) : ∀ c q, o ≠ LamX.CodeO c q := by
  cases h with
  | dX _ _ _ => exact fun _ _ => tx_code
  | _ => exact fun _ _ z => nomatch z
theorem tb_dc {o : HO} (h : isTb o) : ¬ isDc o := by cases o <;> first | exact fun z => z | exact h.elim
theorem Dr.ex {K : PySem.W.Frag} {S S' : Addr → Prop} {H H' : Hp} (e : Ex S H S' H') {v : V} {d : PyData} (h : Dr K S H v d) : Dr K S' H' v d :=
  Dr.rec (motive_1 := fun v d _ => Dr K S' H' v d) (motive_2 := fun vs ds _ => DrAll K S' H' vs ds) (motive_3 := fun o d _ => Ct K S' H' o d)
    .non .bl .int .str (fun ha hs q hc => .obj (e.sh _ _ hs q.notTb ha) (e.s _ hs) hc) (fun hl _ h => .lstR (hl.ex e) h) (fun ht _ h => .tup (SqT.ex e ht) h)
    .nil (fun _ _ h1 h2 => .cons h1 h2) (fun _ h => .lst h) (fun _ h => .dK h) (fun hk hv _ h => .dX (fun x hx => SqT.ex e (hk x hx)) hv h) h
theorem DrAll.ex {K : PySem.W.Frag} {S S' : Addr → Prop} {H H' : Hp} (e : Ex S H S' H') : ∀ {vs : List V} {ds : List PyData}, DrAll K S H vs ds → DrAll K S' H' vs ds
  | [], _, h => by cases h; exact .nil
  | v :: vs, _, h => by
    cases h with
    | cons h1 h2 => exact .cons (h1.ex e) (DrAll.ex e h2)
theorem Ct.ex {K : PySem.W.Frag} {S S' : Addr → Prop} {H H' : Hp} (e : Ex S H S' H') {o : HO} {d : PyData} (h : Ct K S H o d) : Ct K S' H' o d := by
  cases h with
  | lst h => exact .lst (h.ex e)
  | dK h => exact .dK (h.ex e)
  | dX hk hv h => exact .dX (fun x hx => SqT.ex e (hk x hx)) hv (h.ex e)
/-- objects that Ct speaks of -/
theorem Ct.notTup {K : PySem.W.Frag} {S : Addr → Prop} {H : Hp} {xs : List V} {d : PyData} (h : Ct K S H (.tup xs) d) : False := by cases h
theorem Ct.notXd {K : PySem.W.Frag} {S : Addr → Prop} {H : Hp} {fs : List (Str × V)} {d : PyData} (h : Ct K S H (.xd fs) d) : False := by cases h
theorem Ct.notFrz {K : PySem.W.Frag} {S : Addr → Prop} {H : Hp} {o : Obj} {u : HO} {d : PyData} (h : Ct K S H (.frz o u) d) : False := by cases h
/-! ### bindings -/
/-- an exception: its class's name; what it holds (amount, limit), if it is made by an own __init__ -/
structure Xn where
  cls : Str
  pl : Option (Int × Int)
instance : Coe Str Xn := ⟨fun s => ⟨s, none⟩⟩
instance : CoeTail String Xn := ⟨fun s => ⟨(s : Str), none⟩⟩
/-- the dict of such an exception -/
def limFs (a b : Int) : List (Str × V) := [("limit", .int b), ("amount", .int a)]
def XdAt (H : Hp) (pd : Option Addr) : Option (Int × Int) → Prop
  | none => pd = none
  | some (a, b) => ∃ d, pd = some d ∧ H d = some (.xd (limFs a b))
theorem XdAt.keep {H H' : Hp} {pd : Option Addr} {pl : Option (Int × Int)} (k : ∀ d fs, H d = some (.xd fs) → H' d = some (.xd fs)) (h : XdAt H pd pl) : XdAt H' pd pl := by
  cases pl with
  | none => exact h
  | some p => obtain ⟨d, e, q⟩ := h; exact ⟨d, e, k _ _ q⟩
/-- a field of an object: a datum; the list that was handed in slot g -/
inductive OF where
  | inl (d : PyData) | gh (g : Nat)
/-- what is known of a slot: nothing; a datum; a list or dict that this frame alone holds; one that the caller handed to be written;
  an object of the class of that name that the caller handed -/
inductive B where
  | un | val (d : PyData) | own (d : PyData) | prm (d : PyData) | exc (n : Xn) | ob (cls : Str) (fs : List (Str × OF))
/-- what all frames know: the tables of code objects and the names in them, the classes of exceptions -/
structure Gx where
  T : List (Addr × Str)
  es : List (Str × Addr)
  /-- the classes of objects -/
  cl : List (Str × Addr) := []
  /-- in an except suite: the address of the exception, and of its class -/
  pa : Addr := 0
  pc : Addr := 0
  pd : Option Addr := none
structure Ax where
  f : Nat → Option Addr
  g : Gx
instance : CoeFun Ax (fun _ => Nat → Option Addr) := ⟨Ax.f⟩
/-- what an expression gives: a datum; a new list or dict; what stands in slot i -/
inductive Ev where
  | val (d : PyData) | fr (d : PyData) | sl (i : Nat)
/-- a result: a value, an exception of the class of that name (and what is known of the slots), or nothing is said -/
inductive Rs (α : Type) where
  | ok (a : α) | ex (n : Xn) (ρ : List B) | bad
def Rs.bind {α β : Type} (r : Rs α) (f : α → Rs β) : Rs β := match r with
  | .ok a => f a
  | .ex n ρ => .ex n ρ
  | .bad => .bad
instance : Monad Rs where
  pure := .ok
  bind := Rs.bind
abbrev SE := List B → Rs (Ev × List B)
def isOw : Option B → Bool
  | some (.own _) => true
  | some (.prm _) => true
  | some (.ob _ _) => true
  | _ => false
def OwI (σ : St) (ρ : List B) (i : Nat) (a : Addr) : Prop := isOw ρ[i]? = true ∧ σ[i]? = some (some (.ref a))
def Ow (σ : St) (ρ : List B) (a : Addr) : Prop := ∃ i, OwI σ ρ i a
def OwnAt (K : PySem.W.Frag) (S : Addr → Prop) (H : Hp) (a : Addr) (d : PyData) : Prop := ∃ o, H a = some o ∧ Ct K S H o d
/-- a field's value -/
def OFR (K : PySem.W.Frag) (A0 : Ax) (S : Addr → Prop) (H : Hp) (u : V) : OF → Prop
  | .inl d => Dr K S H u d
  | .gh g => ∃ l, u = .ref l ∧ A0 g = some l
abbrev FR (K : PySem.W.Frag) (A0 : Ax) (S : Addr → Prop) (H : Hp) : List (Str × V) → List (Str × OF) → Prop := Paired fun v f => v.1 = f.1 ∧ OFR K A0 S H v.2 f.2
def Bd (K : PySem.W.Frag) (A0 : Ax) (S : Addr → Prop) (H : Hp) (σ : St) (i : Nat) : B → Prop
  | .un => True
  | .val d => ∃ v, σ[i]? = some (some v) ∧ Dr K S H v d
  | .own d => ∃ a, σ[i]? = some (some (.ref a)) ∧ ¬ S a ∧ OwnAt K S H a d
  | .prm d => ∃ a, σ[i]? = some (some (.ref a)) ∧ A0 i = some a ∧ ¬ S a ∧ OwnAt K S H a d
  | .exc n => (n.cls, A0.g.pc) ∈ A0.g.es ∧ σ[i]? = some (some (.ref A0.g.pa)) ∧ XdAt H A0.g.pd n.pl
  | .ob cls fs => ∃ a, σ[i]? = some (some (.ref a)) ∧ A0 i = some a ∧ ¬ S a ∧ ∃ C dx vs, (cls, C) ∈ A0.g.cl ∧ H a = some (.ins C dx vs) ∧ FR K A0 S H vs fs
/-- the slots are as ρ tells -/
structure Rp (K : PySem.W.Frag) (A0 : Ax) (S : Addr → Prop) (H : Hp) (σ : St) (ρ : List B) : Prop where
  len : σ.length = ρ.length
  bd : ∀ i b, ρ[i]? = some b → Bd K A0 S H σ i b
  dis : ∀ i j a, OwI σ ρ i a → OwI σ ρ j a → i = j
  al : ∀ a, S a → ∃ o, H a = some o
  np : ∀ (i : Nat) (d : PyData) (a : Addr), ρ[i]? = some (B.own d) → σ[i]? = some (some (V.ref a)) → ∀ j, A0 j ≠ some a
  aa : ∀ j a, A0 j = some a → ∃ o, H a = some o
  tb : LamX.Tabs A0.g.T H
/-- what may have changed: the owned ones; S grows by what is new or was owned -/
structure Tr (S : Addr → Prop) (H : Hp) (O S' : Addr → Prop) (H' : Hp) (O' : Addr → Prop) : Prop where
  s : ∀ a, S a → S' a
  keep : ∀ a o, H a = some o → ¬ O a → H' a = some o ∨ (isDc o ∧ S' a ∧ ∃ od, H' a = some (.frz od o)) ∨ (isTb o ∧ ∃ o', isTb o' ∧ H' a = some o')
  dom : ∀ a o, H a = some o → ∃ o', H' a = some o'
  o : ∀ a, O' a → O a ∨ H a = none
  g : ∀ a, S' a → S a ∨ O a ∨ H a = none
theorem Tr.refl {S : Addr → Prop} {H : Hp} {O : Addr → Prop} : Tr S H O S H O := ⟨fun _ h => h, fun _ _ h _ => .inl h, fun _ o h => ⟨o, h⟩, fun _ h => .inl h, fun _ h => .inl h⟩
section
variable {S : Addr → Prop} {H : Hp} {O S' : Addr → Prop} {H' : Hp} {O' : Addr → Prop}
theorem Tr.keepN (t : Tr S H O S' H' O') {a : Addr} {o : HO} (h : H a = some o) (n : ¬ O a) (hd : ¬ isDc o) (ht : ¬ isTb o := by exact fun z => z) : H' a = some o := by
  rcases t.keep a o h n with q | ⟨q, _⟩ | ⟨q, _⟩
  · exact q
  · exact (hd q).elim
  · exact (ht q).elim
theorem Tr.keepS (t : Tr S H O S' H' O') {a : Addr} {o : HO} (h : H a = some o) (n : ¬ O a) (hs : ¬ S' a) (ht : ¬ isTb o := by exact fun z => z) : H' a = some o := by
  rcases t.keep a o h n with q | ⟨_, q, _⟩ | ⟨q, _⟩
  · exact q
  · exact (hs q).elim
  · exact (ht q).elim
theorem Tr.hasO (t : Tr S H O S' H' O') {a : Addr} {o : HO} (h : HasO H a o) (n : ¬ O a) (ht : ¬ isTb o) : HasO H' a o := by
  rcases h with h | ⟨hd, od, h⟩
  · rcases t.keep a o h n with q | ⟨q, _, od, e⟩ | ⟨q, _⟩
    · exact .inl q
    · exact .inr ⟨q, od, e⟩
    · exact (ht q).elim
  · exact .inr ⟨hd, od, t.keepN h n fun z => z⟩
end
theorem Tr.fresh {S : Addr → Prop} {H : Hp} {O S' : Addr → Prop} {H' : Hp} {O' : Addr → Prop} (t : Tr S H O S' H' O') {a : Addr} (h : H' a = none) : H a = none := by
  cases e : H a with
  | none => rfl
  | some o => obtain ⟨o', e'⟩ := t.dom a o e; rw [h] at e'; cases e'
theorem Tr.trans {S : Addr → Prop} {H : Hp} {O S1 : Addr → Prop} {H1 : Hp} {O1 S2 : Addr → Prop} {H2 : Hp} {O2 : Addr → Prop} (t : Tr S H O S1 H1 O1) (u : Tr S1 H1 O1 S2 H2 O2) : Tr S H O S2 H2 O2 := by
  refine ⟨fun a h => u.s a (t.s a h), fun a o h n => ?_, fun a o h => ?_, fun a h => ?_, fun a h => ?_⟩
  · have n1 : ¬ O1 a := fun z => by
      rcases t.o a z with q | q
      · exact n q
      · rw [h] at q; cases q
    rcases t.keep a o h n with q | ⟨q1, q2, od, q3⟩ | ⟨q1, o', q2, q3⟩
    · exact u.keep a o q n1
    · exact .inr (.inl ⟨q1, u.s a q2, od, u.keepN q3 n1 fun z => z⟩)
    · rcases u.keep a o' q3 n1 with p | ⟨p1, _⟩ | ⟨_, o2, p2, p3⟩
      · exact .inr (.inr ⟨q1, o', q2, p⟩)
      · exact (tb_dc q2 p1).elim
      · exact .inr (.inr ⟨q1, o2, p2, p3⟩)
  · obtain ⟨o', e⟩ := t.dom a o h
    exact u.dom a o' e
  · rcases u.o a h with q | q
    · exact t.o a q
    · exact .inr (t.fresh q)
  · rcases u.g a h with q | q | q
    · exact t.g a q
    · rcases t.o a q with z | z
      · exact .inr (.inl z)
      · exact .inr (.inr z)
    · exact .inr (.inr (t.fresh q))
section
variable {K : PySem.W.Frag} {A0 : Ax} {S S' : Addr → Prop} {H H' : Hp} {σ σ' : St} {ρ ρ' : List B} {O' : Addr → Prop}
/-- what an owned object may be -/
structure OwO (H : Hp) (a : Addr) : Prop where
  ex : ∃ o, H a = some o ∧ ¬ isTb o ∧ (∀ c q, o ≠ LamX.CodeO c q) ∧ (∀ xs, o ≠ .tup xs) ∧ (∀ ob u, o ≠ .frz ob u) ∧ (∀ fs, o ≠ .xd fs)
theorem OwnAt.owo {a : Addr} {d : PyData} (h : OwnAt K S H a d) : OwO H a := by
  obtain ⟨o, e, c⟩ := h
  exact ⟨o, e, c.notTb, c.notCode, fun xs z => by subst z; exact c.notTup, fun ob u z => by subst z; exact c.notFrz, fun fs z => by subst z; exact c.notXd⟩
theorem OwO.ins {a C dx : Addr} {vs : List (Str × V)} (h : H a = some (.ins C dx vs)) : OwO H a := ⟨_, h, (fun z => z), (fun c q z => by unfold LamX.CodeO at z; cases z), (fun xs z => by cases z), (fun ob u z => by cases z), (fun fs z => by cases z)⟩
theorem Rp.own (r : Rp K A0 S H σ ρ) {i : Nat} {a : Addr} (h : OwI σ ρ i a) : ¬ S a ∧ OwO H a := by
  obtain ⟨h1, h2⟩ := h
  cases e : ρ[i]? with
  | none => rw [e] at h1; cases h1
  | some b =>
    rw [e] at h1
    have q := r.bd i b e
    cases b with
    | un => cases h1
    | val d => cases h1
    | own d =>
      obtain ⟨a', e1, e2, e3⟩ := q
      rw [h2] at e1; cases e1
      exact ⟨e2, e3.owo⟩
    | prm d =>
      obtain ⟨a', e1, _, e2, e3⟩ := q
      rw [h2] at e1; cases e1
      exact ⟨e2, e3.owo⟩
    | exc n => cases h1
    | ob c fs =>
      obtain ⟨a', e1, _, e2, C, dx, vs, _, e3, _⟩ := q
      rw [h2] at e1; cases e1
      exact ⟨e2, .ins e3⟩
theorem FR.mono (e : Ex S H S' H') {vs : List (Str × V)} {fs : List (Str × OF)} (h : FR K A0 S H vs fs) : FR K A0 S' H' vs fs := Paired.mapP h fun v f q => ⟨q.1, by
  have h2 := q.2
  obtain ⟨n, x⟩ := f
  cases x with
  | inl d => exact Dr.ex e h2
  | gh g => exact h2⟩
/-- an object stays, if its own heap object stays -/
theorem bd_ob (e : Ex S H S' H') {i : Nat} {c : Str} {fs : List (Str × OF)} (h : Bd K A0 S H σ i (.ob c fs)) (hs : ∀ a, σ[i]? = some (some (.ref a)) → σ'[i]? = some (some (.ref a)) ∧ ¬ S' a ∧ ∀ o, H a = some o → H' a = some o) : Bd K A0 S' H' σ' i (.ob c fs) := by
  obtain ⟨a, e1, e2, e3, C, dx, vs, e4, e5, e6⟩ := h
  obtain ⟨z0, z1, z2⟩ := hs a e1
  exact ⟨a, z0, e2, z1, C, dx, vs, e4, z2 _ e5, FR.mono e e6⟩
theorem bd_exc (e : Ex S H S' H') {i : Nat} {n : Xn} (h : Bd K A0 S H σ i (.exc n)) : Bd K A0 S' H' σ i (.exc n) := ⟨h.1, h.2.1, h.2.2.keep e.xd⟩
theorem Rp.sep (r : Rp K A0 S H σ ρ) {a : Addr} (h : S a) : ¬ Ow σ ρ a := fun ⟨_, q⟩ => (r.own q).1 h
theorem Ex.of_tr {O : Addr → Prop} (t : Tr S H O S' H' O') (hs : ∀ a, S a → ¬ O a) (hc : ∀ a, O a → OwO H a) : Ex S H S' H' := by
  refine ⟨t.s, fun a o h nt q => t.hasO q (hs a h) nt, fun a xs h => t.keepN h (fun z => ?_) fun z => z, fun a o u h => t.keepN h (fun z => ?_) fun z => z, fun a fs h => t.keepN h (fun z => ?_) fun z => z⟩
  · obtain ⟨o, e, _, _, n, _⟩ := (hc a z).ex
    rw [h] at e; cases e; exact n _ rfl
  · obtain ⟨o, e, _, _, _, n, _⟩ := (hc a z).ex
    rw [h] at e; cases e; exact n _ _ rfl
  · obtain ⟨o, e, _, _, _, _, n⟩ := (hc a z).ex
    rw [h] at e; cases e; exact n _ rfl
theorem Rp.ex (r : Rp K A0 S H σ ρ) (t : Tr S H (Ow σ ρ) S' H' O') : Ex S H S' H' := Ex.of_tr t (fun a h => r.sep h) fun a ⟨i, q⟩ => (r.own q).2
/-- an expression's value v -/
def RE (K : PySem.W.Frag) (A0 : Ax) (H0 : Hp) (S : Addr → Prop) (H : Hp) (σ : St) (ρ : List B) (v : V) : Ev → Prop
  | .val d => Dr K S H v d
  | .fr d => ∃ a, v = .ref a ∧ (H0 a = none ∧ ∀ j, A0 j ≠ some a) ∧ ¬ S a ∧ ¬ Ow σ ρ a ∧ OwnAt K S H a d
  | .sl i => σ[i]? = some (some v)
theorem OwnAt.ex {a : Addr} {d : PyData} (e : Ex S H S' H') (k : ∀ o, H a = some o → H' a = some o) (h : OwnAt K S H a d) : OwnAt K S' H' a d :=
  let ⟨o, h1, h2⟩ := h
  ⟨o, k o h1, h2.ex e⟩
theorem RE.mono {H0 : Hp} {v : V} {e : Ev} (r : Rp K A0 S H σ ρ) (t : Tr S H (Ow σ ρ) S' H' (Ow σ ρ')) (h : RE K A0 H0 S H σ ρ v e) : RE K A0 H0 S' H' σ ρ' v e := by
  cases e with
  | val d => exact Dr.ex (r.ex t) h
  | sl i => exact h
  | fr d =>
    obtain ⟨a, rfl, h0, hs, ho, ha⟩ := h
    obtain ⟨o, e1, e2⟩ := ha
    have hs' : ¬ S' a := fun z => by
      rcases t.g a z with q | q | q
      · exact hs q
      · exact ho q
      · rw [e1] at q; cases q
    refine ⟨a, rfl, h0, hs', fun z => ?_, ⟨o, t.keepS e1 ho hs' e2.notTb, e2.ex (r.ex t)⟩⟩
    · rcases t.o a z with q | q
      · exact ho q
      · rw [e1] at q; cases q
theorem RE.back {H0 H00 : Hp} {v : V} {e : Ev} (dm : ∀ a, H0 a = none → H00 a = none) (h : RE K A0 H0 S H σ ρ v e) : RE K A0 H00 S H σ ρ v e := by
  cases e with
  | val d => exact h
  | sl i => exact h
  | fr d =>
    obtain ⟨a, rfl, h0, r⟩ := h
    exact ⟨a, rfl, ⟨dm a h0.1, h0.2⟩, r⟩
end
/-- the datum, whoever holds it -/
def Dw (K : PySem.W.Frag) (S : Addr → Prop) (H : Hp) (v : V) (d : PyData) : Prop := Dr K S H v d ∨ ∃ a, v = .ref a ∧ OwnAt K S H a d
def peekB : B → Option PyData
  | .un => none
  | .val d => some d
  | .own d => some d
  | .prm d => some d
  | .exc _ => none
  | .ob _ _ => none
def peek (ρ : List B) : Ev → Option PyData
  | .val d => some d
  | .fr d => some d
  | .sl i => (ρ[i]?).bind peekB
theorem peek_ok {K : PySem.W.Frag} {A0 : Ax} {S : Addr → Prop} {H H0 : Hp} {σ : St} {ρ : List B} {v : V} {e : Ev} {d : PyData} (r : Rp K A0 S H σ ρ) (h : RE K A0 H0 S H σ ρ v e) (p : peek ρ e = some d) : Dw K S H v d := by
  cases e with
  | val d' => cases p; exact .inl h
  | fr d' =>
    cases p
    obtain ⟨a, rfl, _, _, _, q⟩ := h
    exact .inr ⟨a, rfl, q⟩
  | sl i =>
    have hv : σ[i]? = some (some v) := h
    have p' : (ρ[i]?).bind peekB = some d := p
    cases e : ρ[i]? with
    | none => rw [e] at p'; cases p'
    | some b =>
      rw [e] at p'
      have q := r.bd i b e
      cases b with
      | un => cases p'
      | val d' =>
        cases p'
        obtain ⟨u, e1, e2⟩ := q
        rw [hv] at e1; cases e1
        exact .inl e2
      | exc n => cases p'
      | ob _ _ => cases p'
      | own d' =>
        cases p'
        obtain ⟨a, e1, _, e2⟩ := q
        rw [hv] at e1; cases e1
        exact .inr ⟨a, rfl, e2⟩
      | prm d' =>
        cases p'
        obtain ⟨a, e1, _, _, e2⟩ := q
        rw [hv] at e1; cases e1
        exact .inr ⟨a, rfl, e2⟩
section
variable {K : PySem.W.Frag} {S : Addr → Prop} {H : Hp} {v : V}
theorem Dw.int {i : Int} (h : Dw K S H v (.int i)) : v = .int i := by
  rcases h with h | ⟨a, rfl, o, h1, h2⟩
  · cases h with
    | int => rfl
    | obj _ _ c => cases c
  · cases h2
theorem Dw.bl {b : Bool} (h : Dw K S H v (.bool b)) : v = .bl b := by
  rcases h with h | ⟨a, rfl, o, h1, h2⟩
  · cases h with
    | bl => rfl
    | obj _ _ c => cases c
  · cases h2
theorem Dw.non (h : Dw K S H v .none) : v = .non := by
  rcases h with h | ⟨a, rfl, o, h1, h2⟩
  · cases h with
    | non => rfl
    | obj _ _ c => cases c
  · cases h2
theorem Dw.str {x : Str} (h : Dw K S H v (.str x)) : v = .str x := by
  rcases h with h | ⟨a, rfl, o, h1, h2⟩
  · cases h with
    | str => rfl
    | obj _ _ c => cases c
  · cases h2
theorem Dw.tup {ds : List PyData} (h : Dw K S H v (.tuple ds)) : ∃ a xs, v = .ref a ∧ SqT K H a xs ∧ DrAll K S H xs ds := by
  rcases h with h | ⟨a, rfl, o, h1, h2⟩
  · cases h with
    | tup h1 h2 => exact ⟨_, _, rfl, h1, h2⟩
    | obj _ _ c => cases c
  · cases h2
theorem Dw.lst {ds : List PyData} (h : Dw K S H v (.list ds)) : ∃ a xs, v = .ref a ∧ LstX K H a xs ∧ DrAll K S H xs ds := by
  rcases h with h | ⟨a, rfl, o, h1, h2⟩
  · cases h with
    | lstR h1 h2 => exact ⟨_, _, rfl, .inr h1, h2⟩
    | obj h1 _ c => cases c with
      | lst c => exact ⟨_, _, rfl, .inl h1.lst, c⟩
  · cases h2 with
    | lst c => exact ⟨_, _, rfl, .inl h1, c⟩
theorem Dr.w {d : PyData} (h : Dr K S H v d) : Dw K S H v d := .inl h
theorem Dr.tupE {ds : List PyData} (h : Dr K S H v (.tuple ds)) : ∃ a xs, v = .ref a ∧ SqT K H a xs ∧ DrAll K S H xs ds := h.w.tup
end
/-! data without dicts: as the library's Dp -/
mutual
theorem Dr.dp {K : PySem.W.Frag} {S : Addr → Prop} {H : Hp} : ∀ (d : PyData) (v : V), d.canLay0 = true → Dr K S H v d → Dp K H v d
  | .none, v, _, h => by rw [h.w.non]; exact .non
  | .bool b, v, _, h => by rw [h.w.bl]; exact .bl b
  | .int i, v, _, h => by rw [h.w.int]; exact .int i
  | .str x, v, _, h => by rw [h.w.str]; exact .str x
  | .list ds, v, c, h => by
    obtain ⟨a, xs, rfl, h1, h2⟩ := h.w.lst
    exact .lst h1.sq (DrAll.dp ds xs (by simpa only [PyData.canLay0] using c) h2)
  | .tuple ds, v, c, h => by
    obtain ⟨a, xs, rfl, h1, h2⟩ := h.w.tup
    exact .tup h1 (DrAll.dp ds xs (by simpa only [PyData.canLay0] using c) h2)
  | .dict _, _, c, _ => by simp [PyData.canLay0] at c
theorem DrAll.dp {K : PySem.W.Frag} {S : Addr → Prop} {H : Hp} : ∀ (ds : List PyData) (vs : List V), PyData.canLayAll0 ds = true → DrAll K S H vs ds → DpAll K H vs ds
  | [], _, _, h => by cases h; exact .nil
  | d :: ds, _, c, h => by
    cases h with
    | cons h1 h2 =>
      simp only [PyData.canLayAll0, Bool.and_eq_true] at c
      exact .cons (Dr.dp d _ c.1 h1) (DrAll.dp ds _ c.2 h2)
end
theorem Dw.dp {K : PySem.W.Frag} {S : Addr → Prop} {H : Hp} {v : V} {d : PyData} (c : d.canLay0 = true) (h : Dw K S H v d) : Dp K H v d := by
  cases d with
  | list ds =>
    obtain ⟨a, xs, rfl, h1, h2⟩ := h.lst
    exact .lst h1.sq (DrAll.dp ds xs (by simpa only [PyData.canLay0] using c) h2)
  | dict kvs => simp [PyData.canLay0] at c
  | none => rw [h.non]; exact .non
  | bool b => rw [h.bl]; exact .bl b
  | int i => rw [h.int]; exact .int i
  | str x => rw [h.str]; exact .str x
  | tuple ds =>
    obtain ⟨a, xs, rfl, h1, h2⟩ := h.tup
    exact .tup h1 (DrAll.dp ds xs (by simpa only [PyData.canLay0] using c) h2)
end G
namespace G
open PySem PySem.Spec PyProof.Rows L2
theorem PE_imp {X : Cx} {e : Expr} {t t' : TE} (h : PE X e t) (i : ∀ σ H Q, t' σ H Q → t σ H Q) : PE X e t' := ⟨fun pins s σ H Q I q => h.run pins s σ H Q I (i σ H Q q)⟩
theorem PT_imp {X : Cx} {e : Expr} {t t' : TT} (h : PT X e t) (i : ∀ σ H Q, t' σ H Q → t σ H Q) : PT X e t' := ⟨fun pins s σ H Q I q => h.run pins s σ H Q I (i σ H Q q)⟩
theorem PW_imp {X : Cx} {e : Expr} {t t' : TT} (h : PW X e t) (i : ∀ σ H Q, t' σ H Q → t σ H Q) : PW X e t' := ⟨fun w pins s σ H Q I q => h.run w pins s σ H Q I (i σ H Q q)⟩
theorem PA_imp {X : Cx} {e : List Expr} {t t' : TA} (h : PA X e t) (i : ∀ σ H Q, t' σ H Q → t σ H Q) : PA X e t' := ⟨fun p pins s σ H Q I q => h.run p pins s σ H Q I (i σ H Q q)⟩
theorem PS_imp {X : Cx} {e : Stmt} {t t' : TS} (h : PS X e t) (i : ∀ D σ H, t' D σ H → t D σ H) : PS X e t' := ⟨fun pins s σ H D I q => h.run pins s σ H D I (i D σ H q)⟩
theorem PSs_imp {X : Cx} {e : List Stmt} {t t' : TS} (h : PSs X e t) (i : ∀ D σ H, t' D σ H → t D σ H) : PSs X e t' := ⟨fun pins s σ H D I q => h.run pins s σ H D I (i D σ H q)⟩
/-- what the layer is told of a def's body: the parameters' addresses that may be written, what is wished of an exception -/
structure Gc where
  K : PySem.W.Frag
  mg : Str → Option Value
  A0 : Ax
  W : WX
def Gc.wx (g : Gc) (n : Xn) (σ : St) (H : Hp) : Prop := ∀ C pd, g.mg n.cls = some (.ref C) → XdAt H pd n.pl → g.W (.ref C) pd σ H
def PostE (g : Gc) (S : Addr → Prop) (H : Hp) (σ : St) (ρ : List B) (r : Rs (Ev × List B)) (Q : VK) : Prop := match r with
  | .ok p => ∀ S' H' v, Tr S H (Ow σ ρ) S' H' (Ow σ p.2) → Rp g.K g.A0 S' H' σ p.2 → RE g.K g.A0 H S' H' σ p.2 v p.1 → Q v H'
  | .ex n ρ' => ∀ S' H', Tr S H (Ow σ ρ) S' H' (Ow σ ρ') → Rp g.K g.A0 S' H' σ ρ' → g.wx n σ H'
  | .bad => False
def tE (g : Gc) (f : SE) : TE := fun σ H Q => ∃ S ρ, Rp g.K g.A0 S H σ ρ ∧ PostE g S H σ ρ (f ρ) Q
def PostT (g : Gc) (S : Addr → Prop) (H : Hp) (σ : St) (ρ : List B) (r : Rs (Bool × List B)) (Q : Bool → Hp → Prop) : Prop := match r with
  | .ok p => ∀ S' H', Tr S H (Ow σ ρ) S' H' (Ow σ p.2) → Rp g.K g.A0 S' H' σ p.2 → Q p.1 H'
  | .ex n ρ' => ∀ S' H', Tr S H (Ow σ ρ) S' H' (Ow σ ρ') → Rp g.K g.A0 S' H' σ ρ' → g.wx n σ H'
  | .bad => False
abbrev SB := List B → Rs (Bool × List B)
def tT (g : Gc) (f : SB) : TT := fun σ H Q => ∃ S ρ, Rp g.K g.A0 S H σ ρ ∧ PostT g S H σ ρ (f ρ) Q
/-- an argument's value: no new object stays alone -/
def RE1 (K : PySem.W.Frag) (S : Addr → Prop) (H : Hp) (σ : St) (v : V) : Ev → Prop
  | .val d => Dr K S H v d
  | .fr _ => False
  | .sl i => σ[i]? = some (some v)
def PostA (g : Gc) (S : Addr → Prop) (H : Hp) (σ : St) (ρ : List B) (r : Rs (List Ev × List B)) (Q : List V → Hp → Prop) : Prop := match r with
  | .ok p => ∀ S' H' vs, Tr S H (Ow σ ρ) S' H' (Ow σ p.2) → Rp g.K g.A0 S' H' σ p.2 → Paired (RE1 g.K S' H' σ) vs p.1 → Q vs H'
  | .ex n ρ' => ∀ S' H', Tr S H (Ow σ ρ) S' H' (Ow σ ρ') → Rp g.K g.A0 S' H' σ ρ' → g.wx n σ H'
  | .bad => False
abbrev SA := List B → Rs (List Ev × List B)
def tA (g : Gc) (f : SA) : TA := fun σ H Q => ∃ S ρ, Rp g.K g.A0 S H σ ρ ∧ PostA g S H σ ρ (f ρ) Q
/-! ### the heap grows -/
section
variable {K : PySem.W.Frag} {A0 : Ax} {S S' S0 : Addr → Prop} {H H' H0 : Hp} {σ σ' : St} {ρ ρ' ρ0 : List B} {O O' O0 : Addr → Prop}
theorem same_alloc {p : Addr} {o : HO} (h : H p = none) : L2.Same H (upd H p o) := fun b x e => by rw [upd_ne (ne_of_none e h)]; exact e
theorem HasO.same (s : L2.Same H H') {a : Addr} {o : HO} (h : HasO H a o) : HasO H' a o := h.imp (fun q => s a _ q) fun ⟨q, od, z⟩ => ⟨q, od, s a _ z⟩
theorem Ex.same (s : L2.Same H H') : Ex S H S H' := ⟨fun _ h => h, fun a o _ _ h => h.same s, fun a xs h => s a _ h, fun a o u h => s a _ h, fun a fs h => s a _ h⟩
theorem Rp.same (r : Rp K A0 S H σ ρ) (s : L2.Same H H') : Rp K A0 S H' σ ρ := by
  refine ⟨r.len, fun i b e => ?_, r.dis, fun a h => let ⟨o, e⟩ := r.al a h; ⟨o, s a o e⟩, r.np, fun j a h => let ⟨o, e⟩ := r.aa j a h; ⟨o, s a o e⟩, r.tb.ext s⟩
  have q := r.bd i b e
  cases b with
  | un => trivial
  | exc n => exact bd_exc (Ex.same s) q
  | val d => obtain ⟨v, e1, e2⟩ := q; exact ⟨v, e1, e2.ex (Ex.same s)⟩
  | own d => obtain ⟨a, e1, e2, e3⟩ := q; exact ⟨a, e1, e2, e3.ex (Ex.same s) fun o => s a o⟩
  | prm d => obtain ⟨a, e1, e0, e2, e3⟩ := q; exact ⟨a, e1, e0, e2, e3.ex (Ex.same s) fun o => s a o⟩
  | ob c fs => exact bd_ob (Ex.same s) q fun a ea => ⟨ea, (r.own ⟨by rw [e]; rfl, ea⟩).1, fun o => s a o⟩
theorem Tr.same (t : Tr S0 H0 O0 S H O) (s : L2.Same H H') : Tr S0 H0 O0 S H' O :=
  ⟨t.s, fun a o h n => (t.keep a o h n).imp (fun q => s a o q) fun q => q.imp (fun ⟨q1, q2, od, q3⟩ => ⟨q1, q2, od, s a _ q3⟩) fun ⟨q1, o', q2, q3⟩ => ⟨q1, o', q2, s a _ q3⟩, fun a o h => let ⟨o', e⟩ := t.dom a o h; ⟨o', s a o' e⟩, t.o, t.g⟩
theorem Tr.grow (s : L2.Same H H') : Tr S H O S H' O := Tr.refl.same s
theorem Dw.ex {v : V} {d : PyData} (e : Ex S H S' H') (k : ∀ a o, H a = some o → H' a = some o) (h : Dw K S H v d) : Dw K S' H' v d := by
  rcases h with h | ⟨a, rfl, h⟩
  · exact .inl (h.ex e)
  · exact .inr ⟨a, rfl, h.ex e fun o => k a o⟩
theorem Rp.alive (r : Rp K A0 S H σ ρ) {a : Addr} (h : Ow σ ρ a) : ∃ o, H a = some o := by
  obtain ⟨i, q⟩ := h
  obtain ⟨o, e, _⟩ := (r.own q).2.ex
  exact ⟨o, e⟩
/-- S grows by one object -/
def Sadd (S : Addr → Prop) (a : Addr) : Addr → Prop := fun b => S b ∨ b = a
theorem Ex.add (a : Addr) : Ex S H (Sadd S a) H := ⟨fun _ h => .inl h, fun _ _ _ _ h => h, fun _ _ h => h, fun _ _ _ h => h, fun _ _ h => h⟩
theorem Rp.add (r : Rp K A0 S H σ ρ) {a : Addr} (ho : ¬ Ow σ ρ a) (h : ∃ o, H a = some o) : Rp K A0 (Sadd S a) H σ ρ := by
  refine ⟨r.len, fun i b e => ?_, r.dis, fun b hb => ?_, r.np, r.aa, r.tb⟩
  · have q := r.bd i b e
    cases b with
    | un => trivial
    | exc n => exact bd_exc (Ex.add a) q
    | val d => obtain ⟨v, e1, e2⟩ := q; exact ⟨v, e1, e2.ex (Ex.add a)⟩
    | own d =>
      obtain ⟨c, e1, e2, e3⟩ := q
      refine ⟨c, e1, fun z => ?_, e3.ex (Ex.add a) fun _ h => h⟩
      rcases z with z | z
      · exact e2 z
      · exact ho (z ▸ ⟨i, by unfold OwI; rw [e]; exact ⟨rfl, e1⟩⟩)
    | prm d =>
      obtain ⟨c, e1, e0, e2, e3⟩ := q
      refine ⟨c, e1, e0, fun z => ?_, e3.ex (Ex.add a) fun _ h => h⟩
      rcases z with z | z
      · exact e2 z
      · exact ho (z ▸ ⟨i, by unfold OwI; rw [e]; exact ⟨rfl, e1⟩⟩)
    | ob c fs =>
      refine bd_ob (Ex.add a) q fun c' ea => ⟨ea, fun z => ?_, fun _ h => h⟩
      have own : OwI σ ρ i c' := ⟨by rw [e]; rfl, ea⟩
      rcases z with z | z
      · exact (r.own own).1 z
      · exact ho (z ▸ ⟨i, own⟩)
  · rcases hb with hb | rfl
    · exact r.al b hb
    · exact h
theorem Tr.add (t : Tr S0 H0 O0 S H O) {a : Addr} (h : H0 a = none ∨ O0 a) : Tr S0 H0 O0 (Sadd S a) H O :=
  ⟨fun b q => .inl (t.s b q), fun b o h n => (t.keep b o h n).imp id fun q => q.imp (fun ⟨q1, q2, q3⟩ => ⟨q1, .inl q2, q3⟩) id, t.dom, t.o, fun b q => by
    rcases q with q | rfl
    · exact t.g b q
    · rcases h with h | h
      · exact .inr (.inr h)
      · exact .inr (.inl h)⟩
theorem RE1.ex {v : V} {e : Ev} (x : Ex S H S' H') (h : RE1 K S H σ v e) : RE1 K S' H' σ v e := by
  cases e with
  | val d => exact Dr.ex x h
  | fr d => exact h
  | sl i => exact h
theorem RE1s.ex {vs : List V} {es : List Ev} (x : Ex S H S' H') (h : Paired (RE1 K S H σ) vs es) : Paired (RE1 K S' H' σ) vs es := Paired.mapP h fun _ _ q => q.ex x
end
/-- a new object is given to all -/
def settle : Ev → Ev
  | .fr d => .val d
  | e => e
theorem settle_ok {K : PySem.W.Frag} {A0 : Ax} {S S0 : Addr → Prop} {H H0 : Hp} {σ : St} {ρ : List B} {O0 : Addr → Prop} {v : V} {e : Ev}
    (t : Tr S0 H0 O0 S H (Ow σ ρ)) (r : Rp K A0 S H σ ρ) (h : RE K A0 H0 S H σ ρ v e) : ∃ S', Tr S0 H0 O0 S' H (Ow σ ρ) ∧ Rp K A0 S' H σ ρ ∧ RE1 K S' H σ v (settle e) ∧ Ex S H S' H := by
  cases e with
  | val d => exact ⟨S, t, r, h, Ex.same fun _ _ e => e⟩
  | sl i => exact ⟨S, t, r, h, Ex.same fun _ _ e => e⟩
  | fr d =>
    obtain ⟨a, rfl, h0, hs, ho, o, e1, e2⟩ := h
    exact ⟨Sadd S a, t.add (.inl h0.1), r.add ho ⟨o, e1⟩, .obj (.inl e1) (.inr rfl) (e2.ex (Ex.add a)), Ex.add a⟩
/-! ### from here to there -/
section
variable {g : Gc} {S S' : Addr → Prop} {H H' : Hp} {σ : St} {ρ ρ' : List B}
theorem PostE.from {r : Rs (Ev × List B)} {Q : VK} (t : Tr S H (Ow σ ρ) S' H' (Ow σ ρ')) (h : PostE g S H σ ρ r Q) : PostE g S' H' σ ρ' r Q := by
  cases r with
  | ok p => exact fun S2 H2 v t2 r2 e2 => h S2 H2 v (t.trans t2) r2 (e2.back fun a q => t.fresh q)
  | ex n ρ2 => exact fun S2 H2 t2 r2 => h S2 H2 (t.trans t2) r2
  | bad => exact h
theorem PostT.from {r : Rs (Bool × List B)} {Q : Bool → Hp → Prop} (t : Tr S H (Ow σ ρ) S' H' (Ow σ ρ')) (h : PostT g S H σ ρ r Q) : PostT g S' H' σ ρ' r Q := by
  cases r with
  | ok p => exact fun S2 H2 t2 r2 => h S2 H2 (t.trans t2) r2
  | ex n ρ2 => exact fun S2 H2 t2 r2 => h S2 H2 (t.trans t2) r2
  | bad => exact h
theorem PostA.from {r : Rs (List Ev × List B)} {Q : List V → Hp → Prop} (t : Tr S H (Ow σ ρ) S' H' (Ow σ ρ')) (h : PostA g S H σ ρ r Q) : PostA g S' H' σ ρ' r Q := by
  cases r with
  | ok p => exact fun S2 H2 vs t2 r2 e2 => h S2 H2 vs (t.trans t2) r2 e2
  | ex n ρ2 => exact fun S2 H2 t2 r2 => h S2 H2 (t.trans t2) r2
  | bad => exact h
/-- an expression, then what hangs on it -/
theorem tE_bind {f : SE} {R : VK} {α : Type} {k : Ev × List B → Rs α} {P : Rs α → Prop} (hex : ∀ n ρ', P (.ex n ρ') → ∀ S' H', Tr S H (Ow σ ρ) S' H' (Ow σ ρ') → Rp g.K g.A0 S' H' σ ρ' → g.wx n σ H') (hbad : ¬ P .bad)
    (r : Rp g.K g.A0 S H σ ρ) (h : P ((f ρ).bind k)) (hk : ∀ p S' H' v, Tr S H (Ow σ ρ) S' H' (Ow σ p.2) → Rp g.K g.A0 S' H' σ p.2 → RE g.K g.A0 H S' H' σ p.2 v p.1 → P (k p) → R v H') : tE g f σ H R := by
  refine ⟨S, ρ, r, ?_⟩
  cases e : f ρ with
  | ok p => rw [e] at h; exact fun S' H' v t r' q => hk p S' H' v t r' q h
  | ex n ρ' => rw [e] at h; exact hex n ρ' h
  | bad => rw [e] at h; exact (hbad h).elim
theorem tT_bind {f : SB} {R : Bool → Hp → Prop} {α : Type} {k : Bool × List B → Rs α} {P : Rs α → Prop} (hex : ∀ n ρ', P (.ex n ρ') → ∀ S' H', Tr S H (Ow σ ρ) S' H' (Ow σ ρ') → Rp g.K g.A0 S' H' σ ρ' → g.wx n σ H') (hbad : ¬ P .bad)
    (r : Rp g.K g.A0 S H σ ρ) (h : P ((f ρ).bind k)) (hk : ∀ p S' H', Tr S H (Ow σ ρ) S' H' (Ow σ p.2) → Rp g.K g.A0 S' H' σ p.2 → P (k p) → R p.1 H') : tT g f σ H R := by
  refine ⟨S, ρ, r, ?_⟩
  cases e : f ρ with
  | ok p => rw [e] at h; exact fun S' H' t r' => hk p S' H' t r' h
  | ex n ρ' => rw [e] at h; exact hex n ρ' h
  | bad => rw [e] at h; exact (hbad h).elim
theorem tA_bind {f : SA} {R : List V → Hp → Prop} {α : Type} {k : List Ev × List B → Rs α} {P : Rs α → Prop} (hex : ∀ n ρ', P (.ex n ρ') → ∀ S' H', Tr S H (Ow σ ρ) S' H' (Ow σ ρ') → Rp g.K g.A0 S' H' σ ρ' → g.wx n σ H') (hbad : ¬ P .bad)
    (r : Rp g.K g.A0 S H σ ρ) (h : P ((f ρ).bind k)) (hk : ∀ p S' H' vs, Tr S H (Ow σ ρ) S' H' (Ow σ p.2) → Rp g.K g.A0 S' H' σ p.2 → Paired (RE1 g.K S' H' σ) vs p.1 → P (k p) → R vs H') : tA g f σ H R := by
  refine ⟨S, ρ, r, ?_⟩
  cases e : f ρ with
  | ok p => rw [e] at h; exact fun S' H' v t r' q => hk p S' H' v t r' q h
  | ex n ρ' => rw [e] at h; exact hex n ρ' h
  | bad => rw [e] at h; exact (hbad h).elim
theorem exE {Q : VK} : ∀ n ρ', PostE g S H σ ρ (.ex n ρ') Q → ∀ S' H', Tr S H (Ow σ ρ) S' H' (Ow σ ρ') → Rp g.K g.A0 S' H' σ ρ' → g.wx n σ H' := fun _ _ h => h
theorem exT {Q : Bool → Hp → Prop} : ∀ n ρ', PostT g S H σ ρ (.ex n ρ') Q → ∀ S' H', Tr S H (Ow σ ρ) S' H' (Ow σ ρ') → Rp g.K g.A0 S' H' σ ρ' → g.wx n σ H' := fun _ _ h => h
theorem exA {Q : List V → Hp → Prop} : ∀ n ρ', PostA g S H σ ρ (.ex n ρ') Q → ∀ S' H', Tr S H (Ow σ ρ) S' H' (Ow σ ρ') → Rp g.K g.A0 S' H' σ ρ' → g.wx n σ H' := fun _ _ h => h
theorem PostE.bad {Q : VK} : ¬ PostE g S H σ ρ .bad Q := fun h => h
theorem PostT.bad {Q : Bool → Hp → Prop} : ¬ PostT g S H σ ρ .bad Q := fun h => h
theorem PostA.bad {Q : List V → Hp → Prop} : ¬ PostA g S H σ ρ .bad Q := fun h => h
end
/-! ### operations on data -/
/-- what an operation may give: a datum (the heap may grow), or a new object -/
def Out (K : PySem.W.Frag) (S : Addr → Prop) (H : Hp) (e : Ev) (Q : VK) : Prop := match e with
  | .val d => ∀ v H', L2.Same H H' → Dr K S H' v d → Q v H'
  | .fr d => ∀ a H', L2.Same H H' → H a = none → OwnAt K S H' a d → Q (.ref a) H'
  | .sl _ => False
theorem Out.ok {g : Gc} {S S0 : Addr → Prop} {H H0 : Hp} {σ : St} {ρ ρ0 : List B} {e : Ev} {Q : VK} (t : Tr S0 H0 (Ow σ ρ0) S H (Ow σ ρ)) (r : Rp g.K g.A0 S H σ ρ) (he : ∀ i, e ≠ .sl i) (h : PostE g S0 H0 σ ρ0 (.ok (e, ρ)) Q) : Out g.K S H e Q := by
  cases e with
  | val d => exact fun v H' s q => h S H' v (t.same s) (r.same s) q
  | fr d =>
    refine fun a H' s hn q => h S H' _ (t.same s) (r.same s) ⟨a, rfl, ⟨t.fresh hn, fun j hj => by obtain ⟨o, e⟩ := r.aa j a hj; rw [hn] at e; cases e⟩, fun z => ?_, fun z => ?_, q⟩
    · obtain ⟨o, e⟩ := r.al a z; rw [hn] at e; cases e
    · obtain ⟨o, e⟩ := r.alive z; rw [hn] at e; cases e
  | sl i => exact (he i rfl).elim
def resE (ρ : List B) : Option Ev → Rs (Ev × List B)
  | some (.val d) => .ok (.val d, ρ)
  | some (.fr d) => .ok (.fr d, ρ)
  | _ => .bad
theorem resE_out {g : Gc} {S S0 : Addr → Prop} {H H0 : Hp} {σ : St} {ρ ρ0 : List B} {o : Option Ev} {Q : VK} (t : Tr S0 H0 (Ow σ ρ0) S H (Ow σ ρ)) (r : Rp g.K g.A0 S H σ ρ) (h : PostE g S0 H0 σ ρ0 (resE ρ o) Q) : ∃ e, o = some e ∧ Out g.K S H e Q := by
  cases o with
  | none => exact h.elim
  | some e =>
    cases e with
    | val d => exact ⟨_, rfl, Out.ok t r (fun _ => nofun) h⟩
    | fr d => exact ⟨_, rfl, Out.ok t r (fun _ => nofun) h⟩
    | sl i => exact h.elim
/-- a two-place operation by data -/
def op2 (b : PyData → PyData → Option Ev) (fa fb : SE) : SE := fun ρ => (fa ρ).bind fun p => (fb p.2).bind fun q => resE q.2 ((peek q.2 p.1).bind fun d1 => (peek q.2 q.1).bind fun d2 => b d1 d2)
def OpD (K : PySem.W.Frag) (r : R2) (b : PyData → PyData → Option Ev) : Prop := ∀ S H x y d1 d2 e Q, Dw K S H x d1 → Dw K S H y d2 → b d1 d2 = some e → Out K S H e Q → r x y H Q
theorem op2_ok {g : Gc} {r : R2} {b : PyData → PyData → Option Ev} {fa fb : SE} (ho : OpD g.K r b) : ∀ σ H Q, tE g (op2 b fa fb) σ H Q → tOp r (tE g fa) (tE g fb) σ H Q := by
  rintro σ H Q ⟨S, ρ, rp, h⟩
  refine tE_bind (P := fun z => PostE g S H σ ρ z Q) exE PostE.bad rp h fun p S1 H1 v1 t1 r1 e1 h => ?_
  refine tE_bind (P := fun z => PostE g S1 H1 σ p.2 z Q) exE PostE.bad r1 (h.from t1) fun q S2 H2 v2 t2 r2 e2 h => ?_
  obtain ⟨e, he, out⟩ := resE_out t2 r2 h
  have e1' := e1.mono r1 t2
  cases p1 : peek q.2 p.1 with
  | none => rw [p1] at he; cases he
  | some d1 =>
    rw [p1] at he
    cases p2 : peek q.2 q.1 with
    | none => rw [p2] at he; cases he
    | some d2 =>
      rw [p2] at he
      exact ho S2 H2 v1 v2 d1 d2 e Q (peek_ok r2 e1' p1) (peek_ok r2 e2 p2) he out
def op1 (b : PyData → Option Ev) (fa : SE) : SE := fun ρ => (fa ρ).bind fun p => resE p.2 ((peek p.2 p.1).bind b)
theorem op1_ok {g : Gc} {r : V → Hp → VK → Prop} {b : PyData → Option Ev} {fa : SE} (ho : ∀ S H x d e Q, Dw g.K S H x d → b d = some e → Out g.K S H e Q → r x H Q) : ∀ σ H Q, tE g (op1 b fa) σ H Q → (tE g fa) σ H fun x H1 => r x H1 Q := by
  rintro σ H Q ⟨S, ρ, rp, h⟩
  refine tE_bind (P := fun z => PostE g S H σ ρ z Q) exE PostE.bad rp h fun p S1 H1 v1 t1 r1 e1 h => ?_
  obtain ⟨e, he, out⟩ := resE_out t1 r1 h
  cases p1 : peek p.2 p.1 with
  | none => rw [p1] at he; cases he
  | some d1 =>
    rw [p1] at he
    exact ho S1 H1 v1 d1 e Q (peek_ok r1 e1 p1) he out
/-- arguments that are looked at -/
def DwAll (K : PySem.W.Frag) (S : Addr → Prop) (H : Hp) : List V → List PyData → Prop := Paired (Dw K S H)
def peeks (ρ : List B) : List Ev → Option (List PyData)
  | [] => some []
  | e :: es => (peek ρ e).bind fun d => (peeks ρ es).map (d :: ·)
theorem RE1.re {K : PySem.W.Frag} {A0 : Ax} {S : Addr → Prop} {H H0 : Hp} {σ : St} {ρ : List B} {v : V} {e : Ev} (h : RE1 K S H σ v e) : RE K A0 H0 S H σ ρ v e := by
  cases e with
  | val d => exact h
  | sl i => exact h
  | fr d => exact h.elim
theorem peeks_ok {K : PySem.W.Frag} {A0 : Ax} {S : Addr → Prop} {H : Hp} {σ : St} {ρ : List B} (r : Rp K A0 S H σ ρ) : ∀ {vs : List V} {es : List Ev} {ds : List PyData}, Paired (RE1 K S H σ) vs es → peeks ρ es = some ds → DwAll K S H vs ds
  | _, _, ds, .nil, h => by cases h; exact .nil
  | _, _, ds, .cons (b := e) (l₂ := es) a t, h => by
    unfold peeks at h
    cases p : peek ρ e with
    | none => rw [p] at h; cases h
    | some d =>
      rw [p] at h
      cases q : peeks ρ es with
      | none => rw [q] at h; cases h
      | some ds' =>
        rw [q] at h; cases h
        exact .cons (peek_ok (H0 := H) r a.re p) (peeks_ok r t q)
/-- a call by data -/
def opN (b : List PyData → Option Ev) (fa : SA) : SE := fun ρ => (fa ρ).bind fun p => resE p.2 ((peeks p.2 p.1).bind b)
def CallD (K : PySem.W.Frag) (r : List V → Hp → VK → Prop) (b : List PyData → Option Ev) : Prop := ∀ S H xs ds e Q, DwAll K S H xs ds → b ds = some e → Out K S H e Q → r xs H Q
theorem opN_ok {g : Gc} {r : List V → Hp → VK → Prop} {b : List PyData → Option Ev} {fa : SA} (ho : CallD g.K r b) : ∀ σ H Q, tE g (opN b fa) σ H Q → tCB r (tA g fa) σ H Q := by
  rintro σ H Q ⟨S, ρ, rp, h⟩
  refine tA_bind (P := fun z => PostE g S H σ ρ z Q) exE PostE.bad rp h fun p S1 H1 vs t1 r1 e1 h => ?_
  obtain ⟨e, he, out⟩ := resE_out t1 r1 h
  cases p1 : peeks p.2 p.1 with
  | none => rw [p1] at he; cases he
  | some ds =>
    rw [p1] at he
    exact ho S1 H1 vs ds e Q (peeks_ok r1 e1 p1) he out
/-! ### names, constants -/
section
variable {X : Cx} {A0 : Ax} {W : WX}
abbrev gc (X : Cx) (A0 : Ax) (W : WX) : Gc := ⟨X.K, X.mg, A0, W⟩
def fV (i : Nat) : SE := fun ρ => match ρ[i]? with
  | some (.val d) => .ok (.val d, ρ)
  | some (.own _) => .ok (.sl i, ρ)
  | some (.prm _) => .ok (.sl i, ρ)
  | some (.exc _) => .ok (.sl i, ρ)
  | _ => .bad
theorem fV_ok {g : Gc} {i : Nat} : ∀ σ H Q, tE g (fV i) σ H Q → tVar i σ H Q := by
  rintro σ H Q ⟨S, ρ, r, h⟩
  unfold fV at h
  cases e : ρ[i]? with
  | none => rw [e] at h; exact h.elim
  | some b =>
    rw [e] at h
    have q := r.bd i b e
    cases b with
    | un => exact h.elim
    | exc n => exact ⟨_, q.2.1, h S H _ Tr.refl r q.2.1⟩
    | val d => obtain ⟨v, e1, e2⟩ := q; exact ⟨v, e1, h S H v Tr.refl r e2⟩
    | own d => obtain ⟨a, e1, _⟩ := q; exact ⟨_, e1, h S H _ Tr.refl r e1⟩
    | prm d => obtain ⟨a, e1, _⟩ := q; exact ⟨_, e1, h S H _ Tr.refl r e1⟩
    | ob c fs => exact h.elim
theorem gv (i : Nat) {x : Str} {pos : Pos} (hN : X.N[i]? = some x := by rfl) (hv : Vis X.env.scope x := by first | exact Or.inl rfl | exact Or.inr (Or.inl rfl) | exact Or.inr (Or.inr rfl)) (hd : (x == ("__debug__" : Str)) = false := by decide)
    (hcd : (x == ("__classdict__" : Str)) = false := by decide) : PE X (.Name x pos) (tE (gc X A0 W) (fV i)) := PE_imp (pe_var hN hv hd hcd) fV_ok
def fC (d : PyData) : SE := fun ρ => .ok (.val d, ρ)
theorem fC_ok {g : Gc} {v : V} {d : PyData} (hd : ∀ S H, Dr g.K S H v d) : ∀ σ H Q, tE g (fC d) σ H Q → tC v σ H Q := fun σ H Q ⟨S, ρ, r, h⟩ => h S H v Tr.refl r (hd S H)
theorem gint {i j pos} : PE X (.Constant (.int i) j pos) (tE (gc X A0 W) (fC (.int i))) := PE_imp pe_int (fC_ok fun _ _ => .int i)
theorem gbl {b j pos} : PE X (.Constant (.bool b) j pos) (tE (gc X A0 W) (fC (.bool b))) := PE_imp pe_bl (fC_ok fun _ _ => .bl b)
/-- a constant of the module -/
def KD (K : PySem.W.Frag) (u : Value) (d : PyData) : Prop := ∃ v, RelV v u ∧ ∀ S H, Dr K S H v d
theorem gglob {x : Str} {u : Value} {d : PyData} {pos : Pos} (hm : X.mg x = some u) (k : KD X.K u d) (hg : Gl X x := by rfl) (hd : (x == ("__debug__" : Str)) = false := by decide) : PE X (.Name x pos) (tE (gc X A0 W) (fC d)) := by
  obtain ⟨v, r, q⟩ := k
  exact PE_imp (pe_glob hg hm r hd) (fC_ok q)
end
end G
namespace G
open PySem PySem.Spec PyProof.Rows L2
/-! ### numbers -/
def smallI (i : Int) : Bool := decide (-18446744073709551616 < i) && decide (i < 18446744073709551616)
def mulOk (i j : Int) : Bool := smallI i || smallI j || decide (i.natAbs.log2 + j.natAbs.log2 < 1000000)
def divOk (j : Int) : Bool := decide (j ≠ 0) && (decide (j.natAbs < 1073741824) || decide (j.natAbs.log2 < 9000))
def CDivA (_ j : Int) : Prop := j ≠ 0 ∧ j.natAbs.log2 < 9000
theorem op_fdivA {X : Cx} : OpR X (binaryOp .FloorDiv) (rI CDivA fun i j => .int (i.fdiv j)) := opI fun _ _ _ _ _ _ _ hc q => floordiv_int hc.1 q (.inl (PyProof.noPylong_of_log2 hc.2))
def addD : PyData → PyData → Option Ev
  | .int i, .int j => some (.val (.int (i + j)))
  | .str a, .str b => if a.length + b.length ≤ sizeLine then some (.val (.str (a ++ b))) else none
  | .tuple xs, .tuple ys => if xs.length + ys.length ≤ sizeLine then some (.val (.tuple (xs ++ ys))) else none
  | .list xs, .list ys => if xs.length + ys.length ≤ sizeLine then some (.fr (.list (xs ++ ys))) else none
  | _, _ => none
def subD : PyData → PyData → Option Ev
  | .int i, .int j => some (.val (.int (i - j)))
  | _, _ => none
def mulD : PyData → PyData → Option Ev
  | .int i, .int j => if mulOk i j = true then some (.val (.int (i * j))) else none
  | _, _ => none
def fdivD : PyData → PyData → Option Ev
  | .int i, .int j => if divOk j = true then some (.val (.int (i.fdiv j))) else none
  | _, _ => none
def modD : PyData → PyData → Option Ev
  | .int i, .int j => if j = 0 then none else some (.val (.int (i.fmod j)))
  | _, _ => none
def powD : PyData → PyData → Option Ev
  | .int i, .int j => if 0 ≤ j ∧ j ≤ 1000000 ∧ i.natAbs < 18446744073709551616 then some (.val (.int (i ^ j.toNat))) else none
  | _, _ => none
section
variable {K : PySem.W.Frag}
theorem outInt {S : Addr → Prop} {H : Hp} {Q : VK} {i : Int} (h : Out K S H (.val (.int i)) Q) : Q (.int i) H := h _ H (fun _ _ e => e) (.int i)
theorem outBl {S : Addr → Prop} {H : Hp} {Q : VK} {i : Bool} (h : Out K S H (.val (.bool i)) Q) : Q (.bl i) H := h _ H (fun _ _ e => e) (.bl i)
theorem outStr {S : Addr → Prop} {H : Hp} {Q : VK} {i : Str} (h : Out K S H (.val (.str i)) Q) : Q (.str i) H := h _ H (fun _ _ e => e) (.str i)
theorem outTup {S : Addr → Prop} {H : Hp} {Q : VK} {ds : List PyData} {xs : List V} (r : DrAll K S H xs ds) (h : Out K S H (.val (.tuple ds)) Q) : ∀ p, H p = none → Q (.ref p) (upd H p (.tup xs)) := fun p hp =>
  h _ _ (same_alloc hp) (.tup (.inl (.inl upd_same)) (r.ex (Ex.same (same_alloc hp))))
theorem outLst {S : Addr → Prop} {H : Hp} {Q : VK} {ds : List PyData} {xs : List V} (r : DrAll K S H xs ds) (h : Out K S H (.fr (.list ds)) Q) : ∀ p, H p = none → Q (.ref p) (upd H p (.lst xs)) := fun p hp =>
  h _ _ (same_alloc hp) hp ⟨_, upd_same, .lst (r.ex (Ex.same (same_alloc hp)))⟩
end
section
variable {X : Cx} {A0 : Ax} {W : WX} {a b : Expr} {fa fb : SE} {pos : Pos}
theorem gop {op : Operator} {r : R2} {bd : PyData → PyData → Option Ev} (ho : OpR X (binaryOp op) r) (hd : OpD X.K r bd) (ha : PE X a (tE (gc X A0 W) fa)) (hb : PE X b (tE (gc X A0 W) fb)) : PE X (.BinOp a op b pos) (tE (gc X A0 W) (op2 bd fa fb)) :=
  PE_imp (pe_op ho ha hb) (op2_ok hd)
/-- list + list, any that is read -/
def rCatL (K : PySem.W.Frag) : R2 := fun x y H Q => ∃ l b xs zs, x = .ref l ∧ y = .ref b ∧ LstX K H l xs ∧ LstX K H b zs ∧ xs.length + zs.length ≤ sizeLine ∧ ∀ p, H p = none → Q (.ref p) (upd H p (.lst (xs ++ zs)))
theorem intD {C : Int → Int → Prop} {gI : Int → Int → Int} {bd : PyData → PyData → Option Ev} (h : ∀ d1 d2 e, bd d1 d2 = some e → ∃ i j, d1 = .int i ∧ d2 = .int j ∧ C i j ∧ e = .val (.int (gI i j))) {K : PySem.W.Frag} : OpD K (rI C fun i j => .int (gI i j)) bd := by
  intro S H x y d1 d2 e Q h1 h2 he out
  obtain ⟨i, j, rfl, rfl, c, rfl⟩ := h d1 d2 e he
  exact ⟨i, j, h1.int, h2.int, c, outInt out⟩
theorem intD0 {gI : Int → Int → Int} {bd : PyData → PyData → Option Ev} (h : ∀ d1 d2 e, bd d1 d2 = some e → ∃ i j, d1 = .int i ∧ d2 = .int j ∧ e = .val (.int (gI i j))) {K : PySem.W.Frag} : OpD K (rI0 fun i j => .int (gI i j)) bd := by
  intro S H x y d1 d2 e Q h1 h2 he out
  obtain ⟨i, j, rfl, rfl, rfl⟩ := h d1 d2 e he
  exact ⟨i, j, h1.int, h2.int, outInt out⟩
theorem gsub (ha : PE X a (tE (gc X A0 W) fa)) (hb : PE X b (tE (gc X A0 W) fb)) : PE X (.BinOp a .Sub b pos) (tE (gc X A0 W) (op2 subD fa fb)) :=
  gop op_sub (intD0 (gI := fun i j => i - j) fun d1 d2 e h => by
    cases d1 <;> cases d2 <;> simp only [subD, reduceCtorEq] at h
    cases h; exact ⟨_, _, rfl, rfl, rfl⟩) ha hb
theorem smallI_ok {i : Int} (h : smallI i = true) : -(2 ^ 64) < i ∧ i < 2 ^ 64 := by
  simp only [smallI, Bool.and_eq_true, decide_eq_true_eq] at h
  have : (2 : Int) ^ 64 = 18446744073709551616 := by decide
  omega
theorem gmul (ha : PE X a (tE (gc X A0 W) fa)) (hb : PE X b (tE (gc X A0 W) fb)) : PE X (.BinOp a .Mult b pos) (tE (gc X A0 W) (op2 mulD fa fb)) :=
  gop (r := fun x y H Q => rI CMul (fun i j => .int (i * j)) x y H Q ∨ rI CMulW (fun i j => .int (i * j)) x y H Q) (op_mul.or op_mulW) (fun S H x y d1 d2 e Q h1 h2 he out => by
    cases d1 <;> cases d2 <;> simp only [mulD, reduceCtorEq] at he
    rename_i i j
    split at he
    · rename_i hc
      cases he
      simp only [mulOk, Bool.or_eq_true, decide_eq_true_eq] at hc
      rcases hc with (hc | hc) | hc
      · exact .inl ⟨i, j, h1.int, h2.int, .inl (smallI_ok hc), outInt out⟩
      · exact .inl ⟨i, j, h1.int, h2.int, .inr (smallI_ok hc), outInt out⟩
      · exact .inr ⟨i, j, h1.int, h2.int, hc, outInt out⟩
    · cases he) ha hb
theorem gfdiv (ha : PE X a (tE (gc X A0 W) fa)) (hb : PE X b (tE (gc X A0 W) fb)) : PE X (.BinOp a .FloorDiv b pos) (tE (gc X A0 W) (op2 fdivD fa fb)) :=
  gop (r := fun x y H Q => rI CDivN (fun i j => .int (i.fdiv j)) x y H Q ∨ rI CDivA (fun i j => .int (i.fdiv j)) x y H Q) (op_fdivN.or op_fdivA) (fun S H x y d1 d2 e Q h1 h2 he out => by
    cases d1 <;> cases d2 <;> simp only [fdivD, reduceCtorEq] at he
    rename_i i j
    split at he
    · rename_i hc
      cases he
      simp only [divOk, Bool.and_eq_true, Bool.or_eq_true, decide_eq_true_eq] at hc
      obtain ⟨h0, hc | hc⟩ := hc
      · exact .inl ⟨i, j, h1.int, h2.int, ⟨h0, hc⟩, outInt out⟩
      · exact .inr ⟨i, j, h1.int, h2.int, ⟨h0, hc⟩, outInt out⟩
    · cases he) ha hb
theorem gmod (ha : PE X a (tE (gc X A0 W) fa)) (hb : PE X b (tE (gc X A0 W) fb)) : PE X (.BinOp a .Mod b pos) (tE (gc X A0 W) (op2 modD fa fb)) :=
  gop op_modN (intD (C := fun _ j => j ≠ 0) (gI := fun i j => i.fmod j) fun d1 d2 e h => by
    cases d1 <;> cases d2 <;> simp only [modD, reduceCtorEq] at h
    rename_i i j
    split at h
    · cases h
    · rename_i hj; cases h; exact ⟨_, _, rfl, rfl, hj, rfl⟩) ha hb
theorem gpow (ha : PE X a (tE (gc X A0 W) fa)) (hb : PE X b (tE (gc X A0 W) fb)) : PE X (.BinOp a .Pow b pos) (tE (gc X A0 W) (op2 powD fa fb)) :=
  gop op_pow (intD (C := CPow) (gI := fun i j => i ^ j.toNat) fun d1 d2 e h => by
    cases d1 <;> cases d2 <;> simp only [powD, reduceCtorEq] at h
    rename_i i j
    split at h
    · rename_i hj; cases h; exact ⟨_, _, rfl, rfl, ⟨hj.1, hj.2.1, by have : (2 : Nat) ^ 64 = 18446744073709551616 := by decide
                                                                     rw [this]; exact hj.2.2⟩, rfl⟩
    · cases h) ha hb
theorem op_catL : OpR X (binaryOp .Add) (rCatL X.K) := by
  intro pins s σ H x y v u Q I rx ry h
  obtain ⟨l, b, xs, zs, rfl, rfl, h1, h2, hz, q⟩ := h
  cases rx
  cases ry
  obtain ⟨its, n, r, e, z⟩ := h1.at_ I
  obtain ⟨its2, n2, r2, e2, z2⟩ := h2.at_ I
  have l1 := r.length
  have l2 := r2.length
  refine PySem.P.add_list e e2 ?_ (by rw [List.size_toArray, List.size_toArray]; omega)
  have ea : its.toArray ++ its2.toArray = (its ++ its2).toArray := by simp
  rw [ea]
  exact ⟨.ref _, _, I.lnew (t' := s.toks) (r.append r2) (by rw [List.length_append]; omega), rfl, q _ I.fresh⟩
def rAddX (K : PySem.W.Frag) : R2 := fun x y H Q => rI0 (fun i j => .int (i + j)) x y H Q ∨ (∃ i j, x = .str i ∧ y = .str j ∧ i.length + j.length ≤ sizeLine ∧ Q (.str (i ++ j)) H) ∨ rCatA K x y H Q ∨ rCatL K x y H Q
theorem op_addX : OpR X (binaryOp .Add) (rAddX X.K) := op_add.or (op_add_str.or (op_catA.or op_catL))
theorem addX_ok {K : PySem.W.Frag} : OpD K (rAddX K) addD := by
  intro S H x y d1 d2 e Q h1 h2 he out
  cases d1 <;> cases d2 <;> simp only [addD, reduceCtorEq] at he
  · cases he; exact .inl ⟨_, _, h1.int, h2.int, outInt out⟩
  · split at he
    · rename_i hc
      cases he; exact .inr (.inl ⟨_, _, h1.str, h2.str, hc, outStr out⟩)
    · cases he
  · split at he
    · rename_i hc
      cases he
      obtain ⟨a, xs, rfl, q1, r1⟩ := h1.lst
      obtain ⟨b, ys, rfl, q2, r2⟩ := h2.lst
      exact .inr (.inr (.inr ⟨a, b, xs, ys, rfl, rfl, q1, q2, by rw [r1.length, r2.length]; exact hc, outLst (r1.append r2) out⟩))
    · cases he
  · split at he
    · rename_i hc
      cases he
      obtain ⟨a, xs, rfl, q1, r1⟩ := h1.tup
      obtain ⟨b, ys, rfl, q2, r2⟩ := h2.tup
      refine .inr (.inr (.inl ⟨a, b, xs, ys, rfl, rfl, q1, q2, by rw [r1.length, r2.length]; exact hc, fun z => ?_, fun _ z => ?_, fun _ _ => outTup (r1.append r2) out⟩))
      · subst z
        exact out _ H (fun _ _ e => e) (.tup q2 (r1.append r2))
      · subst z
        have := r1.append r2
        rw [List.append_nil] at this
        exact out _ H (fun _ _ e => e) (.tup q1 this)
    · cases he
theorem gadd (ha : PE X a (tE (gc X A0 W) fa)) (hb : PE X b (tE (gc X A0 W) fb)) : PE X (.BinOp a .Add b pos) (tE (gc X A0 W) (op2 addD fa fb)) := gop op_addX addX_ok ha hb
/-! ### comparisons -/
def cmpI (c : Int → Int → Bool) : PyData → PyData → Option Ev
  | .int i, .int j => some (.val (.bool (c i j)))
  | _, _ => none
def str2 : PyData → PyData → Bool
  | .str _, .str _ => true
  | _, _ => false
def eqD : PyData → PyData → Option Ev := fun x y => if (str2 x y || (SeqAt.shaped x && SeqAt.shaped y)) = true then some (.val (.bool (PyData.eqv x y))) else none
def neD : PyData → PyData → Option Ev := fun x y => if (str2 x y || (SeqAt.shaped x && SeqAt.shaped y)) = true then some (.val (.bool (!PyData.eqv x y))) else none
def itemsD : PyData → Option (List PyData)
  | .list ds => some ds
  | .tuple ds => some ds
  | _ => none
def inD : PyData → PyData → Option Ev := fun x y => (itemsD y).bind fun ds => if (SeqAt.shaped x && SeqAt.shaped y) = true then some (.val (.bool (ds.any fun z => PyData.eqv z x))) else none
def ninD : PyData → PyData → Option Ev := fun x y => (itemsD y).bind fun ds => if (SeqAt.shaped x && SeqAt.shaped y) = true then some (.val (.bool (!ds.any fun z => PyData.eqv z x))) else none
def isNoneD : PyData → Bool
  | .none => true
  | _ => false
def isD : PyData → PyData → Option Ev
  | .bool a, .bool b => some (.val (.bool (decide (a = b))))
  | x, .none => some (.val (.bool (isNoneD x)))
  | _, _ => none
def isnD : PyData → PyData → Option Ev
  | .bool a, .bool b => some (.val (.bool (!decide (a = b))))
  | x, .none => some (.val (.bool (!isNoneD x)))
  | _, _ => none
theorem cmpI_ok {K : PySem.W.Frag} {c : Int → Int → Bool} : OpD K (rI0 fun i j => .bl (c i j)) (cmpI c) := by
  intro S H x y d1 d2 e Q h1 h2 he out
  cases d1 <;> cases d2 <;> simp only [cmpI, reduceCtorEq] at he
  cases he; exact ⟨_, _, h1.int, h2.int, outBl out⟩
theorem shaped_lay {d : PyData} (h : SeqAt.shaped d = true) : d.canLay0 = true := SeqAt.canLay_of_shaped h
def rEqU (K : PySem.W.Frag) : R2 := fun x y H Q => rEq x y H Q ∨ rEqD K x y H Q
def rNeU (K : PySem.W.Frag) : R2 := fun x y H Q => rNe x y H Q ∨ rNeD K x y H Q
theorem op_eqU {X : Cx} (hu : X.A.units + 64 < cLine) : OpR X (compareOp .Eq) (rEqU X.K) := op_eq.or (op_eqD hu)
theorem op_neU {X : Cx} (hu : X.A.units + 64 < cLine) : OpR X (compareOp .NotEq) (rNeU X.K) := op_ne.or (op_neD hu)
theorem str2_ok {K : PySem.W.Frag} {S : Addr → Prop} {H : Hp} {x y : V} {d1 d2 : PyData} (h1 : Dw K S H x d1) (h2 : Dw K S H y d2) (h : str2 d1 d2 = true) : scal x y = true ∧ decide (x = y) = PyData.eqv d1 d2 := by
  cases d1 <;> cases d2 <;> simp only [str2, Bool.false_eq_true] at h
  have e1 := h1.str
  have e2 := h2.str
  subst e1 e2
  exact ⟨rfl, dec_str⟩
theorem eqD_ok {K : PySem.W.Frag} : OpD K (rEqU K) eqD := by
  intro S H x y d1 d2 e Q h1 h2 he out
  unfold eqD at he
  split at he
  · rename_i hc
    cases he
    rcases Bool.or_eq_true_iff.mp hc with hc | hc
    · obtain ⟨e1, e2⟩ := str2_ok h1 h2 hc
      exact .inl ⟨e1, by rw [e2]; exact outBl out⟩
    · simp only [Bool.and_eq_true] at hc
      exact .inr ⟨d1, d2, h1.dp (shaped_lay hc.1), h2.dp (shaped_lay hc.2), hc.1, hc.2, outBl out⟩
  · cases he
theorem neD_ok {K : PySem.W.Frag} : OpD K (rNeU K) neD := by
  intro S H x y d1 d2 e Q h1 h2 he out
  unfold neD at he
  split at he
  · rename_i hc
    cases he
    rcases Bool.or_eq_true_iff.mp hc with hc | hc
    · obtain ⟨e1, e2⟩ := str2_ok h1 h2 hc
      exact .inl ⟨e1, by rw [e2]; exact outBl out⟩
    · simp only [Bool.and_eq_true] at hc
      exact .inr ⟨d1, d2, h1.dp (shaped_lay hc.1), h2.dp (shaped_lay hc.2), hc.1, hc.2, outBl out⟩
  · cases he
/-- in, not in, of a tuple -/
def rInT (K : PySem.W.Frag) : R2 := fun x y H Q => ∃ d ds, Dp K H x d ∧ Dp K H y (.tuple ds) ∧ SeqAt.shaped d = true ∧ SeqAt.shaped (.tuple ds) = true ∧ Q (.bl (ds.any fun z => PyData.eqv z d)) H
end
end G
/-! dicts whose keys are ints or texts -/
namespace G
open PySem PySem.Spec PyProof.Rows L2
def keyOf : PyData → Option Key
  | .int i => some (.inl i)
  | .str x => some (.inr x)
  | _ => none
theorem keyOf_kD (k : Key) : keyOf (kD k) = some k := by cases k <;> rfl
theorem Dw.key {K : PySem.W.Frag} {S : Addr → Prop} {H : Hp} {v : V} {d : PyData} {k : Key} (h : Dw K S H v d) (e : keyOf d = some k) : v = kV k := by
  cases d with
  | int i => cases e; exact h.int
  | str x => cases e; exact h.str
  | _ => cases e
/-- the datum at a key -/
def dget : List (PyData × PyData) → Key → Option PyData
  | [], _ => none
  | (k, d) :: r, q => if keyOf k = some q then some d else dget r q
/-- all keys are ints or texts, and there is one -/
def keyed : List (PyData × PyData) → Bool
  | [] => false
  | (k, _) :: _ => (keyOf k).isSome
theorem Dw.dic {K : PySem.W.Frag} {S : Addr → Prop} {H : Hp} {v : V} {kvs : List (PyData × PyData)} (h : Dw K S H v (.dict kvs)) : ∃ a o, v = .ref a ∧ HasO H a o ∧ Ct K S H o (.dict kvs) := by
  rcases h with h | ⟨a, rfl, o, h1, h2⟩
  · generalize hd : PyData.dict kvs = D at h
    cases h with
    | obj h1 _ c => subst hd; exact ⟨_, _, rfl, h1, c⟩
    | _ => cases hd
  · exact ⟨a, o, rfl, .inl h1, h2⟩
theorem Ct.key {K : PySem.W.Frag} {S : Addr → Prop} {H : Hp} {o : HO} {kvs : List (PyData × PyData)} (h : Ct K S H o (.dict kvs)) (hk : keyed kvs = true) : ∃ (ks : List (Key × V)) (ds : List PyData), o = .dK ks ∧ DrAll K S H (ks.map (·.2)) ds ∧ kvs = (ks.map fun p => kD p.1).zip ds := by
  generalize hd : PyData.dict kvs = D at h
  cases h with
  | lst _ => cases hd
  | dK c => cases hd; exact ⟨_, _, rfl, c, rfl⟩
  | dX _ _ c =>
    rename_i xs vs ds _ _
    cases hd
    cases xs with
    | nil => simp [keyed] at hk
    | cons p r =>
      cases ds with
      | nil => simp [keyed] at hk
      | cons d r => simp [keyed, keyOf] at hk
theorem HasO.rd {H : Hp} {a : Addr} {ks : List (Key × V)} (h : HasO H a (.dK ks)) : Rd H a (.dK ks) := by
  rcases h with h | ⟨_, od, h⟩
  · exact .inl h
  · exact .inr ⟨od, h⟩
theorem dget_val {K : PySem.W.Frag} {S : Addr → Prop} {H : Hp} (q : Key) : ∀ {ks : List (Key × V)} {ds : List PyData}, DrAll K S H (ks.map (·.2)) ds →
    (∀ d, dget ((ks.map fun p => kD p.1).zip ds) q = some d → ∃ v, valV ks q = some v ∧ Dr K S H v d) ∧ (dget ((ks.map fun p => kD p.1).zip ds) q = none → valV ks q = none)
  | [], ds, h => by
    cases h
    exact ⟨fun d e => (by cases e), fun _ => rfl⟩
  | (k, v) :: ks, _, .cons (d := d) (ds := ds) h1 h2 => by
    obtain ⟨ih1, ih2⟩ := dget_val q h2
    refine ⟨fun d' e => ?_, fun e => ?_⟩
    · simp only [List.map_cons, List.zip_cons_cons, dget, keyOf_kD, Option.some.injEq] at e
      by_cases hk : k = q
      · rw [if_pos hk] at e
        cases e
        exact ⟨v, valV_pos hk, h1⟩
      · rw [if_neg hk] at e
        obtain ⟨u, e1, e2⟩ := ih1 d' e
        exact ⟨u, by rw [valV_neg hk]; exact e1, e2⟩
    · simp only [List.map_cons, List.zip_cons_cons, dget, keyOf_kD, Option.some.injEq] at e
      by_cases hk : k = q
      · rw [if_pos hk] at e; cases e
      · rw [if_neg hk] at e
        rw [valV_neg hk]
        exact ih2 e
theorem dget_keyX {q : Key} {d : PyData} : ∀ {ks : List KX} {ds : List PyData}, dget ((ks.map fun p => PyData.tuple (p.1.map PyData.int)).zip ds) q ≠ some d
  | [], _, h => by cases h
  | _ :: ks, [], h => by cases h
  | _ :: ks, _ :: ds, h => by
    simp only [List.map_cons, List.zip_cons_cons, dget, keyOf, reduceCtorEq, if_false] at h
    exact dget_keyX h
/-- d[k], k there -/
theorem Dw.get {K : PySem.W.Frag} {S : Addr → Prop} {H : Hp} {x y : V} {kvs : List (PyData × PyData)} {k d : PyData} {q : Key} (h : Dw K S H x (.dict kvs)) (hk : Dw K S H y k) (hq : keyOf k = some q) (hd : dget kvs q = some d) : ∃ a v, x = .ref a ∧ DGet H a y (some v) ∧ Dr K S H v d := by
  obtain ⟨a, o, rfl, ho, c⟩ := h.dic
  generalize hD : PyData.dict kvs = D at c
  cases c with
  | lst _ => cases hD
  | dK c =>
    cases hD
    obtain ⟨v, e1, e2⟩ := (dget_val q c).1 d hd
    exact ⟨a, v, rfl, .inl ⟨_, q, ho.rd, hk.key hq, e1.symm⟩, e2⟩
  | dX _ _ c =>
    cases hD
    exact (dget_keyX hd).elim
def rIxG : R2 := fun x y H Q => ∃ a v, x = .ref a ∧ DGet H a y (some v) ∧ Q v H
section
variable {X : Cx}
theorem ix_dict (hu : X.A.units + 1 < cLine) : IxR X rIxG := by
  intro value slice pins s σ H x y v u Q I rx ry h hs
  obtain ⟨a, r, rfl, g, q⟩ := h
  obtain rfl : v = Value.ref a := rx
  exact tail_any (dict_typeIs I g) PySem.F.slot_dict_getitem.lookup (d_getItem hu I g ry fun w' s3 I3 rw' => ⟨r, H, I3, rw', q⟩) hs
end
/-- the dict with d at the key -/
def dput (kvs : List (PyData × PyData)) (q : Key) (d : PyData) : List (PyData × PyData) := if (dget kvs q).isSome = true then kvs.map (fun p => if keyOf p.1 = some q then (p.1, d) else p) else kvs ++ [(kD q, d)]
theorem map_put {K : PySem.W.Frag} {S : Addr → Prop} {H : Hp} {q : Key} {v : V} {d : PyData} (r : Dr K S H v d) : ∀ {ks : List (Key × V)} {ds : List PyData}, DrAll K S H (ks.map (·.2)) ds →
    ∃ ds', DrAll K S H ((ks.map fun kv => if kv.1 = q then (kv.1, v) else kv).map (·.2)) ds' ∧ ((ks.map fun kv => if kv.1 = q then (kv.1, v) else kv).map fun p => kD p.1).zip ds' = (((ks.map fun p => kD p.1).zip ds).map fun p => if keyOf p.1 = some q then (p.1, d) else p)
  | [], _, h => by cases h; exact ⟨[], .nil, rfl⟩
  | (k, u) :: ks, _, .cons (d := e) (ds := ds) h1 h2 => by
    obtain ⟨ds', a, b⟩ := map_put r h2
    by_cases hk : k = q
    · refine ⟨d :: ds', ?_, ?_⟩
      · simp only [List.map_cons, if_pos hk]
        exact .cons r a
      · simp only [List.map_cons, List.zip_cons_cons, if_pos hk, keyOf_kD, Option.some.injEq]
        rw [b]
    · refine ⟨e :: ds', ?_, ?_⟩
      · simp only [List.map_cons, if_neg hk]
        exact .cons h1 a
      · simp only [List.map_cons, List.zip_cons_cons, if_neg hk, keyOf_kD, Option.some.injEq]
        rw [b]
theorem putK_ok {K : PySem.W.Frag} {S : Addr → Prop} {H : Hp} {q : Key} {v : V} {d : PyData} {ks : List (Key × V)} {ds : List PyData} (c : DrAll K S H (ks.map (·.2)) ds) (r : Dr K S H v d) :
    ∃ ds', DrAll K S H ((putK ks q v).map (·.2)) ds' ∧ ((putK ks q v).map fun p => kD p.1).zip ds' = dput ((ks.map fun p => kD p.1).zip ds) q d := by
  obtain ⟨g1, g2⟩ := dget_val q c
  have hl : ks.length = ds.length := by have := c.length; simpa using this
  unfold putK dput
  cases e : dget ((ks.map fun p => kD p.1).zip ds) q with
  | none =>
    have := g2 e
    rw [valV_any, this]
    simp only [Option.isSome_none, Bool.false_eq_true, if_false]
    refine ⟨ds ++ [d], ?_, ?_⟩
    · rw [List.map_append]
      exact c.append (.cons r .nil)
    · rw [List.map_append, List.zip_append (by simp [hl])]
      rfl
  | some d0 =>
    obtain ⟨u, e1, _⟩ := g1 d0 e
    rw [valV_any, e1]
    simp only [Option.isSome_some, if_true]
    exact map_put r c
end G
namespace G
open PySem PySem.Spec PyProof.Rows L2
section
variable {X : Cx} {A0 : Ax} {W : WX} {a b c e : Expr} {fa fb fc f : SE} {pos : Pos}
theorem op_inT (hu : X.A.units + 65 < cLine) : OpR X (compareOp .In) (rInT X.K) := by
  intro pins s σ H x y v u Q I rx ry h
  obtain ⟨d, ds, hd, he, sd, se, q⟩ := h
  obtain ⟨as, r1⟩ := Dp.reads I d x v hd rx
  obtain ⟨bs, r2⟩ := Dp.reads I (.tuple ds) y u he ry
  exact SeqAt.in_tuple_reads r2 r1 (SeqAt.canLay_of_shaped se) (SeqAt.canLay_of_shaped sd) (room_in_shaped sd hu) ⟨.bl _, H, I, rfl, q⟩
theorem inD_ok {K : PySem.W.Frag} : OpD K (fun x y H Q => rInD K x y H Q ∨ rInT K x y H Q) inD := by
  intro S H x y d1 d2 e Q h1 h2 he out
  unfold inD at he
  cases d2 <;> simp only [itemsD, Option.bind_none, Option.bind_some, reduceCtorEq] at he
  · split at he
    · rename_i ds hc
      simp only [Bool.and_eq_true] at hc
      cases he
      exact .inl ⟨d1, ds, h1.dp (shaped_lay hc.1), h2.dp (shaped_lay hc.2), hc.1, hc.2, outBl out⟩
    · cases he
  · split at he
    · rename_i ds hc
      simp only [Bool.and_eq_true] at hc
      cases he
      exact .inr ⟨d1, ds, h1.dp (shaped_lay hc.1), h2.dp (shaped_lay hc.2), hc.1, hc.2, outBl out⟩
    · cases he
theorem gcmp {op : CmpOp} {r : R2} {bd : PyData → PyData → Option Ev} (ho : OpR X (compareOp op) r) (hd : OpD X.K r bd) (ha : PE X a (tE (gc X A0 W) fa)) (hb : PE X b (tE (gc X A0 W) fb)) (hm : behindInMarks op b = false) :
    PE X (.Compare a [op] [b] pos) (tE (gc X A0 W) (op2 bd fa fb)) := PE_imp (pe_cmpR ho ha hb hm) (op2_ok hd)
theorem gle (ha : PE X a (tE (gc X A0 W) fa)) (hb : PE X b (tE (gc X A0 W) fb)) : PE X (.Compare a [.LtE] [b] pos) (tE (gc X A0 W) (op2 (cmpI fun i j => decide (i ≤ j)) fa fb)) := gcmp op_le cmpI_ok ha hb (nomark _)
theorem geq (hu : X.A.units + 64 < cLine) (ha : PE X a (tE (gc X A0 W) fa)) (hb : PE X b (tE (gc X A0 W) fb)) : PE X (.Compare a [.Eq] [b] pos) (tE (gc X A0 W) (op2 eqD fa fb)) := gcmp (op_eqU hu) eqD_ok ha hb (nomark _)
/-! ### a < b < c -/
def boolD : Option Ev → Option Bool
  | some (.val (.bool k)) => some k
  | _ => none
def ch3 (b1 b2 : PyData → PyData → Option Ev) (fa fb fc : SE) : SE := fun ρ => (fa ρ).bind fun p => (fb p.2).bind fun q =>
  match boolD ((peek q.2 p.1).bind fun d1 => (peek q.2 q.1).bind fun d2 => b1 d1 d2) with
  | some false => .ok (.val (.bool false), q.2)
  | some true => (fc q.2).bind fun r => resE r.2 ((peek r.2 q.1).bind fun d1 => (peek r.2 r.1).bind fun d2 => b2 d1 d2)
  | none => .bad
/-- an operation whose answer changes nothing and is the same for the same data -/
theorem chain_ok {r r' : R2} {b1 b2 : PyData → PyData → Option Ev} (hd : OpD X.K r b1) (hd' : OpD X.K r' b2) : ∀ σ H Q, tE (gc X A0 W) (ch3 b1 b2 fa fb fc) σ H Q → tChain r r' (tE (gc X A0 W) fa) (tE (gc X A0 W) fb) (tE (gc X A0 W) fc) σ H Q := by
  rintro σ H Q ⟨S, ρ, rp, h⟩
  refine tE_bind (P := fun z => PostE (gc X A0 W) S H σ ρ z Q) exE PostE.bad rp h fun p S1 H1 v1 t1 r1 e1 h => ?_
  refine tE_bind (P := fun z => PostE (gc X A0 W) S1 H1 σ p.2 z Q) exE PostE.bad r1 (h.from t1) fun q S2 H2 v2 t2 r2 e2 h => ?_
  have e1' := e1.mono r1 t2
  cases p1 : peek q.2 p.1 with
  | none => rw [p1] at h; exact h.elim
  | some d1 =>
    rw [p1] at h
    cases p2 : peek q.2 q.1 with
    | none => rw [p2] at h; exact h.elim
    | some d2 =>
      rw [p2] at h
      simp only [Option.bind_some] at h
      cases hb1 : b1 d1 d2 with
      | none => rw [hb1] at h; exact h.elim
      | some ev =>
        rw [hb1] at h
        cases ev with
        | fr d => exact h.elim
        | sl i => exact h.elim
        | val d =>
          cases d with
          | bool k =>
            refine hd S2 H2 v1 v2 d1 d2 _ _ (peek_ok r2 e1' p1) (peek_ok r2 e2 p2) hb1 fun v H3 s3 dv => ?_
            obtain rfl := dv.w.bl
            refine ⟨k, rfl, ?_⟩
            have t3 := t2.same s3
            have r3 := r2.same s3
            cases k with
            | false => exact iteF ((h : PostE (gc X A0 W) S1 H1 σ p.2 (.ok (.val (.bool false), q.2)) Q) S2 H3 _ t3 r3 (.bl false))
            | true =>
              refine iteT ?_
              refine tE_bind (P := fun z => PostE (gc X A0 W) S2 H3 σ q.2 z Q) exE PostE.bad r3 (PostE.from t3 h) fun r S4 H4 v4 t4 r4 e4 h4 => ?_
              obtain ⟨ev, he, out⟩ := resE_out t4 r4 h4
              have e2' : RE X.K A0 H1 S4 H4 σ r.2 v2 q.1 := RE.mono r3 t4 (e2.mono (ρ' := q.2) r2 (Tr.refl.same s3))
              cases p3 : peek r.2 q.1 with
              | none => rw [p3] at he; cases he
              | some d3 =>
                rw [p3] at he
                cases p4 : peek r.2 r.1 with
                | none => rw [p4] at he; cases he
                | some d4 =>
                  rw [p4] at he
                  exact hd' S4 H4 v2 v4 d3 d4 ev Q (peek_ok r4 e2' p3) (peek_ok r4 e4 p4) he out
          | _ => exact h.elim
theorem gchain {op op' : CmpOp} {r r' : R2} {b1 b2 : PyData → PyData → Option Ev} (ho : OpR X (compareOp op) r) (ho' : OpR X (compareOp op') r') (hd : OpD X.K r b1) (hd' : OpD X.K r' b2)
    (ha : PE X a (tE (gc X A0 W) fa)) (hb : PE X b (tE (gc X A0 W) fb)) (hc : PE X c (tE (gc X A0 W) fc)) (hm : lastMarks [op, op'] [b, c] = false := by with_unfolding_all rfl) :
    PE X (.Compare a [op, op'] [b, c] pos) (tE (gc X A0 W) (ch3 b1 b2 fa fb fc)) := PE_imp (pe_chain ho ho' ha hb hc hm) (chain_ok hd hd')
end
/-! ### tests -/
section
variable {X : Cx} {A0 : Ax} {W : WX} {a b c e : Expr} {f fa fb : SE} {ga gb : SB} {pos : Pos} {rest : List Expr}
def fB (f : SE) : SB := fun ρ => (f ρ).bind fun p => match peek p.2 p.1 with
  | some (.bool k) => .ok (k, p.2)
  | _ => .bad
theorem fB_ok {g : Gc} : ∀ σ H Q, tT g (fB f) σ H Q → tB (tE g f) σ H Q := by
  rintro σ H Q ⟨S, ρ, rp, h⟩
  refine tE_bind (P := fun z => PostT g S H σ ρ z Q) exT PostT.bad rp h fun p S1 H1 v1 t1 r1 e1 h => ?_
  cases p1 : peek p.2 p.1 with
  | none => rw [p1] at h; exact h.elim
  | some d =>
    rw [p1] at h
    cases d with
    | bool k => exact ⟨k, (peek_ok r1 e1 p1).bl, h S1 H1 t1 r1⟩
    | _ => exact h.elim
theorem gtv (h : PE X e (tE (gc X A0 W) f)) (he : ∀ whole, isTrue e X.env whole = (do let v ← whole; standAt e.pos; holding [v] (truthy v)) := by intro _; rfl) : PT X e (tT (gc X A0 W) (fB f)) := PT_imp (pt_val h he) fB_ok
/-- a op b as a test -/
theorem gtcmp {op : CmpOp} {r : R2} {bd : PyData → PyData → Option Ev} (ho : OpR X (compareOp op) r) (hd : OpD X.K r bd) (ha : PE X a (tE (gc X A0 W) fa)) (hb : PE X b (tE (gc X A0 W) fb)) (hm : behindInMarks op b = false) :
    PT X (.Compare a [op] [b] pos) (tT (gc X A0 W) (fB (op2 bd fa fb))) := PT_imp (pt_cmpR ho ha hb hm) fun σ H Q h => op2_ok hd σ H _ (fB_ok σ H Q h)
def andB (fa fb : SB) : SB := fun ρ => (fa ρ).bind fun p => if p.1 = true then fb p.2 else .ok (false, p.2)
def orB (fa fb : SB) : SB := fun ρ => (fa ρ).bind fun p => if p.1 = true then .ok (true, p.2) else fb p.2
def notB (fa : SB) : SB := fun ρ => (fa ρ).bind fun p => .ok (!p.1, p.2)
theorem gand1 (ha : PT X a (tT (gc X A0 W) ga)) : PW X (.BoolOp .And [a] pos) (tT (gc X A0 W) ga) := pw_and1 ha
theorem gor1 (ha : PT X a (tT (gc X A0 W) ga)) : PW X (.BoolOp .Or [a] pos) (tT (gc X A0 W) ga) := pw_or1 ha
theorem gand (ha : PT X a (tT (gc X A0 W) ga)) (hb : PW X (.BoolOp .And (b :: rest) pos) (tT (gc X A0 W) gb)) : PW X (.BoolOp .And (a :: b :: rest) pos) (tT (gc X A0 W) (andB ga gb)) := by
  refine PW_imp (pw_and ha hb) ?_
  rintro σ H Q ⟨S, ρ, rp, h⟩
  refine tT_bind (P := fun z => PostT (gc X A0 W) S H σ ρ z Q) exT PostT.bad rp h fun p S1 H1 t1 r1 h => ?_
  cases hp : p.1 with
  | false => rw [hp] at h; exact iteF ((show PostT (gc X A0 W) S H σ ρ (.ok (false, p.2)) Q from h) S1 H1 t1 r1)
  | true => rw [hp] at h; exact iteT ⟨S1, p.2, r1, PostT.from t1 h⟩
theorem gor (ha : PT X a (tT (gc X A0 W) ga)) (hb : PW X (.BoolOp .Or (b :: rest) pos) (tT (gc X A0 W) gb)) : PW X (.BoolOp .Or (a :: b :: rest) pos) (tT (gc X A0 W) (orB ga gb)) := by
  refine PW_imp (pw_or ha hb) ?_
  rintro σ H Q ⟨S, ρ, rp, h⟩
  refine tT_bind (P := fun z => PostT (gc X A0 W) S H σ ρ z Q) exT PostT.bad rp h fun p S1 H1 t1 r1 h => ?_
  cases hp : p.1 with
  | true => rw [hp] at h; exact iteT ((show PostT (gc X A0 W) S H σ ρ (.ok (true, p.2)) Q from h) S1 H1 t1 r1)
  | false => rw [hp] at h; exact iteF ⟨S1, p.2, r1, PostT.from t1 h⟩
theorem gnot (ha : PT X a (tT (gc X A0 W) ga)) : PT X (.UnaryOp .Not a pos) (tT (gc X A0 W) (notB ga)) := by
  refine PT_imp (pt_not ha) ?_
  rintro σ H Q ⟨S, ρ, rp, h⟩
  exact tT_bind (P := fun z => PostT (gc X A0 W) S H σ ρ z Q) exT PostT.bad rp h fun p S1 H1 t1 r1 h => h S1 H1 t1 r1
/-! and, or, not as values -/
def andV (fa fb : SE) : SE := fun ρ => (fB fa ρ).bind fun p => if p.1 = true then fb p.2 else .ok (.val (.bool false), p.2)
def orV (fa fb : SE) : SE := fun ρ => (fB fa ρ).bind fun p => if p.1 = true then .ok (.val (.bool true), p.2) else fb p.2
def notV (fa : SE) : SE := fun ρ => (fB fa ρ).bind fun p => .ok (.val (.bool (!p.1)), p.2)
theorem fB_bind {g : Gc} {S : Addr → Prop} {H : Hp} {σ : St} {ρ : List B} {R : VK} {Q : VK} {k : Bool × List B → Rs (Ev × List B)} (r : Rp g.K g.A0 S H σ ρ) (h : PostE g S H σ ρ ((fB fa ρ).bind k) Q)
    (hk : ∀ (c : Bool) (ρ1 : List B) S' H', Tr S H (Ow σ ρ) S' H' (Ow σ ρ1) → Rp g.K g.A0 S' H' σ ρ1 → PostE g S H σ ρ (k (c, ρ1)) Q → R (.bl c) H') : tE g fa σ H R := by
  refine tE_bind (f := fa) (k := fun p => (match peek p.2 p.1 with | some (.bool c) => (Rs.ok (c, p.2) : Rs (Bool × List B)) | _ => Rs.bad).bind k) (P := fun z => PostE g S H σ ρ z Q) exE PostE.bad r ?_ fun p S1 H1 v1 t1 r1 e1 h => ?_
  · have e : (fB fa ρ).bind k = (fa ρ).bind (fun p => (match peek p.2 p.1 with | some (.bool c) => (Rs.ok (c, p.2) : Rs (Bool × List B)) | _ => Rs.bad).bind k) := by
      unfold fB
      cases fa ρ with
      | ok p => rfl
      | ex n ρ' => rfl
      | bad => rfl
    rw [e] at h
    exact h
  · cases p1 : peek p.2 p.1 with
    | none => rw [p1] at h; exact h.elim
    | some d =>
      rw [p1] at h
      cases d with
      | bool c =>
        rw [(peek_ok r1 e1 p1).bl]
        exact hk c p.2 S1 H1 t1 r1 h
      | _ => exact h.elim
theorem gandV (ha : PE X a (tE (gc X A0 W) fa)) (hb : PE X (.BoolOp .And (b :: rest) pos) (tE (gc X A0 W) fb)) : PE X (.BoolOp .And (a :: b :: rest) pos) (tE (gc X A0 W) (andV fa fb)) := by
  refine PE_imp (pe_and ha hb) ?_
  rintro σ H Q ⟨S, ρ, rp, h⟩
  refine fB_bind rp h fun c ρ1 S1 H1 t1 r1 h => ⟨c, rfl, ?_⟩
  cases c with
  | false => exact iteF ((show PostE (gc X A0 W) S H σ ρ (.ok (.val (.bool false), ρ1)) Q from h) S1 H1 _ t1 r1 (.bl false))
  | true => exact iteT ⟨S1, ρ1, r1, PostE.from t1 h⟩
theorem gone {op} (h : PE X a (tE (gc X A0 W) fa)) : PE X (.BoolOp op [a] pos) (tE (gc X A0 W) fa) := pe_one h
theorem gnotV (ha : PE X a (tE (gc X A0 W) fa)) : PE X (.UnaryOp .Not a pos) (tE (gc X A0 W) (notV fa)) := by
  refine PE_imp (pe_not ha) ?_
  rintro σ H Q ⟨S, ρ, rp, h⟩
  exact fB_bind rp h fun c ρ1 S1 H1 t1 r1 h => ⟨c, rfl, (show PostE (gc X A0 W) S H σ ρ (.ok (.val (.bool (!c)), ρ1)) Q from h) S1 H1 _ t1 r1 (.bl _)⟩
def ifE (t : SB) (fa fb : SE) : SE := fun ρ => (t ρ).bind fun p => if p.1 = true then fa p.2 else fb p.2
end
/-! ### arguments, displays -/
section
variable {X : Cx} {A0 : Ax} {W : WX} {e : Expr} {es : List Expr} {f : SE} {fs : SA} {pos : Pos}
def aNil : SA := fun ρ => .ok ([], ρ)
def aCons (f : SE) (fs : SA) : SA := fun ρ => (f ρ).bind fun p => (fs p.2).bind fun q => .ok (settle p.1 :: q.1, q.2)
theorem gnil : PA X [] (tA (gc X A0 W) aNil) := PA_imp pa_nil fun σ H Q ⟨S, ρ, r, h⟩ => h S H [] Tr.refl r .nil
theorem gcons (ha : PE X e (tE (gc X A0 W) f)) (hr : PA X es (tA (gc X A0 W) fs)) (hs : starEach (e :: es) X.env = (false, eval e X.env) :: starEach es X.env := by rfl) : PA X (e :: es) (tA (gc X A0 W) (aCons f fs)) := by
  refine PA_imp (pa_cons ha hr hs) ?_
  rintro σ H Q ⟨S, ρ, rp, h⟩
  refine tE_bind (P := fun z => PostA (gc X A0 W) S H σ ρ z Q) exA PostA.bad rp h fun p S1 H1 v1 t1 r1 e1 h => ?_
  obtain ⟨S1', t1', r1', e1', _⟩ := settle_ok t1 r1 e1
  refine tA_bind (P := fun z => PostA (gc X A0 W) S1' H1 σ p.2 z Q) exA PostA.bad r1' (h.from t1') fun q S2 H2 vs t2 r2 e2 h => ?_
  exact h S2 H2 (v1 :: vs) t2 r2 (.cons (e1'.ex (r1'.ex t2)) e2)
/-- what stands in a slot is given away -/
def shr (ρ : List B) : Ev → Option (PyData × List B)
  | .val d => some (d, ρ)
  | .fr d => some (d, ρ)
  | .sl i => match ρ[i]? with
    | some (.own d) => some (d, ρ.set i (.val d))
    | some (.val d) => some (d, ρ)
    | _ => none
theorem ow_set {σ : St} {ρ : List B} {i : Nat} {b : B} (hb : isOw (some b) = false) {a : Addr} (h : Ow σ (ρ.set i b) a) : Ow σ ρ a ∧ ¬ ∃ o, OwI σ ρ i o ∧ o = a ∧ ∀ j, OwI σ ρ j a → j = i := by
  obtain ⟨j, h1, h2⟩ := h
  by_cases e : i = j
  · subst e
    by_cases hl : i < ρ.length
    · rw [List.getElem?_set_self hl, hb] at h1; cases h1
    · rw [List.getElem?_eq_none (by rw [List.length_set]; omega)] at h1; cases h1
  · rw [List.getElem?_set_ne e] at h1
    exact ⟨⟨j, h1, h2⟩, fun ⟨o, _, _, u⟩ => e (u j ⟨h1, h2⟩).symm⟩
theorem shr_sl {K : PySem.W.Frag} {A0 : Ax} {S : Addr → Prop} {H : Hp} {σ : St} {ρ : List B} {i : Nat} {d : PyData} (r : Rp K A0 S H σ ρ) (e : ρ[i]? = some (.own d)) :
    ∃ a, σ[i]? = some (some (.ref a)) ∧ Ow σ ρ a ∧ Rp K A0 (Sadd S a) H σ (ρ.set i (.val d)) ∧ Dr K (Sadd S a) H (.ref a) d ∧ (∀ b, Ow σ (ρ.set i (.val d)) b → Ow σ ρ b) := by
  obtain ⟨a, e1, e2, o, e3, e4⟩ := r.bd i _ e
  have ow : OwI σ ρ i a := by unfold OwI; rw [e]; exact ⟨rfl, e1⟩
  have hl : i < ρ.length := (List.getElem?_eq_some_iff.mp e).1
  have dr : Dr K (Sadd S a) H (.ref a) d := .obj (.inl e3) (.inr rfl) (e4.ex (Ex.add a))
  have sub : ∀ b, Ow σ (ρ.set i (.val d)) b → Ow σ ρ b := fun b h => (ow_set rfl h).1
  refine ⟨a, e1, ⟨i, ow⟩, ⟨by rw [List.length_set]; exact r.len, fun j b hb => ?_, fun j k c h1 h2 => ?_, fun c hc => ?_, fun j d' c h1 h2 => ?_, r.aa, r.tb⟩, dr, sub⟩
  · by_cases hj : i = j
    · subst hj
      rw [List.getElem?_set_self hl] at hb; cases hb
      exact ⟨_, e1, dr⟩
    · rw [List.getElem?_set_ne hj] at hb
      have q := r.bd j b hb
      cases b with
      | un => trivial
      | exc n => exact bd_exc (Ex.add a) q
      | val d' => obtain ⟨v, q1, q2⟩ := q; exact ⟨v, q1, q2.ex (Ex.add a)⟩
      | own d' =>
        obtain ⟨c, q1, q2, q3⟩ := q
        refine ⟨c, q1, fun z => ?_, q3.ex (Ex.add a) fun _ h => h⟩
        rcases z with z | rfl
        · exact q2 z
        · exact hj (r.dis i j c ow (by unfold OwI; rw [hb]; exact ⟨rfl, q1⟩))
      | prm d' =>
        obtain ⟨c, q1, q0, q2, q3⟩ := q
        refine ⟨c, q1, q0, fun z => ?_, q3.ex (Ex.add a) fun _ h => h⟩
        rcases z with z | rfl
        · exact q2 z
        · exact hj (r.dis i j c ow (by unfold OwI; rw [hb]; exact ⟨rfl, q1⟩))
      | ob cl fs =>
        refine bd_ob (Ex.add a) q fun c ec => ⟨ec, fun z => ?_, fun _ h => h⟩
        have own : OwI σ ρ j c := ⟨by rw [hb]; rfl, ec⟩
        rcases z with z | rfl
        · exact (r.own own).1 z
        · exact hj (r.dis i j c ow own)
  · have w1 : OwI σ ρ j c := by
      by_cases hj : i = j
      · subst hj; unfold OwI at h1; rw [List.getElem?_set_self hl] at h1; cases h1.1
      · unfold OwI at h1 ⊢; rw [List.getElem?_set_ne hj] at h1; exact h1
    have w2 : OwI σ ρ k c := by
      by_cases hj : i = k
      · subst hj; unfold OwI at h2; rw [List.getElem?_set_self hl] at h2; cases h2.1
      · unfold OwI at h2 ⊢; rw [List.getElem?_set_ne hj] at h2; exact h2
    exact r.dis j k c w1 w2
  · rcases hc with hc | rfl
    · exact r.al c hc
    · exact ⟨o, e3⟩
  · by_cases hj : i = j
    · subst hj; rw [List.getElem?_set_self hl] at h1; cases h1
    · rw [List.getElem?_set_ne hj] at h1; exact r.np j d' c h1 h2
theorem shr_ok {K : PySem.W.Frag} {A0 : Ax} {S S0 : Addr → Prop} {H H0 : Hp} {σ : St} {ρ ρ' : List B} {O0 : Addr → Prop} {v : V} {e : Ev} {d : PyData}
    (t : Tr S0 H0 O0 S H (Ow σ ρ)) (r : Rp K A0 S H σ ρ) (h : RE1 K S H σ v e) (q : shr ρ e = some (d, ρ')) :
    ∃ S', Tr S0 H0 O0 S' H (Ow σ ρ') ∧ Rp K A0 S' H σ ρ' ∧ Dr K S' H v d ∧ Ex S H S' H := by
  cases e with
  | val d' => cases q; exact ⟨S, t, r, h, Ex.same fun _ _ e => e⟩
  | fr d' => exact h.elim
  | sl i =>
    have hv : σ[i]? = some (some v) := h
    unfold shr at q
    cases e : ρ[i]? with
    | none => simp only [e, reduceCtorEq] at q
    | some b =>
      simp only [e] at q
      cases b with
      | un => cases q
      | exc n => cases q
      | ob _ _ => cases q
      | prm d' => cases q
      | val d' =>
        cases q
        obtain ⟨u, e1, e2⟩ := r.bd i _ e
        rw [hv] at e1; cases e1
        exact ⟨S, t, r, e2, Ex.same fun _ _ e => e⟩
      | own d' =>
        cases q
        obtain ⟨a, e1, ow, r', dr, sub⟩ := shr_sl r e
        rw [hv] at e1; cases e1
        refine ⟨Sadd S a, ?_, r', dr, Ex.add a⟩
        have t' := t.add (a := a) (by
          rcases t.o a ow with z | z
          · exact .inr z
          · exact .inl z)
        exact ⟨t'.s, t'.keep, t'.dom, fun b hb => t.o b (sub b hb), t'.g⟩
def shrs (ρ : List B) : List Ev → Option (List PyData × List B)
  | [] => some ([], ρ)
  | e :: es => (shr ρ e).bind fun p => (shrs p.2 es).map fun q => (p.1 :: q.1, q.2)
theorem shrs_ok {K : PySem.W.Frag} {A0 : Ax} {S0 : Addr → Prop} {H H0 : Hp} {σ : St} {O0 : Addr → Prop} : ∀ {vs : List V} {es : List Ev} {S : Addr → Prop} {ρ ρ' : List B} {ds : List PyData},
    Tr S0 H0 O0 S H (Ow σ ρ) → Rp K A0 S H σ ρ → Paired (RE1 K S H σ) vs es → shrs ρ es = some (ds, ρ') → ∃ S', Tr S0 H0 O0 S' H (Ow σ ρ') ∧ Rp K A0 S' H σ ρ' ∧ DrAll K S' H vs ds ∧ Ex S H S' H
  | _, _, S, ρ, ρ', ds, t, r, .nil, q => by cases q; exact ⟨S, t, r, .nil, Ex.same fun _ _ e => e⟩
  | _, _, S, ρ, ρ', ds, t, r, .cons (b := e) (l₂ := es) a rest, q => by
    unfold shrs at q
    cases h1 : shr ρ e with
    | none => rw [h1] at q; cases q
    | some p =>
      rw [h1] at q
      cases h2 : shrs p.2 es with
      | none => rw [Option.bind_some, h2] at q; cases q
      | some p2 =>
        rw [Option.bind_some, h2] at q; cases q
        obtain ⟨S1, t1, r1, d1, x1⟩ := shr_ok t r a h1
        obtain ⟨S2, t2, r2, d2, x2⟩ := shrs_ok t1 r1 (RE1s.ex x1 rest) h2
        exact ⟨S2, t2, r2, .cons (d1.ex x2) d2, ⟨fun b hb => x2.s b (x1.s b hb), fun _ _ _ _ e => e, fun _ _ e => e, fun _ _ _ e => e, fun _ _ e => e⟩⟩
/-- a display: what it makes of the items -/
def dispE (mk : List PyData → Ev) (fs : SA) : SE := fun ρ => (fs ρ).bind fun p => match shrs p.2 p.1 with
  | some (ds, ρ') => if ds.length ≤ sizeLine then resE ρ' (some (mk ds)) else .bad
  | none => .bad
theorem disp_ok {g : Gc} {mk : List PyData → Ev} {σ : St} {H : Hp} {Q : VK} (h : tE g (dispE mk fs) σ H Q) {R : List V → Hp → Prop}
    (hR : ∀ S' H' vs ds, DrAll g.K S' H' vs ds → vs.length ≤ sizeLine → Out g.K S' H' (mk ds) Q → R vs H') : tA g fs σ H R := by
  obtain ⟨S, ρ, rp, h⟩ := h
  refine tA_bind (P := fun z => PostE g S H σ ρ z Q) exE PostE.bad rp h fun p S1 H1 vs t1 r1 e1 h => ?_
  cases q : shrs p.2 p.1 with
  | none => rw [q] at h; exact h.elim
  | some pr =>
    obtain ⟨ds, ρ'⟩ := pr
    rw [q] at h
    obtain ⟨S2, t2, r2, d2, _⟩ := shrs_ok t1 r1 e1 q
    simp only at h
    split at h
    · rename_i hl
      obtain ⟨ev, he, out⟩ := resE_out t2 r2 h
      cases he
      exact hR S2 H1 vs ds d2 (by rw [d2.length]; exact hl) out
    · exact h.elim
def tupE (fs : SA) : SE := dispE (fun ds => .val (.tuple ds)) fs
def lstE (fs : SA) : SE := dispE (fun ds => .fr (.list ds)) fs
theorem gtup {x1} (h : PA X es (tA (gc X A0 W) fs)) : PE X (.Tuple es x1 pos) (tE (gc X A0 W) (tupE fs)) := PE_imp (pe_tup h) fun σ H Q q => disp_ok (g := gc X A0 W) q fun S' H' vs ds d hl out => ⟨hl, outTup d out⟩
theorem glst (h : PA X es (tA (gc X A0 W) fs)) : PE X (.List es pos) (tE (gc X A0 W) (lstE fs)) := PE_imp (pe_lst h) fun σ H Q q => disp_ok (g := gc X A0 W) q fun S' H' vs ds d hl out => ⟨hl, outLst d out⟩
end
/-! ### items, slices -/
section
variable {X : Cx} {A0 : Ax} {W : WX} {a b : Expr} {fa fb : SE} {pos : Pos}
def ixD : PyData → PyData → Option Ev
  | .list ds, .int i => (atI ds i).map .val
  | .tuple ds, .int i => (atI ds i).map .val
  | .str z, .int i => if z.length ≤ sizeLine then (atI z.cps.toList i).map fun c => .val (.str ⟨#[c]⟩) else none
  | .dict kvs, k => (keyOf k).bind fun q => (dget kvs q).map .val
  | _, _ => none
theorem atI_dr {K : PySem.W.Frag} {S : Addr → Prop} {H : Hp} {xs : List V} {ds : List PyData} {i : Int} {d : PyData} (r : DrAll K S H xs ds) (h : atI ds i = some d) : ∃ v, atI xs i = some v ∧ Dr K S H v d := by
  unfold atI at h ⊢
  rw [r.length]
  cases e : ixN ds.length i with
  | none => rw [e] at h; cases h
  | some j =>
    rw [e] at h
    exact r.get h
theorem ixD_ok {K : PySem.W.Frag} : OpD K (fun x y H Q => rIx K x y H Q ∨ rIxG x y H Q) ixD := by
  intro S H x y d1 d2 e Q h1 h2 he out
  cases d1 with
  | none => cases d2 <;> cases he
  | bool b => cases d2 <;> cases he
  | int b => cases d2 <;> cases he
  | str z =>
    cases d2 with
    | int i =>
      simp only [ixD] at he
      split at he
      · rename_i hz
        cases e1 : atI z.cps.toList i with
        | none => rw [e1] at he; cases he
        | some c =>
          rw [e1] at he; cases he
          exact .inl (.inr (.inr ⟨z, i, c, h1.str, h2.int, hz, e1, outStr out⟩))
      · cases he
    | _ => cases he
  | list ds =>
    cases d2 with
    | int i =>
      simp only [ixD] at he
      cases e1 : atI ds i with
      | none => rw [e1] at he; cases he
      | some d =>
        rw [e1] at he; cases he
        obtain ⟨a, xs, rfl, q, r⟩ := h1.lst
        obtain ⟨v, e2, dv⟩ := atI_dr r e1
        exact .inl (.inl ⟨a, xs, i, v, rfl, h2.int, q.sq, e2, out v H (fun _ _ e => e) dv⟩)
    | _ => cases he
  | tuple ds =>
    cases d2 with
    | int i =>
      simp only [ixD] at he
      cases e1 : atI ds i with
      | none => rw [e1] at he; cases he
      | some d =>
        rw [e1] at he; cases he
        obtain ⟨a, xs, rfl, q, r⟩ := h1.tup
        obtain ⟨v, e2, dv⟩ := atI_dr r e1
        exact .inl (.inr (.inl ⟨a, xs, i, v, rfl, h2.int, q, e2, out v H (fun _ _ e => e) dv⟩))
    | _ => cases he
  | dict kvs =>
    have he' : ((keyOf d2).bind fun q => (dget kvs q).map Ev.val) = some e := by cases d2 <;> exact he
    cases hq : keyOf d2 with
    | none => rw [hq] at he'; cases he'
    | some q =>
      rw [hq] at he'
      cases hg : dget kvs q with
      | none => simp only [Option.bind, hg, Option.map_none, reduceCtorEq] at he'
      | some d =>
        simp only [Option.bind, hg, Option.map_some, Option.some.injEq] at he'
        subst he'
        obtain ⟨a, v, rfl, g, dr⟩ := h1.get h2 hq hg
        exact .inr ⟨a, v, rfl, g, out v H (fun _ _ e => e) dr⟩
theorem gix (hu : X.A.units + 1 < cLine) (ha : PE X a (tE (gc X A0 W) fa)) (hb : PE X b (tE (gc X A0 W) fb)) (hs : PlainIx b := by exact fun _ _ => rfl) : PE X (.Subscript a b pos) (tE (gc X A0 W) (op2 ixD fa fb)) := PE_imp (pe_ix (ix_seq.or (ix_dict hu)) ha hb hs) (op2_ok ixD_ok)
end
end G
namespace G
open PySem PySem.Spec PyProof.Rows L2
/-! ### what is read off the real heap -/
section
variable {X : Cx} {pins : List (Addr × Obj)} {σ : St} {H : Hp} {s : Shared} {S : Addr → Prop}
theorem pairs_vals {P : Program} {w : World} : ∀ {es : List DictEntry} {vs : List (Key × Value)}, Pairs (mixKind P w) es vs → es.map (·.val) = vs.map (·.2)
  | _, _, .nil => rfl
  | _, _, .cons _ he t => by simp only [List.map_cons, he, pairs_vals t]
theorem kv_vals {κ : Type} : ∀ {kvs : List (κ × V)} {vs : List (κ × Value)}, KV kvs vs → Vals (kvs.map (·.2)) (vs.map (·.2)) ∧ kvs.map (·.1) = vs.map (·.1)
  | _, _, .nil => ⟨.nil, rfl⟩
  | _, _, .cons ⟨a, b⟩ t => by
    obtain ⟨h1, h2⟩ := kv_vals t
    exact ⟨.cons b h1, by simp only [List.map_cons, a, h2]⟩
theorem zip_fst {α β : Type} : ∀ {l : List α} {m : List β}, l.length = m.length → (l.zip m).map (·.1) = l
  | [], [], _ => rfl
  | a :: l, b :: m, h => by simp only [List.zip_cons_cons, List.map_cons, zip_fst (Nat.succ.inj h)]
theorem zip_snd {α β : Type} : ∀ {l : List α} {m : List β}, l.length = m.length → (l.zip m).map (·.2) = m
  | [], [], _ => rfl
  | a :: l, b :: m, h => by simp only [List.zip_cons_cons, List.map_cons, zip_snd (Nat.succ.inj h)]
/-- no object that is the module table -/
def NoSys (as : List Addr) : Prop := sysModules ∉ as
/-- what more is known around a body: no repr is running; the module table stands in the base -/
structure GX (X : Cx) : Prop where
  gd : X.A.guards = some []
  sys : ∃ o es ep, X.base.get? sysModules = some o ∧ o.data = .dict es ep
  un : X.A.units + 150 < cLine
theorem GX.ne_lst (G : GX X) (I : Inv X pins σ H s) {a : Addr} {xs : List V} (ha : LstX X.K H a xs) : a ≠ sysModules := by
  obtain ⟨o, es, ep, e, hc⟩ := G.sys
  rintro rfl
  obtain ⟨e2, hn⟩ := I.bs _ _ e
  rcases ha with h | ⟨o', h⟩ | ⟨its, n, h, _⟩
  · rw [hn] at h; cases h
  · rw [hn] at h; cases h
  · have := I.mod.kin _ _ h
    rw [e] at this; cases this
    cases hc
theorem Ct.reads_lst (G : GX X) (I : Inv X pins σ H s) {xs : List V} {ds : List PyData} (h : ∀ us, Vals xs us → ∃ as, ReadsAll s.heap us ds as ∧ NoSys as) {a : Addr} (ha : LstX X.K H a xs) : ∃ as, Reads s.heap (.ref a) (.list ds) as ∧ NoSys as := by
  obtain ⟨its, n, rv, e, z⟩ := ha.at_ I
  obtain ⟨as, hr, hn⟩ := h its rv
  refine ⟨_, Reads.list e rfl rfl (by simpa using hr), fun hm => ?_⟩
  rcases List.mem_cons.mp hm with hm | hm
  · exact G.ne_lst I ha hm.symm
  · exact hn hm
theorem nosys_nil : NoSys [] := fun h => nomatch h
theorem pairs_read {h : Heap} {P : Program} {w : World} : ∀ {es : List DictEntry} {vs : List (Key × Value)}, Pairs (mixKind P w) es vs → ∃ as, ReadsAll h (es.map (·.key)) (vs.map fun p => kD p.1) as ∧ NoSys as
  | _, _, .nil => ⟨_, .nil, nosys_nil⟩
  | _, _, .cons (e := e) (kv := kv) hk _ t => by
    obtain ⟨as, q, n⟩ := pairs_read (h := h) t
    rcases keyIs_shape hk with ⟨i, u, e1, e2⟩ | ⟨x, u, e1, e2⟩
    · exact ⟨[] ++ as, .cons (by show Reads h e.key (kD kv.1) []; rw [e1, e2]; exact Reads.int i u) q, n⟩
    · exact ⟨[] ++ as, .cons (by show Reads h e.key (kD kv.1) []; rw [e1, e2]; exact Reads.str x u) q, n⟩
theorem nosys_app {as bs : List Addr} (h : NoSys as) (h' : NoSys bs) : NoSys (as ++ bs) := fun z => (List.mem_append.mp z).elim h h'
theorem hokO (I : Inv X pins σ H s) {a : Addr} {o : HO} (h : HasO H a o) : ObjOk X.prog X.w H s.heap a o := by
  rcases h with h | ⟨_, od, h⟩
  · exact I.hok a _ h
  · exact (show ObjOk X.prog X.w H s.heap a (.frz od o) from I.hok a _ h).2
/-- the address in such a dict's description is its own -/
theorem tx_addr {P : Program} {w : World} {H : Hp} {h : Heap} {a b : Addr} {xs : List KX} (x : ObjOk P w H h a (TX b xs)) : b = a := by
  by_cases z : b = a
  · exact z
  · obtain ⟨p, ⟨o, ho⟩, m⟩ := x
    let nob : Obj := { cls := .none, data := .fields #[] }
    have ga : ∀ o', h.get? a = some o' → (⟨h.objs.setIfInBounds b nob, h.life⟩ : Heap).get? a = some o' := fun o' e => by
      unfold Heap.get? at e ⊢
      dsimp only
      rw [Array.getElem?_setIfInBounds_ne z]
      exact e
    have q := m h ⟨h.objs.setIfInBounds b nob, h.life⟩ p ga
    obtain ⟨_, _, _, o2, es2, ep2, e3, _, e4, _⟩ := q
    obtain ⟨_, _, _, o1, es, ep, e1, _⟩ := p
    have lt : b < h.objs.size := Heap.lt_size e1
    unfold Heap.get? at e3
    dsimp only at e3
    rw [Array.getElem?_setIfInBounds_self_of_lt lt] at e3
    cases (Option.some.inj e3)
    cases e4
theorem ints_read {h : Heap} : ∀ (ns : List Int) (us : List Value), Vals (ns.map V.int) us → ∃ as, ReadsAll h us (ns.map PyData.int) as ∧ NoSys as
  | [], _, r => by cases r; exact ⟨_, .nil, nosys_nil⟩
  | i :: ns, _, .cons r t => by
    obtain ⟨as, q, n⟩ := ints_read (h := h) ns _ t
    obtain ⟨u, rfl⟩ := r
    exact ⟨[] ++ as, .cons (Reads.int i u) q, n⟩
theorem kx_read (I : Inv X pins σ H s) : ∀ {xs : List KX}, (∀ x ∈ xs, SqT X.K H x.2.1 (x.1.map V.int)) → ∃ as, ReadsAll s.heap ((xs.map entX).map (·.key)) (xs.map fun x => PyData.tuple (x.1.map PyData.int)) as ∧ NoSys as
  | [], _ => ⟨_, .nil, nosys_nil⟩
  | x :: xs, h => by
    obtain ⟨as, r, n1⟩ := kx_read I fun y hy => h y (List.mem_cons_of_mem _ hy)
    obtain ⟨its, rv, ⟨o, ho, hc, n, hd⟩, _⟩ := I.tuple (h x (List.mem_cons_self ..))
    obtain ⟨bs, r2, n2⟩ := ints_read (h := s.heap) x.1 its rv
    exact ⟨_, .cons (Reads.tuple ho hc hd r2) r, nosys_app n2 n1⟩
theorem reads_all (G : GX X) (I : Inv X pins σ H s) {v : V} {d : PyData} (h : Dr X.K S H v d) : ∀ u, RelV v u → ∃ as, Reads s.heap u d as ∧ NoSys as :=
  Dr.rec (motive_1 := fun v d _ => ∀ u, RelV v u → ∃ as, Reads s.heap u d as ∧ NoSys as) (motive_2 := fun vs ds _ => vs.length = ds.length ∧ ∀ us, Vals vs us → ∃ as, ReadsAll s.heap us ds as ∧ NoSys as) (motive_3 := fun o d _ => ∀ a, HasO H a o → ∃ as, Reads s.heap (.ref a) d as ∧ NoSys as)
    (fun u r => by cases r; exact ⟨_, Reads.none, nosys_nil⟩)
    (fun b u r => by cases r; exact ⟨_, Reads.bool b, nosys_nil⟩)
    (fun i u r => by obtain ⟨t, rfl⟩ := r; exact ⟨_, Reads.int i t, nosys_nil⟩)
    (fun x u r => by obtain ⟨t, rfl⟩ := r; exact ⟨_, Reads.str x t, nosys_nil⟩)
    (fun ha hs _ ih u r => by cases r; exact ih _ ha)
    (fun hl _ ih u r => by cases r; exact Ct.reads_lst G I ih.2 (.inr hl))
    (fun ht _ ih u r => by
      cases r
      obtain ⟨its, rv, ⟨o, ho, hc, n, hd⟩, _⟩ := I.tuple ht
      obtain ⟨as, hr, hn⟩ := ih.2 its rv
      exact ⟨_, Reads.tuple ho hc hd hr, hn⟩)
    ⟨rfl, fun us r => by cases r; exact ⟨_, ReadsAll.nil, nosys_nil⟩⟩
    (fun _ _ ih1 ih2 => ⟨by simp only [List.length_cons, ih2.1], fun us r => by
      cases r with
      | cons r1 r2 =>
        obtain ⟨as, q1, n1⟩ := ih1 _ r1
        obtain ⟨bs, q2, n2⟩ := ih2.2 _ r2
        exact ⟨_, ReadsAll.cons q1 q2, nosys_app n1 n2⟩⟩)
    (fun _ ih a ha => Ct.reads_lst G I ih.2 (.inl ha.lst))
    (fun {kvs ds} _ ih a ha => by
      obtain ⟨_, hsys, vs, kv, o, es, ep, ho, hx, hdt, _, hp, _⟩ := hokO I ha
      obtain ⟨q1, q2⟩ := kv_vals kv
      obtain ⟨as, r1, n1⟩ := pairs_read (h := s.heap) hp
      obtain ⟨hl, ih⟩ := ih
      obtain ⟨bs, r2, n2⟩ := ih _ q1
      refine ⟨_, Reads.dict ho hx.1 hdt (as := as) (bs := bs) ?_ ?_, nosys_app (as := a :: as) (fun z => (List.mem_cons.mp z).elim (fun e => by rw [e, beq_self_eq_true] at hsys; cases hsys) n1) n2⟩
      · rw [zip_fst (by simpa using hl), show (fun p : Key × V => kD p.1) = kD ∘ (·.1) from rfl, ← List.map_map, q2, List.map_map]
        exact r1
      · rw [zip_snd (by simpa using hl), pairs_vals hp]
        exact r2)
    (fun {a xs vs ds} hk hv _ ih b hb => by
      have ok := hokO I hb
      obtain rfl := tx_addr ok
      obtain ⟨⟨hsys, _, _, o, es, ep, ho, hx, hdt, hes⟩, _⟩ := ok
      obtain ⟨as, r1, n1⟩ := kx_read I hk
      obtain ⟨hl, ih⟩ := ih
      obtain ⟨bs, r2, n2⟩ := ih _ hv
      have lx : xs.length = ds.length := by rw [← hl, hv.length, List.length_map]
      refine ⟨_, Reads.dict ho hx.1 hdt (as := as) (bs := bs) ?_ ?_, nosys_app (as := a :: as) (fun z => (List.mem_cons.mp z).elim (fun e => by rw [e, beq_self_eq_true] at hsys; cases hsys) n1) n2⟩
      · rw [zip_fst (by simpa using lx), hes]
        exact r1
      · rw [zip_snd (by simpa using lx), hes, List.map_map]
        exact r2) h
theorem Dw.reads (G : GX X) (I : Inv X pins σ H s) {v : V} {d : PyData} {u : Value} (h : Dw X.K S H v d) (r : RelV v u) : ∃ as, Reads s.heap u d as ∧ NoSys as := by
  rcases h with h | ⟨a, rfl, o, e, c⟩
  · exact reads_all G I h u r
  · exact reads_all (S := fun b => S b ∨ b = a) G I (Dr.obj (.inl e) (.inr rfl) (c.ex (Ex.add a))) u r
/-! ### repr -/
mutual
def szD : PyData → Nat
  | .none => 4
  | .bool _ => 5
  | .int _ => 1921
  | .str x => if x.cps.toList.all (fun c => decide (c < 4294967296)) = true then 10 * x.length + 2 else 4294967296
  | .list xs => szAll xs + 4
  | .tuple xs => szAll xs + 4
  | .dict kvs => szKv kvs + 4
def szAll : List PyData → Nat
  | [] => 0
  | x :: xs => szD x + 2 + szAll xs
def szKv : List (PyData × PyData) → Nat
  | [] => 0
  | (k, v) :: r => szD k + szD v + 4 + szKv r
end
theorem textFrom_le : ∀ (ts : List Str) (k : Nat) (acc : Str), (textFrom k acc ts).length ≤ acc.length + piled ts
  | [], k, acc => by show acc.length ≤ _; omega
  | t :: r, k, acc => by
    have ih := textFrom_le r (k + 1) (acc ++ (if k > 0 then ", " else "" : String) ++ t)
    have e : (acc ++ (if k > 0 then ", " else "" : String) ++ t).length = acc.length + (if k > 0 then 2 else 0) + t.length := by
      rw [strLen_append, strLen_append]
      split <;> rfl
    rw [e] at ih
    rw [piled_cons]
    show (textFrom (k + 1) _ r).length ≤ _
    have h2 : (if k > 0 then 2 else 0) ≤ 2 := by split <;> omega
    omega
theorem listText_le (ts : List Str) : (listText ts).length ≤ piled ts + 2 := by
  unfold listText
  rw [strLen_append]
  have := textFrom_le ts 0 "["
  have e1 : (("[" : String) : Str).length = 1 := rfl
  have e2 : (("]" : String) : Str).length = 1 := rfl
  omega
theorem join_le (ts : List Str) : (Str.join ", " ts).length ≤ piled ts := by
  by_cases h : ts = []
  · subst h; exact Nat.zero_le _
  · have := join_length_add ts h; omega
theorem tupleText_le (ts : List Str) : (tupleText ts).length ≤ piled ts + 3 := by
  unfold tupleText
  rw [strLen_append, strLen_append]
  have := join_le ts
  have e1 : (("(" : String) : Str).length = 1 := rfl
  have e2 : ((if ts.length == 1 then ",)" else ")" : String) : Str).length ≤ 2 := by split <;> decide
  omega
theorem dictText_le (ts : List Str) : (dictText ts).length ≤ piled ts + 2 := by
  unfold dictText
  rw [strLen_append, strLen_append]
  have := join_le ts
  have e1 : (("{" : String) : Str).length = 1 := rfl
  have e2 : (("}" : String) : Str).length = 1 := rfl
  omega
mutual
theorem shown_le : ∀ d : PyData, d.showable = true → szD d ≤ 4294967295 → d.shown.length ≤ szD d
  | .none, _, _ => by simp only [PyData.shown, szD]; decide
  | .bool b, _, _ => by cases b <;> simp only [PyData.shown, szD] <;> decide
  | .int i, h, _ => by
    simp only [PyData.showable, decide_eq_true_eq] at h
    simp only [PyData.shown, szD]
    have := int_text_length_le (a := i) (k := 1920) (by decide) h
    show (Str.ofString (toString i)).length ≤ _
    rw [PySem.ofString_length]
    omega
  | .str x, _, h => by
    simp only [PyData.shown]
    unfold szD at h ⊢
    split at h
    · rename_i hc
      rw [if_pos hc]
      exact StrLaws.reprText_len x fun c hm => by
        have := List.all_eq_true.mp hc c hm
        have e : (16 : Nat) ^ 8 = 4294967296 := by decide
        rw [e]; exact of_decide_eq_true this
    · omega
  | .list xs, h, z => by
    simp only [PyData.showable] at h
    simp only [szD] at z ⊢
    simp only [PyData.shown]
    have := listText_le (PyData.shownAll xs)
    have := shownAll_le xs h (by omega)
    omega
  | .tuple xs, h, z => by
    simp only [PyData.showable] at h
    simp only [szD] at z ⊢
    simp only [PyData.shown]
    have := tupleText_le (PyData.shownAll xs)
    have := shownAll_le xs h (by omega)
    omega
  | .dict kvs, h, z => by
    simp only [PyData.showable] at h
    simp only [szD] at z ⊢
    simp only [PyData.shown]
    have := dictText_le (PyData.shownKv kvs)
    have := shownKv_le kvs h (by omega)
    omega
theorem shownAll_le : ∀ xs : List PyData, PyData.showableAll xs = true → szAll xs ≤ 4294967295 → piled (PyData.shownAll xs) ≤ szAll xs
  | [], _, _ => by simp only [PyData.shownAll, szAll]; decide
  | x :: xs, h, z => by
    simp only [PyData.showableAll, Bool.and_eq_true] at h
    simp only [szAll] at z ⊢
    simp only [PyData.shownAll, piled_cons]
    have := shown_le x h.1 (by omega)
    have := shownAll_le xs h.2 (by omega)
    omega
theorem shownKv_le : ∀ kvs : List (PyData × PyData), PyData.showableKv kvs = true → szKv kvs ≤ 4294967295 → piled (PyData.shownKv kvs) ≤ szKv kvs
  | [], _, _ => by simp only [PyData.shownKv, szKv]; decide
  | (k, v) :: r, h, z => by
    simp only [PyData.showableKv, Bool.and_eq_true] at h
    simp only [szKv] at z ⊢
    simp only [PyData.shownKv, piled_cons]
    have := shown_le k h.1.1 (by omega)
    have := shown_le v h.1.2 (by omega)
    have := shownKv_le r h.2 (by omega)
    rw [strLen_append, strLen_append]
    have e : ((": " : String) : Str).length = 2 := rfl
    omega
end
def reprOk (d : PyData) : Bool := d.showable && (decide (szD d ≤ 16000000) && decide (d.depth ≤ 64))
def reprD : List PyData → Option Ev
  | [d] => if reprOk d = true then some (.val (.str d.shown)) else none
  | _ => none
theorem call_repr (G : GX X) : CallR X (.builtin "repr") (fun xs H Q => ∃ S d, DwAll X.K S H xs [d] ∧ reprOk d = true ∧ Q (.str d.shown) H) := by
  rintro pins s σ H xs us Q I rx ⟨S, d, hd, ok, q⟩
  cases hd with
  | cons hd hn =>
    cases hn
    obtain ⟨u, rfl, ru⟩ := vals1 rx
    simp only [reprOk, Bool.and_eq_true, decide_eq_true_eq] at ok
    obtain ⟨sh, hz, hdp⟩ := ok
    have hl := shown_le d sh (by omega)
    have hsz : d.shown.length ≤ sizeLine := by rw [sizeLine_eq]; omega
    obtain ⟨as, rd, ns⟩ := hd.reads G I ru
    have hun := G.un
    cases rd with
    | none => exact PySem.P.repr_of_none ⟨.str _, H, I.tok _, ⟨_, rfl⟩, by simpa only [PyData.shown] using q⟩
    | bool b => exact PySem.P.repr_of_bool ⟨.str _, H, I.tok _, ⟨_, rfl⟩, by simpa only [PyData.shown] using q⟩
    | int i t => exact PySem.P.repr_of_int (by simpa only [PyData.showable, decide_eq_true_eq] using sh) ⟨.str _, H, I.tok _, ⟨_, rfl⟩, by simpa only [PyData.shown] using q⟩
    | str x t => exact PySem.P.repr_of_str ⟨.str _, H, I.tok _, ⟨_, rfl⟩, by simpa only [PyData.shown] using q⟩ (by simpa only [PyData.shown] using hsz)
    | list h1 h2 h3 h4 => exact repr_of_reads' (Reads.list h1 h2 h3 h4) sh (fun _ => ns) G.gd (by omega) (fun _ _ e => e) (fun h' u tk k => ⟨.str _, H, I.kept k, ⟨_, rfl⟩, q⟩) hsz
    | tuple h1 h2 h3 h4 => exact repr_of_reads' (Reads.tuple h1 h2 h3 h4) sh (fun _ => ns) G.gd (by omega) (fun _ _ e => e) (fun h' u tk k => ⟨.str _, H, I.kept k, ⟨_, rfl⟩, q⟩) hsz
    | dict h1 h2 h3 h4 h5 => exact repr_of_reads' (Reads.dict h1 h2 h3 h4 h5) sh (fun _ => ns) G.gd (by omega) (fun _ _ e => e) (fun h' u tk k => ⟨.str _, H, I.kept k, ⟨_, rfl⟩, q⟩) hsz
end
/-! ### built-in calls -/
section
variable {X : Cx} {A0 : Ax} {W : WX} {x : Str} {p pos : Pos} {e : Expr} {es : List Expr} {fs : SA} {f : SE} {bid T : String} {r : List V → Hp → VK → Prop} {bd : List PyData → Option Ev}
theorem gcall (hc : CallR X (.builtin bid) r) (hd : CallD X.K r bd) (hm : X.mg x = none) (hv : bootBuiltins x = some (.builtin bid)) (ha : PA X (e :: es) (tA (gc X A0 W) fs)) (hg : Gl X x := by rfl) (hn : x ≠ "__name__" := by decide) (hdb : (x == ("__debug__" : Str)) = false := by decide)
    (he : starEach (e :: es) X.env = (false, eval e X.env) :: starEach es X.env := by rfl) (hpl : (backTo pos (starEach es X.env)).any (·.1) = false := by rfl) : PE X (.Call (.Name x p) (e :: es) [] pos) (tE (gc X A0 W) (opN bd fs)) :=
  PE_imp (pe_callB hc hg hm hv ha hn hdb he hpl) (opN_ok hd)
theorem gcallT (hc : CallR X (.type T) r) (hd : CallD X.K r bd) (hm : X.mg x = none) (hv : bootBuiltins x = some (.type T)) (ha : PA X (e :: es) (tA (gc X A0 W) fs)) (hg : Gl X x := by rfl) (hn : x ≠ "__name__" := by decide) (hdb : (x == ("__debug__" : Str)) = false := by decide)
    (he : starEach (e :: es) X.env = (false, eval e X.env) :: starEach es X.env := by rfl) (hpl : (backTo pos (starEach es X.env)).any (·.1) = false := by rfl) : PE X (.Call (.Name x p) (e :: es) [] pos) (tE (gc X A0 W) (opN bd fs)) :=
  PE_imp (pe_callTy hc hg hm hv ha hn hdb he hpl) (opN_ok hd)
theorem reprD_ok {K : PySem.W.Frag} : CallD K (fun xs H Q => ∃ S d, DwAll K S H xs [d] ∧ reprOk d = true ∧ Q (.str d.shown) H) reprD := by
  intro S H xs ds ev Q h he out
  match ds, he with
  | [d], he =>
    simp only [reprD] at he
    split at he
    · rename_i ok; cases he; exact ⟨S, d, h, ok, outStr out⟩
    · cases he
theorem g_repr (gx : GX X) (hm : X.mg "repr" = none) (ha : PA X (e :: es) (tA (gc X A0 W) fs)) (hg : Gl X "repr" := by rfl)
    (he : starEach (e :: es) X.env = (false, eval e X.env) :: starEach es X.env := by rfl) (hpl : (backTo pos (starEach es X.env)).any (·.1) = false := by rfl) : PE X (.Call (.Name "repr" p) (e :: es) [] pos) (tE (gc X A0 W) (opN reprD fs)) :=
  gcall (call_repr gx) reprD_ok hm PyProof.Rows.boot_repr ha hg (by decide) (by decide) he hpl
theorem dw1 {K : PySem.W.Frag} {S : Addr → Prop} {H : Hp} {xs : List V} {d : PyData} (h : DwAll K S H xs [d]) : ∃ v, xs = [v] ∧ Dw K S H v d := by
  cases h with
  | cons a b => cases b; exact ⟨_, rfl, a⟩
theorem dw2 {K : PySem.W.Frag} {S : Addr → Prop} {H : Hp} {xs : List V} {d e : PyData} (h : DwAll K S H xs [d, e]) : ∃ v u, xs = [v, u] ∧ Dw K S H v d ∧ Dw K S H u e := by
  cases h with
  | cons a b => cases b with
    | cons b c => cases c; exact ⟨_, _, rfl, a, b⟩
/-! len -/
def lenD : List PyData → Option Ev
  | [.list ds] => some (.val (.int ds.length))
  | [.tuple ds] => some (.val (.int ds.length))
  | [.str z] => if z.length ≤ sizeLine then some (.val (.int z.length)) else none
  | _ => none
theorem lenD_ok {K : PySem.W.Frag} : CallD K (fun xs H Q => ∃ x n, xs = [x] ∧ LenV K x H n ∧ Q (.int n) H) lenD := by
  intro S H xs ds ev Q h he out
  match ds, he with
  | [.list ds], he =>
    cases he
    obtain ⟨v, rfl, hv⟩ := dw1 h
    obtain ⟨a, ys, rfl, q, rr⟩ := hv.lst
    exact ⟨_, ds.length, rfl, .inl ⟨ys, q.sq, rr.length.symm⟩, outInt out⟩
  | [.tuple ds], he =>
    cases he
    obtain ⟨v, rfl, hv⟩ := dw1 h
    obtain ⟨a, ys, rfl, q, rr⟩ := hv.tup
    exact ⟨_, ds.length, rfl, .inr ⟨ys, q, rr.length.symm⟩, outInt out⟩
  | [.str z], he =>
    simp only [lenD] at he
    split at he
    · rename_i hz
      cases he
      obtain ⟨v, rfl, hv⟩ := dw1 h
      rw [hv.str]
      exact ⟨_, z.length, rfl, ⟨hz, rfl⟩, outInt out⟩
    · cases he
theorem g_len (hm : X.mg "len" = none) (ha : PA X (e :: es) (tA (gc X A0 W) fs)) (hg : Gl X "len" := by rfl)
    (he : starEach (e :: es) X.env = (false, eval e X.env) :: starEach es X.env := by rfl) (hpl : (backTo pos (starEach es X.env)).any (·.1) = false := by rfl) : PE X (.Call (.Name "len" p) (e :: es) [] pos) (tE (gc X A0 W) (opN lenD fs)) :=
  gcall call_len lenD_ok hm PySem.boot_len ha hg (by decide) (by decide) he hpl
/-! all, any over a list of bools -/
def boolsD : List PyData → Option (List Bool)
  | [] => some []
  | .bool b :: r => (boolsD r).map (b :: ·)
  | _ => none
theorem boolsD_ok {K : PySem.W.Frag} {S : Addr → Prop} {H : Hp} : ∀ {vs : List V} {ds : List PyData} {bs : List Bool}, DrAll K S H vs ds → boolsD ds = some bs → vs = bs.map V.bl
  | [], ds, bs, h, e => by cases h; cases e; rfl
  | v :: vs, ds, bs, h, e => by
    cases h with
    | cons h1 h2 =>
      rename_i d ds
      cases d with
      | bool b =>
        simp only [boolsD] at e
        cases e1 : boolsD ds with
        | none => rw [e1] at e; cases e
        | some bs' => rw [e1] at e; cases e; rw [h1.w.bl, boolsD_ok h2 e1]; rfl
      | _ => cases e
def allD : List PyData → Option Ev
  | [.list ds] => (boolsD ds).map fun bs => .val (.bool (bs.all id))
  | _ => none
def anyD : List PyData → Option Ev
  | [.list ds] => (boolsD ds).map fun bs => .val (.bool (bs.any id))
  | _ => none
theorem allD_ok {K : PySem.W.Frag} : CallD K (rAll K) allD := by
  intro S H xs ds ev Q h he out
  match ds, he with
  | [.list ds], he =>
    simp only [allD] at he
    cases e1 : boolsD ds with
    | none => rw [e1] at he; cases he
    | some bs =>
      rw [e1] at he; cases he
      obtain ⟨v, rfl, hv⟩ := dw1 h
      obtain ⟨a, ys, rfl, q, rr⟩ := hv.lst
      obtain rfl := boolsD_ok rr e1
      exact ⟨a, bs, rfl, q.sq, outBl out⟩
theorem anyD_ok {K : PySem.W.Frag} : CallD K (rAny K) anyD := by
  intro S H xs ds ev Q h he out
  match ds, he with
  | [.list ds], he =>
    simp only [anyD] at he
    cases e1 : boolsD ds with
    | none => rw [e1] at he; cases he
    | some bs =>
      rw [e1] at he; cases he
      obtain ⟨v, rfl, hv⟩ := dw1 h
      obtain ⟨a, ys, rfl, q, rr⟩ := hv.lst
      obtain rfl := boolsD_ok rr e1
      exact ⟨a, bs, rfl, q.sq, outBl out⟩
theorem g_all (hc : X.calm = true) (hm : X.mg "all" = none) (ha : PA X (e :: es) (tA (gc X A0 W) fs)) (hg : Gl X "all" := by rfl)
    (he : starEach (e :: es) X.env = (false, eval e X.env) :: starEach es X.env := by rfl) (hpl : (backTo pos (starEach es X.env)).any (·.1) = false := by rfl) : PE X (.Call (.Name "all" p) (e :: es) [] pos) (tE (gc X A0 W) (opN allD fs)) :=
  gcall (cr_all hc) allD_ok hm (by decide +kernel) ha hg (by decide) (by decide) he hpl
theorem g_any (hc : X.calm = true) (hm : X.mg "any" = none) (ha : PA X (e :: es) (tA (gc X A0 W) fs)) (hg : Gl X "any" := by rfl)
    (he : starEach (e :: es) X.env = (false, eval e X.env) :: starEach es X.env := by rfl) (hpl : (backTo pos (starEach es X.env)).any (·.1) = false := by rfl) : PE X (.Call (.Name "any" p) (e :: es) [] pos) (tE (gc X A0 W) (opN anyD fs)) :=
  gcall (cr_any hc) anyD_ok hm (by decide +kernel) ha hg (by decide) (by decide) he hpl
/-! abs, max, min of two ints -/
def absD : List PyData → Option Ev
  | [.int i] => some (.val (.int (if i < 0 then -i else i)))
  | _ => none
def max2D : List PyData → Option Ev
  | [.int i, .int j] => some (.val (.int (if j > i then j else i)))
  | _ => none
def min2D : List PyData → Option Ev
  | [.int i, .int j] => some (.val (.int (if j < i then j else i)))
  | _ => none
theorem max2D_ok {K : PySem.W.Frag} : CallD K (fun xs H Q => ∃ i j, xs = [.int i, .int j] ∧ Q (.int (if j > i then j else i)) H) max2D := by
  intro S H xs ds ev Q h he out
  match ds, he with
  | [.int i, .int j], he => cases he; obtain ⟨v, u, rfl, hv, hu⟩ := dw2 h; exact ⟨i, j, by rw [hv.int, hu.int], outInt out⟩
theorem min2D_ok {K : PySem.W.Frag} : CallD K (fun xs H Q => ∃ i j, xs = [.int i, .int j] ∧ Q (.int (if j < i then j else i)) H) min2D := by
  intro S H xs ds ev Q h he out
  match ds, he with
  | [.int i, .int j], he => cases he; obtain ⟨v, u, rfl, hv, hu⟩ := dw2 h; exact ⟨i, j, by rw [hv.int, hu.int], outInt out⟩
theorem g_max2 (hc : X.calm = true) (hm : X.mg "max" = none) (ha : PA X (e :: es) (tA (gc X A0 W) fs)) (hg : Gl X "max" := by rfl)
    (he : starEach (e :: es) X.env = (false, eval e X.env) :: starEach es X.env := by rfl) (hpl : (backTo pos (starEach es X.env)).any (·.1) = false := by rfl) : PE X (.Call (.Name "max" p) (e :: es) [] pos) (tE (gc X A0 W) (opN max2D fs)) :=
  gcall (call_max2 hc) max2D_ok hm (by decide +kernel) ha hg (by decide) (by decide) he hpl
theorem g_min2 (hc : X.calm = true) (hm : X.mg "min" = none) (ha : PA X (e :: es) (tA (gc X A0 W) fs)) (hg : Gl X "min" := by rfl)
    (he : starEach (e :: es) X.env = (false, eval e X.env) :: starEach es X.env := by rfl) (hpl : (backTo pos (starEach es X.env)).any (·.1) = false := by rfl) : PE X (.Call (.Name "min" p) (e :: es) [] pos) (tE (gc X A0 W) (opN min2D fs)) :=
  gcall (call_min2 hc) min2D_ok hm (by decide +kernel) ha hg (by decide) (by decide) he hpl
/-! tuple(x), list(x) -/
def tupleD : List PyData → Option Ev
  | [.list ds] => some (.val (.tuple ds))
  | [.tuple ds] => some (.val (.tuple ds))
  | _ => none
def listD : List PyData → Option Ev
  | [.list ds] => some (.fr (.list ds))
  | [.tuple ds] => some (.fr (.list ds))
  | [.dict kvs] => if keyed kvs = true then some (.fr (.list (kvs.map (·.1)))) else none
  | _ => none
theorem tupleD_ok {K : PySem.W.Frag} : CallD K (fun xs H Q => ∃ p ys, xs = [.ref p] ∧ ((SqL K H p ys ∧ ∀ l, H l = none → Q (.ref l) (upd H l (.tup ys))) ∨ (SqT K H p ys ∧ Q (.ref p) H))) tupleD := by
  intro S H xs ds ev Q h he out
  match ds, he with
  | [.list ds], he =>
    cases he
    obtain ⟨v, rfl, hv⟩ := dw1 h
    obtain ⟨a, ys, rfl, q, rr⟩ := hv.lst
    exact ⟨a, ys, rfl, .inl ⟨q.sq, outTup rr out⟩⟩
  | [.tuple ds], he =>
    cases he
    obtain ⟨v, rfl, hv⟩ := dw1 h
    obtain ⟨a, ys, rfl, q, rr⟩ := hv.tup
    exact ⟨a, ys, rfl, .inr ⟨q, out _ H (fun _ _ e => e) (.tup q rr)⟩⟩
theorem g_tuple (hm : X.mg "tuple" = none) (ha : PA X (e :: es) (tA (gc X A0 W) fs)) (hg : Gl X "tuple" := by rfl)
    (he : starEach (e :: es) X.env = (false, eval e X.env) :: starEach es X.env := by rfl) (hpl : (backTo pos (starEach es X.env)).any (·.1) = false := by rfl) : PE X (.Call (.Name "tuple" p) (e :: es) [] pos) (tE (gc X A0 W) (opN tupleD fs)) :=
  gcallT call_tuple_of tupleD_ok hm (by decide +kernel) ha hg (by decide) (by decide) he hpl
/-! isinstance with a built-in class -/
def tyD : PyData → String
  | .none => "NoneType"
  | .bool _ => "bool"
  | .int _ => "int"
  | .str _ => "str"
  | .list _ => "list"
  | .tuple _ => "tuple"
  | .dict _ => "dict"
/-- the type of a datum's value -/
def TyY (K : PySem.W.Frag) (H : Hp) (x : V) (t : Value) : Prop := TyX K H x t ∨ ∃ a b xs, x = .ref a ∧ (H a = some (TX b xs) ∨ ∃ od, H a = some (.frz od (TX b xs))) ∧ t = .type "dict"
theorem tyY_of {X : Cx} {pins : List (Addr × Obj)} {σ : St} {H : Hp} {s : Shared} {x : V} {u t : Value} (I : Inv X pins σ H s) (rx : RelV x u) (ty : TyY X.K H x t) : ∃ P : Heap → Prop, PySem.W.KitX X.K u t P ∧ P s.heap ∧ u ≠ .builtin "__main__.__loader__#opaque" := by
  rcases ty with ty | ⟨a, b, xs, rfl, h, rfl⟩
  · exact kit_of I rx ty
  · cases (show u = Value.ref a from rx)
    have ok : ObjOk X.prog X.w H s.heap a (TX b xs) := by
      rcases h with h | ⟨od, h⟩
      · exact I.hok a _ h
      · exact (show ObjOk X.prog X.w H s.heap a (.frz od (TX b xs)) from I.hok a _ h).2
    obtain rfl := tx_addr ok
    obtain ⟨⟨_, _, _, o, es, ep, h1, h2, _⟩, _⟩ := ok
    exact ⟨_, PySem.W.kitx_dict, ⟨o, h1, h2.1⟩, fun z => nomatch z⟩
def rIsiY (K : PySem.W.Frag) : List V → Hp → VK → Prop := fun xs H Q => ∃ (x c : V) (t u : Value) (b : Bool), xs = [x, c] ∧ ClsV c u ∧ TyY K H x t ∧ PySem.W.kitOne K t u = some b ∧ Q (.bl b) H
theorem call_isiY {X : Cx} : CallR X (.builtin "isinstance") (rIsiY X.K) := by
  intro pins s σ H xs us Q I r h
  obtain ⟨x, c, t, u, b, rfl, k, ty, e, q⟩ := h
  obtain ⟨u1, u2, rfl, r1, r2⟩ := vals2 r
  have e2 := k.eq r2
  subst e2
  obtain ⟨P, Z, p, hx⟩ := tyY_of I r1 ty
  exact PySem.W.kia_one Z I.kIn p e hx fun tk => ⟨.bl b, H, I.tok tk, rfl, q⟩
theorem Dw.tyx {K : PySem.W.Frag} {S : Addr → Prop} {H : Hp} {v : V} {d : PyData} (h : Dw K S H v d) : TyY K H v (.type (tyD d)) := by
  cases d with
  | none => rw [h.non]; exact .inl (.base .non)
  | bool b => rw [h.bl]; exact .inl (.base (.bl b))
  | int i => rw [h.int]; exact .inl (.base (.int i))
  | str x => rw [h.str]; exact .inl (.base (.str x))
  | list ds =>
    obtain ⟨a, xs, rfl, q, _⟩ := h.lst
    rcases q with q | ⟨o, q⟩ | ⟨its, n, q, _⟩
    · exact .inl (.base (.lst q))
    · exact .inl (.base (.frz q))
    · exact .inl (.kList q rfl)
  | tuple ds =>
    obtain ⟨a, xs, rfl, q, _⟩ := h.tup
    rcases q with (q | ⟨o, q⟩) | ⟨o, its, n, q, c, _⟩
    · exact .inl (.base (.tup q))
    · exact .inl (.fTuple q)
    · exact .inl (.kTuple q c)
  | dict kvs =>
    have key : ∀ (o : HO) (a : Addr), HasO H a o → Ct K S H o (.dict kvs) → TyY K H (.ref a) (.type "dict") := fun o a e c => by
      generalize hd : PyData.dict kvs = D at c
      cases c with
      | lst _ => cases hd
      | dK _ =>
        rcases e with e | ⟨_, od, e⟩
        · exact .inl (.base (.dK e))
        · exact .inl (.fDict e)
      | dX _ _ _ =>
        rcases e with e | ⟨_, od, e⟩
        · exact .inr ⟨_, _, _, rfl, .inl e, rfl⟩
        · exact .inr ⟨_, _, _, rfl, .inr ⟨od, e⟩, rfl⟩
    rcases h with h | ⟨a, rfl, o, e, c⟩
    · cases h with
      | obj e _ c => exact key _ _ e c
    · exact key _ _ (.inl e) c
def isiS (T s : String) : Bool := s == T || (T == "int" && s == "bool")
def isiB (T : String) (d : PyData) : Bool := isiS T (tyD d)
def isiD (T : String) : PyData → Option Ev := fun d => some (.val (.bool (isiB T d)))
def KitOk (T : String) : Prop := ∀ d, kitB (tyD d) T = some (isiB T d)
theorem kit_mk {T : String} (h : (["NoneType", "bool", "int", "str", "list", "tuple", "dict"].all fun s => kitB s T == some (isiS T s)) = true) : KitOk T := fun d => by
  have := List.all_eq_true.mp h (tyD d) (by cases d <;> simp [tyD])
  exact eq_of_beq this
theorem kit_int : KitOk "int" := kit_mk (by decide +kernel)
theorem kit_bool : KitOk "bool" := kit_mk (by decide +kernel)
theorem kit_tuple : KitOk "tuple" := kit_mk (by decide +kernel)
theorem g_isi {T : String} {y : Str} {p2 : Pos} (k : KitOk T) (hm : X.mg "isinstance" = none) (hm2 : X.mg y = none) (hv2 : bootBuiltins y = some (.type T)) (ha : PE X e (tE (gc X A0 W) f)) (hg : Gl X "isinstance" := by rfl) (hg2 : Gl X y := by rfl)
    (hn2 : y ≠ "__name__" := by decide) (hdb2 : (y == ("__debug__" : Str)) = false := by decide)
    (he : starEach [e, .Name y p2] X.env = (false, eval e X.env) :: starEach [.Name y p2] X.env := by rfl) (he2 : starEach [.Name y p2] X.env = (false, eval (.Name y p2) X.env) :: starEach [] X.env := by rfl)
    (hpl : (backTo pos (starEach [.Name y p2] X.env)).any (·.1) = false := by rfl) :
    PE X (.Call (.Name "isinstance" p) [e, .Name y p2] [] pos) (tE (gc X A0 W) (op1 (isiD T) f)) := by
  refine PE_imp (pe_callB call_isiY hg hm (by decide +kernel) (pa_cons ha (pa_cons (pe_bltn (v := .ty T) hg2 hm2 hv2 rfl hn2 hdb2) pa_nil he2) he) (by decide) (by decide) he hpl) fun σ H Q h => ?_
  refine op1_ok (g := gc X A0 W) (r := fun x H Q => rIsiY X.K [x, .ty T] H Q) (b := isiD T) (fun S H x d ev Q hd he out => ?_) σ H Q h
  cases he
  exact ⟨x, .ty T, .type (tyD d), .type T, _, rfl, .ty T, hd.tyx, kit_ty (k d), outBl out⟩
end
end G
namespace G
open PySem PySem.Spec PyProof.Rows L2
/-- how a statement ends -/
inductive Fl where
  | nx (ρ : List B) | rt (e : Ev) (ρ : List B) | bk (ρ : List B) | ct (ρ : List B)
abbrev SS := List B → Rs Fl
def Fl.env : Fl → List B
  | .nx ρ => ρ
  | .rt _ ρ => ρ
  | .bk ρ => ρ
  | .ct ρ => ρ
def EndFl (g : Gc) (H0 : Hp) (D : Ends) (S : Addr → Prop) (H : Hp) (σ : St) : Fl → Prop
  | .nx _ => D.nx σ H
  | .bk _ => D.bk σ H
  | .ct _ => D.ct σ H
  | .rt e ρ => ∀ v, RE g.K g.A0 H0 S H σ ρ v e → D.rt v H
def PostS (g : Gc) (S : Addr → Prop) (H : Hp) (σ : St) (ρ : List B) (r : Rs Fl) (D : Ends) : Prop := match r with
  | .ok fl => ∀ S' H' σ', Tr S H (Ow σ ρ) S' H' (Ow σ' fl.env) → Rp g.K g.A0 S' H' σ' fl.env → EndFl g H D S' H' σ' fl
  | .ex n ρ' => ∀ S' H' σ', Tr S H (Ow σ ρ) S' H' (Ow σ' ρ') → Rp g.K g.A0 S' H' σ' ρ' → g.wx n σ' H'
  | .bad => False
def tSt (g : Gc) (f : SS) : TS := fun D σ H => ∃ S ρ, Rp g.K g.A0 S H σ ρ ∧ PostS g S H σ ρ (f ρ) D
section
variable {g : Gc} {S S' : Addr → Prop} {H H' : Hp} {σ σ' : St} {ρ ρ' : List B} {D : Ends}
theorem PostS.from {r : Rs Fl} (t : Tr S H (Ow σ ρ) S' H' (Ow σ' ρ')) (h : PostS g S H σ ρ r D) : PostS g S' H' σ' ρ' r D := by
  cases r with
  | ok fl =>
    intro S2 H2 σ2 t2 r2
    have q := h S2 H2 σ2 (t.trans t2) r2
    cases fl with
    | nx _ => exact q
    | bk _ => exact q
    | ct _ => exact q
    | rt e ρ2 => exact fun v re => q v (re.back fun a hz => t.fresh hz)
  | ex n ρ2 => exact fun S2 H2 σ2 t2 r2 => h S2 H2 σ2 (t.trans t2) r2
  | bad => exact h
theorem PostS.bad : ¬ PostS g S H σ ρ .bad D := fun h => h
theorem exS : ∀ n ρ', PostS g S H σ ρ (.ex n ρ') D → ∀ S' H', Tr S H (Ow σ ρ) S' H' (Ow σ ρ') → Rp g.K g.A0 S' H' σ ρ' → g.wx n σ H' := fun _ _ h S' H' t r => h S' H' σ t r
end
def nxS : SS := fun ρ => .ok (.nx ρ)
def seqS (f1 f2 : SS) : SS := fun ρ => (f1 ρ).bind fun r => match r with
  | .nx ρ' => f2 ρ'
  | r => .ok r
section
variable {X : Cx} {A0 : Ax} {W : WX} {st : Stmt} {rest : List Stmt} {f f1 f2 : SS} {e : Expr} {fe : SE} {pos : Pos}
theorem gs_nil : PSs X [] (tSt (gc X A0 W) nxS) := PSs_imp pss_nil fun D σ H ⟨S, ρ, r, h⟩ => h S H σ Tr.refl r
theorem seq_ok {g : Gc} : ∀ D σ H, tSt g (seqS f1 f2) D σ H → tSeq (tSt g f1) (tSt g f2) D σ H := by
  rintro D σ H ⟨S, ρ, r, h⟩
  refine ⟨S, ρ, r, ?_⟩
  unfold seqS at h
  cases e : f1 ρ with
  | bad => rw [e] at h; exact h
  | ex n ρ' => rw [e] at h; exact h
  | ok fl =>
    rw [e] at h
    cases fl with
    | nx ρ' => exact fun S' H' σ' t r' => ⟨S', ρ', r', PostS.from t h⟩
    | rt ev ρ' => exact h
    | bk ρ' => exact h
    | ct ρ' => exact h
theorem gs_cons (h1 : PS X st (tSt (gc X A0 W) f1)) (h2 : PSs X rest (tSt (gc X A0 W) f2)) : PSs X (st :: rest) (tSt (gc X A0 W) (seqS f1 f2)) := PSs_imp (pss_cons h1 h2) seq_ok
theorem gs_one (h1 : PS X st (tSt (gc X A0 W) f1)) : PSs X [st] (tSt (gc X A0 W) f1) := pss_one h1
def bkS : SS := fun ρ => .ok (.bk ρ)
def ctS : SS := fun ρ => .ok (.ct ρ)
def retS (fe : SE) : SS := fun ρ => (fe ρ).bind fun p => .ok (.rt p.1 p.2)
theorem gs_ret (he : PE X e (tE (gc X A0 W) fe)) : PS X (.Return (some e) pos) (tSt (gc X A0 W) (retS fe)) := PS_imp (ps_ret he) fun D σ H ⟨S, ρ, r, h⟩ =>
  tE_bind (P := fun z => PostS (gc X A0 W) S H σ ρ z D) exS PostS.bad r h fun p S1 H1 v1 t1 r1 e1 h => h S1 H1 σ t1 r1 v1 e1
def retNS : SS := fun ρ => .ok (.rt (.val .none) ρ)
def dropS (fe : SE) : SS := fun ρ => (fe ρ).bind fun p => .ok (.nx p.2)
theorem gs_expr (he : PE X e (tE (gc X A0 W) fe)) (hs : swapsWith e none pos.line X.env = pure false := by rfl) : PS X (.Expr e pos) (tSt (gc X A0 W) (dropS fe)) := PS_imp (ps_expr he hs) fun D σ H ⟨S, ρ, r, h⟩ =>
  tE_bind (P := fun z => PostS (gc X A0 W) S H σ ρ z D) exS PostS.bad r h fun p S1 H1 v1 t1 r1 e1 h => h S1 H1 σ t1 r1
def ifS (c : SB) (f1 f2 : SS) : SS := fun ρ => (c ρ).bind fun p => if p.1 = true then f1 p.2 else f2 p.2
theorem gs_if {c : Expr} {a b : List Stmt} {fc : SB} (hc : PT X c (tT (gc X A0 W) fc)) (ha : PSs X a (tSt (gc X A0 W) f1)) (hb : PSs X b (tSt (gc X A0 W) f2)) : PS X (.If c a b pos) (tSt (gc X A0 W) (ifS fc f1 f2)) := PS_imp (ps_if hc ha hb) fun D σ H ⟨S, ρ, r, h⟩ =>
  tT_bind (P := fun z => PostS (gc X A0 W) S H σ ρ z D) exS PostS.bad r h fun p S1 H1 t1 r1 h => by
    cases hp : p.1 with
    | true => rw [hp] at h; exact iteT ⟨S1, p.2, r1, PostS.from t1 h⟩
    | false => rw [hp] at h; exact iteF ⟨S1, p.2, r1, PostS.from t1 h⟩
end
/-! ### a slot is stored -/
section
variable {K : PySem.W.Frag} {A0 : Ax} {S S0 : Addr → Prop} {H H0 : Hp} {σ : St} {ρ : List B} {O0 : Addr → Prop} {i : Nat}
theorem Bd.other {σ : St} {j : Nat} {b : B} {x : Option V} (hj : i ≠ j) (h : Bd K A0 S H σ j b) : Bd K A0 S H (σ.set i x) j b := by
  cases b with
  | un => trivial
  | exc n => exact ⟨h.1, by rw [List.getElem?_set_ne hj]; exact h.2⟩
  | val d => obtain ⟨v, e, q⟩ := h; exact ⟨v, by rw [List.getElem?_set_ne hj]; exact e, q⟩
  | own d => obtain ⟨v, e, q⟩ := h; exact ⟨v, by rw [List.getElem?_set_ne hj]; exact e, q⟩
  | prm d => obtain ⟨v, e, q⟩ := h; exact ⟨v, by rw [List.getElem?_set_ne hj]; exact e, q⟩
  | ob c fs => obtain ⟨v, e, q⟩ := h; exact ⟨v, by rw [List.getElem?_set_ne hj]; exact e, q⟩
theorem OwI.other {x : Option V} {b : B} {j : Nat} {a : Addr} (hj : i ≠ j) (h : OwI (σ.set i x) (ρ.set i b) j a) : OwI σ ρ j a := by
  obtain ⟨h1, h2⟩ := h
  rw [List.getElem?_set_ne hj] at h1 h2
  exact ⟨h1, h2⟩
theorem Rp.setVal (r : Rp K A0 S H σ ρ) {v : V} {d : PyData} (hd : Dr K S H v d) : Rp K A0 S H (σ.set i (some v)) (ρ.set i (.val d)) ∧ ∀ a, Ow (σ.set i (some v)) (ρ.set i (.val d)) a → Ow σ ρ a := by
  have own : ∀ j a, OwI (σ.set i (some v)) (ρ.set i (.val d)) j a → OwI σ ρ j a := fun j a h => by
    by_cases hj : i = j
    · subst hj
      obtain ⟨h1, _⟩ := h
      by_cases hl : i < ρ.length
      · rw [List.getElem?_set_self hl] at h1; cases h1
      · rw [List.getElem?_eq_none (by rw [List.length_set]; omega)] at h1; cases h1
    · exact OwI.other hj h
  refine ⟨⟨by rw [List.length_set, List.length_set]; exact r.len, fun j b hb => ?_, fun j k a h1 h2 => r.dis j k a (own j a h1) (own k a h2), r.al, fun j d' a h1 h2 => ?_, r.aa, r.tb⟩, fun a ⟨j, h⟩ => ⟨j, own j a h⟩⟩
  by_cases hj : i = j
  · subst hj
    have hl : i < ρ.length := by
      have := (List.getElem?_eq_some_iff.mp hb).1
      simpa using this
    rw [List.getElem?_set_self hl] at hb; cases hb
    exact ⟨v, by rw [List.getElem?_set_self (by rw [r.len]; exact hl)], hd⟩
  · rw [List.getElem?_set_ne hj] at hb
    exact (r.bd j b hb).other hj
  · by_cases hj : i = j
    · subst hj
      by_cases hl : i < ρ.length
      · rw [List.getElem?_set_self hl] at h1; cases h1
      · rw [List.getElem?_eq_none (by rw [List.length_set]; omega)] at h1; cases h1
    · rw [List.getElem?_set_ne hj] at h1 h2
      exact r.np j d' a h1 h2
theorem Rp.setOwn (r : Rp K A0 S H σ ρ) {a : Addr} {d : PyData} (hs : ¬ S a) (ho : ¬ Ow σ ρ a) (hp : ∀ j, A0 j ≠ some a) (ha : OwnAt K S H a d) : Rp K A0 S H (σ.set i (some (.ref a))) (ρ.set i (.own d)) ∧ ∀ b, Ow (σ.set i (some (.ref a))) (ρ.set i (.own d)) b → Ow σ ρ b ∨ b = a := by
  have own : ∀ j b, OwI (σ.set i (some (.ref a))) (ρ.set i (.own d)) j b → (OwI σ ρ j b ∧ i ≠ j) ∨ (j = i ∧ b = a) := fun j b h => by
    by_cases hj : i = j
    · subst hj
      obtain ⟨h1, h2⟩ := h
      by_cases hl : i < ρ.length
      · rw [List.getElem?_set_self (by rw [r.len]; exact hl)] at h2; cases h2; exact .inr ⟨rfl, rfl⟩
      · rw [List.getElem?_eq_none (by rw [List.length_set]; omega)] at h1; cases h1
    · exact .inl ⟨OwI.other hj h, hj⟩
  refine ⟨⟨by rw [List.length_set, List.length_set]; exact r.len, fun j b hb => ?_, fun j k b h1 h2 => ?_, r.al, fun j d' b h1 h2 => ?_, r.aa, r.tb⟩, fun b ⟨j, h⟩ => ?_⟩
  · by_cases hj : i = j
    · subst hj
      have hl : i < ρ.length := by
        have := (List.getElem?_eq_some_iff.mp hb).1
        simpa using this
      rw [List.getElem?_set_self hl] at hb; cases hb
      exact ⟨a, by rw [List.getElem?_set_self (by rw [r.len]; exact hl)], hs, ha⟩
    · rw [List.getElem?_set_ne hj] at hb
      exact (r.bd j b hb).other hj
  · rcases own j b h1 with ⟨q1, _⟩ | ⟨q1, q2⟩
    · rcases own k b h2 with ⟨p1, _⟩ | ⟨p1, p2⟩
      · exact r.dis j k b q1 p1
      · exact (ho (p2 ▸ ⟨j, q1⟩)).elim
    · rcases own k b h2 with ⟨p1, _⟩ | ⟨p1, p2⟩
      · exact (ho (q2 ▸ ⟨k, p1⟩)).elim
      · rw [q1, p1]
  · by_cases hj : i = j
    · subst hj
      by_cases hl : i < ρ.length
      · rw [List.getElem?_set_self (by rw [r.len]; exact hl)] at h2; cases h2; exact hp
      · rw [List.getElem?_eq_none (by rw [List.length_set]; omega)] at h1; cases h1
    · rw [List.getElem?_set_ne hj] at h1 h2
      exact r.np j d' b h1 h2
  · rcases own j b h with ⟨q, _⟩ | ⟨_, q⟩
    · exact .inl ⟨j, q⟩
    · exact .inr q
end
def bindV (i : Nat) : Ev → List B → Rs (List B)
  | .val d, ρ => .ok (ρ.set i (.val d))
  | .fr d, ρ => .ok (ρ.set i (.own d))
  | .sl j, ρ => match shr ρ (.sl j) with
    | some (d, ρ') => .ok (ρ'.set i (.val d))
    | none => .bad
theorem bindV_ok {g : Gc} {S S0 : Addr → Prop} {H H0 : Hp} {σ σ0 : St} {ρ ρ0 ρ' : List B} {i : Nat} {e : Ev} {v : V} (t : Tr S0 H0 (Ow σ0 ρ0) S H (Ow σ ρ)) (r : Rp g.K g.A0 S H σ ρ) (h : RE g.K g.A0 H0 S H σ ρ v e)
    (hb : bindV i e ρ = .ok ρ') : ∃ S', Tr S0 H0 (Ow σ0 ρ0) S' H (Ow (σ.set i (some v)) ρ') ∧ Rp g.K g.A0 S' H (σ.set i (some v)) ρ' := by
  cases e with
  | val d =>
    cases hb
    obtain ⟨r', s⟩ := r.setVal (i := i) h
    exact ⟨S, ⟨t.s, t.keep, t.dom, fun a q => t.o a (s a q), t.g⟩, r'⟩
  | fr d =>
    cases hb
    obtain ⟨a, rfl, h0, hs, ho, ha⟩ := h
    obtain ⟨r', s⟩ := r.setOwn (i := i) hs ho h0.2 ha
    refine ⟨S, ⟨t.s, t.keep, t.dom, fun b q => ?_, t.g⟩, r'⟩
    rcases s b q with q | rfl
    · exact t.o b q
    · exact .inr h0.1
  | sl j =>
    unfold bindV at hb
    cases q : shr ρ (.sl j) with
    | none => simp only [q, reduceCtorEq] at hb
    | some p =>
      obtain ⟨d, ρ1⟩ := p
      simp only [q] at hb
      cases hb
      obtain ⟨S', t', r', hd, _⟩ := shr_ok t r (show RE1 g.K S H σ v (.sl j) from h) q
      obtain ⟨r2, s⟩ := r'.setVal (i := i) hd
      have t2 := t'
      exact ⟨S', ⟨t2.s, t2.keep, t2.dom, fun a z => t2.o a (s a z), t2.g⟩, r2⟩
def asgS (i : Nat) (fe : SE) : SS := fun ρ => (fe ρ).bind fun p => (bindV i p.1 p.2).bind fun ρ' => .ok (.nx ρ')
section
variable {X : Cx} {A0 : Ax} {W : WX} {e : Expr} {fe : SE} {pos pos' : Pos}
theorem gs_set (i : Nat) {x : Str} (hN : X.N.Nodup) (he : PE X e (tE (gc X A0 W) fe)) (hi : X.N[i]? = some x := by rfl) (hx : Loc X.env.scope x := by first | exact Or.inl rfl | exact Or.inr rfl) (hs : swapsWith e (some (.Name x pos')) pos.line X.env = pure false := by rfl) (hf : X.fn x = true ∨ X.env.scope.names.lookup x = some .local := by first | exact .inl rfl | exact .inr rfl | assumption) :
    PS X (.Assign [.Name x pos'] e pos) (tSt (gc X A0 W) (asgS i fe)) := PS_imp (ps_set hN hi hx he hs hf) fun D σ H ⟨S, ρ, r, h⟩ =>
  tE_bind (P := fun z => PostS (gc X A0 W) S H σ ρ z D) exS PostS.bad r h fun p S1 H1 v1 t1 r1 e1 h => by
    show D.nx _ _
    cases hb : bindV i p.1 p.2 with
    | bad => rw [hb] at h; exact h.elim
    | ex n ρ' =>
      exfalso
      revert hb
      unfold bindV
      split
      · nofun
      · nofun
      · split <;> nofun
    | ok ρ' =>
      rw [hb] at h
      obtain ⟨S2, t2, r2⟩ := bindV_ok t1 r1 e1 hb
      exact h S2 H1 _ t2 r2
end
/-! ### targets -/
abbrev SG := PyData → List B → Rs (List B)
def PostG (g : Gc) (tv : List Nat) (S : Addr → Prop) (H : Hp) (σ : St) (ρ : List B) (r : Rs (List B)) (Q : St → Hp → Prop) : Prop := match r with
  | .ok ρ' => ∀ S' H' σ', Tr S H (Ow σ ρ) S' H' (Ow σ' ρ') → Rp g.K g.A0 S' H' σ' ρ' → wipe σ' tv = wipe σ tv → Q σ' H'
  | _ => False
def tG (g : Gc) (tv : List Nat) (ft : SG) : TG := fun v σ H Q => ∃ S ρ d, Rp g.K g.A0 S H σ ρ ∧ Dr g.K S H v d ∧ PostG g tv S H σ ρ (ft d ρ) Q
def tGs (g : Gc) (tv : List Nat) (ft : List PyData → List B → Rs (List B)) : TGs := fun vs σ H Q => ∃ S ρ ds, Rp g.K g.A0 S H σ ρ ∧ DrAll g.K S H vs ds ∧ PostG g tv S H σ ρ (ft ds ρ) Q
theorem wipe_get {σ : St} {k : Nat} : ∀ {vs : List Nat}, (wipe σ vs)[k]? = if k ∈ vs then (σ[k]?).map fun _ => none else σ[k]?
  | [] => by simp [wipe]
  | v :: vs => by
    unfold wipe
    by_cases hk : v = k
    · subst hk
      rw [if_pos (List.mem_cons_self ..)]
      by_cases hl : v < σ.length
      · rw [List.getElem?_set_self (by rw [wipe_length]; exact hl), List.getElem?_eq_getElem hl]; rfl
      · rw [List.getElem?_eq_none (by rw [List.length_set, wipe_length]; omega), List.getElem?_eq_none (by omega)]; rfl
    · rw [List.getElem?_set_ne hk, wipe_get]
      by_cases hm : k ∈ vs
      · rw [if_pos hm, if_pos (List.mem_cons_of_mem _ hm)]
      · rw [if_neg hm, if_neg]
        intro z
        rcases List.mem_cons.mp z with z | z
        · exact hk z.symm
        · exact hm z
theorem wipe_set {σ : St} {i : Nat} {x : Option V} {vs : List Nat} (h : i ∈ vs) : wipe (σ.set i x) vs = wipe σ vs := by
  apply List.ext_getElem?
  intro k
  rw [wipe_get, wipe_get]
  by_cases hk : k ∈ vs
  · rw [if_pos hk, if_pos hk]
    by_cases hi : i = k
    · subst hi
      by_cases hl : i < σ.length
      · rw [List.getElem?_set_self hl, List.getElem?_eq_getElem hl]; rfl
      · rw [List.getElem?_eq_none (by rw [List.length_set]; omega), List.getElem?_eq_none (by omega)]
    · rw [List.getElem?_set_ne hi]
  · rw [if_neg hk, if_neg hk, List.getElem?_set_ne (fun z => hk (by rw [← z]; exact h))]
theorem PostG.from {g : Gc} {tv : List Nat} {S S' : Addr → Prop} {H H' : Hp} {σ σ' : St} {ρ ρ' : List B} {r : Rs (List B)} {Q : St → Hp → Prop} (t : Tr S H (Ow σ ρ) S' H' (Ow σ' ρ')) (hw : wipe σ' tv = wipe σ tv) (h : PostG g tv S H σ ρ r Q) : PostG g tv S' H' σ' ρ' r Q := by
  cases r with
  | ok p => exact fun S2 H2 σ2 t2 r2 w2 => h S2 H2 σ2 (t.trans t2) r2 (w2.trans hw)
  | ex n ρ2 => exact h
  | bad => exact h
def nmG (i : Nat) : SG := fun d ρ => .ok (ρ.set i (.val d))
def nilG : List PyData → List B → Rs (List B) := fun ds ρ => match ds with
  | [] => .ok ρ
  | _ => .bad
def consG (t : SG) (u : List PyData → List B → Rs (List B)) : List PyData → List B → Rs (List B) := fun ds ρ => match ds with
  | d :: r => (t d ρ).bind (u r)
  | [] => .bad
def tupG (n : Nat) (u : List PyData → List B → Rs (List B)) : SG := fun d ρ => match d with
  | .tuple ds => if ds.length = n then u ds ρ else .bad
  | .list ds => if ds.length = n then u ds ρ else .bad
  | _ => .bad
section
variable {X : Cx} {A0 : Ax} {W : WX} {pos : Pos} {tv : List Nat}
theorem gg_name (i : Nat) {x : Str} (hN : X.N.Nodup) (hi : X.N[i]? = some x := by rfl) (hx : Loc X.env.scope x := by first | exact Or.inl rfl | exact Or.inr rfl) (hf : X.fn x = true ∨ X.env.scope.names.lookup x = some .local := by first | exact .inl rfl | exact .inr rfl | assumption) (hm : i ∈ tv := by decide) : PG X (.Name x pos) (tG (gc X A0 W) tv (nmG i)) := by
  refine ⟨fun pins s σ H v u Q I r h => (pg_name hN hi hx hf).run pins s σ H v u Q I r ?_⟩
  obtain ⟨S, ρ, d, rp, hd, h⟩ := h
  obtain ⟨r', s⟩ := rp.setVal (i := i) hd
  exact h S H _ ⟨fun _ q => q, fun _ _ q _ => .inl q, fun _ o q => ⟨o, q⟩, fun a q => .inl (s a q), fun _ q => .inl q⟩ r' (wipe_set hm)
theorem ggs_nil : PGs X [] (tGs (gc X A0 W) tv nilG) := by
  refine ⟨fun pins s σ H vs us Q I r h => pgs_nil.run pins s σ H vs us Q I r ?_⟩
  obtain ⟨S, ρ, ds, rp, hd, h⟩ := h
  cases ds with
  | nil => cases hd; exact ⟨rfl, h S H σ Tr.refl rp rfl⟩
  | cons _ _ => exact h.elim
theorem ggs_cons {e : Expr} {es : List Expr} {t : SG} {u : List PyData → List B → Rs (List B)} (h1 : PG X e (tG (gc X A0 W) tv t)) (h2 : PGs X es (tGs (gc X A0 W) tv u))
    (hs : (assignEach (e :: es) X.env).map (·.2) = assign e X.env :: (assignEach es X.env).map (·.2) := by rfl) : PGs X (e :: es) (tGs (gc X A0 W) tv (consG t u)) := by
  refine ⟨fun pins s σ H vs us Q I r h => (pgs_cons h1 h2 hs).run pins s σ H vs us Q I r ?_⟩
  obtain ⟨S, ρ, ds, rp, hd, h⟩ := h
  cases ds with
  | nil => exact h.elim
  | cons d ds =>
    cases hd with
    | cons hd1 hd2 =>
      refine ⟨_, _, rfl, S, ρ, d, rp, hd1, ?_⟩
      simp only [consG] at h
      cases e : t d ρ with
      | ok ρ' =>
        rw [e] at h
        exact fun S' H' σ' t' r' w' => ⟨S', ρ', ds, r', hd2.ex (rp.ex t'), PostG.from t' w' h⟩
      | ex n ρ' => rw [e] at h; exact h.elim
      | bad => rw [e] at h; exact h.elim
theorem gg_tup {es : List Expr} {k : Nat} {u : List PyData → List B → Rs (List B)} {n : Nat} (hc : X.calm = true) (h : PGs X es (tGs (gc X A0 W) tv u))
    (hn : (assignEach es X.env).length = n := by rfl) (hst : (assignEach es X.env).findIdx? (·.1) = none := by rfl) : PG X (.Tuple es k pos) (tG (gc X A0 W) tv (tupG n u)) := by
  refine ⟨fun pins s σ H v w Q I r q => ?_⟩
  obtain ⟨S, ρ, d, rp, hd, q⟩ := q
  cases d with
  | tuple ds =>
    simp only [tupG] at q
    split at q
    · rename_i hl
      obtain ⟨a, xs, rfl, hq, hx⟩ := hd.tupE
      exact (pg_tup hc h hn hst).run pins s σ H _ w Q I r ⟨a, xs, rfl, hq, by rw [hx.length]; exact hl, S, ρ, ds, rp, hx, q⟩
    · exact q.elim
  | list ds =>
    simp only [tupG] at q
    split at q
    · rename_i hl
      obtain ⟨a, xs, rfl, hq, hx⟩ := hd.w.lst
      exact (pg_unl hc h hn hst).run pins s σ H _ w Q I r ⟨a, xs, rfl, hq.sq, by rw [hx.length]; exact hl, S, ρ, ds, rp, hx, q⟩
    · exact q.elim
  | _ => exact q.elim
/-- target = value, the value a datum -/
def asgG (t : SG) (fe : SE) : SS := fun ρ => (fe ρ).bind fun p => match shr p.2 (settle p.1) with
  | some (d, ρ1) => (match t d ρ1 with
    | .ok ρ' => .ok (.nx ρ')
    | _ => .bad)
  | none => .bad
theorem gs_asg {tg e : Expr} {fe : SE} {t : SG} (he : PE X e (tE (gc X A0 W) fe)) (hg : PG X tg (tG (gc X A0 W) tv t)) (hs : swapsWithSole [tg] e pos.line X.env = pure false := by rfl) (hw : swappedStores [tg] e X.env = pure none := by rfl)
    (h1 : (assignEach [tg] X.env).map (·.2) = [assign tg X.env] := by rfl) : PS X (.Assign [tg] e pos) (tSt (gc X A0 W) (asgG t fe)) := PS_imp (ps_asg he hg hs hw h1) fun D σ H ⟨S, ρ, r, h⟩ =>
  tE_bind (P := fun z => PostS (gc X A0 W) S H σ ρ z D) exS PostS.bad r h fun p S1 H1 v1 t1 r1 e1 h => by
    obtain ⟨S1', t1', r1', e1', _⟩ := settle_ok t1 r1 e1
    cases q : shr p.2 (settle p.1) with
    | none => rw [q] at h; exact h.elim
    | some pr =>
      obtain ⟨d, ρ1⟩ := pr
      rw [q] at h
      obtain ⟨S2, t2, r2, hd, _⟩ := shr_ok t1' r1' e1' q
      simp only at h
      refine ⟨S2, ρ1, d, r2, hd, ?_⟩
      cases e : t d ρ1 with
      | ok ρ' => rw [e] at h; exact fun S' H' σ' t' r' _ => h S' H' σ' (t2.trans t') r'
      | ex n ρ' => rw [e] at h; exact h.elim
      | bad => rw [e] at h; exact h.elim
end
end G
namespace G
open PySem PySem.Spec PyProof.Rows L2
/-! ### while -/
def whF (c : SB) (b : SS) : Nat → SS
  | 0, _ => .bad
  | n + 1, ρ => (c ρ).bind fun p => if p.1 = true then (b p.2).bind fun r => (match r with
      | .nx ρ' => whF c b n ρ'
      | .ct ρ' => whF c b n ρ'
      | .bk ρ' => .ok (.nx ρ')
      | .rt e ρ' => .ok (.rt e ρ')) else .ok (.nx p.2)
/-- μ: how many turns at most -/
def whS (μ : List B → Nat) (c : SB) (b : SS) : SS := fun ρ => whF c b (μ ρ) ρ
section
variable {X : Cx} {A0 : Ax} {W : WX} {pos : Pos}
theorem gs_while (μ : List B → Nat) {c : Expr} {body : List Stmt} {fc : SB} {fb : SS} (hp : PassesOwn (model X.prog X.w) X.A X.env X.xe) (hc : PT X c (tT (gc X A0 W) fc)) (hb : PSs X body (tSt (gc X A0 W) fb)) : PS X (.While c body [] pos) (tSt (gc X A0 W) (whS μ fc fb)) := by
  refine PS_imp (ps_while hp hc hb) ?_
  rintro D σ0 H0 ⟨S0, ρ0, r0, h0⟩
  refine ⟨fun m σ H => tSt (gc X A0 W) (whF fc fb m) D σ H, ⟨_, S0, ρ0, r0, h0⟩, ?_⟩
  rintro m σ H ⟨S, ρ, r, h⟩
  cases m with
  | zero => exact h.elim
  | succ n =>
    refine tT_bind (P := fun z => PostS (gc X A0 W) S H σ ρ z D) exS PostS.bad r h fun p S1 H1 t1 r1 h1 => ?_
    cases hp : p.1 with
    | false =>
      rw [hp] at h1
      exact iteF (h1 S1 H1 σ t1 r1)
    | true =>
      rw [hp] at h1
      refine iteT ⟨fun σ' H' => tSt (gc X A0 W) (whF fc fb n) D σ' H', fun σ' H' q => ⟨n, Nat.lt_succ_self n, q⟩, S1, p.2, r1, ?_⟩
      cases e : fb p.2 with
      | bad => rw [e] at h1; exact h1.elim
      | ex k ρ' => rw [e] at h1; exact PostS.from t1 h1
      | ok fl =>
        rw [e] at h1
        cases fl with
        | nx ρ' => exact fun S' H' σ' t' r' => ⟨S', ρ', r', PostS.from (t1.trans t') h1⟩
        | ct ρ' => exact fun S' H' σ' t' r' => ⟨S', ρ', r', PostS.from (t1.trans t') h1⟩
        | bk ρ' => exact fun S' H' σ' t' r' => h1 S' H' σ' (t1.trans t') r'
        | rt ev ρ' => exact fun S' H' σ' t' r' v re => h1 S' H' σ' (t1.trans t') r' v (re.back fun a hz => t1.fresh hz)
end
/-! ### what is walked -/
theorem Ex.trans {S S1 S2 : Addr → Prop} {H H1 H2 : Hp} (a : Ex S H S1 H1) (b : Ex S1 H1 S2 H2) : Ex S H S2 H2 :=
  ⟨fun c h => b.s c (a.s c h), fun c o h n e => b.sh c o (a.s c h) n (a.sh c o h n e), fun c xs h => b.tup c xs (a.tup c xs h), fun c o u h => b.frz c o u (a.frz c o u h), fun c fs h => b.xd c fs (a.xd c fs h)⟩
structure ItOk (K : PySem.W.Frag) (J : It) (S0 : Addr → Prop) (H0 : Hp) (ds : List PyData) : Prop where
  at_ : ∀ S H i d, Ex S0 H0 S H → ds[i]? = some d → J.go i H ∧ ∀ x H', J.yld i H x H' → L2.Same H H' ∧ Dr K S H' x d
  end_ : ∀ S H, Ex S0 H0 S H → J.stop ds.length H
theorem ItOk.mono {K : PySem.W.Frag} {J : It} {S S' : Addr → Prop} {H H' : Hp} {ds : List PyData} (x : Ex S H S' H') (h : ItOk K J S H ds) : ItOk K J S' H' ds :=
  ⟨fun S2 H2 i d q => h.at_ S2 H2 i d (x.trans q), fun S2 H2 q => h.end_ S2 H2 (x.trans q)⟩
abbrev SI := List B → Rs (List PyData × List B)
def PostI (g : Gc) (S : Addr → Prop) (H : Hp) (σ : St) (ρ : List B) (r : Rs (List PyData × List B)) (R : It → Hp → Prop) : Prop := match r with
  | .ok p => ∀ S' H' J, Tr S H (Ow σ ρ) S' H' (Ow σ p.2) → Rp g.K g.A0 S' H' σ p.2 → ItOk g.K J S' H' p.1 → R J H'
  | .ex n ρ' => ∀ S' H', Tr S H (Ow σ ρ) S' H' (Ow σ ρ') → Rp g.K g.A0 S' H' σ ρ' → g.wx n σ H'
  | .bad => False
def tI (g : Gc) (f : SI) : TI := fun σ H R => ∃ S ρ, Rp g.K g.A0 S H σ ρ ∧ PostI g S H σ ρ (f ρ) R
theorem tI_bind {g : Gc} {S : Addr → Prop} {H : Hp} {σ : St} {ρ : List B} {f : SI} {R : It → Hp → Prop} {α : Type} {k : List PyData × List B → Rs α} {P : Rs α → Prop} (hex : ∀ n ρ', P (.ex n ρ') → ∀ S' H', Tr S H (Ow σ ρ) S' H' (Ow σ ρ') → Rp g.K g.A0 S' H' σ ρ' → g.wx n σ H') (hbad : ¬ P .bad)
    (r : Rp g.K g.A0 S H σ ρ) (h : P ((f ρ).bind k)) (hk : ∀ p S' H' J, Tr S H (Ow σ ρ) S' H' (Ow σ p.2) → Rp g.K g.A0 S' H' σ p.2 → ItOk g.K J S' H' p.1 → P (k p) → R J H') : tI g f σ H R := by
  refine ⟨S, ρ, r, ?_⟩
  cases e : f ρ with
  | ok p => rw [e] at h; exact fun S' H' v t r' q => hk p S' H' v t r' q h
  | ex n ρ' => rw [e] at h; exact hex n ρ' h
  | bad => rw [e] at h; exact (hbad h).elim
theorem exI {g : Gc} {S : Addr → Prop} {H : Hp} {σ : St} {ρ : List B} {R : It → Hp → Prop} : ∀ n ρ', PostI g S H σ ρ (.ex n ρ') R → ∀ S' H', Tr S H (Ow σ ρ) S' H' (Ow σ ρ') → Rp g.K g.A0 S' H' σ ρ' → g.wx n σ H' := fun _ _ h => h
theorem PostI.bad {g : Gc} {S : Addr → Prop} {H : Hp} {σ : St} {ρ : List B} {R : It → Hp → Prop} : ¬ PostI g S H σ ρ .bad R := fun h => h
/-- a list or tuple walked -/
def seqI (k : PyData → Option (List PyData)) (fe : SE) : SI := fun ρ => (fe ρ).bind fun p => match shr p.2 (settle p.1) with
  | some (d, ρ1) => (match k d with
    | some ds => .ok (ds, ρ1)
    | none => .bad)
  | none => .bad
theorem seqI_bind {g : Gc} {k : PyData → Option (List PyData)} {fe : SE} {σ : St} {H : Hp} {R : It → Hp → Prop} (h : tI g (seqI k fe) σ H R) {R' : VK}
    (hk : ∀ S' H' v d ds, Dr g.K S' H' v d → k d = some ds → (∀ J, ItOk g.K J S' H' ds → R J H') → R' v H') : tE g fe σ H R' := by
  obtain ⟨S, ρ, r, h⟩ := h
  refine tE_bind (P := fun z => PostI g S H σ ρ z R) exI PostI.bad r h fun p S1 H1 v1 t1 r1 e1 h => ?_
  obtain ⟨S1', t1', r1', e1', _⟩ := settle_ok t1 r1 e1
  cases q : shr p.2 (settle p.1) with
  | none => rw [q] at h; exact h.elim
  | some pr =>
    obtain ⟨d, ρ1⟩ := pr
    rw [q] at h
    obtain ⟨S2, t2, r2, hd, _⟩ := shr_ok t1' r1' e1' q
    simp only at h
    cases e : k d with
    | none => rw [e] at h; exact h.elim
    | some ds =>
      rw [e] at h
      exact hk S2 H1 v1 d ds hd e fun J ok => h S2 H1 J t2 r2 ok
def lstK : PyData → Option (List PyData)
  | .list ds => some ds
  | _ => none
def tupK : PyData → Option (List PyData)
  | .tuple ds => some ds
  | _ => none
theorem itl_ok {K : PySem.W.Frag} {S : Addr → Prop} {H : Hp} {v : V} {ds : List PyData} (h : Dr K S H v (.list ds)) : ∃ a, v = .ref a ∧ (∃ xs, SqL K H a xs) ∧ ItOk K (Itl K a) S H ds := by
  obtain ⟨a, xs0, rfl, q0, _⟩ := h.w.lst
  have key : ∀ S2 H2, Ex S H S2 H2 → ∃ xs, SqL K H2 a xs ∧ DrAll K S2 H2 xs ds := fun S2 H2 x => by
    obtain ⟨a', xs, e, q1, q2⟩ := (h.ex x).w.lst
    cases e
    exact ⟨xs, q1.sq, q2⟩
  refine ⟨a, rfl, ⟨xs0, q0.sq⟩, fun S2 H2 i d x e => ?_, fun S2 H2 x => ?_⟩
  · obtain ⟨xs, q1, q2⟩ := key S2 H2 x
    obtain ⟨u, e1, e2⟩ := q2.get e
    refine ⟨⟨xs, u, q1, e1⟩, fun y H' hy => ?_⟩
    obtain ⟨rfl, hy⟩ := hy
    have := hy xs q1
    rw [e1] at this; cases this
    exact ⟨fun _ _ e => e, e2⟩
  · obtain ⟨xs, q1, q2⟩ := key S2 H2 x
    exact ⟨xs, q1, by rw [q2.length]; exact Nat.le_refl _⟩
theorem itt_ok {K : PySem.W.Frag} {S : Addr → Prop} {H : Hp} {v : V} {ds : List PyData} (h : Dr K S H v (.tuple ds)) : ∃ a, v = .ref a ∧ (∃ xs, SqT K H a xs) ∧ ItOk K (Itt K a) S H ds := by
  obtain ⟨a, xs0, rfl, q0, _⟩ := h.w.tup
  have key : ∀ S2 H2, Ex S H S2 H2 → ∃ xs, SqT K H2 a xs ∧ DrAll K S2 H2 xs ds := fun S2 H2 x => by
    obtain ⟨a', xs, e, q1, q2⟩ := (h.ex x).w.tup
    cases e
    exact ⟨xs, q1, q2⟩
  refine ⟨a, rfl, ⟨xs0, q0⟩, fun S2 H2 i d x e => ?_, fun S2 H2 x => ?_⟩
  · obtain ⟨xs, q1, q2⟩ := key S2 H2 x
    obtain ⟨u, e1, e2⟩ := q2.get e
    refine ⟨⟨xs, u, q1, e1⟩, fun y H' hy => ?_⟩
    obtain ⟨rfl, hy⟩ := hy
    have := hy xs q1
    rw [e1] at this; cases this
    exact ⟨fun _ _ e => e, e2⟩
  · obtain ⟨xs, q1, q2⟩ := key S2 H2 x
    exact ⟨xs, q1, by rw [q2.length]; exact Nat.le_refl _⟩
theorem itr_ok {K : PySem.W.Frag} {S : Addr → Prop} {H : Hp} {lo : Int} {n : Nat} : ItOk K (Itr lo n) S H ((List.range n).map fun i : Nat => PyData.int (lo + i)) := by
  refine ⟨fun S2 H2 i d x e => ?_, fun S2 H2 x => by rw [List.length_map, List.length_range]; exact Nat.le_refl _⟩
  rw [List.getElem?_map] at e
  by_cases hi : i < n
  · rw [List.getElem?_range hi] at e
    cases e
    refine ⟨hi, fun y H' hy => ?_⟩
    obtain ⟨rfl, rfl⟩ := hy
    exact ⟨fun _ _ e => e, .int _⟩
  · rw [List.getElem?_eq_none (by rw [List.length_range]; omega)] at e; cases e
section
variable {X : Cx} {A0 : Ax} {W : WX} {tg l : Expr} {fe : SE} {pos p : Pos}
theorem PI_imp {iter : Expr} {t t' : TI} (h : PI X tg iter t) (i : ∀ σ H R, t' σ H R → t σ H R) : PI X tg iter t' := ⟨fun pins s σ H R I q => h.run pins s σ H R I (i σ H R q)⟩
def rngOk (i : Int) : Bool := decide (-4611686018427387904 ≤ i) && decide (i < 4611686018427387904)
theorem rngOk_ok {i : Int} (h : rngOk i = true) : -(2 ^ 62) ≤ i ∧ i < 2 ^ 62 := by
  simp only [rngOk, Bool.and_eq_true, decide_eq_true_eq] at h
  have : (2 : Int) ^ 62 = 4611686018427387904 := by decide
  omega
def rng1I (fa : SA) : SI := fun ρ => (fa ρ).bind fun p => match peeks p.2 p.1 with
  | some [.int j] => if rngOk j = true then .ok ((List.range j.toNat).map fun i : Nat => PyData.int (0 + i), p.2) else .bad
  | _ => .bad
def rng2I (fa : SA) : SI := fun ρ => (fa ρ).bind fun p => match peeks p.2 p.1 with
  | some [.int i, .int j] => if (rngOk i && rngOk j) = true then .ok ((List.range (j - i).toNat).map fun k : Nat => PyData.int (i + k), p.2) else .bad
  | _ => .bad
variable {a b : Expr} {fa : SA}
theorem gi_range1 (hm : X.mg "range" = none) (ha : PA X [a] (tA (gc X A0 W) fa)) (hg : Gl X "range" := by rfl) (hs : starEach [a] X.env = [(false, eval a X.env)] := by rfl) : PI X tg (.Call (.Name "range" p) [a] [] pos) (tI (gc X A0 W) (rng1I fa)) := PI_imp (pi_range1 hg hm ha hs) fun σ H R ⟨S, ρ, r, h⟩ =>
  tA_bind (P := fun z => PostI (gc X A0 W) S H σ ρ z R) exI PostI.bad r h fun p S1 H1 vs t1 r1 e1 h => by
    cases q : peeks p.2 p.1 with
    | none => rw [q] at h; exact h.elim
    | some ds =>
      rw [q] at h
      match ds, h, peeks_ok r1 e1 q with
      | [.int j], h, dw =>
        simp only at h
        split at h
        · rename_i hj
          obtain ⟨v, rfl, hv⟩ := dw1 dw
          have := rngOk_ok hj
          exact ⟨j, by rw [hv.int], this.1, this.2, h S1 H1 _ t1 r1 itr_ok⟩
        · exact h.elim
end
/-! ### for -/
def forL (t : SG) (b : SS) : List PyData → List B → Rs Fl
  | [], ρ => .ok (.nx ρ)
  | d :: ds, ρ => match t d ρ with
    | .ok ρ1 => (b ρ1).bind fun r => (match r with
      | .nx ρ2 => forL t b ds ρ2
      | .ct ρ2 => forL t b ds ρ2
      | .bk ρ2 => .ok (.nx ρ2)
      | .rt e ρ2 => .ok (.rt e ρ2))
    | _ => .bad
def forS (it : SI) (t : SG) (b : SS) : SS := fun ρ => (it ρ).bind fun p => forL t b p.1 p.2
theorem drop_cons {α : Type} {l : List α} {i : Nat} {d : α} (h : l[i]? = some d) : l.drop i = d :: l.drop (i + 1) := by
  obtain ⟨hi, e⟩ := List.getElem?_eq_some_iff.mp h
  rw [List.drop_eq_getElem_cons hi, e]
section
variable {X : Cx} {A0 : Ax} {W : WX} {tg iter : Expr} {pos : Pos} {tv : List Nat}
theorem gs_for {body : List Stmt} {fi : SI} {ft : SG} {fb : SS} (hp : PassesOwn (model X.prog X.w) X.A X.env X.xe) (hc : X.calm = true) (hi : PI X tg iter (tI (gc X A0 W) fi)) (hg : PG X tg (tG (gc X A0 W) tv ft)) (hb : PSs X body (tSt (gc X A0 W) fb))
    (hs : ∀ x, foldedSetIterable iter X.env x = pure x := by intro _; rfl) : PS X (.For tg iter body [] pos) (tSt (gc X A0 W) (forS fi ft fb)) := by
  refine PS_imp (ps_for hp hc hi hg hb hs) ?_
  rintro D σ H ⟨S, ρ, r, h⟩
  refine tI_bind (P := fun z => PostS (gc X A0 W) S H σ ρ z D) exS PostS.bad r h fun p S1 H1 J t1 r1 ok h1 => ?_
  obtain ⟨ds, ρ1⟩ := p
  refine ⟨fun i m σ H => i + m = ds.length ∧ ∃ S ρ, Rp X.K A0 S H σ ρ ∧ ItOk X.K J S H ds ∧ PostS (gc X A0 W) S H σ ρ (forL ft fb (ds.drop i) ρ) D, ⟨ds.length, by omega, S1, ρ1, r1, ok, PostS.from t1 h1⟩, ?_⟩
  rintro i m σ H ⟨hm, S, ρ, r, ok, h⟩
  cases m with
  | zero =>
    have hi : i = ds.length := by omega
    subst hi
    rw [List.drop_length] at h
    exact .inl ⟨ok.end_ S H (Ex.same fun _ _ e => e), h S H σ Tr.refl r⟩
  | succ n =>
    have hl : i < ds.length := by omega
    have e : ds[i]? = some ds[i] := List.getElem?_eq_getElem hl
    obtain ⟨hgo, hy⟩ := ok.at_ S H i _ (Ex.same fun _ _ e => e) e
    rw [drop_cons e] at h
    refine .inr ⟨hgo, fun σ' H' => ∃ S ρ, Rp X.K A0 S H' σ' ρ ∧ ItOk X.K J S H' ds ∧ PostS (gc X A0 W) S H' σ' ρ (forL ft fb (ds.drop (i + 1)) ρ) D, fun σ' H' q => ⟨n, Nat.lt_succ_self n, by omega, q⟩, fun x H' y => ?_⟩
    obtain ⟨sm, dx⟩ := hy x H' y
    have tg0 : Tr S H (Ow σ ρ) S H' (Ow σ ρ) := Tr.grow sm
    refine ⟨S, ρ, ds[i], r.same sm, dx, ?_⟩
    simp only [forL] at h
    cases e1 : ft ds[i] ρ with
    | bad => rw [e1] at h; exact h.elim
    | ex k ρ' => rw [e1] at h; exact h.elim
    | ok ρ2 =>
      rw [e1] at h
      simp only at h
      intro S2 H2 σ2 t2 r2 _
      have t02 := tg0.trans t2
      have x02 : Ex S H S2 H2 := r.ex t02
      refine ⟨S2, ρ2, r2, ?_⟩
      cases e2 : fb ρ2 with
      | bad => rw [e2] at h; exact h.elim
      | ex k ρ' => rw [e2] at h; exact PostS.from t02 h
      | ok fl =>
        rw [e2] at h
        cases fl with
        | nx ρ' => exact fun S' H' σ' t' r' => ⟨S', ρ', r', ok.mono (x02.trans (r2.ex t')), PostS.from (t02.trans t') h⟩
        | ct ρ' => exact fun S' H' σ' t' r' => ⟨S', ρ', r', ok.mono (x02.trans (r2.ex t')), PostS.from (t02.trans t') h⟩
        | bk ρ' => exact fun S' H' σ' t' r' => h S' H' σ' (t02.trans t') r'
        | rt ev ρ' => exact fun S' H' σ' t' r' v re => h S' H' σ' (t02.trans t') r' v (re.back fun a hz => t02.fresh hz)
end
end G
namespace G
open PySem PySem.Spec PyProof.Rows L2
/-! ### what a def promises: F of its parameters' bindings -/
def A0f (vs : List V) (bs : List B) (i : Nat) : Option Addr := match bs[i]?, vs[i]? with
  | some (.prm _), some (.ref a) => some a
  | some (.ob _ _), some (.ref a) => some a
  | _, _ => none
abbrev A0p (Γ : Gx) (vs : List V) (bs : List B) : Ax := ⟨A0f vs bs, Γ⟩
theorem A0p_ok {vs : List V} {bs : List B} {i : Nat} {a : Addr} (h : A0f vs bs i = some a) : ((∃ d, bs[i]? = some (.prm d)) ∨ ∃ c fs, bs[i]? = some (.ob c fs)) ∧ vs[i]? = some (.ref a) := by
  unfold A0f at h
  split at h
  · rename_i d a' e1 e2; cases h; exact ⟨.inl ⟨_, e1⟩, e2⟩
  · rename_i c fs a' e1 e2; cases h; exact ⟨.inr ⟨_, _, e1⟩, e2⟩
  · cases h
abbrev pst (vs : List V) : St := vs.map some
def PostF (Γ : Gx) (K : PySem.W.Frag) (mg : Str → Option Value) (S : Addr → Prop) (H : Hp) (vs : List V) (bs : List B) (r : Rs (Ev × List B)) (Q : VK) (E : XK) : Prop := match r with
  | .ok p => ∀ S' H' v, Tr S H (Ow (pst vs) bs) S' H' (Ow (pst vs) p.2) → Rp K (A0p Γ vs bs) S' H' (pst vs) p.2 → RE K (A0p Γ vs bs) H S' H' (pst vs) p.2 v p.1 → Q v H'
  | .ex n _ => ∀ S' H', Tr S H (Ow (pst vs) bs) S' H' (fun _ => False) → (∀ a, S' a → ∃ o, H' a = some o) → LamX.Tabs Γ.T H' → ∀ C pd, mg n.cls = some (.ref C) → XdAt H' pd n.pl → E (.ref C) pd H'
  | .bad => False
/-- the base has the module table -/
def SysOk (base : Heap) : Prop := ∃ o es ep, base.get? sysModules = some o ∧ o.data = .dict es ep
structure FnG (P : Program) (w : World) (K : PySem.W.Frag) (mg : Str → Option Value) (base : Heap) (Γ : Gx) (k : Nat) (f : Addr) (fd : FuncData) (ps : List Str) (F : SE) : Prop where
  run : ∀ (A : Around) (outer : List Env) (s : Shared) (H : Hp) (args : Args) (us : List Value) (vs : List V) (Q : VK) (E : XK) (S : Addr → Prop) (bs : List B), Room k A → A.guards = some [] → Env0 P w K mg base A outer s H → BindsTo s fd args (ps.zip us) → Vals vs us →
    vs.length = ps.length → (∀ (i : Nat) (d : PyData), bs[i]? ≠ some (B.own d)) → Rp K (A0p Γ vs bs) S H (pst vs) bs → PostF Γ K mg S H vs bs (F bs) Q E → codeAny (model P w) A (.call (.ref f) args) (CR (CX P w) outer P w H s Q E) s
theorem FnG.mono {P : Program} {w : World} {K : PySem.W.Frag} {mg : Str → Option Value} {base : Heap} {Γ : Gx} {j k : Nat} {f : Addr} {fd : FuncData} {ps : List Str} {F : SE} (G : FnG P w K mg base Γ j f fd ps F) (h : j ≤ k) : FnG P w K mg base Γ k f fd ps F :=
  ⟨fun A outer s H args us vs Q E S bs hr => G.run A outer s H args us vs Q E S bs (hr.mono h)⟩
/-- the parameters' bindings behind the body -/
def outB : B → B
  | .prm d => .prm d
  | .ob c fs => .ob c fs
  | _ => .un
def retF0 (outs : List B) : Fl → Rs (Ev × List B)
  | .rt (.val d) _ => .ok (.val d, outs)
  | .rt (.fr d) _ => .ok (.fr d, outs)
  | .rt (.sl i) ρ => match ρ[i]? with
    | some (.val d) => .ok (.val d, outs)
    | some (.own d) => .ok (.fr d, outs)
    | _ => .bad
  | .nx _ => .ok (.val .none, outs)
  | _ => .bad
def retF (m : Nat) (fl : Fl) : Rs (Ev × List B) := if m ≤ fl.env.length then retF0 ((fl.env.take m).map outB) fl else .bad
/-- a def by its body: N names -/
def defF (N : Nat) (body : SS) : SE := fun bs => (body (bs ++ List.replicate (N - bs.length) .un)).bind (retF bs.length)
section
variable {Γ : Gx} {K : PySem.W.Frag} {A0 : Ax} {S S' : Addr → Prop} {H H' : Hp}
theorem start_get {N : List Str} {vs : List V} {i : Nat} {v : V} (h : (pst vs)[i]? = some (some v)) : (L2.start N vs)[i]? = some (some v) := by
  unfold L2.start
  have hi : i < (pst vs).length := (List.getElem?_eq_some_iff.mp h).1
  rw [List.getElem?_append_left hi]
  exact h
theorem Rp.begin_ {N : List Str} {vs : List V} {bs : List B} (hN : vs.length ≤ N.length) (r : Rp K (A0p Γ vs bs) S H (pst vs) bs) : Rp K (A0p Γ vs bs) S H (L2.start N vs) (bs ++ List.replicate (N.length - bs.length) .un) ∧
    (∀ a, Ow (L2.start N vs) (bs ++ List.replicate (N.length - bs.length) .un) a ↔ Ow (pst vs) bs a) := by
  have hl : bs.length = vs.length := by rw [← r.len]; simp [pst]
  have inn : ∀ i a, OwI (L2.start N vs) (bs ++ List.replicate (N.length - bs.length) .un) i a → OwI (pst vs) bs i a := fun i a ⟨h1, h2⟩ => by
    by_cases hi : i < bs.length
    · rw [List.getElem?_append_left hi] at h1
      unfold L2.start at h2
      rw [List.getElem?_append_left (by simpa [pst] using (by omega : i < vs.length))] at h2
      exact ⟨h1, h2⟩
    · rw [List.getElem?_append_right (by omega), List.getElem?_replicate] at h1
      split at h1 <;> cases h1
  have out : ∀ i a, OwI (pst vs) bs i a → OwI (L2.start N vs) (bs ++ List.replicate (N.length - bs.length) .un) i a := fun i a ⟨h1, h2⟩ => by
    have hi : i < bs.length := by
      by_cases hi : i < bs.length
      · exact hi
      · rw [List.getElem?_eq_none (by omega)] at h1; cases h1
    exact ⟨by rw [List.getElem?_append_left hi]; exact h1, start_get h2⟩
  refine ⟨⟨?_, fun i b hb => ?_, fun i j a h1 h2 => r.dis i j a (inn i a h1) (inn j a h2), r.al, fun i d a h1 h2 => ?_, r.aa, r.tb⟩, fun a => ⟨fun ⟨i, h⟩ => ⟨i, inn i a h⟩, fun ⟨i, h⟩ => ⟨i, out i a h⟩⟩⟩
  · unfold L2.start
    rw [List.length_append, List.length_append, List.length_map, List.length_replicate, List.length_replicate, hl]
  · by_cases hi : i < bs.length
    · rw [List.getElem?_append_left hi] at hb
      have q := r.bd i b hb
      cases b with
      | un => trivial
      | exc n => exact ⟨q.1, start_get q.2.1, q.2.2⟩
      | val d => obtain ⟨v, e, q⟩ := q; exact ⟨v, start_get e, q⟩
      | own d => obtain ⟨v, e, q⟩ := q; exact ⟨v, start_get e, q⟩
      | prm d => obtain ⟨v, e, q⟩ := q; exact ⟨v, start_get e, q⟩
      | ob c fs => obtain ⟨v, e, q⟩ := q; exact ⟨v, start_get e, q⟩
    · rw [List.getElem?_append_right (by omega), List.getElem?_replicate] at hb
      split at hb
      · cases hb; trivial
      · cases hb
  · by_cases hi : i < bs.length
    · rw [List.getElem?_append_left hi] at h1
      unfold L2.start at h2
      rw [List.getElem?_append_left (by simpa [pst] using (by omega : i < vs.length))] at h2
      exact r.np i d a h1 h2
    · rw [List.getElem?_append_right (by omega), List.getElem?_replicate] at h1
      split at h1 <;> cases h1
/-- from the body's end to the parameters -/
theorem outs_ok {vs : List V} {bs : List B} {σ : St} {ρ : List B} {m : Nat} (hm : m = vs.length) (hlen : m ≤ ρ.length) (r : Rp K (A0p Γ vs bs) S H σ ρ) : Rp K (A0p Γ vs bs) S H (pst vs) ((ρ.take m).map outB) ∧ ∀ a, Ow (pst vs) ((ρ.take m).map outB) a → Ow σ ρ a := by
  have get : ∀ i b, ((ρ.take m).map outB)[i]? = some b → i < m ∧ ∃ b0, ρ[i]? = some b0 ∧ b = outB b0 := fun i b h => by
    rw [List.getElem?_map] at h
    by_cases hi : i < m
    · rw [List.getElem?_take_of_lt hi] at h
      cases e : ρ[i]? with
      | none => rw [e] at h; cases h
      | some b0 => rw [e] at h; cases h; exact ⟨hi, b0, rfl, rfl⟩
    · rw [List.getElem?_eq_none (by rw [List.length_take]; omega)] at h; cases h
  have prm : ∀ (i : Nat) (d : PyData), ((ρ.take m).map outB)[i]? = some (B.prm d) → ρ[i]? = some (B.prm d) ∧ ∃ a, σ[i]? = some (some (V.ref a)) ∧ vs[i]? = some (V.ref a) ∧ (¬ S a ∧ OwnAt K S H a d) ∧ A0f vs bs i = some a := fun i d h => by
    obtain ⟨hi, b0, e, eb⟩ := get i _ h
    cases b0 with
    | prm d0 =>
      cases eb
      obtain ⟨a, e1, e2, e3⟩ := r.bd i _ e
      exact ⟨e, a, e1, (A0p_ok e2).2, e3, e2⟩
    | _ => cases eb
  have obj : ∀ (i : Nat) (c : Str) (fs : List (Str × OF)), ((ρ.take m).map outB)[i]? = some (B.ob c fs) → ρ[i]? = some (B.ob c fs) ∧ ∃ a, σ[i]? = some (some (V.ref a)) ∧ vs[i]? = some (V.ref a) := fun i c fs h => by
    obtain ⟨hi, b0, e, eb⟩ := get i _ h
    cases b0 with
    | ob c0 f0 =>
      cases eb
      obtain ⟨a, e1, e2, e3⟩ := r.bd i _ e
      exact ⟨e, a, e1, (A0p_ok e2).2⟩
    | _ => cases eb
  have own : ∀ i a, OwI (pst vs) ((ρ.take m).map outB) i a → OwI σ ρ i a := fun i a ⟨h1, h2⟩ => by
    cases e : ((ρ.take m).map outB)[i]? with
    | none => rw [e] at h1; cases h1
    | some b =>
      obtain ⟨hi, b0, e0, eb⟩ := get i b e
      cases b with
      | prm d =>
        obtain ⟨p1, a', p2, p3, _⟩ := prm i d e
        have : (pst vs)[i]? = some (some (.ref a')) := by simp [pst, p3]
        rw [this] at h2; cases h2
        exact ⟨by rw [p1]; rfl, p2⟩
      | ob c fs =>
        obtain ⟨p1, a', p2, p3⟩ := obj i c fs e
        have : (pst vs)[i]? = some (some (.ref a')) := by simp [pst, p3]
        rw [this] at h2; cases h2
        exact ⟨by rw [p1]; rfl, p2⟩
      | un => rw [e] at h1; cases h1
      | exc _ => rw [e] at h1; cases h1
      | val d => rw [e] at h1; cases h1
      | own d => cases b0 <;> cases eb
  refine ⟨⟨by simp [pst]; omega, fun i b hb => ?_, fun i j a h1 h2 => r.dis i j a (own i a h1) (own j a h2), r.al, fun i d a h1 _ => ?_, r.aa, r.tb⟩, fun a ⟨i, h⟩ => ⟨i, own i a h⟩⟩
  · obtain ⟨hi, b0, e0, eb⟩ := get i b hb
    cases b with
    | un => trivial
    | exc _ => cases b0 <;> cases eb
    | val d => cases b0 <;> cases eb
    | own d => cases b0 <;> cases eb
    | prm d =>
      obtain ⟨p1, a', p2, p3, p4, p5⟩ := prm i d hb
      exact ⟨a', by simp [pst, p3], p5, p4.1, p4.2⟩
    | ob c fs =>
      obtain ⟨p1, a', p2, p3⟩ := obj i c fs hb
      obtain ⟨a2, q1, q2⟩ := r.bd i _ p1
      rw [p2] at q1; cases q1
      exact ⟨a', by simp [pst, p3], q2⟩
  · obtain ⟨_, b0, _, eb⟩ := get i _ h1
    cases b0 <;> cases eb
end
section
variable {P : Program} {w : World} {K : PySem.W.Frag} {mg : Str → Option Value} {base : Heap} {Γ : Gx}
abbrev WF (E : XK) : WX := fun cls d _ H => E cls d H
/-- what the body's end says to the caller -/
theorem body_reads {vs : List V} {bs : List B} {N : List Str} {S0 : Addr → Prop} {H : Hp} {body : SS} {Q : VK} {E : XK} (hN : vs.length ≤ N.length) (hbs : ∀ (i : Nat) (d : PyData), bs[i]? ≠ some (B.own d)) (rp : Rp K (A0p Γ vs bs) S0 H (pst vs) bs)
    (hF : PostF Γ K mg S0 H vs bs (defF N.length body bs) Q E) : PostS ⟨K, mg, A0p Γ vs bs, WF E⟩ S0 H (L2.start N vs) (bs ++ List.replicate (N.length - bs.length) .un) (body (bs ++ List.replicate (N.length - bs.length) .un)) { nx := fun _ H' => Q .non H', rt := Q } := by
  have hbl : bs.length = vs.length := by rw [← rp.len]; simp [pst]
  obtain ⟨_, ow⟩ := rp.begin_ (N := N) hN
  have trP : ∀ {S' : Addr → Prop} {H' : Hp} {O' O2 : Addr → Prop}, Tr S0 H (Ow (L2.start N vs) (bs ++ List.replicate (N.length - bs.length) .un)) S' H' O' → (∀ a, O2 a → O' a) → Tr S0 H (Ow (pst vs) bs) S' H' O2 := fun t h =>
    ⟨t.s, fun a o e n => t.keep a o e fun z => n ((ow a).mp z), t.dom, fun a z => (t.o a (h a z)).imp (ow a).mp id, fun a z => (t.g a z).imp id (Or.imp (ow a).mp id)⟩
  unfold defF at hF
  cases eb : body (bs ++ List.replicate (N.length - bs.length) .un) with
  | bad => rw [eb] at hF; exact hF
  | ex n ρ' =>
    rw [eb] at hF
    exact fun S' H' σ' t' r' C hC => hF S' H' (trP t' fun a z => z.elim) r'.al r'.tb C hC
  | ok fl =>
    rw [eb] at hF
    intro S' H' σ' t' r'
    have hF : PostF Γ K mg S0 H vs bs (retF bs.length fl) Q E := hF
    unfold retF at hF
    split at hF
    rotate_left
    · exact hF.elim
    rename_i hm
    obtain ⟨ro, so⟩ := outs_ok hbl hm r'
    cases fl with
    | nx ρ' => exact hF S' H' .non (trP t' so) ro .non
    | bk ρ' => exact hF.elim
    | ct ρ' => exact hF.elim
    | rt ev ρ' =>
      intro v re
      cases ev with
      | val d => exact hF S' H' v (trP t' so) ro re
      | fr d =>
        obtain ⟨a, e1, h0, hs, ho, hc⟩ := re
        exact hF S' H' v (trP t' so) ro ⟨a, e1, h0, hs, fun z => ho (so a z), hc⟩
      | sl i =>
        have hv : σ'[i]? = some (some v) := re
        simp only [retF0] at hF
        cases ei : ρ'[i]? with
        | none => simp only [ei] at hF; exact hF.elim
        | some b =>
          simp only [ei] at hF
          have q := r'.bd i b ei
          cases b with
          | un => exact hF.elim
          | exc _ => exact hF.elim
          | ob _ _ => exact hF.elim
          | prm d => exact hF.elim
          | val d =>
            obtain ⟨u, e1, e2⟩ := q
            rw [hv] at e1; cases e1
            exact hF S' H' v (trP t' so) ro e2
          | own d =>
            obtain ⟨a, e1, e2, e3⟩ := q
            rw [hv] at e1; cases e1
            have ow1 : OwI σ' ρ' i a := ⟨by rw [ei]; rfl, hv⟩
            have np := r'.np i d a ei hv
            refine hF S' H' _ (trP t' so) ro ⟨a, rfl, ⟨?_, np⟩, e2, fun z => ?_, e3⟩
            · rcases t'.o a ⟨i, ow1⟩ with z | z
              · exfalso
                obtain ⟨j, z1, z2⟩ := (ow a).mp z
                cases ej : bs[j]? with
                | none => rw [ej] at z1; cases z1
                | some bj =>
                  rw [ej] at z1
                  cases bj with
                  | un => cases z1
                  | exc _ => cases z1
                  | val _ => cases z1
                  | own d' => exact hbs j d' ej
                  | prm d' =>
                    obtain ⟨a', q1, q2, _⟩ := rp.bd j _ ej
                    rw [z2] at q1; cases q1
                    exact np j q2
                  | ob c fs =>
                    obtain ⟨a', q1, q2, _⟩ := rp.bd j _ ej
                    rw [z2] at q1; cases q1
                    exact np j q2
              · exact z
            · obtain ⟨j, z1, z2⟩ := z
              have z1 : isOw ((List.map outB (List.take bs.length ρ'))[j]?) = true := z1
              have ro : Rp K (A0p Γ vs bs) S' H' (pst vs) (List.map outB (List.take bs.length ρ')) := ro
              cases ej : (List.map outB (List.take bs.length ρ'))[j]? with
              | none => rw [ej] at z1; cases z1
              | some bj =>
                rw [ej] at z1
                have q := ro.bd j bj ej
                cases bj with
                | un => cases z1
                | exc _ => cases z1
                | val _ => cases z1
                | own d' =>
                  rw [List.getElem?_map] at ej
                  cases ek : (List.take bs.length ρ')[j]? with
                  | none => rw [ek] at ej; cases ej
                  | some b0 => rw [ek] at ej; cases b0 <;> cases ej
                | prm d' =>
                  obtain ⟨a', q1, q2, _⟩ := q
                  rw [z2] at q1; cases q1
                  exact np j q2
                | ob c fs =>
                  obtain ⟨a', q1, q2, _⟩ := q
                  rw [z2] at q1; cases q1
                  exact np j q2
/-- the code of the def at f -/
def CodeAt (K : PySem.W.Frag) (f : Addr) (cdv : Value) : Prop := ∃ (oc : Value) (od : Option Addr) (fd : FuncData) (osl : Array (Option Value)), K.lookup f = some ⟨oc, od, .func fd, osl⟩ ∧ fd.code = cdv
/-- a def as it stands in K, whatever its defaults -/
def FnEx (K : PySem.W.Frag) (dV : Value) (x qual : Str) (st : Stmt) (f : Addr) (fd : FuncData) : Prop :=
  ∃ (oc : Value) (od : Option Addr) (kV doc pm : Value) (an : Option Addr) (cdv ct : Value) (osl : Array (Option Value)),
    fd = PySem.W.fnOf x qual (defArgs st) (defBody st) (defScope st) dV kV doc pm an cdv ct ∧ K.lookup f = some ⟨oc, od, .func fd, osl⟩ ∧ PySem.W.codeIn K cdv qual = true
/-- THE RULE: a def by its body -/
theorem fnG_of {dV : Value} {x qual : Str} {st : Stmt} {f : Addr} {fd : FuncData} {N ps : List Str} {k : Nat} {body : SS} (F : FnEx K dV x qual st f fd) (S : FnScope N ps (defScope st)) (sys : SysOk base)
    (hbody : ∀ (cdv : Value), CodeAt K f cdv → ∀ (A : Around) (outer : List Env) (s : Shared) (H : Hp) (E : XK) (A0 : Nat → Option Addr), Room k (cxOf (CX P w) P w K mg base N qual (defScope st) f cdv A outer s H E).A → GX (cxOf (CX P w) P w K mg base N qual (defScope st) f cdv A outer s H E) →
      Takes (cxOf (CX P w) P w K mg base N qual (defScope st) f cdv A outer s H E) (WF E) →
      PSs (cxOf (CX P w) P w K mg base N qual (defScope st) f cdv A outer s H E) (defBody st) (tSt (gc (cxOf (CX P w) P w K mg base N qual (defScope st) f cdv A outer s H E) ⟨A0, Γ⟩ (WF E)) body)) :
    FnG P w K mg base Γ (k + 1) f fd ps (defF N.length body) := by
  obtain ⟨oc, od, kV, doc, pm, an, cdv, ct, osl, rfl, lk, hcd⟩ := F
  refine ⟨fun A outer s H args us vs Q E S0 bs hr hgd e0 hb r hl hbs rp hF => ?_⟩
  have KX : K.In s.heap := e0.mod.kin.keeps fun b o e => (e0.bs b o e).1
  have lim : s.heap.NoLimit := e0.mod.nolimit.keeps fun b o e => (e0.bs b o e).1
  have hpl : ps.length ≤ N.length := by have := congrArg List.length S.pre; rw [List.length_take] at this; omega
  have hbl : bs.length = vs.length := by rw [← rp.len]; simp [pst]
  have hkind : ∀ y ∈ ps.zip us, (defScope st).names.lookup y.1 = some .local ∨ ((defScope st).names.lookup y.1 = some .cell ∧ ((cellsFrom (s.heap.objs.size + 1) (defScope st).names []).lookup y.1).isSome = true) := fun ⟨n, v⟩ hy => by
    rcases S.par n (List.of_mem_zip hy).1 with q | q
    · exact .inl q
    · exact .inr ⟨q, PySem.W.cellsFrom_some _ _ _ (.inl q)⟩
  refine codeAny_call_function hr.depth (KX _ _ lk) rfl S.co S.gen rfl (PySem.W.codeRec_of KX hcd) (hb _ _ _ _ ?_)
  refine wpAny_newFunctionEnv_cells S.kind hkind fun env he s1 x => ?_
  subst he
  refine ⟨lim.keeps x.toInCall.keep, codeAny_func ?_⟩
  have hrd : Room k (A.deeper (envOfC qual (defScope st) s.heap.objs.size f cdv)) := hr.deeper _
  have ht := hbody cdv ⟨oc, od, _, osl, lk, rfl⟩ A outer s H E (A0f vs bs) hrd ⟨hgd, sys, by have := hrd.un; show (A.deeper (envOfC qual (defScope st) s.heap.objs.size f cdv)).units + 150 < _; omega⟩ (takes_of rfl rfl rfl rfl)
  have I : Inv (cxOf (CX P w) P w K mg base N qual (defScope st) f cdv A outer s H E) [] (L2.start N vs) H s1 := inv_start S hr.hd e0 hl r x
  obtain ⟨rp', ow⟩ := rp.begin_ (N := N) (by omega)
  have fin : ∀ {σ' : St} {H' : Hp} {v : V} {u : Value} {s' : Shared}, Inv (cxOf (CX P w) P w K mg base N qual (defScope st) f cdv A outer s H E) [] σ' H' s' → RelV v u → Q v H' → CE outer P w H s Q u s' :=
    fun {σ' H' v u s'} J rv q => ⟨v, H', J.os, J.bare, J.base, J.hok, rv, q⟩
  refine wpAny_mono (ht.run [] s1 (L2.start N vs) H { nx := fun _ H' => Q .non H', rt := Q } I ⟨S0, _, rp', ?_⟩) (fun fl s' hs => ?_) fun e s' hs => hs
  · exact body_reads (by omega) hbs rp hF
  · cases fl with
    | ret u =>
      obtain ⟨v, σ', H', J, rv, q⟩ := hs
      exact fin J rv q
    | next =>
      obtain ⟨σ', H', J, q⟩ := hs
      exact fin (v := V.non) (u := Value.none) J rfl q
    | brk =>
      obtain ⟨_, _, _, q⟩ := hs
      exact False.elim q
    | cont =>
      obtain ⟨_, _, _, q⟩ := hs
      exact False.elim q
end
end G
namespace G
open PySem PySem.Spec PyProof.Rows L2
/-! ### how arguments become parameters: a mode each, true: the slot's own list is handed over -/
def cv1 : List Bool → List Ev → List B → Option (List Ev × List B)
  | m :: ms, e :: es, ρ => if m = true then (cv1 ms es ρ).map fun q => (e :: q.1, q.2) else (shr ρ e).bind fun p => (cv1 ms es p.2).map fun q => (.val p.1 :: q.1, q.2)
  | [], [], ρ => some ([], ρ)
  | _, _, _ => none
def cvB (ρ : List B) : Ev → Option (B × Option Nat)
  | .val d => some (.val d, none)
  | .sl j => match ρ[j]? with
    | some (.own d) => some (.prm d, some j)
    | some (.prm d) => some (.prm d, some j)
    | some (.exc n) => some (.exc n, none)
    | _ => none
  | .fr _ => none
def cv2 (ρ : List B) : List Ev → Option (List B × List (Option Nat))
  | [] => some ([], [])
  | e :: es => (cvB ρ e).bind fun b => (cv2 ρ es).map fun q => (b.1 :: q.1, b.2 :: q.2)
def memL (j : Nat) : List (Option Nat) → Bool
  | [] => false
  | some i :: r => (i == j) || memL j r
  | none :: r => memL j r
def dstL : List (Option Nat) → Bool
  | [] => true
  | some i :: r => !memL i r && dstL r
  | none :: r => dstL r
def reB : B → B → B
  | .own _, .prm d => .own d
  | .prm _, .prm d => .prm d
  | _, _ => .un
def wb : List (Option Nat) → List B → List B → List B
  | some j :: ls, o :: os, ρ => wb ls os (ρ.set j (match ρ[j]? with
    | some b => reB b o
    | none => .un))
  | none :: ls, _ :: os, ρ => wb ls os ρ
  | _, _, ρ => ρ
def wbx : List (Option Nat) → List B → List B
  | some j :: ls, ρ => wbx ls (ρ.set j .un)
  | none :: ls, ρ => wbx ls ρ
  | [], ρ => ρ
def callR (F : SE) (bs : List B) (ls : List (Option Nat)) (ρ : List B) : Rs (Ev × List B) := if dstL ls = true then (match F bs with
  | .ok (.val d, outs) => .ok (.val d, wb ls outs ρ)
  | .ok (.fr d, outs) => .ok (.fr d, wb ls outs ρ)
  | .ok (.sl _, _) => .bad
  | .ex n _ => .ex n (wbx ls ρ)
  | .bad => .bad) else .bad
def callF (ms : List Bool) (F : SE) (dbs : List B) (fa : SA) : SE := fun ρ => (fa ρ).bind fun p => match cv1 ms p.1 p.2 with
  | some (es, ρ1) => (match cv2 ρ1 es with
    | some (bs, ls) => callR F (bs ++ dbs) (ls ++ dbs.map fun _ => none) ρ1
    | none => .bad)
  | none => .bad
section
variable {K : PySem.W.Frag} {A0 : Ax} {S S0 : Addr → Prop} {H H0 : Hp} {σ : St} {O0 : Addr → Prop}
theorem cv1_ok : ∀ {ms : List Bool} {es es' : List Ev} {vs : List V} {S : Addr → Prop} {ρ ρ' : List B}, Tr S0 H0 O0 S H (Ow σ ρ) → Rp K A0 S H σ ρ → Paired (RE1 K S H σ) vs es → cv1 ms es ρ = some (es', ρ') →
    ∃ S', Tr S0 H0 O0 S' H (Ow σ ρ') ∧ Rp K A0 S' H σ ρ' ∧ Paired (RE1 K S' H σ) vs es' ∧ Ex S H S' H
  | [], [], es', vs, S, ρ, ρ', t, r, h, q => by cases q; cases h; exact ⟨S, t, r, .nil, Ex.same fun _ _ e => e⟩
  | m :: ms, e :: es, es', _, S, ρ, ρ', t, r, .cons (a := v) (l₁ := vs) a h, q => by
    unfold cv1 at q
    cases m with
    | true =>
      simp only [if_true] at q
      cases q1 : cv1 ms es ρ with
      | none => rw [q1] at q; cases q
      | some p =>
        rw [q1] at q; cases q
        obtain ⟨S', t', r', h', x⟩ := cv1_ok t r h q1
        exact ⟨S', t', r', .cons (a.ex x) h', x⟩
    | false =>
      simp only [Bool.false_eq_true, if_false] at q
      cases q1 : shr ρ e with
      | none => rw [q1] at q; cases q
      | some p =>
        rw [q1, Option.bind_some] at q
        cases q2 : cv1 ms es p.2 with
        | none => rw [q2] at q; cases q
        | some p2 =>
          rw [q2] at q; cases q
          obtain ⟨S1, t1, r1, d1, x1⟩ := shr_ok t r a q1
          obtain ⟨S', t', r', h', x⟩ := cv1_ok t1 r1 (RE1s.ex x1 h) q2
          exact ⟨S', t', r', .cons (d1.ex x) h', x1.trans x⟩
  | [], _ :: _, _, _, _, _, _, _, _, _, q => by cases q
  | _ :: _, [], _, _, _, _, _, _, _, _, q => by cases q
/-- the parameters, one by one -/
def Par (Γ : Gx) (K : PySem.W.Frag) (S : Addr → Prop) (H : Hp) (σ : St) (ρ : List B) (v : V) (b : B) (l : Option Nat) : Prop :=
  (∃ d, b = .val d ∧ l = none ∧ Dr K S H v d) ∨ (∃ j d a, b = .prm d ∧ l = some j ∧ v = .ref a ∧ OwI σ ρ j a ∧ ¬ S a ∧ OwnAt K S H a d) ∨ ∃ n, b = .exc n ∧ l = none ∧ v = .ref Γ.pa ∧ (n.cls, Γ.pc) ∈ Γ.es ∧ XdAt H Γ.pd n.pl
theorem cv2_ok : ∀ {es : List Ev} {vs : List V} {ρ : List B} {bs : List B} {ls : List (Option Nat)}, Rp K A0 S H σ ρ → Paired (RE1 K S H σ) vs es → cv2 ρ es = some (bs, ls) →
    vs.length = bs.length ∧ bs.length = ls.length ∧ ∀ (i : Nat) (b : B), bs[i]? = some b → ∃ v l, vs[i]? = some v ∧ ls[i]? = some l ∧ Par A0.g K S H σ ρ v b l
  | [], _, ρ, bs, ls, r, .nil, q => by cases q; exact ⟨rfl, rfl, fun i b e => by simp at e⟩
  | e :: es, _, ρ, bs, ls, r, .cons (a := v) (l₁ := vs) a h, q => by
    unfold cv2 at q
    cases q1 : cvB ρ e with
    | none => rw [q1] at q; cases q
    | some p =>
      rw [q1, Option.bind_some] at q
      cases q2 : cv2 ρ es with
      | none => rw [q2] at q; cases q
      | some p2 =>
        rw [q2] at q; cases q
        obtain ⟨l1, l2, ih⟩ := cv2_ok r h q2
        refine ⟨by simp only [List.length_cons, l1], by simp only [List.length_cons, l2], fun i b hb => ?_⟩
        cases i with
        | succ i => exact ih i b (by simpa using hb)
        | zero =>
          have hb' : p.1 = b := Option.some.inj hb
          subst hb'
          refine ⟨v, p.2, rfl, rfl, ?_⟩
          cases e with
          | val d => cases q1; exact .inl ⟨d, rfl, rfl, a⟩
          | fr d => cases q1
          | sl j =>
            have hv : σ[j]? = some (some v) := a
            unfold cvB at q1
            cases ej : ρ[j]? with
            | none => simp only [ej, reduceCtorEq] at q1
            | some b0 =>
              simp only [ej] at q1
              have qb := r.bd j b0 ej
              cases b0 with
              | un => cases q1
              | exc n =>
                cases q1
                obtain ⟨e0, e1, e2⟩ := qb
                rw [hv] at e1; cases e1
                exact .inr (.inr ⟨n, rfl, rfl, rfl, e0, e2⟩)
              | val _ => cases q1
              | ob _ _ => cases q1
              | own d =>
                cases q1
                obtain ⟨a', e1, e2, e3⟩ := qb
                rw [hv] at e1; cases e1
                exact .inr (.inl ⟨j, d, a', rfl, rfl, rfl, ⟨by rw [ej]; rfl, hv⟩, e2, e3⟩)
              | prm d =>
                cases q1
                obtain ⟨a', e1, e0, e2, e3⟩ := qb
                rw [hv] at e1; cases e1
                exact .inr (.inl ⟨j, d, a', rfl, rfl, rfl, ⟨by rw [ej]; rfl, hv⟩, e2, e3⟩)
theorem memL_of {j : Nat} : ∀ {ls : List (Option Nat)} {i : Nat}, ls[i]? = some (some j) → memL j ls = true
  | [], i, h => by simp at h
  | some k :: r, 0, h => by
    have : k = j := by simpa using h
    simp [memL, this]
  | none :: r, 0, h => by simp at h
  | some k :: r, i + 1, h => by simp only [memL, memL_of (ls := r) (i := i) (by simpa using h), Bool.or_true]
  | none :: r, i + 1, h => by simp only [memL, memL_of (ls := r) (i := i) (by simpa using h)]
theorem dstL_ok : ∀ {ls : List (Option Nat)}, dstL ls = true → ∀ {i k j : Nat}, ls[i]? = some (some j) → ls[k]? = some (some j) → i = k
  | [], _, i, k, j, h, _ => by simp at h
  | none :: r, d, 0, k, j, h, _ => by simp at h
  | none :: r, d, i + 1, 0, j, _, h => by simp at h
  | none :: r, d, i + 1, k + 1, j, h1, h2 => by rw [dstL_ok (ls := r) d (i := i) (k := k) (by simpa using h1) (by simpa using h2)]
  | some x :: r, d, 0, 0, j, _, _ => rfl
  | some x :: r, d, 0, k + 1, j, h1, h2 => by
    have e : x = j := by simpa using h1
    have := memL_of (ls := r) (i := k) (j := j) (by simpa using h2)
    simp only [dstL, e, this, Bool.not_true, Bool.false_and, Bool.false_eq_true] at d
  | some x :: r, d, i + 1, 0, j, h1, h2 => by
    have e : x = j := by simpa using h2
    have := memL_of (ls := r) (i := i) (j := j) (by simpa using h1)
    simp only [dstL, e, this, Bool.not_true, Bool.false_and, Bool.false_eq_true] at d
  | some x :: r, d, i + 1, k + 1, j, h1, h2 => by
    simp only [dstL, Bool.and_eq_true] at d
    rw [dstL_ok (ls := r) d.2 (i := i) (k := k) (by simpa using h1) (by simpa using h2)]
/-- what stands behind the call in a slot -/
theorem wb_len : ∀ {ls : List (Option Nat)} {outs ρ : List B}, (wb ls outs ρ).length = ρ.length
  | [], outs, ρ => by cases outs <;> rfl
  | some j :: ls, o :: os, ρ => by unfold wb; rw [wb_len, List.length_set]
  | none :: ls, o :: os, ρ => by unfold wb; rw [wb_len]
  | some j :: ls, [], ρ => rfl
  | none :: ls, [], ρ => rfl
theorem wbx_len : ∀ {ls : List (Option Nat)} {ρ : List B}, (wbx ls ρ).length = ρ.length
  | [], ρ => rfl
  | some j :: ls, ρ => by unfold wbx; rw [wbx_len, List.length_set]
  | none :: ls, ρ => by unfold wbx; rw [wbx_len]
theorem wb_ne {j : Nat} : ∀ {ls : List (Option Nat)} {outs ρ : List B}, memL j ls = false → (wb ls outs ρ)[j]? = ρ[j]?
  | [], outs, ρ, _ => by cases outs <;> rfl
  | some k :: ls, o :: os, ρ, h => by
    simp only [memL, Bool.or_eq_false_iff, beq_eq_false_iff_ne] at h
    unfold wb
    rw [wb_ne h.2, List.getElem?_set_ne h.1]
  | none :: ls, o :: os, ρ, h => by unfold wb; exact wb_ne (by simpa only [memL] using h)
  | some k :: ls, [], ρ, _ => rfl
  | none :: ls, [], ρ, _ => rfl
theorem wbx_ne {j : Nat} : ∀ {ls : List (Option Nat)} {ρ : List B}, memL j ls = false → (wbx ls ρ)[j]? = ρ[j]?
  | [], ρ, _ => rfl
  | some k :: ls, ρ, h => by
    simp only [memL, Bool.or_eq_false_iff, beq_eq_false_iff_ne] at h
    unfold wbx
    rw [wbx_ne h.2, List.getElem?_set_ne h.1]
  | none :: ls, ρ, h => by unfold wbx; exact wbx_ne (by simpa only [memL] using h)
theorem memL_at {j : Nat} : ∀ {ls : List (Option Nat)}, memL j ls = true → ∃ i : Nat, ls[i]? = some (some j)
  | [], h => by cases h
  | some k :: r, h => by
    simp only [memL, Bool.or_eq_true, beq_iff_eq] at h
    rcases h with rfl | h
    · exact ⟨0, rfl⟩
    · obtain ⟨i, e⟩ := memL_at h; exact ⟨i + 1, by simpa using e⟩
  | none :: r, h => by
    obtain ⟨i, e⟩ := memL_at (ls := r) (by simpa only [memL] using h); exact ⟨i + 1, by simpa using e⟩
theorem wb_at {j : Nat} {b o : B} : ∀ {ls : List (Option Nat)} {outs ρ : List B} {i : Nat}, dstL ls = true → ls[i]? = some (some j) → outs[i]? = some o → ρ[j]? = some b → (wb ls outs ρ)[j]? = some (reB b o)
  | [], _, _, i, _, h, _, _ => by simp at h
  | _ :: _, [], _, i, _, _, h, _ => by simp at h
  | none :: ls, o' :: os, ρ, 0, d, h, _, _ => by simp at h
  | none :: ls, o' :: os, ρ, i + 1, d, h1, h2, h3 => by unfold wb; exact wb_at (i := i) d (by simpa using h1) (by simpa using h2) h3
  | some k :: ls, o' :: os, ρ, 0, d, h1, h2, h3 => by
    have e : k = j := by simpa using h1
    have e2 : o' = o := by simpa using h2
    subst e e2
    simp only [dstL, Bool.and_eq_true, Bool.not_eq_true'] at d
    unfold wb
    rw [wb_ne d.1, List.getElem?_set_self (List.getElem?_eq_some_iff.mp h3).1, h3]
  | some k :: ls, o' :: os, ρ, i + 1, d, h1, h2, h3 => by
    have hm : memL j ls = true := memL_of (i := i) (by simpa using h1)
    simp only [dstL, Bool.and_eq_true, Bool.not_eq_true'] at d
    have hk : k ≠ j := fun e => by rw [e, hm] at d; cases d.1
    unfold wb
    exact wb_at (i := i) d.2 (by simpa using h1) (by simpa using h2) (by rw [List.getElem?_set_ne hk]; exact h3)
theorem wbx_at {j : Nat} : ∀ {ls : List (Option Nat)} {ρ : List B} {b : B}, memL j ls = true → (wbx ls ρ)[j]? = some b → b = .un
  | [], ρ, b, h, _ => by cases h
  | none :: ls, ρ, b, h, e => wbx_at (ls := ls) (ρ := ρ) (by simpa only [memL] using h) (by unfold wbx at e; exact e)
  | some k :: ls, ρ, b, h, e => by
    unfold wbx at e
    cases hm : memL j ls with
    | true => exact wbx_at hm e
    | false =>
      rw [wbx_ne hm] at e
      simp only [memL, hm, Bool.or_false, beq_iff_eq] at h
      subst h
      by_cases hl : k < ρ.length
      · rw [List.getElem?_set_self hl] at e; cases e; rfl
      · rw [List.getElem?_eq_none (by rw [List.length_set]; omega)] at e; cases e
end
section
variable {K : PySem.W.Frag} {A0 : Ax} {S S2 : Addr → Prop} {H H2 : Hp} {σ : St} {ρ : List B} {vs : List V} {bs outs : List B} {ls : List (Option Nat)}
/-- the parameters' state -/
theorem par_rp (r : Rp K A0 S H σ ρ) (d : dstL ls = true) (hl : vs.length = bs.length) (hp : ∀ (i : Nat) (b : B), bs[i]? = some b → ∃ v l, vs[i]? = some v ∧ ls[i]? = some l ∧ Par A0.g K S H σ ρ v b l) :
    Rp K (A0p A0.g vs bs) S H (pst vs) bs ∧ (∀ (i : Nat) (d : PyData), bs[i]? ≠ some (B.own d)) ∧ ∀ i a, OwI (pst vs) bs i a → ∃ j, ls[i]? = some (some j) ∧ OwI σ ρ j a := by
  have own : ∀ i a, OwI (pst vs) bs i a → ∃ j, ls[i]? = some (some j) ∧ OwI σ ρ j a := fun i a ⟨h1, h2⟩ => by
    cases e : bs[i]? with
    | none => rw [e] at h1; cases h1
    | some b =>
      obtain ⟨v, l, e1, e2, p⟩ := hp i b e
      have hv : (pst vs)[i]? = some (some v) := by simp [pst, e1]
      rw [hv] at h2
      rcases p with ⟨d, rfl, _⟩ | ⟨j, d, a', rfl, rfl, rfl, q, _⟩ | ⟨n, rfl, _⟩
      · rw [e] at h1; cases h1
      · cases h2; exact ⟨j, e2, q⟩
      · rw [e] at h1; cases h1
  refine ⟨⟨by simp [pst, hl], fun i b e => ?_, fun i k a h1 h2 => ?_, r.al, fun i d' a e _ => ?_, fun i a h => ?_, r.tb⟩, fun i d' e => ?_, own⟩
  · obtain ⟨v, l, e1, e2, p⟩ := hp i b e
    have hv : (pst vs)[i]? = some (some v) := by simp [pst, e1]
    rcases p with ⟨d, rfl, _, q⟩ | ⟨j, d, a', rfl, rfl, rfl, q, q2, q3⟩ | ⟨n, rfl, _, rfl, q1⟩
    · exact ⟨v, hv, q⟩
    · exact ⟨a', hv, by show A0f vs bs i = some a'; unfold A0f; rw [e, e1], q2, q3⟩
    · exact ⟨q1.1, hv, q1.2⟩
  · obtain ⟨j, p1, p2⟩ := own i a h1
    obtain ⟨j', q1, q2⟩ := own k a h2
    obtain rfl := r.dis j j' a p2 q2
    exact dstL_ok d p1 q1
  · obtain ⟨v, l, _, _, p⟩ := hp i _ e
    rcases p with ⟨_, h, _⟩ | ⟨_, _, _, h, _⟩ | ⟨_, h, _⟩ <;> cases h
  · obtain ⟨⟨d', e⟩ | ⟨c', f', e⟩, e1⟩ := A0p_ok h
    rotate_left
    · obtain ⟨v, l, _, _, p⟩ := hp i _ e
      rcases p with ⟨_, h, _⟩ | ⟨_, _, _, h, _⟩ | ⟨_, h, _⟩ <;> cases h
    obtain ⟨v, l, e2, _, p⟩ := hp i _ e
    rw [e1] at e2; cases e2
    rcases p with ⟨_, h, _⟩ | ⟨j, d2, a', h, _, e3, q, _, q3⟩ | ⟨_, h, _⟩
    · cases h
    · cases e3
      obtain ⟨o, e4, _⟩ := q3
      exact ⟨o, e4⟩
    · cases h
  · obtain ⟨v, l, _, _, p⟩ := hp i _ e
    rcases p with ⟨_, h, _⟩ | ⟨_, _, _, h, _⟩ | ⟨_, h, _⟩ <;> cases h
/-- behind the call: the caller's state -/
theorem back_rp (r : Rp K A0 S H σ ρ) (d : dstL ls = true) (hl : vs.length = bs.length) (hlb : bs.length = ls.length) (hp : ∀ (i : Nat) (b : B), bs[i]? = some b → ∃ v l, vs[i]? = some v ∧ ls[i]? = some l ∧ Par A0.g K S H σ ρ v b l)
    (more : List V) (dbs : List B) (hmore : ∀ i a, OwI (pst (vs ++ more)) (bs ++ dbs) i a → i < bs.length)
    (t : Tr S H (Ow (pst (vs ++ more)) (bs ++ dbs)) S2 H2 (Ow (pst (vs ++ more)) outs)) (ro : Rp K (A0p A0.g (vs ++ more) (bs ++ dbs)) S2 H2 (pst (vs ++ more)) outs) :
    Tr S H (Ow σ ρ) S2 H2 (Ow σ (wb ls outs ρ)) ∧ Rp K A0 S2 H2 σ (wb ls outs ρ) ∧ ∀ a, Ow σ (wb ls outs ρ) a → Ow σ ρ a := by
  have inn : ∀ a, Ow (pst (vs ++ more)) (bs ++ dbs) a → Ow σ ρ a := fun a ⟨i, h⟩ => by
    have hi := hmore i a h
    obtain ⟨h1, h2⟩ := h
    rw [List.getElem?_append_left hi] at h1
    have h2' : (pst vs)[i]? = some (some (.ref a)) := by
      simp only [pst, List.map_append] at h2 ⊢
      rw [List.getElem?_append_left (by simp; omega)] at h2
      exact h2
    obtain ⟨_, _, own⟩ := par_rp r d hl hp
    obtain ⟨j, _, q⟩ := own i a ⟨h1, h2'⟩
    exact ⟨j, q⟩
  have x : Ex S H S2 H2 := Ex.of_tr t (fun a hs z => r.sep hs (inn a z)) fun a z => by
    obtain ⟨i, q⟩ := inn a z
    exact (r.own q).2
  -- what a handed slot holds
  have handed : ∀ j, memL j ls = true → ∃ i : Nat, ls[i]? = some (some j) ∧ i < bs.length := fun j h => by
    obtain ⟨i, e⟩ := memL_at h
    exact ⟨i, e, by rw [hlb]; exact (List.getElem?_eq_some_iff.mp e).1⟩
  have at_ : ∀ (i j : Nat), ls[i]? = some (some j) → i < bs.length → ∃ (d0 : PyData) (a : Addr) (b : B), bs[i]? = some (B.prm d0) ∧ vs[i]? = some (V.ref a) ∧ ρ[j]? = some b ∧ σ[j]? = some (some (V.ref a)) ∧ isOw (some b) = true ∧ OwI σ ρ j a := fun i j e hi => by
    obtain ⟨v, l, e1, e2, p⟩ := hp i _ (List.getElem?_eq_getElem hi)
    rw [e] at e2; cases e2
    rcases p with ⟨_, _, h, _⟩ | ⟨j', d0, a, h, h2, h3, q, _⟩ | ⟨_, _, h, _⟩
    · cases h
    rotate_left
    · cases h
    · cases h2
      obtain ⟨q1, q2⟩ := q
      cases ej : ρ[j]? with
      | none => rw [ej] at q1; cases q1
      | some b => exact ⟨d0, a, b, by rw [List.getElem?_eq_getElem hi, h], by rw [e1, h3], rfl, q2, by rw [ej] at q1; exact q1, ⟨q1, q2⟩⟩
  have out_prm : ∀ (i : Nat) (dd : PyData), outs[i]? = some (B.prm dd) → ∃ a : Addr, (pst (vs ++ more))[i]? = some (some (V.ref a)) ∧ ¬ S2 a ∧ OwnAt K S2 H2 a dd := fun i dd e => by
    obtain ⟨a, e1, _, e2, e3⟩ := ro.bd i _ e
    exact ⟨a, e1, e2, e3⟩
  -- slot by slot
  have slot : ∀ (j : Nat) (b' : B), (wb ls outs ρ)[j]? = some b' → (memL j ls = false ∧ ρ[j]? = some b') ∨ b' = .un ∨ ∃ (i : Nat) (b : B) (dd : PyData) (a : Addr), ls[i]? = some (some j) ∧ ρ[j]? = some b ∧ b' = reB b (B.prm dd) ∧ outs[i]? = some (B.prm dd) ∧ OwI σ ρ j a ∧ vs[i]? = some (V.ref a) := fun j b' e => by
    cases hm : memL j ls with
    | false => rw [wb_ne hm] at e; exact .inl ⟨rfl, e⟩
    | true =>
      obtain ⟨i, ei, hi⟩ := handed j hm
      obtain ⟨d0, a, b, _, q2, q3, q4, q5, q6⟩ := at_ i j ei hi
      cases eo : outs[i]? with
      | none =>
        -- outs is as long as the parameters
        exfalso
        have := ro.len
        have h1 : i < (pst (vs ++ more)).length := by simp [pst]; omega
        rw [this] at h1
        rw [List.getElem?_eq_getElem h1] at eo; cases eo
      | some o =>
        rw [wb_at d ei eo q3] at e
        cases e
        cases o with
        | prm dd => exact .inr (.inr ⟨i, b, dd, a, ei, q3, rfl, eo, q6, q2⟩)
        | un => cases b <;> exact .inr (.inl rfl)
        | exc _ => cases b <;> exact .inr (.inl rfl)
        | val _ => cases b <;> exact .inr (.inl rfl)
        | own _ => cases b <;> exact .inr (.inl rfl)
        | ob _ _ => cases b <;> exact .inr (.inl rfl)
  have own : ∀ j a, OwI σ (wb ls outs ρ) j a → OwI σ ρ j a := fun j a ⟨h1, h2⟩ => by
    cases e : (wb ls outs ρ)[j]? with
    | none => rw [e] at h1; cases h1
    | some b' =>
      rcases slot j b' e with ⟨_, q⟩ | rfl | ⟨i, b, dd, a', q1, q2, q3, q4, q5, _⟩
      · exact ⟨by rw [q]; rw [e] at h1; exact h1, h2⟩
      · rw [e] at h1; cases h1
      · exact ⟨q5.1, h2⟩
  have noS : ∀ j a, OwI σ ρ j a → memL j ls = false → ¬ S2 a := fun j a q hm z => by
    obtain ⟨hs, ⟨o, e, _⟩⟩ := r.own q
    rcases t.g a z with y | ⟨i, y⟩ | y
    · exact hs y
    · have hi := hmore i a y
      obtain ⟨h1, h2⟩ := y
      rw [List.getElem?_append_left hi] at h1
      have h2' : (pst vs)[i]? = some (some (.ref a)) := by
        simp only [pst, List.map_append] at h2 ⊢
        rw [List.getElem?_append_left (by simp; omega)] at h2
        exact h2
      obtain ⟨_, _, own2⟩ := par_rp r d hl hp
      obtain ⟨j', p1, p2⟩ := own2 i a ⟨h1, h2'⟩
      obtain rfl := r.dis j j' a q p2
      rw [memL_of p1] at hm; cases hm
    · rw [e] at y; cases y
  have keepO : ∀ j a, OwI σ ρ j a → memL j ls = false → ∀ o, H a = some o → H2 a = some o := fun j a q hm o e => t.keepS e (fun ⟨i, z⟩ => by
    have hi := hmore i a z
    obtain ⟨h1, h2⟩ := z
    rw [List.getElem?_append_left hi] at h1
    have h2' : (pst vs)[i]? = some (some (.ref a)) := by
      simp only [pst, List.map_append] at h2 ⊢
      rw [List.getElem?_append_left (by simp; omega)] at h2
      exact h2
    obtain ⟨_, _, own2⟩ := par_rp r d hl hp
    obtain ⟨j', p1, p2⟩ := own2 i a ⟨h1, h2'⟩
    obtain rfl := r.dis j j' a q p2
    rw [memL_of p1] at hm; cases hm) (noS j a q hm) (by obtain ⟨_, ⟨o', e', c, _⟩⟩ := r.own q; rw [e] at e'; cases e'; exact c)
  refine ⟨⟨t.s, fun a o e n => t.keep a o e fun z => n (inn a z), t.dom, fun a ⟨j, h⟩ => .inl ⟨j, own j a h⟩, fun a z => (t.g a z).imp id (Or.imp (inn a) id)⟩,
    ⟨by rw [wb_len]; exact r.len, fun j b' e => ?_, fun j k a h1 h2 => r.dis j k a (own j a h1) (own k a h2), ro.al, fun j dd a e h2 => ?_, fun j a h => let ⟨o, e⟩ := r.aa j a h; t.dom a o e, ro.tb⟩, fun a ⟨j, h⟩ => ⟨j, own j a h⟩⟩
  · rcases slot j b' e with ⟨hm, q⟩ | rfl | ⟨i, b, dd, a, q1, q2, q3, q4, q5, q6⟩
    · have qb := r.bd j b' q
      cases b' with
      | un => trivial
      | exc _ => exact bd_exc x qb
      | val d' => obtain ⟨v, e1, e2⟩ := qb; exact ⟨v, e1, e2.ex x⟩
      | own d' =>
        obtain ⟨a, e1, e2, e3⟩ := qb
        have ow : OwI σ ρ j a := ⟨by rw [q]; rfl, e1⟩
        exact ⟨a, e1, noS j a ow hm, e3.ex x (keepO j a ow hm)⟩
      | prm d' =>
        obtain ⟨a, e1, e0, e2, e3⟩ := qb
        have ow : OwI σ ρ j a := ⟨by rw [q]; rfl, e1⟩
        exact ⟨a, e1, e0, noS j a ow hm, e3.ex x (keepO j a ow hm)⟩
      | ob c fs =>
        refine bd_ob x qb fun a e1 => ?_
        have ow : OwI σ ρ j a := ⟨by rw [q]; rfl, e1⟩
        exact ⟨e1, noS j a ow hm, keepO j a ow hm⟩
    · trivial
    · obtain ⟨a', p1, p2, p3⟩ := out_prm i dd q4
      have ea : a' = a := by
        have hi : i < vs.length := (List.getElem?_eq_some_iff.mp q6).1
        simp only [pst, List.map_append] at p1
        rw [List.getElem?_append_left (by simp; omega), List.getElem?_map, q6] at p1
        cases p1; rfl
      subst ea
      have qb := r.bd j b q2
      cases b with
      | un => subst q3; trivial
      | exc _ => subst q3; trivial
      | val _ => subst q3; trivial
      | ob _ _ => subst q3; trivial
      | own d' => subst q3; exact ⟨a', q5.2, p2, p3⟩
      | prm d' =>
        subst q3
        obtain ⟨a2, e1, e0, _⟩ := qb
        rw [q5.2] at e1; cases e1
        exact ⟨a', q5.2, e0, p2, p3⟩
  · rcases slot j _ e with ⟨hm, q⟩ | h | ⟨i, b, d2, a', q1, q2, q3, q4, q5, q6⟩
    · exact r.np j dd a q h2
    · cases h
    · cases b with
      | own d' => exact r.np j d' a q2 h2
      | _ => cases q3
/-- an exception came: the handed slots are told no more -/
theorem backx_rp (r : Rp K A0 S H σ ρ) (d : dstL ls = true) (hl : vs.length = bs.length) (hlb : bs.length = ls.length) (hp : ∀ (i : Nat) (b : B), bs[i]? = some b → ∃ v l, vs[i]? = some v ∧ ls[i]? = some l ∧ Par A0.g K S H σ ρ v b l)
    (more : List V) (dbs : List B) (hmore : ∀ i a, OwI (pst (vs ++ more)) (bs ++ dbs) i a → i < bs.length) (al2 : ∀ a, S2 a → ∃ o, H2 a = some o) (tb2 : LamX.Tabs A0.g.T H2)
    (t : Tr S H (Ow (pst (vs ++ more)) (bs ++ dbs)) S2 H2 (fun _ => False)) : Tr S H (Ow σ ρ) S2 H2 (Ow σ (wbx ls ρ)) ∧ Rp K A0 S2 H2 σ (wbx ls ρ) := by
  have inn : ∀ a, Ow (pst (vs ++ more)) (bs ++ dbs) a → ∃ j, OwI σ ρ j a ∧ memL j ls = true := fun a ⟨i, h⟩ => by
    have hi := hmore i a h
    obtain ⟨h1, h2⟩ := h
    rw [List.getElem?_append_left hi] at h1
    have h2' : (pst vs)[i]? = some (some (.ref a)) := by
      simp only [pst, List.map_append] at h2 ⊢
      rw [List.getElem?_append_left (by simp; omega)] at h2
      exact h2
    obtain ⟨_, _, own⟩ := par_rp r d hl hp
    obtain ⟨j, p, q⟩ := own i a ⟨h1, h2'⟩
    exact ⟨j, q, memL_of p⟩
  have x : Ex S H S2 H2 := Ex.of_tr t (fun a hs z => by
      obtain ⟨j, q, _⟩ := inn a z
      exact (r.own q).1 hs) fun a z => by
    obtain ⟨i, q, _⟩ := inn a z
    exact (r.own q).2
  have slot : ∀ (j : Nat) (b' : B), (wbx ls ρ)[j]? = some b' → (memL j ls = false ∧ ρ[j]? = some b') ∨ b' = .un := fun j b' e => by
    cases hm : memL j ls with
    | false => rw [wbx_ne hm] at e; exact .inl ⟨rfl, e⟩
    | true => exact .inr (wbx_at hm e)
  have own : ∀ j a, OwI σ (wbx ls ρ) j a → OwI σ ρ j a ∧ memL j ls = false := fun j a ⟨h1, h2⟩ => by
    cases e : (wbx ls ρ)[j]? with
    | none => rw [e] at h1; cases h1
    | some b' =>
      rcases slot j b' e with ⟨hm, q⟩ | rfl
      · exact ⟨⟨by rw [q]; rw [e] at h1; exact h1, h2⟩, hm⟩
      · rw [e] at h1; cases h1
  have noS : ∀ j a, OwI σ ρ j a → memL j ls = false → ¬ S2 a := fun j a q hm z => by
    obtain ⟨hs, ⟨o, e, _⟩⟩ := r.own q
    rcases t.g a z with y | y | y
    · exact hs y
    · obtain ⟨j', q', hm'⟩ := inn a y
      obtain rfl := r.dis j j' a q q'
      rw [hm'] at hm; cases hm
    · rw [e] at y; cases y
  have keepO : ∀ j a, OwI σ ρ j a → memL j ls = false → ∀ o, H a = some o → H2 a = some o := fun j a q hm o e => t.keepS e (fun z => by
    obtain ⟨j', q', hm'⟩ := inn a z
    obtain rfl := r.dis j j' a q q'
    rw [hm'] at hm; cases hm) (noS j a q hm) (by obtain ⟨_, ⟨o', e', c, _⟩⟩ := r.own q; rw [e] at e'; cases e'; exact c)
  refine ⟨⟨t.s, fun a o e n => t.keep a o e fun z => let ⟨j, q, _⟩ := inn a z; n ⟨j, q⟩, t.dom, fun a ⟨j, h⟩ => .inl ⟨j, (own j a h).1⟩, fun a z => (t.g a z).imp id (Or.imp (fun z => let ⟨j, q, _⟩ := inn a z; ⟨j, q⟩) id)⟩,
    ⟨by rw [wbx_len]; exact r.len, fun j b' e => ?_, fun j k a h1 h2 => r.dis j k a (own j a h1).1 (own k a h2).1, al2, fun j dd a e h2 => ?_, fun j a h => let ⟨o, e⟩ := r.aa j a h; t.dom a o e, tb2⟩⟩
  · rcases slot j b' e with ⟨hm, q⟩ | rfl
    · have qb := r.bd j b' q
      cases b' with
      | un => trivial
      | exc _ => exact bd_exc x qb
      | val d' => obtain ⟨v, e1, e2⟩ := qb; exact ⟨v, e1, e2.ex x⟩
      | own d' =>
        obtain ⟨a, e1, e2, e3⟩ := qb
        have ow : OwI σ ρ j a := ⟨by rw [q]; rfl, e1⟩
        exact ⟨a, e1, noS j a ow hm, e3.ex x (keepO j a ow hm)⟩
      | prm d' =>
        obtain ⟨a, e1, e0, e2, e3⟩ := qb
        have ow : OwI σ ρ j a := ⟨by rw [q]; rfl, e1⟩
        exact ⟨a, e1, e0, noS j a ow hm, e3.ex x (keepO j a ow hm)⟩
      | ob c fs =>
        refine bd_ob x qb fun a e1 => ?_
        have ow : OwI σ ρ j a := ⟨by rw [q]; rfl, e1⟩
        exact ⟨e1, noS j a ow hm, keepO j a ow hm⟩
    · trivial
  · rcases slot j _ e with ⟨hm, q⟩ | h
    · exact r.np j dd a q h2
    · cases h
end
section
variable {X : Cx} {A0 : Ax} {W : WX} {k : Nat} {f : Addr} {fd : FuncData} {ps : List Str} {F : SE} {dvs : List V} {ds : List Value} {dbs : List B} {x : Str} {p pos : Pos} {e : Expr} {es : List Expr} {fa : SA}
abbrev Dfl (K : PySem.W.Frag) (dvs : List V) (dbs : List B) : Prop := Paired (fun v b => ∃ d, b = B.val d ∧ ∀ S H, Dr K S H v d) dvs dbs
theorem Dfl.nil {K : PySem.W.Frag} : Dfl K [] [] := Paired.nil
theorem Dfl.get {K : PySem.W.Frag} : ∀ {dvs : List V} {dbs : List B} {i : Nat} {b : B}, Dfl K dvs dbs → dbs[i]? = some b → ∃ v d, dvs[i]? = some v ∧ b = .val d ∧ ∀ S H, Dr K S H v d
  | [], dbs, i, b, h, e => by cases h; simp at e
  | v :: dvs, dbs, i, b, h, e => by
    cases h with
    | cons a t =>
      cases i with
      | zero =>
        obtain ⟨d, e1, q⟩ := a
        have e2 : _ = b := Option.some.inj e
        exact ⟨v, d, rfl, by rw [← e2, e1], q⟩
      | succ i =>
        obtain ⟨v', d, e1, q⟩ := Dfl.get (i := i) t (by simpa using e)
        exact ⟨v', d, by simpa using e1, q⟩
theorem Dfl.len {K : PySem.W.Frag} {dvs : List V} {dbs : List B} (h : Dfl K dvs dbs) : dvs.length = dbs.length := Paired.length h
/-- the callee runs -/
theorem run_fnG {pins : List (Addr × Obj)} {σ : St} {H : Hp} {s : Shared} {Q : VK} {E : XK} {us : List Value} {vs : List V} {S : Addr → Prop} {bs : List B} (G : FnG X.prog X.w X.K X.mg X.base A0.g k f fd ps F) (hr : Room k X.A) (gx : GX X) (hb : Binds X.K fd ps ds) (hd : Vals dvs ds)
    (hx : ∀ (e : Value) (s' : Shared), CX X.prog X.w X.stack H s E e s' → X.xe e s')
    (I : Inv X pins σ H s) (r : Vals vs us) (hl : (vs ++ dvs).length = ps.length) (hbs : ∀ (i : Nat) (d : PyData), bs[i]? ≠ some (B.own d)) (rp : Rp X.K (A0p A0.g (vs ++ dvs) bs) S H (pst (vs ++ dvs)) bs)
    (h : PostF A0.g X.K X.mg S H (vs ++ dvs) bs (F bs) Q E) : wpAny (model X.prog X.w) X.A (call (.ref f) us) (EP X pins σ Q) X.xe s := by
  have r2 : Vals (vs ++ dvs) (us ++ ds) := r.append hd
  have hl2 : (us ++ ds).length = ps.length := by rw [← r2.length]; exact hl
  refine wpAny_call (codeAny_mono (G.run X.A X.stack s H ⟨us, []⟩ (us ++ ds) (vs ++ dvs) Q E S bs hr gx.gd I.env0 (hb s us I.kIn hl2) r2 hl hbs rp h) fun r s' hq => ?_)
  cases r with
  | error e => exact hx e s' hq
  | ok fl =>
    cases fl with
    | ret u => exact I.after hq
    | next => exact False.elim hq
    | brk => exact False.elim hq
    | cont => exact False.elim hq
def tCallG (G : Sp) (E : St → XK) (t : TA) : TE := fun σ H Q => t σ H fun vs H1 => G vs H1 Q (E σ)
def spG (Γ : Gx) (K : PySem.W.Frag) (mg : Str → Option Value) (n : Nat) (dvs : List V) (F : SE) : Sp := fun vs H Q E => (vs ++ dvs).length = n ∧ ∃ S bs, (∀ (i : Nat) (d : PyData), bs[i]? ≠ some (B.own d)) ∧ Rp K (A0p Γ (vs ++ dvs) bs) S H (pst (vs ++ dvs)) bs ∧ PostF Γ K mg S H (vs ++ dvs) bs (F bs) Q E
theorem pe_callG (gg : FnG X.prog X.w X.K X.mg X.base A0.g k f fd ps F) (hr : Room k X.A) (gx : GX X) (tk : Takes X W) (hg : Gl X x) (hm : X.mg x = some (.ref f)) (hk : PySem.W.keepIn X.K (.ref f) = true) (hb : Binds X.K fd ps ds) (hd : Vals dvs ds)
    {t : TA} (ha : PA X (e :: es) t) (hdb : (x == ("__debug__" : Str)) = false := by decide) (he : starEach (e :: es) X.env = (false, eval e X.env) :: starEach es X.env := by rfl) (hpl : (backTo pos (starEach es X.env)).any (·.1) = false := by rfl) :
    PE X (.Call (.Name x p) (e :: es) [] pos) (tCallG (spG A0.g X.K X.mg ps.length dvs F) (WE W) t) := by
  refine ⟨fun pins s σ H Q I h => ?_⟩
  refine wpAny_Call_Name_kw (ld_glob I hg hm ?_ hdb)
  refine PySem.W.callWith_K (h₀ := X.base) I.ok.mod.kin hk (thn (ha.run pos pins s σ H _ I h) fun us s1 ⟨vs, H1, I1, r, hl, S, bs, hbs, rp, q⟩ => ⟨I1.kIn, ?_⟩) he hpl
  exact run_fnG gg hr gx hb hd (fun e s' c => passAt tk σ pins H1 s1 e s' I1 c) I1 r hl hbs rp q
theorem callG_ok {ms : List Bool} {n : Nat} (hdf : Dfl X.K dvs dbs) (hlen : ∀ vs : List V, ∀ es : List Ev, Paired (fun _ _ => True) vs es → ∀ ρ es' ρ', cv1 ms es ρ = some (es', ρ') → (vs ++ dvs).length = n) :
    ∀ σ H Q, tE (gc X A0 W) (callF ms F dbs fa) σ H Q → tCallG (spG A0.g X.K X.mg n dvs F) (WE W) (tA (gc X A0 W) fa) σ H Q := by
  rintro σ H Q ⟨S, ρ, rp, h⟩
  refine tA_bind (P := fun z => PostE (gc X A0 W) S H σ ρ z Q) exE PostE.bad rp h fun p S1 H1 vs t1 r1 e1 h => ?_
  cases q1 : cv1 ms p.1 p.2 with
  | none => rw [q1] at h; exact h.elim
  | some pr =>
    obtain ⟨es', ρ1⟩ := pr
    rw [q1] at h
    simp only at h
    obtain ⟨S2, t2, r2, e2, _⟩ := cv1_ok t1 r1 e1 q1
    cases q2 : cv2 ρ1 es' with
    | none => rw [q2] at h; exact h.elim
    | some pr2 =>
      obtain ⟨bs, ls⟩ := pr2
      rw [q2] at h
      simp only at h
      obtain ⟨l1, l2, hp⟩ := cv2_ok r2 e2 q2
      have ld := hdf.len
      have hp' : ∀ (i : Nat) (b : B), (bs ++ dbs)[i]? = some b → ∃ v l, (vs ++ dvs)[i]? = some v ∧ (ls ++ dbs.map fun _ => (none : Option Nat))[i]? = some l ∧ Par A0.g X.K S2 H1 σ ρ1 v b l := fun i b hb => by
        by_cases hi : i < bs.length
        · rw [List.getElem?_append_left hi] at hb
          obtain ⟨v, l, e1, e2, q⟩ := hp i b hb
          exact ⟨v, l, by rw [List.getElem?_append_left (by omega)]; exact e1, by rw [List.getElem?_append_left (by omega)]; exact e2, q⟩
        · rw [List.getElem?_append_right (by omega)] at hb
          obtain ⟨v, d, e1, e2, q⟩ := hdf.get hb
          refine ⟨v, none, by rw [List.getElem?_append_right (by omega), l1]; exact e1, ?_, .inl ⟨d, e2, rfl, q _ _⟩⟩
          rw [List.getElem?_append_right (by omega), ← l2, List.getElem?_map, hb]
          rfl
      have hl' : (vs ++ dvs).length = (bs ++ dbs).length := by rw [List.length_append, List.length_append]; omega
      have hlb' : (bs ++ dbs).length = (ls ++ dbs.map fun _ => (none : Option Nat)).length := by rw [List.length_append, List.length_append, List.length_map]; omega
      show spG A0.g X.K X.mg n dvs F vs H1 Q (WE W σ)
      unfold spG
      generalize bs ++ dbs = bs' at h hp' hl' hlb'
      generalize (ls ++ dbs.map fun _ => (none : Option Nat)) = ls' at h hp' hlb'
      have hn := hlen vs p.1 (Paired.mapP e1 fun _ _ _ => trivial) _ _ _ q1
      generalize vs ++ dvs = vs' at hp' hl' hn ⊢
      unfold callR at h
      split at h
      rotate_left
      · exact h.elim
      rename_i dst
      obtain ⟨pr, pb, pown⟩ := par_rp r2 dst hl' hp'
      have hmore : ∀ i a, OwI (pst (vs' ++ [])) (bs' ++ []) i a → i < bs'.length := fun i a ⟨q, _⟩ => by
        by_cases hi : i < bs'.length
        · exact hi
        · rw [List.append_nil, List.getElem?_eq_none (by omega)] at q; cases q
      refine ⟨hn, S2, bs', pb, pr, ?_⟩
      cases ef : F bs' with
      | bad => rw [ef] at h; exact h.elim
      | ex nm ρx =>
        rw [ef] at h
        intro S3 H3 t3 al3 tb3 C hC
        obtain ⟨t4, r4⟩ := backx_rp r2 dst hl' hlb' hp' [] [] hmore al3 tb3 (by rw [List.append_nil, List.append_nil]; exact t3)
        exact h S3 H3 (t2.trans t4) r4 C hC
      | ok pf =>
        obtain ⟨ev, outs⟩ := pf
        rw [ef] at h
        intro S3 H3 v t3 r3 re
        have bk := back_rp r2 dst hl' hlb' hp' [] [] hmore (by rw [List.append_nil, List.append_nil]; exact t3) (by rw [List.append_nil, List.append_nil]; exact r3)
        obtain ⟨t4, r4, sub⟩ := bk
        cases ev with
        | sl i => exact h.elim
        | val d => exact h S3 H3 v (t2.trans t4) r4 re
        | fr d =>
          obtain ⟨a, e1, ⟨h0, h0'⟩, hs, ho, hc⟩ := re
          refine h S3 H3 v (t2.trans t4) r4 ⟨a, e1, ⟨t2.fresh h0, fun j hj => ?_⟩, hs, fun z => ?_, hc⟩
          · obtain ⟨o, eo⟩ := r2.aa j a hj
            rw [h0] at eo; cases eo
          · obtain ⟨i, q⟩ := sub a z
            obtain ⟨_, ⟨o, eo, _⟩⟩ := r2.own q
            rw [h0] at eo; cases eo
theorem cv1_len : ∀ {ms : List Bool} {vs : List V} {es es' : List Ev} {ρ ρ' : List B}, Paired (fun _ _ => True) vs es → cv1 ms es ρ = some (es', ρ') → vs.length = ms.length
  | [], vs, [], _, _, _, h, _ => by cases h; rfl
  | m :: ms, vs, e :: es, es', ρ, ρ', h, q => by
    cases h with
    | cons _ t =>
      unfold cv1 at q
      cases m with
      | true =>
        simp only [if_true] at q
        cases q1 : cv1 ms es ρ with
        | none => rw [q1] at q; cases q
        | some p => obtain ⟨a, b⟩ := p; simp only [List.length_cons]; rw [cv1_len t q1]
      | false =>
        simp only [Bool.false_eq_true, if_false] at q
        cases q1 : shr ρ e with
        | none => rw [q1] at q; cases q
        | some p =>
          rw [q1, Option.bind_some] at q
          cases q2 : cv1 ms es p.2 with
          | none => rw [q2] at q; cases q
          | some p2 => obtain ⟨a, b⟩ := p2; simp only [List.length_cons]; rw [cv1_len t q2]
  | [], _, _ :: _, _, _, _, _, q => by cases q
  | _ :: _, _, [], _, _, _, _, q => by cases q
/-- f(..), f a def of the text; ms: the arguments' modes; the further parameters by their defaults -/
theorem gcallf (ms : List Bool) {dvs : List V} {ds : List Value} {dbs : List B} (gg : FnG X.prog X.w X.K X.mg X.base A0.g k f fd ps F) (hr : Room k X.A) (gx : GX X) (tk : Takes X W) (hm : X.mg x = some (.ref f)) (hk : PySem.W.keepIn X.K (.ref f) = true) (hb : Binds X.K fd ps ds) (hd : Vals dvs ds) (hdf : Dfl X.K dvs dbs)
    (ha : PA X (e :: es) (tA (gc X A0 W) fa)) (hn : (ms.length + dvs.length == ps.length) = true := by rfl) (hg : Gl X x := by rfl) (hdb : (x == ("__debug__" : Str)) = false := by decide) (he : starEach (e :: es) X.env = (false, eval e X.env) :: starEach es X.env := by rfl) (hpl : (backTo pos (starEach es X.env)).any (·.1) = false := by rfl) :
    PE X (.Call (.Name x p) (e :: es) [] pos) (tE (gc X A0 W) (callF ms F dbs fa)) :=
  PE_imp (pe_callG gg hr gx tk hg hm hk hb hd ha hdb he hpl) (callG_ok hdf fun vs es h ρ es' ρ' q => by rw [List.length_append, cv1_len h q]; exact eq_of_beq hn)
end
end G
namespace G
open PySem PySem.Spec PyProof.Rows L2
/-! ### a list that a slot alone holds is changed -/
def ownD : B → Option PyData
  | .own d => some d
  | .prm d => some d
  | _ => none
def reD : B → PyData → B
  | .own _, d => .own d
  | .prm _, d => .prm d
  | b, _ => b
section
variable {K : PySem.W.Frag} {A0 : Ax} {S S0 : Addr → Prop} {H H0 : Hp} {σ : St} {ρ : List B} {O0 : Addr → Prop} {i : Nat}
theorem own_slot (r : Rp K A0 S H σ ρ) {b : B} {d : PyData} (e : ρ[i]? = some b) (hd : ownD b = some d) : ∃ a o, σ[i]? = some (some (.ref a)) ∧ OwI σ ρ i a ∧ ¬ S a ∧ H a = some o ∧ Ct K S H o d := by
  have q := r.bd i b e
  cases b with
  | un => cases hd
  | exc _ => cases hd
  | ob _ _ => cases hd
  | val _ => cases hd
  | own d' => cases hd; obtain ⟨a, e1, e2, o, e3, e4⟩ := q; exact ⟨a, o, e1, ⟨by rw [e]; rfl, e1⟩, e2, e3, e4⟩
  | prm d' => cases hd; obtain ⟨a, e1, e0, e2, o, e3, e4⟩ := q; exact ⟨a, o, e1, ⟨by rw [e]; rfl, e1⟩, e2, e3, e4⟩
theorem Ex.upd {a : Addr} {o o' : HO} {d : PyData} (hs : ¬ S a) (e : H a = some o) (c : Ct K S H o d) : Ex S H S (upd H a o') := by
  have ne : ∀ b u, H b = some u → (∀ xs, u ≠ .lst xs) → (∀ xs, u ≠ .dK xs) → (∀ xs, u ≠ .dT xs) → (∀ φ, u ≠ .ext φ) → b ≠ a := fun b u hb n1 n2 n3 n4 z => by
    subst z; rw [e] at hb; cases hb
    cases c with
    | lst _ => exact n1 _ rfl
    | dK _ => exact n2 _ rfl
    | dX _ _ _ => exact n4 _ rfl
  exact ⟨fun _ h => h, fun b u hb _ h => by
    have hne : b ≠ a := fun z => hs (by rw [← z]; exact hb)
    exact h.imp (fun q => by rw [upd_ne hne]; exact q) (fun ⟨q, od, z⟩ => ⟨q, od, by rw [upd_ne hne]; exact z⟩), fun b xs h => by rw [upd_ne (ne b _ h nofun nofun nofun nofun)]; exact h, fun b ob u h => by rw [upd_ne (ne b _ h nofun nofun nofun nofun)]; exact h, fun b fs h => by rw [upd_ne (ne b _ h nofun nofun nofun nofun)]; exact h⟩
theorem Rp.updOwn (r : Rp K A0 S H σ ρ) {b : B} {d d' : PyData} {a : Addr} {o o' : HO} (e : ρ[i]? = some b) (hd : ownD b = some d) (ea : σ[i]? = some (some (.ref a))) (hs : ¬ S a) (ho : H a = some o) (c : Ct K S H o d) (c' : Ct K S (upd H a o') o' d') :
    Rp K A0 S (upd H a o') σ (ρ.set i (reD b d')) ∧ Tr S H (Ow σ ρ) S (upd H a o') (Ow σ (ρ.set i (reD b d'))) := by
  have x : Ex S H S (upd H a o') := Ex.upd hs ho c
  have hl : i < ρ.length := (List.getElem?_eq_some_iff.mp e).1
  have hi : OwI σ ρ i a := ⟨(by rw [e]; cases b with
    | un => cases hd
    | exc _ => cases hd
    | ob _ _ => cases hd
    | val _ => cases hd
    | own _ => rfl
    | prm _ => rfl), ea⟩
  have own : ∀ j c, OwI σ (ρ.set i (reD b d')) j c → OwI σ ρ j c := fun j c ⟨h1, h2⟩ => by
    by_cases hj : i = j
    · subst hj; rw [ea] at h2; cases h2; exact hi
    · rw [List.getElem?_set_ne hj] at h1; exact ⟨h1, h2⟩
  have keep : ∀ j c, OwI σ ρ j c → i ≠ j → ∀ u, H c = some u → (upd H a o') c = some u := fun j c h hj u hc => by
    have hne : c ≠ a := fun z => hj (r.dis i j c (by rw [z]; exact hi) h)
    rw [upd_ne hne]; exact hc
  refine ⟨⟨by rw [List.length_set]; exact r.len, fun j bj hb => ?_, fun j k c h1 h2 => r.dis j k c (own j c h1) (own k c h2), fun c h => ?_, fun j dj c h1 h2 => ?_, fun j c h => ?_, tabs_upd r.tb ho c.notTb c.notCode⟩, ⟨fun _ h => h, fun c u hc n => ?_, fun c u hc => ?_, fun c ⟨j, h⟩ => .inl ⟨j, own j c h⟩, fun _ h => .inl h⟩⟩
  · by_cases hj : i = j
    · subst hj
      rw [List.getElem?_set_self hl] at hb; cases hb
      have q := r.bd i b e
      cases b with
      | un => cases hd
      | exc _ => cases hd
      | ob _ _ => cases hd
      | val _ => cases hd
      | own d0 => exact ⟨a, ea, hs, o', upd_same, c'⟩
      | prm d0 =>
        obtain ⟨a2, e1, e0, _⟩ := q
        rw [ea] at e1; cases e1
        exact ⟨a, ea, e0, hs, o', upd_same, c'⟩
    · rw [List.getElem?_set_ne hj] at hb
      have q := r.bd j bj hb
      cases bj with
      | un => trivial
      | exc _ => exact bd_exc x q
      | val d0 => obtain ⟨v, e1, e2⟩ := q; exact ⟨v, e1, e2.ex x⟩
      | own d0 =>
        obtain ⟨c1, e1, e2, e3⟩ := q
        exact ⟨c1, e1, e2, e3.ex x (keep j c1 ⟨by rw [hb]; rfl, e1⟩ hj)⟩
      | prm d0 =>
        obtain ⟨c1, e1, e0, e2, e3⟩ := q
        exact ⟨c1, e1, e0, e2, e3.ex x (keep j c1 ⟨by rw [hb]; rfl, e1⟩ hj)⟩
      | ob cl fs => exact bd_ob x q fun c1 e1 => ⟨e1, (r.own ⟨by rw [hb]; rfl, e1⟩).1, keep j c1 ⟨by rw [hb]; rfl, e1⟩ hj⟩
  · obtain ⟨u, hu⟩ := r.al c h
    by_cases hc : c = a
    · exact ⟨o', by rw [hc]; exact upd_same⟩
    · exact ⟨u, by rw [upd_ne hc]; exact hu⟩
  · by_cases hj : i = j
    · subst hj
      rw [List.getElem?_set_self hl] at h1
      cases b with
      | own d0 => exact r.np i d0 c e h2
      | un => cases hd
      | exc _ => cases hd
      | ob _ _ => cases hd
      | val _ => cases hd
      | prm _ => cases h1
    · rw [List.getElem?_set_ne hj] at h1; exact r.np j dj c h1 h2
  · obtain ⟨u, hu⟩ := r.aa j c h
    by_cases hc : c = a
    · subst hc; exact ⟨o', upd_same⟩
    · exact ⟨u, by rw [upd_ne hc]; exact hu⟩
  · have hne : c ≠ a := fun z => n ⟨i, by rw [z]; exact hi⟩
    exact .inl (by rw [upd_ne hne]; exact hc)
  · by_cases hc' : c = a
    · subst hc'; exact ⟨o', upd_same⟩
    · exact ⟨u, by rw [upd_ne hc']; exact hc⟩
end
/-! ### xs.append(e) -/
def appD (d y : PyData) : Option PyData := match d with
  | .list ds => if ds.length < sizeLine then some (.list (ds ++ [y])) else none
  | _ => none
/-- the slot's list after a method with the given data -/
def mutE1 (i : Nat) (mt : PyData → List PyData → Option (PyData × PyData)) (fa : SA) : SE := fun ρ => (fa ρ).bind fun p => match shrs p.2 p.1 with
  | some (ys, ρ1) => (match ρ1[i]? with
    | some b => (match ownD b with
      | some d => (match mt d ys with
        | some (d', v) => .ok (.val v, ρ1.set i (reD b d'))
        | none => .bad)
      | none => .bad)
    | none => .bad)
  | none => .bad
def isLst : PyData → Bool
  | .list _ => true
  | _ => false
def mutE (i : Nat) (mt : PyData → List PyData → Option (PyData × PyData)) (fa : SA) : SE := fun ρ => match (ρ[i]?).bind ownD with
  | some d => if isLst d = true then mutE1 i mt fa ρ else .bad
  | none => .bad
section
variable {X : Cx} {A0 : Ax} {W : WX} {e : Expr} {es : List Expr} {fa : SA} {apos cpos pos : Pos}
theorem mut_bind {g : Gc} {i : Nat} {mt : PyData → List PyData → Option (PyData × PyData)} {σ : St} {H : Hp} {Q : VK} {S : Addr → Prop} {ρ : List B} (r : Rp g.K g.A0 S H σ ρ) (h : PostE g S H σ ρ (mutE1 i mt fa ρ) Q) {R : List V → Hp → Prop}
    (hR : ∀ S1 H1 vs ys d d' v (a : Addr) o, Ex S H S1 H1 → DrAll g.K S1 H1 vs ys → mt d ys = some (d', v) → σ[i]? = some (some (.ref a)) → H1 a = some o → Ct g.K S1 H1 o d → ¬ S1 a →
      (∀ o' u, Ct g.K S1 (upd H1 a o') o' d' → Dr g.K S1 (upd H1 a o') u v → Q u (upd H1 a o')) → R vs H1) : tA g fa σ H R := by
  refine tA_bind (P := fun z => PostE g S H σ ρ z Q) exE PostE.bad r h fun p S1 H1 vs t1 r1 e1 h => ?_
  cases q : shrs p.2 p.1 with
  | none => rw [q] at h; exact h.elim
  | some pr =>
    obtain ⟨ys, ρ1⟩ := pr
    rw [q] at h
    simp only at h
    obtain ⟨S2, t2, r2, d2, _⟩ := shrs_ok t1 r1 e1 q
    cases eb : ρ1[i]? with
    | none => rw [eb] at h; exact h.elim
    | some b =>
      rw [eb] at h
      simp only at h
      cases eo : ownD b with
      | none => rw [eo] at h; exact h.elim
      | some d =>
        rw [eo] at h
        simp only at h
        cases em : mt d ys with
        | none => rw [em] at h; exact h.elim
        | some dv =>
          obtain ⟨d', v⟩ := dv
          rw [em] at h
          simp only at h
          obtain ⟨a, o, ea, _, hs, ho, c⟩ := own_slot r2 eb eo
          refine hR S2 H1 vs ys d d' v a o (r.ex t2) d2 em ea ho c hs fun o' u c' dv => ?_
          obtain ⟨r3, t3⟩ := r2.updOwn (o' := o') (d' := d') eb eo ea hs ho c c'
          exact h S2 _ u (t2.trans t3) r3 dv
theorem mut_slot {g : Gc} {i : Nat} {mt : PyData → List PyData → Option (PyData × PyData)} {σ : St} {H : Hp} {Q : VK} (h : tE g (mutE i mt fa) σ H Q) :
    ∃ S ρ a xs, Rp g.K g.A0 S H σ ρ ∧ PostE g S H σ ρ (mutE1 i mt fa ρ) Q ∧ σ[i]? = some (some (.ref a)) ∧ H a = some (.lst xs) := by
  obtain ⟨S, ρ, r, h⟩ := h
  unfold mutE at h
  cases e : ρ[i]? with
  | none => rw [e] at h; exact h.elim
  | some b =>
    rw [e, Option.bind_some] at h
    cases eo : ownD b with
    | none => rw [eo] at h; exact h.elim
    | some d =>
      rw [eo] at h
      simp only at h
      split at h
      · rename_i hl
        obtain ⟨a, o, ea, _, hs, ho, c⟩ := own_slot r e eo
        cases d with
        | list ds =>
          cases c with
          | lst _ => exact ⟨S, ρ, a, _, r, h, ea, ho⟩
        | _ => cases hl
      · exact h.elim
def mtApp (d : PyData) (ys : List PyData) : Option (PyData × PyData) := match ys with
  | [y] => (appD d y).map fun d' => (d', PyData.none)
  | _ => none
theorem DrAll.one {K : PySem.W.Frag} {S : Addr → Prop} {H : Hp} {vs : List V} {y : PyData} (h : DrAll K S H vs [y]) : ∃ v, vs = [v] ∧ Dr K S H v y := by
  cases h with
  | cons a b => cases b; exact ⟨_, rfl, a⟩
theorem gappend (i : Nat) {x : Str} {p : Pos} (ha : PA X (e :: es) (tA (gc X A0 W) fa)) (hN : X.N[i]? = some x := by rfl) (hv : Vis X.env.scope x := by first | exact Or.inl rfl | exact Or.inr (Or.inl rfl) | exact Or.inr (Or.inr rfl))
    (hd : (x == ("__debug__" : Str)) = false := by decide) (hcd : (x == ("__classdict__" : Str)) = false := by decide) (hbase : attributeBase (.Name x p) "append" X.env (eval (.Name x p) X.env) = eval (.Name x p) X.env := by rfl)
    (hfew : ((backTo cpos (starEach (e :: es) X.env)).all (fun x => !x.1) && (backToKw cpos (keywordEach [] X.env)).all (fun x => x.1.isSome)
      && decide ((e :: es).length + ([] : List Keyword).length + (if ([] : List Keyword).isEmpty then 0 else 1) < 30)) = true := by rfl)
    (hline : (apos.endLine == cpos.line) = true := by rfl) (hs : starEach (e :: es) X.env = (false, eval e X.env) :: starEach es X.env := by rfl) (hplain : (backTo cpos (starEach es X.env)).any (·.1) = false := by rfl) :
    PE X (.Call (.Attribute (.Name x p) "append" apos) (e :: es) [] cpos) (tE (gc X A0 W) (mutE i mtApp fa)) := by
  refine PE_imp (pe_bm PySem.F.plainAttrs_list PySem.F.slot_list_append PySem.F.type_list_append mt_append (pe_var hN hv hd hcd) ha hbase hfew hline hs hplain) ?_
  intro σ H Q h
  obtain ⟨S, ρ, a, xs, r, h, ea, hx⟩ := mut_slot h
  refine ⟨.ref a, ea, .inl ⟨rfl, xs, .inl (.inl hx)⟩, mut_bind r h fun S1 H1 vs ys d d' v a2 o x dy hm ea2 ho c hs q => ?_⟩
  rw [ea] at ea2; cases ea2
  match ys, hm with
  | [y], hm =>
    obtain ⟨u, rfl, du⟩ := dy.one
    simp only [mtApp, appD] at hm
    cases d with
    | list ds =>
      simp only at hm
      split at hm
      · rename_i hz
        cases hm
        cases c with
        | lst cc =>
          rename_i zs
          refine ⟨a, zs, u, rfl, rfl, ho, by rw [cc.length]; exact hz, q _ .non ?_ .non⟩
          have x2 : Ex S1 H1 S1 (upd H1 a (.lst (zs ++ [u]))) := Ex.upd hs ho (.lst cc)
          exact .lst ((cc.ex x2).append (.cons (du.ex x2) .nil))
      · cases hm
    | _ => cases hm
end
/-! ### xs[k] = e -/
def setD (d k y : PyData) : Option PyData := match d, k with
  | .list ds, .int i => (ixN ds.length i).map fun j => .list (ds.set j y)
  | .dict kvs, k => (keyOf k).bind fun q => if keyed kvs = true ∧ kvs.length < 1000000 then some (.dict (dput kvs q y)) else none
  | _, _ => none
theorem pset_or {X : Cx} {r r' : TSet} (h : PSet X r) (h' : PSet X r') : PSet X (fun o i v H Q => r o i v H Q ∨ r' o i v H Q) := by
  intro pins s σ H o i v ov iv u Q I ro ri rv q
  rcases q with q | q
  · exact h pins s σ H o i v ov iv u Q I ro ri rv q
  · exact h' pins s σ H o i v ov iv u Q I ro ri rv q
def setS (i : Nat) (fk fe : SE) : SS := fun ρ => (fe ρ).bind fun p => match shr p.2 (settle p.1) with
  | some (y, ρ1) => (match (ρ1[i]?).bind ownD with
    | some _ => (fk ρ1).bind fun q => (match peek q.2 q.1 with
      | some k => (match q.2[i]? with
        | some b => (match ownD b with
          | some d => (match setD d k y with
            | some d' => .ok (.nx (q.2.set i (reD b d')))
            | none => .bad)
          | none => .bad)
        | none => .bad)
      | none => .bad)
    | none => .bad)
  | none => .bad
section
variable {X : Cx} {A0 : Ax} {W : WX} {ek e : Expr} {fk fe : SE} {pos tpos : Pos}
theorem gsetitem (hu : X.A.units + 1 < cLine) (i : Nat) {x : Str} {p : Pos} (hk : PE X ek (tE (gc X A0 W) fk)) (he : PE X e (tE (gc X A0 W) fe)) (hN : X.N[i]? = some x := by rfl) (hv : Vis X.env.scope x := by first | exact Or.inl rfl | exact Or.inr (Or.inl rfl) | exact Or.inr (Or.inr rfl))
    (hd : (x == ("__debug__" : Str)) = false := by decide) (hcd : (x == ("__classdict__" : Str)) = false := by decide)
    (ha : ∀ v, assign (.Subscript (.Name x p) ek tpos) X.env v = (do
      let ov ← holding [v] (eval (.Name x p) X.env)
      let iv ← holding [v, ov] (eval ek X.env)
      standAt tpos
      holding [v, ov, iv] (setItem ov iv v)
      release [v, ov, iv] []) := by intro _; rfl)
    (hs : swapsWithSole [.Subscript (.Name x p) ek tpos] e pos.line X.env = pure false := by rfl) (hw : swappedStores [.Subscript (.Name x p) ek tpos] e X.env = pure none := by rfl)
    (h1 : (assignEach [.Subscript (.Name x p) ek tpos] X.env).map (·.2) = [assign (.Subscript (.Name x p) ek tpos) X.env] := by rfl) :
    PS X (.Assign [.Subscript (.Name x p) ek tpos] e pos) (tSt (gc X A0 W) (setS i fk fe)) := by
  refine PS_imp (ps_asg he (pg_sub (pe_var hN hv hd hcd) hk (G.pset_or set_list (set_dict hu)) ha) hs hw h1) ?_
  rintro D σ H ⟨S, ρ, r, h⟩
  refine tE_bind (P := fun z => PostS (gc X A0 W) S H σ ρ z D) exS PostS.bad r h fun p S1 H1 v1 t1 r1 e1 h => ?_
  obtain ⟨S1', t1', r1', e1', _⟩ := settle_ok t1 r1 e1
  cases q : shr p.2 (settle p.1) with
  | none => rw [q] at h; exact h.elim
  | some pr =>
    obtain ⟨y, ρ1⟩ := pr
    rw [q] at h
    obtain ⟨S2, t2, r2, dy, _⟩ := shr_ok t1' r1' e1' q
    simp only at h
    cases e0 : ρ1[i]? with
    | none => rw [e0] at h; exact h.elim
    | some b0 =>
      rw [e0, Option.bind_some] at h
      cases eo0 : ownD b0 with
      | none => rw [eo0] at h; exact h.elim
      | some d0 =>
        rw [eo0] at h
        simp only at h
        obtain ⟨a, _, ea, _⟩ := own_slot r2 e0 eo0
        refine ⟨.ref a, ea, ?_⟩
        refine tE_bind (P := fun z => PostS (gc X A0 W) S2 H1 σ ρ1 z D) exS PostS.bad r2 (PostS.from t2 h) fun q S3 H3 v3 t3 r3 e3 h => ?_
        cases ep : peek q.2 q.1 with
        | none => rw [ep] at h; exact h.elim
        | some k =>
          rw [ep] at h
          simp only at h
          cases eb : q.2[i]? with
          | none => rw [eb] at h; exact h.elim
          | some b =>
            rw [eb] at h
            simp only at h
            cases eo : ownD b with
            | none => rw [eo] at h; exact h.elim
            | some d =>
              rw [eo] at h
              simp only at h
              cases em : setD d k y with
              | none => rw [em] at h; exact h.elim
              | some d' =>
                rw [em] at h
                simp only at h
                obtain ⟨a2, o, ea2, _, hs2, ho, c⟩ := own_slot r3 eb eo
                rw [ea] at ea2; cases ea2
                have dk := peek_ok r3 e3 ep
                have dy3 := dy.ex (r2.ex t3)
                cases d with
                | dict kvs =>
                  have em' : ((keyOf k).bind fun q => if keyed kvs = true ∧ kvs.length < 1000000 then some (PyData.dict (dput kvs q y)) else none) = some d' := by cases k <;> exact em
                  cases hq : keyOf k with
                  | none => rw [hq] at em'; cases em'
                  | some qk =>
                    rw [hq] at em'
                    simp only [Option.bind] at em'
                    split at em'
                    · rename_i hkk
                      cases em'
                      obtain ⟨ks, dd, rfl, cc, rfl⟩ := c.key hkk.1
                      have x2 : Ex S3 H3 S3 (upd H3 a (.dK (putK ks qk v1))) := Ex.upd hs2 ho (.dK cc)
                      obtain ⟨ds', p1, p2⟩ := putK_ok (q := qk) (cc.ex x2) (dy3.ex x2)
                      obtain ⟨r4, t4⟩ := r3.updOwn (o' := .dK (putK ks qk v1)) (d' := .dict (dput ((ks.map fun p => kD p.1).zip dd) qk y)) eb eo ea hs2 ho (.dK cc) (by rw [← p2]; exact .dK p1)
                      have hlen : ks.length < sizeLine := by
                        have h1 := cc.length
                        have h2 := hkk.2
                        simp only [List.length_map, List.length_zip] at h1 h2
                        exact Nat.lt_of_lt_of_le (show ks.length < 1000000 by omega) (by decide)
                      exact .inr ⟨a, _, rfl, by rw [dk.key hq]; exact DPut.k ho hlen, h S3 _ σ (t3.trans t4) r4⟩
                    · cases em'
                | list ds =>
                  cases k with
                  | int j =>
                    simp only [setD] at em
                    cases ej : ixN ds.length j with
                    | none => rw [ej] at em; cases em
                    | some n =>
                      rw [ej] at em; cases em
                      cases c with
                      | lst cc =>
                        rename_i zs
                        have x2 : Ex S3 H3 S3 (upd H3 a (.lst (zs.set n v1))) := Ex.upd hs2 ho (.lst cc)
                        obtain ⟨r4, t4⟩ := r3.updOwn (o' := .lst (zs.set n v1)) (d' := .list (ds.set n y)) eb eo ea hs2 ho (.lst cc) (.lst (DrAll.set (dy3.ex x2) n (cc.ex x2)))
                        exact .inl ⟨a, zs, j, n, rfl, dk.int, ho, by rw [cc.length]; exact ej, h S3 _ σ (t3.trans t4) r4⟩
                  | _ => cases em
                | _ => cases em
end
/-! ### a, b = e1, e2 -/
def resv (ρ : List B) : Ev → Option (Ev × List B)
  | .sl j => (shr ρ (.sl j)).map fun p => (.val p.1, p.2)
  | e => some (e, ρ)
def parS (i j : Nat) (fa fb : SE) : SS := fun ρ => (fa ρ).bind fun p => (fb p.2).bind fun q => match resv q.2 p.1 with
  | some (e1, ρ1) => (match resv ρ1 q.1 with
    | some (e2, ρ2) => (match bindV i e1 ρ2 with
      | .ok ρ3 => (match bindV j e2 ρ3 with
        | .ok ρ4 => .ok (.nx ρ4)
        | _ => .bad)
      | _ => .bad)
    | none => .bad)
  | none => .bad
theorem resv_ok {K : PySem.W.Frag} {A0 : Ax} {S S0 : Addr → Prop} {H H0 HR : Hp} {σ : St} {ρ ρ' : List B} {O0 : Addr → Prop} {v : V} {e e' : Ev}
    (t : Tr S0 H0 O0 S H (Ow σ ρ)) (r : Rp K A0 S H σ ρ) (h : RE K A0 HR S H σ ρ v e) (q : resv ρ e = some (e', ρ')) :
    ∃ S', Tr S0 H0 O0 S' H (Ow σ ρ') ∧ Rp K A0 S' H σ ρ' ∧ RE K A0 HR S' H σ ρ' v e' ∧ (∀ i, e' ≠ .sl i) ∧ Tr S H (Ow σ ρ) S' H (Ow σ ρ') := by
  cases e with
  | val d => cases q; exact ⟨S, t, r, h, nofun, Tr.refl⟩
  | fr d => cases q; exact ⟨S, t, r, h, nofun, Tr.refl⟩
  | sl j =>
    unfold resv at q
    cases e1 : shr ρ (.sl j) with
    | none => simp only [e1, Option.map_none, reduceCtorEq] at q
    | some p =>
      simp only [e1, Option.map_some, Option.some.injEq, Prod.mk.injEq] at q
      obtain ⟨rfl, rfl⟩ := q
      obtain ⟨S', t', r', d', _⟩ := shr_ok t r (show RE1 K S H σ v (.sl j) from h) e1
      obtain ⟨S2, t2, r2, d2, _⟩ := shr_ok (Tr.refl (S := S) (H := H) (O := Ow σ ρ)) r (show RE1 K S H σ v (.sl j) from h) e1
      have tt := t.trans t2
      exact ⟨S2, tt, r2, d2, nofun, t2⟩
theorem RE.setOther {K : PySem.W.Frag} {A0 : Ax} {S : Addr → Prop} {H HR : Hp} {σ σ' : St} {ρ ρ' : List B} {v : V} {e : Ev} (h : RE K A0 HR S H σ ρ v e) (hn : ∀ i, e ≠ .sl i) (ho : ∀ a, v = .ref a → (∃ d, e = .fr d) → ¬ Ow σ' ρ' a) : RE K A0 HR S H σ' ρ' v e := by
  cases e with
  | val d => exact h
  | sl i => exact (hn i rfl).elim
  | fr d => obtain ⟨a, e1, h0, hs, _, hc⟩ := h; exact ⟨a, e1, h0, hs, ho a e1 ⟨d, rfl⟩, hc⟩
section
variable {X : Cx} {A0 : Ax} {W : WX} {a b : Expr} {fa fb : SE} {pos : Pos} {px py pt : Pos} {kt k2 : Nat} {pt2 : Pos}
theorem gs_par (i j : Nat) {x y : Str} (hc : X.calm = true) (hN : X.N.Nodup) (ha : PE X a (tE (gc X A0 W) fa)) (hb : PE X b (tE (gc X A0 W) fb)) (hi : X.N[i]? = some x := by rfl) (hj : X.N[j]? = some y := by rfl) (hij : i ≠ j := by decide)
    (hx : X.env.scope.names.lookup x = some .local := by rfl) (hy : X.env.scope.names.lookup y = some .local := by rfl)
    (hw : swappedStores [.Tuple [.Name x px, .Name y py] kt pt] (.Tuple [a, b] k2 pt2) X.env = pure (some [x, y]) := by rfl)
    (hs : swapsWithSole [.Tuple [.Name x px, .Name y py] kt pt] (.Tuple [a, b] k2 pt2) pos.line X.env = pure false := by rfl)
    (h1 : starEach [a, b] X.env = (false, eval a X.env) :: starEach [b] X.env := by rfl) (h2 : starEach [b] X.env = (false, eval b X.env) :: starEach [] X.env := by rfl) :
    PS X (.Assign [.Tuple [.Name x px, .Name y py] kt pt] (.Tuple [a, b] k2 pt2) pos) (tSt (gc X A0 W) (parS i j fa fb)) := by
  refine PS_imp (ps_par hc hN hi hj hij hx hy (pa_cons ha (pa_cons hb pa_nil h2) h1) hw hs) ?_
  rintro D σ H ⟨S, ρ, r, h⟩
  refine tE_bind (P := fun z => PostS (gc X A0 W) S H σ ρ z D) exS PostS.bad r h fun p S1 H1 v1 t1 r1 e1 h => ?_
  refine tE_bind (P := fun z => PostS (gc X A0 W) S H σ ρ z D) (fun n ρ' h S' H' t r => h S' H' σ (t1.trans t) r) PostS.bad r1 h fun q S2 H2 v2 t2 r2 e2 h => ?_
  show ∃ v w, [v1, v2] = [v, w] ∧ D.nx ((σ.set i (some v)).set j (some w)) H2
  refine ⟨v1, v2, rfl, ?_⟩
  have e1' := e1.mono r1 t2
  cases q1 : resv q.2 p.1 with
  | none => rw [q1] at h; exact h.elim
  | some pr =>
    obtain ⟨f1, ρ1⟩ := pr
    rw [q1] at h
    simp only at h
    obtain ⟨S3, t3, r3, g1, n1, u3⟩ := resv_ok t2 r2 e1' q1
    have e2' := e2.mono r2 u3
    cases q2 : resv ρ1 q.1 with
    | none => rw [q2] at h; exact h.elim
    | some pr =>
      obtain ⟨f2, ρ2⟩ := pr
      rw [q2] at h
      simp only at h
      obtain ⟨S4, t4, r4, g2, n2, u4⟩ := resv_ok t3 r3 e2' q2
      have g1' := g1.mono r3 u4
      cases b1 : bindV i f1 ρ2 with
      | bad => rw [b1] at h; exact h.elim
      | ex n ρ' => rw [b1] at h; exact h.elim
      | ok ρ3 =>
        rw [b1] at h
        simp only at h
        cases b2 : bindV j f2 ρ3 with
        | bad => rw [b2] at h; exact h.elim
        | ex n ρ' => rw [b2] at h; exact h.elim
        | ok ρ4 =>
          rw [b2] at h
          -- the first store
          have st1 : ∃ r5 : Rp X.K A0 S4 H2 (σ.set i (some v1)) ρ3, ∀ c, Ow (σ.set i (some v1)) ρ3 c → Ow σ ρ2 c ∨ (v1 = .ref c ∧ ∃ d, f1 = .fr d) := by
            cases f1 with
            | sl k => exact (n1 k rfl).elim
            | val d => cases b1; obtain ⟨r5, s⟩ := r4.setVal (i := i) g1'; exact ⟨r5, fun c z => .inl (s c z)⟩
            | fr d =>
              cases b1
              obtain ⟨c, rfl, h0, hs, ho, hc⟩ := g1'
              obtain ⟨r5, s⟩ := r4.setOwn (i := i) hs ho h0.2 hc
              exact ⟨r5, fun b z => (s b z).imp id fun z => ⟨by rw [z], d, rfl⟩⟩
          obtain ⟨r5, s5⟩ := st1
          have g2' : RE X.K A0 H1 S4 H2 (σ.set i (some v1)) ρ3 v2 f2 := g2.setOther n2 fun c ec ⟨d, ed⟩ z => by
            subst ed
            obtain ⟨c', e3, h0, _, ho, _⟩ := g2
            rw [ec] at e3; cases e3
            rcases s5 c z with z | ⟨z, d1, z1⟩
            · exact ho z
            · -- the first new object stood when the second was made
              subst z1
              have : ∃ o, H1 c = some o := by
                cases p1 : p.1 with
                | fr dd =>
                  rw [p1] at e1
                  obtain ⟨c2, e5, _, _, _, o, e6, _⟩ := e1
                  rw [z] at e5; cases e5
                  exact ⟨o, e6⟩
                | val dd => rw [p1] at q1; cases q1
                | sl k =>
                  rw [p1] at q1
                  unfold resv at q1
                  cases e7 : shr q.2 (.sl k) with
                  | none => simp only [e7, Option.map_none, reduceCtorEq] at q1
                  | some pp => simp only [e7, Option.map_some, Option.some.injEq, Prod.mk.injEq, reduceCtorEq, false_and] at q1
              obtain ⟨o, e6⟩ := this
              rw [h0.1] at e6; cases e6
          have st2 : ∃ r6 : Rp X.K A0 S4 H2 ((σ.set i (some v1)).set j (some v2)) ρ4, ∀ c, Ow ((σ.set i (some v1)).set j (some v2)) ρ4 c → Ow (σ.set i (some v1)) ρ3 c ∨ (v2 = .ref c ∧ H1 c = none) := by
            cases f2 with
            | sl k => exact (n2 k rfl).elim
            | val d => cases b2; obtain ⟨r6, s⟩ := r5.setVal (i := j) g2'; exact ⟨r6, fun c z => .inl (s c z)⟩
            | fr d =>
              cases b2
              obtain ⟨c, rfl, h0, hs, ho, hc⟩ := g2'
              obtain ⟨r6, s⟩ := r5.setOwn (i := j) hs ho h0.2 hc
              exact ⟨r6, fun b z => (s b z).imp id fun z => ⟨by rw [z], by rw [z]; exact h0.1⟩⟩
          obtain ⟨r6, s6⟩ := st2
          have tt := t1.trans t4
          refine h S4 H2 _ ⟨tt.s, tt.keep, tt.dom, fun c z => ?_, tt.g⟩ r6
          rcases s6 c z with z | ⟨_, z⟩
          · rcases s5 c z with z | ⟨z, d1, z1⟩
            · exact tt.o c z
            · subst z1
              obtain ⟨c2, e5, h0, _⟩ := g1'
              rw [z] at e5; cases e5
              exact .inr h0.1
          · exact .inr (t1.fresh z)
end
end G
namespace G
open PySem PySem.Spec PyProof.Rows L2
def wipeB (ρ : List B) : List Nat → List B
  | [] => ρ
  | v :: vs => (wipeB ρ vs).set v .un
def lcL (t : SG) (c : SB) (fe : SE) (vs : List Nat) : Nat → List PyData → List B → Option (List PyData × List B)
  | _, [], ρ => some ([], ρ)
  | n, d :: ds, ρ => match t d ρ with
    | .ok ρ1 => (match c ρ1 with
      | .ok (true, ρ2) => (match fe ρ2 with
        | .ok (e, ρ3) => (match shr ρ3 (settle e) with
          | some (y, ρ4) => if n < sizeLine then (lcL t c fe vs (n + 1) ds (wipeB ρ4 vs)).map fun p => (y :: p.1, p.2) else none
          | none => none)
        | _ => none)
      | .ok (false, ρ2) => lcL t c fe vs n ds (wipeB ρ2 vs)
      | _ => none)
    | _ => none
def lcE (it : SI) (t : SG) (c : SB) (fe : SE) (vs : List Nat) : SE := fun ρ => (it ρ).bind fun p => match lcL t c fe vs 0 p.1 (wipeB p.2 vs) with
  | some (all, ρe) => .ok (.fr (.list all), wipeB ρe vs)
  | none => .bad
def yesB : SB := fun ρ => .ok (true, ρ)
section
variable {K : PySem.W.Frag} {A0 : Ax} {S S0 : Addr → Prop} {H H0 : Hp} {σ σ' : St} {ρ : List B} {O0 O' : Addr → Prop} {vs : List Nat}
theorem wipeB_len : ∀ {vs : List Nat}, (wipeB ρ vs).length = ρ.length
  | [] => rfl
  | v :: vs => by unfold wipeB; rw [List.length_set, wipeB_len]
theorem wipeB_get {k : Nat} : ∀ {vs : List Nat}, (wipeB ρ vs)[k]? = if k ∈ vs then (ρ[k]?).map fun _ => B.un else ρ[k]?
  | [] => by simp [wipeB]
  | v :: vs => by
    unfold wipeB
    by_cases hk : v = k
    · subst hk
      rw [if_pos (List.mem_cons_self ..)]
      by_cases hl : v < ρ.length
      · rw [List.getElem?_set_self (by rw [wipeB_len]; exact hl), List.getElem?_eq_getElem hl]; rfl
      · rw [List.getElem?_eq_none (by rw [List.length_set, wipeB_len]; omega), List.getElem?_eq_none (by omega)]; rfl
    · rw [List.getElem?_set_ne hk, wipeB_get]
      by_cases hm : k ∈ vs
      · rw [if_pos hm, if_pos (List.mem_cons_of_mem _ hm)]
      · rw [if_neg hm, if_neg]
        intro z
        rcases List.mem_cons.mp z with z | z
        · exact hk z.symm
        · exact hm z
/-- slots forgotten; the frame may be another one that agrees on the rest -/
theorem Rp.wiped (r : Rp K A0 S H σ ρ) (hw : wipe σ' vs = wipe σ vs) : Rp K A0 S H σ' (wipeB ρ vs) ∧ ∀ a, Ow σ' (wipeB ρ vs) a → Ow σ ρ a := by
  have same : ∀ k, k ∉ vs → σ'[k]? = σ[k]? := fun k hk => by
    have := congrArg (fun l : St => l[k]?) hw
    simp only [wipe_get, if_neg hk] at this
    exact this
  have own : ∀ k a, OwI σ' (wipeB ρ vs) k a → OwI σ ρ k a := fun k a ⟨h1, h2⟩ => by
    rw [wipeB_get] at h1
    split at h1
    · cases e : ρ[k]? with
      | none => rw [e] at h1; cases h1
      | some b => rw [e] at h1; cases h1
    · rename_i hk
      exact ⟨h1, by rw [← same k hk]; exact h2⟩
  refine ⟨⟨?_, fun k b hb => ?_, fun i j a h1 h2 => r.dis i j a (own i a h1) (own j a h2), r.al, fun k d a h1 h2 => ?_, r.aa, r.tb⟩, fun a ⟨k, h⟩ => ⟨k, own k a h⟩⟩
  · have := congrArg List.length hw
    rw [wipe_length, wipe_length] at this
    rw [wipeB_len, this]; exact r.len
  · rw [wipeB_get] at hb
    split at hb
    · cases e : ρ[k]? with
      | none => rw [e] at hb; cases hb
      | some b0 => rw [e] at hb; cases hb; trivial
    · rename_i hk
      have q := r.bd k b hb
      have sk := same k hk
      cases b with
      | un => trivial
      | exc n => exact ⟨q.1, by rw [sk]; exact q.2⟩
      | val d => obtain ⟨v, e1, e2⟩ := q; exact ⟨v, by rw [sk]; exact e1, e2⟩
      | own d => obtain ⟨v, e1, e2⟩ := q; exact ⟨v, by rw [sk]; exact e1, e2⟩
      | prm d => obtain ⟨v, e1, e2⟩ := q; exact ⟨v, by rw [sk]; exact e1, e2⟩
      | ob c fs => obtain ⟨v, e1, e2⟩ := q; exact ⟨v, by rw [sk]; exact e1, e2⟩
  · rw [wipeB_get] at h1
    split at h1
    · cases e : ρ[k]? with
      | none => rw [e] at h1; cases h1
      | some b => rw [e] at h1; cases h1
    · rename_i hk
      exact r.np k d a h1 (by rw [← same k hk]; exact h2)
theorem wipe_wipe : wipe (wipe σ vs) vs = wipe σ vs := by
  apply List.ext_getElem?
  intro k
  rw [wipe_get, wipe_get]
  by_cases hk : k ∈ vs
  · rw [if_pos hk, if_pos hk]
    cases σ[k]? <;> rfl
  · rw [if_neg hk, if_neg hk]
theorem Ex.free {a : Addr} {xs : List V} {o' : HO} (hs : ¬ S a) (e : H a = some (.lst xs)) : Ex S H S (L2.upd H a o') := by
  refine ⟨fun _ h => h, fun b u hb _ h => ?_, fun b ys h => ?_, fun b ob u h => ?_, fun b fs h => ?_⟩
  · have hne : b ≠ a := fun z => hs (by rw [← z]; exact hb)
    exact h.imp (fun q => by rw [upd_ne hne]; exact q) fun ⟨q, od, z⟩ => ⟨q, od, by rw [upd_ne hne]; exact z⟩
  · have hne : b ≠ a := fun z => by subst z; rw [e] at h; cases h
    rw [upd_ne hne]; exact h
  · have hne : b ≠ a := fun z => by subst z; rw [e] at h; cases h
    rw [upd_ne hne]; exact h
  · have hne : b ≠ a := fun z => by subst z; rw [e] at h; cases h
    rw [upd_ne hne]; exact h
theorem Rp.updFree (r : Rp K A0 S H σ ρ) {a : Addr} {xs : List V} {o' : HO} (hs : ¬ S a) (ho : ¬ Ow σ ρ a) (e : H a = some (.lst xs)) : Rp K A0 S (upd H a o') σ ρ := by
  have x : Ex S H S (upd H a o') := Ex.free hs e
  have keep : ∀ k c, OwI σ ρ k c → ∀ u, H c = some u → (upd H a o') c = some u := fun k c h u hc => by
    have hne : c ≠ a := fun z => ho ⟨k, by rw [← z]; exact h⟩
    rw [upd_ne hne]; exact hc
  have some_ : ∀ c, (∃ u, H c = some u) → ∃ u, (upd H a o') c = some u := fun c ⟨u, hc⟩ => by
    by_cases z : c = a
    · subst z; exact ⟨o', upd_same⟩
    · exact ⟨u, by rw [upd_ne z]; exact hc⟩
  refine ⟨r.len, fun k b hb => ?_, r.dis, fun c h => some_ c (r.al c h), r.np, fun j c h => some_ c (r.aa j c h), tabs_upd r.tb e (fun z => z) (fun _ _ z => nomatch z)⟩
  have q := r.bd k b hb
  cases b with
  | un => trivial
  | exc _ => exact bd_exc x q
  | val d => obtain ⟨v, e1, e2⟩ := q; exact ⟨v, e1, e2.ex x⟩
  | own d => obtain ⟨c, e1, e2, e3⟩ := q; exact ⟨c, e1, e2, e3.ex x (keep k c ⟨by rw [hb]; rfl, e1⟩)⟩
  | prm d => obtain ⟨c, e1, e0, e2, e3⟩ := q; exact ⟨c, e1, e0, e2, e3.ex x (keep k c ⟨by rw [hb]; rfl, e1⟩)⟩
  | ob c fs => exact bd_ob x q fun c e1 => ⟨e1, (r.own ⟨by rw [hb]; rfl, e1⟩).1, keep k c ⟨by rw [hb]; rfl, e1⟩⟩
theorem Tr.updFree (t : Tr S0 H0 O0 S H O') {a : Addr} {o o' : HO} (h0 : H0 a = none) (e : H a = some o) : Tr S0 H0 O0 S (upd H a o') O' := by
  refine ⟨t.s, fun b u h n => ?_, fun b u h => ?_, t.o, t.g⟩
  · have hne : b ≠ a := fun z => by subst z; rw [h0] at h; cases h
    rcases t.keep b u h n with q | ⟨q1, q2, od, q3⟩ | ⟨q1, u', q2, q3⟩
    · exact .inl (by rw [upd_ne hne]; exact q)
    · exact .inr (.inl ⟨q1, q2, od, by rw [upd_ne hne]; exact q3⟩)
    · exact .inr (.inr ⟨q1, u', q2, by rw [upd_ne hne]; exact q3⟩)
  · obtain ⟨u', e'⟩ := t.dom b u h
    by_cases z : b = a
    · subst z; exact ⟨o', upd_same⟩
    · exact ⟨u', by rw [upd_ne z]; exact e'⟩
end
section
variable {X : Cx} {A0 : Ax} {W : WX} {elt tg iter : Expr} {ifs : List Expr} {scope : Scope} {own : List (Str × Nat)} {pos : Pos} {fi : SI} {ft : SG} {fc : SB} {fe : SE}
abbrev W0 : WX := fun _ _ _ _ => False
abbrev gb (K : PySem.W.Frag) (mg : Str → Option Value) (A0 : Ax) : Gc := ⟨K, mg, A0, W0⟩
theorem lc_ok {g : Gc} {vs : List Nat} : ∀ σ H Q, tE g (lcE fi ft fc fe vs) σ H Q → tLc (tI g fi) (tG (gb g.K g.mg g.A0) vs ft) (tT (gb g.K g.mg g.A0) fc) (tE (gb g.K g.mg g.A0) fe) vs σ H Q := by
  rintro σ H Q ⟨S, ρ, r, h⟩
  refine tI_bind (P := fun z => PostE g S H σ ρ z Q) exE PostE.bad r h fun p S1 H1 J t1 r1 ok h1 => ?_
  obtain ⟨ds, ρ1⟩ := p
  simp only at h1
  cases eq : lcL ft fc fe vs 0 ds (wipeB ρ1 vs) with
  | none => rw [eq] at h1; exact h1.elim
  | some pr =>
    obtain ⟨all, ρe⟩ := pr
    rw [eq] at h1
    simp only at h1
    intro D hD
    have hD0 : H D = none := t1.fresh hD
    obtain ⟨rw1, ow1⟩ := r1.wiped (σ' := wipe σ vs) (vs := vs) wipe_wipe
    have noA : ∀ j, g.A0 j ≠ some D := fun j hj => by obtain ⟨o, e⟩ := r1.aa j D hj; rw [hD] at e; cases e
    refine ⟨fun i m H' => ∃ S' ρ' acc accV rest, i + m = ds.length ∧ Rp g.K g.A0 S' H' (wipe σ vs) ρ' ∧ ItOk g.K J S' H' ds ∧ Tr S H (Ow σ ρ) S' H' (Ow (wipe σ vs) ρ') ∧ H' D = some (.lst accV) ∧ DrAll g.K S' H' accV acc ∧ ¬ S' D ∧ ¬ Ow (wipe σ vs) ρ' D ∧
        lcL ft fc fe vs accV.length (ds.drop i) ρ' = some (rest, ρe) ∧ acc ++ rest = all, ⟨ds.length, ?_⟩, ?_⟩
    · have sm : L2.Same H1 (upd H1 D (.lst [])) := same_alloc hD
      have nS : ¬ S1 D := fun z => by obtain ⟨o, e⟩ := r1.al D z; rw [hD] at e; cases e
      refine ⟨S1, wipeB ρ1 vs, [], [], all, by omega, rw1.same sm, ok.mono (Ex.same sm), ?_, upd_same, .nil, nS, fun z => ?_, eq, rfl⟩
      · have tt := t1.same sm
        exact ⟨tt.s, tt.keep, tt.dom, fun a z => tt.o a (ow1 a z), tt.g⟩
      · obtain ⟨o, e⟩ := r1.alive (ow1 D z); rw [hD] at e; cases e
    · rintro i m H' ⟨S', ρ', acc, accV, rest, hm, rp, ok', t', hl, dacc, nS, nO, hL, hall⟩
      cases m with
      | zero =>
        have hi : i = ds.length := by omega
        subst hi
        rw [List.drop_length] at hL
        have hL' : some (([] : List PyData), ρ') = some (rest, ρe) := hL
        cases hL'
        rw [List.append_nil] at hall
        subst hall
        obtain ⟨rf, of⟩ := rp.wiped (σ' := σ) (vs := vs) (by rw [wipe_wipe])
        refine .inl ⟨ok'.end_ S' H' (Ex.same fun _ _ e => e), h1 S' H' (.ref D) ⟨t'.s, t'.keep, t'.dom, fun a z => t'.o a (of a z), t'.g⟩ rf ⟨D, rfl, ⟨hD0, noA⟩, nS, fun z => nO (of D z), _, hl, .lst dacc⟩⟩
      | succ n =>
        have hlt : i < ds.length := by omega
        have e : ds[i]? = some ds[i] := List.getElem?_eq_getElem hlt
        obtain ⟨hgo, hy⟩ := ok'.at_ S' H' i _ (Ex.same fun _ _ e => e) e
        rw [drop_cons e] at hL
        refine .inr ⟨hgo, fun H'' => ∃ S' ρ' acc accV rest, i + 1 + n = ds.length ∧ Rp g.K g.A0 S' H'' (wipe σ vs) ρ' ∧ ItOk g.K J S' H'' ds ∧ Tr S H (Ow σ ρ) S' H'' (Ow (wipe σ vs) ρ') ∧ H'' D = some (.lst accV) ∧ DrAll g.K S' H'' accV acc ∧ ¬ S' D ∧ ¬ Ow (wipe σ vs) ρ' D ∧
          lcL ft fc fe vs accV.length (ds.drop (i + 1)) ρ' = some (rest, ρe) ∧ acc ++ rest = all, fun H'' q => ⟨n, Nat.lt_succ_self n, q⟩, fun x H2 y => ?_⟩
        obtain ⟨sm, dx⟩ := hy x H2 y
        have tg0 : Tr S' H' (Ow (wipe σ vs) ρ') S' H2 (Ow (wipe σ vs) ρ') := Tr.grow sm
        refine ⟨S', ρ', ds[i], rp.same sm, dx, ?_⟩
        unfold lcL at hL
        cases e1 : ft ds[i] ρ' with
        | bad => rw [e1] at hL; cases hL
        | ex k ρ2 => rw [e1] at hL; cases hL
        | ok ρ2 =>
          rw [e1] at hL
          simp only at hL
          intro S2 H3 σ2 t2 r2 w2
          have w2' : wipe σ2 vs = wipe σ vs := by rw [w2, wipe_wipe]
          refine ⟨w2', S2, ρ2, r2, ?_⟩
          have t02 := tg0.trans t2
          cases e2 : fc ρ2 with
          | bad => rw [e2] at hL; cases hL
          | ex k ρ3 => rw [e2] at hL; cases hL
          | ok pb =>
            obtain ⟨b, ρ3⟩ := pb
            rw [e2] at hL
            intro S3 H4 t3 r3
            have t03 := t02.trans t3
            -- the new list is as it was
            have keepD : ∀ {S4 : Addr → Prop} {H5 : Hp} {O5 : Addr → Prop}, Tr S' H' (Ow (wipe σ vs) ρ') S4 H5 O5 → H5 D = some (.lst accV) ∧ ¬ S4 D ∧ ¬ O5 D := fun t => by
              refine ⟨t.keepN hl nO fun z => z, fun z => ?_, fun z => ?_⟩
              · rcases t.g D z with z | z | z
                · exact nS z
                · exact nO z
                · rw [hl] at z; cases z
              · rcases t.o D z with z | z
                · exact nO z
                · rw [hl] at z; cases z
            cases b with
            | false =>
              simp only at hL
              refine iteF ?_
              obtain ⟨r4, o4⟩ := r3.wiped (σ' := wipe σ vs) (vs := vs) (by rw [wipe_wipe, w2'])
              obtain ⟨k1, k2, k3⟩ := keepD t03
              have tt := t'.trans t03
              exact ⟨S3, wipeB ρ3 vs, acc, accV, rest, by omega, r4, ok'.mono (rp.ex t03), ⟨tt.s, tt.keep, tt.dom, fun a z => tt.o a (o4 a z), tt.g⟩, k1, dacc.ex (rp.ex t03), k2, fun z => k3 (o4 D z), hL, hall⟩
            | true =>
              simp only at hL
              refine iteT ⟨S3, ρ3, r3, ?_⟩
              cases e3 : fe ρ3 with
              | bad => rw [e3] at hL; cases hL
              | ex k ρ4 => rw [e3] at hL; cases hL
              | ok pe =>
                obtain ⟨ev, ρ4⟩ := pe
                rw [e3] at hL
                simp only at hL
                intro S4 H5 v t4 r4 re
                obtain ⟨S4', t4', r4', re', x4⟩ := settle_ok t4 r4 re
                cases e4 : shr ρ4 (settle ev) with
                | none => rw [e4] at hL; cases hL
                | some ps =>
                  obtain ⟨yd, ρ5⟩ := ps
                  rw [e4] at hL
                  simp only at hL
                  obtain ⟨S5, t5, r5, dy, x5⟩ := shr_ok t4' r4' re' e4
                  have t05 := t03.trans t5
                  obtain ⟨k1, k2, k3⟩ := keepD t05
                  split at hL
                  rotate_left
                  · cases hL
                  rename_i hz
                  cases e5 : lcL ft fc fe vs (accV.length + 1) (ds.drop (i + 1)) (wipeB ρ5 vs) with
                  | none => rw [e5] at hL; cases hL
                  | some pr =>
                    obtain ⟨rest', ρe'⟩ := pr
                    rw [e5] at hL
                    cases hL
                    obtain ⟨r6, o6⟩ := r5.wiped (σ' := wipe σ vs) (vs := vs) (by rw [wipe_wipe, w2'])
                    have tt := t'.trans t05
                    have tt6 : Tr S H (Ow σ ρ) S5 H5 (Ow (wipe σ vs) (wipeB ρ5 vs)) := ⟨tt.s, tt.keep, tt.dom, fun a z => tt.o a (o6 a z), tt.g⟩
                    have nO6 : ¬ Ow (wipe σ vs) (wipeB ρ5 vs) D := fun z => k3 (o6 D z)
                    have xu : Ex S5 H5 S5 (upd H5 D (.lst (accV ++ [v]))) := Ex.free k2 k1
                    refine ⟨accV, k1, hz, S5, wipeB ρ5 vs, acc ++ [yd], accV ++ [v], rest', by omega, r6.updFree k2 nO6 k1, ok'.mono ((rp.ex t05).trans xu), tt6.updFree hD0 k1, upd_same, ((dacc.ex (rp.ex t05)).ex xu).append (.cons (dy.ex xu) .nil), k2, nO6, ?_, ?_⟩
                    · rw [List.length_append]; exact e5
                    · rw [List.append_assoc]; exact hall
theorem glc (vs : List Nat) (hvs : vs = own.map (·.2)) (hc : X.calm = true) (hN : X.N.Nodup) (hi : PI X tg iter (tI (gc X A0 W) fi)) (ok : BlkOk X.N X.env.scope scope own)
    (hg : ∀ (s : Shared) (H : Hp) (C : Addr) (cl : List (Str × Addr)) (fp : List Addr), PG (X.blk s H scope (compEnvC scope cl C X.env) fp) tg (tG (gb X.K X.mg A0) vs ft)) (ht : ∀ (s : Shared) (H : Hp) (C : Addr) (cl : List (Str × Addr)) (fp : List Addr), PTs (X.blk s H scope (compEnvC scope cl C X.env) fp) ifs (tT (gb X.K X.mg A0) fc))
    (he : ∀ (s : Shared) (H : Hp) (C : Addr) (cl : List (Str × Addr)) (fp : List Addr), PE (X.blk s H scope (compEnvC scope cl C X.env) fp) elt (tE (gb X.K X.mg A0) fe)) (hs : ∀ x, foldedSetIterable iter X.env x = pure x := by intro _; rfl) :
    PE X (.ListComp elt [⟨tg, iter, ifs, 0⟩] scope pos) (tE (gc X A0 W) (lcE fi ft fc fe vs)) := by
  subst hvs
  exact PE_imp (pe_lc hc hN hi ok hg ht he hs) (lc_ok (g := gc X A0 W))
theorem gts_nil {Y : Cx} {g : Gc} : PTs Y [] (tT g yesB) := by
  refine ⟨fun pins s σ H Q I h => pts_nil.run pins s σ H Q I ?_⟩
  obtain ⟨S, ρ, r, h⟩ := h
  exact h S H Tr.refl r
theorem gs_setLc (vs : List Nat) (i : Nat) {y : Str} {py : Pos} {spos : Pos} (hvs : vs = own.map (·.2)) (hc : X.calm = true) (hN : X.N.Nodup)
    (hsw : swapsWith (.ListComp elt [⟨tg, iter, ifs, 0⟩] scope pos) (some (.Name y py)) spos.line X.env = pure true) (hi : PI X tg iter (tI (gc X A0 W) fi)) (ok : BlkOk X.N X.env.scope scope own)
    (hg : ∀ (s : Shared) (H : Hp) (C : Addr) (cl : List (Str × Addr)) (fp : List Addr), PG (X.blk s H scope (compEnvC scope cl C X.env) fp) tg (tG (gb X.K X.mg A0) vs ft)) (ht : ∀ (s : Shared) (H : Hp) (C : Addr) (cl : List (Str × Addr)) (fp : List Addr), PTs (X.blk s H scope (compEnvC scope cl C X.env) fp) ifs (tT (gb X.K X.mg A0) fc))
    (he : ∀ (s : Shared) (H : Hp) (C : Addr) (cl : List (Str × Addr)) (fp : List Addr), PE (X.blk s H scope (compEnvC scope cl C X.env) fp) elt (tE (gb X.K X.mg A0) fe)) (hy : X.N[i]? = some y := by rfl) (hyl : X.env.scope.names.lookup y = some .local := by rfl) (hs : ∀ x, foldedSetIterable iter X.env x = pure x := by intro _; rfl) :
    PS X (.Assign [.Name y py] (.ListComp elt [⟨tg, iter, ifs, 0⟩] scope pos) spos) (tSt (gc X A0 W) (asgS i (lcE fi ft fc fe vs))) := by
  subst hvs
  refine PS_imp (ps_setLc hc hN hy hyl hsw hi ok hg ht he hs) ?_
  rintro D σ H ⟨S, ρ, r, h⟩
  refine lc_ok (g := gc X A0 W) σ H _ ⟨S, ρ, r, ?_⟩
  unfold asgS at h
  cases e : lcE fi ft fc fe (own.map (·.2)) ρ with
  | bad => rw [e] at h; exact h.elim
  | ex n ρ' => rw [e] at h; exact fun S' H' t' r' => h S' H' σ t' r'
  | ok p =>
    rw [e] at h
    intro S1 H1 v1 t1 r1 e1
    show D.nx _ _
    have h : PostS (gc X A0 W) S H σ ρ ((bindV i p.1 p.2).bind fun ρ' => .ok (.nx ρ')) D := h
    cases hb : bindV i p.1 p.2 with
    | bad => rw [hb] at h; exact h.elim
    | ex n ρ' =>
      exfalso
      revert hb
      unfold bindV
      split
      · nofun
      · nofun
      · split <;> nofun
    | ok ρ' =>
      rw [hb] at h
      obtain ⟨S2, t2, r2⟩ := bindV_ok t1 r1 e1 hb
      exact h S2 H1 _ t2 r2
end
end G
namespace G
open PySem PySem.Spec PyProof.Rows L2
theorem dr_ints {K : PySem.W.Frag} {S : Addr → Prop} {H : Hp} : ∀ (ns : List Int), DrAll K S H (ns.map V.int) (ns.map PyData.int)
  | [] => .nil
  | n :: ns => .cons (.int n) (dr_ints ns)
theorem rp_script {K : PySem.W.Frag} {H : Hp} {a : Addr} {ns : List Int} {Γ : Gx} (h : LstR K H a (ns.map V.int)) (tb : LamX.Tabs Γ.T H) :
    Rp K (A0p Γ [V.ref a] [B.val (.list (ns.map PyData.int))]) (fun _ => False) H (pst [V.ref a]) [B.val (.list (ns.map PyData.int))] := by
  have no : ∀ i : Nat, isOw ([B.val (.list (ns.map PyData.int))][i]?) = true → False := fun i h => by
    cases i with
    | zero => cases h
    | succ i => cases h
  refine ⟨rfl, fun i b hb => ?_, fun i j x h1 _ => (no i h1.1).elim, fun _ h => h.elim, fun i d x h1 _ => ?_, fun i x h => ?_, tb⟩
  · match i, hb with
    | 0, hb =>
      cases hb
      exact ⟨V.ref a, rfl, .lstR h (dr_ints ns)⟩
    | i + 1, hb => cases hb
  · match i, h1 with
    | 0, h1 => cases h1
    | i + 1, h1 => cases h1
  · obtain ⟨⟨d, e⟩ | ⟨d, d', e⟩, _⟩ := A0p_ok h
    · match i, e with
      | 0, e => cases e
      | i + 1, e => cases e
    · match i, e with
      | 0, e => cases e
      | i + 1, e => cases e
/-- the end: a law's contract at the heap behind the top; cs: the code objects that make lambdas, and their tables -/
theorem end_call {P : Program} {w : World} {K : PySem.W.Frag} {mg mb : Str → Option Value} {k : Nat} {fa a : Addr} {fd : FuncData} {x : Str} {F : SE} {s₁ : Shared} {vs : List Value} {ns : List Int} {Γ : Gx} {cs : List (Addr × Addr)}
    (KX : K.In s₁.heap) (hns : s₁.heap.Ns mainGlobals mg) (hb : s₁.heap.Ns builtinsNs mb) (hbb : ∀ x : Str, x ≠ "__name__" → mb x = bootBuiltins x) (hlim : s₁.heap.NoLimit) (hsy : ∃ mm, s₁.heap.Ns sysModules mm) (hg : s₁.gens = #[])
    (hT : ∀ p ∈ cs, s₁.heap.get? p.2 = some { cls := .none, data := .fields #[] }) (nT : ∀ p ∈ cs, K.lookup p.2 = none) (C : ∀ p ∈ cs, PySem.W.CodeHd s₁.heap p.1 p.2)
    (hbm : ∃ (bm : Addr) (ob : Obj), mg "__builtins__" = some (.ref bm) ∧ bm ≠ builtinsNs ∧ s₁.heap.get? bm = some ob ∧ ob.cls = .type "module" ∧ ob.dict = some builtinsNs ∧ ob.data = .plain)
    (hΓ : ∀ q ∈ Γ.T, q.1 ∈ cs.map (·.2))
    (ha : s₁.heap.get? a = some { cls := .type "list", data := .seq vs.toArray }) (hi : IntsAre vs ns) (hl : ns.length ≤ sizeLine) (hr : Room k callerA)
    (hF : ∀ base : Heap, K.In base → base.Ns mainGlobals mg → SysOk base → (∀ p ∈ cs, LamX.TabB base mg p.1 p.2) → FnG P w K mg base Γ k fa fd [x] F) (hbind : ∀ (s : Shared) (u : Value), BindsTo s fd ⟨[u], []⟩ [(x, u)])
    (hlaw : ∃ ρ, F [B.val (.list (ns.map PyData.int))] = .ok (.val (.bool true), ρ)) :
    codeAny (model P w) callerA (.call (.ref fa) ⟨[.ref a], []⟩) (fun r s' => r = .ok (.ret (.bool true)) ∧ OldK s₁.heap s'.heap ∧ s'.os = s₁.os ∧ AllBare s'.gens) s₁ := by
  have rv := vals_ints hi
  have hlen := hi.length
  obtain ⟨ρ, hlaw⟩ := hlaw
  have isT : ∀ b : Addr, b ∈ cs.map (·.2) → s₁.heap.get? b = some { cls := .none, data := .fields #[] } := fun b hb => by
    obtain ⟨p, hp, e⟩ := List.mem_map.mp hb
    rw [← e]
    exact hT p hp
  have aT : a ∉ cs.map (·.2) := fun z => by
    have q := isT a z
    rw [ha] at q
    have z' : Data.seq vs.toArray _ = Data.fields #[] := congrArg Obj.data (Option.some.inj q)
    cases z'
  have memT : ∀ p ∈ cs, p.2 ∈ cs.map (·.2) := fun p hp => List.mem_map.mpr ⟨p, hp, rfl⟩
  -- nothing is told but the tables and, it may be, the script
  have core : ∀ H : Hp, (∀ b ∈ cs.map (·.2), H b = some (.tbl #[])) → (∀ b, H b = none ∨ b ∈ cs.map (·.2) ∨ (b = a ∧ K.lookup a = none ∧ ∃ o xs, H b = some (.frz o (.lst xs)))) → LstR K H a (ns.map V.int) → HOk P w H s₁.heap →
      codeAny (model P w) callerA (.call (.ref fa) ⟨[.ref a], []⟩) (fun r s' => r = .ok (.ret (.bool true)) ∧ OldK s₁.heap s'.heap ∧ s'.os = s₁.os ∧ AllBare s'.gens) s₁ := by
    intro H hH hO hR hok
    have noD : ∀ {b : Addr} {o : Obj}, s₁.heap.get? b = some o → (∀ vs n, o.data ≠ .seq vs n) → o.data ≠ .fields #[] → H b = none := fun {b o} e h1 h2 => by
      rcases hO b with q | q | ⟨rfl, _⟩
      · exact q
      · rw [isT b q] at e
        cases e
        exact (h2 rfl).elim
      · rw [ha] at e
        cases e
        exact (h1 _ _ rfl).elim
    have stay : ∀ {b : Addr} {o : Obj} {es : Array DictEntry} {ep : Nat}, s₁.heap.get? b = some o → o.data = .dict es ep → (hidT s₁.heap H).get? b = some o := fun {b o es ep} e d => hidT_get e (noD e (fun vs n z => by rw [d] at z; cases z) fun z => by rw [d] at z; cases z)
    have nsS : ∀ {b : Addr} {m : Str → Option Value}, s₁.heap.Ns b m → (hidT s₁.heap H).Ns b m := fun ⟨o, es, ep, e, d, r⟩ => ⟨o, es, ep, stay e d, d, r⟩
    have inK : K.In (hidT s₁.heap H) := fun b o e => hidT_get (KX b o e) (by
      rcases hO b with q | q | ⟨rfl, q, _⟩
      · exact q
      · obtain ⟨p, hp, ep⟩ := List.mem_map.mp q
        rw [← ep, nT p hp] at e
        cases e
      · rw [q] at e
        cases e)
    have e0 : Env0 P w K mg (hidT s₁.heap H) callerA [] s₁ H := ⟨rfl, ⟨inK, nsS hns, ⟨mb, nsS hb, hbb⟩, let ⟨mc, h1, h2⟩ := hlim; ⟨mc, nsS h1, h2⟩⟩, fun b o e => of_hidT e, Nat.le_of_eq (hidT_size _ _), trivial, fun b hb => absurd (show b ∈ ([] : List Addr) from hb) (by simp), hok, .of_eq hg⟩
    have sys : SysOk (hidT s₁.heap H) := let ⟨mm, h⟩ := hsy; let ⟨o, es, ep, e, d, _⟩ := nsS h; ⟨o, es, ep, e, d⟩
    have TB : ∀ p ∈ cs, LamX.TabB (hidT s₁.heap H) mg p.1 p.2 := fun p hp => by
      have hTp := hT p hp
      refine ⟨?_, ?_, fun z => ?_⟩
      · obtain ⟨o, us, file, tf, flags, tg, inF, text, tt, e1, r1, r2, r3, r4, r5, r6, r7, r8, hne⟩ := C p hp
        refine ⟨o, us, file, tf, flags, tg, inF, text, tt, hidT_get e1 (noD e1 (fun vs n z => ?_) fun z => ?_), r1, r2, r3, r4, r5, r6, r7, r8, hne⟩
        · rw [r2] at z
          cases z
        · rw [r2] at z
          cases z
          simp at r3
      · obtain ⟨bm, ob, b1, b2, b3, b4, b5, b6⟩ := hbm
        have nG : bm ≠ mainGlobals := fun q => by
          obtain ⟨o, es, ep, e, hd, _⟩ := hns
          rw [q, e] at b3
          cases b3
          rw [hd] at b6
          cases b6
        have nP : bm ≠ p.2 := fun q => by
          rw [q, hTp] at b3
          cases b3
          cases b6
        refine ⟨bm, ob, b1, b2, nG, nP, hidT_get b3 (noD b3 (fun vs n z => ?_) fun z => ?_), b4, b5, b6⟩
        · rw [b6] at z
          cases z
        · rw [b6] at z
          cases z
      · obtain ⟨o, es, ep, e, hd, _⟩ := hns
        rw [z, hTp] at e
        cases e
        cases hd
    have tbs : LamX.Tabs Γ.T H := fun q hq => LamX.TabS.nil (hH _ (hΓ q hq))
    refine codeAny_mono ((hF _ inK (nsS hns) sys TB).run callerA [] s₁ H ⟨[.ref a], []⟩ [.ref a] [.ref a] (fun v _ => v = .bl true) (fun _ _ _ => False) (fun _ => False) [B.val (.list (ns.map PyData.int))] hr rfl e0 (hbind s₁ (.ref a)) (.cons rfl .nil) rfl (fun i d h => ?_) (rp_script hR tbs) ?_) fun r s' h => ?_
    · match i, h with
      | 0, h => cases h
      | i + 1, h => cases h
    · rw [hlaw]
      intro S' H' v t r' re
      have re : Dr K S' H' v (.bool true) := re
      cases re with
      | bl => rfl
      | obj _ _ c => cases c
    · cases r with
      | error e =>
        obtain ⟨_, _, _, _, _, _, _, _, _, _, _, _, q⟩ := (show CX P w [] H s₁ (fun _ _ _ => False) e s' from h)
        exact q.elim
      | ok fl =>
        cases fl with
        | next => exact False.elim h
        | brk => exact False.elim h
        | cont => exact False.elim h
        | ret u =>
          obtain ⟨v, H', os, bare, un, hok', r', q⟩ := h
          have q' : v = .bl true := q
          subst q'
          obtain rfl : u = Value.bool true := r'
          have key : ∀ b o, b ∉ cs.map (·.2) → s₁.heap.get? b = some o → s'.heap.get? b = some o := fun b o nb e => by
            rcases hO b with q | q | ⟨_, _, ob, xs, z⟩
            · exact un.keep b o e q (fun z => absurd (show b ∈ ([] : List Addr) from z) (by simp)) (by simp)
            · exact absurd q nb
            · obtain ⟨e1, _⟩ := hok b _ z
              obtain ⟨e2, _⟩ := hok' b _ (un.frzs b ob _ z)
              rw [e] at e1
              cases e1
              exact e2
          have grown : ∀ p ∈ cs, ∃ more : Array Value, s'.heap.get? p.2 = some { cls := .none, data := .fields more } := fun p hp => by
            obtain ⟨more, z⟩ := un.tbls p.2 #[] (hH _ (memT p hp))
            exact ⟨_, hok' p.2 _ z⟩
          refine ⟨rfl, ⟨fun b o e => ?_, fun b o e => ?_⟩, os, bare⟩
          · by_cases hb : b ∈ cs.map (·.2)
            · obtain ⟨p, hp, ep⟩ := List.mem_map.mp hb
              obtain ⟨more, hm⟩ := grown p hp
              rw [← ep] at e ⊢
              rw [hT p hp] at e
              cases e
              exact .inr (.inl ⟨((C p hp).tab (hT p hp)).isCodeTable, rfl, #[], more, rfl, by rw [Array.empty_append]; exact hm⟩)
            · exact .inl (key b o hb e)
          · by_cases hb : b ∈ cs.map (·.2)
            · obtain ⟨p, hp, ep⟩ := List.mem_map.mp hb
              obtain ⟨more, hm⟩ := grown p hp
              rw [← ep]
              exact ⟨_, hm⟩
            · exact ⟨o, key b o hb e⟩
  cases hk : K.lookup a with
  | some o =>
    have e := KX a o hk
    rw [ha] at e
    cases e
    refine core (fun b => if b ∈ cs.map (·.2) then some (.tbl #[]) else none) (fun b hb => if_pos hb) (fun b => ?_) (.inr ⟨vs, _, hk, by omega, rv⟩) fun b u z => ?_
    · by_cases hb : b ∈ cs.map (·.2)
      · exact .inr (.inl hb)
      · exact .inl (if_neg hb)
    · by_cases hb : b ∈ cs.map (·.2)
      · have z' := (if_pos hb).symm.trans z
        cases z'
        exact isT b hb
      · have z' := (if_neg hb).symm.trans z
        cases z'
  | none =>
    refine core (fun b => if b = a then some (.frz { cls := .type "list", data := .seq vs.toArray } (.lst (ns.map V.int))) else if b ∈ cs.map (·.2) then some (.tbl #[]) else none) (fun b hb => (if_neg (show ¬ b = a from fun z => aT (by rw [← z]; exact hb))).trans (if_pos hb)) (fun b => ?_) (.inl ⟨{ cls := .type "list", data := .seq vs.toArray }, if_pos rfl⟩) fun b u z => ?_
    · by_cases hb : b = a
      · exact .inr (.inr ⟨hb, hk, _, _, if_pos hb⟩)
      · by_cases hb2 : b ∈ cs.map (·.2)
        · exact .inr (.inl hb2)
        · exact .inl ((if_neg hb).trans (if_neg hb2))
    · by_cases hb : b = a
      · have z' := (if_pos hb).symm.trans z
        cases z'
        subst hb
        exact ⟨ha, by rw [List.length_map]; exact hl, vs, _, rv, ha⟩
      · have z1 := (if_neg hb).symm.trans z
        by_cases hb2 : b ∈ cs.map (·.2)
        · have z' := (if_pos hb2).symm.trans z1
          cases z'
          exact isT b hb2
        · have z' := (if_neg hb2).symm.trans z1
          cases z'
/-- from k_head's goal to the mirror -/
theorem end_walk {l : PySem.W.OpenLaw} {n k : Nat} {q : Program} {loose : List Str} {XP : (Str → Option Value) → Heap → Prop} {YP : World → Heap → Prop} {d : DefRec} {K : Params → PySem.W.Frag} {x : Str} {F : Params → SE}
    (hn : l.most = some n) (hn2 : n ≤ sizeLine) (hdf : d.params.defaults = []) (hr : Room k callerA) (him : importsNone q = true)
    (hY : ∀ (w : World) (h : Heap), YP w h → (K w.params).In h)
    (hF : ∀ (w : World) (mg : Str → Option Value) (fa : Addr) (h : Heap), YP w h → (K w.params).In h → h.Ns mainGlobals mg → mg d.name = some (.ref fa) →
      ∃ (fd : FuncData) (cs : List (Addr × Addr)) (Γ : Gx), ((∀ p ∈ cs, h.get? p.2 = some { cls := .none, data := .fields #[] }) ∧ (∀ p ∈ cs, (K w.params).lookup p.2 = none) ∧ (∀ p ∈ cs, PySem.W.CodeHd h p.1 p.2) ∧ ∀ q ∈ Γ.T, q.1 ∈ cs.map (·.2)) ∧ (∀ (s : Shared) (u : Value), BindsTo s fd ⟨[u], []⟩ [(x, u)]) ∧
        ∀ base : Heap, (K w.params).In base → base.Ns mainGlobals mg → SysOk base → (∀ p ∈ cs, LamX.TabB base mg p.1 p.2) → FnG l.prog w (K w.params) mg base Γ k fa fd [x] (F w.params))
    (hlaw : ∀ (p : Params) (ns : List Int), ns.length ≤ n → ∃ ρ, F p [B.val (.list (ns.map PyData.int))] = .ok (.val (.bool true), ρ)) :
    PySem.W.WalkO q loose XP YP l.row.toRowW d [] (fun f vs => PySem.call f vs) := by
  refine Att.attach_call hn hdf fun w s₀ s₁ mg mb fa o pm cd doc a vs ns G Y ho hd hcd hmg hobj hints hlen hg => ?_
  have KX := hY w _ Y
  obtain ⟨fd, cs, Γ, ⟨hT, nT, C, hΓ⟩, hb, hF⟩ := hF w mg fa _ Y KX G.T.g hmg
  obtain ⟨mm, hs, _⟩ := (G.T.seer him).mods
  exact end_call KX G.T.g G.T.b G.T.builtins G.T.nolimit ⟨mm, hs⟩ hg hT nT C G.T.bmain hΓ hobj hints (Nat.le_trans hlen hn2) hr hF hb (hlaw w.params ns hlen)
/-- no lambda is made -/
theorem noTabs {K : PySem.W.Frag} {h : Heap} {es : List (Str × Addr)} : (∀ p ∈ ([] : List (Addr × Addr)), h.get? p.2 = some { cls := .none, data := .fields #[] }) ∧ (∀ p ∈ ([] : List (Addr × Addr)), K.lookup p.2 = none) ∧ (∀ p ∈ ([] : List (Addr × Addr)), PySem.W.CodeHd h p.1 p.2) ∧ ∀ q ∈ ({ T := [], es := es } : Gx).T, q.1 ∈ ([] : List (Addr × Addr)).map (·.2) :=
  ⟨fun _ h => (nomatch h), fun _ h => (nomatch h), fun _ h => (nomatch h), fun _ h => (nomatch h)⟩
end G
namespace G
open PySem PySem.Spec PyProof.Rows L2
/-! ### the defs of the text -/
/-- a def of the module's top -/
structure FnK (K : PySem.W.Frag) (mg : Str → Option Value) (dV : Value) (x : Str) (st : Stmt) (ps : List Str) (f : Addr) (fd : FuncData) : Prop where
  at_ : mg x = some (.ref f)
  kp : PySem.W.keepIn K (.ref f) = true
  ex : FnEx K dV x x st f fd
structure CalledG (P : Program) (w : World) (K : PySem.W.Frag) (mg : Str → Option Value) (base : Heap) (Γ : Gx) (k : Nat) (x : Str) (ps : List Str) (F : SE) (dbs : List B) : Prop where
  ex : ∃ (f : Addr) (fd : FuncData) (dvs : List V) (ds : List Value), mg x = some (.ref f) ∧ PySem.W.keepIn K (.ref f) = true ∧ FnG P w K mg base Γ k f fd ps F ∧ Binds K fd ps ds ∧ Vals dvs ds ∧ Dfl K dvs dbs
section
variable {P : Program} {w : World} {K : PySem.W.Frag} {mg : Str → Option Value} {base : Heap} {Γ : Gx} {k : Nat} {dV : Value} {x : Str} {ps : List Str} {F : SE} {st : Stmt} {f : Addr} {fd : FuncData}
theorem fnK_mk {h : Heap} {oc : Value} {od an : Option Addr} {osl : Array (Option Value)} {kV doc pm cdv ct : Value} (X : K.In h) (G : h.Ns mainGlobals mg) (a : PySem.W.nsIn K mainGlobals x = some (some (.ref f)))
    (l : K.lookup f = some ⟨oc, od, .func (PySem.W.fnOf x x (defArgs st) (defBody st) (defScope st) dV kV doc pm an cdv ct), osl⟩) (c : PySem.W.codeIn K cdv x = true) (kp : PySem.W.keepIn K (.ref f) = true) :
    FnK K mg dV x st ps f (PySem.W.fnOf x x (defArgs st) (defBody st) (defScope st) dV kV doc pm an cdv ct) := ⟨PySem.W.mg_of X G a, kp, ⟨oc, od, kV, doc, pm, an, cdv, ct, osl, rfl, l, c⟩⟩
theorem called_of (h : FnK K mg dV x st ps f fd) (b : Binds K fd ps []) (g : FnG P w K mg base Γ k f fd ps F) : CalledG P w K mg base Γ k x ps F [] := ⟨⟨f, fd, [], [], h.at_, h.kp, g, b, .nil, .nil⟩⟩
/-- every parameter is given -/
theorem FnK.binds (h : FnK K mg dV x st ps f fd) (hb : ∀ (kV doc pm : Value) (an : Option Addr) (cdv ct : Value) (us : List Value), us.length = ps.length → bindArgs (PySem.W.fnOf x x (defArgs st) (defBody st) (defScope st) dV kV doc pm an cdv ct) ⟨us, []⟩ = pure (ps.zip us)) : Binds K fd ps [] := by
  obtain ⟨oc, od, kV, doc, pm, an, cdv, ct, osl, rfl, _⟩ := h.ex
  exact .all (hb kV doc pm an cdv ct)
end
section
variable {X : Cx} {A0 : Ax} {W : WX} {k j : Nat} {ps : List Str} {F : SE} {dbs : List B} {x : Str} {p pos : Pos} {e : Expr} {es : List Expr} {fa : SA}
theorem gcallC (ms : List Bool) (c : CalledG X.prog X.w X.K X.mg X.base A0.g k x ps F dbs) (hr : Room j X.A) (gx : GX X) (tk : Takes X W) (ha : PA X (e :: es) (tA (gc X A0 W) fa)) (hj : k ≤ j := by decide) (hn : (ms.length + dbs.length == ps.length) = true := by rfl) (hg : Gl X x := by rfl)
    (hdb : (x == ("__debug__" : Str)) = false := by decide) (he : starEach (e :: es) X.env = (false, eval e X.env) :: starEach es X.env := by rfl) (hpl : (backTo pos (starEach es X.env)).any (·.1) = false := by rfl) :
    PE X (.Call (.Name x p) (e :: es) [] pos) (tE (gc X A0 W) (callF ms F dbs fa)) := by
  obtain ⟨f, fd, dvs, ds, hm, hk, gg, hb, hd, hdf⟩ := c.ex
  exact gcallf ms gg (hr.mono hj) gx tk hm hk hb hd hdf ha (by rw [hdf.len]; exact hn) hg hdb he hpl
end
/-! ### raise X('..'), X an own class -/
structure ExcK (K : PySem.W.Frag) (mg : Str → Option Value) (x : Str) (C : Addr) (newId : String) (bm : List Value) : Prop where
  at_ : mg x = some (.ref C)
  exc : PySem.W.excIn K C bm newId = true
  kp : PySem.W.keepIn K (.ref C) = true
  sub : PySem.W.subIn K (.ref C) (.type "BaseException") = some true
  ty : PySem.W.typeIn K (.ref C) = some (.type "type")
theorem excK_mk {K : PySem.W.Frag} {mg : Str → Option Value} {h : Heap} {x : Str} {C : Addr} {newId : String} {bm : List Value} (X : K.In h) (G : h.Ns mainGlobals mg) (a : PySem.W.nsIn K mainGlobals x = some (some (.ref C))) (q : PySem.W.excIn K C bm newId = true) (kp : PySem.W.keepIn K (.ref C) = true)
    (sub : PySem.W.subIn K (.ref C) (.type "BaseException") = some true) (ty : PySem.W.typeIn K (.ref C) = some (.type "type")) : ExcK K mg x C newId bm := ⟨PySem.W.mg_of X G a, q, kp, sub, ty⟩
def exS_ (x : Str) : SS := fun ρ => .ex x ρ
theorem gs_raise {X : Cx} {A0 : Ax} {W : WX} {C : Addr} {bm : List Value} {B_ newId initId : String} {x m : Str} {j : Nat} {p p2 pos pos' : Pos} (F : ExcBaseFacts B_ newId initId bm) (q : ExcK X.K X.mg x C newId bm) (hc : X.calm = true) (tk : Takes X W) (hg : Gl X x := by rfl)
    (hdb : (x == ("__debug__" : Str)) = false := by decide) : PS X (.Raise (some (.Call (.Name x p) [.Constant (.str m) j p2] [] pos)) none pos') (tSt (gc X A0 W) (exS_ x)) :=
  PS_imp (ps_raise hc tk (pmk_own F q.exc q.at_ q.kp (raises_own q.sub q.ty) hg hdb)) fun D σ H ⟨S, ρ, r, h⟩ => h S H σ Tr.refl r C none q.at_ rfl
/-! ### e[lo:hi] -/
abbrev SP := Option SE
def ptP : SP → List B → Rs (Option Int × List B)
  | none => fun ρ => .ok (none, ρ)
  | some f => fun ρ => (f ρ).bind fun p => match peek p.2 p.1 with
    | some (.int i) => .ok (some i, p.2)
    | _ => .bad
def tOp_ (g : Gc) : SP → TO
  | none => tNoPart
  | some f => tPart (tE g f)
theorem gpn {X : Cx} {A0 : Ax} {W : WX} : PO X none (tOp_ (gc X A0 W) none) := po_none
theorem gps {X : Cx} {A0 : Ax} {W : WX} {e : Expr} {f : SE} (h : PE X e (tE (gc X A0 W) f)) : PO X (some e) (tOp_ (gc X A0 W) (some f)) := po_some h
def cutL {α : Type} (xs : List α) (lo hi : Option Int) : List α := (xs.drop (HT.sIx xs.length 0 lo)).take (HT.sIx xs.length xs.length hi - HT.sIx xs.length 0 lo)
def cutD (d : PyData) (lo hi : Option Int) : Option Ev := match d with
  | .list ds => some (.fr (.list (cutL ds lo hi)))
  | .tuple ds => some (.val (.tuple (cutL ds lo hi)))
  | .str z => if z.length ≤ sizeLine then some (.val (.str (cutS z lo hi))) else none
  | _ => none
def slE (fe : SE) (pl ph : SP) : SE := fun ρ => (fe ρ).bind fun p => (ptP pl p.2).bind fun l => (ptP ph l.2).bind fun u => resE u.2 ((peek u.2 p.1).bind fun d => cutD d l.1 u.1)
theorem tO_bind {g : Gc} {S : Addr → Prop} {H : Hp} {σ : St} {ρ : List B} {pl : SP} {R : Option Int → Hp → Prop} {α : Type} {k : Option Int × List B → Rs α} {P : Rs α → Prop} (hex : ∀ n ρ', P (.ex n ρ') → ∀ S' H', Tr S H (Ow σ ρ) S' H' (Ow σ ρ') → Rp g.K g.A0 S' H' σ ρ' → g.wx n σ H') (hbad : ¬ P .bad)
    (r : Rp g.K g.A0 S H σ ρ) (h : P ((ptP pl ρ).bind k)) (hk : ∀ p S' H', Tr S H (Ow σ ρ) S' H' (Ow σ p.2) → Rp g.K g.A0 S' H' σ p.2 → P (k p) → R p.1 H') : tOp_ g pl σ H R := by
  cases pl with
  | none => exact hk (none, ρ) S H Tr.refl r h
  | some f =>
    unfold ptP at h
    have h2 : P ((f ρ).bind fun p => (match peek p.2 p.1 with
      | some (.int i) => Rs.ok (some i, p.2)
      | _ => .bad : Rs (Option Int × List B)).bind k) := by
      cases e : f ρ with
      | ok p => simp only [e] at h; exact h
      | ex n ρ' => simp only [e] at h; exact h
      | bad => simp only [e] at h; exact h
    refine tE_bind (R := fun x H1 => ∃ i, x = .int i ∧ R (some i) H1) hex hbad r h2 fun p S' H' v t r' e1 q => ?_
    cases pk : peek p.2 p.1 with
    | none => rw [pk] at q; exact (hbad q).elim
    | some d =>
      rw [pk] at q
      cases d with
      | int i => exact ⟨i, (peek_ok r' e1 pk).int, hk (some i, p.2) S' H' t r' q⟩
      | _ => exact (hbad q).elim
def rSlG (K : PySem.W.Frag) : V → Option Int → Option Int → Hp → VK → Prop := fun x lo hi H Q => (rSlL K x lo hi H Q ∨ rSlA K x lo hi H Q) ∨ rSlS x lo hi H Q
theorem cutL_dr {K : PySem.W.Frag} {S : Addr → Prop} {H : Hp} {xs : List V} {ds : List PyData} (r : DrAll K S H xs ds) (lo hi : Option Int) : DrAll K S H (cutV xs lo hi) (cutL ds lo hi) := by
  unfold cutV cutL
  rw [r.length]
  exact (r.drop _).take _
theorem cutL_all {α : Type} (xs : List α) {lo hi : Option Int} (h : HT.sIx xs.length 0 lo = 0 ∧ HT.sIx xs.length xs.length hi = xs.length) : cutL xs lo hi = xs := by
  unfold cutL
  rw [h.1, h.2]
  simp
theorem cutD_ok {K : PySem.W.Frag} {S : Addr → Prop} {H : Hp} {x : V} {d : PyData} {lo hi : Option Int} {e : Ev} {Q : VK} (h1 : Dw K S H x d) (he : cutD d lo hi = some e) (out : Out K S H e Q) : rSlG K x lo hi H Q := by
  cases d <;> simp only [cutD, reduceCtorEq] at he
  · split at he
    · rename_i z hz
      cases he
      exact .inr ⟨z, h1.str, hz, outStr out⟩
    · cases he
  · cases he
    obtain ⟨a, xs, rfl, q, r⟩ := h1.lst
    exact .inl (.inl ⟨a, xs, rfl, q.sq, outLst (cutL_dr r lo hi) out⟩)
  · cases he
    obtain ⟨a, xs, rfl, q, r⟩ := h1.tup
    refine .inl (.inr ⟨a, xs, rfl, q, fun z => out _ H (fun _ _ e => e) (.tup q ?_), fun _ => outTup (cutL_dr r lo hi) out⟩)
    rw [r.length] at z
    rw [cutL_all _ z]
    exact r
theorem gslice {X : Cx} {A0 : Ax} {W : WX} {e : Expr} {lo hi : Option Expr} {fe : SE} {pl ph : SP} {p2 pos : Pos} (he : PE X e (tE (gc X A0 W) fe)) (hl : PO X lo (tOp_ (gc X A0 W) pl)) (hu : PO X hi (tOp_ (gc X A0 W) ph)) :
    PE X (.Subscript e (.Slice lo hi none p2) pos) (tE (gc X A0 W) (slE fe pl ph)) := by
  refine PE_imp (pe_slice (r := rSlG X.K) ((sl_list.or sl_tupA).or sl_str) he hl hu) ?_
  rintro σ H Q ⟨S, ρ, rp, h⟩
  refine tE_bind (P := fun z => PostE (gc X A0 W) S H σ ρ z Q) exE PostE.bad rp h fun p S1 H1 v1 t1 r1 e1 h => ?_
  refine tO_bind (P := fun z => PostE (gc X A0 W) S1 H1 σ p.2 z Q) exE PostE.bad r1 (h.from t1) fun l S2 H2 t2 r2 h => ?_
  refine tO_bind (P := fun z => PostE (gc X A0 W) S2 H2 σ l.2 z Q) exE PostE.bad r2 (h.from t2) fun u S3 H3 t3 r3 h => ?_
  obtain ⟨ev, hev, out⟩ := resE_out t3 r3 h
  have e3 := (e1.mono r1 t2).mono r2 t3
  cases pk : peek u.2 p.1 with
  | none => rw [pk] at hev; cases hev
  | some d =>
    rw [pk] at hev
    exact cutD_ok (peek_ok r3 e3 pk) hev out
/-! ### small words for the walk -/
theorem hu65 {k : Nat} {A : Around} (hr : Room k A) : A.units + 65 < cLine := by have := hr.un; omega
theorem hu1 {k : Nat} {A : Around} (hr : Room k A) : A.units + 1 < cLine := by have := hr.un; omega
theorem hu64 {k : Nat} {A : Around} (hr : Room k A) : A.units + 64 < cLine := by have := hr.un; omega
/-- a constant of the module -/
structure ConK (K : PySem.W.Frag) (mg : Str → Option Value) (x : Str) (d : PyData) : Prop where
  ex : ∃ u, mg x = some u ∧ KD K u d
section
variable {X : Cx} {A0 : Ax} {W : WX}
theorem gcon {x : Str} {d : PyData} {pos : Pos} (c : ConK X.K X.mg x d) (hg : Gl X x := by rfl) (hd : (x == ("__debug__" : Str)) = false := by decide) : PE X (.Name x pos) (tE (gc X A0 W) (fC d)) := by
  obtain ⟨u, h1, h2⟩ := c.ex
  exact gglob h1 h2 hg hd
def negD : PyData → Option Ev
  | .int i => some (.val (.int (-i)))
  | _ => none
theorem gnegD {a : Expr} {fa : SE} {pos : Pos} (ha : PE X a (tE (gc X A0 W) fa)) : PE X (.UnaryOp .USub a pos) (tE (gc X A0 W) (op1 negD fa)) :=
  PE_imp (pe_un un_neg ha) (op1_ok fun S H x d e Q h he out => by
    cases d <;> simp only [negD, reduceCtorEq] at he
    cases he
    exact ⟨_, h.int, outInt out⟩)
theorem gx_blk (s : Shared) (H : Hp) (scope : Scope) (cenv : Env) (fp : List Addr) (gx : GX X) : GX (X.blk s H scope cenv fp) := ⟨gx.gd, gx.sys, gx.un⟩
theorem takes0 {Y : Cx} : Takes Y W0 := fun u s' ⟨a, B, sI, pins, σ, H, cls, d, e, I, nb, up, sky, na, os, ag, w⟩ => w.elim
end
/-! ### constants of the module -/
section
variable {K : PySem.W.Frag} {mg : Str → Option Value} {h : Heap} {x : Str}
theorem kd_int {i : Int} {t : Nat} : KD K (.int i t) (.int i) := ⟨.int i, ⟨t, rfl⟩, fun _ _ => .int i⟩
theorem kdAll_ok {us : List Value} {ds : List PyData} (h : Paired (KD K) us ds) : ∃ vs, Vals vs us ∧ ∀ S H, DrAll K S H vs ds := by
  induction h with
  | nil => exact ⟨[], .nil, fun _ _ => .nil⟩
  | cons a _ ih =>
    obtain ⟨v, r, q⟩ := a
    obtain ⟨vs, rs, qs⟩ := ih
    exact ⟨v :: vs, .cons r rs, fun S H => .cons (q S H) (qs S H)⟩
theorem kd_tup {a : Addr} {oc : Option Addr} {its : Array Value} {n : Nat} {sl : Array (Option Value)} {ds : List PyData} (l : K.lookup a = some ⟨.type "tuple", oc, .seq its n, sl⟩) (hz : its.size ≤ sizeLine) (hs : Paired (KD K) its.toList ds) : KD K (.ref a) (.tuple ds) := by
  obtain ⟨vs, rs, qs⟩ := kdAll_ok hs
  exact ⟨.ref a, rfl, fun S H => .tup (.inr ⟨_, its, n, l, rfl, rfl, hz, rs⟩) (qs S H)⟩
theorem conK_mk {u : Value} {d : PyData} (X : K.In h) (G : h.Ns mainGlobals mg) (a : PySem.W.nsIn K mainGlobals x = some (some u)) (k : KD K u d) : ConK K mg x d := ⟨⟨u, PySem.W.mg_of X G a, k⟩⟩
end
/-- the law's def, called with the script -/
theorem binds_at {K : PySem.W.Frag} {mg : Str → Option Value} {dV : Value} {x y : Str} {st : Stmt} {f : Addr} {fd : FuncData} (h : FnK K mg dV x st [y] f fd)
    (hb : ∀ (kV doc pm : Value) (an : Option Addr) (cdv ct u : Value), bindArgs (PySem.W.fnOf x x (defArgs st) (defBody st) (defScope st) dV kV doc pm an cdv ct) ⟨[u], []⟩ = pure [(y, u)]) (s : Shared) (u : Value) : BindsTo s fd ⟨[u], []⟩ [(y, u)] := by
  obtain ⟨oc, od, kV, doc, pm, an, cdv, ct, osl, rfl, _⟩ := h.ex
  exact .of_eq (hb kV doc pm an cdv ct u)
/-! ### defaults -/
/-- the tuple of a def's defaults, data of the module -/
def DflK (K : PySem.W.Frag) (T : Addr) (ds : List PyData) : Prop := ∃ (o : Obj) (its : List Value) (n : Nat), K.lookup T = some o ∧ o.data = .seq its.toArray n ∧ Paired (KD K) its ds
theorem dflK_mk {K : PySem.W.Frag} {mg : Str → Option Value} {T : Addr} {x : Str} {st : Stmt} {ps : List Str} {f : Addr} {fd : FuncData} (h : FnK K mg (.ref T) x st ps f fd) {c : Value} {od : Option Addr} {its : Array Value} {n : Nat} {sl : Array (Option Value)} {ds : List PyData}
    (l : K.lookup T = some ⟨c, od, .seq its n, sl⟩) (hs : Paired (KD K) its.toList ds) : DflK K T ds := ⟨_, its.toList, n, l, by simp, hs⟩
theorem paired_drop {α β : Type} {r : α → β → Prop} : ∀ (j : Nat) {xs : List α} {ys : List β}, Paired r xs ys → Paired r (xs.drop j) (ys.drop j)
  | 0, _, _, h => h
  | _ + 1, _, _, .nil => .nil
  | j + 1, _, _, .cons _ t => paired_drop j t
theorem kdAll_dfl {K : PySem.W.Frag} {us : List Value} {ds : List PyData} (h : Paired (KD K) us ds) : ∃ vs, Vals vs us ∧ Dfl K vs (ds.map B.val) := by
  induction h with
  | nil => exact ⟨[], .nil, .nil⟩
  | cons a _ ih =>
    obtain ⟨v, r, q⟩ := a
    obtain ⟨vs, rs, qs⟩ := ih
    exact ⟨v :: vs, .cons r rs, .cons ⟨_, rfl, q⟩ qs⟩
theorem binds_dfl {K : PySem.W.Frag} {mg : Str → Option Value} {T : Addr} {x : Str} {st : Stmt} {ps : List Str} {f : Addr} {fd : FuncData} {ds : List PyData} (h : FnK K mg (.ref T) x st ps f fd) (e : DflK K T ds) (j : Nat) {n : Nat} (hn : n + (ds.length - j) = ps.length)
    (hb : ∀ (kV doc pm : Value) (an : Option Addr) (cdv ct : Value) (us its : List Value), us.length = n → its.length = ds.length →
      ∃ k, bindArgs (PySem.W.fnOf x x (defArgs st) (defBody st) (defScope st) (.ref T) kV doc pm an cdv ct) ⟨us, []⟩ = seqItems? (.ref T) >>= k ∧ k (some its.toArray) = pure (ps.zip (us ++ its.drop j))) :
    ∃ us vs, Binds K fd ps us ∧ Vals vs us ∧ Dfl K vs ((ds.drop j).map B.val) := by
  obtain ⟨oc, od, kV, doc, pm, an, cdv, ct, osl, rfl, _⟩ := h.ex
  obtain ⟨o, its, m, l, hd, hs⟩ := e
  obtain ⟨vs, rv, dv⟩ := kdAll_dfl (paired_drop j hs)
  refine ⟨its.drop j, vs, fun s us KX hl => ?_, rv, dv⟩
  have hi : its.length = ds.length := hs.length
  have hu : us.length = n := by rw [List.length_append, List.length_drop, hi] at hl; omega
  obtain ⟨k, e1, e2⟩ := hb kV doc pm an cdv ct us its hu hi
  refine BindsTo.of_looks fun M => ?_
  rw [e1]
  exact looks_items KX l hd (PySem.W.Looks.of_pure e2)
theorem called_d {P : Program} {w : World} {K : PySem.W.Frag} {mg : Str → Option Value} {base : Heap} {Γ : Gx} {k : Nat} {dV : Value} {x : Str} {ps : List Str} {F : SE} {st : Stmt} {f : Addr} {fd : FuncData} {dbs : List B} (h : FnK K mg dV x st ps f fd)
    (b : ∃ us vs, Binds K fd ps us ∧ Vals vs us ∧ Dfl K vs dbs) (g : FnG P w K mg base Γ k f fd ps F) : CalledG P w K mg base Γ k x ps F dbs := by
  obtain ⟨us, vs, h1, h2, h3⟩ := b
  exact ⟨⟨f, fd, vs, us, h.at_, h.kp, g, h1, h2, h3⟩⟩
end G
namespace G
open PySem PySem.Spec PyProof.Rows L2
/-! ### t.index(x), data of any depth -/
def rTupIx (K : PySem.W.Frag) : V → List V → Hp → VK → Prop := fun x xs H Q => ∃ (a : Addr) (y : V) (d : PyData) (ds : List PyData) (j : Nat) (z : PyData), x = V.ref a ∧ xs = [y] ∧ Dp K H (V.ref a) (.tuple ds) ∧ Dp K H y d ∧ SeqAt.shaped (.tuple ds) = true ∧ SeqAt.shaped d = true ∧
  ds[j]? = some z ∧ PyData.eqv z d = true ∧ (∀ (m : Nat) (z' : PyData), m < j → ds[m]? = some z' → PyData.eqv z' d = false) ∧ Q (.int (j : Nat)) H
theorem mt_tupIx {X : Cx} (hu : X.A.units + 65 < cLine) : MtR X "tuple.index" (rTupIx X.K) := by
  intro pins s σ H x xs v us Q I rx rxs h
  obtain ⟨a, y, d, ds, j, z, ex, exs, hl, hy, sl, sd, hz, hzj, hno, q⟩ := h
  subst ex exs
  cases rx
  obtain ⟨uy, eu, ry⟩ := vals1 rxs
  subst eu
  obtain ⟨bs, r1⟩ := Dp.reads I d y uy hy ry
  have lay : PyData.canLayAll0 ds = true := SeqAt.canLay_of_shaped sl
  have room : X.A.units + 1 + min (PyData.depthAll ds) d.depth < cLine := room_in_shaped sd hu
  cases hl with
  | tup hs ha =>
    obtain ⟨its, rv, pl, hlen⟩ := I.tuple hs
    obtain ⟨⟨cls, dd, dt, sls⟩, ho, hc, n, hd⟩ := pl
    simp only at hc hd
    subst hc hd
    obtain ⟨as, hr⟩ := Dp.readsAll I ds _ its ha rv
    have cnt : its.length = ds.length := SeqAt.ReadsAll.length ds its as hr
    have back : its.map (SeqAt.readOf s.heap) = ds := SeqAt.readsAll_map ds its as lay hr
    have jd : j < ds.length := (List.getElem?_eq_some_iff.mp hz).1
    have jt : j < its.toArray.size := by rw [List.size_toArray]; omega
    have look : ∀ (m : Nat) (hm : m < its.toArray.size) (z' : PyData), ds[m]? = some z' → SeqAt.readOf s.heap its.toArray[m] = z' := fun m hm z' e => by
      have hm' : m < its.length := by rw [List.size_toArray] at hm; exact hm
      rw [← back, List.getElem?_map, List.getElem?_eq_getElem hm'] at e
      have e1 : SeqAt.readOf s.heap its[m] = z' := Option.some.inj e
      rw [← e1]
      rfl
    refine call_meets PySem.F.slot_tuple_index ⟨_, ho, rfl⟩ PySem.F.entry_tuple_index (PySem.F.args_tuple_index_2 _ _) (TI.tuple_indexAt a its.toArray n dd sls uy (fun u => PyData.eqv (SeqAt.readOf s.heap u) d) j jt ?_ ?_)
      ⟨ho, SeqAt.items_eqAt (vs := its.toArray) (show ReadsAll s.heap its.toArray.toList ds as from hr) r1 lay (SeqAt.canLay_of_shaped sd) room, ⟨.int (j : Nat), H, I.tok _, ⟨_, rfl⟩, q⟩⟩
    · show PyData.eqv (SeqAt.readOf s.heap its.toArray[j]) d = true
      rw [look j jt z hz]
      exact hzj
    · intro m hm hmj
      have e : ds[m]? = some ds[m] := List.getElem?_eq_getElem (by omega)
      show PyData.eqv (SeqAt.readOf s.heap its.toArray[m]) d = false
      rw [look m hm _ e]
      exact hno m _ hmj e
/-- the first place of an equal one -/
def placeD (d : PyData) : List PyData → Nat → Option Nat
  | [], _ => none
  | z :: zs, n => if PyData.eqv z d = true then some n else placeD d zs (n + 1)
theorem placeD_ok {d : PyData} : ∀ {ds : List PyData} {n j : Nat}, placeD d ds n = some j → ∃ i z, j = n + i ∧ ds[i]? = some z ∧ PyData.eqv z d = true ∧ ∀ (m : Nat) (z' : PyData), m < i → ds[m]? = some z' → PyData.eqv z' d = false
  | [], n, j, h => by cases h
  | z :: zs, n, j, h => by
    unfold placeD at h
    split at h
    · rename_i hz
      cases h
      exact ⟨0, z, rfl, rfl, hz, fun m _ hm => absurd hm (Nat.not_lt_zero m)⟩
    · rename_i hz
      obtain ⟨i, y, e, e2, e3, e4⟩ := placeD_ok h
      refine ⟨i + 1, y, by omega, by simpa using e2, e3, fun m z' hm ez => ?_⟩
      cases m with
      | zero =>
        have ez' : z = z' := Option.some.inj ez
        rw [← ez']
        exact Bool.eq_false_iff.mpr hz
      | succ m => exact e4 m z' (by omega) (by simpa using ez)
def indexD (d x : PyData) : Option Ev := match d with
  | .tuple ds => if (SeqAt.shaped (.tuple ds) && SeqAt.shaped x) = true then (placeD x ds 0).map fun j => .val (.int j) else none
  | _ => none
/-- a tuple of the module, by its object too -/
structure ConT (K : PySem.W.Frag) (mg : Str → Option Value) (x : Str) (d : PyData) : Prop where
  ex : ∃ (a : Addr) (o : Obj), mg x = some (.ref a) ∧ K.lookup a = some o ∧ o.cls = .type "tuple" ∧ o.dict = none ∧ KD K (.ref a) d
theorem conT_mk {K : PySem.W.Frag} {mg : Str → Option Value} {h : Heap} {x : Str} {a : Addr} {its : Array Value} {n : Nat} {sl : Array (Option Value)} {d : PyData} (X : K.In h) (G : h.Ns mainGlobals mg) (e : PySem.W.nsIn K mainGlobals x = some (some (.ref a)))
    (l : K.lookup a = some ⟨.type "tuple", none, .seq its n, sl⟩) (k : KD K (.ref a) d) : ConT K mg x d := ⟨⟨a, _, PySem.W.mg_of X G e, l, rfl, rfl, k⟩⟩
def idxK (d : PyData) (fa : SA) : SE := fun ρ => (fa ρ).bind fun q => resE q.2 ((peeks q.2 q.1).bind fun ys => match ys with
  | [y] => indexD d y
  | _ => none)
theorem g_index {X : Cx} {A0 : Ax} {W : WX} {x : Str} {p : Pos} {e : Expr} {d : PyData} {fa : SA} {apos cpos : Pos} (hu : X.A.units + 65 < cLine) (c : ConT X.K X.mg x d) (ha : PA X [e] (tA (gc X A0 W) fa)) (hg : Gl X x := by rfl) (hdb : (x == ("__debug__" : Str)) = false := by decide)
    (hbase : attributeBase (.Name x p) "index" X.env (eval (.Name x p) X.env) = eval (.Name x p) X.env := by rfl)
    (hfew : ((backTo cpos (starEach [e] X.env)).all (fun x => !x.1) && (backToKw cpos (keywordEach [] X.env)).all (fun x => x.1.isSome)
      && decide (([e] : List Expr).length + ([] : List Keyword).length + (if ([] : List Keyword).isEmpty then 0 else 1) < 30)) = true := by rfl)
    (hline : (apos.endLine == cpos.line) = true := by rfl) (hs : starEach [e] X.env = (false, eval e X.env) :: starEach [] X.env := by rfl) (hplain : (backTo cpos (starEach [] X.env)).any (·.1) = false := by rfl) :
    PE X (.Call (.Attribute (.Name x p) "index" apos) [e] [] cpos) (tE (gc X A0 W) (idxK d fa)) := by
  obtain ⟨a, o, hm, hl, hc, hd, v, rv, kd⟩ := c.ex
  have ho : PE X (.Name x p) (tC v) := pe_glob hg hm rv hdb
  refine PE_imp (pe_bm PySem.F.plainAttrs_tuple PySem.F.slot_tuple_index PySem.F.type_tuple_index (mt_tupIx hu) ho ha hbase hfew hline hs hplain) ?_
  rintro σ H Q ⟨S, ρ, rp, h⟩
  have ev : v = .ref a := by
    cases v with
    | ref b =>
      have e : Value.ref a = Value.ref b := rv
      cases e
      rfl
    | _ => first | (obtain ⟨t, e⟩ := rv; exact nomatch e) | exact nomatch rv | (cases rv; done)
  subst ev
  refine ⟨.inr (.inl ⟨rfl, o, hl, hc, hd⟩), ?_⟩
  refine tA_bind (P := fun z => PostE (gc X A0 W) S H σ ρ z Q) exE PostE.bad rp h fun q S2 H2 vs t2 r2 e2 h => ?_
  obtain ⟨ev, hev, out⟩ := resE_out t2 r2 h
  cases p2 : peeks q.2 q.1 with
  | none => rw [p2] at hev; cases hev
  | some ys =>
    rw [p2] at hev
    match ys, hev, peeks_ok r2 e2 p2 with
    | [y], hev, dw =>
      have hev : indexD d y = some ev := hev
      obtain ⟨v, rfl, hy⟩ := dw1 dw
      have hx : Dw X.K S2 H2 (.ref a) d := .inl (kd S2 H2)
      unfold indexD at hev
      cases d with
      | tuple ds1 =>
        simp only at hev
        split at hev
        · rename_i hc
          simp only [Bool.and_eq_true] at hc
          cases pl : placeD y ds1 0 with
          | none => rw [pl] at hev; cases hev
          | some j =>
            rw [pl] at hev
            cases hev
            obtain ⟨i, z, ej, g1, g2, g3⟩ := placeD_ok pl
            rw [Nat.zero_add] at ej
            subst ej
            exact ⟨a, v, y, ds1, j, z, rfl, rfl, hx.dp (shaped_lay hc.1), hy.dp (shaped_lay hc.2), hc.1, hc.2, g1, g2, g3, outInt out⟩
        · cases hev
      | _ => cases hev
end G
namespace G
open PySem PySem.Spec PyProof.Rows L2
/-! ### f(k = v, ..): every parameter by its name, in the parameters' order -/
theorem takes_gx {Y : Cx} (_ : GX Y) : Takes Y W0 := G.takes0
/-! ### a, b, c = x, y, z: plain local names, values that are shared -/
def par3S (i j l : Nat) (fs : SA) : SS := fun ρ => (fs ρ).bind fun p => match shrs p.2 p.1 with
  | some ([d1, d2, d3], ρ1) => .ok (.nx (((ρ1.set i (.val d1)).set j (.val d2)).set l (.val d3)))
  | _ => .bad
end G
namespace G
open PySem PySem.Spec PyProof.Rows L2
/-! ### f(k = v, ..): every parameter by its name, in any order: parameter i has the keyword at place π i -/
def permL {α : Type} (π : List Nat) (xs : List α) : List α := π.filterMap (xs[·]?)
def permK (n : Nat) (π : List Nat) : List Ev × List B → Rs (List Ev × List B) := fun p => if p.1.length = n then .ok (permL π p.1, p.2) else .bad
def permA (n : Nat) (π : List Nat) (fa : SA) : SA := fun ρ => (fa ρ).bind (permK n π)
theorem r_permA {n : Nat} {π : List Nat} {fa : SA} {ρ : List B} : permA n π fa ρ = Rs.bind (fa ρ) (permK n π) := id rfl
theorem k_perm1 {e1 : Ev} {ρ : List B} : permK 1 [0] ([e1], ρ) = .ok ([e1], ρ) := id rfl
theorem k_perm2 {e1 e2 : Ev} {ρ : List B} : permK 2 [1, 0] ([e1, e2], ρ) = .ok ([e2, e1], ρ) := id rfl
theorem k_perm3a {e1 e2 e3 : Ev} {ρ : List B} : permK 3 [0, 2, 1] ([e1, e2, e3], ρ) = .ok ([e1, e3, e2], ρ) := id rfl
theorem k_perm3b {e1 e2 e3 : Ev} {ρ : List B} : permK 3 [1, 0, 2] ([e1, e2, e3], ρ) = .ok ([e2, e1, e3], ρ) := id rfl
theorem k_perm3c {e1 e2 e3 : Ev} {ρ : List B} : permK 3 [1, 2, 0] ([e1, e2, e3], ρ) = .ok ([e2, e3, e1], ρ) := id rfl
theorem k_perm3d {e1 e2 e3 : Ev} {ρ : List B} : permK 3 [2, 0, 1] ([e1, e2, e3], ρ) = .ok ([e3, e1, e2], ρ) := id rfl
theorem k_perm3e {e1 e2 e3 : Ev} {ρ : List B} : permK 3 [2, 1, 0] ([e1, e2, e3], ρ) = .ok ([e3, e2, e1], ρ) := id rfl
end G
namespace G
open PySem PySem.Spec PyProof.Rows L2
/-! ### isinstance(e, T), e a caught exception -/
/-- what is known of the caught exception's dict -/
def XdK (H : Hp) (pd : Option Addr) : Prop := pd = none ∨ ∃ d fs, pd = some d ∧ H d = some (.xd fs)
theorem XdAt.k {H : Hp} {pd : Option Addr} {pl : Option (Int × Int)} (h : XdAt H pd pl) : XdK H pd := by
  cases pl with
  | none => exact .inl h
  | some p => obtain ⟨d, e, q⟩ := h; exact .inr ⟨d, _, e, q⟩
/-! ### xs.count(d), xs.index(d) of a list of data -/
end G
set_option maxHeartbeats 2000000
namespace G
open PySem PySem.Spec PyProof.Rows L2
/-! ### a lambda is made: the tables grow, all else stays -/
def GrowT (H H' : Hp) : Prop := ∀ b o, H b = some o → H' b = some o ∨ (isTb o ∧ ∃ o', isTb o' ∧ H' b = some o')
theorem GrowT.refl (H : Hp) : GrowT H H := fun _ _ h => .inl h
theorem GrowT.keep {H H' : Hp} (g : GrowT H H') {b : Addr} {o : HO} (h : H b = some o) (n : ¬ isTb o) : H' b = some o := by
  rcases g b o h with q | ⟨q, _⟩
  · exact q
  · exact (n q).elim
theorem GrowT.some {H H' : Hp} (g : GrowT H H') {b : Addr} (h : ∃ o, H b = some o) : ∃ o, H' b = some o := by
  obtain ⟨o, h⟩ := h
  rcases g b o h with q | ⟨_, o', _, q⟩
  · exact ⟨o, q⟩
  · exact ⟨o', q⟩
end G
set_option maxHeartbeats 2000000
namespace G
open PySem PySem.Spec PyProof.Rows L2
/-! ### the lambda is called, by the def that was handed it: the maker's slots are read -/
/-! ### defs that are called while an exception is handled -/
section
variable {P : Program} {w : World} {K : PySem.W.Frag} {mg : Str → Option Value} {base : Heap} {Γ : Gx}
/-- what the frames of an except suite know besides -/
def Gx.hot (Γ : Gx) (a C : Addr) (pd : Option Addr) : Gx := { Γ with pa := a, pc := C, pd := pd }
end
end G
set_option maxHeartbeats 2000000
namespace G
open PySem PySem.Spec PyProof.Rows L2
/-! ### said(lambda: e): repr of e, or what the except suite makes of the exception's name -/
def saidH (HS : SS) (n : Xn) (ρ1 : List B) : Rs (Ev × List B) := match HS [.un, .exc n, .un] with
  | .ok (.rt (.val (.str m)) _) => .ok (.val (.str m), ρ1)
  | _ => .bad
def saidK (ns : List Str) (HS : SS) : Rs (Ev × List B) → Rs (Ev × List B)
  | .ok (ev, ρ1) => resE ρ1 ((peek ρ1 ev).bind fun d => reprD [d])
  | .ex n ρ1 => if ns.contains n.cls = true then saidH HS n ρ1 else .bad
  | .bad => .bad
def saidE (ns : List Str) (HS : SS) (fe : SE) : SE := fun ρ => saidK ns HS (fe ρ)
/-- what must be known of the def that is handed the lambda -/
structure SaidDef (P : Program) (w : World) (K : PySem.W.Frag) (mg : Str → Option Value) (base : Heap) (Γ : Gx) (k : Nat) (x : Str) (HS : SS) : Prop where
  ex : ∃ (g CG : Addr) (pg : Arguments) (bg : List Stmt) (sg : Scope) (dV kV doc pm cdv ct oc : Value) (an od : Option Addr) (osl : Array (Option Value)) (b0 : Stmt) (suite : List Stmt) (N : List Str) (p1 p2 p3 p4 p5 p6 p7 p8 : Pos),
    mg x = some (.ref g) ∧ PySem.W.keepIn K (.ref g) = true ∧ K.lookup g = some ⟨oc, od, .func (PySem.W.fnOf x x pg bg sg dV kV doc pm an cdv ct), osl⟩ ∧ PySem.W.codeIn K cdv x = true ∧ Binds K (PySem.W.fnOf x x pg bg sg dV kV doc pm an cdv ct) ["_law_call"] [] ∧
    FnScope N ["_law_call"] sg ∧ N = (["_law_call", "_law_error", "_law_name"] : List Str) ∧ Vis sg "_law_call" ∧ sg.names.lookup ("_law_error" : Str) = some NameKind.local ∧ sg.names.lookup ("GridsymError" : Str) = some NameKind.globalImplicit ∧ sg.names.lookup ("repr" : Str) = some NameKind.globalImplicit ∧
    bg = [.Try [.Return (some (.Call (.Name "repr" p1) [.Call (.Name "_law_call" p2) [] [] p3] [] p4)) p5] [.ExceptHandler (some (.Name "GridsymError" p6)) (some "_law_error") (b0 :: suite) p7] [] [] p8] ∧
    mg "GridsymError" = some (.ref CG) ∧ mg "repr" = none ∧ (∀ q ∈ Γ.es, PySem.W.exmOne K (.ref q.2) (.ref CG) = some true) ∧
    ∀ (A : Around) (outer : List Env) (s : Shared) (H : Hp) (a C : Addr) (pd : Option Addr) (oe : Obj) (pn : List (Addr × Obj)), Room k (cxOf C8.CX0 P w K mg base N x sg g cdv A outer s H C8.E0).A → GX (cxOf C8.CX0 P w K mg base N x sg g cdv A outer s H C8.E0) → Zc (.ref C) pd oe → (∃ vs, oe.data = .fields vs) →
      PSs ((cxOf C8.CX0 P w K mg base N x sg g cdv A outer s H C8.E0).suite a ((a, oe) :: pn)) (b0 :: suite) (tSt ⟨K, mg, ⟨fun _ => none, Γ.hot a C pd⟩, W0⟩ HS)
/-- what must be known of the def that makes lambdas -/
structure Maker (K : PySem.W.Frag) (mg : Str → Option Value) (base : Heap) (Γ : Gx) (f : Addr) (q : Str) : Prop where
  ex : ∃ (c P : Addr), CodeAt K f (.ref c) ∧ LamX.TabB base mg c P ∧ (P, q) ∈ Γ.T ∧ ∀ p ∈ Γ.T, p.1 = P → p.2 = q
theorem Maker.code {K : PySem.W.Frag} {mg : Str → Option Value} {base : Heap} {Γ : Gx} {f : Addr} {q : Str} {cdv : Value} (m : Maker K mg base Γ f q) (h : CodeAt K f cdv) : ∃ (c P : Addr), cdv = .ref c ∧ LamX.TabB base mg c P ∧ (P, q) ∈ Γ.T ∧ ∀ p ∈ Γ.T, p.1 = P → p.2 = q := by
  obtain ⟨c, P, ⟨oc, od, fd, osl, e1, e2⟩, r⟩ := m.ex
  obtain ⟨oc', od', fd', osl', e3, e4⟩ := h
  rw [e1] at e3
  cases e3
  exact ⟨c, P, by rw [← e4, e2], r⟩
end G
set_option maxHeartbeats 2000000
namespace G
open PySem PySem.Spec PyProof.Rows L2
theorem SaidDef.mono {P : Program} {w : World} {K : PySem.W.Frag} {mg : Str → Option Value} {base : Heap} {Γ : Gx} {j k : Nat} {x : Str} {HS : SS} (d : SaidDef P w K mg base Γ j x HS) (h : j ≤ k) : SaidDef P w K mg base Γ k x HS := by
  obtain ⟨g, CG, pg, bg, sg, dV, kV, doc, pm, cg, ct, oc, an, od, osl, b0, suite, N, p1, p2, p3, p4, p5, p6, p7, p8, q1, q2, q3, q4, q5, q6, q7, q8, q9, q10, q11, q12, q13, q14, q15, q16⟩ := d.ex
  exact ⟨g, CG, pg, bg, sg, dV, kV, doc, pm, cg, ct, oc, an, od, osl, b0, suite, N, p1, p2, p3, p4, p5, p6, p7, p8, q1, q2, q3, q4, q5, q6, q7, q8, q9, q10, q11, q12, q13, q14, q15, fun A outer s H a C pd oe pn hr => q16 A outer s H a C pd oe pn (hr.mono h)⟩
/-! ### the end: tables, classes -/
end G
/-! a, b, .. = x, y, ..: new lists and dicts stay the frame's own -/
namespace G
open PySem PySem.Spec PyProof.Rows L2
def evN : List SE → List B → Rs (List Ev × List B)
  | [], ρ => .ok ([], ρ)
  | f :: fs, ρ => (f ρ).bind fun p => (evN fs p.2).bind fun q => .ok (p.1 :: q.1, q.2)
def resN : List B → List Ev → Option (List Ev × List B)
  | ρ, [] => some ([], ρ)
  | ρ, e :: es => (resv ρ e).bind fun p => (resN p.2 es).map fun q => (p.1 :: q.1, q.2)
def bindN : List Nat → List Ev → List B → Rs (List B)
  | [], [], ρ => .ok ρ
  | i :: is, e :: es, ρ => (bindV i e ρ).bind fun ρ' => bindN is es ρ'
  | _, _, _ => .bad
def setN : List Nat → List V → St → St
  | i :: is, v :: vs, σ => setN is vs (σ.set i (some v))
  | _, _, σ => σ
def parN (is : List Nat) (fs : List SE) : SS := fun ρ => (evN fs ρ).bind fun p => match resN p.2 p.1 with
  | some (es, ρ1) => (bindN is es ρ1).bind fun ρ' => .ok (.nx ρ')
  | none => .bad
def isFr : Ev → Prop := fun e => ∃ d, e = .fr d
def DisF : List V → List Ev → Prop
  | v :: vs, e :: es => (isFr e → ∀ (i : Nat) (e' : Ev), vs[i]? = some v → es[i]? = some e' → ¬ isFr e') ∧ DisF vs es
  | _, _ => True
def hA (g : Gc) : List SE → TA
  | [] => tNil
  | f :: fs => tCons (tE g f) (hA g fs)
section
variable {g : Gc} {K : PySem.W.Frag} {A0 : Ax}
theorem Paired.get2 {α β : Type} {R : α → β → Prop} : ∀ {xs : List α} {ys : List β} {i : Nat} {x : α} {y : β}, Paired R xs ys → xs[i]? = some x → ys[i]? = some y → R x y
  | _, _, i, _, _, .nil, h, _ => by simp at h
  | _, _, 0, _, _, .cons a t, h, h' => by simp at h h'; subst h; subst h'; exact a
  | _, _, i + 1, _, _, .cons a t, h, h' => Paired.get2 (i := i) t (by simpa using h) (by simpa using h')
theorem hA_run : ∀ {fs : List SE} {S : Addr → Prop} {H : Hp} {σ : St} {ρ : List B} {R : List V → Hp → Prop} {α : Type} {k : List Ev × List B → Rs α} {P : Rs α → Prop},
    (∀ n ρ', P (.ex n ρ') → ∀ S' H', Tr S H (Ow σ ρ) S' H' (Ow σ ρ') → Rp g.K g.A0 S' H' σ ρ' → g.wx n σ H') → ¬ P .bad →
    Rp g.K g.A0 S H σ ρ → P ((evN fs ρ).bind k) →
    (∀ p S' H' vs, Tr S H (Ow σ ρ) S' H' (Ow σ p.2) → Rp g.K g.A0 S' H' σ p.2 → Paired (RE g.K g.A0 H S' H' σ p.2) vs p.1 → DisF vs p.1 → P (k p) → R vs H') → hA g fs σ H R
  | [], S, H, σ, ρ, R, α, k, P, hex, hbad, r, h, hk => hk ([], ρ) S H [] Tr.refl r .nil trivial h
  | f :: fs, S, H, σ, ρ, R, α, k, P, hex, hbad, r, h, hk => by
    show (tE g f) σ H fun v H1 => (hA g fs) σ H1 fun vs H2 => R (v :: vs) H2
    have h' : P ((f ρ).bind fun p => (evN fs p.2).bind fun q => k (p.1 :: q.1, q.2)) := by
      have : ((evN (f :: fs) ρ).bind k) = ((f ρ).bind fun p => (evN fs p.2).bind fun q => k (p.1 :: q.1, q.2)) := by
        show (((f ρ).bind fun p => (evN fs p.2).bind fun q => .ok (p.1 :: q.1, q.2)).bind k) = _
        cases f ρ with
        | ok p => show (((evN fs p.2).bind fun q => .ok (p.1 :: q.1, q.2)).bind k) = ((evN fs p.2).bind fun q => k (p.1 :: q.1, q.2)); cases evN fs p.2 <;> rfl
        | ex n ρ' => rfl
        | bad => rfl
      rw [← this]
      exact h
    refine tE_bind (P := P) hex hbad r h' fun p S1 H1 v1 t1 r1 e1 h1 => ?_
    refine hA_run (P := P) (k := fun q => k (p.1 :: q.1, q.2)) (fun n ρ' z S' H' t r' => hex n ρ' z S' H' (t1.trans t) r') hbad r1 h1 fun q S2 H2 vs t2 r2 e2 d2 h2 => ?_
    have e1' := e1.mono r1 t2
    refine hk (p.1 :: q.1, q.2) S2 H2 (v1 :: vs) (t1.trans t2) r2 (.cons e1' (Paired.mapP e2 fun v e z => z.back fun a q => t1.fresh q)) ⟨?_, d2⟩ h2
    rintro ⟨d, ed⟩ i e' hi he ⟨d', rfl⟩
    rw [ed] at e1
    obtain ⟨a, rfl, _, _, _, o, ha, _⟩ := e1
    obtain ⟨a', e3, h0, _⟩ := Paired.get2 e2 hi he
    cases e3
    rw [h0.1] at ha
    cases ha
theorem resN_ok {S0 : Addr → Prop} {H0 HR : Hp} {σ : St} {O0 : Addr → Prop} : ∀ {vs : List V} {es es' : List Ev} {S : Addr → Prop} {H : Hp} {ρ ρ' : List B}, Tr S0 H0 O0 S H (Ow σ ρ) → Rp K A0 S H σ ρ → Paired (RE K A0 HR S H σ ρ) vs es → DisF vs es → resN ρ es = some (es', ρ') →
    ∃ S', Tr S0 H0 O0 S' H (Ow σ ρ') ∧ Rp K A0 S' H σ ρ' ∧ Paired (RE K A0 HR S' H σ ρ') vs es' ∧ DisF vs es' ∧ (∀ e ∈ es', ∀ i, e ≠ .sl i) ∧ Tr S H (Ow σ ρ) S' H (Ow σ ρ') ∧ (∀ (i : Nat) (e' : Ev), es'[i]? = some e' → isFr e' → es[i]? = some e')
  | _, _, es', S, H, ρ, ρ', t, r, .nil, d, q => by
    cases q
    exact ⟨S, t, r, .nil, trivial, (fun e he => by cases he), Tr.refl, fun i e' h => by simp at h⟩
  | _, _, es', S, H, ρ, ρ', t, r, .cons (a := v) (b := e) (l₁ := vs) (l₂ := es) h1 hs, d, q => by
    unfold resN at q
    cases q1 : resv ρ e with
    | none => rw [q1] at q; cases q
    | some p =>
      obtain ⟨e1, ρ1⟩ := p
      rw [q1] at q
      cases q2 : resN ρ1 es with
      | none => simp only [Option.bind, q2, Option.map_none, reduceCtorEq] at q
      | some p2 =>
        obtain ⟨es1, ρ2⟩ := p2
        simp only [Option.bind, q2, Option.map_some, Option.some.injEq, Prod.mk.injEq] at q
        obtain ⟨rfl, rfl⟩ := q
        obtain ⟨S1, t1, r1, g1, n1, u1⟩ := resv_ok t r h1 q1
        obtain ⟨S2, t2, r2, g2, d2, n2, u2, w2⟩ := resN_ok t1 r1 (Paired.mapP hs fun v e z => z.mono r u1) d.2 q2
        refine ⟨S2, t2, r2, .cons (g1.mono r1 u2) g2, ⟨fun hf i e' hv he hf' => ?_, d2⟩, fun e he => ?_, u1.trans u2, fun i e' h hf => ?_⟩
        · have : isFr e := by
            obtain ⟨dd, rfl⟩ := hf
            cases e with
            | fr d3 => exact ⟨d3, rfl⟩
            | val d3 => cases q1
            | sl k =>
              unfold resv at q1
              cases e7 : shr ρ (.sl k) with
              | none => simp only [e7, Option.map_none, reduceCtorEq] at q1
              | some pp => simp only [e7, Option.map_some, Option.some.injEq, Prod.mk.injEq, reduceCtorEq, false_and] at q1
          exact d.1 this i e' hv (w2 i e' he hf') hf'
        · rcases List.mem_cons.mp he with rfl | he
          · exact n1
          · exact n2 e he
        · cases i with
          | zero =>
            simp at h
            subst h
            obtain ⟨dd, rfl⟩ := hf
            have : e = .fr dd := by
              cases e with
              | fr d3 => cases q1; rfl
              | val d3 => cases q1
              | sl k =>
                unfold resv at q1
                cases e7 : shr ρ (.sl k) with
                | none => simp only [e7, Option.map_none, reduceCtorEq] at q1
                | some pp => simp only [e7, Option.map_some, Option.some.injEq, Prod.mk.injEq, reduceCtorEq, false_and] at q1
            subst this
            rfl
          | succ i => simpa using w2 i e' (by simpa using h) hf
theorem setAll {S : Addr → Prop} {H HR : Hp} : ∀ {is : List Nat} {vs : List V} {es : List Ev} {σ : St} {ρ ρ' : List B}, Rp K A0 S H σ ρ → Paired (RE K A0 HR S H σ ρ) vs es → DisF vs es → (∀ e ∈ es, ∀ i, e ≠ .sl i) → bindN is es ρ = .ok ρ' →
    Rp K A0 S H (setN is vs σ) ρ' ∧ is.length = vs.length ∧ ∀ c, Ow (setN is vs σ) ρ' c → Ow σ ρ c ∨ HR c = none
  | [], _, _, σ, ρ, ρ', r, .nil, d, n, q => by cases q; exact ⟨r, rfl, fun c h => .inl h⟩
  | _ :: _, _, _, σ, ρ, ρ', r, .nil, d, n, q => by cases q
  | [], _, _, σ, ρ, ρ', r, .cons _ _, d, n, q => by cases q
  | i :: is, _, _, σ, ρ, ρ', r, .cons (a := v) (b := e) (l₁ := vs) (l₂ := es) h1 hs, d, n, q => by
    have key : ∃ ρ1, bindV i e ρ = .ok ρ1 ∧ bindN is es ρ1 = .ok ρ' := by
      unfold bindN at q
      cases hb : bindV i e ρ with
      | ok ρ1 => rw [hb] at q; exact ⟨ρ1, rfl, q⟩
      | ex n r => rw [hb] at q; cases q
      | bad => rw [hb] at q; cases q
    obtain ⟨ρ1, b1, q'⟩ := key
    have st : Rp K A0 S H (σ.set i (some v)) ρ1 ∧ ∀ c, Ow (σ.set i (some v)) ρ1 c → Ow σ ρ c ∨ (isFr e ∧ v = .ref c ∧ HR c = none) := by
      cases e with
      | sl k => exact (n _ (List.mem_cons_self ..) k rfl).elim
      | val dd =>
        cases b1
        obtain ⟨r5, s⟩ := r.setVal (i := i) h1
        exact ⟨r5, fun c z => .inl (s c z)⟩
      | fr dd =>
        cases b1
        obtain ⟨c, rfl, h0, hs', ho, hc⟩ := h1
        obtain ⟨r5, s⟩ := r.setOwn (i := i) hs' ho h0.2 hc
        refine ⟨r5, fun b z => ?_⟩
        rcases s b z with z | rfl
        · exact .inl z
        · exact .inr ⟨⟨dd, rfl⟩, rfl, h0.1⟩
    obtain ⟨r1, s1⟩ := st
    have hs1 : Paired (RE K A0 HR S H (σ.set i (some v)) ρ1) vs es := by
      have : ∀ (j : Nat) (u : V) (e' : Ev), vs[j]? = some u → es[j]? = some e' → RE K A0 HR S H σ ρ u e' → RE K A0 HR S H (σ.set i (some v)) ρ1 u e' := by
        intro j u e' hu he h
        refine h.setOther (n e' (List.mem_cons_of_mem _ (List.mem_of_getElem? he))) fun a ea ⟨dd, ed⟩ z => ?_
        subst ed
        subst ea
        obtain ⟨c', e3, h0, _, ho, _⟩ := h
        cases e3
        rcases s1 _ z with z | ⟨hf, z, _⟩
        · exact ho z
        · subst z
          exact d.1 hf j _ hu he ⟨dd, rfl⟩
      have aux : ∀ {vs : List V} {es : List Ev}, Paired (RE K A0 HR S H σ ρ) vs es → (∀ (j : Nat) (u : V) (e' : Ev), vs[j]? = some u → es[j]? = some e' → RE K A0 HR S H σ ρ u e' → RE K A0 HR S H (σ.set i (some v)) ρ1 u e') → Paired (RE K A0 HR S H (σ.set i (some v)) ρ1) vs es := by
        intro vs es h
        induction h with
        | nil => intro _; exact .nil
        | cons a t ih => intro w; exact .cons (w 0 _ _ rfl rfl a) (ih fun j u e' hu he => w (j + 1) u e' (by simpa using hu) (by simpa using he))
      exact aux hs this
    obtain ⟨r2, hl, s2⟩ := setAll r1 hs1 d.2 (fun e he => n e (List.mem_cons_of_mem _ he)) q'
    refine ⟨r2, by simp [hl], fun c z => ?_⟩
    rcases s2 c z with z | z
    · rcases s1 c z with z | ⟨_, _, z⟩
      · exact .inl z
      · exact .inr z
    · exact .inr z
/-- the whole: values, then the stores -/
theorem par_core {is : List Nat} {fs : List SE} {D : Ends} {σ : St} {H : Hp} (h : tSt g (parN is fs) D σ H) : hA g fs σ H fun vs H1 => is.length = vs.length ∧ ∀ H2, L2.Same H1 H2 → D.nx (setN is vs σ) H2 := by
  obtain ⟨S, ρ, r, h⟩ := h
  refine hA_run (P := fun z => PostS g S H σ ρ z D) exS PostS.bad r h fun p S1 H1 vs t1 r1 e1 d1 h => ?_
  cases q : resN p.2 p.1 with
  | none => rw [q] at h; exact h.elim
  | some pr =>
    obtain ⟨es, ρ1⟩ := pr
    rw [q] at h
    simp only at h
    obtain ⟨S2, t2, r2, e2, d2, n2, u2, _⟩ := resN_ok t1 r1 e1 d1 q
    cases hb : bindN is es ρ1 with
    | bad => rw [hb] at h; exact h.elim
    | ex n ρ' => rw [hb] at h; exact (by
        have : ∀ (is : List Nat) (es : List Ev) (ρ : List B), bindN is es ρ ≠ .ex n ρ' := by
          intro is
          induction is with
          | nil => intro es ρ; cases es <;> exact nofun
          | cons i is ih =>
            intro es ρ
            cases es with
            | nil => exact nofun
            | cons e es =>
              unfold bindN
              cases e with
              | val d => exact ih _ _
              | fr d => exact ih _ _
              | sl j =>
                unfold bindV
                dsimp only
                cases shr ρ (.sl j) with
                | none => exact nofun
                | some p => exact ih _ _
        exact (this _ _ _ hb).elim)
    | ok ρ2 =>
      rw [hb] at h
      obtain ⟨r3, hl, s3⟩ := setAll r2 e2 d2 n2 hb
      refine ⟨hl, fun H2 s => ?_⟩
      refine h S2 H2 _ ((⟨t2.s, t2.keep, t2.dom, fun c z => ?_, t2.g⟩ : Tr S H (Ow σ ρ) S2 H1 (Ow (setN is vs σ) ρ2)).same s) (r3.same s)
      rcases s3 c z with z | z
      · exact t2.o c z
      · exact .inr z
end
section
variable {X : Cx} {A0 : Ax} {W : WX}
def gNames : List Nat → TGs
  | [] => gNil
  | i :: is => gCons (gName i) (gNames is)
theorem gNames_ok {is : List Nat} : ∀ {vs : List V} {σ : St} {H : Hp} {Q : St → Hp → Prop}, is.length = vs.length → Q (setN is vs σ) H → gNames is vs σ H Q := by
  induction is with
  | nil => intro vs σ H Q hl h; cases vs with
    | nil => exact ⟨rfl, h⟩
    | cons v vs => cases hl
  | cons i is ih => intro vs σ H Q hl h; cases vs with
    | nil => cases hl
    | cons v vs => exact ⟨v, vs, rfl, ih (by simpa using hl) h⟩
/-- the tuple is built, then taken apart -/
theorem gs_parT {is : List Nat} {fs : List SE} {ts es : List Expr} {kt k2 : Nat} {pt pt2 pos : Pos} (n : Nat) (hc : X.calm = true) (hp : PA X es (hA (gc X A0 W) fs)) (ht : PGs X ts (gNames is)) (hn1 : is.length = n := by rfl)
    (hn : (assignEach ts X.env).length = n := by rfl) (hst : (assignEach ts X.env).findIdx? (·.1) = none := by rfl)
    (hs : swapsWithSole [.Tuple ts kt pt] (.Tuple es k2 pt2) pos.line X.env = pure false := by rfl) (hw : swappedStores [.Tuple ts kt pt] (.Tuple es k2 pt2) X.env = pure none := by rfl)
    (h1 : (assignEach [.Tuple ts kt pt] X.env).map (·.2) = [assign (.Tuple ts kt pt) X.env] := by rfl) (hz : n ≤ 1000 := by decide) : PS X (.Assign [.Tuple ts kt pt] (.Tuple es k2 pt2) pos) (tSt (gc X A0 W) (parN is fs)) := by
  refine PS_imp (ps_asg (pe_tup hp) (pg_tup hc ht hn hst) hs hw h1) ?_
  intro D σ H h
  have h := par_core h
  have mono : ∀ {fs : List SE} {σ : St} {H : Hp} {R R' : List V → Hp → Prop}, (∀ vs H, R vs H → R' vs H) → hA (gc X A0 W) fs σ H R → hA (gc X A0 W) fs σ H R' := by
    intro fs
    induction fs with
    | nil => intro σ H R R' w h; exact w _ _ h
    | cons f fs ih =>
      intro σ H R R' w h
      obtain ⟨S, ρ, r, h⟩ := (show (tE (gc X A0 W) f) σ H fun v H1 => (hA (gc X A0 W) fs) σ H1 fun vs H2 => R (v :: vs) H2 from h)
      refine ⟨S, ρ, r, ?_⟩
      cases e : f ρ with
      | ok p => rw [e] at h; exact fun S' H' v t r' q => ih (fun vs H => w _ _) (h S' H' v t r' q)
      | ex n ρ' => rw [e] at h; exact h
      | bad => rw [e] at h; exact h
  refine mono ?_ h
  intro vs H1 ⟨hl, q⟩
  refine ⟨Nat.le_trans (show vs.length ≤ 1000 by omega) (by decide), fun p hp => ⟨p, vs, rfl, .inl (.inl (by unfold upd; simp)), by omega, gNames_ok hl (q _ fun a o ha => ?_)⟩⟩
  unfold upd
  split
  · rename_i e
    subst e
    rw [hp] at ha
    cases ha
  · exact ha
/-- one name of such a target -/
theorem gn_nil : PGs X [] (gNames []) := pgs_nil
theorem gn_cons (i : Nat) {is : List Nat} {x : Str} {es : List Expr} {pos : Pos} (hN : X.N.Nodup) (h2 : PGs X es (gNames is)) (hi : X.N[i]? = some x := by rfl) (hx : Loc X.env.scope x := by first | exact Or.inl rfl | exact Or.inr rfl)
    (hf : X.fn x = true ∨ X.env.scope.names.lookup x = some .local := by first | exact .inl rfl | exact .inr rfl | assumption)
    (hs : (assignEach (.Name x pos :: es) X.env).map (·.2) = assign (.Name x pos) X.env :: (assignEach es X.env).map (·.2) := by rfl) : PGs X (.Name x pos :: es) (gNames (i :: is)) := pgs_cons (pg_name hN hi hx hf) h2 hs
theorem ga_nil : PA X [] (hA (gc X A0 W) []) := pa_nil
theorem ga_cons {e : Expr} {es : List Expr} {f : SE} {fs : List SE} (h : PE X e (tE (gc X A0 W) f)) (h2 : PA X es (hA (gc X A0 W) fs)) (hs : starEach (e :: es) X.env = (false, eval e X.env) :: starEach es X.env := by rfl) : PA X (e :: es) (hA (gc X A0 W) (f :: fs)) := pa_cons h h2 hs
end
/-! ### [..] * k, of a new list -/
def repR (ρ : List B) : Ev → Option PyData → Rs (Ev × List B)
  | .fr (.list ds), some (.int k) => if ds.length ≤ 1000 ∧ k < 10000 ∧ -10000 < k then .ok (.fr (.list (List.replicate k.toNat ds).flatten), ρ) else .bad
  | _, _ => .bad
def repE (fa fb : SE) : SE := fun ρ => (fa ρ).bind fun p => (fb p.2).bind fun q => repR q.2 p.1 (peek q.2 q.1)
/-! ### a list or a tuple walked -/
def iAny (K : PySem.W.Frag) (tl : TE) : TI := fun σ H R => tl σ H fun v H1 => ∃ a, v = .ref a ∧ (((∃ xs, SqL K H1 a xs) ∧ R (Itl K a) H1) ∨ ((∃ xs, SqT K H1 a xs) ∧ R (Itt K a) H1))
theorem pi_any {X : Cx} {tg l : Expr} {tl : TE} (hl : PE X l tl) : PI X tg l (iAny X.K tl) := by
  refine ⟨fun pins s σ H R I h => ?_⟩
  refine thn (hl.run pins s σ H _ I h) fun v s1 ⟨x, H1, I1, r1, q1⟩ => ?_
  obtain ⟨a, e, q⟩ := q1
  subst e
  cases r1
  rcases q with ⟨⟨xs, hq⟩, q⟩ | ⟨⟨xs, hq⟩, q⟩
  · obtain ⟨its, rv, p, hz⟩ := I1.list hq
    refine wpAny_pyIter_list p.isList ?_
    refine ⟨s1.heap.objs.size, [s1.heap.objs.size], _, _, H1, rfl, I1.kept (t' := s1.toks) fun b o e => Heap.get?_push_of_some _ e, turn_list a _, ⟨_, Heap.get?_push_size _ rfl, rfl, rfl⟩, fun b hb => ?_, q⟩
    have e : b = s1.heap.objs.size := by simpa using hb
    subst e
    exact I1.fpOk (Nat.le_refl _) (I1.hok.fresh (Nat.le_refl _))
  · obtain ⟨its, rv, p, hz⟩ := I1.tuple hq
    refine wpAny_pyIter_tuple (show s1.heap.IsTuple a its.toArray from p) ?_
    refine ⟨s1.heap.objs.size, [s1.heap.objs.size], _, _, H1, rfl, I1.kept (t' := s1.toks) fun b o e => Heap.get?_push_of_some _ e, turn_tuple a _, ⟨_, Heap.get?_push_size _ rfl, rfl, rfl⟩, fun b hb => ?_, q⟩
    have e : b = s1.heap.objs.size := by simpa using hb
    subst e
    exact I1.fpOk (Nat.le_refl _) (I1.hok.fresh (Nat.le_refl _))
def bothK : PyData → Option (List PyData)
  | .list ds => some ds
  | .tuple ds => some ds
  | _ => none
theorem gi_any {X : Cx} {A0 : Ax} {W : WX} {tg l : Expr} {fe : SE} (hl : PE X l (tE (gc X A0 W) fe)) : PI X tg l (tI (gc X A0 W) (seqI bothK fe)) := PI_imp (pi_any hl) fun σ H R h => seqI_bind h fun S' H' v d ds hd hk q => by
  cases d with
  | list ds' => cases hk; obtain ⟨a, rfl, hx, ok⟩ := itl_ok hd; exact ⟨a, rfl, .inl ⟨hx, q _ ok⟩⟩
  | tuple ds' => cases hk; obtain ⟨a, rfl, hx, ok⟩ := itt_ok hd; exact ⟨a, rfl, .inr ⟨hx, q _ ok⟩⟩
  | _ => cases hk
end G
/-! dicts: in, display, stores, walks -/
namespace G
open PySem PySem.Spec PyProof.Rows L2
/-! ### in -/
def inG : PyData → PyData → Option Ev := fun x y => match y with
  | .dict kvs => (keyOf x).bind fun q => if keyed kvs = true then some (.val (.bool (dget kvs q).isSome)) else none
  | _ => inD x y
def ninG : PyData → PyData → Option Ev := fun x y => match y with
  | .dict kvs => (keyOf x).bind fun q => if keyed kvs = true then some (.val (.bool (!(dget kvs q).isSome))) else none
  | _ => ninD x y
def rInG : R2 := fun y x H Q => ∃ a o, x = .ref a ∧ DGet H a y o ∧ Q (.bl o.isSome) H
theorem Dw.has {K : PySem.W.Frag} {S : Addr → Prop} {H : Hp} {x y : V} {kvs : List (PyData × PyData)} {k : PyData} {q : Key} (h : Dw K S H x (.dict kvs)) (hk : Dw K S H y k) (hq : keyOf k = some q) (hd : keyed kvs = true) : ∃ a o, x = .ref a ∧ DGet H a y o ∧ (dget kvs q).isSome = o.isSome := by
  obtain ⟨a, o, rfl, ho, c⟩ := h.dic
  obtain ⟨ks, ds, rfl, dr, rfl⟩ := c.key hd
  refine ⟨a, valV ks q, rfl, .inl ⟨_, q, ho.rd, hk.key hq, rfl⟩, ?_⟩
  obtain ⟨h1, h2⟩ := dget_val q dr
  cases e : dget ((ks.map fun p => kD p.1).zip ds) q with
  | none => rw [h2 e]; rfl
  | some d => obtain ⟨v, e1, _⟩ := h1 d e; rw [e1]; rfl
section
variable {X : Cx} {A0 : Ax} {W : WX} {a b : Expr} {fa fb : SE} {pos : Pos}
theorem op_inG (hu : X.A.units + 1 < cLine) : OpR X (compareOp .In) rInG := by
  intro pins s σ H y x v u Q I ry rx h
  obtain ⟨a, o, rfl, g, q⟩ := h
  obtain rfl : u = Value.ref a := rx
  exact d_in hu I g ry fun s' I' => ⟨.bl o.isSome, H, I', rfl, q⟩
theorem op_inX (hu : X.A.units + 65 < cLine) : OpR X (compareOp .In) (fun x y H Q => (rInD X.K x y H Q ∨ rInT X.K x y H Q) ∨ rInG x y H Q) := ((op_inD hu).or (op_inT hu)).or (op_inG (by omega))
theorem inG_ok {K : PySem.W.Frag} : OpD K (fun x y H Q => (rInD K x y H Q ∨ rInT K x y H Q) ∨ rInG x y H Q) inG := by
  intro S H x y d1 d2 e Q h1 h2 he out
  unfold inG at he
  cases d2 with
  | dict kvs =>
    simp only at he
    cases hq : keyOf d1 with
    | none => rw [hq] at he; cases he
    | some q =>
      rw [hq] at he
      simp only [Option.bind] at he
      split at he
      · rename_i hk
        cases he
        obtain ⟨a, o, rfl, g, eo⟩ := h2.has h1 hq hk
        rw [eo] at out
        exact .inr ⟨a, o, rfl, g, outBl out⟩
      · cases he
  | _ => exact .inl (inD_ok S H x y d1 _ e Q h1 h2 he out)
theorem ginX (hu : X.A.units + 65 < cLine) (ha : PE X a (tE (gc X A0 W) fa)) (hb : PE X b (tE (gc X A0 W) fb)) (hm : behindInMarks .In b = false := by with_unfolding_all rfl) : PE X (.Compare a [.In] [b] pos) (tE (gc X A0 W) (op2 inG fa fb)) := gcmp (op_inX hu) inG_ok ha hb hm
end
/-! ### the walks: values, items; the dict is locked from then on -/
def valsK : PyData → Option (List PyData)
  | .dict kvs => if keyed kvs = true then some (kvs.map (·.2)) else none
  | _ => none
def itemsK : PyData → Option (List PyData)
  | .dict kvs => if keyed kvs = true then some (kvs.map fun p => .tuple [p.1, p.2]) else none
  | _ => none
/-! ### {k: v, ..} -/
def flatA : List (SE × SE) → SA
  | [] => aNil
  | (k, v) :: r => aCons k (aCons v (flatA r))
def pairsD : List PyData → Option (List (Key × PyData))
  | [] => some []
  | k :: v :: r => (keyOf k).bind fun q => (pairsD r).map fun m => (q, v) :: m
  | _ => none
def mergeD : List (PyData × PyData) → List (Key × PyData) → List (PyData × PyData)
  | acc, [] => acc
  | acc, (q, d) :: r => mergeD (dput acc q d) r
def dicE (prs : List (SE × SE)) : SE := fun ρ => (flatA prs ρ).bind fun p => match shrs p.2 p.1 with
  | some (ds, ρ') => (match pairsD ds with
    | some m => if m.length ≤ 15 then .ok (.fr (.dict (mergeD [] m)), ρ') else .bad
    | none => .bad)
  | none => .bad
section
variable {g : Gc} {K : PySem.W.Frag} {A0 : Ax}
theorem acons_split {f : SE} {fs : SA} {σ : St} {H : Hp} {Q : List V → Hp → Prop} (h : tA g (aCons f fs) σ H Q) : (tE g f) σ H fun v H1 => (tA g fs) σ H1 fun vs H2 => Q (v :: vs) H2 := by
  obtain ⟨S, ρ, rp, h⟩ := h
  refine tE_bind (P := fun z => PostA g S H σ ρ z Q) exA PostA.bad rp h fun p S1 H1 v1 t1 r1 e1 h => ?_
  obtain ⟨S1', t1', r1', e1', _⟩ := settle_ok t1 r1 e1
  refine tA_bind (P := fun z => PostA g S1' H1 σ p.2 z Q) exA PostA.bad r1' (h.from t1') fun q S2 H2 vs t2 r2 e2 h => ?_
  exact h S2 H2 (v1 :: vs) t2 r2 (.cons (e1'.ex (r1'.ex t2)) e2)
theorem tE_mono {f : SE} {σ : St} {H : Hp} {Q Q' : VK} (w : ∀ v H, Q v H → Q' v H) (h : tE g f σ H Q) : tE g f σ H Q' := by
  obtain ⟨S, ρ, r, h⟩ := h
  refine ⟨S, ρ, r, ?_⟩
  cases e : f ρ with
  | ok p => rw [e] at h; exact fun S' H' v t r' q => w _ _ (h S' H' v t r' q)
  | ex n ρ' => rw [e] at h; exact h
  | bad => rw [e] at h; exact h
theorem Rp.updNew {S : Addr → Prop} {H : Hp} {σ : St} {ρ : List B} (r : Rp K A0 S H σ ρ) {a : Addr} {o' : HO} (x : Ex S H S (upd H a o')) (hs : ¬ S a) (ho : ¬ Ow σ ρ a) (tb' : LamX.Tabs A0.g.T (upd H a o')) : Rp K A0 S (upd H a o') σ ρ := by
  have keep : ∀ k c, OwI σ ρ k c → ∀ u, H c = some u → (upd H a o') c = some u := fun k c h u hc => by
    have hne : c ≠ a := fun z => ho ⟨k, by rw [← z]; exact h⟩
    rw [upd_ne hne]; exact hc
  have some_ : ∀ c, (∃ u, H c = some u) → ∃ u, (upd H a o') c = some u := fun c ⟨u, hc⟩ => by
    by_cases z : c = a
    · subst z; exact ⟨o', upd_same⟩
    · exact ⟨u, by rw [upd_ne z]; exact hc⟩
  refine ⟨r.len, fun k b hb => ?_, r.dis, fun c h => some_ c (r.al c h), r.np, fun j c h => some_ c (r.aa j c h), tb'⟩
  have q := r.bd k b hb
  cases b with
  | un => trivial
  | exc _ => exact bd_exc x q
  | val d => obtain ⟨v, e1, e2⟩ := q; exact ⟨v, e1, e2.ex x⟩
  | own d => obtain ⟨c, e1, e2, e3⟩ := q; exact ⟨c, e1, e2, e3.ex x (keep k c ⟨by rw [hb]; rfl, e1⟩)⟩
  | prm d => obtain ⟨c, e1, e0, e2, e3⟩ := q; exact ⟨c, e1, e0, e2, e3.ex x (keep k c ⟨by rw [hb]; rfl, e1⟩)⟩
  | ob c fs => exact bd_ob x q fun c e1 => ⟨e1, (r.own ⟨by rw [hb]; rfl, e1⟩).1, keep k c ⟨by rw [hb]; rfl, e1⟩⟩
end
section
variable {X : Cx} {A0 : Ax} {W : WX}
/-- {} -/
def dic0E : SE := fun ρ => .ok (.fr (.dict []), ρ)
theorem gdic0 {pos : Pos} : PE X (.Dict [] [] pos) (tE (gc X A0 W) dic0E) := by
  refine PE_imp pe_dnewK ?_
  rintro σ H Q ⟨S, ρ, r, h⟩ p hn
  have sm : L2.Same H (upd H p (.dK [])) := same_alloc hn
  refine h S _ _ (Tr.grow sm) (r.same sm) ⟨p, rfl, ⟨hn, fun j hj => ?_⟩, fun z => ?_, fun z => ?_, _, upd_same, .dK (kvs := []) (ds := []) .nil⟩
  · obtain ⟨o, e⟩ := r.aa j p hj
    rw [hn] at e; cases e
  · obtain ⟨o, e⟩ := r.al p z; rw [hn] at e; cases e
  · obtain ⟨o, e⟩ := r.alive z; rw [hn] at e; cases e
end
end G
/-! sorted: tuples of ints of one length, any number of them -/
namespace G
open PySem PySem.Spec PyProof.Rows L2
def lexL : List Int → List Int → Bool
  | [], [] => false
  | [], _ :: _ => true
  | _ :: _, [] => false
  | x :: xs, y :: ys => if x = y then lexL xs ys else decide (x < y)
/-! ### the one sorted list -/
def insL (x : List Int) : List (List Int) → List (List Int)
  | [] => [x]
  | y :: r => if lexL y x = true then y :: insL x r else x :: y :: r
def srt : List (List Int) → List (List Int)
  | [] => []
  | x :: r => insL x (srt r)
/-! ### the rule -/
/-! ### by data -/
def intsD : List PyData → Option (List Int)
  | [] => some []
  | .int i :: r => (intsD r).map (i :: ·)
  | _ => none
theorem intsD_ok {K : PySem.W.Frag} {S : Addr → Prop} {H : Hp} : ∀ {vs : List V} {ds : List PyData} {ns : List Int}, DrAll K S H vs ds → intsD ds = some ns → vs = ns.map V.int
  | [], _, ns, h, e => by cases h; cases e; rfl
  | v :: vs, _, ns, .cons (d := d) (ds := ds) h1 h2, e => by
    cases d with
    | int i =>
      unfold intsD at e
      cases e1 : intsD ds with
      | none => rw [e1] at e; cases e
      | some ms =>
        rw [e1] at e
        cases e
        rw [intsD_ok h2 e1, List.map_cons, (show Dw K S H v (.int i) from .inl h1).int]
    | _ => cases e
end G
namespace G
open PySem PySem.Spec PyProof.Rows L2
/-! ### enumerate(list), enumerate(tuple) -/
def enD (ds : List PyData) : List PyData := ds.zipIdx.map fun p => .tuple [.int p.2, p.1]
def enumK : PyData → Option (List PyData)
  | .list ds => some (enD ds)
  | .tuple ds => some (enD ds)
  | _ => none
end G
/-! pop, extend, int, str, sum, list(d), list(d.items()) -/
namespace G
open PySem PySem.Spec PyProof.Rows L2
def mtPop (d : PyData) (ys : List PyData) : Option (PyData × PyData) := match d, ys with
  | .list ds, [] => (ds.getLast?).map fun y => (.list ds.dropLast, y)
  | _, _ => none
def mtPopA (d : PyData) (ys : List PyData) : Option (PyData × PyData) := match d, ys with
  | .list (y :: r), [.int 0] => some (.list r, y)
  | _, _ => none
section
variable {X : Cx} {A0 : Ax} {W : WX} {e : Expr} {es : List Expr} {fa : SA} {apos cpos pos : Pos}
theorem gpop (i : Nat) {x : Str} {p : Pos} (hN : X.N[i]? = some x := by rfl) (hv : Vis X.env.scope x := by first | exact Or.inl rfl | exact Or.inr (Or.inl rfl) | exact Or.inr (Or.inr rfl))
    (hd : (x == ("__debug__" : Str)) = false := by decide) (hcd : (x == ("__classdict__" : Str)) = false := by decide) (hbase : attributeBase (.Name x p) "pop" X.env (eval (.Name x p) X.env) = eval (.Name x p) X.env := by rfl)
    (hline : (apos.endLine == cpos.line) = true := by rfl) :
    PE X (.Call (.Attribute (.Name x p) "pop" apos) [] [] cpos) (tE (gc X A0 W) (mutE i mtPop aNil)) := by
  refine PE_imp (pe_bm0 PySem.F.plainAttrs_list PySem.F.slot_list_pop PySem.F.type_list_pop mt_pop (pe_var hN hv hd hcd) hbase hline) ?_
  intro σ H Q h
  obtain ⟨S, ρ, a, xs, r, h, ea, hx⟩ := mut_slot h
  refine ⟨.ref a, ea, .inl ⟨rfl, xs, .inl (.inl hx)⟩, ?_⟩
  have key : tA (gc X A0 W) aNil σ H (fun vs H1 => vs = [] → rPop (.ref a) [] H1 Q) := mut_bind r h fun S1 H1 vs ys d d' v a2 o x dy hm ea2 ho c hs q hv => by
    subst hv
    rw [ea] at ea2; cases ea2
    cases dy
    cases d with
    | list ds =>
      cases c with
      | lst cc =>
        rename_i zs
        simp only [mtPop] at hm
        cases hg : ds.getLast? with
        | none => rw [hg] at hm; cases hm
        | some y =>
          rw [hg] at hm
          cases hm
          rw [List.getLast?_eq_getElem?] at hg
          obtain ⟨u, hu, du⟩ := cc.get hg
          refine ⟨a, zs, u, rfl, rfl, ho, by rw [cc.length]; exact hu, ?_⟩
          have x2 : Ex S1 H1 S1 (upd H1 a (.lst zs.dropLast)) := Ex.upd hs ho (.lst cc)
          refine q _ u (.lst ?_) (du.ex x2)
          rw [List.dropLast_eq_take, List.dropLast_eq_take, cc.length]
          have := (cc.ex x2).take (ds.length - 1)
          rwa [List.dropLast_eq_take, cc.length] at this
    | _ => simp only [mtPop, reduceCtorEq] at hm
  obtain ⟨S', ρ', r', h'⟩ := key
  exact h' S' H [] Tr.refl r' .nil rfl
end
/-! ### xs.extend([..]) of a new list -/
def extG (i : Nat) (ρ : List B) : Ev → Rs (Ev × List B)
  | .fr (.list es) => (match (ρ[i]?) with
    | some b => (match ownD b with
      | some (.list ds) => if ds.length + es.length ≤ 1000000 then .ok (.val .none, ρ.set i (reD b (.list (ds ++ es)))) else .bad
      | _ => .bad)
    | none => .bad)
  | _ => .bad
def extE1 (i : Nat) (fe : SE) : SE := fun ρ => (fe ρ).bind fun p => extG i p.2 p.1
def extE (i : Nat) (fe : SE) : SE := fun ρ => match (ρ[i]?).bind ownD with
  | some d => if isLst d = true then extE1 i fe ρ else .bad
  | none => .bad
section
variable {X : Cx} {A0 : Ax} {W : WX} {e : Expr} {fe : SE} {apos cpos pos : Pos}
theorem gextend (i : Nat) {x : Str} {p : Pos} (he : PE X e (tE (gc X A0 W) fe)) (hN : X.N[i]? = some x := by rfl) (hv : Vis X.env.scope x := by first | exact Or.inl rfl | exact Or.inr (Or.inl rfl) | exact Or.inr (Or.inr rfl))
    (hd : (x == ("__debug__" : Str)) = false := by decide) (hcd : (x == ("__classdict__" : Str)) = false := by decide) (hbase : attributeBase (.Name x p) "extend" X.env (eval (.Name x p) X.env) = eval (.Name x p) X.env := by rfl)
    (hfew : ((backTo cpos (starEach [e] X.env)).all (fun x => !x.1) && (backToKw cpos (keywordEach [] X.env)).all (fun x => x.1.isSome)
      && decide ([e].length + ([] : List Keyword).length + (if ([] : List Keyword).isEmpty then 0 else 1) < 30)) = true := by rfl)
    (hline : (apos.endLine == cpos.line) = true := by rfl) (hs : starEach [e] X.env = (false, eval e X.env) :: starEach [] X.env := by rfl) (hplain : (backTo cpos (starEach [] X.env)).any (·.1) = false := by rfl) :
    PE X (.Call (.Attribute (.Name x p) "extend" apos) [e] [] cpos) (tE (gc X A0 W) (extE i fe)) := by
  refine PE_imp (pe_bm PySem.F.plainAttrs_list PySem.F.slot_list_extend PySem.F.type_list_extend mt_extend (pe_var hN hv hd hcd) (pa_cons he pa_nil hs) hbase hfew hline hs hplain) ?_
  rintro σ H Q ⟨S, ρ, r, h⟩
  unfold extE at h
  cases e0 : ρ[i]? with
  | none => rw [e0] at h; exact h.elim
  | some b0 =>
    rw [e0, Option.bind_some] at h
    cases eo0 : ownD b0 with
    | none => rw [eo0] at h; exact h.elim
    | some d0 =>
      rw [eo0] at h
      simp only at h
      split at h
      · rename_i hl0
        obtain ⟨a, o0, ea, _, hs0, ho0, c0⟩ := own_slot r e0 eo0
        have hty : tyV X.K "list" (.ref a) H := by
          cases d0 with
          | list ds0 =>
            generalize hD : PyData.list ds0 = D at c0
            cases c0 with
            | lst _ => exact .inl ⟨rfl, _, .inl (.inl ho0)⟩
            | dK _ => cases hD
            | dX _ _ _ => cases hD
          | _ => cases hl0
        refine ⟨.ref a, ea, hty, ?_⟩
        refine tE_bind (P := fun z => PostE (gc X A0 W) S H σ ρ z Q) exE PostE.bad r h fun p S1 H1 v1 t1 r1 e1 h => ?_
        obtain ⟨ev, ρ1⟩ := p
        dsimp only at h r1 e1 t1
        unfold extG at h
        cases ev with
        | val d => exact h.elim
        | sl j => exact h.elim
        | fr d =>
          cases d with
          | list es =>
            simp only at h
            cases eb : ρ1[i]? with
            | none => rw [eb] at h; exact h.elim
            | some b =>
              rw [eb] at h
              simp only at h
              cases eo : ownD b with
              | none => rw [eo] at h; exact h.elim
              | some d =>
                rw [eo] at h
                cases d with
                | list ds =>
                  simp only at h
                  split at h
                  · rename_i hz
                    obtain ⟨a2, o, ea2, hi2, hs2, ho, c⟩ := own_slot r1 eb eo
                    rw [ea] at ea2; cases ea2
                    obtain ⟨b2, rfl, hb0, nS, nO, o2, hb, cb⟩ := e1
                    generalize hD : PyData.list ds = D at c
                    cases c with
                    | dK _ => cases hD
                    | dX _ _ _ => cases hD
                    | lst cc =>
                      cases hD
                      generalize hD : PyData.list es = D at cb
                      cases cb with
                      | dK _ => cases hD
                      | dX _ _ _ => cases hD
                      | lst cb =>
                        cases hD
                        rename_i xs zs
                        have x2 : Ex S1 H1 S1 (upd H1 a (.lst (xs ++ zs))) := Ex.upd hs2 ho (.lst cc)
                        obtain ⟨r4, t4⟩ := r1.updOwn (o' := .lst (xs ++ zs)) (d' := .list (ds ++ es)) eb eo ea hs2 ho (.lst cc) (.lst ((cc.ex x2).append (cb.ex x2)))
                        refine ⟨a, b2, xs, zs, rfl, rfl, ho, hb, ?_, h S1 _ _ (t1.trans t4) r4 .non⟩
                        rw [cc.length, cb.length]
                        exact Nat.le_trans hz (by decide)
                  · exact h.elim
                | _ => exact h.elim
          | _ => exact h.elim
      · exact h.elim
end
/-! ### int, str, sum -/
def toIntD : List PyData → Option Ev
  | [.int i] => some (.val (.int i))
  | [.bool b] => some (.val (.int (if b = true then 1 else 0)))
  | _ => none
def toStrD : List PyData → Option Ev
  | [.int i] => if i.natAbs.log2 < 1920 then some (.val (.str (toString i))) else none
  | _ => none
def sumD : List PyData → Option Ev
  | [.list ds] => (intsD ds).map fun ns => .val (.int ns.sum)
  | _ => none
theorem sumD_ok {K : PySem.W.Frag} : CallD K (rSum K) sumD := by
  intro S H xs ds ev Q h he out
  match ds, he with
  | [.list ds], he =>
    simp only [sumD] at he
    cases e1 : intsD ds with
    | none => rw [e1] at he; cases he
    | some ns =>
      rw [e1] at he; cases he
      obtain ⟨v, rfl, hv⟩ := dw1 h
      obtain ⟨a, ys, rfl, q, rr⟩ := hv.lst
      obtain rfl := intsD_ok rr e1
      exact ⟨a, ns, rfl, q.sq, outInt out⟩
section
variable {X : Cx} {A0 : Ax} {W : WX} {e : Expr} {es : List Expr} {fs : SA} {p pos : Pos}
theorem g_sum (hc : X.calm = true) (hm : X.mg "sum" = none) (ha : PA X (e :: es) (tA (gc X A0 W) fs)) (hg : Gl X "sum" := by rfl)
    (he : starEach (e :: es) X.env = (false, eval e X.env) :: starEach es X.env := by rfl) (hpl : (backTo pos (starEach es X.env)).any (·.1) = false := by rfl) : PE X (.Call (.Name "sum" p) (e :: es) [] pos) (tE (gc X A0 W) (opN sumD fs)) :=
  gcall (cr_sum hc) sumD_ok hm (by decide +kernel) ha hg (by decide) (by decide) he hpl
end
end G
namespace G
open PySem PySem.Spec PyProof.Rows L2
/-! ### list(x.items()) of a slot's own dict -/
def itemsJ (ρ : List B) : Option PyData → Rs (Ev × List B)
  | some (.dict kvs) => if keyed kvs = true then .ok (.fr (.list (kvs.map fun p => .tuple [p.1, p.2])), ρ) else .bad
  | _ => .bad
def itemsE (i : Nat) : SE := fun ρ => itemsJ ρ ((ρ[i]?).bind ownD)
end G
namespace G
open PySem PySem.Spec PyProof.Rows L2
/-! ### xs[k] as one of several targets -/
def subH (i : Nat) (y : PyData) (p : Ev × List B) : Rs (List B) := match peek p.2 p.1 with
  | some k => (match p.2[i]? with
    | some b => (match ownD b with
      | some d => (match setD d k y with
        | some d' => .ok (p.2.set i (reD b d'))
        | none => .bad)
      | none => .bad)
    | none => .bad)
  | none => .bad
def subG (i : Nat) (fk : SE) : SG := fun y ρ => match (ρ[i]?).bind ownD with
  | some _ => (fk ρ).bind (subH i y)
  | none => .bad
end G
/-! sorted(set(xs)), xs a list of ints -/
namespace G
open PySem PySem.Spec PyProof.Rows L2
/-! ### the data: ints in order, each once -/
/-! ### set(xs) -/
end G
/-! sorted(set(xs)): tuples of ints of one length, fewer than 64 -/
namespace G
open PySem PySem.Spec PyProof.Rows L2
/-! ### the data: no row twice -/
end G
/-! xs[::-1] of a list or a tuple -/
namespace G
open PySem PySem.Spec PyProof.Rows L2
section
variable {X : Cx}
def revD : PyData → Option Ev
  | .list ds => some (.fr (.list ds.reverse))
  | .tuple ds => some (.val (.tuple ds.reverse))
  | _ => none
end
end G
/-! ### a mirror run by simp -/
namespace G
open PySem PySem.Spec PyProof.Rows L2
section
variable {α β : Type} {a : α} {f : α → Rs β} {p : Prop} [Decidable p] {x y : Rs α} {n : Str} {ρ ρ' : List B} {f1 f2 : SS} {fe fa fb fc fk : SE} {fs : SA} {c ca cb : SB} {e e1 e2 : Ev} {es : List Ev} {d d1 d2 d3 : PyData} {ds : List PyData} {i j l m : Nat} {b b0 b1 b2 b3 b4 b5 b6 b7 : B} {bo : Bool} {fl : Fl} {r : Rs Fl} {it : SI} {t : SG}
theorem rb_ok : Rs.bind (.ok a) f = f a := id rfl
theorem rb_ex : Rs.bind (.ex n ρ) f = .ex n ρ := id rfl
theorem rb_bad : Rs.bind .bad f = .bad := id rfl
theorem rb_ite : Rs.bind (if p then x else y) f = if p then Rs.bind x f else Rs.bind y f := by split <;> rfl
theorem lz : (a :: (l' : List α))[0]? = some a := id rfl
theorem ls {l' : List α} : (a :: l')[i + 1]? = l'[i]? := id rfl
theorem sz {a' : α} {l' : List α} : (a :: l').set 0 a' = a' :: l' := id rfl
theorem ss {a' : α} {l' : List α} : (a :: l').set (i + 1) a' = a :: l'.set i a' := id rfl
/-- statements -/
def seqK (f2 : SS) : Fl → Rs Fl
  | .nx ρ => f2 ρ
  | r => .ok r
theorem r_seq : seqS f1 f2 ρ = Rs.bind (f1 ρ) (seqK f2) := by unfold seqS; congr 1
theorem k_seq1 : seqK f2 (.nx ρ) = f2 ρ := id rfl
theorem k_seq2 : seqK f2 (.rt e ρ) = .ok (.rt e ρ) := id rfl
theorem k_seq3 : seqK f2 (.bk ρ) = .ok (.bk ρ) := id rfl
theorem k_seq4 : seqK f2 (.ct ρ) = .ok (.ct ρ) := id rfl
theorem r_nx : nxS ρ = .ok (.nx ρ) := id rfl
theorem r_bk : bkS ρ = .ok (.bk ρ) := id rfl
theorem r_ct : ctS ρ = .ok (.ct ρ) := id rfl
theorem r_retN : retNS ρ = .ok (.rt (.val .none) ρ) := id rfl
def retK : Ev × List B → Rs Fl := fun p => .ok (.rt p.1 p.2)
theorem r_ret : retS fe ρ = Rs.bind (fe ρ) retK := id rfl
theorem k_ret : retK (e, ρ) = .ok (.rt e ρ) := id rfl
def dropK : Ev × List B → Rs Fl := fun p => .ok (.nx p.2)
theorem r_drop : dropS fe ρ = Rs.bind (fe ρ) dropK := id rfl
theorem k_drop : dropK (e, ρ) = .ok (.nx ρ) := id rfl
def ifK {γ : Type} (f1 f2 : List B → Rs γ) : Bool × List B → Rs γ := fun p => if p.1 = true then f1 p.2 else f2 p.2
theorem r_if : ifS c f1 f2 ρ = Rs.bind (c ρ) (ifK f1 f2) := id rfl
theorem r_ife : ifE c fa fb ρ = Rs.bind (c ρ) (ifK fa fb) := id rfl
theorem k_if {γ : Type} {f1 f2 : List B → Rs γ} : ifK f1 f2 (bo, ρ) = if bo = true then f1 ρ else f2 ρ := id rfl
def asgK (i : Nat) : Ev × List B → Rs Fl := fun p => Rs.bind (bindV i p.1 p.2) fun ρ' => .ok (.nx ρ')
theorem r_asg : asgS i fe ρ = Rs.bind (fe ρ) (asgK i) := id rfl
theorem k_asg1 : asgK i (.val d, ρ) = .ok (.nx (ρ.set i (.val d))) := id rfl
theorem k_asg2 : asgK i (.fr d, ρ) = .ok (.nx (ρ.set i (.own d))) := id rfl
def slK (i j : Nat) (ρ : List B) : Option B → Rs Fl
  | some (.own d) => .ok (.nx ((ρ.set j (.val d)).set i (.val d)))
  | some (.val d) => .ok (.nx (ρ.set i (.val d)))
  | _ => .bad
theorem k_asg3 : asgK i (.sl j, ρ) = slK i j ρ ρ[j]? := by
  unfold asgK bindV slK shr
  dsimp only
  cases ρ[j]? with
  | none => rfl
  | some b => cases b <;> rfl
theorem k_sl1 : slK i j ρ (some (.own d)) = .ok (.nx ((ρ.set j (.val d)).set i (.val d))) := id rfl
theorem k_sl2 : slK i j ρ (some (.val d)) = .ok (.nx (ρ.set i (.val d))) := id rfl
/-- what an expression's value is when it is shared -/
def shK {γ : Type} (k : PyData → List B → Rs γ) (ρ : List B) (e : Ev) : Rs γ := match shr ρ (settle e) with
  | some (d, ρ1) => k d ρ1
  | none => .bad
def shJ {γ : Type} (k : PyData → List B → Rs γ) (ρ : List B) (j : Nat) : Option B → Rs γ
  | some (.own d) => k d (ρ.set j (.val d))
  | some (.val d) => k d ρ
  | _ => .bad
theorem k_sh1 {γ : Type} {k : PyData → List B → Rs γ} : shK k ρ (.val d) = k d ρ := id rfl
theorem k_sh2 {γ : Type} {k : PyData → List B → Rs γ} : shK k ρ (.fr d) = k d ρ := id rfl
theorem k_sh3 {γ : Type} {k : PyData → List B → Rs γ} : shK k ρ (.sl j) = shJ k ρ j ρ[j]? := by
  unfold shK settle shr shJ
  dsimp only
  cases ρ[j]? with
  | none => rfl
  | some b => cases b <;> rfl
theorem k_sh4 {γ : Type} {k : PyData → List B → Rs γ} : shJ k ρ j (some (.own d)) = k d (ρ.set j (.val d)) := id rfl
theorem k_sh5 {γ : Type} {k : PyData → List B → Rs γ} : shJ k ρ j (some (.val d)) = k d ρ := id rfl
def asgGK (t : SG) (p : Ev × List B) : Rs Fl := shK (fun d ρ1 => match t d ρ1 with
    | .ok ρ' => .ok (.nx ρ')
    | _ => .bad) p.2 p.1
theorem r_asgG : asgG t fe ρ = Rs.bind (fe ρ) (asgGK t) := id rfl
def tgK : Rs (List B) → Rs Fl
  | .ok ρ' => .ok (.nx ρ')
  | _ => .bad
def asgGL (t : SG) (d : PyData) (ρ1 : List B) : Rs Fl := tgK (t d ρ1)
theorem k_asgG : asgGK t (e, ρ) = shK (asgGL t) ρ e := by
  unfold asgGK
  rfl
theorem k_asgL : asgGL t d ρ = tgK (t d ρ) := id rfl
theorem k_tg : tgK (.ok ρ) = .ok (.nx ρ) := id rfl
theorem r_nm : nmG i d ρ = .ok (ρ.set i (.val d)) := id rfl
theorem r_tup {u : List PyData → List B → Rs (List B)} : tupG 2 u (.tuple [d1, d2]) ρ = u [d1, d2] ρ := id rfl
theorem r_tup1 {u : List PyData → List B → Rs (List B)} : tupG 1 u (.tuple [d1]) ρ = u [d1] ρ := id rfl
theorem r_tup3 {u : List PyData → List B → Rs (List B)} : tupG 3 u (.tuple [d1, d2, d3]) ρ = u [d1, d2, d3] ρ := id rfl
theorem r_tup4 {u : List PyData → List B → Rs (List B)} {d4 : PyData} : tupG 4 u (.tuple [d1, d2, d3, d4]) ρ = u [d1, d2, d3, d4] ρ := id rfl
theorem r_nil : nilG [] ρ = .ok ρ := id rfl
theorem r_cons {u : List PyData → List B → Rs (List B)} : consG t u (d :: ds) ρ = Rs.bind (t d ρ) (u ds) := by
  unfold consG
  rfl
/-- expressions -/
def vK (i : Nat) (ρ : List B) : Option B → Rs (Ev × List B)
  | some (.val d) => .ok (.val d, ρ)
  | some (.own _) => .ok (.sl i, ρ)
  | some (.prm _) => .ok (.sl i, ρ)
  | some (.exc _) => .ok (.sl i, ρ)
  | _ => .bad
theorem r_V : fV i ρ = vK i ρ ρ[i]? := by
  unfold fV vK
  cases ρ[i]? with
  | none => rfl
  | some b => cases b <;> rfl
theorem k_V1 : vK i ρ (some (.val d)) = .ok (.val d, ρ) := id rfl
theorem k_V2 : vK i ρ (some (.own d)) = .ok (.sl i, ρ) := id rfl
theorem k_V4 {n : Xn} : vK i ρ (some (.exc n)) = .ok (.sl i, ρ) := id rfl
theorem k_V3 : vK i ρ (some (.prm d)) = .ok (.sl i, ρ) := id rfl
theorem r_C : fC d ρ = .ok (.val d, ρ) := id rfl
theorem p_val : peek ρ (.val d) = some d := id rfl
theorem p_fr : peek ρ (.fr d) = some d := id rfl
theorem p_sl : peek ρ (.sl i) = Option.bind ρ[i]? peekB := id rfl
theorem pb_1 : peekB (B.val d) = some d := id rfl
theorem pb_2 : peekB (B.own d) = some d := id rfl
theorem pb_3 : peekB (B.prm d) = some d := id rfl
theorem od_1 : ownD (B.own d) = some d := id rfl
theorem od_2 : ownD (B.prm d) = some d := id rfl
theorem p_1 : Option.bind (some (B.val d)) peekB = some d := id rfl
theorem p_2 : Option.bind (some (B.own d)) peekB = some d := id rfl
theorem p_3 : Option.bind (some (B.prm d)) peekB = some d := id rfl
theorem q_1 : Option.bind (some (B.val d)) ownD = none := id rfl
theorem q_2 : Option.bind (some (B.own d)) ownD = some d := id rfl
theorem q_3 : Option.bind (some (B.prm d)) ownD = some d := id rfl
theorem re_1 : resE ρ (some (.val d)) = .ok (.val d, ρ) := id rfl
theorem re_2 : resE ρ (some (.fr d)) = .ok (.fr d, ρ) := id rfl
theorem re_ite {u v : Option Ev} : resE ρ (if p then u else v) = if p then resE ρ u else resE ρ v := by split <;> rfl
theorem st_1 : G.settle (.val d) = .val d := id rfl
theorem st_2 : G.settle (.fr d) = .val d := id rfl
theorem st_3 : G.settle (.sl i) = .sl i := id rfl
def o2K2 (bd : PyData → PyData → Option Ev) (e : Ev) (q : Ev × List B) : Rs (Ev × List B) := resE q.2 ((peek q.2 e).bind fun d1 => (peek q.2 q.1).bind fun d2 => bd d1 d2)
def o2K (bd : PyData → PyData → Option Ev) (fb : SE) (p : Ev × List B) : Rs (Ev × List B) := Rs.bind (fb p.2) (o2K2 bd p.1)
def o2L2 (bd : PyData → PyData → Option Ev) : Option PyData → Option PyData → Option Ev
  | some d1, some d2 => bd d1 d2
  | _, _ => none
theorem r_op2 {bd : PyData → PyData → Option Ev} : op2 bd fa fb ρ = Rs.bind (fa ρ) (o2K bd fb) := id rfl
theorem k_op2a {bd : PyData → PyData → Option Ev} : o2K bd fb (e, ρ) = Rs.bind (fb ρ) (o2K2 bd e) := id rfl
theorem k_op2b {bd : PyData → PyData → Option Ev} : o2K2 bd e (e1, ρ) = resE ρ (o2L2 bd (peek ρ e) (peek ρ e1)) := by
  unfold o2K2 o2L2
  dsimp only
  cases peek ρ e with
  | none => cases peek ρ e1 <;> rfl
  | some d => cases peek ρ e1 <;> rfl
theorem k_op2c {bd : PyData → PyData → Option Ev} : o2L2 bd (some d1) (some d2) = bd d1 d2 := id rfl
def o1K (bd : PyData → Option Ev) (p : Ev × List B) : Rs (Ev × List B) := resE p.2 ((peek p.2 p.1).bind bd)
theorem r_op1 {bd : PyData → Option Ev} : op1 bd fa ρ = Rs.bind (fa ρ) (o1K bd) := id rfl
theorem k_op1 {bd : PyData → Option Ev} : o1K bd (e, ρ) = resE ρ ((peek ρ e).bind bd) := id rfl
theorem ob_some {u : α → Option β} : Option.bind (some a) u = u a := id rfl
def oNK (bd : List PyData → Option Ev) (p : List Ev × List B) : Rs (Ev × List B) := resE p.2 ((peeks p.2 p.1).bind bd)
theorem r_said {ns : List Str} {HS : SS} : saidE ns HS fe ρ = saidK ns HS (fe ρ) := id rfl
theorem k_said1 {ns : List Str} {HS : SS} : saidK ns HS (.ok (e, ρ)) = resE ρ ((peek ρ e).bind fun d => reprD [d]) := id rfl
theorem r_opN {bd : List PyData → Option Ev} : opN bd fs ρ = Rs.bind (fs ρ) (oNK bd) := id rfl
theorem k_opN {bd : List PyData → Option Ev} : oNK bd (es, ρ) = resE ρ ((peeks ρ es).bind bd) := id rfl
theorem r_pk0 : peeks ρ [] = some [] := id rfl
def pkK : Option PyData → Option (List PyData) → Option (List PyData)
  | some d, some ds => some (d :: ds)
  | _, _ => none
theorem r_pk1 : peeks ρ (e :: es) = pkK (peek ρ e) (peeks ρ es) := by
  show ((peek ρ e).bind fun d => (peeks ρ es).map (d :: ·)) = _
  cases peek ρ e with
  | none => rfl
  | some d => cases peeks ρ es <;> rfl
theorem k_pk : pkK (some d) (some ds) = some (d :: ds) := id rfl
theorem r_anil : aNil ρ = .ok ([], ρ) := id rfl
def aK (fs : SA) (p : Ev × List B) : Rs (List Ev × List B) := Rs.bind (fs p.2) fun q => .ok (G.settle p.1 :: q.1, q.2)
def aK2 (e : Ev) (q : List Ev × List B) : Rs (List Ev × List B) := .ok (G.settle e :: q.1, q.2)
theorem r_acons : aCons fe fs ρ = Rs.bind (fe ρ) (aK fs) := id rfl
theorem k_acons : aK fs (e, ρ) = Rs.bind (fs ρ) (aK2 e) := id rfl
theorem k_acons2 : aK2 e (es, ρ) = .ok (G.settle e :: es, ρ) := id rfl
theorem shs_v0 : shrs ρ [] = some ([], ρ) := id rfl
theorem shs_v1 : shrs ρ (.val d :: es) = (shrs ρ es).map fun q => (d :: q.1, q.2) := id rfl
def shS (ρ : List B) (j : Nat) (es : List Ev) : Option B → Option (List PyData × List B)
  | some (.own d) => (shrs (ρ.set j (.val d)) es).map fun q => (d :: q.1, q.2)
  | some (.val d) => (shrs ρ es).map fun q => (d :: q.1, q.2)
  | _ => none
theorem shs_v2 : shrs ρ (.sl j :: es) = shS ρ j es ρ[j]? := by
  show ((shr ρ (.sl j)).bind fun p => (shrs p.2 es).map fun q => (p.1 :: q.1, q.2)) = _
  unfold shr shS
  dsimp only
  cases ρ[j]? with
  | none => rfl
  | some b => cases b <;> rfl
theorem shs_v3 : shS ρ j es (some (.own d)) = (shrs (ρ.set j (.val d)) es).map fun q => (d :: q.1, q.2) := id rfl
theorem shs_v4 : shS ρ j es (some (.val d)) = (shrs ρ es).map fun q => (d :: q.1, q.2) := id rfl
theorem om_some {γ : Type} {u : α → γ} : Option.map u (some a) = some (u a) := id rfl
def dK1 (mk : List PyData → Ev) : Option (List PyData × List B) → Rs (Ev × List B)
  | some (ds, ρ') => if ds.length ≤ sizeLine then resE ρ' (some (mk ds)) else .bad
  | none => .bad
theorem r_disp {mk : List PyData → Ev} : dispE mk fs ρ = Rs.bind (fs ρ) fun p => dK1 mk (shrs p.2 p.1) := by
  unfold dispE dK1
  congr 1
def dtK (p : List Ev × List B) : Rs (Ev × List B) := dK1 (fun ds => .val (.tuple ds)) (shrs p.2 p.1)
def dlK (p : List Ev × List B) : Rs (Ev × List B) := dK1 (fun ds => .fr (.list ds)) (shrs p.2 p.1)
theorem r_tupT : tupE fs ρ = Rs.bind (fs ρ) dtK := r_disp
theorem r_lstT : lstE fs ρ = Rs.bind (fs ρ) dlK := r_disp
def smallLen {α : Type} : List α → Nat → Bool
  | [], _ => true
  | _ :: _, 0 => false
  | _ :: l, n + 1 => smallLen l n
theorem sl_nil {n : Nat} : smallLen ([] : List α) n = true := by cases n <;> rfl
theorem sl_cons {n : Nat} {l' : List α} : smallLen (a :: l') (n + 1) = smallLen l' n := id rfl
theorem smallLen_ok {l' : List α} : ∀ {n : Nat}, smallLen l' n = true → l'.length ≤ n := by
  induction l' with
  | nil => intro n _; simp
  | cons a l' ih =>
    intro n h
    cases n with
    | zero => cases h
    | succ n => simp only [List.length_cons]; have := ih (n := n) h; omega
theorem len_ok {l' : List α} (h : smallLen l' 100 = true) : l'.length ≤ sizeLine := Nat.le_trans (smallLen_ok h) (by decide)
theorem k_dt : dtK (es, ρ) = dK1 (fun ds => .val (.tuple ds)) (shrs ρ es) := id rfl
theorem k_dl : dlK (es, ρ) = dK1 (fun ds => .fr (.list ds)) (shrs ρ es) := id rfl
theorem k_d1 (h : ds.length ≤ sizeLine) : dK1 (fun ds => .val (.tuple ds)) (some (ds, ρ)) = .ok (.val (.tuple ds), ρ) := if_pos h
theorem k_d2 (h : ds.length ≤ sizeLine) : dK1 (fun ds => .fr (.list ds)) (some (ds, ρ)) = .ok (.fr (.list ds), ρ) := if_pos h
/-- tests -/
def fBK (p : Ev × List B) : Rs (Bool × List B) := match peek p.2 p.1 with
  | some (.bool k) => .ok (k, p.2)
  | _ => .bad
theorem r_fB : fB fe ρ = Rs.bind (fe ρ) fBK := id rfl
theorem k_fB : fBK (.val (.bool bo), ρ) = .ok (bo, ρ) := id rfl
theorem r_and : andB ca cb ρ = Rs.bind (ca ρ) (ifK cb fun ρ => .ok (false, ρ)) := id rfl
theorem r_or : orB ca cb ρ = Rs.bind (ca ρ) (ifK (fun ρ => .ok (true, ρ)) cb) := id rfl
theorem r_andV : andV fa fb ρ = Rs.bind (fB fa ρ) (ifK fb fun ρ => .ok (.val (.bool false), ρ)) := id rfl
theorem r_orV : orV fa fb ρ = Rs.bind (fB fa ρ) (ifK (fun ρ => .ok (.val (.bool true), ρ)) fb) := id rfl
def notK (p : Bool × List B) : Rs (Bool × List B) := .ok (!p.1, p.2)
def notVK (p : Bool × List B) : Rs (Ev × List B) := .ok (.val (.bool (!p.1)), p.2)
theorem r_not : notB ca ρ = Rs.bind (ca ρ) notK := id rfl
theorem r_notV : notV fa ρ = Rs.bind (fB fa ρ) notVK := id rfl
theorem k_not : notK (bo, ρ) = .ok (!bo, ρ) := id rfl
theorem k_notV : notVK (bo, ρ) = .ok (.val (.bool (!bo)), ρ) := id rfl
theorem r_yes : yesB ρ = .ok (true, ρ) := id rfl
/-- x op y op z -/
def chK3 (b2 : PyData → PyData → Option Ev) (e : Ev) (r : Ev × List B) : Rs (Ev × List B) := resE r.2 (o2L2 b2 (peek r.2 e) (peek r.2 r.1))
def chB (b2 : PyData → PyData → Option Ev) (fc : SE) (e : Ev) (ρ : List B) : Option Bool → Rs (Ev × List B)
  | some false => .ok (.val (.bool false), ρ)
  | some true => Rs.bind (fc ρ) (chK3 b2 e)
  | none => .bad
def chK2 (b1 b2 : PyData → PyData → Option Ev) (fc : SE) (e : Ev) (q : Ev × List B) : Rs (Ev × List B) := chB b2 fc q.1 q.2 (boolD (o2L2 b1 (peek q.2 e) (peek q.2 q.1)))
def chK (b1 b2 : PyData → PyData → Option Ev) (fb fc : SE) (p : Ev × List B) : Rs (Ev × List B) := Rs.bind (fb p.2) (chK2 b1 b2 fc p.1)
theorem o2L2_eq {bd : PyData → PyData → Option Ev} {u v : Option PyData} : (u.bind fun d1 => v.bind fun d2 => bd d1 d2) = o2L2 bd u v := by
  cases u with
  | none => cases v <;> rfl
  | some d => cases v <;> rfl
theorem r_ch {b1 b2 : PyData → PyData → Option Ev} : ch3 b1 b2 fa fb fc ρ = Rs.bind (fa ρ) (chK b1 b2 fb fc) := by
  unfold ch3 chK
  congr 1
  funext p
  congr 1
  funext q
  unfold chK2 chB
  rw [o2L2_eq]
  cases boolD (o2L2 b1 (peek q.2 p.1) (peek q.2 q.1)) with
  | none => rfl
  | some k =>
    cases k with
    | false => rfl
    | true =>
      simp only []
      congr 1
      funext r
      unfold chK3
      rw [o2L2_eq]
theorem k_ch1 {b1 b2 : PyData → PyData → Option Ev} : chK b1 b2 fb fc (e, ρ) = Rs.bind (fb ρ) (chK2 b1 b2 fc e) := id rfl
theorem k_ch2 {b1 b2 : PyData → PyData → Option Ev} : chK2 b1 b2 fc e (e1, ρ) = chB b2 fc e1 ρ (boolD (o2L2 b1 (peek ρ e) (peek ρ e1))) := id rfl
theorem k_ch3 {b2 : PyData → PyData → Option Ev} : chB b2 fc e ρ (some bo) = if bo = true then Rs.bind (fc ρ) (chK3 b2 e) else .ok (.val (.bool false), ρ) := by cases bo <;> rfl
theorem k_ch4 {b2 : PyData → PyData → Option Ev} : chK3 b2 e (e1, ρ) = resE ρ (o2L2 b2 (peek ρ e) (peek ρ e1)) := id rfl
theorem k_ch5 : boolD (some (.val (.bool bo))) = some bo := id rfl
/-- calls -/
def caK (ms : List Bool) (F : SE) (dbs : List B) (p : List Ev × List B) : Rs (Ev × List B) := match cv1 ms p.1 p.2 with
  | some (es, ρ1) => (match cv2 ρ1 es with
    | some (bs, ls) => callR F (bs ++ dbs) (ls ++ dbs.map fun _ => none) ρ1
    | none => .bad)
  | none => .bad
theorem r_call {ms : List Bool} {F : SE} {dbs : List B} : callF ms F dbs fs ρ = Rs.bind (fs ρ) (caK ms F dbs) := id rfl
theorem c1_nil : cv1 [] [] ρ = some ([], ρ) := id rfl
theorem c1_t {ms : List Bool} : cv1 (true :: ms) (e :: es) ρ = (cv1 ms es ρ).map fun q => (e :: q.1, q.2) := id rfl
theorem c1_f {ms : List Bool} : cv1 (false :: ms) (.val d :: es) ρ = (cv1 ms es ρ).map fun q => (.val d :: q.1, q.2) := id rfl
def c1S (ρ : List B) (j : Nat) (ms : List Bool) (es : List Ev) : Option B → Option (List Ev × List B)
  | some (.own d) => (cv1 ms es (ρ.set j (.val d))).map fun q => (.val d :: q.1, q.2)
  | some (.val d) => (cv1 ms es ρ).map fun q => (.val d :: q.1, q.2)
  | _ => none
theorem c1_s {ms : List Bool} : cv1 (false :: ms) (.sl j :: es) ρ = c1S ρ j ms es ρ[j]? := by
  show ((shr ρ (.sl j)).bind fun p => (cv1 ms es p.2).map fun q => (Ev.val p.1 :: q.1, q.2)) = _
  unfold shr c1S
  dsimp only
  cases ρ[j]? with
  | none => rfl
  | some b => cases b <;> rfl
theorem c1_s1 {ms : List Bool} : c1S ρ j ms es (some (.own d)) = (cv1 ms es (ρ.set j (.val d))).map fun q => (.val d :: q.1, q.2) := id rfl
theorem c1_s2 {ms : List Bool} : c1S ρ j ms es (some (.val d)) = (cv1 ms es ρ).map fun q => (.val d :: q.1, q.2) := id rfl
def cc1 (F : SE) (dbs : List B) : Option (List Ev × List B) → Rs (Ev × List B)
  | some (es, ρ1) => (match cv2 ρ1 es with
    | some (bs, ls) => callR F (bs ++ dbs) (ls ++ dbs.map fun _ => none) ρ1
    | none => .bad)
  | none => .bad
def cc2 (F : SE) (dbs : List B) (ρ1 : List B) : Option (List B × List (Option Nat)) → Rs (Ev × List B)
  | some (bs, ls) => callR F (bs ++ dbs) (ls ++ dbs.map fun _ => none) ρ1
  | none => .bad
theorem k_ca {ms : List Bool} {F : SE} {dbs : List B} : caK ms F dbs (es, ρ) = cc1 F dbs (cv1 ms es ρ) := id rfl
theorem k_c1 {F : SE} {dbs : List B} : cc1 F dbs (some (es, ρ)) = cc2 F dbs ρ (cv2 ρ es) := id rfl
theorem k_c2 {F : SE} {dbs bs : List B} {ls' : List (Option Nat)} : cc2 F dbs ρ (some (bs, ls')) = callR F (bs ++ dbs) (ls' ++ dbs.map fun _ => none) ρ := id rfl
theorem c2_nil : cv2 ρ [] = some ([], []) := id rfl
theorem c2_v : cv2 ρ (.val d :: es) = (cv2 ρ es).map fun q => (.val d :: q.1, none :: q.2) := id rfl
def c2S (ρ : List B) (j : Nat) (es : List Ev) : Option B → Option (List B × List (Option Nat))
  | some (.own d) => (cv2 ρ es).map fun q => (.prm d :: q.1, some j :: q.2)
  | some (.prm d) => (cv2 ρ es).map fun q => (.prm d :: q.1, some j :: q.2)
  | some (.exc n) => (cv2 ρ es).map fun q => (.exc n :: q.1, none :: q.2)
  | _ => none
theorem c2_s : cv2 ρ (.sl j :: es) = c2S ρ j es ρ[j]? := by
  show ((cvB ρ (.sl j)).bind fun b => (cv2 ρ es).map fun q => (b.1 :: q.1, b.2 :: q.2)) = _
  unfold cvB c2S
  dsimp only
  cases ρ[j]? with
  | none => rfl
  | some b => cases b <;> rfl
theorem c2_s1 : c2S ρ j es (some (.own d)) = (cv2 ρ es).map fun q => (.prm d :: q.1, some j :: q.2) := id rfl
theorem c2_s3 {n : Xn} : c2S ρ j es (some (.exc n)) = (cv2 ρ es).map fun q => (.exc n :: q.1, none :: q.2) := id rfl
theorem c2_s2 : c2S ρ j es (some (.prm d)) = (cv2 ρ es).map fun q => (.prm d :: q.1, some j :: q.2) := id rfl
def caW (ls : List (Option Nat)) (ρ : List B) : Rs (Ev × List B) → Rs (Ev × List B)
  | .ok (.val d, outs) => .ok (.val d, wb ls outs ρ)
  | .ok (.fr d, outs) => .ok (.fr d, wb ls outs ρ)
  | .ok (.sl _, _) => .bad
  | .ex n _ => .ex n (wbx ls ρ)
  | .bad => .bad
theorem k_call {F : SE} {bs : List B} {ls' : List (Option Nat)} : callR F bs ls' ρ = if dstL ls' = true then caW ls' ρ (F bs) else .bad := by
  unfold callR caW
  rfl
theorem k_w1 {ls' : List (Option Nat)} {outs : List B} : caW ls' ρ (.ok (.val d, outs)) = .ok (.val d, wb ls' outs ρ) := id rfl
theorem k_w2 {ls' : List (Option Nat)} {outs : List B} : caW ls' ρ (.ok (.fr d, outs)) = .ok (.fr d, wb ls' outs ρ) := id rfl
theorem k_w3 {ls' : List (Option Nat)} : caW ls' ρ (.ex n ρ') = .ex n (wbx ls' ρ) := id rfl
theorem k_wite {ls' : List (Option Nat)} {x y : Rs (Ev × List B)} : caW ls' ρ (if p then x else y) = if p then caW ls' ρ x else caW ls' ρ y := by split <;> rfl
theorem wb_nil {outs : List B} : wb [] outs ρ = ρ := by unfold wb; rfl
theorem wb_none {ls' : List (Option Nat)} {outs : List B} : wb (none :: ls') (b :: outs) ρ = wb ls' outs ρ := id rfl
def wbK (j : Nat) (ls : List (Option Nat)) (o : B) (outs : List B) (ρ : List B) : Option B → List B
  | some b => wb ls outs (ρ.set j (reB b o))
  | none => wb ls outs (ρ.set j .un)
theorem wb_some {ls' : List (Option Nat)} {outs : List B} : wb (some j :: ls') (b :: outs) ρ = wbK j ls' b outs ρ ρ[j]? := by
  unfold wbK
  show wb ls' outs _ = _
  cases ρ[j]? <;> rfl
theorem k_wb1 {ls' : List (Option Nat)} {outs : List B} {o : PyData} : wbK j ls' (.prm o) outs ρ (some (.own d)) = wb ls' outs (ρ.set j (.own o)) := id rfl
theorem k_wb2 {ls' : List (Option Nat)} {outs : List B} {o : PyData} : wbK j ls' (.prm o) outs ρ (some (.prm d)) = wb ls' outs (ρ.set j (.prm o)) := id rfl
theorem wbx_nil : wbx [] ρ = ρ := id rfl
theorem wbx_none {ls' : List (Option Nat)} : wbx (none :: ls') ρ = wbx ls' ρ := id rfl
theorem ap_nil {l' : List α} : l' ++ [] = l' := List.append_nil l'
theorem ap_nil2 {l' : List α} : [] ++ l' = l' := id rfl
theorem ap_cons {l' l2 : List α} : (a :: l') ++ l2 = a :: (l' ++ l2) := id rfl
theorem ma_nil {u : α → β} : List.map u [] = [] := id rfl
theorem ma_cons {u : α → β} {l' : List α} : List.map u (a :: l') = u a :: List.map u l' := id rfl
theorem ds_nil : dstL [] = true := id rfl
theorem ds_none {ls' : List (Option Nat)} : dstL (none :: ls') = dstL ls' := id rfl
theorem ds_some {ls' : List (Option Nat)} : dstL (some j :: ls') = (!memL j ls' && dstL ls') := id rfl
theorem me_nil : memL j [] = false := id rfl
theorem me_none {ls' : List (Option Nat)} : memL j (none :: ls') = memL j ls' := id rfl
theorem me_some {ls' : List (Option Nat)} : memL j (some i :: ls') = ((i == j) || memL j ls') := id rfl
/-- the end of a def -/
def outs : Nat → List B → List B := fun n ρ => (ρ.take n).map outB
theorem ou_0 : outs 0 ρ = [] := by unfold outs; rfl
theorem ou_s : outs (i + 1) (b :: ρ) = outB b :: outs i ρ := id rfl
theorem ob_val : outB (.val d) = .un := id rfl
theorem ob_own : outB (.own d) = .un := id rfl
theorem ob_un : outB .un = .un := id rfl
theorem ob_exc {n : Xn} : outB (.exc n) = .un := id rfl
theorem ob_prm : outB (.prm d) = .prm d := id rfl
def retSl (outs : List B) : Option B → Rs (Ev × List B)
  | some (.val d) => .ok (.val d, outs)
  | some (.own d) => .ok (.fr d, outs)
  | _ => .bad
def leL : Nat → List B → Bool
  | 0, _ => true
  | _ + 1, [] => false
  | n + 1, _ :: l => leL n l
theorem leL_ok : ∀ {n : Nat} {ρ : List B}, leL n ρ = true → n ≤ ρ.length
  | 0, _, _ => Nat.zero_le _
  | n + 1, [], h => by cases h
  | n + 1, b :: l, h => Nat.succ_le_succ (leL_ok (n := n) (ρ := l) h)
theorem leL_of : ∀ {n : Nat} {ρ : List B}, n ≤ ρ.length → leL n ρ = true
  | 0, _, _ => by unfold leL; rfl
  | n + 1, [], h => by cases h
  | n + 1, b :: l, h => leL_of (n := n) (ρ := l) (Nat.le_of_succ_le_succ h)
theorem le_0 : leL 0 ρ = true := by unfold leL; rfl
theorem le_s : leL (i + 1) (b :: ρ) = leL i ρ := id rfl
theorem k_rf1 : retF m (.rt (.val d) ρ) = if leL m ρ = true then .ok (.val d, outs m ρ) else .bad := by
  by_cases h : leL m ρ = true
  · rw [if_pos h]; exact if_pos (leL_ok h)
  · rw [if_neg h]; exact if_neg fun q => h (leL_of q)
theorem k_rf2 : retF m (.rt (.fr d) ρ) = if leL m ρ = true then .ok (.fr d, outs m ρ) else .bad := by
  by_cases h : leL m ρ = true
  · rw [if_pos h]; exact if_pos (leL_ok h)
  · rw [if_neg h]; exact if_neg fun q => h (leL_of q)
theorem k_rf3 : retF m (.rt (.sl i) ρ) = if leL m ρ = true then retSl (outs m ρ) ρ[i]? else .bad := by
  by_cases h : leL m ρ = true
  case neg => rw [if_neg h]; exact if_neg fun q => h (leL_of q)
  rw [if_pos h]
  refine (if_pos (leL_ok h)).trans ?_
  show retF0 _ (.rt (.sl i) ρ) = _
  unfold retF0 retSl
  dsimp only
  cases ρ[i]? with
  | none => rfl
  | some b => cases b <;> rfl
theorem k_rf4 : retF m (.nx ρ) = if leL m ρ = true then .ok (.val .none, outs m ρ) else .bad := by
  by_cases h : leL m ρ = true
  · rw [if_pos h]; exact if_pos (leL_ok h)
  · rw [if_neg h]; exact if_neg fun q => h (leL_of q)
theorem k_rs1 {outs : List B} : retSl outs (some (.val d)) = .ok (.val d, outs) := id rfl
theorem k_rs2 {outs : List B} : retSl outs (some (.own d)) = .ok (.fr d, outs) := id rfl
/-- stores -/
def setG (i : Nat) (y k : PyData) (ρ : List B) : Option B → Rs Fl
  | some b => (match ownD b with
    | some d => (match setD d k y with
      | some d' => .ok (.nx (ρ.set i (reD b d')))
      | none => .bad)
    | none => .bad)
  | none => .bad
def setH (i : Nat) (y : PyData) (ρ : List B) : Option PyData → Rs Fl
  | some k => setG i y k ρ ρ[i]?
  | none => .bad
def setJ (i : Nat) (y : PyData) (q : Ev × List B) : Rs Fl := setH i y q.2 (peek q.2 q.1)
def setK (i : Nat) (fk : SE) (y : PyData) (ρ1 : List B) : Rs Fl := match (ρ1[i]?).bind ownD with
  | some _ => Rs.bind (fk ρ1) (setJ i y)
  | none => .bad
def setL (i : Nat) (fk : SE) (p : Ev × List B) : Rs Fl := shK (setK i fk) p.2 p.1
theorem r_set : setS i fk fe ρ = Rs.bind (fe ρ) (setL i fk) := by
  unfold setS setL shK
  congr 1
theorem k_set1 : setL i fk (e, ρ) = shK (setK i fk) ρ e := id rfl
def setM (fk : SE) (i : Nat) (y : PyData) (ρ1 : List B) : Option PyData → Rs Fl
  | some _ => Rs.bind (fk ρ1) (setJ i y)
  | none => .bad
theorem k_set2 {y : PyData} : setK i fk y ρ = setM fk i y ρ ((ρ[i]?).bind ownD) := by
  unfold setK setM
  rfl
theorem k_set3 {y : PyData} : setM fk i y ρ (some d) = Rs.bind (fk ρ) (setJ i y) := id rfl
theorem k_set4 {y : PyData} : setJ i y (e, ρ) = setH i y ρ (peek ρ e) := id rfl
theorem k_set5 {y k : PyData} : setH i y ρ (some k) = setG i y k ρ ρ[i]? := id rfl
def setO (i : Nat) (b : B) (ρ : List B) : Option PyData → Rs Fl
  | some d' => .ok (.nx (ρ.set i (reD b d')))
  | none => .bad
theorem k_set6 {y k : PyData} : setG i y k ρ (some (.own d)) = setO i (.own d) ρ (setD d k y) := by
  unfold setG setO
  rfl
theorem k_set7 {y k : PyData} : setG i y k ρ (some (.prm d)) = setO i (.prm d) ρ (setD d k y) := by
  unfold setG setO
  rfl
theorem k_set8 {d' : PyData} : setO i (.own d) ρ (some d') = .ok (.nx (ρ.set i (.own d'))) := id rfl
theorem k_set9 {d' : PyData} : setO i (.prm d) ρ (some d') = .ok (.nx (ρ.set i (.prm d'))) := id rfl
/-- a method that writes a list -/
def muA (i : Nat) (mt : PyData → List PyData → Option (PyData × PyData)) (ys : List PyData) (ρ1 : List B) : Option B → Rs (Ev × List B)
  | some b => (match ownD b with
      | some d => (match mt d ys with
        | some (d', v) => .ok (.val v, ρ1.set i (reD b d'))
        | none => .bad)
      | none => .bad)
  | none => .bad
def muB (i : Nat) (mt : PyData → List PyData → Option (PyData × PyData)) : Option (List PyData × List B) → Rs (Ev × List B)
  | some (ys, ρ1) => muA i mt ys ρ1 ρ1[i]?
  | none => .bad
def muC (i : Nat) (mt : PyData → List PyData → Option (PyData × PyData)) (p : List Ev × List B) : Rs (Ev × List B) := muB i mt (shrs p.2 p.1)
def muD (i : Nat) (mt : PyData → List PyData → Option (PyData × PyData)) (fa : SA) (ρ : List B) : Option PyData → Rs (Ev × List B)
  | some d => if isLst d = true then Rs.bind (fa ρ) (muC i mt) else .bad
  | none => .bad
theorem r_mut {mt : PyData → List PyData → Option (PyData × PyData)} : mutE i mt fs ρ = muD i mt fs ρ ((ρ[i]?).bind ownD) := by
  unfold mutE muD
  cases (ρ[i]?).bind ownD <;> rfl
theorem k_mu1 {mt : PyData → List PyData → Option (PyData × PyData)} : muD i mt fs ρ (some (.list ds)) = Rs.bind (fs ρ) (muC i mt) := id rfl
theorem k_mu2 {mt : PyData → List PyData → Option (PyData × PyData)} : muC i mt (es, ρ) = muB i mt (shrs ρ es) := id rfl
theorem k_mu3 {mt : PyData → List PyData → Option (PyData × PyData)} : muB i mt (some (ds, ρ)) = muA i mt ds ρ ρ[i]? := id rfl
def muE (i : Nat) (b : B) (ρ : List B) : Option (PyData × PyData) → Rs (Ev × List B)
  | some (d', v) => .ok (.val v, ρ.set i (reD b d'))
  | none => .bad
theorem k_mu4 {mt : PyData → List PyData → Option (PyData × PyData)} : muA i mt ds ρ (some (.own d)) = muE i (.own d) ρ (mt d ds) := by
  unfold muA muE
  rfl
theorem k_mu5 {mt : PyData → List PyData → Option (PyData × PyData)} : muA i mt ds ρ (some (.prm d)) = muE i (.prm d) ρ (mt d ds) := by
  unfold muA muE
  rfl
theorem k_mu6 {d' v : PyData} : muE i (.own d) ρ (some (d', v)) = .ok (.val v, ρ.set i (.own d')) := id rfl
theorem k_mu7 {d' v : PyData} : muE i (.prm d) ρ (some (d', v)) = .ok (.val v, ρ.set i (.prm d')) := id rfl
theorem k_app {y : PyData} (h : ds.length < sizeLine) : mtApp (.list ds) [y] = some (.list (ds ++ [y]), .none) := by
  unfold mtApp appD
  simp only [if_pos h, Option.map]
theorem k_apps {y : PyData} (h : smallLen ds 100 = true) : mtApp (.list ds) [y] = some (.list (ds ++ [y]), .none) := k_app (Nat.lt_of_le_of_lt (smallLen_ok h) (by decide))
theorem lt_line {n : Nat} (h : n ≤ 1000000) : n < sizeLine := Nat.lt_of_le_of_lt h (by decide)
/-- two names at once -/
def paK2 (i j : Nat) (e1 : Ev) (q : Ev × List B) : Rs Fl := match resv q.2 e1 with
  | some (e1, ρ1) => (match resv ρ1 q.1 with
    | some (e2, ρ2) => (match bindV i e1 ρ2 with
      | .ok ρ3 => (match bindV j e2 ρ3 with
        | .ok ρ4 => .ok (.nx ρ4)
        | _ => .bad)
      | _ => .bad)
    | none => .bad)
  | none => .bad
def paK (i j : Nat) (fb : SE) (p : Ev × List B) : Rs Fl := Rs.bind (fb p.2) (paK2 i j p.1)
theorem r_par : parS i j fa fb ρ = Rs.bind (fa ρ) (paK i j fb) := id rfl
theorem k_par1 : paK i j fb (e, ρ) = Rs.bind (fb ρ) (paK2 i j e) := id rfl
theorem k_par2 : paK2 i j (.val d1) (.val d2, ρ) = .ok (.nx ((ρ.set i (.val d1)).set j (.val d2))) := id rfl
theorem k_par3 : paK2 i j (.val d1) (.fr d2, ρ) = .ok (.nx ((ρ.set i (.val d1)).set j (.own d2))) := id rfl
theorem k_par4 : paK2 i j (.fr d1) (.val d2, ρ) = .ok (.nx ((ρ.set i (.own d1)).set j (.val d2))) := id rfl
theorem k_par5 : paK2 i j (.fr d1) (.fr d2, ρ) = .ok (.nx ((ρ.set i (.own d1)).set j (.own d2))) := id rfl
def p3K (i j l : Nat) : Option (List PyData × List B) → Rs Fl
  | some ([d1, d2, d3], ρ1) => .ok (.nx (((ρ1.set i (.val d1)).set j (.val d2)).set l (.val d3)))
  | _ => .bad
def p3L (i j l : Nat) (p : List Ev × List B) : Rs Fl := p3K i j l (shrs p.2 p.1)
theorem r_par3 : par3S i j l fs ρ = Rs.bind (fs ρ) (p3L i j l) := by
  unfold par3S p3L p3K
  congr 1
theorem k_p3a : p3L i j l (es, ρ) = p3K i j l (shrs ρ es) := id rfl
theorem k_p3b : p3K i j l (some ([d1, d2, d3], ρ)) = .ok (.nx (((ρ.set i (.val d1)).set j (.val d2)).set l (.val d3))) := id rfl
/-- several names at once -/
def pnL (is : List Nat) : Option (List Ev × List B) → Rs Fl
  | some (es, ρ1) => Rs.bind (bindN is es ρ1) fun ρ' => .ok (.nx ρ')
  | none => .bad
def pnK (is : List Nat) (p : List Ev × List B) : Rs Fl := pnL is (resN p.2 p.1)
theorem r_parN {is : List Nat} {fs : List SE} : parN is fs ρ = Rs.bind (evN fs ρ) (pnK is) := by
  unfold parN pnK pnL
  congr 1
theorem k_pn1 {is : List Nat} : pnK is (es, ρ) = pnL is (resN ρ es) := id rfl
def nxK (ρ : List B) : Rs Fl := .ok (.nx ρ)
theorem k_pn2 {is : List Nat} : pnL is (some (es, ρ)) = Rs.bind (bindN is es ρ) nxK := id rfl
theorem k_nx : nxK ρ = .ok (.nx ρ) := id rfl
def evK2 (e : Ev) (q : List Ev × List B) : Rs (List Ev × List B) := .ok (e :: q.1, q.2)
def evK (fs : List SE) (p : Ev × List B) : Rs (List Ev × List B) := Rs.bind (evN fs p.2) (evK2 p.1)
theorem ev_nil : evN [] ρ = .ok ([], ρ) := id rfl
theorem ev_cons {fs : List SE} : evN (fe :: fs) ρ = Rs.bind (fe ρ) (evK fs) := id rfl
theorem k_ev1 {fs : List SE} : evK fs (e, ρ) = Rs.bind (evN fs ρ) (evK2 e) := id rfl
theorem k_ev2 : evK2 e (es, ρ) = .ok (e :: es, ρ) := id rfl
theorem rs_nil : resN ρ [] = some ([], ρ) := id rfl
theorem rs_val : resN ρ (.val d :: es) = (resN ρ es).map fun q => (.val d :: q.1, q.2) := id rfl
theorem rs_fr : resN ρ (.fr d :: es) = (resN ρ es).map fun q => (.fr d :: q.1, q.2) := id rfl
def rsS (ρ : List B) (j : Nat) (es : List Ev) : Option B → Option (List Ev × List B)
  | some (.own d) => (resN (ρ.set j (.val d)) es).map fun q => (.val d :: q.1, q.2)
  | some (.val d) => (resN ρ es).map fun q => (.val d :: q.1, q.2)
  | _ => none
theorem rs_sl : resN ρ (.sl j :: es) = rsS ρ j es ρ[j]? := by
  show ((resv ρ (.sl j)).bind fun p => (resN p.2 es).map fun q => (p.1 :: q.1, q.2)) = _
  unfold resv shr rsS
  dsimp only
  cases ρ[j]? with
  | none => rfl
  | some b => cases b <;> rfl
theorem k_rsS1 : rsS ρ j es (some (.own d)) = (resN (ρ.set j (.val d)) es).map fun q => (.val d :: q.1, q.2) := id rfl
theorem k_rsS2 : rsS ρ j es (some (.val d)) = (resN ρ es).map fun q => (.val d :: q.1, q.2) := id rfl
theorem bn_nil : bindN [] [] ρ = .ok ρ := id rfl
theorem bn_val {is : List Nat} : bindN (i :: is) (.val d :: es) ρ = bindN is es (ρ.set i (.val d)) := id rfl
theorem bn_fr {is : List Nat} : bindN (i :: is) (.fr d :: es) ρ = bindN is es (ρ.set i (.own d)) := id rfl
/-- [..] * k -/
def rpK2 (e : Ev) (q : Ev × List B) : Rs (Ev × List B) := repR q.2 e (peek q.2 q.1)
def rpK (fb : SE) (p : Ev × List B) : Rs (Ev × List B) := Rs.bind (fb p.2) (rpK2 p.1)
theorem r_rep : repE fa fb ρ = Rs.bind (fa ρ) (rpK fb) := id rfl
theorem k_rp1 : rpK fb (e, ρ) = Rs.bind (fb ρ) (rpK2 e) := id rfl
theorem k_rp2 : rpK2 e (e1, ρ) = repR ρ e (peek ρ e1) := id rfl
theorem k_rp3 {k : Int} (h : ds.length ≤ 1000 ∧ k < 10000 ∧ -10000 < k) : repR ρ (.fr (.list ds)) (some (.int k)) = .ok (.fr (.list (List.replicate k.toNat ds).flatten), ρ) := if_pos h
theorem ixN_last {n : Nat} : ixN (n + 1) (-1) = some n := by
  unfold ixN
  rw [if_neg (by omega)]
  split
  · congr 1
    omega
  · omega
theorem set_last {y z : PyData} : setD (.list (ds ++ [z])) (.int (-1)) y = some (.list (ds ++ [y])) := by
  unfold setD
  dsimp only
  rw [List.length_append, show ds.length + [z].length = ds.length + 1 from rfl, ixN_last]
  simp
theorem ix_last {l' : List α} : atI (l' ++ [a]) (-1 : Int) = some a := by
  unfold atI
  rw [List.length_append, show l'.length + [a].length = l'.length + 1 from rfl, ixN_last]
  simp
/-- loops -/
def foK (t : SG) (b : SS) (p : List PyData × List B) : Rs Fl := forL t b p.1 p.2
theorem r_for {b : SS} : forS it t b ρ = Rs.bind (it ρ) (foK t b) := id rfl
theorem k_for {b : SS} : foK t b (ds, ρ) = forL t b ds ρ := id rfl
theorem fo_nil {b : SS} : forL t b [] ρ = .ok (.nx ρ) := by unfold forL; rfl
def foN (t : SG) (b : SS) (ds : List PyData) : Fl → Rs Fl
  | .nx ρ2 => forL t b ds ρ2
  | .ct ρ2 => forL t b ds ρ2
  | .bk ρ2 => .ok (.nx ρ2)
  | .rt e ρ2 => .ok (.rt e ρ2)
def foT (t : SG) (b : SS) (ds : List PyData) : Rs (List B) → Rs Fl
  | .ok ρ1 => Rs.bind (b ρ1) (foN t b ds)
  | _ => .bad
theorem fo_cons {b : SS} : forL t b (d :: ds) ρ = foT t b ds (t d ρ) := by
  conv => lhs; unfold forL
  unfold foT
  cases t d ρ <;> rfl
theorem k_fo0 {b : SS} : foT t b ds (.ok ρ) = Rs.bind (b ρ) (foN t b ds) := id rfl
theorem k_fo1 {b : SS} : foN t b ds (.nx ρ) = forL t b ds ρ := id rfl
theorem k_fo2 {b : SS} : foN t b ds (.ct ρ) = forL t b ds ρ := id rfl
theorem k_fo3 {b : SS} : foN t b ds (.bk ρ) = .ok (.nx ρ) := id rfl
theorem k_fo4 {b : SS} : foN t b ds (.rt e ρ) = .ok (.rt e ρ) := id rfl
/-- one turn of a loop; continue is as the end of the body -/
def tuK : Fl → Rs Fl
  | .ct ρ => .ok (.nx ρ)
  | r => .ok r
def tuT (b : SS) : Rs (List B) → Rs Fl
  | .ok ρ1 => Rs.bind (b ρ1) tuK
  | _ => .bad
def turn (t : SG) (b : SS) (d : PyData) (ρ : List B) : Rs Fl := tuT b (t d ρ)
theorem r_turn {b : SS} : turn t b d ρ = tuT b (t d ρ) := id rfl
theorem k_tu0 {b : SS} : tuT b (.ok ρ) = Rs.bind (b ρ) tuK := id rfl
theorem k_tu1 : tuK (.nx ρ) = .ok (.nx ρ) := id rfl
theorem k_tu2 : tuK (.ct ρ) = .ok (.nx ρ) := id rfl
theorem k_tu3 : tuK (.bk ρ) = .ok (.bk ρ) := id rfl
theorem k_tu4 : tuK (.rt e ρ) = .ok (.rt e ρ) := id rfl
theorem turn_nx {t : SG} {b : SS} {d : PyData} {ρ ρ' : List B} {ds : List PyData} (h : turn t b d ρ = .ok (.nx ρ')) : forL t b (d :: ds) ρ = forL t b ds ρ' := by
  rw [fo_cons]
  unfold turn at h
  cases ht : t d ρ with
  | ex m r => rw [ht] at h; cases h
  | bad => rw [ht] at h; cases h
  | ok ρ3 =>
    rw [ht, k_tu0] at h
    rw [k_fo0]
    cases hb : b ρ3 with
    | ex m r => rw [hb] at h; cases h
    | bad => rw [hb] at h; cases h
    | ok fl =>
      rw [hb, rb_ok] at h
      rw [rb_ok]
      cases fl with
      | nx ρ4 => rw [k_tu1] at h; cases h; rfl
      | ct ρ4 => rw [k_tu2] at h; cases h; rfl
      | bk ρ4 => rw [k_tu3] at h; cases h
      | rt e ρ4 => rw [k_tu4] at h; cases h
/-- loops over mapped lists -/
theorem fo_fold {α σ : Type} {enc : α → PyData} {t : SG} {b : SS} (I : σ → List B → Prop) (step : σ → α → σ) : ∀ {xs : List α} {s : σ} {ρ : List B}, I s ρ → (∀ x ∈ xs, ∀ s ρ, I s ρ → ∃ ρ', turn t b (enc x) ρ = .ok (.nx ρ') ∧ I (step s x) ρ') → ∃ ρ', forL t b (xs.map enc) ρ = .ok (.nx ρ') ∧ I (xs.foldl step s) ρ'
  | [], s, ρ, h, _ => ⟨ρ, fo_nil, h⟩
  | x :: xs, s, ρ, h, st => by
    obtain ⟨ρ1, e1, h1⟩ := st x (List.mem_cons_self ..) s ρ h
    obtain ⟨ρ2, e2, h2⟩ := fo_fold I step h1 fun z hz => st z (List.mem_cons_of_mem _ hz)
    exact ⟨ρ2, by rw [List.map_cons, turn_nx e1]; exact e2, h2⟩
theorem fo_range' {enc : Nat → PyData} {t : SG} {b : SS} (I : Nat → List B → Prop) : ∀ {m s : Nat} {ρ : List B}, I s ρ → (∀ i, s ≤ i → i < s + m → ∀ ρ, I i ρ → ∃ ρ', turn t b (enc i) ρ = .ok (.nx ρ') ∧ I (i + 1) ρ') → ∃ ρ', forL t b ((List.range' s m).map enc) ρ = .ok (.nx ρ') ∧ I (s + m) ρ'
  | 0, s, ρ, h, _ => ⟨ρ, fo_nil, h⟩
  | m + 1, s, ρ, h, st => by
    obtain ⟨ρ1, e1, h1⟩ := st s (Nat.le_refl _) (by omega) ρ h
    obtain ⟨ρ2, e2, h2⟩ := fo_range' I (m := m) (s := s + 1) h1 fun i hi hm => st i (by omega) (by omega)
    refine ⟨ρ2, ?_, by rw [show s + (m + 1) = s + 1 + m by omega]; exact h2⟩
    rw [List.range'_succ, List.map_cons, turn_nx e1]
    exact e2
/-- a loop over a range, with the number of turns so far -/
theorem fo_range {enc : Nat → PyData} {t : SG} {b : SS} (I : Nat → List B → Prop) {m : Nat} {ρ : List B} (h : I 0 ρ) (st : ∀ i, i < m → ∀ ρ, I i ρ → ∃ ρ', turn t b (enc i) ρ = .ok (.nx ρ') ∧ I (i + 1) ρ') : ∃ ρ', forL t b ((List.range m).map enc) ρ = .ok (.nx ρ') ∧ I m ρ' := by
  obtain ⟨ρ', e, h'⟩ := fo_range' (enc := enc) (t := t) (b := b) I (m := m) (s := 0) h fun i _ hi => st i (by omega)
  rw [Nat.zero_add] at h'
  exact ⟨ρ', by rw [List.range_eq_range']; exact e, h'⟩
/-- a loop with an invariant of the turn's place -/
theorem fo_inv {α : Type} {enc : α → PyData} {t : SG} {b : SS} (I : List B → Prop) {xs : List α} {ρ : List B} (h0 : I ρ) (st : ∀ x ∈ xs, ∀ ρ, I ρ → ∃ ρ', turn t b (enc x) ρ = .ok (.nx ρ') ∧ I ρ') : ∃ ρ', forL t b (xs.map enc) ρ = .ok (.nx ρ') ∧ I ρ' :=
  fo_fold (σ := Unit) (fun _ => I) (fun s _ => s) (s := ()) h0 fun x hx _ ρ h => st x hx ρ h
def seqIK (k : PyData → Option (List PyData)) (d : PyData) (ρ1 : List B) : Rs (List PyData × List B) := match k d with
    | some ds => .ok (ds, ρ1)
    | none => .bad
def seqIL (k : PyData → Option (List PyData)) (p : Ev × List B) : Rs (List PyData × List B) := shK (seqIK k) p.2 p.1
theorem r_seqI {k : PyData → Option (List PyData)} : seqI k fe ρ = Rs.bind (fe ρ) (seqIL k) := by
  unfold seqI seqIL shK seqIK
  congr 1
theorem k_seqI {k : PyData → Option (List PyData)} : seqIL k (e, ρ) = shK (seqIK k) ρ e := id rfl
theorem k_seqI1 : seqIK lstK (.list ds) ρ = .ok (ds, ρ) := id rfl
theorem k_seqI3 : seqIK bothK (.list ds) ρ = .ok (ds, ρ) := id rfl
theorem k_seqI5 : seqIK enumK (.list ds) ρ = .ok (enD ds, ρ) := id rfl
theorem k_seqI6 : seqIK enumK (.tuple ds) ρ = .ok (enD ds, ρ) := id rfl
theorem k_seqI4 : seqIK bothK (.tuple ds) ρ = .ok (ds, ρ) := id rfl
theorem k_seqI2 : seqIK tupK (.tuple ds) ρ = .ok (ds, ρ) := id rfl
def rg1 (ρ : List B) : Option (List PyData) → Rs (List PyData × List B)
  | some [.int j] => if rngOk j = true then .ok ((List.range j.toNat).map fun i : Nat => PyData.int (0 + i), ρ) else .bad
  | _ => .bad
def rg1K (p : List Ev × List B) : Rs (List PyData × List B) := rg1 p.2 (peeks p.2 p.1)
theorem r_rng1 : rng1I fs ρ = Rs.bind (fs ρ) rg1K := id rfl
theorem k_rng1 : rg1K (es, ρ) = rg1 ρ (peeks ρ es) := id rfl
theorem k_rng1b {j : Int} (h : rngOk j = true) : rg1 ρ (some [.int j]) = .ok ((List.range j.toNat).map fun i : Nat => PyData.int (0 + i), ρ) := if_pos h
def rg2 (ρ : List B) : Option (List PyData) → Rs (List PyData × List B)
  | some [.int i, .int j] => if (rngOk i && rngOk j) = true then .ok ((List.range (j - i).toNat).map fun k : Nat => PyData.int (i + k), ρ) else .bad
  | _ => .bad
def rg2K (p : List Ev × List B) : Rs (List PyData × List B) := rg2 p.2 (peeks p.2 p.1)
theorem r_rng2 : rng2I fs ρ = Rs.bind (fs ρ) rg2K := id rfl
theorem k_rng2 : rg2K (es, ρ) = rg2 ρ (peeks ρ es) := id rfl
theorem k_rng2b {i j : Int} (h : (rngOk i && rngOk j) = true) : rg2 ρ (some [.int i, .int j]) = .ok ((List.range (j - i).toNat).map fun k : Nat => PyData.int (i + k), ρ) := if_pos h
theorem rgl_0 : (List.range (Int.toNat 0)).map (fun i : Nat => PyData.int (0 + i)) = [] := id rfl
theorem rgl_1 : (List.range (Int.toNat 1)).map (fun i : Nat => PyData.int (0 + i)) = [.int 0] := id rfl
theorem rgl_2 : (List.range (Int.toNat 2)).map (fun i : Nat => PyData.int (0 + i)) = [.int 0, .int 1] := id rfl
theorem rgl_3 : (List.range (Int.toNat 3)).map (fun i : Nat => PyData.int (0 + i)) = [.int 0, .int 1, .int 2] := id rfl
theorem rgl_4 : (List.range (Int.toNat 4)).map (fun i : Nat => PyData.int (0 + i)) = [.int 0, .int 1, .int 2, .int 3] := id rfl
theorem rgl_5 : (List.range (Int.toNat 5)).map (fun i : Nat => PyData.int (0 + i)) = [.int 0, .int 1, .int 2, .int 3, .int 4] := id rfl
theorem rgl_6 : (List.range (Int.toNat 6)).map (fun i : Nat => PyData.int (0 + i)) = [.int 0, .int 1, .int 2, .int 3, .int 4, .int 5] := id rfl
theorem rgl_7 : (List.range (Int.toNat 7)).map (fun i : Nat => PyData.int (0 + i)) = [.int 0, .int 1, .int 2, .int 3, .int 4, .int 5, .int 6] := id rfl
theorem rgl_8 : (List.range (Int.toNat 8)).map (fun i : Nat => PyData.int (0 + i)) = [.int 0, .int 1, .int 2, .int 3, .int 4, .int 5, .int 6, .int 7] := id rfl
theorem rgl_9 : (List.range (Int.toNat 9)).map (fun i : Nat => PyData.int (0 + i)) = [.int 0, .int 1, .int 2, .int 3, .int 4, .int 5, .int 6, .int 7, .int 8] := id rfl
theorem rgl_10 : (List.range (Int.toNat 10)).map (fun i : Nat => PyData.int (0 + i)) = [.int 0, .int 1, .int 2, .int 3, .int 4, .int 5, .int 6, .int 7, .int 8, .int 9] := id rfl
theorem rgl_12 : (List.range (Int.toNat 12)).map (fun i : Nat => PyData.int (0 + i)) = [.int 0, .int 1, .int 2, .int 3, .int 4, .int 5, .int 6, .int 7, .int 8, .int 9, .int 10, .int 11] := id rfl
theorem rgl_16 : (List.range (Int.toNat 16)).map (fun i : Nat => PyData.int (0 + i)) = [.int 0, .int 1, .int 2, .int 3, .int 4, .int 5, .int 6, .int 7, .int 8, .int 9, .int 10, .int 11, .int 12, .int 13, .int 14, .int 15] := id rfl
theorem r1l_1 : (List.range (Int.toNat 1)).map (fun i : Nat => PyData.int (1 + i)) = [.int 1] := id rfl
theorem r1l_2 : (List.range (Int.toNat 2)).map (fun i : Nat => PyData.int (1 + i)) = [.int 1, .int 2] := id rfl
theorem r1l_3 : (List.range (Int.toNat 3)).map (fun i : Nat => PyData.int (1 + i)) = [.int 1, .int 2, .int 3] := id rfl
theorem r1l_4 : (List.range (Int.toNat 4)).map (fun i : Nat => PyData.int (1 + i)) = [.int 1, .int 2, .int 3, .int 4] := id rfl
theorem r1l_5 : (List.range (Int.toNat 5)).map (fun i : Nat => PyData.int (1 + i)) = [.int 1, .int 2, .int 3, .int 4, .int 5] := id rfl
theorem r1l_6 : (List.range (Int.toNat 6)).map (fun i : Nat => PyData.int (1 + i)) = [.int 1, .int 2, .int 3, .int 4, .int 5, .int 6] := id rfl
theorem r1l_8 : (List.range (Int.toNat 8)).map (fun i : Nat => PyData.int (1 + i)) = [.int 1, .int 2, .int 3, .int 4, .int 5, .int 6, .int 7, .int 8] := id rfl
theorem rpl_0 : (List.replicate (Int.toNat 0) [d]).flatten = [] := id rfl
theorem rpl_1 : (List.replicate (Int.toNat 1) [d]).flatten = [d] := id rfl
theorem rpl_2 : (List.replicate (Int.toNat 2) [d]).flatten = [d, d] := id rfl
theorem rpl_3 : (List.replicate (Int.toNat 3) [d]).flatten = [d, d, d] := id rfl
theorem rpl_4 : (List.replicate (Int.toNat 4) [d]).flatten = [d, d, d, d] := id rfl
theorem rpl_5 : (List.replicate (Int.toNat 5) [d]).flatten = [d, d, d, d, d] := id rfl
theorem rpl_6 : (List.replicate (Int.toNat 6) [d]).flatten = [d, d, d, d, d, d] := id rfl
theorem rpl_7 : (List.replicate (Int.toNat 7) [d]).flatten = [d, d, d, d, d, d, d] := id rfl
theorem rpl_8 : (List.replicate (Int.toNat 8) [d]).flatten = [d, d, d, d, d, d, d, d] := id rfl
/-- comprehensions -/
def lcK1 (ρv : List Nat) : Option (List PyData × List B) → Rs (Ev × List B)
  | some (all, ρe) => .ok (.fr (.list all), wipeB ρe ρv)
  | none => .bad
def lcK (t : SG) (c : SB) (fe : SE) (vs : List Nat) (p : List PyData × List B) : Rs (Ev × List B) := lcK1 vs (lcL t c fe vs 0 p.1 (wipeB p.2 vs))
theorem r_lc {vs : List Nat} : lcE it t c fe vs ρ = Rs.bind (it ρ) (lcK t c fe vs) := by
  unfold lcE lcK lcK1
  congr 1
theorem k_lc {vs : List Nat} : lcK t c fe vs (ds, ρ) = lcK1 vs (lcL t c fe vs 0 ds (wipeB ρ vs)) := id rfl
def lcD (t : SG) (c : SB) (fe : SE) (vs : List Nat) (n : Nat) (ds : List PyData) (y : PyData) (ρ4 : List B) : Option (List PyData × List B) := if n < sizeLine then (lcL t c fe vs (n + 1) ds (wipeB ρ4 vs)).map fun p => (y :: p.1, p.2) else none
def lcO (k : PyData → List B → Option (List PyData × List B)) : Option (PyData × List B) → Option (List PyData × List B)
  | some (y, ρ4) => k y ρ4
  | none => none
def lcC (t : SG) (c : SB) (fe : SE) (vs : List Nat) (n : Nat) (ds : List PyData) : Rs (Ev × List B) → Option (List PyData × List B)
  | .ok (e, ρ3) => lcO (lcD t c fe vs n ds) (shr ρ3 (G.settle e))
  | _ => none
def lcB (t : SG) (c : SB) (fe : SE) (vs : List Nat) (n : Nat) (ds : List PyData) : Rs (Bool × List B) → Option (List PyData × List B)
  | .ok (bo, ρ2) => if bo = true then lcC t c fe vs n ds (fe ρ2) else lcL t c fe vs n ds (wipeB ρ2 vs)
  | _ => none
def lcA (t : SG) (c : SB) (fe : SE) (vs : List Nat) (n : Nat) (ds : List PyData) : Rs (List B) → Option (List PyData × List B)
  | .ok ρ1 => lcB t c fe vs n ds (c ρ1)
  | _ => none
theorem l_nil {vs : List Nat} : lcL t c fe vs i [] ρ = some ([], ρ) := by unfold lcL; rfl
theorem l_cons {vs : List Nat} : lcL t c fe vs i (d :: ds) ρ = lcA t c fe vs i ds (t d ρ) := by
  conv => lhs; unfold lcL
  unfold lcA
  cases t d ρ with
  | ex n ρ => rfl
  | bad => rfl
  | ok ρ1 =>
    dsimp only
    unfold lcB
    cases c ρ1 with
    | ex n ρ => rfl
    | bad => rfl
    | ok q =>
      obtain ⟨b, ρ2⟩ := q
      cases b with
      | false => rfl
      | true =>
        dsimp only
        rw [if_pos rfl]
        unfold lcC
        cases fe ρ2 with
        | ex n ρ => rfl
        | bad => rfl
        | ok q =>
          obtain ⟨e, ρ3⟩ := q
          dsimp only
          unfold lcO lcD
          cases shr ρ3 (G.settle e) <;> rfl
theorem l_A {vs : List Nat} : lcA t c fe vs i ds (.ok ρ) = lcB t c fe vs i ds (c ρ) := id rfl
theorem l_B {vs : List Nat} : lcB t c fe vs i ds (.ok (bo, ρ)) = if bo = true then lcC t c fe vs i ds (fe ρ) else lcL t c fe vs i ds (wipeB ρ vs) := id rfl
theorem l_C {vs : List Nat} : lcC t c fe vs i ds (.ok (.val d, ρ)) = lcD t c fe vs i ds d ρ := id rfl
theorem l_C2 {vs : List Nat} : lcC t c fe vs i ds (.ok (.fr d, ρ)) = lcD t c fe vs i ds d ρ := id rfl
def lcS (k : PyData → List B → Option (List PyData × List B)) (j : Nat) (ρ : List B) : Option B → Option (List PyData × List B)
  | some (.own d) => k d (ρ.set j (.val d))
  | some (.val d) => k d ρ
  | _ => none
theorem l_C3 {vs : List Nat} : lcC t c fe vs i ds (.ok (.sl j, ρ)) = lcS (lcD t c fe vs i ds) j ρ ρ[j]? := by
  unfold lcC settle shr lcS lcO
  dsimp only
  cases ρ[j]? with
  | none => rfl
  | some b => cases b <;> rfl
theorem l_S1 {k : PyData → List B → Option (List PyData × List B)} : lcS k j ρ (some (.own d)) = k d (ρ.set j (.val d)) := id rfl
theorem l_S2 {k : PyData → List B → Option (List PyData × List B)} : lcS k j ρ (some (.val d)) = k d ρ := id rfl
theorem l_D {vs : List Nat} (h : i < sizeLine) : lcD t c fe vs i ds d ρ = (lcL t c fe vs (i + 1) ds (wipeB ρ vs)).map fun p => (d :: p.1, p.2) := if_pos h
theorem lcL_cons1 {t : SG} {c : SB} {fe : SE} {vs : List Nat} {d : PyData} {ρ ρ' : List B} {ys : List PyData} (h : lcL t c fe vs 0 [d] ρ = some (ys, ρ')) : ys.length ≤ 1 ∧ ∀ n ds, n < sizeLine → lcL t c fe vs n (d :: ds) ρ = (lcL t c fe vs (n + ys.length) ds ρ').map fun p => (ys ++ p.1, p.2) := by
  rw [l_cons] at h
  cases ht : t d ρ with
  | ex m r => rw [ht] at h; cases h
  | bad => rw [ht] at h; cases h
  | ok ρ1 =>
    rw [ht, l_A] at h
    cases hc : c ρ1 with
    | ex m r => rw [hc] at h; cases h
    | bad => rw [hc] at h; cases h
    | ok q =>
      obtain ⟨b, ρ2⟩ := q
      rw [hc, l_B] at h
      cases b with
      | false =>
        rw [if_neg (by simp), l_nil] at h
        cases h
        refine ⟨by simp, fun n ds hn => ?_⟩
        rw [l_cons, ht, l_A, hc, l_B, if_neg (by simp)]
        simp only [List.length_nil, Nat.add_zero, List.nil_append]
        cases lcL t c fe vs n ds (wipeB ρ2 vs) <;> rfl
      | true =>
        rw [if_pos rfl] at h
        cases hf : fe ρ2 with
        | ex m r => rw [hf] at h; cases h
        | bad => rw [hf] at h; cases h
        | ok q =>
          obtain ⟨e, ρ3⟩ := q
          rw [hf] at h
          unfold lcC at h
          dsimp only at h
          cases hs : shr ρ3 (G.settle e) with
          | none => rw [hs] at h; cases h
          | some q =>
            obtain ⟨y, ρ4⟩ := q
            rw [hs] at h
            unfold lcO lcD at h
            dsimp only at h
            rw [if_pos (by decide), l_nil] at h
            cases h
            refine ⟨by simp, fun n ds hn => ?_⟩
            rw [l_cons, ht, l_A, hc, l_B, if_pos rfl, hf]
            unfold lcC
            dsimp only
            rw [hs]
            unfold lcO lcD
            dsimp only
            rw [if_pos hn]
            rfl
/-- a comprehension whose turns leave the frame as it was -/
theorem lc_fm {α : Type} {enc : α → PyData} {t : SG} {c : SB} {fe : SE} {vs : List Nat} {ρ : List B} (g : α → Option PyData) : ∀ {xs : List α} {n : Nat}, (∀ x ∈ xs, lcL t c fe vs 0 [enc x] ρ = some ((g x).toList, ρ)) → n + xs.length ≤ sizeLine → lcL t c fe vs n (xs.map enc) ρ = some (xs.filterMap g, ρ)
  | [], n, _, _ => by rw [List.map_nil, l_nil]; rfl
  | x :: xs, n, h, hn => by
    simp only [List.length_cons] at hn
    obtain ⟨h1, h2⟩ := lcL_cons1 (h x (List.mem_cons_self ..))
    rw [List.map_cons, h2 n _ (by omega), lc_fm g (fun z hz => h z (List.mem_cons_of_mem _ hz)) (by omega)]
    cases hg : g x with
    | none => rw [List.filterMap_cons_none hg]; rfl
    | some y => rw [List.filterMap_cons_some hg]; rfl
theorem lc_map {α : Type} {enc : α → PyData} {t : SG} {c : SB} {fe : SE} {vs : List Nat} {ρ : List B} (g : α → PyData) {xs : List α} {n : Nat} (h : ∀ x ∈ xs, lcL t c fe vs 0 [enc x] ρ = some ([g x], ρ)) (hn : n + xs.length ≤ sizeLine) : lcL t c fe vs n (xs.map enc) ρ = some (xs.map g, ρ) := by
  rw [lc_fm (fun x => some (g x)) (fun x hx => h x hx) hn]
  congr 2
  exact congrFun (List.filterMap_eq_map (f := g)) xs
theorem k_lc1 {vs : List Nat} : lcK1 vs (some (ds, ρ)) = .ok (.fr (.list ds), wipeB ρ vs) := id rfl
theorem wi_nil : wipeB ρ [] = ρ := id rfl
theorem wi_cons {vs : List Nat} : wipeB ρ (i :: vs) = (wipeB ρ vs).set i .un := id rfl
theorem mulOk_l {x y : Int} (h : smallI x = true) : mulOk x y = true := by unfold mulOk; rw [h]; rfl
theorem mulOk_r {x y : Int} (h : smallI y = true) : mulOk x y = true := by unfold mulOk; rw [h]; simp
/-- slices -/
def slO (o o2 : Option Int) : Option PyData → Option Ev
  | some d => cutD d o o2
  | none => none
def slK3 (e : Ev) (o : Option Int) (q : Option Int × List B) : Rs (Ev × List B) := resE q.2 (slO o q.1 (peek q.2 e))
def slK2 (ph : SP) (e : Ev) (q : Option Int × List B) : Rs (Ev × List B) := Rs.bind (ptP ph q.2) (slK3 e q.1)
def slK1 (pl ph : SP) (p : Ev × List B) : Rs (Ev × List B) := Rs.bind (ptP pl p.2) (slK2 ph p.1)
theorem r_sl {pl ph : SP} : slE fe pl ph ρ = Rs.bind (fe ρ) (slK1 pl ph) := by
  unfold slE slK1
  congr 1
  funext p
  congr 1
  funext l
  unfold slK2
  congr 1
  funext u
  unfold slK3 slO
  cases peek u.2 p.1 <;> rfl
theorem k_sla {pl ph : SP} : slK1 pl ph (e, ρ) = Rs.bind (ptP pl ρ) (slK2 ph e) := id rfl
theorem k_slb {ph : SP} {o : Option Int} : slK2 ph e (o, ρ) = Rs.bind (ptP ph ρ) (slK3 e o) := id rfl
theorem k_slc {o o2 : Option Int} : slK3 e o (o2, ρ) = resE ρ (slO o o2 (peek ρ e)) := id rfl
theorem k_sld {o o2 : Option Int} : slO o o2 (some d) = cutD d o o2 := id rfl
theorem pt_n : ptP none ρ = .ok (none, ρ) := id rfl
def ptK (p : Ev × List B) : Rs (Option Int × List B) := match peek p.2 p.1 with
    | some (.int i) => .ok (some i, p.2)
    | _ => .bad
theorem pt_s : ptP (some fe) ρ = Rs.bind (fe ρ) ptK := id rfl
theorem k_pt {x : Int} : ptK (.val (.int x), ρ) = .ok (some x, ρ) := id rfl
theorem cu_t {o o2 : Option Int} : cutD (.tuple ds) o o2 = some (.val (.tuple (cutL ds o o2))) := id rfl
theorem cu_l {o o2 : Option Int} : cutD (.list ds) o o2 = some (.fr (.list (cutL ds o o2))) := id rfl
theorem cu_1n {l' : List α} : cutL (a :: l') (some 1) none = l' := by
  unfold cutL
  have h1 : HT.sIx (a :: l').length 0 (some 1) = 1 := by unfold HT.sIx; simp
  have h2 : HT.sIx (a :: l').length (a :: l').length none = (a :: l').length := by unfold HT.sIx; rfl
  rw [h1, h2]
  simp
theorem cu_2n {a2 : α} {l' : List α} : cutL (a :: a2 :: l') (some 2) none = l' := by
  unfold cutL
  have h1 : HT.sIx (a :: a2 :: l').length 0 (some 2) = 2 := by unfold HT.sIx; simp
  have h2 : HT.sIx (a :: a2 :: l').length (a :: a2 :: l').length none = (a :: a2 :: l').length := by unfold HT.sIx; rfl
  rw [h1, h2]
  simp
theorem cu_n1 {l' : List α} : cutL (a :: l') none (some 1) = [a] := by
  unfold cutL
  have h1 : HT.sIx (a :: l').length 0 none = 0 := by unfold HT.sIx; rfl
  have h2 : HT.sIx (a :: l').length (a :: l').length (some 1) = 1 := by unfold HT.sIx; simp
  rw [h1, h2]
  simp
/-- data -/
theorem d_add {x y : Int} : addD (.int x) (.int y) = some (.val (.int (x + y))) := id rfl
theorem d_addT {xs ys : List PyData} (h : xs.length + ys.length ≤ sizeLine) : addD (.tuple xs) (.tuple ys) = some (.val (.tuple (xs ++ ys))) := if_pos h
theorem d_addTs {xs ys : List PyData} (h : smallLen (xs ++ ys) 100 = true) : addD (.tuple xs) (.tuple ys) = some (.val (.tuple (xs ++ ys))) := d_addT (by have := len_ok h; simpa using this)
theorem d_addL {xs ys : List PyData} (h : xs.length + ys.length ≤ sizeLine) : addD (.list xs) (.list ys) = some (.fr (.list (xs ++ ys))) := if_pos h
theorem d_addLs {xs ys : List PyData} (h : smallLen (xs ++ ys) 100 = true) : addD (.list xs) (.list ys) = some (.fr (.list (xs ++ ys))) := d_addL (by have := len_ok h; simpa using this)
theorem d_sub {x y : Int} : subD (.int x) (.int y) = some (.val (.int (x - y))) := id rfl
theorem d_mul {x y : Int} (h : mulOk x y = true) : mulD (.int x) (.int y) = some (.val (.int (x * y))) := if_pos h
theorem d_fdiv {x y : Int} (h : divOk y = true) : fdivD (.int x) (.int y) = some (.val (.int (x.fdiv y))) := if_pos h
theorem d_mod {x y : Int} (h : y ≠ 0) : modD (.int x) (.int y) = some (.val (.int (x.fmod y))) := if_neg h
theorem d_neg {x : Int} : negD (.int x) = some (.val (.int (-x))) := id rfl
theorem d_cmp {x y : Int} {k : Int → Int → Bool} : cmpI k (.int x) (.int y) = some (.val (.bool (k x y))) := id rfl
theorem d_ixT {k : Int} : ixD (.tuple ds) (.int k) = (atI ds k).map .val := id rfl
theorem d_ixL {k : Int} : ixD (.list ds) (.int k) = (atI ds k).map .val := id rfl
theorem at_0 {l' : List α} : atI (a :: l') (0 : Int) = some a := atI_nat (j := 0) rfl
theorem at_1 {a0 : α} {l' : List α} : atI (a0 :: a :: l') (1 : Int) = some a := atI_nat (j := 1) rfl
theorem at_2 {a0 a1 : α} {l' : List α} : atI (a0 :: a1 :: a :: l') (2 : Int) = some a := atI_nat (j := 2) rfl
theorem at_3 {a0 a1 a2 : α} {l' : List α} : atI (a0 :: a1 :: a2 :: a :: l') (3 : Int) = some a := atI_nat (j := 3) rfl
theorem d_lenL : lenD [.list ds] = some (.val (.int ds.length)) := id rfl
theorem d_lenT : lenD [.tuple ds] = some (.val (.int ds.length)) := id rfl
theorem d_tupL : tupleD [.list ds] = some (.val (.tuple ds)) := id rfl
theorem d_tupT : tupleD [.tuple ds] = some (.val (.tuple ds)) := id rfl
def allK (o : Option (List Bool)) : Option Ev := o.map fun bs => .val (.bool (bs.all id))
theorem d_all : allD [.list ds] = allK (boolsD ds) := id rfl
theorem k_all {bs : List Bool} : allK (some bs) = some (.val (.bool (bs.all id))) := id rfl
def anyK (o : Option (List Bool)) : Option Ev := o.map fun bs => .val (.bool (bs.any id))
theorem d_any : anyD [.list ds] = anyK (boolsD ds) := id rfl
theorem k_any {bs : List Bool} : anyK (some bs) = some (.val (.bool (bs.any id))) := id rfl
theorem bo_nil : boolsD [] = some [] := id rfl
theorem bo_cons : boolsD (.bool bo :: ds) = (boolsD ds).map (bo :: ·) := id rfl
theorem al_nil {u : α → Bool} : List.all [] u = true := id rfl
theorem al_cons {u : α → Bool} {l' : List α} : List.all (a :: l') u = (u a && List.all l' u) := id rfl
theorem al_map {u : α → Bool} : ∀ {l' : List α}, (l'.map u).all id = l'.all u
  | [] => rfl
  | a :: l' => by simp only [List.map_cons, List.all_cons, id, al_map (l' := l')]
theorem an_nil {u : α → Bool} : List.any [] u = false := id rfl
theorem an_cons {u : α → Bool} {l' : List α} : List.any (a :: l') u = (u a || List.any l' u) := id rfl
theorem an_map {u : α → Bool} : ∀ {l' : List α}, (l'.map u).any id = l'.any u
  | [] => rfl
  | a :: l' => by simp only [List.map_cons, List.any_cons, id, an_map (l' := l')]
theorem id_b {b : Bool} : id b = b := id rfl
theorem bo_map {u : α → Bool} {l' : List α} : boolsD (l'.map fun z => PyData.bool (u z)) = some (l'.map u) := by
  induction l' with
  | nil => rfl
  | cons z l' ih =>
    show (boolsD (l'.map fun z => PyData.bool (u z))).map (u z :: ·) = _
    rw [ih]
    rfl
theorem d_max {x y : Int} : max2D [.int x, .int y] = some (.val (.int (if y > x then y else x))) := id rfl
theorem d_min {x y : Int} : min2D [.int x, .int y] = some (.val (.int (if y < x then y else x))) := id rfl
theorem d_listL : listD [.list ds] = some (.fr (.list ds)) := id rfl
theorem d_listT : listD [.tuple ds] = some (.fr (.list ds)) := id rfl
theorem d_p18 : powD (.int 10) (.int 18) = some (.val (.int 1000000000000000000)) := id rfl
theorem d_p13 : powD (.int 10) (.int 13) = some (.val (.int 10000000000000)) := id rfl
theorem d_p12 : powD (.int 10) (.int 12) = some (.val (.int 1000000000000)) := id rfl
theorem d_is {x : PyData} : isD x .none = some (.val (.bool (isNoneD x))) := by unfold isD; cases x <;> rfl
theorem d_abs {x : Int} : absD [.int x] = some (.val (.int (if x < 0 then -x else x))) := id rfl
theorem d_repr (h : reprOk d = true) : reprD [d] = some (.val (.str d.shown)) := if_pos h
theorem d_eqS {x y : Str} : eqD (.str x) (.str y) = some (.val (.bool (x == y))) := by
  unfold eqD
  rw [if_pos (by rfl : (str2 (PyData.str x) (PyData.str y) || _) = true)]
  rfl
theorem d_neS {x y : Str} : neD (.str x) (.str y) = some (.val (.bool (!(x == y)))) := by
  unfold neD
  rw [if_pos (by rfl : (str2 (PyData.str x) (PyData.str y) || _) = true)]
  rfl
theorem d_eqI {x y : Int} : eqD (.int x) (.int y) = some (.val (.bool (decide (x = y)))) := by
  unfold eqD
  rw [if_pos (by rfl : (str2 (PyData.int x) (PyData.int y) || _) = true)]
  simp only [PyData.eqv]
  congr 3
theorem d_neI {x y : Int} : neD (.int x) (.int y) = some (.val (.bool (!decide (x = y)))) := by
  unfold neD
  rw [if_pos (by rfl : (str2 (PyData.int x) (PyData.int y) || _) = true)]
  simp only [PyData.eqv]
  congr 3
theorem d_isi {T : String} : isiD T d = some (.val (.bool (isiB T d))) := id rfl
theorem isy_int_none : isiB "int" .none = false := id rfl
theorem isy_int_bool {bo : Bool} : isiB "int" (.bool bo) = true := id rfl
theorem isy_int_int {x : Int} : isiB "int" (.int x) = true := id rfl
theorem isy_int_str {x : Str} : isiB "int" (.str x) = false := id rfl
theorem isy_int_list : isiB "int" (.list ds) = false := id rfl
theorem isy_int_tuple : isiB "int" (.tuple ds) = false := id rfl
theorem isy_int_dict {kv : List (PyData × PyData)} : isiB "int" (.dict kv) = false := id rfl
theorem isy_bool_none : isiB "bool" .none = false := id rfl
theorem isy_bool_bool {bo : Bool} : isiB "bool" (.bool bo) = true := id rfl
theorem isy_bool_int {x : Int} : isiB "bool" (.int x) = false := id rfl
theorem isy_bool_str {x : Str} : isiB "bool" (.str x) = false := id rfl
theorem isy_bool_list : isiB "bool" (.list ds) = false := id rfl
theorem isy_bool_tuple : isiB "bool" (.tuple ds) = false := id rfl
theorem isy_bool_dict {kv : List (PyData × PyData)} : isiB "bool" (.dict kv) = false := id rfl
theorem isy_tuple_none : isiB "tuple" .none = false := id rfl
theorem isy_tuple_bool {bo : Bool} : isiB "tuple" (.bool bo) = false := id rfl
theorem isy_tuple_int {x : Int} : isiB "tuple" (.int x) = false := id rfl
theorem isy_tuple_str {x : Str} : isiB "tuple" (.str x) = false := id rfl
theorem isy_tuple_list : isiB "tuple" (.list ds) = false := id rfl
theorem isy_tuple_tuple : isiB "tuple" (.tuple ds) = true := id rfl
theorem isy_tuple_dict {kv : List (PyData × PyData)} : isiB "tuple" (.dict kv) = false := id rfl
theorem isy_list_none : isiB "list" .none = false := id rfl
theorem isy_list_bool {bo : Bool} : isiB "list" (.bool bo) = false := id rfl
theorem isy_list_int {x : Int} : isiB "list" (.int x) = false := id rfl
theorem isy_list_str {x : Str} : isiB "list" (.str x) = false := id rfl
theorem isy_list_list : isiB "list" (.list ds) = true := id rfl
theorem isy_list_tuple : isiB "list" (.tuple ds) = false := id rfl
theorem isy_list_dict {kv : List (PyData × PyData)} : isiB "list" (.dict kv) = false := id rfl
theorem isy_str_none : isiB "str" .none = false := id rfl
theorem isy_str_bool {bo : Bool} : isiB "str" (.bool bo) = false := id rfl
theorem isy_str_int {x : Int} : isiB "str" (.int x) = false := id rfl
theorem isy_str_str {x : Str} : isiB "str" (.str x) = true := id rfl
theorem isy_str_list : isiB "str" (.list ds) = false := id rfl
theorem isy_str_tuple : isiB "str" (.tuple ds) = false := id rfl
theorem isy_str_dict {kv : List (PyData × PyData)} : isiB "str" (.dict kv) = false := id rfl
theorem isy_dict_none : isiB "dict" .none = false := id rfl
theorem isy_dict_bool {bo : Bool} : isiB "dict" (.bool bo) = false := id rfl
theorem isy_dict_int {x : Int} : isiB "dict" (.int x) = false := id rfl
theorem isy_dict_str {x : Str} : isiB "dict" (.str x) = false := id rfl
theorem isy_dict_list : isiB "dict" (.list ds) = false := id rfl
theorem isy_dict_tuple : isiB "dict" (.tuple ds) = false := id rfl
theorem isy_dict_dict {kv : List (PyData × PyData)} : isiB "dict" (.dict kv) = true := id rfl
theorem it_t {x y : α} : (if True then x else y) = x := if_pos trivial
theorem it_f {x y : α} : (if False then x else y) = y := if_neg fun h => h
theorem b_tt : (true = true) = True := by simp
theorem b_ft : (false = true) = False := by simp
theorem b_nt : (!true) = false := id rfl
theorem b_nf : (!false) = true := id rfl
theorem b_ta {b : Bool} : (true && b) = b := by simp
theorem b_fa {b : Bool} : (false && b) = false := by simp
theorem b_at {b : Bool} : (b && true) = b := by simp
theorem b_to {b : Bool} : (true || b) = true := by simp
theorem b_fo {b : Bool} : (false || b) = b := by simp
theorem lI_0 : (([] : List α).length : Int) = 0 := id rfl
theorem lI_1 {a1 : α} : (([a1] : List α).length : Int) = 1 := id rfl
theorem lI_2 {a1 a2 : α} : (([a1, a2] : List α).length : Int) = 2 := id rfl
theorem lI_3 {a1 a2 a3 : α} : (([a1, a2, a3] : List α).length : Int) = 3 := id rfl
theorem lI_4 {a1 a2 a3 a4 : α} : (([a1, a2, a3, a4] : List α).length : Int) = 4 := id rfl
theorem lI_5 {a1 a2 a3 a4 a5 : α} : (([a1, a2, a3, a4, a5] : List α).length : Int) = 5 := id rfl
theorem lI_m {l' : List α} {u : α → β} : ((l'.map u).length : Int) = l'.length := by rw [List.length_map]
theorem bs_f {x y : Str} (h : decide (x = y) = false) : (x == y) = false := beq_eq_false_iff_ne.mpr (of_decide_eq_false h)
theorem es_f {x y : Str} (h : decide (x = y) = false) : (x = y) = False := eq_false (of_decide_eq_false h)
theorem bb_tt : (true == true) = true := id rfl
theorem bb_tf : (true == false) = false := id rfl
theorem bb_ft : (false == true) = false := id rfl
theorem bb_ff : (false == false) = true := id rfl
theorem bq_s {x : Str} : (x == x) = true := beq_self_eq_true x
/-- dicts -/
def dicM (ρ : List B) : Option (List (Key × PyData)) → Rs (Ev × List B)
  | some m => if m.length ≤ 15 then .ok (.fr (.dict (mergeD [] m)), ρ) else .bad
  | none => .bad
def dicL : Option (List PyData × List B) → Rs (Ev × List B)
  | some (ds, ρ') => dicM ρ' (pairsD ds)
  | none => .bad
def dicK (p : List Ev × List B) : Rs (Ev × List B) := dicL (shrs p.2 p.1)
theorem r_dic {prs : List (SE × SE)} : dicE prs ρ = Rs.bind (flatA prs ρ) dicK := by
  unfold dicE dicK dicL dicM
  congr 1
theorem k_dic1 : dicK (es, ρ) = dicL (shrs ρ es) := id rfl
theorem k_dic2 : dicL (some (ds, ρ)) = dicM ρ (pairsD ds) := id rfl
theorem k_dic3 {mm : List (Key × PyData)} (h : mm.length ≤ 15) : dicM ρ (some mm) = .ok (.fr (.dict (mergeD [] mm)), ρ) := if_pos h
theorem k_dic4 {q : Key} : dicM ρ (some [(q, d)]) = .ok (.fr (.dict [(kD q, d)]), ρ) := id rfl
theorem k_kD1 {x : Int} : kD (.inl x) = .int x := id rfl
theorem k_kD2 {x : Str} : kD (.inr x) = .str x := id rfl
theorem k_fl0 : flatA [] = aNil := id rfl
theorem k_fl1 {prs : List (SE × SE)} : flatA ((fk, fe) :: prs) = aCons fk (aCons fe (flatA prs)) := id rfl
theorem k_pr0 : pairsD [] = some [] := id rfl
theorem k_pr1 {x : Int} : pairsD (.int x :: d :: ds) = (pairsD ds).map fun m => (.inl x, d) :: m := id rfl
theorem k_pr2 {x : Str} : pairsD (.str x :: d :: ds) = (pairsD ds).map fun m => (.inr x, d) :: m := id rfl
theorem r_dic0 : dic0E ρ = .ok (.fr (.dict []), ρ) := id rfl
theorem d_ixDi {kvs : List (PyData × PyData)} {x : Int} : ixD (.dict kvs) (.int x) = (dget kvs (.inl x)).map .val := id rfl
theorem d_ixDs {kvs : List (PyData × PyData)} {x : Str} : ixD (.dict kvs) (.str x) = (dget kvs (.inr x)).map .val := id rfl
theorem d_inGT {x : PyData} : inG x (.tuple ds) = inD x (.tuple ds) := id rfl
theorem d_inGL {x : PyData} : inG x (.list ds) = inD x (.list ds) := id rfl
theorem d_ninGT {x : PyData} : ninG x (.tuple ds) = ninD x (.tuple ds) := id rfl
theorem d_ninGL {x : PyData} : ninG x (.list ds) = ninD x (.list ds) := id rfl
theorem d_inGi {kvs : List (PyData × PyData)} {x : Int} (h : keyed kvs = true) : inG (.int x) (.dict kvs) = some (.val (.bool (dget kvs (.inl x)).isSome)) := by
  unfold inG
  simp only [keyOf, Option.bind, if_pos h]
theorem d_ninGi {kvs : List (PyData × PyData)} {x : Int} (h : keyed kvs = true) : ninG (.int x) (.dict kvs) = some (.val (.bool (!(dget kvs (.inl x)).isSome))) := by
  unfold ninG
  simp only [keyOf, Option.bind, if_pos h]
theorem k_vals {kvs : List (PyData × PyData)} (h : keyed kvs = true) : seqIK valsK (.dict kvs) ρ = .ok (kvs.map (·.2), ρ) := by
  unfold seqIK valsK
  simp only [if_pos h]
theorem k_items {kvs : List (PyData × PyData)} (h : keyed kvs = true) : seqIK itemsK (.dict kvs) ρ = .ok (kvs.map fun p => .tuple [p.1, p.2], ρ) := by
  unfold seqIK itemsK
  simp only [if_pos h]
theorem d_setDi {kvs : List (PyData × PyData)} {x : Int} {y : PyData} (h : keyed kvs = true) (h2 : kvs.length < 1000000) : setD (.dict kvs) (.int x) y = some (.dict (dput kvs (.inl x) y)) := by
  unfold setD
  simp only [keyOf, Option.bind, h, h2, and_self, if_true]
theorem dg_nil {q : Key} : dget [] q = none := id rfl
theorem dg_i {kvs : List (PyData × PyData)} {x y : Int} : dget ((.int x, d) :: kvs) (.inl y) = if x = y then some d else dget kvs (.inl y) := by
  show (if keyOf (.int x) = some (.inl y) then some d else dget kvs (.inl y)) = _
  by_cases h : x = y
  · rw [if_pos h, if_pos (by rw [h]; rfl)]
  · rw [if_neg h, if_neg (fun z => h (by cases z; rfl))]
theorem dg_s {kvs : List (PyData × PyData)} {x y : Str} : dget ((.str x, d) :: kvs) (.inr y) = if x = y then some d else dget kvs (.inr y) := by
  show (if keyOf (.str x) = some (.inr y) then some d else dget kvs (.inr y)) = _
  by_cases h : x = y
  · rw [if_pos h, if_pos (by rw [h]; rfl)]
  · rw [if_neg h, if_neg (fun z => h (by cases z; rfl))]
def dputK : Option PyData → List (PyData × PyData) → Key → PyData → List (PyData × PyData)
  | none, kvs, q, d => kvs ++ [(kD q, d)]
  | some _, kvs, q, d => kvs.map (fun p => if keyOf p.1 = some q then (p.1, d) else p)
theorem dput_K {kvs : List (PyData × PyData)} {q : Key} : dput kvs q d = dputK (dget kvs q) kvs q d := by
  unfold dput dputK
  cases dget kvs q <;> rfl
theorem mg_0 {kvs : List (PyData × PyData)} : mergeD kvs [] = kvs := by unfold mergeD; rfl
theorem mg_s {kvs : List (PyData × PyData)} {q : Key} {r' : List (Key × PyData)} : mergeD kvs ((q, d) :: r') = mergeD (dputK (dget kvs q) kvs q d) r' := by
  conv => lhs; unfold mergeD
  rw [dput_K]
theorem dpk_n {kvs : List (PyData × PyData)} {q : Key} : dputK none kvs q d = kvs ++ [(kD q, d)] := id rfl
theorem ky_i {kvs : List (PyData × PyData)} {x : Int} : keyed ((.int x, d) :: kvs) = true := id rfl
theorem ky_s {kvs : List (PyData × PyData)} {x : Str} : keyed ((.str x, d) :: kvs) = true := id rfl
/-- equality of data -/
def shN (n : Nat) (d : PyData) : Bool := d.canLay0 && decide (d.depth ≤ n)
def shA (n : Nat) (ds : List PyData) : Bool := ds.all (shN n)
theorem shA_nil {n : Nat} : shA n [] = true := id rfl
theorem shA_cons {n : Nat} : shA n (d :: ds) = (shN n d && shA n ds) := id rfl
theorem shA_map {n : Nat} {u : α → PyData} {l' : List α} (h : ∀ z, shN n (u z) = true) : shA n (l'.map u) = true := by
  unfold shA
  rw [List.all_eq_true]
  intro z hz
  obtain ⟨w, _, rfl⟩ := List.mem_map.mp hz
  exact h w
theorem shN_int {n : Nat} {x : Int} : shN n (.int x) = true := by unfold shN PyData.canLay0 PyData.depth; simp
theorem shN_bool {n : Nat} {x : Bool} : shN n (.bool x) = true := by unfold shN PyData.canLay0 PyData.depth; simp
theorem shN_none {n : Nat} : shN n .none = true := by unfold shN PyData.canLay0 PyData.depth; simp
theorem shN_str {n : Nat} {x : Str} (h : PyData.strOk x = true) : shN n (.str x) = true := by unfold shN PyData.canLay0 PyData.depth; simp [h]
theorem shA_ok {n : Nat} {ds : List PyData} : (PyData.canLayAll0 ds && decide (PyData.depthAll ds ≤ n)) = shA n ds := by
  induction ds with
  | nil => unfold shA PyData.canLayAll0 PyData.depthAll; simp
  | cons d ds ih =>
    rw [shA_cons, ← ih]
    unfold shN
    rw [show PyData.canLayAll0 (d :: ds) = (d.canLay0 && PyData.canLayAll0 ds) by simp [PyData.canLayAll0], show PyData.depthAll (d :: ds) = max d.depth (PyData.depthAll ds) by simp [PyData.depthAll]]
    cases d.canLay0 <;> cases PyData.canLayAll0 ds <;> simp [Nat.max_le]
theorem shN_tup {n : Nat} {ds : List PyData} : shN (n + 1) (.tuple ds) = shA n ds := by
  rw [← shA_ok]
  unfold shN
  rw [show PyData.canLay0 (.tuple ds) = PyData.canLayAll0 ds by simp [PyData.canLay0], show PyData.depth (.tuple ds) = PyData.depthAll ds + 1 by simp [PyData.depth]]
  simp
theorem shN_lst {n : Nat} {ds : List PyData} : shN (n + 1) (.list ds) = shA n ds := by
  rw [← shA_ok]
  unfold shN
  rw [show PyData.canLay0 (.list ds) = PyData.canLayAll0 ds by simp [PyData.canLay0], show PyData.depth (.list ds) = PyData.depthAll ds + 1 by simp [PyData.depth]]
  simp
theorem sh_of {x : PyData} (h : shN 64 x = true) : SeqAt.shaped x = true := h
theorem d_eqX {x y : PyData} (hx : shN 64 x = true) (hy : shN 64 y = true) : eqD x y = some (.val (.bool (PyData.eqv x y))) := by
  unfold eqD
  rw [sh_of hx, sh_of hy]
  simp
theorem d_neX {x y : PyData} (hx : shN 64 x = true) (hy : shN 64 y = true) : neD x y = some (.val (.bool (!PyData.eqv x y))) := by
  unfold neD
  rw [sh_of hx, sh_of hy]
  simp
theorem d_inT {x : PyData} (hx : shN 64 x = true) (hy : shN 64 (.tuple ds) = true) : inD x (.tuple ds) = some (.val (.bool (ds.any fun z => PyData.eqv z x))) := by
  unfold inD itemsD
  simp only [Option.bind, sh_of hx, sh_of hy, Bool.and_self, if_true]
theorem d_inL {x : PyData} (hx : shN 64 x = true) (hy : shN 64 (.list ds) = true) : inD x (.list ds) = some (.val (.bool (ds.any fun z => PyData.eqv z x))) := by
  unfold inD itemsD
  simp only [Option.bind, sh_of hx, sh_of hy, Bool.and_self, if_true]
theorem d_ninT {x : PyData} (hx : shN 64 x = true) (hy : shN 64 (.tuple ds) = true) : ninD x (.tuple ds) = some (.val (.bool (!ds.any fun z => PyData.eqv z x))) := by
  unfold ninD itemsD
  simp only [Option.bind, sh_of hx, sh_of hy, Bool.and_self, if_true]
theorem d_ninL {x : PyData} (hx : shN 64 x = true) (hy : shN 64 (.list ds) = true) : ninD x (.list ds) = some (.val (.bool (!ds.any fun z => PyData.eqv z x))) := by
  unfold ninD itemsD
  simp only [Option.bind, sh_of hx, sh_of hy, Bool.and_self, if_true]
theorem ev_ii {x y : Int} : PyData.eqv (.int x) (.int y) = decide (x = y) := by simp only [PyData.eqv]; rfl
theorem ev_bb {x y : Bool} : PyData.eqv (.bool x) (.bool y) = (x == y) := id rfl
theorem ev_ss {x y : Str} : PyData.eqv (.str x) (.str y) = (x == y) := id rfl
theorem ev_nn : PyData.eqv .none .none = true := id rfl
theorem ev_tt {xs ys : List PyData} : PyData.eqv (.tuple xs) (.tuple ys) = PyData.eqvAll xs ys := by simp only [PyData.eqv]
theorem ev_ll {xs ys : List PyData} : PyData.eqv (.list xs) (.list ys) = PyData.eqvAll xs ys := by simp only [PyData.eqv]
theorem ev_0 : PyData.eqvAll [] [] = true := by simp only [PyData.eqvAll]
theorem ev_c {x y : PyData} {xs ys : List PyData} : PyData.eqvAll (x :: xs) (y :: ys) = (PyData.eqv x y && PyData.eqvAll xs ys) := by simp only [PyData.eqvAll]
theorem ev_c0 {x : PyData} {xs : List PyData} : PyData.eqvAll (x :: xs) [] = false := by simp only [PyData.eqvAll]
theorem ev_0c {x : PyData} {xs : List PyData} : PyData.eqvAll [] (x :: xs) = false := by simp only [PyData.eqvAll]
theorem ev_none_bool {b1_ : Bool} : PyData.eqv .none (.bool b1_) = false := id rfl
theorem ev_none_int {i1_ : Int} : PyData.eqv .none (.int i1_) = false := id rfl
theorem ev_none_str {x1_ : Str} : PyData.eqv .none (.str x1_) = false := id rfl
theorem ev_none_list {l1_ : List PyData} : PyData.eqv .none (.list l1_) = false := id rfl
theorem ev_none_tuple {t1_ : List PyData} : PyData.eqv .none (.tuple t1_) = false := id rfl
theorem ev_bool_none {b1_ : Bool} : PyData.eqv (.bool b1_) .none = false := id rfl
theorem ev_bool_str {b1_ : Bool} {x1_ : Str} : PyData.eqv (.bool b1_) (.str x1_) = false := id rfl
theorem ev_bool_list {b1_ : Bool} {l1_ : List PyData} : PyData.eqv (.bool b1_) (.list l1_) = false := id rfl
theorem ev_bool_tuple {b1_ : Bool} {t1_ : List PyData} : PyData.eqv (.bool b1_) (.tuple t1_) = false := id rfl
theorem ev_int_none {i1_ : Int} : PyData.eqv (.int i1_) .none = false := id rfl
theorem ev_int_str {i1_ : Int} {x1_ : Str} : PyData.eqv (.int i1_) (.str x1_) = false := id rfl
theorem ev_int_list {i1_ : Int} {l1_ : List PyData} : PyData.eqv (.int i1_) (.list l1_) = false := id rfl
theorem ev_int_tuple {i1_ : Int} {t1_ : List PyData} : PyData.eqv (.int i1_) (.tuple t1_) = false := id rfl
theorem ev_str_none {x1_ : Str} : PyData.eqv (.str x1_) .none = false := id rfl
theorem ev_str_bool {x1_ : Str} {b1_ : Bool} : PyData.eqv (.str x1_) (.bool b1_) = false := id rfl
theorem ev_str_int {x1_ : Str} {i1_ : Int} : PyData.eqv (.str x1_) (.int i1_) = false := id rfl
theorem ev_str_list {x1_ : Str} {l1_ : List PyData} : PyData.eqv (.str x1_) (.list l1_) = false := id rfl
theorem ev_str_tuple {x1_ : Str} {t1_ : List PyData} : PyData.eqv (.str x1_) (.tuple t1_) = false := id rfl
theorem ev_list_none {l1_ : List PyData} : PyData.eqv (.list l1_) .none = false := id rfl
theorem ev_list_bool {l1_ : List PyData} {b1_ : Bool} : PyData.eqv (.list l1_) (.bool b1_) = false := id rfl
theorem ev_list_int {l1_ : List PyData} {i1_ : Int} : PyData.eqv (.list l1_) (.int i1_) = false := id rfl
theorem ev_list_str {l1_ : List PyData} {x1_ : Str} : PyData.eqv (.list l1_) (.str x1_) = false := id rfl
theorem ev_list_tuple {l1_ : List PyData} {t1_ : List PyData} : PyData.eqv (.list l1_) (.tuple t1_) = false := id rfl
theorem ev_tuple_none {t1_ : List PyData} : PyData.eqv (.tuple t1_) .none = false := id rfl
theorem ev_tuple_bool {t1_ : List PyData} {b1_ : Bool} : PyData.eqv (.tuple t1_) (.bool b1_) = false := id rfl
theorem ev_tuple_int {t1_ : List PyData} {i1_ : Int} : PyData.eqv (.tuple t1_) (.int i1_) = false := id rfl
theorem ev_tuple_str {t1_ : List PyData} {x1_ : Str} : PyData.eqv (.tuple t1_) (.str x1_) = false := id rfl
theorem ev_tuple_list {t1_ : List PyData} {l1_ : List PyData} : PyData.eqv (.tuple t1_) (.list l1_) = false := id rfl
theorem dec_t : (decide p = true) = p := by simp
theorem not_dec : ((!decide p) = true) = ¬ p := by simp
/-- pop, extend, items -/
theorem k_popA : mtPopA (.list (d :: ds)) [.int 0] = some (.list ds, d) := id rfl
theorem k_popZ : mtPop (.list (ds ++ [d])) [] = some (.list ds, d) := by
  show ((ds ++ [d]).getLast?).map _ = _
  rw [List.getLast?_append, List.dropLast_concat]
  rfl
theorem k_pop1 : mtPop (.list [d]) [] = some (.list [], d) := id rfl
def extF (i : Nat) (fe : SE) (ρ : List B) : Option PyData → Rs (Ev × List B)
  | some d => if isLst d = true then extE1 i fe ρ else .bad
  | none => .bad
theorem r_ext : extE i fe ρ = extF i fe ρ ((ρ[i]?).bind ownD) := by
  unfold extE extF
  cases (ρ[i]?).bind ownD <;> rfl
def extK (i : Nat) (p : Ev × List B) : Rs (Ev × List B) := extG i p.2 p.1
theorem k_ext1 : extF i fe ρ (some (.list ds)) = Rs.bind (fe ρ) (extK i) := id rfl
def extJ (i : Nat) (es : List PyData) (ρ : List B) (b : B) : Option PyData → Rs (Ev × List B)
  | some (.list ds) => if ds.length + es.length ≤ 1000000 then .ok (.val .none, ρ.set i (reD b (.list (ds ++ es)))) else .bad
  | _ => .bad
def extH (i : Nat) (es : List PyData) (ρ : List B) : Option B → Rs (Ev × List B)
  | some b => extJ i es ρ b (ownD b)
  | none => .bad
theorem k_ext2 : extK i (.fr (.list ds), ρ) = extH i ds ρ ρ[i]? := by
  unfold extK extG extH
  dsimp only
  cases ρ[i]? with
  | none => rfl
  | some b =>
    dsimp only
    unfold extJ
    cases ownD b with
    | none => rfl
    | some d => cases d <;> rfl
theorem k_ext3 {ds' : List PyData} (h : ds.length + ds'.length ≤ 1000000) : extH i ds' ρ (some (.own (.list ds))) = .ok (.val .none, ρ.set i (.own (.list (ds ++ ds')))) := if_pos h
theorem k_ext4 {ds' : List PyData} (h : ds.length + ds'.length ≤ 1000000) : extH i ds' ρ (some (.prm (.list ds))) = .ok (.val .none, ρ.set i (.prm (.list (ds ++ ds')))) := if_pos h
theorem r_items : itemsE i ρ = itemsJ ρ ((ρ[i]?).bind ownD) := id rfl
theorem k_itemsJ {kvs : List (PyData × PyData)} (h : keyed kvs = true) : itemsJ ρ (some (.dict kvs)) = .ok (.fr (.list (kvs.map fun p => .tuple [p.1, p.2])), ρ) := if_pos h
theorem d_listD {kvs : List (PyData × PyData)} (h : keyed kvs = true) : listD [.dict kvs] = some (.fr (.list (kvs.map (·.1)))) := if_pos h
theorem d_intI {x : Int} : toIntD [.int x] = some (.val (.int x)) := id rfl
theorem d_intB : toIntD [.bool bo] = some (.val (.int (if bo = true then 1 else 0))) := id rfl
theorem d_strI {x : Int} (h : x.natAbs.log2 < 1920) : toStrD [.int x] = some (.val (.str (toString x))) := if_pos h
/-- xs[k] as one of several targets -/
def subK (i : Nat) (fk : SE) (y : PyData) (ρ : List B) : Option PyData → Rs (List B)
  | some _ => Rs.bind (fk ρ) (subH i y)
  | none => .bad
theorem r_subG {y : PyData} : subG i fk y ρ = subK i fk y ρ ((ρ[i]?).bind ownD) := by
  unfold subG subK
  cases (ρ[i]?).bind ownD <;> rfl
theorem k_sub1 {y : PyData} : subK i fk y ρ (some d) = Rs.bind (fk ρ) (subH i y) := id rfl
def subO (i : Nat) (b : B) (ρ : List B) : Option PyData → Rs (List B)
  | some d' => .ok (ρ.set i (reD b d'))
  | none => .bad
def subM (i : Nat) (y k : PyData) (ρ : List B) : Option B → Rs (List B)
  | some b => (match ownD b with
    | some d => subO i b ρ (setD d k y)
    | none => .bad)
  | none => .bad
def subL (i : Nat) (y : PyData) (ρ : List B) : Option PyData → Rs (List B)
  | some k => subM i y k ρ ρ[i]?
  | none => .bad
theorem k_sub2 {y : PyData} : subH i y (e, ρ) = subL i y ρ (peek ρ e) := by
  unfold subH subL
  dsimp only
  cases peek ρ e with
  | none => rfl
  | some k =>
    dsimp only
    unfold subM
    cases ρ[i]? with
    | none => rfl
    | some b =>
      dsimp only
      cases ownD b with
      | none => rfl
      | some d => dsimp only; unfold subO; cases setD d k y <;> rfl
theorem k_sub3 {y k : PyData} : subL i y ρ (some k) = subM i y k ρ ρ[i]? := id rfl
theorem k_sub4 {y k : PyData} : subM i y k ρ (some (.own d)) = subO i (.own d) ρ (setD d k y) := id rfl
theorem k_sub5 {y k : PyData} : subM i y k ρ (some (.prm d)) = subO i (.prm d) ρ (setD d k y) := id rfl
theorem k_sub6 {d' : PyData} : subO i (.own d) ρ (some d') = .ok (ρ.set i (.own d')) := id rfl
theorem k_sub7 {d' : PyData} : subO i (.prm d) ρ (some d') = .ok (ρ.set i (.prm d')) := id rfl
theorem r_tupL1 {u : List PyData → List B → Rs (List B)} : tupG 1 u (.list [d1]) ρ = u [d1] ρ := id rfl
theorem r_tupL2 {u : List PyData → List B → Rs (List B)} : tupG 2 u (.list [d1, d2]) ρ = u [d1, d2] ρ := id rfl
theorem r_tupL3 {u : List PyData → List B → Rs (List B)} : tupG 3 u (.list [d1, d2, d3]) ρ = u [d1, d2, d3] ρ := id rfl
theorem r_tupL4 {u : List PyData → List B → Rs (List B)} {d4 : PyData} : tupG 4 u (.list [d1, d2, d3, d4]) ρ = u [d1, d2, d3, d4] ρ := id rfl
theorem d_isB {x y : Bool} : isD (.bool x) (.bool y) = some (.val (.bool (decide (x = y)))) := id rfl
theorem d_isnB {x y : Bool} : isnD (.bool x) (.bool y) = some (.val (.bool (!decide (x = y)))) := id rfl
theorem d_isnN {x : PyData} : isnD x .none = some (.val (.bool (!isNoneD x))) := by unfold isnD; cases x <;> rfl
theorem d_revL {ds : List PyData} : revD (.list ds) = some (.fr (.list ds.reverse)) := id rfl
theorem d_revT {ds : List PyData} : revD (.tuple ds) = some (.val (.tuple ds.reverse)) := id rfl
/-- turns by a slot's number -/
def fuelI (i : Nat) (ρ : List B) : Nat := match ρ[i]? with
  | some (.val (.int z)) => z.natAbs + 1
  | _ => 0
end
end G
namespace M
open PySem PySem.Spec PyProof.Rows L2 G
abbrev c_IDENTITY : PyData := .tuple [.int (0), .int (0), .int (0)]
abbrev c_KINDS : PyData := .int (8)
abbrev c_LINEAR : PyData := .tuple [.tuple [.int (1), .int (0), .int (0), .int (1)], .tuple [.int (0), .int (-1), .int (1), .int (0)], .tuple [.int (-1), .int (0), .int (0), .int (-1)], .tuple [.int (0), .int (1), .int (-1), .int (0)], .tuple [.int (-1), .int (0), .int (0), .int (1)], .tuple [.int (0), .int (-1), .int (-1), .int (0)], .tuple [.int (1), .int (0), .int (0), .int (-1)], .tuple [.int (0), .int (1), .int (1), .int (0)]]
abbrev c_MOST_GENERATORS : PyData := .int (6)
abbrev c_MOST_SIDE : PyData := .int (12)
def B__law_source : SS := (retS (lstE (aCons (opN max2D (aCons (fC (.int 0)) (aCons (op2 subD (fV 0) (op2 powD (fC (.int 10)) (fC (.int 18)))) aNil))) (aCons (op2 addD (op2 modD (fV 0) (fC (.int 2147483629))) (fC (.int 1))) (aCons (fC (.int 0)) aNil)))))
def F__law_source : SE := defF 1 B__law_source
theorem r__law_source {x0_ : B} : F__law_source [x0_] = Rs.bind (B__law_source [x0_]) (retF 1) := rfl
def B__law_cell : SS := (seqS (ifS (fB (op2 (cmpI fun i j => decide (i < j)) (fV 1) (opN lenD (aCons (fV 0) aNil)))) (retS (op2 ixD (fV 0) (fV 1))) nxS) (retS (fC (.int 0))))
def F__law_cell : SE := defF 2 B__law_cell
theorem r__law_cell {x0_ x1_ : B} : F__law_cell [x0_, x1_] = Rs.bind (B__law_cell [x0_, x1_]) (retF 2) := rfl
def B_is_integer : SS := (retS (andV (op1 (isiD "int") (fV 0)) (notV (op1 (isiD "bool") (fV 0)))))
def F_is_integer : SE := defF 1 B_is_integer
def B_is_between : SS := (retS (andV (callF [false] F_is_integer [] (aCons (fV 0) aNil)) (ch3 (cmpI fun i j => decide (i ≤ j)) (cmpI fun i j => decide (i ≤ j)) (fV 1) (fV 0) (fV 2))))
def F_is_between : SE := defF 3 B_is_between
theorem r_is_between {x0_ x1_ x2_ : B} : F_is_between [x0_, x1_, x2_] = Rs.bind (B_is_between [x0_, x1_, x2_]) (retF 3) := rfl
def B_is_symmetry : SS := (seqS (ifS (orB (notB (fB (op1 (isiD "tuple") (fV 0)))) (orB (fB (op2 neD (opN lenD (aCons (fV 0) aNil)) (fC (.int 3)))) (notB (fB (opN allD (aCons (lcE (seqI bothK (fV 0)) (nmG 1) yesB (callF [false] F_is_integer [] (aCons (fV 1) aNil)) [1]) aNil)))))) (retS (fC (.bool false))) nxS) (retS (callF [false, false, false] F_is_between [] (aCons (op2 ixD (fV 0) (fC (.int 0))) (aCons (fC (.int 0)) (aCons (op2 subD (fC c_KINDS) (fC (.int 1))) aNil))))))
def F_is_symmetry : SE := defF 2 B_is_symmetry
theorem r_is_symmetry {x0_ : B} : F_is_symmetry [x0_] = Rs.bind (B_is_symmetry [x0_, .un]) (retF 1) := rfl
def B_added : SS := (retS (tupE (aCons (op2 addD (op2 ixD (fV 0) (fC (.int 0))) (op2 mulD (fV 2) (op2 ixD (fV 1) (fC (.int 0))))) (aCons (op2 addD (op2 ixD (fV 0) (fC (.int 1))) (op2 mulD (fV 2) (op2 ixD (fV 1) (fC (.int 1))))) aNil))))
def F_added : SE := defF 3 B_added
theorem r_added {x0_ x1_ x2_ : B} : F_added [x0_, x1_, x2_] = Rs.bind (B_added [x0_, x1_, x2_]) (retF 3) := rfl
def B_turned : SS := (seqS (asgG (tupG 4 (consG (nmG 2) (consG (nmG 3) (consG (nmG 4) (consG (nmG 5) nilG))))) (op2 ixD (fC c_LINEAR) (fV 0))) (retS (tupE (aCons (op2 addD (op2 mulD (fV 2) (op2 ixD (fV 1) (fC (.int 0)))) (op2 mulD (fV 3) (op2 ixD (fV 1) (fC (.int 1))))) (aCons (op2 addD (op2 mulD (fV 4) (op2 ixD (fV 1) (fC (.int 0)))) (op2 mulD (fV 5) (op2 ixD (fV 1) (fC (.int 1))))) aNil)))))
def F_turned : SE := defF 6 B_turned
def B_offset : SS := (retS (slE (fV 0) (some (fC (.int 1))) none))
def F_offset : SE := defF 1 B_offset
def B_image_of : SS := (retS (callF [false, false] F_added [B.val (.int (1))] (aCons (callF [false, false] F_turned [] (aCons (op2 ixD (fV 0) (fC (.int 0))) (aCons (fV 1) aNil))) (aCons (callF [false] F_offset [] (aCons (fV 0) aNil)) aNil))))
def F_image_of : SE := defF 2 B_image_of
theorem r_image_of {x0_ x1_ : B} : F_image_of [x0_, x1_] = Rs.bind (B_image_of [x0_, x1_]) (retF 2) := rfl
def B__law_draw : SS := (seqS (ifS (fB (op2 (cmpI fun i j => decide (j < i)) (op2 ixD (fV 0) (fC (.int 0))) (fC (.int 0)))) (seqS (asgS 2 (op2 modD (op2 ixD (fV 0) (fC (.int 0))) (fV 1))) (seqS (setS 0 (fC (.int 0)) (op2 fdivD (op2 ixD (fV 0) (fC (.int 0))) (fV 1))) (retS (fV 2)))) nxS) (seqS (setS 0 (fC (.int 2)) (op2 addD (op2 ixD (fV 0) (fC (.int 2))) (fC (.int 1)))) (seqS (setS 0 (fC (.int 1)) (op2 modD (op2 addD (op2 addD (op2 mulD (op2 ixD (fV 0) (fC (.int 1))) (fC (.int 48271))) (op2 mulD (fC (.int 1009)) (op2 ixD (fV 0) (fC (.int 2))))) (fC (.int 7))) (fC (.int 2147483647)))) (seqS (asgS 3 (op2 modD (op2 addD (op2 addD (op2 mulD (op2 ixD (fV 0) (fC (.int 1))) (op2 ixD (fV 0) (fC (.int 1)))) (op2 mulD (fC (.int 69621)) (op2 ixD (fV 0) (fC (.int 1))))) (fC (.int 11))) (fC (.int 2147483629)))) (seqS (asgS 3 (op2 modD (op2 addD (op2 mulD (fV 3) (fV 3)) (op2 mulD (fC (.int 40014)) (fV 3))) (fC (.int 2147483587)))) (retS (op2 modD (op2 fdivD (fV 3) (fC (.int 16))) (fV 1))))))))
def F__law_draw : SE := defF 4 B__law_draw
theorem r__law_draw {x0_ x1_ : B} : F__law_draw [x0_, x1_] = Rs.bind (B__law_draw [x0_, x1_, .un, .un]) (retF 2) := rfl
def B__law_square : SS := (retS (tupE (aCons (op2 subD (callF [true, false] F__law_draw [] (aCons (fV 0) (aCons (op2 addD (op2 mulD (fC (.int 2)) (fV 1)) (fC (.int 1))) aNil))) (fV 1)) (aCons (op2 subD (callF [true, false] F__law_draw [] (aCons (fV 0) (aCons (op2 addD (op2 mulD (fC (.int 2)) (fV 1)) (fC (.int 1))) aNil))) (fV 1)) aNil))))
def F__law_square : SE := defF 2 B__law_square
theorem r__law_square {x0_ x1_ : B} : F__law_square [x0_, x1_] = Rs.bind (B__law_square [x0_, x1_]) (retF 2) := rfl
def L1__law_linear : SS := (parS 2 3 (op2 subD (fC (.int 0)) (fV 3)) (fV 2))
def B__law_linear : SS := (seqS (asgG (tupG 2 (consG (nmG 2) (consG (nmG 3) nilG))) (fV 1)) (seqS (ifS (fB (op2 (cmpI fun i j => decide (j < i)) (fV 0) (fC (.int 3)))) (asgS 2 (op2 subD (fC (.int 0)) (fV 2))) nxS) (seqS (forS (rng1I (aCons (op2 modD (fV 0) (fC (.int 4))) aNil)) (nmG 4) L1__law_linear) (retS (tupE (aCons (fV 2) (aCons (fV 3) aNil)))))))
def F__law_linear : SE := defF 5 B__law_linear
def B__law_image : SS := (seqS (asgG (tupG 2 (consG (nmG 2) (consG (nmG 3) nilG))) (callF [false, false] F__law_linear [] (aCons (op2 ixD (fV 0) (fC (.int 0))) (aCons (fV 1) aNil)))) (retS (tupE (aCons (op2 addD (fV 2) (op2 ixD (fV 0) (fC (.int 1)))) (aCons (op2 addD (fV 3) (op2 ixD (fV 0) (fC (.int 2)))) aNil)))))
def F__law_image : SE := defF 4 B__law_image
theorem r__law_image {x0_ x1_ : B} : F__law_image [x0_, x1_] = Rs.bind (B__law_image [x0_, x1_, .un, .un]) (retF 2) := rfl
def B__law_is_equal : SS := (retS (op2 eqD (opN reprD (aCons (fV 0) aNil)) (opN reprD (aCons (fV 1) aNil))))
def F__law_is_equal : SE := defF 2 B__law_is_equal
theorem r__law_is_equal {x0_ x1_ : B} : F__law_is_equal [x0_, x1_] = Rs.bind (B__law_is_equal [x0_, x1_]) (retF 2) := rfl
def B__law_symmetry : SS := (retS (op2 addD (tupE (aCons (callF [true, false] F__law_draw [] (aCons (fV 0) (aCons (fC (.int 8)) aNil))) aNil)) (callF [true, false] F__law_square [] (aCons (fV 0) (aCons (fV 1) aNil)))))
def F__law_symmetry : SE := defF 2 B__law_symmetry
theorem r__law_symmetry {x0_ x1_ : B} : F__law_symmetry [x0_, x1_] = Rs.bind (B__law_symmetry [x0_, x1_]) (retF 2) := rfl
def B__law_image_2 : SS := (seqS (asgG (tupG 2 (consG (nmG 2) (consG (nmG 3) nilG))) (callF [false, false] F__law_linear [] (aCons (op2 ixD (fV 0) (fC (.int 0))) (aCons (fV 1) aNil)))) (retS (tupE (aCons (op2 addD (fV 2) (op2 ixD (fV 0) (fC (.int 1)))) (aCons (op2 addD (fV 3) (op2 ixD (fV 0) (fC (.int 2)))) aNil)))))
def F__law_image_2 : SE := defF 4 B__law_image_2
def B_kind_after : SS := (seqS (asgG (tupG 2 (consG (nmG 2) (consG (nmG 3) nilG))) (callF [false, false] F_turned [] (aCons (fV 1) (aCons (callF [false, false] F_turned [] (aCons (fV 0) (aCons (tupE (aCons (fC (.int 1)) (aCons (fC (.int 0)) aNil))) aNil))) aNil)))) (seqS (asgG (tupG 2 (consG (nmG 4) (consG (nmG 5) nilG))) (callF [false, false] F_turned [] (aCons (fV 1) (aCons (callF [false, false] F_turned [] (aCons (fV 0) (aCons (tupE (aCons (fC (.int 0)) (aCons (fC (.int 1)) aNil))) aNil))) aNil)))) (retS (idxK c_LINEAR (aCons (tupE (aCons (fV 2) (aCons (fV 4) (aCons (fV 3) (aCons (fV 5) aNil))))) aNil)))))
def F_kind_after : SE := defF 6 B_kind_after
def B_product_of : SS := (retS (op2 addD (tupE (aCons (callF [false, false] F_kind_after [] (aCons (op2 ixD (fV 0) (fC (.int 0))) (aCons (op2 ixD (fV 1) (fC (.int 0))) aNil))) aNil)) (callF [false, false] F_image_of [] (aCons (fV 1) (aCons (callF [false] F_offset [] (aCons (fV 0) aNil)) aNil)))))
def F_product_of : SE := defF 2 B_product_of
theorem r_product_of {x0_ x1_ : B} : F_product_of [x0_, x1_] = Rs.bind (B_product_of [x0_, x1_]) (retF 2) := rfl
def B__law_choose : SS := (retS (op2 ixD (fV 1) (callF [true, false] F__law_draw [] (aCons (fV 0) (aCons (opN lenD (aCons (fV 1) aNil)) aNil)))))
def F__law_choose : SE := defF 2 B__law_choose
theorem r__law_choose {x0_ x1_ : B} : F__law_choose [x0_, x1_] = Rs.bind (B__law_choose [x0_, x1_]) (retF 2) := rfl
def L1__law_generators : SS := (seqS (dropS (mutE 4 mtApp (aCons (callF [true, false] F__law_symmetry [] (aCons (fV 0) (aCons (fV 2) aNil))) aNil))) (seqS (ifS (fB (op2 eqD (fV 3) (fC (.int 0)))) (seqS (asgS 9 (op2 subD (callF [true, false] F__law_draw [] (aCons (fV 0) (aCons (fC (.int 5)) aNil))) (fC (.int 2)))) (seqS (parS 10 11 (op2 mulD (fV 9) (op2 ixD (fV 6) (fC (.int 0)))) (op2 mulD (fV 9) (op2 ixD (fV 6) (fC (.int 1))))) (setS 4 (op1 negD (fC (.int 1))) (tupE (aCons (fC (.int 0)) (aCons (opN max2D (aCons (op2 subD (fC (.int 0)) (fV 2)) (aCons (opN min2D (aCons (fV 2) (aCons (fV 10) aNil))) aNil))) (aCons (opN max2D (aCons (op2 subD (fC (.int 0)) (fV 2)) (aCons (opN min2D (aCons (fV 2) (aCons (fV 11) aNil))) aNil))) aNil))))))) nxS) (seqS (ifS (fB (op2 eqD (fV 3) (fC (.int 1)))) (setS 4 (op1 negD (fC (.int 1))) (op2 addD (tupE (aCons (fV 5) aNil)) (slE (op2 ixD (fV 4) (op1 negD (fC (.int 1)))) (some (fC (.int 1))) none))) nxS) (seqS (ifS (fB (op2 eqD (fV 3) (fC (.int 2)))) (setS 4 (op1 negD (fC (.int 1))) (op2 addD (slE (op2 ixD (fV 4) (op1 negD (fC (.int 1)))) none (some (fC (.int 1)))) (tupE (aCons (fC (.int 0)) (aCons (fC (.int 0)) aNil))))) nxS) (ifS (fB (op2 eqD (fV 3) (fC (.int 3)))) (setS 4 (op1 negD (fC (.int 1))) (op2 addD (slE (op2 ixD (fV 4) (op1 negD (fC (.int 1)))) none (some (fC (.int 1)))) (opN tupleD (aCons (lcE (seqI bothK (slE (op2 ixD (fV 4) (op1 negD (fC (.int 1)))) (some (fC (.int 1))) none)) (nmG 12) yesB (op2 mulD (op2 fdivD (fV 12) (fV 7)) (fV 7)) [12]) aNil)))) nxS)))))
def B__law_generators : SS := (seqS (parN [3, 4] [(callF [true, false] F__law_draw [] (aCons (fV 0) (aCons (fC (.int 7)) aNil))), (lstE aNil)]) (seqS (parN [5, 6, 7] [(callF [true, false] F__law_draw [] (aCons (fV 0) (aCons (fC (.int 8)) aNil))), (callF [true, false] F__law_square [] (aCons (fV 0) (aCons (fV 2) aNil))), (op2 addD (fC (.int 1)) (callF [true, false] F__law_draw [] (aCons (fV 0) (aCons (fC (.int 4)) aNil))))]) (seqS (forS (rng1I (aCons (callF [true, false] F__law_draw [] (aCons (fV 0) (aCons (op2 addD (fV 1) (fC (.int 1))) aNil))) aNil)) (nmG 8) L1__law_generators) (seqS (asgS 4 (lcE (seqI bothK (fV 4)) (tupG 3 (consG (nmG 5) (consG (nmG 10) (consG (nmG 11) nilG)))) yesB (tupE (aCons (fV 5) (aCons (opN max2D (aCons (op2 subD (fC (.int 0)) (fV 2)) (aCons (fV 10) aNil))) (aCons (opN max2D (aCons (op2 subD (fC (.int 0)) (fV 2)) (aCons (fV 11) aNil))) aNil)))) [5, 10, 11])) (seqS (ifS (andB (fB (op2 neD (fV 4) (lstE aNil))) (fB (op2 eqD (fV 3) (fC (.int 4))))) (asgS 4 (op2 addD (slE (fV 4) none (some (fC (.int 1)))) (lcE (seqI bothK (slE (fV 4) (some (fC (.int 1))) none)) (nmG 12) yesB (callF [true, false] F__law_choose [] (aCons (fV 0) (aCons (fV 4) aNil))) [12]))) nxS) (retS (opN tupleD (aCons (fV 4) aNil))))))))
def F__law_generators : SE := defF 13 B__law_generators
theorem r__law_generators {x0_ x1_ x2_ : B} : F__law_generators [x0_, x1_, x2_] = Rs.bind (B__law_generators [x0_, x1_, x2_, .un, .un, .un, .un, .un, .un, .un, .un, .un, .un]) (retF 3) := rfl
def B_is_generators : SS := (retS (andV (op1 (isiD "tuple") (fV 0)) (andV (op2 (cmpI fun i j => decide (i ≤ j)) (opN lenD (aCons (fV 0) aNil)) (fC c_MOST_GENERATORS)) (opN allD (aCons (lcE (seqI bothK (fV 0)) (nmG 1) yesB (callF [false] F_is_symmetry [] (aCons (fV 1) aNil)) [1]) aNil)))))
def F_is_generators : SE := defF 2 B_is_generators
theorem r_is_generators {x0_ : B} : F_is_generators [x0_] = Rs.bind (B_is_generators [x0_, .un]) (retF 1) := rfl
def B_need_generators : SS := (ifS (notB (fB (callF [false] F_is_generators [] (aCons (fV 0) aNil)))) (exS_ "GeneratorsError") nxS)
def F_need_generators : SE := defF 1 B_need_generators
theorem r_need_generators {x0_ : B} : F_need_generators [x0_] = Rs.bind (B_need_generators [x0_]) (retF 1) := rfl
end M
namespace M
open PySem PySem.Spec PyProof.Rows L2 G
end M
namespace M
open PySem PySem.Spec PyProof.Rows L2 G
end M
/-! a def that calls itself: the bottom; x == () of any tuple -/
namespace G
open PySem PySem.Spec PyProof.Rows L2
/-! ### x == () -/
/-! ### t * k of a tuple -/
end G
namespace G
open PySem PySem.Spec PyProof.Rows L2
/-! a comprehension over a slot's own list, which stays the slot's own -/
end G
namespace M
open PySem PySem.Spec PyProof.Rows L2 G
def mu_divisor_1 : List B → Nat := fuelI 1
def L1_divisor : SS := (parS 0 1 (fV 1) (op2 modD (fV 0) (fV 1)))
def B_divisor : SS := (seqS (whS mu_divisor_1 (fB (op2 neD (fV 1) (fC (.int 0)))) L1_divisor) (retS (opN absD (aCons (fV 0) aNil))))
def F_divisor : SE := defF 2 B_divisor
theorem r_divisor {x0_ x1_ : B} : F_divisor [x0_, x1_] = Rs.bind (B_divisor [x0_, x1_]) (retF 2) := rfl
end M
namespace M
open PySem PySem.Spec PyProof.Rows L2 G
def B__law_is_equal_2 : SS := (retS (op2 eqD (opN reprD (aCons (fV 0) aNil)) (opN reprD (aCons (fV 1) aNil))))
def F__law_is_equal_2 : SE := defF 2 B__law_is_equal_2
end M
namespace M
open PySem PySem.Spec PyProof.Rows L2 G
end M
namespace M
open PySem PySem.Spec PyProof.Rows L2 G
end M
namespace G
open PySem PySem.Spec PyProof.Rows L2
/-! ### try: .. except ..: a body that nothing leaves as an exception -/
/-! ### xs.pop(i) -/
theorem DrAll.erase {K : PySem.W.Frag} {S : Addr → Prop} {H : Hp} : ∀ {vs : List V} {ds : List PyData} (n : Nat), DrAll K S H vs ds → DrAll K S H (vs.eraseIdx n) (ds.eraseIdx n)
  | [], _, n, h => by cases h; exact .nil
  | v :: vs, _, 0, h => by
    cases h with
    | cons h1 h2 => exact h2
  | v :: vs, _, n + 1, h => by
    cases h with
    | cons h1 h2 => exact .cons h1 (DrAll.erase n h2)
end G
namespace M
open PySem PySem.Spec PyProof.Rows L2 G
end M
/-! == and != where a dict stands against an int, and of any items against () and [] -/
namespace G
open PySem PySem.Spec PyProof.Rows L2
open AutoSeq1 (wpAny_loadPart')
/-! ### a dict and an int -/
/-! ### a dict against an int, within tuples -/
/-! ### the operators -/
end G
namespace M
open PySem PySem.Spec PyProof.Rows L2 G
end M
set_option maxHeartbeats 2000000
namespace G
open PySem PySem.Spec PyProof.Rows L2
/-! ### f'..' of texts and ints -/
/-! ### methods of a text with one argument -/
end G
namespace M
open PySem PySem.Spec PyProof.Rows L2 G
end M
namespace M
open PySem PySem.Spec PyProof.Rows L2 G
end M
set_option maxHeartbeats 2000000
/-! an exception class with an own __init__: X(amount, limit); err.amount in an except suite -/
namespace G
open PySem PySem.Spec PyProof.Rows L2
/-! ### raise X(a, b) -/
/-! ### err.f -/
/-! ### the end -/
end G
set_option maxHeartbeats 2000000
/-! [e for .. in .. if .. for .. in .. if ..] -/
namespace G
open PySem PySem.Spec PyProof.Rows L2
section
variable (t : SG) (c : SB) (fi1 : SI) (t1 : SG) (c1 : SB) (fe : SE) (vs vs1 : List Nat)
def lcL2 : Nat → List PyData → List B → Option (List PyData × List B)
  | _, [], ρ => some ([], ρ)
  | n, d :: ds, ρ => match t d ρ with
    | .ok ρ1 => (match c ρ1 with
      | .ok (true, ρ2) => (match fi1 ρ2 with
        | .ok (ds1, ρ3) => (match lcL t1 c1 fe vs1 n ds1 (wipeB ρ3 vs1) with
          | some (ys, ρ4) => (lcL2 (n + ys.length) ds (wipeB ρ4 vs)).map fun p => (ys ++ p.1, p.2)
          | none => none)
        | _ => none)
      | .ok (false, ρ2) => lcL2 n ds (wipeB ρ2 vs)
      | _ => none)
    | _ => none
def lc2E (it : SI) : SE := fun ρ => (it ρ).bind fun p => match lcL2 t c fi1 t1 c1 fe vs vs1 0 p.1 (wipeB p.2 vs) with
  | some (all, ρe) => .ok (.fr (.list all), wipeB ρe vs)
  | none => .bad
end
theorem wipe_sub {σ : St} {vs vs1 : List Nat} (h : ∀ i ∈ vs1, i ∈ vs) : wipe (wipe σ vs1) vs = wipe σ vs := by
  apply List.ext_getElem?
  intro k
  rw [wipe_get, wipe_get, wipe_get]
  by_cases hk : k ∈ vs
  · rw [if_pos hk, if_pos hk]
    by_cases h1 : k ∈ vs1
    · rw [if_pos h1]; cases σ[k]? <;> rfl
    · rw [if_neg h1]
  · rw [if_neg hk, if_neg hk, if_neg fun z => hk (h k z)]
section
variable {X : Cx} {A0 : Ax} {W : WX} {elt tg iter tg1 iter1 : Expr} {ifs ifs1 : List Expr} {scope : Scope} {own : List (Str × Nat)} {pos : Pos} {fi fi1 : SI} {ft ft1 : SG} {fc fc1 : SB} {fe : SE}
theorem lc2_ok {g : Gc} {vs vs1 : List Nat} (hsub : ∀ i ∈ vs1, i ∈ vs) : ∀ σ H Q, tE g (lc2E ft fc fi1 ft1 fc1 fe vs vs1 fi) σ H Q →
    tLc2 (tI g fi) (tG (gb g.K g.mg g.A0) vs ft) (tT (gb g.K g.mg g.A0) fc) (tI (gb g.K g.mg g.A0) fi1) (tG (gb g.K g.mg g.A0) vs1 ft1) (tT (gb g.K g.mg g.A0) fc1) (tE (gb g.K g.mg g.A0) fe) vs vs1 σ H Q := by
  rintro σ H Q ⟨S, ρ, r, h⟩
  refine tI_bind (P := fun z => PostE g S H σ ρ z Q) exE PostE.bad r h fun p S1 H1 J t1 r1 ok h1 => ?_
  obtain ⟨ds, ρ1⟩ := p
  simp only at h1
  cases eq : lcL2 ft fc fi1 ft1 fc1 fe vs vs1 0 ds (wipeB ρ1 vs) with
  | none => rw [eq] at h1; exact h1.elim
  | some pr =>
    obtain ⟨all, ρe⟩ := pr
    rw [eq] at h1
    simp only at h1
    intro D hD
    have hD0 : H D = none := t1.fresh hD
    obtain ⟨rw1, ow1⟩ := r1.wiped (σ' := wipe σ vs) (vs := vs) wipe_wipe
    have noA : ∀ j, g.A0 j ≠ some D := fun j hj => by obtain ⟨o, e⟩ := r1.aa j D hj; rw [hD] at e; cases e
    refine ⟨fun i m H' => ∃ S' ρ' acc accV rest, i + m = ds.length ∧ Rp g.K g.A0 S' H' (wipe σ vs) ρ' ∧ ItOk g.K J S' H' ds ∧ Tr S H (Ow σ ρ) S' H' (Ow (wipe σ vs) ρ') ∧ H' D = some (.lst accV) ∧ DrAll g.K S' H' accV acc ∧ ¬ S' D ∧ ¬ Ow (wipe σ vs) ρ' D ∧
        lcL2 ft fc fi1 ft1 fc1 fe vs vs1 accV.length (ds.drop i) ρ' = some (rest, ρe) ∧ acc ++ rest = all, ⟨ds.length, ?_⟩, ?_⟩
    · have sm : L2.Same H1 (upd H1 D (.lst [])) := same_alloc hD
      have nS : ¬ S1 D := fun z => by obtain ⟨o, e⟩ := r1.al D z; rw [hD] at e; cases e
      refine ⟨S1, wipeB ρ1 vs, [], [], all, by omega, rw1.same sm, ok.mono (Ex.same sm), ?_, upd_same, .nil, nS, fun z => ?_, eq, rfl⟩
      · have tt := t1.same sm
        exact ⟨tt.s, tt.keep, tt.dom, fun a z => tt.o a (ow1 a z), tt.g⟩
      · obtain ⟨o, e⟩ := r1.alive (ow1 D z); rw [hD] at e; cases e
    · rintro i m H' ⟨S', ρ', acc, accV, rest, hm, rp, ok', t', hl, dacc, nS, nO, hL, hall⟩
      cases m with
      | zero =>
        have hi : i = ds.length := by omega
        subst hi
        rw [List.drop_length] at hL
        have hL' : some (([] : List PyData), ρ') = some (rest, ρe) := hL
        cases hL'
        rw [List.append_nil] at hall
        subst hall
        obtain ⟨rf, of⟩ := rp.wiped (σ' := σ) (vs := vs) (by rw [wipe_wipe])
        refine .inl ⟨ok'.end_ S' H' (Ex.same fun _ _ e => e), h1 S' H' (.ref D) ⟨t'.s, t'.keep, t'.dom, fun a z => t'.o a (of a z), t'.g⟩ rf ⟨D, rfl, ⟨hD0, noA⟩, nS, fun z => nO (of D z), _, hl, .lst dacc⟩⟩
      | succ n =>
        have hlt : i < ds.length := by omega
        have e : ds[i]? = some ds[i] := List.getElem?_eq_getElem hlt
        obtain ⟨hgo, hy⟩ := ok'.at_ S' H' i _ (Ex.same fun _ _ e => e) e
        rw [drop_cons e] at hL
        refine .inr ⟨hgo, fun H'' => ∃ S' ρ' acc accV rest, i + 1 + n = ds.length ∧ Rp g.K g.A0 S' H'' (wipe σ vs) ρ' ∧ ItOk g.K J S' H'' ds ∧ Tr S H (Ow σ ρ) S' H'' (Ow (wipe σ vs) ρ') ∧ H'' D = some (.lst accV) ∧ DrAll g.K S' H'' accV acc ∧ ¬ S' D ∧ ¬ Ow (wipe σ vs) ρ' D ∧
          lcL2 ft fc fi1 ft1 fc1 fe vs vs1 accV.length (ds.drop (i + 1)) ρ' = some (rest, ρe) ∧ acc ++ rest = all, fun H'' q => ⟨n, Nat.lt_succ_self n, q⟩, fun x H2 y => ?_⟩
        obtain ⟨sm, dx⟩ := hy x H2 y
        have tg0 : Tr S' H' (Ow (wipe σ vs) ρ') S' H2 (Ow (wipe σ vs) ρ') := Tr.grow sm
        refine ⟨S', ρ', ds[i], rp.same sm, dx, ?_⟩
        unfold lcL2 at hL
        cases e1 : ft ds[i] ρ' with
        | bad => rw [e1] at hL; cases hL
        | ex k ρ2 => rw [e1] at hL; cases hL
        | ok ρ2 =>
          rw [e1] at hL
          simp only at hL
          intro S2 H3 σ2 t2 r2 w2
          have w2' : wipe σ2 vs = wipe σ vs := by rw [w2, wipe_wipe]
          refine ⟨w2', S2, ρ2, r2, ?_⟩
          have t02 := tg0.trans t2
          cases e2 : fc ρ2 with
          | bad => rw [e2] at hL; cases hL
          | ex k ρ3 => rw [e2] at hL; cases hL
          | ok pb =>
            obtain ⟨b, ρ3⟩ := pb
            rw [e2] at hL
            intro S3 H4 t3 r3
            have t03 := t02.trans t3
            -- the new list is as it was
            have keepD : ∀ {S0 S4 : Addr → Prop} {H0 H5 : Hp} {O0 O5 : Addr → Prop} {av : List V}, ¬ S0 D → H0 D = some (.lst av) → ¬ O0 D → Tr S0 H0 O0 S4 H5 O5 → H5 D = some (.lst av) ∧ ¬ S4 D ∧ ¬ O5 D := fun nS hl nO t => by
              refine ⟨t.keepN hl nO fun z => z, fun z => ?_, fun z => ?_⟩
              · rcases t.g D z with z | z | z
                · exact nS z
                · exact nO z
                · rw [hl] at z; cases z
              · rcases t.o D z with z | z
                · exact nO z
                · rw [hl] at z; cases z
            cases b with
            | false =>
              simp only at hL
              refine iteF ?_
              obtain ⟨r4, o4⟩ := r3.wiped (σ' := wipe σ vs) (vs := vs) (by rw [wipe_wipe, w2'])
              obtain ⟨k1, k2, k3⟩ := keepD nS hl nO t03
              have tt := t'.trans t03
              exact ⟨S3, wipeB ρ3 vs, acc, accV, rest, by omega, r4, ok'.mono (rp.ex t03), ⟨tt.s, tt.keep, tt.dom, fun a z => tt.o a (o4 a z), tt.g⟩, k1, dacc.ex (rp.ex t03), k2, fun z => k3 (o4 D z), hL, hall⟩
            | true =>
              simp only at hL
              refine iteT ⟨S3, ρ3, r3, ?_⟩
              cases e3 : fi1 ρ3 with
              | bad => rw [e3] at hL; cases hL
              | ex k ρ4 => rw [e3] at hL; cases hL
              | ok pi =>
                obtain ⟨ds1, ρ4⟩ := pi
                rw [e3] at hL
                simp only at hL
                intro S4 H5 J1 t4 r4 ok1
                have t04 := t03.trans t4
                cases e4 : lcL ft1 fc1 fe vs1 accV.length ds1 (wipeB ρ4 vs1) with
                | none => rw [e4] at hL; cases hL
                | some pr1 =>
                obtain ⟨ys, ρ5⟩ := pr1
                rw [e4] at hL
                simp only at hL
                cases e5 : lcL2 ft fc fi1 ft1 fc1 fe vs vs1 (accV.length + ys.length) (ds.drop (i + 1)) (wipeB ρ5 vs) with
                | none => rw [e5] at hL; cases hL
                | some pr2 =>
                obtain ⟨rest2, ρe2⟩ := pr2
                rw [e5] at hL
                cases hL
                obtain ⟨rw4, ow4⟩ := r4.wiped (σ' := wipe σ2 vs1) (vs := vs1) wipe_wipe
                obtain ⟨k1, k2, k3⟩ := keepD nS hl nO t04
                refine ⟨fun j k H'' => ∃ S' ρ' acc' accV' rest', j + k = ds1.length ∧ Rp g.K g.A0 S' H'' (wipe σ2 vs1) ρ' ∧ ItOk g.K J1 S' H'' ds1 ∧ ItOk g.K J S' H'' ds ∧ Tr S H (Ow σ ρ) S' H'' (Ow (wipe σ2 vs1) ρ') ∧ H'' D = some (.lst accV') ∧ DrAll g.K S' H'' accV' acc' ∧ ¬ S' D ∧ ¬ Ow (wipe σ2 vs1) ρ' D ∧
                  lcL ft1 fc1 fe vs1 accV'.length (ds1.drop j) ρ' = some (rest', ρ5) ∧ acc' ++ rest' = acc ++ ys ∧ accV'.length + rest'.length = accV.length + ys.length, ⟨ds1.length, ?_⟩, ?_⟩
                · have tt := t'.trans t04
                  exact ⟨S4, wipeB ρ4 vs1, acc, accV, ys, by omega, rw4, ok1, ok'.mono (rp.ex t04), ⟨tt.s, tt.keep, tt.dom, fun a z => tt.o a (ow4 a z), tt.g⟩, k1, dacc.ex (rp.ex t04), k2, fun z => k3 (ow4 D z), e4, rfl, rfl⟩
                · rintro j k H6 ⟨S6, ρ6, acc6, accV6, rest6, hk, rp6, ok6, okJ, t6, hl6, dacc6, nS6, nO6, hL6, hall6, hlen6⟩
                  cases k with
                  | zero =>
                    have hj : j = ds1.length := by omega
                    subst hj
                    rw [List.drop_length] at hL6
                    have hL6' : some (([] : List PyData), ρ6) = some (rest6, ρ5) := hL6
                    cases hL6'
                    rw [List.append_nil] at hall6
                    subst hall6
                    obtain ⟨rf, of⟩ := rp6.wiped (σ' := wipe σ vs) (vs := vs) (by rw [wipe_wipe, wipe_sub hsub, w2'])
                    have hlen7 : accV6.length = accV.length + ys.length := hlen6
                    refine .inl ⟨ok6.end_ S6 H6 (Ex.same fun _ _ e => e), S6, _, acc ++ ys, accV6, rest2, by omega, rf, okJ, ⟨t6.s, t6.keep, t6.dom, fun a z => t6.o a (of a z), t6.g⟩, hl6, dacc6, nS6, fun z => nO6 (of D z), ?_, ?_⟩
                    · rw [hlen7]; exact e5
                    · rw [List.append_assoc]; exact hall
                  | succ k =>
                    have hlt1 : j < ds1.length := by omega
                    have f0 : ds1[j]? = some ds1[j] := List.getElem?_eq_getElem hlt1
                    obtain ⟨hgo1, hy1⟩ := ok6.at_ S6 H6 j _ (Ex.same fun _ _ e => e) f0
                    rw [drop_cons f0] at hL6
                    refine .inr ⟨hgo1, fun H'' => ∃ S' ρ' acc' accV' rest', j + 1 + k = ds1.length ∧ Rp g.K g.A0 S' H'' (wipe σ2 vs1) ρ' ∧ ItOk g.K J1 S' H'' ds1 ∧ ItOk g.K J S' H'' ds ∧ Tr S H (Ow σ ρ) S' H'' (Ow (wipe σ2 vs1) ρ') ∧ H'' D = some (.lst accV') ∧ DrAll g.K S' H'' accV' acc' ∧ ¬ S' D ∧ ¬ Ow (wipe σ2 vs1) ρ' D ∧
                      lcL ft1 fc1 fe vs1 accV'.length (ds1.drop (j + 1)) ρ' = some (rest', ρ5) ∧ acc' ++ rest' = acc ++ ys ∧ accV'.length + rest'.length = accV.length + ys.length, fun H'' q => ⟨k, Nat.lt_succ_self k, q⟩, fun x1 H7 y1 => ?_⟩
                    obtain ⟨sm1, dx1⟩ := hy1 x1 H7 y1
                    have tg1 : Tr S6 H6 (Ow (wipe σ2 vs1) ρ6) S6 H7 (Ow (wipe σ2 vs1) ρ6) := Tr.grow sm1
                    refine ⟨S6, ρ6, ds1[j], rp6.same sm1, dx1, ?_⟩
                    unfold lcL at hL6
                    cases f1 : ft1 ds1[j] ρ6 with
                    | bad => rw [f1] at hL6; cases hL6
                    | ex q ρ7 => rw [f1] at hL6; cases hL6
                    | ok ρ7 =>
                      rw [f1] at hL6
                      simp only at hL6
                      intro S7 H8 σ3 t7 r7 w3
                      have w3' : wipe σ3 vs1 = wipe σ2 vs1 := by rw [w3, wipe_wipe]
                      refine ⟨w3', S7, ρ7, r7, ?_⟩
                      have t67 := tg1.trans t7
                      cases f2 : fc1 ρ7 with
                      | bad => rw [f2] at hL6; cases hL6
                      | ex q ρ8 => rw [f2] at hL6; cases hL6
                      | ok pb1 =>
                        obtain ⟨b1, ρ8⟩ := pb1
                        rw [f2] at hL6
                        intro S8 H9 t8 r8
                        have t68 := t67.trans t8
                        cases b1 with
                        | false =>
                          simp only at hL6
                          refine iteF ?_
                          obtain ⟨r9, o9⟩ := r8.wiped (σ' := wipe σ2 vs1) (vs := vs1) (by rw [wipe_wipe, w3'])
                          obtain ⟨z1, z2, z3⟩ := keepD nS6 hl6 nO6 t68
                          have tt := t6.trans t68
                          exact ⟨S8, wipeB ρ8 vs1, acc6, accV6, rest6, by omega, r9, ok6.mono (rp6.ex t68), okJ.mono (rp6.ex t68), ⟨tt.s, tt.keep, tt.dom, fun a z => tt.o a (o9 a z), tt.g⟩, z1, dacc6.ex (rp6.ex t68), z2, fun z => z3 (o9 D z), hL6, hall6, hlen6⟩
                        | true =>
                          simp only at hL6
                          refine iteT ⟨S8, ρ8, r8, ?_⟩
                          cases f3 : fe ρ8 with
                          | bad => rw [f3] at hL6; cases hL6
                          | ex q ρ9 => rw [f3] at hL6; cases hL6
                          | ok pe =>
                            obtain ⟨ev, ρ9⟩ := pe
                            rw [f3] at hL6
                            simp only at hL6
                            intro S9 H10 v t9 r9 re
                            obtain ⟨S9', t9', r9', re', x9⟩ := settle_ok t9 r9 re
                            cases f4 : shr ρ9 (settle ev) with
                            | none => rw [f4] at hL6; cases hL6
                            | some ps =>
                              obtain ⟨yd, ρ10⟩ := ps
                              rw [f4] at hL6
                              simp only at hL6
                              obtain ⟨S10, t10, r10, dy, x10⟩ := shr_ok t9' r9' re' f4
                              have t610 := t68.trans t10
                              obtain ⟨z1, z2, z3⟩ := keepD nS6 hl6 nO6 t610
                              split at hL6
                              rotate_left
                              · cases hL6
                              rename_i hz
                              cases f5 : lcL ft1 fc1 fe vs1 (accV6.length + 1) (ds1.drop (j + 1)) (wipeB ρ10 vs1) with
                              | none => rw [f5] at hL6; cases hL6
                              | some pr =>
                                obtain ⟨rest', ρe'⟩ := pr
                                rw [f5] at hL6
                                cases hL6
                                obtain ⟨r11, o11⟩ := r10.wiped (σ' := wipe σ2 vs1) (vs := vs1) (by rw [wipe_wipe, w3'])
                                have tt := t6.trans t610
                                have tt6 : Tr S H (Ow σ ρ) S10 H10 (Ow (wipe σ2 vs1) (wipeB ρ10 vs1)) := ⟨tt.s, tt.keep, tt.dom, fun a z => tt.o a (o11 a z), tt.g⟩
                                have nO11 : ¬ Ow (wipe σ2 vs1) (wipeB ρ10 vs1) D := fun z => z3 (o11 D z)
                                have xu : Ex S10 H10 S10 (upd H10 D (.lst (accV6 ++ [v]))) := Ex.free z2 z1
                                refine ⟨accV6, z1, hz, S10, wipeB ρ10 vs1, acc6 ++ [yd], accV6 ++ [v], rest', by omega, r11.updFree z2 nO11 z1, ok6.mono ((rp6.ex t610).trans xu), okJ.mono ((rp6.ex t610).trans xu), tt6.updFree hD0 z1, upd_same, ((dacc6.ex (rp6.ex t610)).ex xu).append (.cons (dy.ex xu) .nil), z2, nO11, ?_, ?_, ?_⟩
                                · rw [List.length_append]; exact f5
                                · rw [List.append_assoc]; exact hall6
                                · simp only [List.length_append, List.length_cons, List.length_nil] at hlen6 ⊢; omega
theorem glc2 (vs vs1 : List Nat) (hvs : vs = own.map (·.2)) (hv1 : ∀ i ∈ vs1, i ∈ vs) (hc : X.calm = true) (hN : X.N.Nodup) (hi : PI X tg iter (tI (gc X A0 W) fi)) (ok : BlkOk X.N X.env.scope scope own)
    (hg : ∀ (s : Shared) (H : Hp) (C : Addr) (cl : List (Str × Addr)) (fp : List Addr), PG (X.blk s H scope (compEnvC scope cl C X.env) fp) tg (tG (gb X.K X.mg A0) vs ft)) (ht : ∀ (s : Shared) (H : Hp) (C : Addr) (cl : List (Str × Addr)) (fp : List Addr), PTs (X.blk s H scope (compEnvC scope cl C X.env) fp) ifs (tT (gb X.K X.mg A0) fc))
    (hi1 : ∀ (s : Shared) (H : Hp) (C : Addr) (cl : List (Str × Addr)) (fp : List Addr), PI (X.blk s H scope (compEnvC scope cl C X.env) fp) tg1 iter1 (tI (gb X.K X.mg A0) fi1))
    (hg1 : ∀ (s : Shared) (H : Hp) (C : Addr) (cl : List (Str × Addr)) (fp : List Addr), PG (X.blk s H scope (compEnvC scope cl C X.env) fp) tg1 (tG (gb X.K X.mg A0) vs1 ft1)) (ht1 : ∀ (s : Shared) (H : Hp) (C : Addr) (cl : List (Str × Addr)) (fp : List Addr), PTs (X.blk s H scope (compEnvC scope cl C X.env) fp) ifs1 (tT (gb X.K X.mg A0) fc1))
    (he : ∀ (s : Shared) (H : Hp) (C : Addr) (cl : List (Str × Addr)) (fp : List Addr), PE (X.blk s H scope (compEnvC scope cl C X.env) fp) elt (tE (gb X.K X.mg A0) fe)) (hs : ∀ x, foldedSetIterable iter X.env x = pure x := by intro _; rfl) (hs1 : ∀ env x, foldedSetIterable iter1 env x = pure x := by intro _ _; rfl) :
    PE X (.ListComp elt [⟨tg, iter, ifs, 0⟩, ⟨tg1, iter1, ifs1, 0⟩] scope pos) (tE (gc X A0 W) (lc2E ft fc fi1 ft1 fc1 fe vs vs1 fi)) := by
  subst hvs
  exact PE_imp (pe_lc2 hc hN hi ok hv1 hg ht hi1 hg1 ht1 he hs hs1) (lc2_ok hv1 (g := gc X A0 W))
end
end G
namespace M
open PySem PySem.Spec PyProof.Rows L2 G
abbrev c_MOST_COLOURS : PyData := .int (9)
def B_need_between : SS := (ifS (notB (fB (callF [false, false, false] F_is_between [] (aCons (fV 0) (aCons (fV 1) (aCons (fV 2) aNil)))))) (exS_ "NumberError") nxS)
def F_need_between : SE := defF 3 B_need_between
theorem r_need_between {x0_ x1_ x2_ : B} : F_need_between [x0_, x1_, x2_] = Rs.bind (B_need_between [x0_, x1_, x2_]) (retF 3) := rfl
def L1_raised : SS := (asgS 2 (op2 mulD (fV 2) (fV 0)))
def B_raised : SS := (seqS (asgS 2 (fC (.int 1))) (seqS (forS (rng1I (aCons (fV 1) aNil)) (nmG 3) L1_raised) (retS (fV 2))))
def F_raised : SE := defF 4 B_raised
theorem r_raised {x0_ x1_ : B} : F_raised [x0_, x1_] = Rs.bind (B_raised [x0_, x1_, .un, .un]) (retF 2) := rfl
def B_sides_of : SS := (seqS (asgG (tupG 2 (consG (tupG 2 (consG (nmG 1) (consG (nmG 2) nilG))) (consG (tupG 2 (consG (nmG 3) (consG (nmG 4) nilG))) nilG))) (fV 0)) (retS (tupE (aCons (op2 mulD (fV 1) (op2 fdivD (fV 4) (callF [false, false] F_divisor [] (aCons (fV 2) (aCons (fV 4) aNil))))) (aCons (fV 4) aNil)))))
def F_sides_of : SE := defF 5 B_sides_of
theorem r_sides_of {x0_ : B} : F_sides_of [x0_] = Rs.bind (B_sides_of [x0_, .un, .un, .un, .un]) (retF 1) := rfl
end M
set_option maxHeartbeats 2000000
/-! min(xs) and sorted(xs) of any data that are alike; [f, g][i](..) -/
namespace G
open PySem PySem.Spec PyProof.Rows L2
open PySem.W (alike minD dataLe AlikeAll AllAlike Sortable EachIs)
/-! ### min -/
/-! ### sorted -/
/-! ### [f, g][i](..) -/
end G
namespace M
open PySem PySem.Spec PyProof.Rows L2 G
end M
/-! dicts whose keys are tuples of ints, any tuples (constants of a module among them) -/
namespace G
open PySem PySem.Spec PyProof.Rows L2
abbrev tupX (x : KX) : PyData := PyData.tuple (x.1.map PyData.int)
def intsX : List PyData → Option (List Int)
  | [] => some []
  | .int i :: r => (intsX r).map (i :: ·)
  | _ :: _ => none
def tkey : PyData → Option (List Int)
  | .tuple ds => intsX ds
  | _ => none
theorem intsX_map : ∀ ns : List Int, intsX (ns.map PyData.int) = some ns
  | [] => rfl
  | n :: ns => by
    show (intsX (ns.map PyData.int)).map (n :: ·) = _
    rw [intsX_map ns]
    rfl
theorem tkey_tup (ns : List Int) : tkey (.tuple (ns.map PyData.int)) = some ns := intsX_map ns
/-- a dict of that kind, or an empty one -/
def txd : List (PyData × PyData) → Bool
  | [] => true
  | (k, _) :: _ => (tkey k).isSome
def txget : List (PyData × PyData) → List Int → Option PyData
  | [], _ => none
  | (k, d) :: r, q => if tkey k = some q then some d else txget r q
def txput (kvs : List (PyData × PyData)) (q : List Int) (d : PyData) : List (PyData × PyData) :=
  if (txget kvs q).isSome = true then kvs.map (fun p => if tkey p.1 = some q then (p.1, d) else p) else kvs ++ [(.tuple (q.map .int), d)]
section
variable {K : PySem.W.Frag} {S : Addr → Prop} {H : Hp}
def KeysX (K : PySem.W.Frag) (H : Hp) (xs : List KX) : Prop := ∀ x ∈ xs, SqT K H x.2.1 (x.1.map V.int)
/-- what is read -/
def RdX (K : PySem.W.Frag) (H : Hp) (a : Addr) (xs : List KX) : Prop := ((∃ c, HasO H a (TX c xs)) ∨ (xs = [] ∧ HasO H a (.dK []))) ∧ KeysX K H xs
/-- what is written -/
def WrX (K : PySem.W.Frag) (H : Hp) (a : Addr) (xs : List KX) : Prop := ((∃ c, H a = some (TX c xs)) ∨ (xs = [] ∧ H a = some (.dK []))) ∧ KeysX K H xs
theorem WrX.rd {a : Addr} {xs : List KX} (h : WrX K H a xs) : RdX K H a xs := by
  obtain ⟨h, k⟩ := h
  rcases h with ⟨c, h⟩ | ⟨e, h⟩
  · exact ⟨.inl ⟨c, .inl h⟩, k⟩
  · exact ⟨.inr ⟨e, .inl h⟩, k⟩
theorem Ct.tx {o : HO} {kvs : List (PyData × PyData)} (h : Ct K S H o (.dict kvs)) (hk : txd kvs = true) : (∃ c xs vs ds, o = TX c xs ∧ KeysX K H xs ∧ Vals vs (xs.map (·.2.2)) ∧ DrAll K S H vs ds ∧ kvs = (xs.map tupX).zip ds) ∨ (o = .dK [] ∧ kvs = []) := by
  generalize hd : PyData.dict kvs = D at h
  cases h with
  | lst _ => cases hd
  | dK c =>
    rename_i ks ds
    cases hd
    cases ks with
    | nil => exact .inr ⟨rfl, rfl⟩
    | cons p r =>
      cases ds with
      | nil => cases c
      | cons d r => obtain ⟨k, v⟩ := p; cases k <;> simp [txd, tkey, kD] at hk
  | dX k v c => cases hd; exact .inl ⟨_, _, _, _, rfl, k, v, c, rfl⟩
theorem Dw.tx {v : V} {kvs : List (PyData × PyData)} (h : Dw K S H v (.dict kvs)) (hk : txd kvs = true) : ∃ a xs vs ds, v = .ref a ∧ RdX K H a xs ∧ Vals vs (xs.map (·.2.2)) ∧ DrAll K S H vs ds ∧ kvs = (xs.map tupX).zip ds := by
  obtain ⟨a, o, rfl, ho, c⟩ := h.dic
  rcases c.tx hk with ⟨b, xs, vs, ds, rfl, k, v, d, rfl⟩ | ⟨rfl, rfl⟩
  · exact ⟨a, xs, vs, ds, rfl, ⟨.inl ⟨b, ho⟩, k⟩, v, d, rfl⟩
  · exact ⟨a, [], [], [], rfl, ⟨.inr ⟨rfl, ho⟩, fun x hx => nomatch hx⟩, .nil, .nil, rfl⟩
theorem intsX_vals : ∀ {vs : List V} {ds : List PyData} {ns : List Int}, DrAll K S H vs ds → intsX ds = some ns → vs = ns.map V.int
  | [], _, ns, .nil, e => by cases e; rfl
  | v :: vs, _, ns, .cons (d := d) (ds := ds) h1 h2, e => by
    cases d with
    | int i =>
      have e : (intsX ds).map (i :: ·) = some ns := e
      cases e2 : intsX ds with
      | none => rw [e2] at e; cases e
      | some m =>
        rw [e2] at e
        cases e
        rw [intsX_vals h2 e2, (show Dw K S H v (.int i) from .inl h1).int]
        rfl
    | _ => cases e
theorem Dw.tkey {y : V} {k : PyData} {ns : List Int} (h : Dw K S H y k) (e : tkey k = some ns) : ∃ b, y = .ref b ∧ SqT K H b (ns.map V.int) := by
  cases k with
  | tuple ds =>
    obtain ⟨b, xs, rfl, q, d⟩ := h.tup
    rw [intsX_vals d e] at q
    exact ⟨b, rfl, q⟩
  | _ => cases e
theorem at_cons {x : KX} {xs : List KX} {q : List Int} : atKey (x :: xs) q = if x.1 = q then some x.2 else atKey xs q := by
  unfold atKey
  rw [List.find?_cons]
  by_cases h : x.1 = q
  · rw [decide_eq_true h, if_pos h]; rfl
  · rw [decide_eq_false h, if_neg h]
theorem tx_get (q : List Int) : ∀ {xs : List KX} {vs : List V} {ds : List PyData}, Vals vs (xs.map (·.2.2)) → DrAll K S H vs ds →
    (∀ d, txget ((xs.map tupX).zip ds) q = some d → ∃ p v, atKey xs q = some p ∧ RelV v p.2 ∧ Dr K S H v d) ∧ (txget ((xs.map tupX).zip ds) q = none → atKey xs q = none)
  | [], _, _, .nil, .nil => ⟨fun d e => (nomatch e), fun _ => rfl⟩
  | x :: xs, _, _, .cons r rv, .cons (d := e0) (ds := ds) h1 h2 => by
    obtain ⟨i1, i2⟩ := tx_get q rv h2
    have key : txget (((x :: xs).map tupX).zip (e0 :: ds)) q = if x.1 = q then some e0 else txget ((xs.map tupX).zip ds) q := by
      show (if tkey (tupX x) = some q then some e0 else txget ((xs.map tupX).zip ds) q) = _
      rw [show tkey (tupX x) = some x.1 from tkey_tup x.1]
      by_cases h : x.1 = q
      · rw [if_pos h, if_pos (by rw [h])]
      · rw [if_neg h, if_neg fun z => h (Option.some.inj z)]
    rw [key, at_cons]
    by_cases h : x.1 = q
    · rw [if_pos h, if_pos h]
      exact ⟨fun d e => by cases e; exact ⟨_, _, rfl, r, h1⟩, fun z => (nomatch z)⟩
    · rw [if_neg h, if_neg h]
      exact ⟨i1, i2⟩
theorem map_putX {q : List Int} {v : V} {u : Value} {d : PyData} (r : Dr K S H v d) (rv : RelV v u) : ∀ {xs : List KX} {vs : List V} {ds : List PyData}, Vals vs (xs.map (·.2.2)) → DrAll K S H vs ds →
    ∃ vs' ds', Vals vs' ((xs.map (putAt q u)).map (·.2.2)) ∧ DrAll K S H vs' ds' ∧ ((xs.map (putAt q u)).map tupX).zip ds' = ((xs.map tupX).zip ds).map fun p => if tkey p.1 = some q then (p.1, d) else p
  | [], _, _, .nil, .nil => ⟨[], [], .nil, .nil, rfl⟩
  | x :: xs, v0 :: _, _, .cons r0 rv0, .cons (d := e0) (ds := ds) h1 h2 => by
    obtain ⟨vs', ds', a, b, c⟩ := map_putX (q := q) r rv rv0 h2
    have tk : tkey (tupX x) = some x.1 := tkey_tup x.1
    by_cases h : x.1 = q
    · have e : putAt q u x = (x.1, x.2.1, u) := by unfold putAt; rw [if_pos h]
      refine ⟨v :: vs', d :: ds', ?_, .cons r b, ?_⟩
      · rw [List.map_cons, List.map_cons, e]
        exact .cons rv a
      · rw [List.map_cons, List.map_cons, e, List.map_cons, List.zip_cons_cons, List.zip_cons_cons, List.map_cons, c, if_pos (by rw [tk, h])]
    · have e : putAt q u x = x := by unfold putAt; rw [if_neg h]
      refine ⟨v0 :: vs', e0 :: ds', ?_, .cons h1 b, ?_⟩
      · rw [List.map_cons, List.map_cons, e]
        exact .cons r0 a
      · rw [List.map_cons, List.map_cons, e, List.map_cons, List.zip_cons_cons, List.zip_cons_cons, List.map_cons, c, if_neg (by rw [tk]; exact fun z => h (Option.some.inj z))]
theorem tx_put {q : List Int} {b : Addr} {v : V} {u : Value} {d : PyData} {xs : List KX} {vs : List V} {ds : List PyData} (r : Dr K S H v d) (rv : RelV v u) (h1 : Vals vs (xs.map (·.2.2))) (h2 : DrAll K S H vs ds) :
    ∃ vs' ds', Vals vs' ((storedH xs q b u).map (·.2.2)) ∧ DrAll K S H vs' ds' ∧ ((storedH xs q b u).map tupX).zip ds' = txput ((xs.map tupX).zip ds) q d := by
  obtain ⟨g1, g2⟩ := tx_get q h1 h2
  unfold txput
  cases e : txget ((xs.map tupX).zip ds) q with
  | none =>
    rw [storedH_new (g2 e), if_neg (by simp)]
    refine ⟨vs ++ [v], ds ++ [d], ?_, h2.append (.cons r .nil), ?_⟩
    · rw [List.map_append]
      exact h1.append (.cons rv .nil)
    · have hl : (xs.map tupX).length = ds.length := by rw [← h2.length, h1.length, List.length_map, List.length_map]
      rw [List.map_append, List.zip_append hl]
      rfl
  | some d0 =>
    obtain ⟨p, w, e1, _⟩ := g1 d0 e
    rw [storedH_old e1, if_pos (by simp)]
    exact map_putX r rv h1 h2
theorem keysX_put {q : List Int} {b : Addr} {u : Value} {xs : List KX} (h : KeysX K H xs) (hb : SqT K H b (q.map V.int)) : KeysX K H (storedH xs q b u) := by
  unfold storedH
  split
  · intro x hx
    obtain ⟨y, hy, rfl⟩ := List.mem_map.mp hx
    have := h y hy
    unfold putAt
    split <;> exact this
  · intro x hx
    rcases List.mem_append.mp hx with hx | hx
    · exact h x hx
    · rw [List.mem_singleton.mp hx]; exact hb
theorem keysX_ex {S' : Addr → Prop} {H' : Hp} {xs : List KX} (x : Ex S H S' H') (h : KeysX K H xs) : KeysX K H' xs := fun y hy => SqT.ex x (h y hy)
end
section
variable {X : Cx} {pins : List (Addr × Obj)} {σ : St} {H : Hp} {s : Shared} {a b : Addr} {xs : List KX}
abbrev TKX (X : Cx) := tupleKind (intKind X.prog X.w)
theorem txφ_heap (I : Inv X pins σ H s) (h : TXφ a xs s.heap) (k : KeysX X.K H xs) : (a == sysModules) = false ∧ xs.length ≤ sizeLine ∧ s.heap.DictOfH (TKX X) a xs := by
  obtain ⟨h1, h2, h3, o, es, ep, h4, h5, h6, h7⟩ := h
  exact ⟨h1, h2, o, es, ep, h4, h5, h6, h7, fun x hx => I.isT (k x hx), h3⟩
theorem RdX.heap (I : Inv X pins σ H s) (r : RdX X.K H a xs) : (a == sysModules) = false ∧ xs.length ≤ sizeLine ∧ s.heap.DictOfH (TKX X) a xs := by
  obtain ⟨r, k⟩ := r
  rcases r with ⟨c, r⟩ | ⟨rfl, r⟩
  · have ok := hokO I r
    obtain rfl := tx_addr ok
    exact txφ_heap I ok.1 k
  · obtain ⟨_, hs, vs, kv, o, es, ep, ho, hx, hd, _, hp, _⟩ := hokO I r
    cases kv
    have e : es.toList = [] := by
      generalize es.toList = l at hp
      cases hp
      rfl
    exact ⟨hs, Nat.zero_le _, o, es, ep, ho, hx, hd, e, (fun x hx => (nomatch hx)), List.nodup_nil⟩
theorem tx_ok {h' : Heap} {ys : List KX} {H' : Hp} (hs : (a == sysModules) = false) (hl : ys.length ≤ sizeLine) (d : h'.DictOfH (TKX X) a ys) : ObjOk X.prog X.w H' h' a (TX a ys) := by
  obtain ⟨o, es, ep, h1, h2, h3, h4, _, h5⟩ := d
  refine ⟨⟨hs, hl, h5, o, es, ep, h1, h2, h3, h4⟩, ⟨o, h1⟩, fun g1 g2 ⟨q1, q2, q3, o', es', ep', q4, q5⟩ k => ⟨q1, q2, q3, o', es', ep', k o' q4, q5⟩⟩
/-! ### in, not in, d[k] -/
def rNinX (K : PySem.W.Frag) : R2 := fun y x H Q => ∃ a b xs ns, x = .ref a ∧ y = .ref b ∧ RdX K H a xs ∧ SqT K H b (ns.map V.int) ∧ Q (.bl (!(atKey xs ns).isSome)) H
theorem op_ninXX (hu : X.A.units + 1 < cLine) : OpR X (compareOp .NotIn) (rNinX X.K) := by
  intro pins s σ H y x v u Q I ry rx h
  obtain ⟨a, b, xs, ns, rfl, rfl, rd, kb, q⟩ := h
  obtain rfl : u = Value.ref a := rx
  obtain rfl : v = Value.ref b := ry
  obtain ⟨hs, _, dd⟩ := rd.heap I
  exact wpAny_notIn_heap (tupleKind_room_in1 hu) (I.isT kb) hs dd ⟨.bl _, H, I.tok _, rfl, q⟩
end
def ninXD : PyData → PyData → Option Ev := fun x y => match y with
  | .dict kvs => (tkey x).bind fun q => if txd kvs = true then some (.val (.bool (!(txget kvs q).isSome))) else none
  | _ => none
theorem tx_has {K : PySem.W.Frag} {S : Addr → Prop} {H : Hp} {q : List Int} {xs : List KX} {vs : List V} {ds : List PyData} (h1 : Vals vs (xs.map (·.2.2))) (h2 : DrAll K S H vs ds) : (txget ((xs.map tupX).zip ds) q).isSome = (atKey xs q).isSome := by
  obtain ⟨g1, g2⟩ := tx_get q h1 h2
  cases e : txget ((xs.map tupX).zip ds) q with
  | none => rw [g2 e]; rfl
  | some d => obtain ⟨p, v, e1, _⟩ := g1 d e; rw [e1]; rfl
theorem ninXD_ok {K : PySem.W.Frag} : OpD K (rNinX K) ninXD := by
  intro S H x y d1 d2 e Q h1 h2 he out
  unfold ninXD at he
  cases d2 with
  | dict kvs =>
    simp only at he
    cases hq : G.tkey d1 with
    | none => rw [hq] at he; cases he
    | some q =>
      rw [hq] at he
      simp only [Option.bind] at he
      split at he
      · rename_i hk
        cases he
        obtain ⟨b, rfl, kb⟩ := h1.tkey hq
        obtain ⟨a, xs, vs, ds, rfl, rd, v1, v2, rfl⟩ := h2.tx hk
        rw [tx_has v1 v2] at out
        exact ⟨a, b, xs, q, rfl, rfl, rd, kb, outBl out⟩
      · cases he
  | _ => cases he
end G
namespace G
open PySem PySem.Spec PyProof.Rows L2
/-! ### d[k] = e -/
def rSetX (K : PySem.W.Frag) : TSet := fun o i v H Q => ∃ a b ns xs, o = .ref a ∧ i = .ref b ∧ SqT K H b (ns.map V.int) ∧ WrX K H a xs ∧ xs.length < sizeLine ∧ ∀ u, RelV v u → Q (upd H a (TX a (storedH xs ns b u)))
theorem set_tx {X : Cx} (hu : X.A.units + 1 < cLine) : PSet X (rSetX X.K) := by
  intro pins s σ H o i v ov iv u Q I ro ri rv h
  obtain ⟨a, b, ns, xs, rfl, rfl, kb, wr, hl, q⟩ := h
  cases (show ov = Value.ref a from ro)
  cases (show iv = Value.ref b from ri)
  obtain ⟨hs, hz, dd⟩ := wr.rd.heap I
  have hl2 : (storedH xs ns b u).length ≤ sizeLine := by have := storedH_length xs ns b u; omega
  refine wpAny_setItem_heap (hsz := hz) (tupleKind_room_in1 hu) (I.isT kb) dd fun h' dd' hb => ⟨_, ?_, q u rv⟩
  have he : ∃ q, h'.get? a = some q := let ⟨q, _, _, hq, _⟩ := dd'; ⟨q, hq⟩
  refine d_write I ?_ hb he (tx_ok hs hl2 dd')
  rcases wr.1 with ⟨c, e⟩ | ⟨_, e⟩ <;> rw [e] <;> exact True.intro
def setXD (d k y : PyData) : Option PyData := match d with
  | .dict kvs => (tkey k).bind fun q => if txd kvs = true ∧ kvs.length < 1000000 then some (.dict (txput kvs q y)) else none
  | _ => none
def setXS (i : Nat) (fk fe : SE) : SS := fun ρ => (fe ρ).bind fun p => match shr p.2 (settle p.1) with
  | some (y, ρ1) => (match (ρ1[i]?).bind ownD with
    | some _ => (fk ρ1).bind fun q => (match peek q.2 q.1 with
      | some k => (match q.2[i]? with
        | some b => (match ownD b with
          | some d => (match setXD d k y with
            | some d' => .ok (.nx (q.2.set i (reD b d')))
            | none => .bad)
          | none => .bad)
        | none => .bad)
      | none => .bad)
    | none => .bad)
  | none => .bad
section
variable {X : Cx} {A0 : Ax} {W : WX} {ek e : Expr} {fk fe : SE} {pos tpos : Pos}
theorem gsetX (hu : X.A.units + 1 < cLine) (i : Nat) {x : Str} {p : Pos} (hk : PE X ek (tE (gc X A0 W) fk)) (he : PE X e (tE (gc X A0 W) fe)) (hN : X.N[i]? = some x := by rfl) (hv : Vis X.env.scope x := by first | exact Or.inl rfl | exact Or.inr (Or.inl rfl) | exact Or.inr (Or.inr rfl))
    (hd : (x == ("__debug__" : Str)) = false := by decide) (hcd : (x == ("__classdict__" : Str)) = false := by decide)
    (ha : ∀ v, assign (.Subscript (.Name x p) ek tpos) X.env v = (do
      let ov ← holding [v] (eval (.Name x p) X.env)
      let iv ← holding [v, ov] (eval ek X.env)
      standAt tpos
      holding [v, ov, iv] (setItem ov iv v)
      release [v, ov, iv] []) := by intro _; rfl)
    (hs : swapsWithSole [.Subscript (.Name x p) ek tpos] e pos.line X.env = pure false := by rfl) (hw : swappedStores [.Subscript (.Name x p) ek tpos] e X.env = pure none := by rfl)
    (h1 : (assignEach [.Subscript (.Name x p) ek tpos] X.env).map (·.2) = [assign (.Subscript (.Name x p) ek tpos) X.env] := by rfl) :
    PS X (.Assign [.Subscript (.Name x p) ek tpos] e pos) (tSt (gc X A0 W) (setXS i fk fe)) := by
  refine PS_imp (ps_asg he (pg_sub (pe_var hN hv hd hcd) hk (set_tx hu) ha) hs hw h1) ?_
  rintro D σ H ⟨S, ρ, r, h⟩
  refine tE_bind (P := fun z => PostS (gc X A0 W) S H σ ρ z D) exS PostS.bad r h fun p S1 H1 v1 t1 r1 e1 h => ?_
  obtain ⟨S1', t1', r1', e1', _⟩ := settle_ok t1 r1 e1
  cases q : shr p.2 (settle p.1) with
  | none => rw [q] at h; exact h.elim
  | some pr =>
    obtain ⟨y, ρ1⟩ := pr
    rw [q] at h
    obtain ⟨S2, t2, r2, dy, _⟩ := shr_ok t1' r1' e1' q
    simp only at h
    cases e0 : ρ1[i]? with
    | none => rw [e0] at h; exact h.elim
    | some b0 =>
      rw [e0, Option.bind_some] at h
      cases eo0 : ownD b0 with
      | none => rw [eo0] at h; exact h.elim
      | some d0 =>
        rw [eo0] at h
        simp only at h
        obtain ⟨a, _, ea, _⟩ := own_slot r2 e0 eo0
        refine ⟨.ref a, ea, ?_⟩
        refine tE_bind (P := fun z => PostS (gc X A0 W) S2 H1 σ ρ1 z D) exS PostS.bad r2 (PostS.from t2 h) fun q S3 H3 v3 t3 r3 e3 h => ?_
        cases ep : peek q.2 q.1 with
        | none => rw [ep] at h; exact h.elim
        | some k =>
          rw [ep] at h
          simp only at h
          cases eb : q.2[i]? with
          | none => rw [eb] at h; exact h.elim
          | some b =>
            rw [eb] at h
            simp only at h
            cases eo : ownD b with
            | none => rw [eo] at h; exact h.elim
            | some d =>
              rw [eo] at h
              simp only at h
              cases em : setXD d k y with
              | none => rw [em] at h; exact h.elim
              | some d' =>
                rw [em] at h
                simp only at h
                obtain ⟨a2, o, ea2, _, hs2, ho, c⟩ := own_slot r3 eb eo
                rw [ea] at ea2; cases ea2
                have dk := peek_ok r3 e3 ep
                have dy3 := dy.ex (r2.ex t3)
                cases d with
                | dict kvs =>
                  unfold setXD at em
                  simp only at em
                  cases hq : G.tkey k with
                  | none => rw [hq] at em; cases em
                  | some qk =>
                    rw [hq] at em
                    simp only [Option.bind] at em
                    split at em
                    · rename_i hkk
                      cases em
                      obtain ⟨kb, rfl, kq⟩ := dk.tkey hq
                      rcases c.tx hkk.1 with ⟨c0, xs, vs, ds, rfl, kx, v1', v2, rfl⟩ | ⟨rfl, rfl⟩
                      · have hlen : xs.length < sizeLine := by
                          have h1 := v2.length
                          have h3 := v1'.length
                          have h2 := hkk.2
                          simp only [List.length_map, List.length_zip] at h1 h2 h3
                          exact Nat.lt_of_lt_of_le (show xs.length < 1000000 by omega) (by decide)
                        refine ⟨a, kb, qk, xs, rfl, rfl, kq, ⟨.inl ⟨c0, ho⟩, kx⟩, hlen, fun u ru => ?_⟩
                        have x2 : Ex S3 H3 S3 (upd H3 a (TX a (storedH xs qk kb u))) := Ex.upd hs2 ho c
                        obtain ⟨vs', ds', p1, p2, p3⟩ := tx_put (q := qk) (b := kb) (dy3.ex x2) ru v1' (v2.ex x2)
                        obtain ⟨r4, t4⟩ := r3.updOwn (o' := TX a (storedH xs qk kb u)) (d' := .dict (txput ((xs.map tupX).zip ds) qk y)) eb eo ea hs2 ho c (by rw [← p3]; exact .dX (keysX_put (keysX_ex x2 kx) (SqT.ex x2 kq)) p1 p2)
                        exact h S3 _ σ (t3.trans t4) r4
                      · refine ⟨a, kb, qk, [], rfl, rfl, kq, ⟨.inr ⟨rfl, ho⟩, fun x hx => nomatch hx⟩, by decide, fun u ru => ?_⟩
                        have x2 : Ex S3 H3 S3 (upd H3 a (TX a (storedH [] qk kb u))) := Ex.upd hs2 ho c
                        obtain ⟨vs', ds', p1, p2, p3⟩ := tx_put (xs := []) (vs := []) (ds := []) (q := qk) (b := kb) (dy3.ex x2) ru .nil .nil
                        obtain ⟨r4, t4⟩ := r3.updOwn (o' := TX a (storedH [] qk kb u)) (d' := .dict (txput [] qk y)) eb eo ea hs2 ho c (by rw [← show _ = txput [] qk y from p3]; exact .dX (keysX_put (xs := []) (fun x hx => nomatch hx) (SqT.ex x2 kq)) p1 p2)
                        exact h S3 _ σ (t3.trans t4) r4
                    · cases em
                | _ => cases em
end
/-! ### a method of a dict -/
def isDct : PyData → Bool
  | .dict _ => true
  | _ => false
def mutX (i : Nat) (mt : PyData → List PyData → Option (PyData × PyData)) (fa : SA) : SE := fun ρ => match (ρ[i]?).bind ownD with
  | some d => if isDct d = true then mutE1 i mt fa ρ else .bad
  | none => .bad
def mtGetX : PyData → List PyData → Option (PyData × PyData)
  | .dict kvs, [k, z] => (tkey k).bind fun q => if txd kvs = true then some (.dict kvs, (txget kvs q).getD z) else none
  | _, _ => none
/-! ### len(d) -/
end G
namespace G
open PySem PySem.Spec PyProof.Rows L2
/-! ### {k: v} -/
def tDisp1X (K : PySem.W.Frag) (tk tv : TE) : TE := fun σ H Q => ∀ p, H p = none → tk σ (upd H p (.dK [])) fun x H1 => tv σ H1 fun y H2 => H2 p = some (.dK []) ∧ ∃ b ns, x = .ref b ∧ SqT K H2 b (ns.map V.int) ∧ ∀ u, RelV y u → Q (.ref p) (upd H2 p (TX p [(ns, b, u)]))
theorem pe_disp1X {X : Cx} {pos : Pos} {k v : Expr} {tk tv : TE} (hu : X.A.units + 1 < cLine) (hk : PE X k tk) (hv : PE X v tv) : PE X (.Dict [some k] [v] pos) (tDisp1X X.K tk tv) := by
  refine ⟨fun pins s σ H Q I q => ?_⟩
  have hn := I.hok.fresh (Nat.le_refl s.heap.objs.size)
  have I1 := I.laid (a := s.heap.objs.size) (o := .dK []) (h' := s.heap.push { cls := .type "dict", data := .dict #[] }) (t' := s.toks) (fun _ _ q => Heap.get?_push_of_some _ q) (Nat.le_refl _) (dk_empty s.heap I.big)
  have pp := (pps_cons (pos := pos) hk hv pps_nil).run pins _ σ _ (fun ps H2 => match ps with
    | [(x, y)] => H2 s.heap.objs.size = some (.dK []) ∧ ∃ b ns, x = .ref b ∧ SqT X.K H2 b (ns.map V.int) ∧ ∀ u, RelV y u → Q (.ref s.heap.objs.size) (upd H2 s.heap.objs.size (TX s.heap.objs.size [(ns, b, u)]))
    | _ => False) I1 (q _ hn)
  rw [arm_eval_Dict, zip_pairTrees [some k] [v] X.env pos rfl rfl, dictDisplay_pairs (pairTrees [some k] [v] X.env pos) (by intro z; cases z) (by show 1 < 17; decide)]
  refine wpAny_bind (wpAny_standAt (wpAny_bind (wpAny_subDictH (knd := TKX X) (Q := fun d s' => wpAny (model X.prog X.w) X.A (pure (Value.ref d)) _ _ s') (show (TKX X).room X.A from Nat.lt_of_succ_lt hu) (by show 1 ≤ 15; decide) (wpAny_mono pp (fun vs s2 h2 => ?_) fun _ _ e => e))))
  obtain ⟨ps, H2, I2, rel, h2⟩ := h2
  obtain ⟨x, y, rfl⟩ : ∃ x y, ps = [(x, y)] := by
    match ps, h2 with
    | [(x, y)], _ => exact ⟨x, y, rfl⟩
  obtain ⟨e, b, ns, rfl, kb, q2⟩ := h2
  cases rel with
  | cons r0 r1 =>
    cases r1
    obtain ⟨r2, r3⟩ := r0
    rename_i w0
    obtain ⟨w1, w2⟩ := w0
    obtain rfl : w1 = Value.ref b := r2
    have rd : RdX X.K H2 s.heap.objs.size [] := ⟨.inr ⟨rfl, .inl e⟩, fun x hx => nomatch hx⟩
    obtain ⟨hs, _, dd⟩ := rd.heap I2
    refine ⟨[(ns, b, w2)], ⟨rfl, rfl, I2.isT kb, trivial⟩, dd, fun h' t' dd' hb => wpAny_pure ⟨.ref s.heap.objs.size, _, ?_, rfl, q2 w2 r3⟩⟩
    have he : ∃ q, h'.get? s.heap.objs.size = some q := let ⟨q, _, _, hq, _⟩ := dd'; ⟨q, hq⟩
    exact d_write I2 (by rw [e]; exact True.intro) hb he (tx_ok hs (by show 1 ≤ sizeLine; decide) dd')
def dic1XE (fk fv : SE) : SE := fun ρ => (aCons fk (aCons fv aNil) ρ).bind fun p => match shrs p.2 p.1 with
  | some ([k, y], ρ') => (match tkey k with
    | some q => .ok (.fr (.dict [(.tuple (q.map .int), y)]), ρ')
    | none => .bad)
  | _ => .bad
section
variable {X : Cx} {A0 : Ax} {W : WX} {k v : Expr} {fk fv : SE} {pos : Pos}
theorem gdic1X (hu : X.A.units + 1 < cLine) (hk : PE X k (tE (gc X A0 W) fk)) (hv : PE X v (tE (gc X A0 W) fv)) : PE X (.Dict [some k] [v] pos) (tE (gc X A0 W) (dic1XE fk fv)) := by
  refine PE_imp (pe_disp1X hu hk hv) ?_
  rintro σ H Q ⟨S, ρ, r, hq⟩ p hn
  have sm : L2.Same H (upd H p (.dK [])) := same_alloc hn
  have nS : ¬ S p := fun z => by obtain ⟨o, e⟩ := r.al p z; rw [hn] at e; cases e
  have nO : ¬ Ow σ ρ p := fun z => by obtain ⟨o, e⟩ := r.alive z; rw [hn] at e; cases e
  have key : tA (gc X A0 W) (aCons fk (aCons fv aNil)) σ (upd H p (.dK [])) (fun vs H2 => ∀ x y, vs = [x, y] → H2 p = some (.dK []) ∧ ∃ b ns, x = .ref b ∧ SqT X.K H2 b (ns.map V.int) ∧ ∀ u, RelV y u → Q (.ref p) (upd H2 p (TX p [(ns, b, u)]))) := by
    refine ⟨S, ρ, r.same sm, ?_⟩
    unfold dic1XE at hq
    cases e : aCons fk (aCons fv aNil) ρ with
    | bad => rw [e] at hq; exact hq
    | ex n ρ' => rw [e] at hq; exact fun S' H' t r' => hq S' H' ((Tr.grow sm).trans t) r'
    | ok pr =>
      rw [e] at hq
      intro S2 H2 vs t2 r2 e2 x y hv'
      subst hv'
      have nS2 : ¬ S2 p := fun z => by
        rcases t2.g p z with q | q | q
        · exact nS q
        · exact nO q
        · rw [upd_same] at q; cases q
      have nO2 : ¬ Ow σ pr.2 p := fun z => by
        rcases t2.o p z with q | q
        · exact nO q
        · rw [upd_same] at q; cases q
      have hp2 : H2 p = some (.dK []) := t2.keepS upd_same nO nS2
      refine ⟨hp2, ?_⟩
      have hq : PostE (gc X A0 W) S H σ ρ (match shrs pr.2 pr.1 with
        | some ([k, y], ρ') => (match tkey k with
          | some q => .ok (.fr (.dict [(.tuple (q.map .int), y)]), ρ')
          | none => .bad)
        | _ => .bad) Q := hq
      cases q : shrs pr.2 pr.1 with
      | none => rw [q] at hq; exact hq.elim
      | some pr2 =>
        obtain ⟨ds, ρ1⟩ := pr2
        rw [q] at hq
        obtain ⟨S3, t3, r3, d3, x3⟩ := shrs_ok (Tr.refl (S := S2) (H := H2) (O := Ow σ pr.2)) r2 e2 q
        match ds, hq, d3 with
        | [k0, y0], hq, .cons h1 (.cons h2 .nil) =>
          simp only at hq
          cases em : G.tkey k0 with
          | none => simp only [em] at hq; exact hq.elim
          | some ns =>
            simp only [em] at hq
            obtain ⟨b, rfl, kb⟩ := h1.w.tkey em
            have nS3 : ¬ S3 p := fun z => by
              rcases t3.g p z with q | q | q
              · exact nS2 q
              · exact nO2 q
              · rw [hp2] at q; cases q
            have nO3 : ¬ Ow σ ρ1 p := fun z => by
              rcases t3.o p z with q | q
              · exact nO2 q
              · rw [hp2] at q; cases q
            have c0 : Ct X.K S3 H2 (.dK []) (.dict []) := .dK (kvs := []) (ds := []) .nil
            refine ⟨b, ns, rfl, kb, fun u ru => ?_⟩
            have x4 : Ex S3 H2 S3 (upd H2 p (TX p [(ns, b, u)])) := Ex.upd nS3 hp2 c0
            refine hq S3 _ _ (Tr.updFree ((Tr.grow sm).trans (t2.trans t3)) hn hp2) (r3.updNew x4 nS3 nO3 (tabs_upd r3.tb hp2 (fun z => z) (fun _ _ z => nomatch z))) ⟨p, rfl, ⟨hn, fun j hj => ?_⟩, nS3, nO3, _, upd_same, ?_⟩
            · obtain ⟨o, e⟩ := r.aa j p hj
              rw [hn] at e; cases e
            · exact .dX (xs := [(ns, b, u)]) (fun x hx => by
                rw [List.mem_singleton.mp hx]
                exact SqT.ex x4 kb) (.cons ru .nil) (.cons (h2.ex x4) .nil)
        | [], hq, _ => exact hq.elim
        | [_], hq, _ => exact hq.elim
        | _ :: _ :: _ :: _, hq, _ => exact hq.elim
  exact tE_mono (fun x H1 h1 => tE_mono (fun y H2 h2 => by
    obtain ⟨S4, ρ4, r4, h4⟩ := h2
    exact h4 S4 H2 [] Tr.refl r4 .nil x y rfl) (acons_split h1)) (acons_split key)
end
end G
namespace M
open PySem PySem.Spec PyProof.Rows L2 G
abbrev c_EXCHANGING : PyData := .tuple [.int (1), .int (3), .int (5), .int (7)]
def B_wrapped : SS := (seqS (asgG (tupG 3 (consG (nmG 3) (consG (nmG 4) (consG (nmG 5) nilG)))) (fV 0)) (retS (tupE (aCons (fV 3) (aCons (op2 modD (fV 4) (fV 1)) (aCons (op2 modD (fV 5) (fV 2)) aNil))))))
def F_wrapped : SE := defF 6 B_wrapped
theorem r_wrapped {x0_ x1_ x2_ : B} : F_wrapped [x0_, x1_, x2_] = Rs.bind (B_wrapped [x0_, x1_, x2_, .un, .un, .un]) (retF 3) := rfl
def mu_wrapped_group_1 : List B → Nat := fun _ => 1000000000000000000000000000000000000000000000000000000000000000000000000000000000000000000
def L1_wrapped_group : SS := (seqS (asgS 8 (callF [false, false, false] F_wrapped [] (aCons (callF [false, false] F_product_of [] (aCons (fV 6) (aCons (fV 7) aNil))) (aCons (fV 1) (aCons (fV 2) aNil))))) (ifS (fB (op2 ninXD (fV 8) (fV 4))) (seqS (setXS 4 (fV 8) (fC (.bool true))) (seqS (dropS (mutE 3 mtApp (aCons (fV 8) aNil))) (dropS (mutE 5 mtApp (aCons (fV 8) aNil))))) nxS))
def L2_wrapped_group : SS := (seqS (asgS 6 (mutE 5 mtPop aNil)) (forS (seqI bothK (fV 0)) (nmG 7) L1_wrapped_group))
def B_wrapped_group : SS := (seqS (parS 3 4 (lstE (aCons (fC c_IDENTITY) aNil)) (dic1XE (fC c_IDENTITY) (fC (.bool true)))) (seqS (asgS 5 (lstE (aCons (fC c_IDENTITY) aNil))) (seqS (whS mu_wrapped_group_1 (fB (op2 neD (fV 5) (lstE aNil))) L2_wrapped_group) (retS (fV 3)))))
def F_wrapped_group : SE := defF 9 B_wrapped_group
theorem r_wrapped_group {x0_ x1_ x2_ : B} : F_wrapped_group [x0_, x1_, x2_] = Rs.bind (B_wrapped_group [x0_, x1_, x2_, .un, .un, .un, .un, .un, .un]) (retF 3) := rfl
def mu_cycles_of_1 : List B → Nat := fun _ => 1000000000000000000000000000000000000000000000000000000000000000000000000000000000000000000
def L1_cycles_of : SS := (seqS (setXS 3 (fV 6) (fC (.bool true))) (seqS (asgS 7 (callF [false, false] F_image_of [] (aCons (fV 0) (aCons (fV 6) aNil)))) (asgS 6 (tupE (aCons (op2 modD (op2 ixD (fV 7) (fC (.int 0))) (fV 1)) (aCons (op2 modD (op2 ixD (fV 7) (fC (.int 1))) (fV 2)) aNil))))))
def L2_cycles_of : SS := (ifS (fB (op2 ninXD (fV 5) (fV 3))) (seqS (parS 4 6 (op2 addD (fV 4) (fC (.int 1))) (fV 5)) (whS mu_cycles_of_1 (fB (op2 ninXD (fV 6) (fV 3))) L1_cycles_of)) nxS)
def B_cycles_of : SS := (seqS (parS 3 4 dic0E (fC (.int 0))) (seqS (forS (seqI bothK (lc2E (nmG 8) yesB (rng1I (aCons (fV 2) aNil)) (nmG 9) yesB (tupE (aCons (fV 8) (aCons (fV 9) aNil))) [8, 9] [9] (rng1I (aCons (fV 1) aNil)))) (nmG 5) L2_cycles_of) (retS (fV 4))))
def F_cycles_of : SE := defF 10 B_cycles_of
theorem r_cycles_of {x0_ x1_ x2_ : B} : F_cycles_of [x0_, x1_, x2_] = Rs.bind (B_cycles_of [x0_, x1_, x2_, .un, .un, .un, .un, .un, .un, .un]) (retF 3) := rfl
def B_count_classes : SS := (seqS (dropS (callF [false] F_need_generators [] (aCons (fV 0) aNil))) (seqS (dropS (callF [false, false, false] F_need_between [] (aCons (fV 1) (aCons (fC (.int 1)) (aCons (fC c_MOST_SIDE) aNil))))) (seqS (dropS (callF [false, false, false] F_need_between [] (aCons (fV 2) (aCons (fC (.int 1)) (aCons (fC c_MOST_SIDE) aNil))))) (seqS (dropS (callF [false, false, false] F_need_between [] (aCons (fV 3) (aCons (fC (.int 1)) (aCons (fC c_MOST_COLOURS) aNil))))) (seqS (ifS (andB (fB (op2 neD (fV 1) (fV 2))) (fB (opN anyD (aCons (lcE (seqI bothK (fV 0)) (nmG 5) yesB (op2 inG (op2 ixD (fV 5) (fC (.int 0))) (fC c_EXCHANGING)) [5]) aNil)))) (exS_ "CompatibilityError") nxS) (seqS (asgS 4 (callF [false, false, false] F_wrapped_group [] (aCons (fV 0) (aCons (fV 1) (aCons (fV 2) aNil))))) (retS (op2 fdivD (opN sumD (aCons (lcE (seqI bothK (fV 4)) (nmG 6) yesB (callF [false, false] F_raised [] (aCons (fV 3) (aCons (callF [false, false, false] F_cycles_of [] (aCons (fV 6) (aCons (fV 1) (aCons (fV 2) aNil)))) aNil))) [6]) aNil)) (opN lenD (aCons (fV 4) aNil))))))))))
def F_count_classes : SE := defF 7 B_count_classes
theorem r_count_classes {x0_ x1_ x2_ x3_ : B} : F_count_classes [x0_, x1_, x2_, x3_] = Rs.bind (B_count_classes [x0_, x1_, x2_, x3_, .un, .un, .un]) (retF 4) := rfl
end M
/-! x = [.. for .. for ..] -/
namespace G
open PySem PySem.Spec PyProof.Rows L2
end G
namespace G
open PySem PySem.Spec PyProof.Rows L2
open PySem.Sem (wp)
open PySem.Builtin
/-! ### texts of long ints -/
def DigH (h : Heap) : Prop := ∃ mc, h.Ns cStatics mc ∧ mc "sys.int_max_str_digits" = none
theorem DigH.keeps {h h' : Heap} (d : DigH h) (hk : ∀ b o, h.get? b = some o → h'.get? b = some o) : DigH h' :=
  ⟨d.choose, d.choose_spec.1.keeps hk, d.choose_spec.2⟩
/-! data of long ints -/
mutual
def bigS : PyData → Bool
  | .int i => decide (i.natAbs.log2 < 12900)
  | .list xs => bigSs xs
  | .tuple xs => bigSs xs
  | _ => false
def bigSs : List PyData → Bool
  | [] => true
  | x :: xs => bigS x && bigSs xs
end
mutual
def szB : PyData → Nat
  | .list xs => szBs xs + 4
  | .tuple xs => szBs xs + 4
  | _ => 12901
def szBs : List PyData → Nat
  | [] => 0
  | x :: xs => szB x + 2 + szBs xs
end
section
variable {prog : Program} {w : World} {hp : Heap}
structure OkB (d : PyData) : Prop where
  s : bigS d = true
  z : szB d ≤ sizeLine
structure OkBs (d : List PyData) : Prop where
  s : bigSs d = true
  z : szBs d ≤ sizeLine
theorem OkB.int {i : Int} (h : OkB (.int i)) : i.natAbs.log2 < 12900 := by simpa only [bigS, decide_eq_true_eq] using h.s
theorem OkB.list {xs : List PyData} (h : OkB (.list xs)) : OkBs xs := ⟨by simpa only [bigS] using h.s, by have := h.z; simp only [szB] at this; omega⟩
theorem OkB.tuple {xs : List PyData} (h : OkB (.tuple xs)) : OkBs xs := ⟨by simpa only [bigS] using h.s, by have := h.z; simp only [szB] at this; omega⟩
end
end G
namespace M
open PySem PySem.Spec PyProof.Rows L2 G
end M
/-! how a mirror runs: dicts whose keys are tuples of ints -/
namespace G
open PySem PySem.Spec PyProof.Rows L2
variable {ρ : List B} {i : Nat} {fk fe fv : SE} {fs : SA} {e : Ev} {es : List Ev} {d k : PyData} {ds : List PyData}
def setXG (i : Nat) (y k : PyData) (ρ : List B) : Option B → Rs Fl
  | some b => (match ownD b with
    | some d => (match setXD d k y with
      | some d' => .ok (.nx (ρ.set i (reD b d')))
      | none => .bad)
    | none => .bad)
  | none => .bad
def setXH (i : Nat) (y : PyData) (ρ : List B) : Option PyData → Rs Fl
  | some k => setXG i y k ρ ρ[i]?
  | none => .bad
def setXJ (i : Nat) (y : PyData) (q : Ev × List B) : Rs Fl := setXH i y q.2 (peek q.2 q.1)
def setXK (i : Nat) (fk : SE) (y : PyData) (ρ1 : List B) : Rs Fl := match (ρ1[i]?).bind ownD with
  | some _ => Rs.bind (fk ρ1) (setXJ i y)
  | none => .bad
def setXL (i : Nat) (fk : SE) (p : Ev × List B) : Rs Fl := shK (setXK i fk) p.2 p.1
theorem r_setX : setXS i fk fe ρ = Rs.bind (fe ρ) (setXL i fk) := by
  unfold setXS setXL shK
  congr 1
theorem k_sX1 : setXL i fk (e, ρ) = shK (setXK i fk) ρ e := id rfl
def setXM (fk : SE) (i : Nat) (y : PyData) (ρ1 : List B) : Option PyData → Rs Fl
  | some _ => Rs.bind (fk ρ1) (setXJ i y)
  | none => .bad
theorem k_sX2 {y : PyData} : setXK i fk y ρ = setXM fk i y ρ ((ρ[i]?).bind ownD) := by
  unfold setXK setXM
  rfl
theorem k_sX3 {y : PyData} : setXM fk i y ρ (some d) = Rs.bind (fk ρ) (setXJ i y) := id rfl
theorem k_sX4 {y : PyData} : setXJ i y (e, ρ) = setXH i y ρ (peek ρ e) := id rfl
theorem k_sX5 {y k : PyData} : setXH i y ρ (some k) = setXG i y k ρ ρ[i]? := id rfl
def setXO (i : Nat) (b : B) (ρ : List B) : Option PyData → Rs Fl
  | some d' => .ok (.nx (ρ.set i (reD b d')))
  | none => .bad
theorem k_sX6 {y k : PyData} : setXG i y k ρ (some (.own d)) = setXO i (.own d) ρ (setXD d k y) := by
  unfold setXG setXO
  rfl
theorem k_sX7 {y k : PyData} : setXG i y k ρ (some (.prm d)) = setXO i (.prm d) ρ (setXD d k y) := by
  unfold setXG setXO
  rfl
theorem k_sX8 {d' : PyData} : setXO i (.own d) ρ (some d') = .ok (.nx (ρ.set i (.own d'))) := id rfl
theorem k_sX9 {d' : PyData} : setXO i (.prm d) ρ (some d') = .ok (.nx (ρ.set i (.prm d'))) := id rfl
/-- a method of a dict -/
def mxD (i : Nat) (mt : PyData → List PyData → Option (PyData × PyData)) (fa : SA) (ρ : List B) : Option PyData → Rs (Ev × List B)
  | some d => if isDct d = true then Rs.bind (fa ρ) (muC i mt) else .bad
  | none => .bad
theorem r_mutX {mt : PyData → List PyData → Option (PyData × PyData)} : mutX i mt fs ρ = mxD i mt fs ρ ((ρ[i]?).bind ownD) := by
  unfold mutX mxD
  cases (ρ[i]?).bind ownD <;> rfl
theorem k_mx1 {mt : PyData → List PyData → Option (PyData × PyData)} {kvs : List (PyData × PyData)} : mxD i mt fs ρ (some (.dict kvs)) = Rs.bind (fs ρ) (muC i mt) := id rfl
/-- {k: v} -/
def d1M (y : PyData) (ρ : List B) : Option (List Int) → Rs (Ev × List B)
  | some q => .ok (.fr (.dict [(.tuple (q.map .int), y)]), ρ)
  | none => .bad
def d1L : Option (List PyData × List B) → Rs (Ev × List B)
  | some ([k, y], ρ) => d1M y ρ (tkey k)
  | _ => .bad
def d1K (p : List Ev × List B) : Rs (Ev × List B) := d1L (shrs p.2 p.1)
theorem r_dic1 : dic1XE fk fv ρ = Rs.bind (aCons fk (aCons fv aNil) ρ) d1K := by
  unfold dic1XE
  congr 1
theorem k_d11 : d1K (es, ρ) = d1L (shrs ρ es) := id rfl
theorem k_d12 {y : PyData} : d1L (some ([k, y], ρ)) = d1M y ρ (tkey k) := id rfl
theorem k_d13 {y : PyData} {q : List Int} : d1M y ρ (some q) = .ok (.fr (.dict [(.tuple (q.map .int), y)]), ρ) := id rfl
end G
/-! dicts whose keys are tuples of ints: items() walked, update, get of an expression; min of two alike data -/
namespace G
open PySem PySem.Spec PyProof.Rows L2
open PySem.W (AlikeAll minD dataLt alike)
/-! ### min(a, b) -/
/-! ### for .. in d.items() -/
def LkO (o : HO) : Prop := (∃ ks : List (Key × V), o = .dK ks) ∨ ∃ c xs, o = TX c xs
theorem LkO.tb {o : HO} (h : LkO o) : ¬ isTb o := by
  rcases h with ⟨_, rfl⟩ | ⟨_, _, rfl⟩ <;> exact fun z => z
theorem LkO.code {o : HO} (h : LkO o) : ∀ c q, o ≠ LamX.CodeO c q := by
  rcases h with ⟨_, rfl⟩ | ⟨_, _, rfl⟩
  · exact fun _ _ z => nomatch z
  · exact fun _ _ => tx_code
/-! ### d.update(d2) -/
def txupd : List (PyData × PyData) → List (PyData × PyData) → Option (List (PyData × PyData))
  | acc, [] => some acc
  | acc, (k, d) :: r => (tkey k).bind fun q => txupd (txput acc q d) r
/-! ### e.get(k, x) -/
def getXE (fe : SE) (fa : SA) : SE := fun ρ => (fe ρ).bind fun p => match shr p.2 (settle p.1) with
  | some (.dict kvs, ρ1) => if txd kvs = true then (fa ρ1).bind fun q => (match shrs q.2 q.1 with
    | some (ys, ρ2) => (match mtGetX (.dict kvs) ys with
      | some (_, v) => .ok (.val v, ρ2)
      | none => .bad)
    | none => .bad) else .bad
  | _ => .bad
/-! ### how these run -/
section
variable {ρ : List B} {fe : SE} {fa : SA} {e : Ev} {es : List Ev} {d k z : PyData} {kvs : List (PyData × PyData)}
def gtN (kvs : List (PyData × PyData)) : Option (List PyData × List B) → Rs (Ev × List B)
  | some (ys, ρ2) => (match mtGetX (.dict kvs) ys with
    | some (_, v) => .ok (.val v, ρ2)
    | none => .bad)
  | none => .bad
def gtM (kvs : List (PyData × PyData)) (q : List Ev × List B) : Rs (Ev × List B) := gtN kvs (shrs q.2 q.1)
def gtL (fa : SA) : Option (PyData × List B) → Rs (Ev × List B)
  | some (.dict kvs, ρ1) => if txd kvs = true then Rs.bind (fa ρ1) (gtM kvs) else .bad
  | _ => .bad
def gtK (fa : SA) (p : Ev × List B) : Rs (Ev × List B) := gtL fa (shr p.2 (settle p.1))
theorem r_getX : getXE fe fa ρ = Rs.bind (fe ρ) (gtK fa) := by
  unfold getXE
  congr 1
theorem k_gt1 : gtK fa (e, ρ) = gtL fa (shr ρ (settle e)) := id rfl
theorem k_gt3 : gtM kvs (es, ρ) = gtN kvs (shrs ρ es) := id rfl
end
end G
namespace M
open PySem PySem.Spec PyProof.Rows L2 G
end M
/-! list(d) of a dict whose keys are tuples of ints -/
namespace G
open PySem PySem.Spec PyProof.Rows L2
end G
namespace M
open PySem PySem.Spec PyProof.Rows L2 G
end M
set_option maxHeartbeats 2000000
/-! list(e.values()), e a dict whose keys are tuples of ints -/
namespace G
open PySem PySem.Spec PyProof.Rows L2
end G
/-! the table of a set with fewer than 1200 members -/
namespace G
open PySem PySem.Spec PyProof.Rows L2
/-! ### i -> 5 i + 1 meets all -/
def lcgB (m : Nat) : Nat → Nat → Nat → Nat
  | 0, _, acc => acc
  | n + 1, x, acc => lcgB m n ((x * 5 + 1) % (m + 1)) (acc ||| 2 ^ x)
def Msk (m : Nat) : Prop := m = 7 ∨ m = 31 ∨ m = 127 ∨ m = 511 ∨ m = 2047
theorem b7 : lcgB 7 8 0 0 = 2 ^ 8 - 1 := by decide +kernel
theorem way_leN {m : Nat} {h : Int} {k : Nat} : way m h k ≤ m := by
  have hi : SetTable.bits h % (m + 1) ≤ m := Nat.le_of_lt_succ (Nat.mod_lt _ (Nat.succ_pos _))
  have r := runEnd_bd hi
  have q := nth_in (m := m) k (runAt m (SetTable.bits h % (m + 1)) (SetTable.bits h)) (by
    show SetTable.bits h % (m + 1) + (SetTable.runEnd m (SetTable.bits h % (m + 1)) - SetTable.bits h % (m + 1)) ≤ m
    omega)
  show (nth m (runAt m (SetTable.bits h % (m + 1)) (SetTable.bits h)) k).j ≤ m
  omega
/-- a table whose slots are found again from their hashes -/
structure TabN (t : SetTable) (hs : List Int) : Prop where
  ris : Ris t.place.toList
  dm : t.dummies = #[]
  sz : t.place.size = hs.length
  mok : Msk t.mask
  bd : ∀ x ∈ t.place.toList, x ≤ t.mask
  reach : ∀ (i : Nat) (h : Int) (j : Nat), hs[i]? = some h → t.place.toList[i]? = some j → ∃ k, way t.mask h k = j ∧ ∀ k', k' < k → way t.mask h k' ∈ t.place.toList
theorem TabN.put {t : SetTable} {hs : List Int} (T : TabN t hs) {h : Int} {K : Nat} (hK : way t.mask h K ∉ t.place.toList) (hb : ∀ k, k < K → way t.mask h k ∈ t.place.toList) :
    (t.put (way t.mask h K)).2 = SetTable.below t.place (way t.mask h K) ∧ SetTable.below t.place (way t.mask h K) ≤ hs.length ∧
    TabN (t.put (way t.mask h K)).1 (hs.take (SetTable.below t.place (way t.mask h K)) ++ h :: hs.drop (SetTable.below t.place (way t.mask h K))) ∧
    (t.put (way t.mask h K)).1.mask = t.mask ∧ (t.put (way t.mask h K)).1.led = t.led ∧ (t.put (way t.mask h K)).1.moves = t.moves ∧ (t.put (way t.mask h K)).1.fill = hs.length + 1 := by
  have hjm : way t.mask h K ≤ t.mask := way_leN
  obtain ⟨j, hj⟩ : ∃ j, j = way t.mask h K := ⟨_, rfl⟩
  rw [← hj] at hK hjm ⊢
  obtain ⟨c1, _, _⟩ := below_cut T.ris j
  have hpl : SetTable.below t.place j ≤ t.place.toList.length := by
    rw [Array.length_toList]
    exact c1
  have hph : SetTable.below t.place j ≤ hs.length := by
    rw [← T.sz]
    exact c1
  have hsz : t.place.toList.length = hs.length := by
    rw [Array.length_toList]
    exact T.sz
  have hnp : t.place[SetTable.below t.place j]? ≠ some j := fun e => hK (List.mem_of_getElem? (by rw [Array.getElem?_toList]; exact e))
  have hpp := put_place t j
  have hsize : (t.put j).1.place.size = hs.length + 1 := by
    rw [← Array.length_toList, hpp, len_ins _ hpl, hsz]
  have up : ∀ {x : Nat}, x ∈ t.place.toList → x ∈ (t.put j).1.place.toList := fun {x} hx => by
    rw [hpp]
    exact mem_ins.2 (.inr hx)
  refine ⟨rfl, hph, ⟨ris_insert T.ris hnp, put_dm T.dm j, ?_, T.mok, fun x hx => ?_, fun i h' j' h1 h2 => ?_⟩, rfl, rfl, rfl, ?_⟩
  · rw [len_ins _ hph]
    exact hsize
  · rw [hpp] at hx
    rcases mem_ins.1 hx with z | z
    · rw [z]
      exact hjm
    · exact T.bd x z
  · rw [tins_get hs hph] at h1
    rw [hpp, tins_get _ hpl] at h2
    show ∃ k, way t.mask h' k = j' ∧ ∀ k', k' < k → way t.mask h' k' ∈ (t.put j).1.place.toList
    by_cases c : i < SetTable.below t.place j
    · rw [if_pos c] at h1 h2
      obtain ⟨k, e, z⟩ := T.reach i h' j' h1 h2
      exact ⟨k, e, fun k' hk' => up (z k' hk')⟩
    · rw [if_neg c] at h1 h2
      by_cases d : i = SetTable.below t.place j
      · rw [if_pos d] at h1 h2
        cases h1
        cases h2
        exact ⟨K, hj.symm, fun k' hk' => up (hb k' hk')⟩
      · rw [if_neg d] at h1 h2
        obtain ⟨k, e, z⟩ := T.reach (i - 1) h' j' h1 h2
        exact ⟨k, e, fun k' hk' => up (z k' hk')⟩
  · show (t.put j).1.place.size + (t.put j).1.dummies.size = hs.length + 1
    rw [hsize, put_dm T.dm j] <;> rfl
/-! ### laid anew -/
end G
set_option maxHeartbeats 2000000
/-! sets of tuples that hold ints, texts and such tuples: search, add -/
namespace G
open PySem PySem.Spec PyProof.Rows L2
/-- the tuple at a is the key k -/
def IsN (h : Heap) (k : NestedKey) (a : Addr) : Prop := NestedIs h k (.ref a) ∧ k.depth ≤ 8
section
variable {P : Program} {w : World} {A : Around} {E : Value → Shared → Prop} {s : Shared}
theorem IsN.at {h h' : Heap} {k : NestedKey} {b a : Addr} {o : Obj} {es : Array (Int × Value)} {ep : Nat} {t : SetTable} (hb : IsN h k b) (ho : h.get? a = some o) (hd : o.data = .set es ep t) (hs : Heap.SameBut a h h') : IsN h' k b := by
  refine ⟨NestedIs.at (fun c ob vs n hc hq => (hs.2 c fun e => ?_).trans hc) k _ hb.1, hb.2⟩
  subst e
  rw [ho] at hc
  cases hc
  rw [hd] at hq
  cases hq
theorem IsN.keep {h h' : Heap} {k : NestedKey} {b : Addr} (x : IsN h k b) (hk : ∀ c o, h.get? c = some o → h'.get? c = some o) : IsN h' k b := ⟨NestedIs.at (fun a o vs n e _ => hk a o e) k _ x.1, x.2⟩
theorem IsN.inj {h : Heap} {k k' : NestedKey} {b : Addr} (x : IsN h k b) (y : IsN h k' b) : k = k' := NestedIs.inj _ _ _ x.1 y.1
/-! ### small questions -/
def OfAt (P : Program) (w : World) (n : Nat) (s : Shared) (v : Value) : Prop := ∀ (A : Around) (E : Value → Shared → Prop) (Q : Bool → Shared → Prop), Q false s → wpAny (model P w) A (ofAClassStatement n v) Q E s
theorem OfAt.tuple {n : Nat} {b : Addr} {o : Obj} {vs : Array Value} {m : Nat} (ho : s.heap.get? b = some o) (hc : o.cls = .type "tuple") (hd : o.data = .seq vs m) (hq : ∀ v ∈ vs.toList, OfAt P w n s v) : OfAt P w (n + 1) s (.ref b) := fun A E Q h => by
  have hT : s.TypeIs (.ref b) "tuple" := ⟨o, ho, hc⟩
  unfold ofAClassStatement
  refine wpAny_bind (wpAny_typeOf hT ?_)
  dsimp only
  have e : (("tuple" : String) == "tuple") = true := by decide
  simp only [e, if_true, Bool.not_true, Bool.false_eq_true, if_false]
  try refine wpAny_bind (wpAny_pure ?_)
  try simp only [Bool.not_true, Bool.false_eq_true, if_false]
  show wpAny _ _ (seqItems? (.ref b) >>= _) _ _ s
  refine wpAny_bind (wpAny_seqItems ho hd ?_)
  dsimp only
  refine wpAny_bind ?_
  show wpAny _ _ (forIn vs _ _) _ _ s
  rw [← Array.forIn_toList]
  refine wpAny_forIn_list _ (fun rest r s' => r.1 = none ∧ s' = s ∧ ∀ v ∈ rest, OfAt P w n s v) _ ?_ ?_ _ _ ⟨rfl, rfl, hq⟩
  · rintro v rest r s' ⟨hr, rfl, hall⟩
    refine wpAny_bind (hall v List.mem_cons_self _ _ _ ?_)
    simp only [Bool.false_eq_true, if_false]
    exact wpAny_pure ⟨rfl, rfl, fun u hu' => hall u (List.mem_cons_of_mem _ hu')⟩
  · rintro ⟨r1, r2⟩ s' ⟨hr, rfl, _⟩
    simp only at hr
    subst hr
    exact wpAny_pure h
def HbAt (P : Program) (w : World) (n : Nat) (s : Shared) (v : Value) : Prop := ∀ (A : Around) (E : Value → Shared → Prop) (Q : Bool → Shared → Prop), (∀ b, Q b s) → wpAny (model P w) A (hashByValue n v) Q E s
theorem HbAt.tuple {n : Nat} {b : Addr} {o : Obj} {vs : Array Value} {m : Nat} (ho : s.heap.get? b = some o) (hc : o.cls = .type "tuple") (hd : o.data = .seq vs m) (hq : ∀ v ∈ vs.toList, HbAt P w n s v) : HbAt P w (n + 1) s (.ref b) := fun A E Q h => by
  have hT : s.TypeIs (.ref b) "tuple" := ⟨o, ho, hc⟩
  unfold hashByValue
  refine wpAny_bind (wpAny_specialOf hT F.slot_tuple_hash.lookup ?_)
  show wpAny _ _ (seqItems? (.ref b) >>= _) _ _ s
  refine wpAny_bind (wpAny_seqItems ho hd ?_)
  refine wpAny_bind ?_
  show wpAny _ _ (forIn vs _ _) _ _ s
  rw [← Array.forIn_toList]
  refine wpAny_forIn_list _ (fun rest r s' => r.1 = none ∧ s' = s ∧ ∀ v ∈ rest, HbAt P w n s v) _ ?_ ?_ _ _ ⟨rfl, rfl, hq⟩
  · rintro v rest r s' ⟨hr, rfl, hall⟩
    refine wpAny_bind (hall v List.mem_cons_self _ _ _ fun b => ?_)
    cases b with
    | true =>
      simp only [Bool.not_true, Bool.false_eq_true, if_false]
      exact wpAny_pure ⟨rfl, rfl, fun u hu' => hall u (List.mem_cons_of_mem _ hu')⟩
    | false =>
      simp only [Bool.not_false, if_true]
      exact wpAny_pure (wpAny_pure (h _))
  · rintro ⟨r1, r2⟩ s' ⟨hr, rfl, _⟩
    simp only at hr
    subst hr
    exact wpAny_pure (h _)
end
/-! ### the set -/
abbrev NL := List (Addr × NestedKey)
def rowsN (w : World) (L : NL) : List (Int × Value) := L.map fun p => (p.2.hash w, Value.ref p.1)
structure SetNR (w : World) (h : Heap) (a : Addr) (L : NL) (es : Array (Int × Value)) (ep : Nat) (t : SetTable) : Prop where
  ob : ∃ o, h.get? a = some o ∧ o.ExactSet ∧ o.data = .set es ep t
  rows : es.toList = rowsN w L
  tab : TabN t (L.map fun p => p.2.hash w)
  nd : (L.map (·.2)).Nodup
  tup : ∀ p ∈ L, IsN h p.2 p.1
  led : w.params.followText "set-order" = true ∨ t.led = true
  room : L.length * 5 < t.mask * 3
  few : L.length < 1200
section
variable {P : Program} {w : World} {A : Around} {E : Value → Shared → Prop} {s : Shared} {a : Addr} {L : NL} {es : Array (Int × Value)} {ep : Nat} {t : SetTable}
theorem SetNR.size (R : SetNR w s.heap a L es ep t) : es.size = L.length := by
  have h := congrArg List.length R.rows
  unfold rowsN at h
  rw [Array.length_toList, List.length_map] at h
  exact h
end
end G
set_option maxHeartbeats 3200000
/-! set(xs), sorted(set(xs)), len(set(xs)): xs a list of tuples that hold ints, texts and such tuples -/
namespace G
open PySem PySem.Spec PyProof.Rows L2
open PySem.W (alike dataLe dataLt AlikeAll AllAlike Sortable EachIs keyToks)
/-- what the set has got from the first i items -/
structure GotN (ks : NL) (i : Nat) (L : NL) : Prop where
  sub : ∀ p ∈ L, p ∈ ks.take i
  all : ∀ p ∈ ks.take i, p.2 ∈ L.map (·.2)
theorem GotN.zero (ks : NL) : GotN ks 0 [] := ⟨fun p h => (by cases h), fun p h => (by simp at h)⟩
theorem GotN.same {ks L : NL} {i : Nat} {x : Addr × NestedKey} (g : GotN ks i L) (h : ks[i]? = some x) (hm : x.2 ∈ L.map (·.2)) : GotN ks (i + 1) L := by
  refine ⟨fun p hp => ?_, fun p hp => ?_⟩
  · rw [take_next h]
    exact List.mem_append_left _ (g.sub p hp)
  · rw [take_next h] at hp
    rcases List.mem_append.mp hp with z | z
    · exact g.all p z
    · rw [List.mem_singleton.mp z]; exact hm
theorem GotN.more {ks L L' : NL} {i : Nat} {x : Addr × NestedKey} (g : GotN ks i L) (h : ks[i]? = some x) (pm : L'.Perm (x :: L)) : GotN ks (i + 1) L' := by
  refine ⟨fun p hp => ?_, fun p hp => ?_⟩
  · rw [take_next h]
    rcases List.mem_cons.mp (pm.mem_iff.mp hp) with e | z
    · rw [e]; exact List.mem_append_right _ (List.mem_singleton.mpr rfl)
    · exact List.mem_append_left _ (g.sub p z)
  · rw [(pm.map (·.2)).mem_iff, List.map_cons]
    rw [take_next h] at hp
    rcases List.mem_append.mp hp with z | z
    · exact List.mem_cons_of_mem _ (g.all p z)
    · rw [List.mem_singleton.mp z]; exact List.mem_cons_self
section
variable {P : Program} {w : World} {A : Around} {E : Value → Shared → Prop} {s : Shared}
theorem SetNR.keep {h h' : Heap} {a : Addr} {L : NL} {es : Array (Int × Value)} {ep : Nat} {t : SetTable} (R : SetNR w h a L es ep t) (ha : ∀ o, h.get? a = some o → h'.get? a = some o) (ht : ∀ p ∈ L, IsN h' p.2 p.1) : SetNR w h' a L es ep t := by
  obtain ⟨o, ho, r⟩ := R.ob
  exact ⟨⟨o, ha o ho, r⟩, R.rows, R.tab, R.nd, ht, R.led, R.room, R.few⟩
end
end G
set_option maxHeartbeats 2000000
/-! sorted(set(xs)), len(set(xs)) by data -/
namespace G
open PySem PySem.Spec PyProof.Rows L2
open PySem.W (alike dataLe dataLt AlikeAll AllAlike Sortable EachIs keyToks toks_eqv)
mutual
def isNk : PyData → Bool
  | .none => true
  | .int _ => true
  | .str x => PyData.strOk x
  | .tuple ds => isNkAll ds
  | .bool _ => false
  | .list _ => false
  | .dict _ => false
def isNkAll : List PyData → Bool
  | [] => true
  | d :: ds => isNk d && isNkAll ds
end
/-! ### no datum twice -/
/-! ### the set, without the tuples themselves -/
abbrev PL := List (Addr × PyData)
section
variable {X : Cx}
def DpP (K : PySem.W.Frag) (H : Hp) (L : PL) : Prop := ∀ p ∈ L, Dp K H (.ref p.1) p.2 ∧ isNk p.2 = true ∧ p.2.depth ≤ 8 ∧ ∃ x r, p.2 = .tuple (x :: r)
end
end G
set_option maxHeartbeats 2000000
/-! sorted(set(xs)), len(set(xs)) as expressions -/
namespace G
open PySem PySem.Spec PyProof.Rows L2
open PySem.W (alike dataLe dataLt AlikeAll AllAlike Sortable EachIs keyToks toks_eqv)
theorem SqT.sm {K : PySem.W.Frag} {H H' : Hp} (sm : L2.Same H H') {a : Addr} {xs : List V} (h : SqT K H a xs) : SqT K H' a xs := SqT.ex (S := fun _ => False) (S' := fun _ => False) (Ex.same sm) h
mutual
theorem dp_sm {K : PySem.W.Frag} {H H' : Hp} (sm : L2.Same H H') : ∀ (d : PyData) (v : V), isNk d = true → Dp K H v d → Dp K H' v d
  | .none, _, _, h => by cases h; exact .non
  | .int _, _, _, h => by cases h; exact .int _
  | .str _, _, _, h => by cases h; exact .str _
  | .tuple xs, _, k, h => by
    cases h with
    | tup h1 h2 => rw [isNk] at k; exact .tup (SqT.sm sm h1) (dps_sm sm xs _ k h2)
  | .bool _, _, hd, _ => by simp [isNk] at hd
  | .list _, _, hd, _ => by simp [isNk] at hd
  | .dict _, _, hd, _ => by simp [isNk] at hd
theorem dps_sm {K : PySem.W.Frag} {H H' : Hp} (sm : L2.Same H H') : ∀ (ds : List PyData) (vs : List V), isNkAll ds = true → DpAll K H vs ds → DpAll K H' vs ds
  | [], _, _, h => by cases h; exact .nil
  | d :: ds, _, k, h => by
    rw [isNkAll, Bool.and_eq_true] at k
    cases h with
    | cons h1 h2 => exact .cons (dp_sm sm d _ k.1 h1) (dps_sm sm ds _ k.2 h2)
end
theorem DpP.same {K : PySem.W.Frag} {H H' : Hp} {L : PL} (sm : L2.Same H H') (h : DpP K H L) : DpP K H' L := fun p hp => by
  obtain ⟨h1, h2, h3⟩ := h p hp
  exact ⟨dp_sm sm _ _ h2 h1, h2, h3⟩
end G
namespace M
open PySem PySem.Spec PyProof.Rows L2 G
end M
namespace M
open PySem PySem.Spec PyProof.Rows L2 G
end M
namespace M
open PySem PySem.Spec PyProof.Rows L2 G
end M
set_option maxHeartbeats 2000000
/-! tuple(e.values()), e a dict whose keys are tuples of ints -/
namespace G
open PySem PySem.Spec PyProof.Rows L2
end G
set_option maxHeartbeats 2000000
namespace G
open PySem PySem.Spec PyProof.Rows L2
/-! ### try: .. except E as x: .. at the end of a def: the suite returns a bool -/
end G
set_option maxHeartbeats 2000000
namespace G
open PySem PySem.Spec PyProof.Rows L2
/-! ### the two try rules, told as the walks want them -/
end G
namespace M
open PySem PySem.Spec PyProof.Rows L2 G
end M
set_option maxHeartbeats 2000000
namespace G
open PySem PySem.Spec PyProof.Rows L2
/-! ### objects that the caller handed: fields are read, lists in fields are written, fields are stored -/
theorem FR.lookup {K : PySem.W.Frag} {A0 : Ax} {S : Addr → Prop} {H : Hp} {f : Str} {vs : List (Str × V)} {fs : List (Str × OF)} (h : FR K A0 S H vs fs) : ∀ x, fs.lookup f = some x → ∃ u, vs.lookup f = some u ∧ OFR K A0 S H u x := by
  induction h with
  | nil => intro x e; cases e
  | @cons a b l1 l2 h t ih =>
    intro x e
    obtain ⟨n, u⟩ := a
    obtain ⟨n', y⟩ := b
    obtain ⟨rfl, q⟩ : n = n' ∧ OFR K A0 S H u y := h
    rw [List.lookup_cons] at e ⊢
    split at e
    · rename_i hb
      cases e
      exact ⟨u, rfl, q⟩
    · exact ih x e
def putO (f : Str) (x : OF) : List (Str × OF) → List (Str × OF)
  | [] => [(f, x)]
  | (g, y) :: r => if g = f then (g, x) :: r else (g, y) :: putO f x r
theorem FR.put {K : PySem.W.Frag} {A0 : Ax} {S : Addr → Prop} {H : Hp} {f : Str} {v : V} {x : OF} (hv : OFR K A0 S H v x) {vs : List (Str × V)} {fs : List (Str × OF)} (h : FR K A0 S H vs fs) : FR K A0 S H (putF f v vs) (putO f x fs) := by
  induction h with
  | nil => exact .cons ⟨rfl, hv⟩ .nil
  | @cons a b l1 l2 h t ih =>
    obtain ⟨n, u⟩ := a
    obtain ⟨n', y⟩ := b
    obtain ⟨rfl, q⟩ : n = n' ∧ OFR K A0 S H u y := h
    unfold putF putO
    by_cases e : n = f
    · rw [if_pos e, if_pos e]; exact .cons ⟨rfl, hv⟩ t
    · rw [if_neg e, if_neg e]; exact .cons ⟨rfl, q⟩ ih
theorem FR.len {K : PySem.W.Frag} {A0 : Ax} {S : Addr → Prop} {H : Hp} {vs : List (Str × V)} {fs : List (Str × OF)} (h : FR K A0 S H vs fs) : vs.length = fs.length := Paired.length h
/-- what is known of an object in a slot -/
theorem ob_slot {K : PySem.W.Frag} {A0 : Ax} {S : Addr → Prop} {H : Hp} {σ : St} {ρ : List B} {i : Nat} {c : Str} {fs : List (Str × OF)} (r : Rp K A0 S H σ ρ) (e : ρ[i]? = some (.ob c fs)) :
    ∃ a, σ[i]? = some (some (.ref a)) ∧ A0 i = some a ∧ ¬ S a ∧ OwI σ ρ i a ∧ ∃ C dx vs, (c, C) ∈ A0.g.cl ∧ H a = some (.ins C dx vs) ∧ FR K A0 S H vs fs := by
  obtain ⟨a, e1, e2, e3, q⟩ := r.bd i _ e
  exact ⟨a, e1, e2, e3, ⟨by rw [e]; rfl, e1⟩, q⟩
section
variable {X : Cx} {A0 : Ax} {W : WX} {e : Expr} {es : List Expr} {fa : SA} {apos cpos pos pos' p1 : Pos} {x : Str}
/-- o.f = e -/
def putK (i : Nat) (f : Str) (d : PyData) (ρ : List B) : Option B → Rs Fl
  | some (.ob c fs) => if fs.length < 1000 then .ok (.nx (ρ.set i (.ob c (putO f (.inl d) fs)))) else .bad
  | _ => .bad
end
end G
set_option maxHeartbeats 4000000
namespace G
open PySem PySem.Spec PyProof.Rows L2
/-! ### methods: the parameters, then nothing up to slot gp, then the lists of the object (ghosts) -/
/-- the values of a method's slots at its start -/
abbrev frO (gp : Nat) (vs gs : List V) : List V := vs ++ List.replicate (gp - vs.length) V.non ++ gs
structure FnO (P : Program) (w : World) (K : PySem.W.Frag) (mg : Str → Option Value) (base : Heap) (Γ : Gx) (k : Nat) (f : Addr) (fd : FuncData) (ps : List Str) (gp m : Nat) (F : SE) : Prop where
  run : ∀ (A : Around) (outer : List Env) (s : Shared) (H : Hp) (args : Args) (us : List Value) (vs gs : List V) (Q : VK) (E : XK) (S : Addr → Prop) (bs : List B), Room k A → A.guards = some [] → Env0 P w K mg base A outer s H → BindsTo s fd args (ps.zip us) → Vals vs us →
    vs.length = ps.length → vs.length ≤ gp → gs.length = m → (∀ (i : Nat) (d : PyData), bs[i]? ≠ some (B.own d)) → (∀ i, vs.length ≤ i → i < gp → bs[i]? = some .un) → Rp K (A0p Γ (frO gp vs gs) bs) S H (pst (frO gp vs gs)) bs → PostF Γ K mg S H (frO gp vs gs) bs (F bs) Q E →
    codeAny (model P w) A (.call (.ref f) args) (CR (CX P w) outer P w H s Q E) s
theorem FnO.mono {P : Program} {w : World} {K : PySem.W.Frag} {mg : Str → Option Value} {base : Heap} {Γ : Gx} {j k : Nat} {f : Addr} {fd : FuncData} {ps : List Str} {gp m : Nat} {F : SE} (G : FnO P w K mg base Γ j f fd ps gp m F) (h : j ≤ k) : FnO P w K mg base Γ k f fd ps gp m F :=
  ⟨fun A outer s H args us vs gs Q E S bs hr => G.run A outer s H args us vs gs Q E S bs (hr.mono h)⟩
end G
set_option maxHeartbeats 4000000
namespace G
open PySem PySem.Spec PyProof.Rows L2
/-! ### o.m(..), o an object that the caller handed -/
def setGh : Nat → List B → List B → List B
  | _, [], ρ => ρ
  | g, o :: os, ρ => setGh (g + 1) os (ρ.set g o)
def ghIn (gp m : Nat) (fs : List (Str × OF)) : Bool := fs.all fun p => match p.2 with
  | .gh g => decide (gp ≤ g) && decide (g < gp + m)
  | .inl _ => true
def isPrm : B → Bool
  | .prm _ => true
  | _ => false
def outM (gp m i : Nat) (ρ : List B) : List B → Option (List B)
  | .ob c fs :: r => if (ghIn gp m fs && ((.ob c fs :: r : List B).drop gp).all isPrm) = true then some (setGh gp ((.ob c fs :: r : List B).drop gp) (ρ.set i (.ob c fs))) else none
  | _ => none
def argsM (gp : Nat) (c : Str) (fs : List (Str × OF)) (ys gds : List PyData) : List B := (.ob c fs :: ys.map B.val) ++ List.replicate (gp - (ys.length + 1)) .un ++ gds.map B.prm
theorem setGh_len : ∀ {os ρ : List B} {g : Nat}, (setGh g os ρ).length = ρ.length
  | [], _, _ => rfl
  | o :: os, ρ, g => by unfold setGh; rw [setGh_len, List.length_set]
theorem setGh_get : ∀ {os ρ : List B} {g j : Nat}, g + os.length ≤ ρ.length → (setGh g os ρ)[j]? = if g ≤ j ∧ j < g + os.length then os[j - g]? else ρ[j]?
  | [], ρ, g, j, _ => by
    unfold setGh
    rw [if_neg (by simp only [List.length_nil]; omega)]
  | o :: os, ρ, g, j, h => by
    unfold setGh
    simp only [List.length_cons] at h ⊢
    rw [setGh_get (by rw [List.length_set]; omega)]
    by_cases h1 : g + 1 ≤ j ∧ j < g + 1 + os.length
    · rw [if_pos h1, if_pos (by omega)]
      obtain ⟨k, rfl⟩ : ∃ k, j = g + 1 + k := ⟨j - (g + 1), by omega⟩
      rw [show g + 1 + k - (g + 1) = k by omega, show g + 1 + k - g = k + 1 by omega, List.getElem?_cons_succ]
    · rw [if_neg h1]
      by_cases h2 : j = g
      · subst h2
        rw [if_pos (by omega), Nat.sub_self, List.getElem?_set_self (by omega)]
        rfl
      · rw [if_neg (by omega), List.getElem?_set_ne (Ne.symm h2)]
section
variable {K : PySem.W.Frag} {A0 : Ax} {S S3 : Addr → Prop} {H H3 : Hp} {σ : St} {ρ : List B}
/-- what the callee's slots are -/
def ArgK (gp : Nat) (c : Str) (fs : List (Str × OF)) (ys gds : List PyData) (a : Addr) (vs : List V) (ls : List Addr) (j : Nat) (b : B) : Prop :=
  (j = 0 ∧ b = .ob c fs ∧ (frO gp (.ref a :: vs) (ls.map V.ref))[j]? = some (.ref a)) ∨ (∃ d v, b = .val d ∧ j < gp ∧ ys[j - 1]? = some d ∧ vs[j - 1]? = some v ∧ (frO gp (.ref a :: vs) (ls.map V.ref))[j]? = some v) ∨ (b = .un ∧ j < gp) ∨
    ∃ k d l, j = gp + k ∧ b = .prm d ∧ gds[k]? = some d ∧ ls[k]? = some l ∧ (frO gp (.ref a :: vs) (ls.map V.ref))[j]? = some (.ref l)
theorem argsM_get {gp m : Nat} {c : Str} {fs : List (Str × OF)} {ys gds : List PyData} {a : Addr} {vs : List V} {ls : List Addr} (hv : vs.length = ys.length) (hg : ys.length + 1 ≤ gp) (hl : ls.length = gds.length) {j : Nat} {b : B} (e : (argsM gp c fs ys gds)[j]? = some b) : ArgK gp c fs ys gds a vs ls j b := by
  unfold ArgK
  unfold argsM at e
  have len1 : ((B.ob c fs :: ys.map B.val) ++ List.replicate (gp - (ys.length + 1)) B.un).length = gp := by simp; omega
  have len2 : ((V.ref a :: vs) ++ List.replicate (gp - (V.ref a :: vs).length) V.non).length = gp := by simp; omega
  by_cases h1 : j < gp
  · rw [List.getElem?_append_left (by omega)] at e
    by_cases h2 : j < ys.length + 1
    · rw [List.getElem?_append_left (by simp; omega)] at e
      have ev : (frO gp (.ref a :: vs) (ls.map V.ref))[j]? = (V.ref a :: vs)[j]? := by
        unfold frO
        rw [List.getElem?_append_left (by omega), List.getElem?_append_left (by simp; omega)]
      cases j with
      | zero => cases e; exact .inl ⟨rfl, rfl, ev⟩
      | succ j =>
        rw [List.getElem?_cons_succ, List.getElem?_map] at e
        cases ey : ys[j]? with
        | none => rw [ey] at e; cases e
        | some d =>
          rw [ey] at e; cases e
          have hj : j < vs.length := by omega
          exact .inr (.inl ⟨d, vs[j], rfl, h1, ey, List.getElem?_eq_getElem hj, by rw [ev, List.getElem?_cons_succ]; exact List.getElem?_eq_getElem hj⟩)
    · rw [List.getElem?_append_right (by simp; omega), List.getElem?_replicate] at e
      split at e
      · cases e; exact .inr (.inr (.inl ⟨rfl, h1⟩))
      · cases e
  · rw [List.getElem?_append_right (by omega), len1, List.getElem?_map] at e
    cases eg : gds[j - gp]? with
    | none => rw [eg] at e; cases e
    | some d =>
      rw [eg] at e; cases e
      have hj : j - gp < ls.length := by rw [hl]; exact (List.getElem?_eq_some_iff.mp eg).1
      refine .inr (.inr (.inr ⟨j - gp, d, ls[j - gp], by omega, rfl, eg, List.getElem?_eq_getElem hj, ?_⟩))
      unfold frO
      rw [List.getElem?_append_right (by omega), len2, List.getElem?_map, List.getElem?_eq_getElem hj]
      rfl
/-- what is known around a call of a method -/
structure MC (K : PySem.W.Frag) (A0 : Ax) (S : Addr → Prop) (H : Hp) (σ : St) (ρ : List B) (gp m i : Nat) (c : Str) (fs : List (Str × OF)) (ys gds : List PyData) (a : Addr) (vs : List V) (ls : List Addr) : Prop where
  r : Rp K A0 S H σ ρ
  ei : ρ[i]? = some (.ob c fs)
  ea : σ[i]? = some (some (.ref a))
  dv : DrAll K S H vs ys
  hg : ys.length + 1 ≤ gp
  gl : gp + m ≤ ρ.length
  ll : ls.length = m
  lg : gds.length = m
  gh : ∀ (k : Nat) (l : Addr), ls[k]? = some l → ∃ d, gds[k]? = some d ∧ ρ[gp + k]? = some (.prm d) ∧ σ[gp + k]? = some (some (.ref l)) ∧ A0 (gp + k) = some l
  gi : ghIn gp m fs = true
abbrev vsM (gp : Nat) (a : Addr) (vs : List V) (ls : List Addr) : List V := frO gp (.ref a :: vs) (ls.map V.ref)
section
variable {gp m i : Nat} {c : Str} {fs : List (Str × OF)} {ys gds : List PyData} {a : Addr} {vs : List V} {ls : List Addr}
theorem ghIn_ok {f : Str} {g : Nat} (h : ghIn gp m fs = true) (hm : (f, OF.gh g) ∈ fs) : gp ≤ g ∧ g < gp + m := by
  have := List.all_eq_true.mp h _ hm
  simpa using this
theorem MC.vl (M : MC K A0 S H σ ρ gp m i c fs ys gds a vs ls) : vs.length = ys.length := M.dv.length
theorem MC.get (M : MC K A0 S H σ ρ gp m i c fs ys gds a vs ls) {j : Nat} {b : B} (e : (argsM gp c fs ys gds)[j]? = some b) : ArgK gp c fs ys gds a vs ls j b := argsM_get (m := m) (a := a) M.vl M.hg (M.ll.trans M.lg.symm) e
/-- owned by the callee: owned by the caller, in slot i or a ghost's -/
theorem MC.own (M : MC K A0 S H σ ρ gp m i c fs ys gds a vs ls) {j : Nat} {b : Addr} (h : OwI (pst (vsM gp a vs ls)) (argsM gp c fs ys gds) j b) : (j = 0 ∧ b = a ∧ OwI σ ρ i b) ∨ ∃ k, j = gp + k ∧ k < m ∧ ls[k]? = some b ∧ OwI σ ρ j b := by
  obtain ⟨h1, h2⟩ := h
  cases e : (argsM gp c fs ys gds)[j]? with
  | none => rw [e] at h1; cases h1
  | some x =>
    rw [e] at h1
    have hv : ∀ v, (vsM gp a vs ls)[j]? = some v → v = .ref b := fun v q => by
      simp only [pst, List.getElem?_map, q, Option.map_some] at h2
      injection h2 with h2; injection h2
    rcases M.get e with ⟨rfl, rfl, q⟩ | ⟨d, v, rfl, _⟩ | ⟨rfl, _⟩ | ⟨k, d, l, rfl, rfl, q1, q2, q3⟩
    · have := hv _ q
      injection this with this
      subst this
      exact .inl ⟨rfl, rfl, by rw [M.ei]; rfl, M.ea⟩
    · cases h1
    · cases h1
    · have := hv _ q3
      injection this with this
      subst this
      obtain ⟨d', z1, z2, z3, z4⟩ := M.gh k l q2
      exact .inr ⟨k, rfl, by rw [← M.ll]; exact (List.getElem?_eq_some_iff.mp q2).1, q2, by rw [z2]; rfl, z3⟩
theorem MC.inn (M : MC K A0 S H σ ρ gp m i c fs ys gds a vs ls) {b : Addr} (h : Ow (pst (vsM gp a vs ls)) (argsM gp c fs ys gds) b) : Ow σ ρ b := by
  obtain ⟨j, h⟩ := h
  rcases M.own h with ⟨_, _, q⟩ | ⟨k, _, _, _, q⟩
  · exact ⟨_, q⟩
  · exact ⟨_, q⟩
theorem MC.fr (M : MC K A0 S H σ ρ gp m i c fs ys gds a vs ls) {g : Nat} {l : Addr} (h1 : gp ≤ g) (h2 : g < gp + m) : A0 g = some l ↔ A0f (vsM gp a vs ls) (argsM gp c fs ys gds) g = some l := by
  obtain ⟨k, rfl⟩ : ∃ k, g = gp + k := ⟨g - gp, by omega⟩
  have hk : k < ls.length := by rw [M.ll]; omega
  obtain ⟨d, z1, z2, z3, z4⟩ := M.gh k _ (List.getElem?_eq_getElem hk)
  have e : (argsM gp c fs ys gds)[gp + k]? = some (.prm d) := by
    unfold argsM
    have len1 : ((B.ob c fs :: ys.map B.val) ++ List.replicate (gp - (ys.length + 1)) B.un).length = gp := by have := M.hg; simp; omega
    rw [List.getElem?_append_right (by omega), len1, Nat.add_sub_cancel_left, List.getElem?_map, z1]
    rfl
  rcases M.get e with ⟨_, q, _⟩ | ⟨d', v, q, _⟩ | ⟨q, _⟩ | ⟨k', d', l', q0, q, q1, q2, q3⟩
  · cases q
  · cases q
  · cases q
  · obtain rfl : k = k' := by omega
    rw [List.getElem?_eq_getElem hk] at q2
    cases q2
    unfold A0f
    rw [e, q3, z4]
/-- slots of the caller that the callee does not reach -/
theorem MC.other (M : MC K A0 S H σ ρ gp m i c fs ys gds a vs ls) {S3 : Addr → Prop} {H3 : Hp} {O3 : Addr → Prop} (t : Tr S H (Ow (pst (vsM gp a vs ls)) (argsM gp c fs ys gds)) S3 H3 O3) {j : Nat} {b : Addr} (q : OwI σ ρ j b) (hi : j ≠ i) (hgj : ¬ (gp ≤ j ∧ j < gp + m)) : ¬ S3 b ∧ ∀ o, H b = some o → H3 b = some o := by
  have no : ¬ Ow (pst (vsM gp a vs ls)) (argsM gp c fs ys gds) b := fun ⟨j', h⟩ => by
    rcases M.own h with ⟨_, _, q'⟩ | ⟨k, rfl, hk, _, q'⟩
    · exact hi (M.r.dis _ _ _ q q')
    · have := M.r.dis _ _ _ q q'
      exact hgj (by omega)
  obtain ⟨n0, ⟨o', e', n, _⟩⟩ := M.r.own q
  have n' : ¬ S3 b := fun z => by
    rcases t.g b z with q | q | q
    · exact n0 q
    · exact no q
    · rw [e'] at q; cases q
  exact ⟨n', fun o ho => t.keepS ho no n' (by rw [ho] at e'; cases e'; exact n)⟩
theorem MC.exS (M : MC K A0 S H σ ρ gp m i c fs ys gds a vs ls) {S3 : Addr → Prop} {H3 : Hp} {O3 : Addr → Prop} (t : Tr S H (Ow (pst (vsM gp a vs ls)) (argsM gp c fs ys gds)) S3 H3 O3) : Ex S H S3 H3 :=
  Ex.of_tr t (fun b hs z => M.r.sep hs (M.inn z)) fun b z => by
    obtain ⟨j, q⟩ := M.inn z
    exact (M.r.own q).2
theorem MC.iG (M : MC K A0 S H σ ρ gp m i c fs ys gds a vs ls) : ¬ (gp ≤ i ∧ i < gp + m) := fun ⟨h1, h2⟩ => by
  obtain ⟨k, rfl⟩ : ∃ k, i = gp + k := ⟨i - gp, by omega⟩
  have hk : k < ls.length := by rw [M.ll]; omega
  obtain ⟨d, z1, z2, _⟩ := M.gh k _ (List.getElem?_eq_getElem hk)
  rw [M.ei] at z2; cases z2
/-- behind the call -/
theorem MC.back (M : MC K A0 S H σ ρ gp m i c fs ys gds a vs ls) {S3 : Addr → Prop} {H3 : Hp} {outs ρ2 : List B} (t : Tr S H (Ow (pst (vsM gp a vs ls)) (argsM gp c fs ys gds)) S3 H3 (Ow (pst (vsM gp a vs ls)) outs)) (ro : Rp K (A0p A0.g (vsM gp a vs ls) (argsM gp c fs ys gds)) S3 H3 (pst (vsM gp a vs ls)) outs)
    (ho : outM gp m i ρ outs = some ρ2) : Tr S H (Ow σ ρ) S3 H3 (Ow σ ρ2) ∧ Rp K A0 S3 H3 σ ρ2 ∧ ∀ b, Ow σ ρ2 b → Ow σ ρ b := by
  have r := M.r
  have x := M.exS t
  have lo : outs.length = gp + m := by
    rw [← ro.len]
    have := M.vl; have := M.hg; have := M.ll
    simp only [pst, vsM, frO, List.length_append, List.length_map, List.length_replicate, List.length_cons]; omega
  cases outs with
  | nil => cases ho
  | cons b0 rest =>
    cases b0 with
    | ob c' fs' =>
      have ho : (if (ghIn gp m fs' && ((B.ob c' fs' :: rest).drop gp).all isPrm) = true then some (setGh gp ((B.ob c' fs' :: rest).drop gp) (ρ.set i (.ob c' fs'))) else none) = some ρ2 := ho
      by_cases hc : (ghIn gp m fs' && ((B.ob c' fs' :: rest).drop gp).all isPrm) = true
      rotate_left
      · rw [if_neg hc] at ho; cases ho
      rw [if_pos hc] at ho
      cases ho
      rw [Bool.and_eq_true] at hc
      obtain ⟨gi', ap⟩ := hc
      generalize hO : (B.ob c' fs' :: rest : List B) = O at *
      have hO0 : O[0]? = some (.ob c' fs') := by rw [← hO]; rfl
      have ld : (O.drop gp).length = m := by rw [List.length_drop, lo]; omega
      have glen : gp + (O.drop gp).length ≤ (ρ.set i (.ob c' fs')).length := by
        rw [ld, List.length_set]
        exact M.gl
      have get : ∀ j, (setGh gp (O.drop gp) (ρ.set i (.ob c' fs')))[j]? = if gp ≤ j ∧ j < gp + m then O[j]? else (ρ.set i (.ob c' fs'))[j]? := fun j => by
        rw [setGh_get glen, ld]
        by_cases h : gp ≤ j ∧ j < gp + m
        · rw [if_pos h, if_pos h, List.getElem?_drop]
          congr 1
          omega
        · rw [if_neg h, if_neg h]
      have iG := M.iG
      have li : i < ρ.length := (List.getElem?_eq_some_iff.mp M.ei).1
      have cls : ∀ (j : Nat) (y : B), (setGh gp (O.drop gp) (ρ.set i (.ob c' fs')))[j]? = some y → ((gp ≤ j ∧ j < gp + m) ∧ O[j]? = some y) ∨ (j = i ∧ y = .ob c' fs') ∨ (j ≠ i ∧ ¬ (gp ≤ j ∧ j < gp + m) ∧ ρ[j]? = some y) := fun j y e => by
        rw [get j] at e
        by_cases h : gp ≤ j ∧ j < gp + m
        · rw [if_pos h] at e; exact .inl ⟨h, e⟩
        · rw [if_neg h] at e
          by_cases hj : i = j
          · subst hj; rw [List.getElem?_set_self li] at e; cases e; exact .inr (.inl ⟨rfl, rfl⟩)
          · rw [List.getElem?_set_ne hj] at e; exact .inr (.inr ⟨Ne.symm hj, h, e⟩)
      have gprm : ∀ (j : Nat) (y : B), gp ≤ j → O[j]? = some y → ∃ d, y = .prm d := fun j y h e => by
        have : y ∈ O.drop gp := List.mem_of_getElem? (i := j - gp) (by rw [List.getElem?_drop, show gp + (j - gp) = j by omega]; exact e)
        have := List.all_eq_true.mp ap y this
        cases y with
        | prm d => exact ⟨d, rfl⟩
        | _ => cases this
      have gslot : ∀ (j : Nat), gp ≤ j ∧ j < gp + m → ∃ l d, ρ[j]? = some (.prm d) ∧ σ[j]? = some (some (.ref l)) ∧ A0 j = some l := fun j h => by
        obtain ⟨k, rfl⟩ : ∃ k, j = gp + k := ⟨j - gp, by omega⟩
        have hk : k < ls.length := by rw [M.ll]; omega
        obtain ⟨d, z1, z2, z3, z4⟩ := M.gh k _ (List.getElem?_eq_getElem hk)
        exact ⟨_, d, z2, z3, z4⟩
      have own : ∀ (j : Nat) (b : Addr), OwI σ (setGh gp (O.drop gp) (ρ.set i (.ob c' fs'))) j b → OwI σ ρ j b := fun j b ⟨h1, h2⟩ => by
        cases e : (setGh gp (O.drop gp) (ρ.set i (.ob c' fs')))[j]? with
        | none => rw [e] at h1; cases h1
        | some y =>
          rcases cls j y e with ⟨h, _⟩ | ⟨rfl, rfl⟩ | ⟨_, _, q⟩
          · obtain ⟨l, d, z1, z2, _⟩ := gslot j h
            exact ⟨by rw [z1]; rfl, h2⟩
          · exact ⟨by rw [M.ei]; rfl, h2⟩
          · exact ⟨by rw [q]; rw [e] at h1; exact h1, h2⟩
      refine ⟨⟨t.s, fun b o e n => t.keep b o e fun z => n (M.inn z), t.dom, fun b ⟨j, h⟩ => .inl ⟨j, own j b h⟩, fun b z => (t.g b z).imp id (Or.imp M.inn id)⟩,
        ⟨by rw [setGh_len, List.length_set]; exact r.len, fun j y e => ?_, fun j k b h1 h2 => r.dis j k b (own j b h1) (own k b h2), ro.al, fun j d b e h2 => ?_, fun j b h => let ⟨o, e⟩ := r.aa j b h; t.dom b o e, ro.tb⟩, fun b ⟨j, h⟩ => ⟨j, own j b h⟩⟩
      · rcases cls j y e with ⟨h, q⟩ | ⟨rfl, rfl⟩ | ⟨hj, hgj, q⟩
        · obtain ⟨d, rfl⟩ := gprm j y h.1 q
          obtain ⟨l, d0, z1, z2, z3⟩ := gslot j h
          obtain ⟨a2, y1, y2, y3, y4⟩ := ro.bd j _ q
          have y2 : A0f (vsM gp a vs ls) (argsM gp c fs ys gds) j = some a2 := y2
          have y2 := (M.fr h.1 h.2).mpr y2
          rw [z3] at y2; cases y2
          exact ⟨l, z2, z3, y3, y4⟩
        · obtain ⟨a2, y1, y2, y3, C, dx, us, hcl, ha, fr⟩ := ro.bd 0 _ hO0
          have y1 : some (some (V.ref a)) = some (some (V.ref a2)) := y1
          cases y1
          obtain ⟨a3, w1, w2, _⟩ := ob_slot r M.ei
          rw [M.ea] at w1; cases w1
          refine ⟨a, M.ea, w2, y3, C, dx, us, hcl, ha, ?_⟩
          have key : ∀ {us : List (Str × V)} {fs' : List (Str × OF)}, FR K (A0p A0.g (vsM gp a vs ls) (argsM gp c fs ys gds)) S3 H3 us fs' → ghIn gp m fs' = true → FR K A0 S3 H3 us fs' := fun {us fs'} h => by
            induction h with
            | nil => exact fun _ => .nil
            | @cons x y l1 l2 h tt ih =>
              intro gi
              have gi2 : ghIn gp m l2 = true := by
                unfold ghIn at gi ⊢
                rw [List.all_cons, Bool.and_eq_true] at gi
                exact gi.2
              refine .cons ⟨h.1, ?_⟩ (ih gi2)
              obtain ⟨n, y⟩ := y
              cases y with
              | inl d => exact h.2
              | gh g =>
                obtain ⟨l, z1, z2⟩ := h.2
                obtain ⟨g1, g2⟩ := ghIn_ok gi (List.mem_cons_self ..)
                exact ⟨l, z1, (M.fr g1 g2).mpr z2⟩
          exact key fr gi'
        · have q' := r.bd j y q
          cases y with
          | un => trivial
          | exc _ => exact bd_exc x q'
          | val d => obtain ⟨v, e1, e2⟩ := q'; exact ⟨v, e1, e2.ex x⟩
          | own d =>
            obtain ⟨b, e1, e2, e3⟩ := q'
            obtain ⟨n1, n2⟩ := M.other t (j := j) (b := b) ⟨by rw [q]; rfl, e1⟩ hj hgj
            exact ⟨b, e1, n1, e3.ex x n2⟩
          | prm d =>
            obtain ⟨b, e1, e0, e2, e3⟩ := q'
            obtain ⟨n1, n2⟩ := M.other t (j := j) (b := b) ⟨by rw [q]; rfl, e1⟩ hj hgj
            exact ⟨b, e1, e0, n1, e3.ex x n2⟩
          | ob c2 f2 =>
            refine bd_ob x q' fun b e1 => ?_
            obtain ⟨n1, n2⟩ := M.other t (j := j) (b := b) ⟨by rw [q]; rfl, e1⟩ hj hgj
            exact ⟨e1, n1, n2⟩
      · rcases cls j _ e with ⟨h, q⟩ | ⟨_, q⟩ | ⟨_, _, q⟩
        · obtain ⟨d', q'⟩ := gprm j _ h.1 q
          cases q'
        · cases q
        · exact r.np j d b q h2
    | _ => cases ho
end
end
end G
set_option maxHeartbeats 4000000
namespace G
open PySem PySem.Spec PyProof.Rows L2
/-! ### __init__: o.f, o.g, o.h = e, a new list, a new list; then the rest with the lists as ghosts -/
end G
set_option maxHeartbeats 4000000
namespace G
open PySem PySem.Spec PyProof.Rows L2
end G
set_option maxHeartbeats 4000000
namespace G
open PySem PySem.Spec PyProof.Rows L2
/-! ### x = C(..), then the rest of the def with the object -/
end G
set_option maxHeartbeats 4000000
namespace G
open PySem PySem.Spec PyProof.Rows L2
/-! ### the end: classes of objects -/
structure MetK (K : PySem.W.Frag) (C : Addr) (nm qual : Str) (st : Stmt) (ps : List Str) (f : Addr) (fd : FuncData) : Prop where
  me : Meth K C nm f
  ex : FnEx K .none nm qual st f fd
section
variable {P : Program} {w : World} {K : PySem.W.Frag} {mg : Str → Option Value} {base : Heap} {Γ : Gx} {k : Nat} {x nm qual : Str} {ps : List Str} {st : Stmt} {f C : Addr} {fd : FuncData}
theorem MetK.binds (h : MetK K C nm qual st ps f fd) (hb : ∀ (kV doc pm : Value) (an : Option Addr) (cdv ct : Value) (us : List Value), us.length = ps.length → bindArgs (PySem.W.fnOf nm qual (defArgs st) (defBody st) (defScope st) .none kV doc pm an cdv ct) ⟨us, []⟩ = pure (ps.zip us)) : Binds K fd ps [] := by
  obtain ⟨oc, od, kV, doc, pm, an, cdv, ct, osl, rfl, _⟩ := h.ex
  exact .all (hb kV doc pm an cdv ct)
end
/-! ### objects' mirrors are run -/
/-! ### making objects -/
end G
namespace M
open PySem PySem.Spec PyProof.Rows L2 G
end M
namespace G
open PySem PySem.Spec PyProof.Rows L2
/-! ### f(g(..)): a new list that is handed over at once, to be written by the def alone -/
end G
namespace M
open PySem PySem.Spec PyProof.Rows L2 G
end M
namespace G
open PySem PySem.Spec PyProof.Rows L2
/-! ### x = f if c else g; if not x(..): return False -/
end G
namespace M
open PySem PySem.Spec PyProof.Rows L2 G
end M
namespace M
open PySem PySem.Spec PyProof.Rows L2 G
end M
namespace M
open PySem PySem.Spec PyProof.Rows L2 G
def B__law_sides : SS := (seqS (asgS 1 (lstE (aCons (tupE (aCons (fC (.int 1)) (aCons (fC (.int 1)) (aCons (fC (.int 9)) aNil)))) (aCons (tupE (aCons (fC (.int 1)) (aCons (fC (.int 2)) (aCons (fC (.int 9)) aNil)))) (aCons (tupE (aCons (fC (.int 2)) (aCons (fC (.int 1)) (aCons (fC (.int 8)) aNil)))) (aCons (tupE (aCons (fC (.int 1)) (aCons (fC (.int 3)) (aCons (fC (.int 6)) aNil)))) (aCons (tupE (aCons (fC (.int 3)) (aCons (fC (.int 1)) (aCons (fC (.int 5)) aNil)))) (aCons (tupE (aCons (fC (.int 2)) (aCons (fC (.int 2)) (aCons (fC (.int 4)) aNil)))) (aCons (tupE (aCons (fC (.int 2)) (aCons (fC (.int 2)) (aCons (fC (.int 3)) aNil)))) (aCons (tupE (aCons (fC (.int 2)) (aCons (fC (.int 2)) (aCons (fC (.int 2)) aNil)))) (aCons (tupE (aCons (fC (.int 3)) (aCons (fC (.int 3)) (aCons (fC (.int 2)) aNil)))) aNil))))))))))) (seqS (asgS 1 (op2 addD (fV 1) (lstE (aCons (tupE (aCons (fC (.int 4)) (aCons (fC (.int 2)) (aCons (fC (.int 2)) aNil)))) (aCons (tupE (aCons (fC (.int 2)) (aCons (fC (.int 4)) (aCons (fC (.int 2)) aNil)))) (aCons (tupE (aCons (fC (.int 3)) (aCons (fC (.int 2)) (aCons (fC (.int 2)) aNil)))) (aCons (tupE (aCons (fC (.int 2)) (aCons (fC (.int 3)) (aCons (fC (.int 2)) aNil)))) (aCons (tupE (aCons (fC (.int 5)) (aCons (fC (.int 1)) (aCons (fC (.int 3)) aNil)))) (aCons (tupE (aCons (fC (.int 1)) (aCons (fC (.int 6)) (aCons (fC (.int 2)) aNil)))) (aCons (tupE (aCons (fC (.int 12)) (aCons (fC (.int 12)) (aCons (fC (.int 1)) aNil)))) (aCons (tupE (aCons (fC (.int 1)) (aCons (fC (.int 9)) (aCons (fC (.int 2)) aNil)))) aNil))))))))))) (retS (callF [true, false] F__law_choose [] (aCons (fV 0) (aCons (fV 1) aNil))))))
def F__law_sides : SE := defF 2 B__law_sides
theorem r__law_sides {x0_ : B} : F__law_sides [x0_] = Rs.bind (B__law_sides [x0_, .un]) (retF 1) := rfl
def L1__law_moved : SS := (seqS (asgG (tupG 2 (consG (nmG 6) (consG (nmG 7) nilG))) (callF [false, false] F__law_image_2 [] (aCons (fV 0) (aCons (tupE (aCons (fV 5) (aCons (fV 4) aNil))) aNil)))) (dropS (mutE 3 mtApp (aCons (op2 addD (op2 modD (fV 6) (fV 1)) (op2 mulD (op2 modD (fV 7) (fV 2)) (fV 1))) aNil))))
def L2__law_moved : SS := (forS (rng1I (aCons (fV 1) aNil)) (nmG 5) L1__law_moved)
def B__law_moved : SS := (seqS (asgS 3 (lstE aNil)) (seqS (forS (rng1I (aCons (fV 2) aNil)) (nmG 4) L2__law_moved) (retS (fV 3))))
def F__law_moved : SE := defF 8 B__law_moved
theorem r__law_moved {x0_ x1_ x2_ : B} : F__law_moved [x0_, x1_, x2_] = Rs.bind (B__law_moved [x0_, x1_, x2_, .un, .un, .un, .un, .un]) (retF 3) := rfl
def mu__law_expected_9_1 : List B → Nat := fun _ => 1000000000000000000000000000000000000000000000000000000000000000000000000000000000000000000
def L1__law_expected_9 : SS := (asgS 6 (op2 addD (fV 6) (lcE (rng1I (aCons (fV 3) aNil)) (nmG 13) yesB (op2 addD (fV 7) (tupE (aCons (fV 13) aNil))) [13])))
def L2__law_expected_9 : SS := (seqS (asgS 6 (lstE aNil)) (seqS (forS (seqI bothK (fV 4)) (nmG 7) L1__law_expected_9) (asgS 4 (fV 6))))
def L3__law_expected_9 : SS := (seqS (asgS 12 (mutE 11 mtPop aNil)) (ifS (fB (op2 ninXD (fV 12) (fV 9))) (seqS (setXS 9 (fV 12) (fC (.bool true))) (dropS (extE 11 (lcE (seqI bothK (fV 8)) (nmG 15) yesB (opN tupleD (aCons (lcE (seqI bothK (fV 15)) (nmG 5) yesB (op2 ixD (fV 12) (fV 5)) [5]) aNil)) [15])))) nxS))
def L4__law_expected_9 : SS := (seqS (ifS (fB (op2 ninXD (fV 7) (fV 9))) (asgS 10 (op2 addD (fV 10) (fC (.int 1)))) nxS) (seqS (asgS 11 (lstE (aCons (fV 7) aNil))) (whS mu__law_expected_9_1 (fB (op2 neD (fV 11) (lstE aNil))) L3__law_expected_9)))
def B__law_expected_9 : SS := (seqS (asgS 4 (lstE (aCons (tupE aNil) aNil))) (seqS (forS (rng1I (aCons (op2 mulD (fV 1) (fV 2)) aNil)) (nmG 5) L2__law_expected_9) (seqS (asgS 8 (lcE (seqI bothK (fV 0)) (nmG 14) yesB (callF [false, false, false] F__law_moved [] (aCons (fV 14) (aCons (fV 1) (aCons (fV 2) aNil)))) [14])) (seqS (parS 9 10 dic0E (fC (.int 0))) (seqS (forS (seqI bothK (fV 4)) (nmG 7) L4__law_expected_9) (retS (fV 10)))))))
def F__law_expected_9 : SE := defF 16 B__law_expected_9
theorem r__law_expected_9 {x0_ x1_ x2_ x3_ : B} : F__law_expected_9 [x0_, x1_, x2_, x3_] = Rs.bind (B__law_expected_9 [x0_, x1_, x2_, x3_, .un, .un, .un, .un, .un, .un, .un, .un, .un, .un, .un, .un]) (retF 4) := rfl
def L1_law_k73 : SS := (seqS (asgG (tupG 3 (consG (nmG 4) (consG (nmG 5) (consG (nmG 6) nilG)))) (callF [true] F__law_sides [] (aCons (fV 2) aNil))) (seqS (asgS 7 (callF [true, false, false] F__law_generators [] (aCons (fV 2) (aCons (fC (.int 4)) (aCons (fC (.int 3)) aNil))))) (seqS (ifS (fB (op2 neD (fV 4) (fV 5))) (asgS 7 (opN tupleD (aCons (lcE (seqI bothK (fV 7)) (tupG 3 (consG (nmG 11) (consG (nmG 12) (consG (nmG 13) nilG)))) yesB (tupE (aCons (op2 mulD (op2 fdivD (fV 11) (fC (.int 2))) (fC (.int 2))) (aCons (fV 12) (aCons (fV 13) aNil)))) [11, 12, 13]) aNil))) nxS) (seqS (parS 8 9 (opN reprD (aCons (fV 7) aNil)) (callF [false, false, false, false] F__law_expected_9 [] (aCons (fV 7) (aCons (fV 4) (aCons (fV 5) (aCons (fV 6) aNil)))))) (seqS (asgS 10 (lcE (rng1I (aCons (fC (.int 2)) aNil)) (nmG 14) yesB (callF [false, false, false, false] F_count_classes [] (aCons (fV 7) (aCons (fV 4) (aCons (fV 5) (aCons (fV 6) aNil))))) [14])) (ifS (orB (notB (fB (callF [false, false] F__law_is_equal_2 [] (aCons (fV 10) (aCons (lstE (aCons (fV 9) (aCons (fV 9) aNil))) aNil))))) (fB (op2 neD (opN reprD (aCons (fV 7) aNil)) (fV 8)))) (retS (fC (.bool false))) nxS))))))
def L2_law_k73 : SS := (seqS (asgS 2 (callF [false] F__law_source [] (aCons (callF [false, false] F__law_cell [] (aCons (fV 0) (aCons (fV 1) aNil))) aNil))) (forS (rng1I (aCons (fC (.int 4)) aNil)) (nmG 3) L1_law_k73))
def B_law_k73 : SS := (seqS (forS (rng1I (aCons (opN max2D (aCons (fC (.int 1)) (aCons (opN min2D (aCons (opN lenD (aCons (fV 0) aNil)) (aCons (fC (.int 3)) aNil))) aNil))) aNil)) (nmG 1) L2_law_k73) (retS (fC (.bool true))))
def F_law_k73 : SE := defF 15 B_law_k73
theorem r_law_k73 {x0_ : B} : F_law_k73 [x0_] = Rs.bind (B_law_k73 [x0_, .un, .un, .un, .un, .un, .un, .un, .un, .un, .un, .un, .un, .un, .un]) (retF 1) := rfl
end M
namespace L_k73
open PySem PySem.Spec PyProof.Rows L2 G M
def topS (i : Nat) : Stmt := PySem.Challenge.pw_gridsym_k73_classes_of_small_patterns_co.main.body.getD i (.Pass ⟨0, 0, 0, 0⟩)
abbrev s__law_source : Stmt := topS 35
theorem sc__law_source : FnScope ["_law_cell_here"] ["_law_cell_here"] (defScope s__law_source) := ⟨rfl, rfl, rfl, by decide +kernel, rfl, by decide +kernel, by decide +kernel⟩
abbrev s__law_cell : Stmt := topS 34
theorem sc__law_cell : FnScope ["_law_script", "_law_index"] ["_law_script", "_law_index"] (defScope s__law_cell) := ⟨rfl, rfl, rfl, by decide +kernel, rfl, by decide +kernel, by decide +kernel⟩
abbrev s__law_draw : Stmt := topS 36
theorem sc__law_draw : FnScope ["_law_source_here", "_law_many", "_law_found", "_law_mixed"] ["_law_source_here", "_law_many"] (defScope s__law_draw) := ⟨rfl, rfl, rfl, by decide +kernel, rfl, by decide +kernel, by decide +kernel⟩
abbrev s__law_choose : Stmt := topS 37
theorem sc__law_choose : FnScope ["_law_source_here", "_law_values"] ["_law_source_here", "_law_values"] (defScope s__law_choose) := ⟨rfl, rfl, rfl, by decide +kernel, rfl, by decide +kernel, by decide +kernel⟩
abbrev s__law_sides : Stmt := topS 46
theorem sc__law_sides : FnScope ["_law_source_here", "_law_some"] ["_law_source_here"] (defScope s__law_sides) := ⟨rfl, rfl, rfl, by decide +kernel, rfl, by decide +kernel, by decide +kernel⟩
abbrev s__law_square : Stmt := topS 41
theorem sc__law_square : FnScope ["_law_source_here", "_law_far"] ["_law_source_here", "_law_far"] (defScope s__law_square) := ⟨rfl, rfl, rfl, by decide +kernel, rfl, by decide +kernel, by decide +kernel⟩
abbrev s__law_symmetry : Stmt := topS 42
theorem sc__law_symmetry : FnScope ["_law_source_here", "_law_far"] ["_law_source_here", "_law_far"] (defScope s__law_symmetry) := ⟨rfl, rfl, rfl, by decide +kernel, rfl, by decide +kernel, by decide +kernel⟩
abbrev s__law_generators : Stmt := topS 43
theorem sc__law_generators : FnScope ["_law_source_here", "_law_most", "_law_far", "_law_way", "_law_found", "_law_kind", "_law_step", "_law_times", "_law_lap", "_law_many", "_law_x", "_law_y", "_law_one"] ["_law_source_here", "_law_most", "_law_far"] (defScope s__law_generators) := ⟨rfl, rfl, rfl, by decide +kernel, rfl, by decide +kernel, by decide +kernel⟩
abbrev s__law_linear : Stmt := topS 39
theorem sc__law_linear : FnScope ["_law_kind", "_law_vector", "_law_x", "_law_y", "_law_lap"] ["_law_kind", "_law_vector"] (defScope s__law_linear) := ⟨rfl, rfl, rfl, by decide +kernel, rfl, by decide +kernel, by decide +kernel⟩
abbrev s__law_image : Stmt := topS 40
theorem sc__law_image : FnScope ["_law_symmetry_here", "_law_square_here", "_law_x", "_law_y"] ["_law_symmetry_here", "_law_square_here"] (defScope s__law_image) := ⟨rfl, rfl, rfl, by decide +kernel, rfl, by decide +kernel, by decide +kernel⟩
abbrev s__law_moved : Stmt := topS 44
theorem sc__law_moved : FnScope ["_law_generator", "_law_width", "_law_height", "_law_found", "_law_y", "_law_x", "_law_here", "_law_there"] ["_law_generator", "_law_width", "_law_height"] (defScope s__law_moved) := ⟨rfl, rfl, rfl, by decide +kernel, rfl, by decide +kernel, by decide +kernel⟩
abbrev s__law_expected : Stmt := topS 45
theorem sc__law_expected : FnScope ["_law_generators_here", "_law_width", "_law_height", "_law_colours", "_law_patterns", "_law_place", "_law_longer", "_law_some", "_law_ways", "_law_known", "_law_count", "_law_waiting", "_law_here", "_law_colour", "_law_generator", "_law_way"] ["_law_generators_here", "_law_width", "_law_height", "_law_colours"] (defScope s__law_expected) := ⟨rfl, rfl, rfl, by decide +kernel, rfl, by decide +kernel, by decide +kernel⟩
abbrev s_is_integer : Stmt := topS 6
theorem sc_is_integer : FnScope ["thing"] ["thing"] (defScope s_is_integer) := ⟨rfl, rfl, rfl, by decide +kernel, rfl, by decide +kernel, by decide +kernel⟩
abbrev s_is_between : Stmt := topS 7
theorem sc_is_between : FnScope ["thing", "least", "most"] ["thing", "least", "most"] (defScope s_is_between) := ⟨rfl, rfl, rfl, by decide +kernel, rfl, by decide +kernel, by decide +kernel⟩
abbrev s_is_symmetry : Stmt := topS 13
theorem sc_is_symmetry : FnScope ["thing", "one"] ["thing"] (defScope s_is_symmetry) := ⟨rfl, rfl, rfl, by decide +kernel, rfl, by decide +kernel, by decide +kernel⟩
abbrev s_is_generators : Stmt := topS 22
theorem sc_is_generators : FnScope ["thing", "one"] ["thing"] (defScope s_is_generators) := ⟨rfl, rfl, rfl, by decide +kernel, rfl, by decide +kernel, by decide +kernel⟩
abbrev s_need_generators : Stmt := topS 23
theorem sc_need_generators : FnScope ["thing"] ["thing"] (defScope s_need_generators) := ⟨rfl, rfl, rfl, by decide +kernel, rfl, by decide +kernel, by decide +kernel⟩
abbrev s_need_between : Stmt := topS 14
theorem sc_need_between : FnScope ["thing", "least", "most"] ["thing", "least", "most"] (defScope s_need_between) := ⟨rfl, rfl, rfl, by decide +kernel, rfl, by decide +kernel, by decide +kernel⟩
abbrev s_wrapped : Stmt := topS 29
theorem sc_wrapped : FnScope ["symmetry", "width", "height", "kind", "x", "y"] ["symmetry", "width", "height"] (defScope s_wrapped) := ⟨rfl, rfl, rfl, by decide +kernel, rfl, by decide +kernel, by decide +kernel⟩
abbrev s_added : Stmt := topS 8
theorem sc_added : FnScope ["vector", "step", "many"] ["vector", "step", "many"] (defScope s_added) := ⟨rfl, rfl, rfl, by decide +kernel, rfl, by decide +kernel, by decide +kernel⟩
abbrev s_turned : Stmt := topS 15
theorem sc_turned : FnScope ["kind", "vector", "a", "b", "c", "d"] ["kind", "vector"] (defScope s_turned) := ⟨rfl, rfl, rfl, by decide +kernel, rfl, by decide +kernel, by decide +kernel⟩
abbrev s_offset : Stmt := topS 17
theorem sc_offset : FnScope ["symmetry"] ["symmetry"] (defScope s_offset) := ⟨rfl, rfl, rfl, by decide +kernel, rfl, by decide +kernel, by decide +kernel⟩
abbrev s_image_of : Stmt := topS 18
theorem sc_image_of : FnScope ["symmetry", "square"] ["symmetry", "square"] (defScope s_image_of) := ⟨rfl, rfl, rfl, by decide +kernel, rfl, by decide +kernel, by decide +kernel⟩
abbrev s_kind_after : Stmt := topS 16
theorem sc_kind_after : FnScope ["first", "second", "a", "c", "b", "d"] ["first", "second"] (defScope s_kind_after) := ⟨rfl, rfl, rfl, by decide +kernel, rfl, by decide +kernel, by decide +kernel⟩
abbrev s_product_of : Stmt := topS 19
theorem sc_product_of : FnScope ["first", "second"] ["first", "second"] (defScope s_product_of) := ⟨rfl, rfl, rfl, by decide +kernel, rfl, by decide +kernel, by decide +kernel⟩
abbrev s_wrapped_group : Stmt := topS 30
theorem sc_wrapped_group : FnScope ["generators", "width", "height", "found", "known", "waiting", "here", "generator", "there"] ["generators", "width", "height"] (defScope s_wrapped_group) := ⟨rfl, rfl, rfl, by decide +kernel, rfl, by decide +kernel, by decide +kernel⟩
abbrev s_raised : Stmt := topS 28
theorem sc_raised : FnScope ["number", "exponent", "found", "lap"] ["number", "exponent"] (defScope s_raised) := ⟨rfl, rfl, rfl, by decide +kernel, rfl, by decide +kernel, by decide +kernel⟩
abbrev s_cycles_of : Stmt := topS 31
theorem sc_cycles_of : FnScope ["symmetry", "width", "height", "known", "count", "start", "here", "there", "x", "y"] ["symmetry", "width", "height"] (defScope s_cycles_of) := ⟨rfl, rfl, rfl, by decide +kernel, rfl, by decide +kernel, by decide +kernel⟩
abbrev s_count_classes : Stmt := topS 32
theorem sc_count_classes : FnScope ["generators", "width", "height", "colours", "group", "generator", "symmetry"] ["generators", "width", "height", "colours"] (defScope s_count_classes) := ⟨rfl, rfl, rfl, by decide +kernel, rfl, by decide +kernel, by decide +kernel⟩
abbrev s__law_is_equal : Stmt := topS 38
theorem sc__law_is_equal : FnScope ["_law_actual", "_law_expected_here"] ["_law_actual", "_law_expected_here"] (defScope s__law_is_equal) := ⟨rfl, rfl, rfl, by decide +kernel, rfl, by decide +kernel, by decide +kernel⟩
abbrev s_law : Stmt := topS 47
theorem sc_law : FnScope ["_law_script", "_law_k", "_law_source_here", "_law_lap", "_law_width", "_law_height", "_law_colours", "_law_generators_here", "_law_before", "_law_expected_here", "_law_told", "_law_kind", "_law_x", "_law_y", "_law_turn"] ["_law_script"] (defScope s_law) := ⟨rfl, rfl, rfl, by decide +kernel, rfl, by decide +kernel, by decide +kernel⟩
section
variable {P : Program} {w : World} {K : PySem.W.Frag} {mg : Str → Option Value} {base : Heap} {Γ : Gx} {f_ T_ : Addr} {fd_ : FuncData}
set_option maxHeartbeats 4000000 in
theorem g__law_source (fk : FnK K mg .none "_law_source" s__law_source ["_law_cell_here"] f_ fd_) (sys : SysOk base) (z_max : mg "max" = none) : FnG P w K mg base Γ 1 f_ fd_ ["_law_cell_here"] F__law_source :=
  fnG_of (N := ["_law_cell_here"]) (body := B__law_source) fk.ex sc__law_source sys fun cdv hcd A outer s H E A0 hr gx tk => (gs_one (gs_ret (glst (gcons (g_max2 rfl z_max (gcons gint (gcons (gsub (gv 0) (gpow gint gint)) gnil))) (gcons (gadd (gmod (gv 0) gint) gint) (gcons gint gnil))))))
theorem b__law_source (fk : FnK K mg .none "_law_source" s__law_source ["_law_cell_here"] f_ fd_) : Binds K fd_ ["_law_cell_here"] [] := fk.binds fun _ _ _ _ _ _ us hl => match us, hl with | [_], _ => rfl
set_option maxHeartbeats 4000000 in
theorem g__law_cell (fk : FnK K mg .none "_law_cell" s__law_cell ["_law_script", "_law_index"] f_ fd_) (sys : SysOk base) (z_len : mg "len" = none) : FnG P w K mg base Γ 1 f_ fd_ ["_law_script", "_law_index"] F__law_cell :=
  fnG_of (N := ["_law_script", "_law_index"]) (body := B__law_cell) fk.ex sc__law_cell sys fun cdv hcd A outer s H E A0 hr gx tk => (gs_cons (gs_if (gtcmp op_lt cmpI_ok (gv 1) (g_len z_len (gcons (gv 0) gnil)) (nomark _)) (gs_one (gs_ret (gix (hu1 hr) (gv 0) (gv 1)))) gs_nil) (gs_one (gs_ret gint)))
theorem b__law_cell (fk : FnK K mg .none "_law_cell" s__law_cell ["_law_script", "_law_index"] f_ fd_) : Binds K fd_ ["_law_script", "_law_index"] [] := fk.binds fun _ _ _ _ _ _ us hl => match us, hl with | [_, _], _ => rfl
set_option maxHeartbeats 4000000 in
theorem g__law_draw (fk : FnK K mg .none "_law_draw" s__law_draw ["_law_source_here", "_law_many"] f_ fd_) (sys : SysOk base) : FnG P w K mg base Γ 1 f_ fd_ ["_law_source_here", "_law_many"] F__law_draw :=
  fnG_of (N := ["_law_source_here", "_law_many", "_law_found", "_law_mixed"]) (body := B__law_draw) fk.ex sc__law_draw sys fun cdv hcd A outer s H E A0 hr gx tk => (gs_cons (gs_if (gtcmp op_gt cmpI_ok (gix (hu1 hr) (gv 0) gint) gint (nomark _)) (gs_cons (gs_set 2 sc__law_draw.nd (gmod (gix (hu1 hr) (gv 0) gint) (gv 1))) (gs_cons (gsetitem (hu1 hr) 0 gint (gfdiv (gix (hu1 hr) (gv 0) gint) (gv 1))) (gs_one (gs_ret (gv 2))))) gs_nil) (gs_cons (gsetitem (hu1 hr) 0 gint (gadd (gix (hu1 hr) (gv 0) gint) gint)) (gs_cons (gsetitem (hu1 hr) 0 gint (gmod (gadd (gadd (gmul (gix (hu1 hr) (gv 0) gint) gint) (gmul gint (gix (hu1 hr) (gv 0) gint))) gint) gint)) (gs_cons (gs_set 3 sc__law_draw.nd (gmod (gadd (gadd (gmul (gix (hu1 hr) (gv 0) gint) (gix (hu1 hr) (gv 0) gint)) (gmul gint (gix (hu1 hr) (gv 0) gint))) gint) gint)) (gs_cons (gs_set 3 sc__law_draw.nd (gmod (gadd (gmul (gv 3) (gv 3)) (gmul gint (gv 3))) gint)) (gs_one (gs_ret (gmod (gfdiv (gv 3) gint) (gv 1)))))))))
theorem b__law_draw (fk : FnK K mg .none "_law_draw" s__law_draw ["_law_source_here", "_law_many"] f_ fd_) : Binds K fd_ ["_law_source_here", "_law_many"] [] := fk.binds fun _ _ _ _ _ _ us hl => match us, hl with | [_, _], _ => rfl
set_option maxHeartbeats 4000000 in
theorem g__law_choose (fk : FnK K mg .none "_law_choose" s__law_choose ["_law_source_here", "_law_values"] f_ fd_) (sys : SysOk base) (z_len : mg "len" = none) (f__law_draw : CalledG P w K mg base Γ 1 "_law_draw" ["_law_source_here", "_law_many"] F__law_draw []) : FnG P w K mg base Γ 2 f_ fd_ ["_law_source_here", "_law_values"] F__law_choose :=
  fnG_of (N := ["_law_source_here", "_law_values"]) (body := B__law_choose) fk.ex sc__law_choose sys fun cdv hcd A outer s H E A0 hr gx tk => (gs_one (gs_ret (gix (hu1 hr) (gv 1) (gcallC [true, false] f__law_draw hr gx tk (gcons (gv 0) (gcons (g_len z_len (gcons (gv 1) gnil)) gnil))))))
theorem b__law_choose (fk : FnK K mg .none "_law_choose" s__law_choose ["_law_source_here", "_law_values"] f_ fd_) : Binds K fd_ ["_law_source_here", "_law_values"] [] := fk.binds fun _ _ _ _ _ _ us hl => match us, hl with | [_, _], _ => rfl
set_option maxHeartbeats 4000000 in
theorem g__law_sides (fk : FnK K mg .none "_law_sides" s__law_sides ["_law_source_here"] f_ fd_) (sys : SysOk base) (f__law_choose : CalledG P w K mg base Γ 2 "_law_choose" ["_law_source_here", "_law_values"] F__law_choose []) : FnG P w K mg base Γ 3 f_ fd_ ["_law_source_here"] F__law_sides :=
  fnG_of (N := ["_law_source_here", "_law_some"]) (body := B__law_sides) fk.ex sc__law_sides sys fun cdv hcd A outer s H E A0 hr gx tk => (gs_cons (gs_set 1 sc__law_sides.nd (glst (gcons (gtup (gcons gint (gcons gint (gcons gint gnil)))) (gcons (gtup (gcons gint (gcons gint (gcons gint gnil)))) (gcons (gtup (gcons gint (gcons gint (gcons gint gnil)))) (gcons (gtup (gcons gint (gcons gint (gcons gint gnil)))) (gcons (gtup (gcons gint (gcons gint (gcons gint gnil)))) (gcons (gtup (gcons gint (gcons gint (gcons gint gnil)))) (gcons (gtup (gcons gint (gcons gint (gcons gint gnil)))) (gcons (gtup (gcons gint (gcons gint (gcons gint gnil)))) (gcons (gtup (gcons gint (gcons gint (gcons gint gnil)))) gnil))))))))))) (gs_cons (gs_set 1 sc__law_sides.nd (gadd (gv 1) (glst (gcons (gtup (gcons gint (gcons gint (gcons gint gnil)))) (gcons (gtup (gcons gint (gcons gint (gcons gint gnil)))) (gcons (gtup (gcons gint (gcons gint (gcons gint gnil)))) (gcons (gtup (gcons gint (gcons gint (gcons gint gnil)))) (gcons (gtup (gcons gint (gcons gint (gcons gint gnil)))) (gcons (gtup (gcons gint (gcons gint (gcons gint gnil)))) (gcons (gtup (gcons gint (gcons gint (gcons gint gnil)))) (gcons (gtup (gcons gint (gcons gint (gcons gint gnil)))) gnil))))))))))) (gs_one (gs_ret (gcallC [true, false] f__law_choose hr gx tk (gcons (gv 0) (gcons (gv 1) gnil)))))))
theorem b__law_sides (fk : FnK K mg .none "_law_sides" s__law_sides ["_law_source_here"] f_ fd_) : Binds K fd_ ["_law_source_here"] [] := fk.binds fun _ _ _ _ _ _ us hl => match us, hl with | [_], _ => rfl
set_option maxHeartbeats 4000000 in
theorem g__law_square (fk : FnK K mg .none "_law_square" s__law_square ["_law_source_here", "_law_far"] f_ fd_) (sys : SysOk base) (f__law_draw : CalledG P w K mg base Γ 1 "_law_draw" ["_law_source_here", "_law_many"] F__law_draw []) : FnG P w K mg base Γ 2 f_ fd_ ["_law_source_here", "_law_far"] F__law_square :=
  fnG_of (N := ["_law_source_here", "_law_far"]) (body := B__law_square) fk.ex sc__law_square sys fun cdv hcd A outer s H E A0 hr gx tk => (gs_one (gs_ret (gtup (gcons (gsub (gcallC [true, false] f__law_draw hr gx tk (gcons (gv 0) (gcons (gadd (gmul gint (gv 1)) gint) gnil))) (gv 1)) (gcons (gsub (gcallC [true, false] f__law_draw hr gx tk (gcons (gv 0) (gcons (gadd (gmul gint (gv 1)) gint) gnil))) (gv 1)) gnil)))))
theorem b__law_square (fk : FnK K mg .none "_law_square" s__law_square ["_law_source_here", "_law_far"] f_ fd_) : Binds K fd_ ["_law_source_here", "_law_far"] [] := fk.binds fun _ _ _ _ _ _ us hl => match us, hl with | [_, _], _ => rfl
set_option maxHeartbeats 4000000 in
theorem g__law_symmetry (fk : FnK K mg .none "_law_symmetry" s__law_symmetry ["_law_source_here", "_law_far"] f_ fd_) (sys : SysOk base) (f__law_draw : CalledG P w K mg base Γ 1 "_law_draw" ["_law_source_here", "_law_many"] F__law_draw []) (f__law_square : CalledG P w K mg base Γ 2 "_law_square" ["_law_source_here", "_law_far"] F__law_square []) : FnG P w K mg base Γ 3 f_ fd_ ["_law_source_here", "_law_far"] F__law_symmetry :=
  fnG_of (N := ["_law_source_here", "_law_far"]) (body := B__law_symmetry) fk.ex sc__law_symmetry sys fun cdv hcd A outer s H E A0 hr gx tk => (gs_one (gs_ret (gadd (gtup (gcons (gcallC [true, false] f__law_draw hr gx tk (gcons (gv 0) (gcons gint gnil))) gnil)) (gcallC [true, false] f__law_square hr gx tk (gcons (gv 0) (gcons (gv 1) gnil))))))
theorem b__law_symmetry (fk : FnK K mg .none "_law_symmetry" s__law_symmetry ["_law_source_here", "_law_far"] f_ fd_) : Binds K fd_ ["_law_source_here", "_law_far"] [] := fk.binds fun _ _ _ _ _ _ us hl => match us, hl with | [_, _], _ => rfl
set_option maxHeartbeats 4000000 in
theorem g__law_generators (fk : FnK K mg .none "_law_generators" s__law_generators ["_law_source_here", "_law_most", "_law_far"] f_ fd_) (sys : SysOk base) (z_max : mg "max" = none) (z_min : mg "min" = none) (z_range : mg "range" = none) (z_tuple : mg "tuple" = none) (f__law_choose : CalledG P w K mg base Γ 2 "_law_choose" ["_law_source_here", "_law_values"] F__law_choose []) (f__law_draw : CalledG P w K mg base Γ 1 "_law_draw" ["_law_source_here", "_law_many"] F__law_draw []) (f__law_square : CalledG P w K mg base Γ 2 "_law_square" ["_law_source_here", "_law_far"] F__law_square []) (f__law_symmetry : CalledG P w K mg base Γ 3 "_law_symmetry" ["_law_source_here", "_law_far"] F__law_symmetry []) : FnG P w K mg base Γ 4 f_ fd_ ["_law_source_here", "_law_most", "_law_far"] F__law_generators :=
  fnG_of (N := ["_law_source_here", "_law_most", "_law_far", "_law_way", "_law_found", "_law_kind", "_law_step", "_law_times", "_law_lap", "_law_many", "_law_x", "_law_y", "_law_one"]) (body := B__law_generators) fk.ex sc__law_generators sys fun cdv hcd A outer s H E A0 hr gx tk => (gs_cons (gs_parT 2 rfl (ga_cons (gcallC [true, false] f__law_draw hr gx tk (gcons (gv 0) (gcons gint gnil))) (ga_cons (glst gnil) ga_nil)) (gn_cons 3 sc__law_generators.nd (gn_cons 4 sc__law_generators.nd gn_nil))) (gs_cons (gs_parT 3 rfl (ga_cons (gcallC [true, false] f__law_draw hr gx tk (gcons (gv 0) (gcons gint gnil))) (ga_cons (gcallC [true, false] f__law_square hr gx tk (gcons (gv 0) (gcons (gv 2) gnil))) (ga_cons (gadd gint (gcallC [true, false] f__law_draw hr gx tk (gcons (gv 0) (gcons gint gnil)))) ga_nil))) (gn_cons 5 sc__law_generators.nd (gn_cons 6 sc__law_generators.nd (gn_cons 7 sc__law_generators.nd gn_nil)))) (gs_cons (gs_for (tv := [8]) (passes_of rfl) rfl (gi_range1 z_range (gcons (gcallC [true, false] f__law_draw hr gx tk (gcons (gv 0) (gcons (gadd (gv 1) gint) gnil))) gnil)) (gg_name 8 sc__law_generators.nd) (gs_cons (gs_expr (gappend 4 (gcons (gcallC [true, false] f__law_symmetry hr gx tk (gcons (gv 0) (gcons (gv 2) gnil))) gnil))) (gs_cons (gs_if (gtcmp (op_eqU (hu64 hr)) eqD_ok (gv 3) gint (nomark _)) (gs_cons (gs_set 9 sc__law_generators.nd (gsub (gcallC [true, false] f__law_draw hr gx tk (gcons (gv 0) (gcons gint gnil))) gint)) (gs_cons (gs_par 10 11 rfl sc__law_generators.nd (gmul (gv 9) (gix (hu1 hr) (gv 6) gint)) (gmul (gv 9) (gix (hu1 hr) (gv 6) gint))) (gs_one (gsetitem (hu1 hr) 4 (gnegD gint) (gtup (gcons gint (gcons (g_max2 rfl z_max (gcons (gsub gint (gv 2)) (gcons (g_min2 rfl z_min (gcons (gv 2) (gcons (gv 10) gnil))) gnil))) (gcons (g_max2 rfl z_max (gcons (gsub gint (gv 2)) (gcons (g_min2 rfl z_min (gcons (gv 2) (gcons (gv 11) gnil))) gnil))) gnil)))))))) gs_nil) (gs_cons (gs_if (gtcmp (op_eqU (hu64 hr)) eqD_ok (gv 3) gint (nomark _)) (gs_one (gsetitem (hu1 hr) 4 (gnegD gint) (gadd (gtup (gcons (gv 5) gnil)) (gslice (gix (hu1 hr) (gv 4) (gnegD gint)) (gps gint) gpn)))) gs_nil) (gs_cons (gs_if (gtcmp (op_eqU (hu64 hr)) eqD_ok (gv 3) gint (nomark _)) (gs_one (gsetitem (hu1 hr) 4 (gnegD gint) (gadd (gslice (gix (hu1 hr) (gv 4) (gnegD gint)) gpn (gps gint)) (gtup (gcons gint (gcons gint gnil)))))) gs_nil) (gs_one (gs_if (gtcmp (op_eqU (hu64 hr)) eqD_ok (gv 3) gint (nomark _)) (gs_one (gsetitem (hu1 hr) 4 (gnegD gint) (gadd (gslice (gix (hu1 hr) (gv 4) (gnegD gint)) gpn (gps gint)) (g_tuple z_tuple (gcons (glc [12] rfl rfl sc__law_generators.nd (gi_any (gslice (gix (hu1 hr) (gv 4) (gnegD gint)) (gps gint) gpn)) (blkOk_by (own := [("_law_one", 12)]) (by kernel_rfl)) (fun s_ H_ C_ cl_ fp_ => (gg_name 12 sc__law_generators.nd)) (fun s_ H_ C_ cl_ fp_ => gts_nil) (fun s_ H_ C_ cl_ fp_ => (gmul (gfdiv (gv 12) (gv 7)) (gv 7)))) gnil))))) gs_nil))))))) (gs_cons (gs_set 4 sc__law_generators.nd (glc [5, 10, 11] rfl rfl sc__law_generators.nd (gi_any (gv 4)) (blkOk_by (own := [("_law_kind", 5), ("_law_x", 10), ("_law_y", 11)]) (by kernel_rfl)) (fun s_ H_ C_ cl_ fp_ => (gg_tup rfl (ggs_cons (gg_name 5 sc__law_generators.nd) (ggs_cons (gg_name 10 sc__law_generators.nd) (ggs_cons (gg_name 11 sc__law_generators.nd) ggs_nil))))) (fun s_ H_ C_ cl_ fp_ => gts_nil) (fun s_ H_ C_ cl_ fp_ => (gtup (gcons (gv 5) (gcons (g_max2 rfl z_max (gcons (gsub gint (gv 2)) (gcons (gv 10) gnil))) (gcons (g_max2 rfl z_max (gcons (gsub gint (gv 2)) (gcons (gv 11) gnil))) gnil))))))) (gs_cons (gs_if (PW.pt (gand (gtcmp (op_neU (hu64 hr)) neD_ok (gv 4) (glst gnil) (nomark _)) (gand1 (gtcmp (op_eqU (hu64 hr)) eqD_ok (gv 3) gint (nomark _))))) (gs_one (gs_set 4 sc__law_generators.nd (gadd (gslice (gv 4) gpn (gps gint)) (glc [12] rfl rfl sc__law_generators.nd (gi_any (gslice (gv 4) (gps gint) gpn)) (blkOk_by (own := [("_law_one", 12)]) (by kernel_rfl)) (fun s_ H_ C_ cl_ fp_ => (gg_name 12 sc__law_generators.nd)) (fun s_ H_ C_ cl_ fp_ => gts_nil) (fun s_ H_ C_ cl_ fp_ => have gx := gx_blk s_ H_ _ _ fp_ gx; have tk := takes_gx gx; (gcallC [true, false] f__law_choose hr gx tk (gcons (gv 0) (gcons (gv 4) gnil)))))))) gs_nil) (gs_one (gs_ret (g_tuple z_tuple (gcons (gv 4) gnil)))))))))
theorem b__law_generators (fk : FnK K mg .none "_law_generators" s__law_generators ["_law_source_here", "_law_most", "_law_far"] f_ fd_) : Binds K fd_ ["_law_source_here", "_law_most", "_law_far"] [] := fk.binds fun _ _ _ _ _ _ us hl => match us, hl with | [_, _, _], _ => rfl
set_option maxHeartbeats 4000000 in
theorem g__law_linear (fk : FnK K mg .none "_law_linear" s__law_linear ["_law_kind", "_law_vector"] f_ fd_) (sys : SysOk base) (z_range : mg "range" = none) : FnG P w K mg base Γ 1 f_ fd_ ["_law_kind", "_law_vector"] F__law_linear :=
  fnG_of (N := ["_law_kind", "_law_vector", "_law_x", "_law_y", "_law_lap"]) (body := B__law_linear) fk.ex sc__law_linear sys fun cdv hcd A outer s H E A0 hr gx tk => (gs_cons (gs_asg (tv := [2, 3]) (gv 1) (gg_tup rfl (ggs_cons (gg_name 2 sc__law_linear.nd) (ggs_cons (gg_name 3 sc__law_linear.nd) ggs_nil)))) (gs_cons (gs_if (gtcmp op_gt cmpI_ok (gv 0) gint (nomark _)) (gs_one (gs_set 2 sc__law_linear.nd (gsub gint (gv 2)))) gs_nil) (gs_cons (gs_for (tv := [4]) (passes_of rfl) rfl (gi_range1 z_range (gcons (gmod (gv 0) gint) gnil)) (gg_name 4 sc__law_linear.nd) (gs_one (gs_par 2 3 rfl sc__law_linear.nd (gsub gint (gv 3)) (gv 2)))) (gs_one (gs_ret (gtup (gcons (gv 2) (gcons (gv 3) gnil))))))))
theorem b__law_linear (fk : FnK K mg .none "_law_linear" s__law_linear ["_law_kind", "_law_vector"] f_ fd_) : Binds K fd_ ["_law_kind", "_law_vector"] [] := fk.binds fun _ _ _ _ _ _ us hl => match us, hl with | [_, _], _ => rfl
set_option maxHeartbeats 4000000 in
theorem g__law_image (fk : FnK K mg .none "_law_image" s__law_image ["_law_symmetry_here", "_law_square_here"] f_ fd_) (sys : SysOk base) (f__law_linear : CalledG P w K mg base Γ 1 "_law_linear" ["_law_kind", "_law_vector"] F__law_linear []) : FnG P w K mg base Γ 2 f_ fd_ ["_law_symmetry_here", "_law_square_here"] F__law_image_2 :=
  fnG_of (N := ["_law_symmetry_here", "_law_square_here", "_law_x", "_law_y"]) (body := B__law_image_2) fk.ex sc__law_image sys fun cdv hcd A outer s H E A0 hr gx tk => (gs_cons (gs_asg (tv := [2, 3]) (gcallC [false, false] f__law_linear hr gx tk (gcons (gix (hu1 hr) (gv 0) gint) (gcons (gv 1) gnil))) (gg_tup rfl (ggs_cons (gg_name 2 sc__law_image.nd) (ggs_cons (gg_name 3 sc__law_image.nd) ggs_nil)))) (gs_one (gs_ret (gtup (gcons (gadd (gv 2) (gix (hu1 hr) (gv 0) gint)) (gcons (gadd (gv 3) (gix (hu1 hr) (gv 0) gint)) gnil))))))
theorem b__law_image (fk : FnK K mg .none "_law_image" s__law_image ["_law_symmetry_here", "_law_square_here"] f_ fd_) : Binds K fd_ ["_law_symmetry_here", "_law_square_here"] [] := fk.binds fun _ _ _ _ _ _ us hl => match us, hl with | [_, _], _ => rfl
set_option maxHeartbeats 4000000 in
theorem g__law_moved (fk : FnK K mg .none "_law_moved" s__law_moved ["_law_generator", "_law_width", "_law_height"] f_ fd_) (sys : SysOk base) (z_range : mg "range" = none) (f__law_image : CalledG P w K mg base Γ 2 "_law_image" ["_law_symmetry_here", "_law_square_here"] F__law_image_2 []) : FnG P w K mg base Γ 3 f_ fd_ ["_law_generator", "_law_width", "_law_height"] F__law_moved :=
  fnG_of (N := ["_law_generator", "_law_width", "_law_height", "_law_found", "_law_y", "_law_x", "_law_here", "_law_there"]) (body := B__law_moved) fk.ex sc__law_moved sys fun cdv hcd A outer s H E A0 hr gx tk => (gs_cons (gs_set 3 sc__law_moved.nd (glst gnil)) (gs_cons (gs_for (tv := [4]) (passes_of rfl) rfl (gi_range1 z_range (gcons (gv 2) gnil)) (gg_name 4 sc__law_moved.nd) (gs_one (gs_for (tv := [5]) (passes_of rfl) rfl (gi_range1 z_range (gcons (gv 1) gnil)) (gg_name 5 sc__law_moved.nd) (gs_cons (gs_asg (tv := [6, 7]) (gcallC [false, false] f__law_image hr gx tk (gcons (gv 0) (gcons (gtup (gcons (gv 5) (gcons (gv 4) gnil))) gnil))) (gg_tup rfl (ggs_cons (gg_name 6 sc__law_moved.nd) (ggs_cons (gg_name 7 sc__law_moved.nd) ggs_nil)))) (gs_one (gs_expr (gappend 3 (gcons (gadd (gmod (gv 6) (gv 1)) (gmul (gmod (gv 7) (gv 2)) (gv 1))) gnil)))))))) (gs_one (gs_ret (gv 3)))))
theorem b__law_moved (fk : FnK K mg .none "_law_moved" s__law_moved ["_law_generator", "_law_width", "_law_height"] f_ fd_) : Binds K fd_ ["_law_generator", "_law_width", "_law_height"] [] := fk.binds fun _ _ _ _ _ _ us hl => match us, hl with | [_, _, _], _ => rfl
set_option maxHeartbeats 4000000 in
theorem g__law_expected (fk : FnK K mg .none "_law_expected" s__law_expected ["_law_generators_here", "_law_width", "_law_height", "_law_colours"] f_ fd_) (sys : SysOk base) (z_range : mg "range" = none) (z_tuple : mg "tuple" = none) (f__law_moved : CalledG P w K mg base Γ 3 "_law_moved" ["_law_generator", "_law_width", "_law_height"] F__law_moved []) : FnG P w K mg base Γ 4 f_ fd_ ["_law_generators_here", "_law_width", "_law_height", "_law_colours"] F__law_expected_9 :=
  fnG_of (N := ["_law_generators_here", "_law_width", "_law_height", "_law_colours", "_law_patterns", "_law_place", "_law_longer", "_law_some", "_law_ways", "_law_known", "_law_count", "_law_waiting", "_law_here", "_law_colour", "_law_generator", "_law_way"]) (body := B__law_expected_9) fk.ex sc__law_expected sys fun cdv hcd A outer s H E A0 hr gx tk => (gs_cons (gs_set 4 sc__law_expected.nd (glst (gcons (gtup gnil) gnil))) (gs_cons (gs_for (tv := [5]) (passes_of rfl) rfl (gi_range1 z_range (gcons (gmul (gv 1) (gv 2)) gnil)) (gg_name 5 sc__law_expected.nd) (gs_cons (gs_set 6 sc__law_expected.nd (glst gnil)) (gs_cons (gs_for (tv := [7]) (passes_of rfl) rfl (gi_any (gv 4)) (gg_name 7 sc__law_expected.nd) (gs_one (gs_set 6 sc__law_expected.nd (gadd (gv 6) (glc [13] rfl rfl sc__law_expected.nd (gi_range1 z_range (gcons (gv 3) gnil)) (blkOk_by (own := [("_law_colour", 13)]) (by kernel_rfl)) (fun s_ H_ C_ cl_ fp_ => (gg_name 13 sc__law_expected.nd)) (fun s_ H_ C_ cl_ fp_ => gts_nil) (fun s_ H_ C_ cl_ fp_ => (gadd (gv 7) (gtup (gcons (gv 13) gnil))))))))) (gs_one (gs_set 4 sc__law_expected.nd (gv 6)))))) (gs_cons (gs_setLc [14] 8 rfl rfl sc__law_expected.nd (sw_true rfl rfl rfl (by decide +kernel)) (gi_any (gv 0)) (blkOk_by (own := [("_law_generator", 14)]) (by kernel_rfl)) (fun s_ H_ C_ cl_ fp_ => (gg_name 14 sc__law_expected.nd)) (fun s_ H_ C_ cl_ fp_ => gts_nil) (fun s_ H_ C_ cl_ fp_ => have gx := gx_blk s_ H_ _ _ fp_ gx; have tk := takes_gx gx; (gcallC [false, false, false] f__law_moved hr gx tk (gcons (gv 14) (gcons (gv 1) (gcons (gv 2) gnil)))))) (gs_cons (gs_par 9 10 rfl sc__law_expected.nd gdic0 gint) (gs_cons (gs_for (tv := [7]) (passes_of rfl) rfl (gi_any (gv 4)) (gg_name 7 sc__law_expected.nd) (gs_cons (gs_if (gtcmp (op_ninXX (hu1 hr)) ninXD_ok (gv 7) (gv 9) (by with_unfolding_all rfl)) (gs_one (gs_set 10 sc__law_expected.nd (gadd (gv 10) gint))) gs_nil) (gs_cons (gs_set 11 sc__law_expected.nd (glst (gcons (gv 7) gnil))) (gs_one (gs_while mu__law_expected_9_1 (passes_of rfl) (gtcmp (op_neU (hu64 hr)) neD_ok (gv 11) (glst gnil) (nomark _)) (gs_cons (gs_set 12 sc__law_expected.nd (gpop 11)) (gs_one (gs_if (gtcmp (op_ninXX (hu1 hr)) ninXD_ok (gv 12) (gv 9) (by with_unfolding_all rfl)) (gs_cons (gsetX (hu1 hr) 9 (gv 12) gbl) (gs_one (gs_expr (gextend 11 (glc [15] rfl rfl sc__law_expected.nd (gi_any (gv 8)) (blkOk_by (own := [("_law_way", 15)]) (by kernel_rfl)) (fun s_ H_ C_ cl_ fp_ => (gg_name 15 sc__law_expected.nd)) (fun s_ H_ C_ cl_ fp_ => gts_nil) (fun s_ H_ C_ cl_ fp_ => (g_tuple z_tuple (gcons (glc [5] rfl rfl sc__law_expected.nd (gi_any (gv 15)) (blkOk_by (own := [("_law_place", 5)]) (by kernel_rfl)) (fun s_ H_ C_ cl_ fp_ => (gg_name 5 sc__law_expected.nd)) (fun s_ H_ C_ cl_ fp_ => gts_nil) (fun s_ H_ C_ cl_ fp_ => (gix (hu1 hr) (gv 12) (gv 5)))) gnil)))))))) gs_nil)))))))) (gs_one (gs_ret (gv 10))))))))
theorem b__law_expected (fk : FnK K mg .none "_law_expected" s__law_expected ["_law_generators_here", "_law_width", "_law_height", "_law_colours"] f_ fd_) : Binds K fd_ ["_law_generators_here", "_law_width", "_law_height", "_law_colours"] [] := fk.binds fun _ _ _ _ _ _ us hl => match us, hl with | [_, _, _, _], _ => rfl
set_option maxHeartbeats 4000000 in
theorem g_is_integer (fk : FnK K mg .none "is_integer" s_is_integer ["thing"] f_ fd_) (sys : SysOk base) (z_bool : mg "bool" = none) (z_int : mg "int" = none) (z_isinstance : mg "isinstance" = none) : FnG P w K mg base Γ 1 f_ fd_ ["thing"] F_is_integer :=
  fnG_of (N := ["thing"]) (body := B_is_integer) fk.ex sc_is_integer sys fun cdv hcd A outer s H E A0 hr gx tk => (gs_one (gs_ret (gandV (g_isi kit_int z_isinstance z_int (by decide +kernel) (gv 0)) (gone (gnotV (g_isi kit_bool z_isinstance z_bool (by decide +kernel) (gv 0)))))))
theorem b_is_integer (fk : FnK K mg .none "is_integer" s_is_integer ["thing"] f_ fd_) : Binds K fd_ ["thing"] [] := fk.binds fun _ _ _ _ _ _ us hl => match us, hl with | [_], _ => rfl
set_option maxHeartbeats 4000000 in
theorem g_is_between (fk : FnK K mg .none "is_between" s_is_between ["thing", "least", "most"] f_ fd_) (sys : SysOk base) (f_is_integer : CalledG P w K mg base Γ 1 "is_integer" ["thing"] F_is_integer []) : FnG P w K mg base Γ 2 f_ fd_ ["thing", "least", "most"] F_is_between :=
  fnG_of (N := ["thing", "least", "most"]) (body := B_is_between) fk.ex sc_is_between sys fun cdv hcd A outer s H E A0 hr gx tk => (gs_one (gs_ret (gandV (gcallC [false] f_is_integer hr gx tk (gcons (gv 0) gnil)) (gone (gchain op_le op_le cmpI_ok cmpI_ok (gv 1) (gv 0) (gv 2))))))
theorem b_is_between (fk : FnK K mg .none "is_between" s_is_between ["thing", "least", "most"] f_ fd_) : Binds K fd_ ["thing", "least", "most"] [] := fk.binds fun _ _ _ _ _ _ us hl => match us, hl with | [_, _, _], _ => rfl
set_option maxHeartbeats 4000000 in
theorem g_is_symmetry (fk : FnK K mg .none "is_symmetry" s_is_symmetry ["thing"] f_ fd_) (sys : SysOk base) (z_all : mg "all" = none) (z_isinstance : mg "isinstance" = none) (z_len : mg "len" = none) (z_tuple : mg "tuple" = none) (k_KINDS : ConK K mg "KINDS" c_KINDS) (f_is_between : CalledG P w K mg base Γ 2 "is_between" ["thing", "least", "most"] F_is_between []) (f_is_integer : CalledG P w K mg base Γ 1 "is_integer" ["thing"] F_is_integer []) : FnG P w K mg base Γ 3 f_ fd_ ["thing"] F_is_symmetry :=
  fnG_of (N := ["thing", "one"]) (body := B_is_symmetry) fk.ex sc_is_symmetry sys fun cdv hcd A outer s H E A0 hr gx tk => (gs_cons (gs_if (PW.pt (gor (gnot (gtv (g_isi kit_tuple z_isinstance z_tuple (by decide +kernel) (gv 0)))) (gor (gtcmp (op_neU (hu64 hr)) neD_ok (g_len z_len (gcons (gv 0) gnil)) gint (nomark _)) (gor1 (gnot (gtv (g_all rfl z_all (gcons (glc [1] rfl rfl sc_is_symmetry.nd (gi_any (gv 0)) (blkOk_by (own := [("one", 1)]) (by kernel_rfl)) (fun s_ H_ C_ cl_ fp_ => (gg_name 1 sc_is_symmetry.nd)) (fun s_ H_ C_ cl_ fp_ => gts_nil) (fun s_ H_ C_ cl_ fp_ => have gx := gx_blk s_ H_ _ _ fp_ gx; have tk := takes_gx gx; (gcallC [false] f_is_integer hr gx tk (gcons (gv 1) gnil)))) gnil)))))))) (gs_one (gs_ret gbl)) gs_nil) (gs_one (gs_ret (gcallC [false, false, false] f_is_between hr gx tk (gcons (gix (hu1 hr) (gv 0) gint) (gcons gint (gcons (gsub (gcon k_KINDS) gint) gnil)))))))
theorem b_is_symmetry (fk : FnK K mg .none "is_symmetry" s_is_symmetry ["thing"] f_ fd_) : Binds K fd_ ["thing"] [] := fk.binds fun _ _ _ _ _ _ us hl => match us, hl with | [_], _ => rfl
set_option maxHeartbeats 4000000 in
theorem g_is_generators (fk : FnK K mg .none "is_generators" s_is_generators ["thing"] f_ fd_) (sys : SysOk base) (z_all : mg "all" = none) (z_isinstance : mg "isinstance" = none) (z_len : mg "len" = none) (z_tuple : mg "tuple" = none) (k_MOST_GENERATORS : ConK K mg "MOST_GENERATORS" c_MOST_GENERATORS) (f_is_symmetry : CalledG P w K mg base Γ 3 "is_symmetry" ["thing"] F_is_symmetry []) : FnG P w K mg base Γ 4 f_ fd_ ["thing"] F_is_generators :=
  fnG_of (N := ["thing", "one"]) (body := B_is_generators) fk.ex sc_is_generators sys fun cdv hcd A outer s H E A0 hr gx tk => (gs_one (gs_ret (gandV (g_isi kit_tuple z_isinstance z_tuple (by decide +kernel) (gv 0)) (gandV (gle (g_len z_len (gcons (gv 0) gnil)) (gcon k_MOST_GENERATORS)) (gone (g_all rfl z_all (gcons (glc [1] rfl rfl sc_is_generators.nd (gi_any (gv 0)) (blkOk_by (own := [("one", 1)]) (by kernel_rfl)) (fun s_ H_ C_ cl_ fp_ => (gg_name 1 sc_is_generators.nd)) (fun s_ H_ C_ cl_ fp_ => gts_nil) (fun s_ H_ C_ cl_ fp_ => have gx := gx_blk s_ H_ _ _ fp_ gx; have tk := takes_gx gx; (gcallC [false] f_is_symmetry hr gx tk (gcons (gv 1) gnil)))) gnil)))))))
theorem b_is_generators (fk : FnK K mg .none "is_generators" s_is_generators ["thing"] f_ fd_) : Binds K fd_ ["thing"] [] := fk.binds fun _ _ _ _ _ _ us hl => match us, hl with | [_], _ => rfl
set_option maxHeartbeats 4000000 in
theorem g_need_generators (fk : FnK K mg .none "need_generators" s_need_generators ["thing"] f_ fd_) (sys : SysOk base) {C_GeneratorsError : Addr} (x_GeneratorsError : ExcK K mg "GeneratorsError" C_GeneratorsError "ValueError.__new__" [.type "ValueError", .type "Exception", .type "BaseException", .type "object"]) (f_is_generators : CalledG P w K mg base Γ 4 "is_generators" ["thing"] F_is_generators []) : FnG P w K mg base Γ 5 f_ fd_ ["thing"] F_need_generators :=
  fnG_of (N := ["thing"]) (body := B_need_generators) fk.ex sc_need_generators sys fun cdv hcd A outer s H E A0 hr gx tk => (gs_one (gs_if (gnot (gtv (gcallC [false] f_is_generators hr gx tk (gcons (gv 0) gnil)))) (gs_one (gs_raise PySem.F.excBase_ValueError x_GeneratorsError rfl tk)) gs_nil))
theorem b_need_generators (fk : FnK K mg .none "need_generators" s_need_generators ["thing"] f_ fd_) : Binds K fd_ ["thing"] [] := fk.binds fun _ _ _ _ _ _ us hl => match us, hl with | [_], _ => rfl
set_option maxHeartbeats 4000000 in
theorem g_need_between (fk : FnK K mg .none "need_between" s_need_between ["thing", "least", "most"] f_ fd_) (sys : SysOk base) {C_NumberError : Addr} (x_NumberError : ExcK K mg "NumberError" C_NumberError "ValueError.__new__" [.type "ValueError", .type "Exception", .type "BaseException", .type "object"]) (f_is_between : CalledG P w K mg base Γ 2 "is_between" ["thing", "least", "most"] F_is_between []) : FnG P w K mg base Γ 3 f_ fd_ ["thing", "least", "most"] F_need_between :=
  fnG_of (N := ["thing", "least", "most"]) (body := B_need_between) fk.ex sc_need_between sys fun cdv hcd A outer s H E A0 hr gx tk => (gs_one (gs_if (gnot (gtv (gcallC [false, false, false] f_is_between hr gx tk (gcons (gv 0) (gcons (gv 1) (gcons (gv 2) gnil)))))) (gs_one (gs_raise PySem.F.excBase_ValueError x_NumberError rfl tk)) gs_nil))
theorem b_need_between (fk : FnK K mg .none "need_between" s_need_between ["thing", "least", "most"] f_ fd_) : Binds K fd_ ["thing", "least", "most"] [] := fk.binds fun _ _ _ _ _ _ us hl => match us, hl with | [_, _, _], _ => rfl
set_option maxHeartbeats 4000000 in
theorem g_wrapped (fk : FnK K mg .none "wrapped" s_wrapped ["symmetry", "width", "height"] f_ fd_) (sys : SysOk base) : FnG P w K mg base Γ 1 f_ fd_ ["symmetry", "width", "height"] F_wrapped :=
  fnG_of (N := ["symmetry", "width", "height", "kind", "x", "y"]) (body := B_wrapped) fk.ex sc_wrapped sys fun cdv hcd A outer s H E A0 hr gx tk => (gs_cons (gs_asg (tv := [3, 4, 5]) (gv 0) (gg_tup rfl (ggs_cons (gg_name 3 sc_wrapped.nd) (ggs_cons (gg_name 4 sc_wrapped.nd) (ggs_cons (gg_name 5 sc_wrapped.nd) ggs_nil))))) (gs_one (gs_ret (gtup (gcons (gv 3) (gcons (gmod (gv 4) (gv 1)) (gcons (gmod (gv 5) (gv 2)) gnil)))))))
theorem b_wrapped (fk : FnK K mg .none "wrapped" s_wrapped ["symmetry", "width", "height"] f_ fd_) : Binds K fd_ ["symmetry", "width", "height"] [] := fk.binds fun _ _ _ _ _ _ us hl => match us, hl with | [_, _, _], _ => rfl
set_option maxHeartbeats 4000000 in
theorem g_added (fk : FnK K mg (.ref T_) "added" s_added ["vector", "step", "many"] f_ fd_) (sys : SysOk base) : FnG P w K mg base Γ 1 f_ fd_ ["vector", "step", "many"] F_added :=
  fnG_of (N := ["vector", "step", "many"]) (body := B_added) fk.ex sc_added sys fun cdv hcd A outer s H E A0 hr gx tk => (gs_one (gs_ret (gtup (gcons (gadd (gix (hu1 hr) (gv 0) gint) (gmul (gv 2) (gix (hu1 hr) (gv 1) gint))) (gcons (gadd (gix (hu1 hr) (gv 0) gint) (gmul (gv 2) (gix (hu1 hr) (gv 1) gint))) gnil)))))
theorem bd_added_1 {T : Addr} (fk : FnK K mg (.ref T) "added" s_added ["vector", "step", "many"] f_ fd_) (e : DflK K T [.int (1)]) : ∃ ds dvs, Binds K fd_ ["vector", "step", "many"] ds ∧ Vals dvs ds ∧ Dfl K dvs ([.int (1)].map B.val) := binds_dfl (n := 2) fk e 0 (by decide) fun _ _ _ _ _ _ us its hl hi => match us, hl, its, hi with | [_, _], _, [_], _ => ⟨_, rfl, rfl⟩
set_option maxHeartbeats 4000000 in
theorem g_turned (fk : FnK K mg .none "turned" s_turned ["kind", "vector"] f_ fd_) (sys : SysOk base) (k_LINEAR : ConK K mg "LINEAR" c_LINEAR) : FnG P w K mg base Γ 1 f_ fd_ ["kind", "vector"] F_turned :=
  fnG_of (N := ["kind", "vector", "a", "b", "c", "d"]) (body := B_turned) fk.ex sc_turned sys fun cdv hcd A outer s H E A0 hr gx tk => (gs_cons (gs_asg (tv := [2, 3, 4, 5]) (gix (hu1 hr) (gcon k_LINEAR) (gv 0)) (gg_tup rfl (ggs_cons (gg_name 2 sc_turned.nd) (ggs_cons (gg_name 3 sc_turned.nd) (ggs_cons (gg_name 4 sc_turned.nd) (ggs_cons (gg_name 5 sc_turned.nd) ggs_nil)))))) (gs_one (gs_ret (gtup (gcons (gadd (gmul (gv 2) (gix (hu1 hr) (gv 1) gint)) (gmul (gv 3) (gix (hu1 hr) (gv 1) gint))) (gcons (gadd (gmul (gv 4) (gix (hu1 hr) (gv 1) gint)) (gmul (gv 5) (gix (hu1 hr) (gv 1) gint))) gnil))))))
theorem b_turned (fk : FnK K mg .none "turned" s_turned ["kind", "vector"] f_ fd_) : Binds K fd_ ["kind", "vector"] [] := fk.binds fun _ _ _ _ _ _ us hl => match us, hl with | [_, _], _ => rfl
set_option maxHeartbeats 4000000 in
theorem g_offset (fk : FnK K mg .none "offset" s_offset ["symmetry"] f_ fd_) (sys : SysOk base) : FnG P w K mg base Γ 1 f_ fd_ ["symmetry"] F_offset :=
  fnG_of (N := ["symmetry"]) (body := B_offset) fk.ex sc_offset sys fun cdv hcd A outer s H E A0 hr gx tk => (gs_one (gs_ret (gslice (gv 0) (gps gint) gpn)))
theorem b_offset (fk : FnK K mg .none "offset" s_offset ["symmetry"] f_ fd_) : Binds K fd_ ["symmetry"] [] := fk.binds fun _ _ _ _ _ _ us hl => match us, hl with | [_], _ => rfl
set_option maxHeartbeats 4000000 in
theorem g_image_of (fk : FnK K mg .none "image_of" s_image_of ["symmetry", "square"] f_ fd_) (sys : SysOk base) (f_added_1 : CalledG P w K mg base Γ 1 "added" ["vector", "step", "many"] F_added [B.val (.int (1))]) (f_offset : CalledG P w K mg base Γ 1 "offset" ["symmetry"] F_offset []) (f_turned : CalledG P w K mg base Γ 1 "turned" ["kind", "vector"] F_turned []) : FnG P w K mg base Γ 2 f_ fd_ ["symmetry", "square"] F_image_of :=
  fnG_of (N := ["symmetry", "square"]) (body := B_image_of) fk.ex sc_image_of sys fun cdv hcd A outer s H E A0 hr gx tk => (gs_one (gs_ret (gcallC [false, false] f_added_1 hr gx tk (gcons (gcallC [false, false] f_turned hr gx tk (gcons (gix (hu1 hr) (gv 0) gint) (gcons (gv 1) gnil))) (gcons (gcallC [false] f_offset hr gx tk (gcons (gv 0) gnil)) gnil)))))
theorem b_image_of (fk : FnK K mg .none "image_of" s_image_of ["symmetry", "square"] f_ fd_) : Binds K fd_ ["symmetry", "square"] [] := fk.binds fun _ _ _ _ _ _ us hl => match us, hl with | [_, _], _ => rfl
set_option maxHeartbeats 4000000 in
theorem g_kind_after (fk : FnK K mg .none "kind_after" s_kind_after ["first", "second"] f_ fd_) (sys : SysOk base) (t_LINEAR : ConT K mg "LINEAR" c_LINEAR) (f_turned : CalledG P w K mg base Γ 1 "turned" ["kind", "vector"] F_turned []) : FnG P w K mg base Γ 2 f_ fd_ ["first", "second"] F_kind_after :=
  fnG_of (N := ["first", "second", "a", "c", "b", "d"]) (body := B_kind_after) fk.ex sc_kind_after sys fun cdv hcd A outer s H E A0 hr gx tk => (gs_cons (gs_asg (tv := [2, 3]) (gcallC [false, false] f_turned hr gx tk (gcons (gv 1) (gcons (gcallC [false, false] f_turned hr gx tk (gcons (gv 0) (gcons (gtup (gcons gint (gcons gint gnil))) gnil))) gnil))) (gg_tup rfl (ggs_cons (gg_name 2 sc_kind_after.nd) (ggs_cons (gg_name 3 sc_kind_after.nd) ggs_nil)))) (gs_cons (gs_asg (tv := [4, 5]) (gcallC [false, false] f_turned hr gx tk (gcons (gv 1) (gcons (gcallC [false, false] f_turned hr gx tk (gcons (gv 0) (gcons (gtup (gcons gint (gcons gint gnil))) gnil))) gnil))) (gg_tup rfl (ggs_cons (gg_name 4 sc_kind_after.nd) (ggs_cons (gg_name 5 sc_kind_after.nd) ggs_nil)))) (gs_one (gs_ret (g_index (hu65 hr) t_LINEAR (gcons (gtup (gcons (gv 2) (gcons (gv 4) (gcons (gv 3) (gcons (gv 5) gnil))))) gnil))))))
theorem b_kind_after (fk : FnK K mg .none "kind_after" s_kind_after ["first", "second"] f_ fd_) : Binds K fd_ ["first", "second"] [] := fk.binds fun _ _ _ _ _ _ us hl => match us, hl with | [_, _], _ => rfl
set_option maxHeartbeats 4000000 in
theorem g_product_of (fk : FnK K mg .none "product_of" s_product_of ["first", "second"] f_ fd_) (sys : SysOk base) (f_image_of : CalledG P w K mg base Γ 2 "image_of" ["symmetry", "square"] F_image_of []) (f_kind_after : CalledG P w K mg base Γ 2 "kind_after" ["first", "second"] F_kind_after []) (f_offset : CalledG P w K mg base Γ 1 "offset" ["symmetry"] F_offset []) : FnG P w K mg base Γ 3 f_ fd_ ["first", "second"] F_product_of :=
  fnG_of (N := ["first", "second"]) (body := B_product_of) fk.ex sc_product_of sys fun cdv hcd A outer s H E A0 hr gx tk => (gs_one (gs_ret (gadd (gtup (gcons (gcallC [false, false] f_kind_after hr gx tk (gcons (gix (hu1 hr) (gv 0) gint) (gcons (gix (hu1 hr) (gv 1) gint) gnil))) gnil)) (gcallC [false, false] f_image_of hr gx tk (gcons (gv 1) (gcons (gcallC [false] f_offset hr gx tk (gcons (gv 0) gnil)) gnil))))))
theorem b_product_of (fk : FnK K mg .none "product_of" s_product_of ["first", "second"] f_ fd_) : Binds K fd_ ["first", "second"] [] := fk.binds fun _ _ _ _ _ _ us hl => match us, hl with | [_, _], _ => rfl
set_option maxHeartbeats 4000000 in
theorem g_wrapped_group (fk : FnK K mg .none "wrapped_group" s_wrapped_group ["generators", "width", "height"] f_ fd_) (sys : SysOk base) (k_IDENTITY : ConK K mg "IDENTITY" c_IDENTITY) (f_product_of : CalledG P w K mg base Γ 3 "product_of" ["first", "second"] F_product_of []) (f_wrapped : CalledG P w K mg base Γ 1 "wrapped" ["symmetry", "width", "height"] F_wrapped []) : FnG P w K mg base Γ 4 f_ fd_ ["generators", "width", "height"] F_wrapped_group :=
  fnG_of (N := ["generators", "width", "height", "found", "known", "waiting", "here", "generator", "there"]) (body := B_wrapped_group) fk.ex sc_wrapped_group sys fun cdv hcd A outer s H E A0 hr gx tk => (gs_cons (gs_par 3 4 rfl sc_wrapped_group.nd (glst (gcons (gcon k_IDENTITY) gnil)) (gdic1X (hu1 hr) (gcon k_IDENTITY) gbl)) (gs_cons (gs_set 5 sc_wrapped_group.nd (glst (gcons (gcon k_IDENTITY) gnil))) (gs_cons (gs_while mu_wrapped_group_1 (passes_of rfl) (gtcmp (op_neU (hu64 hr)) neD_ok (gv 5) (glst gnil) (nomark _)) (gs_cons (gs_set 6 sc_wrapped_group.nd (gpop 5)) (gs_one (gs_for (tv := [7]) (passes_of rfl) rfl (gi_any (gv 0)) (gg_name 7 sc_wrapped_group.nd) (gs_cons (gs_set 8 sc_wrapped_group.nd (gcallC [false, false, false] f_wrapped hr gx tk (gcons (gcallC [false, false] f_product_of hr gx tk (gcons (gv 6) (gcons (gv 7) gnil))) (gcons (gv 1) (gcons (gv 2) gnil))))) (gs_one (gs_if (gtcmp (op_ninXX (hu1 hr)) ninXD_ok (gv 8) (gv 4) (by with_unfolding_all rfl)) (gs_cons (gsetX (hu1 hr) 4 (gv 8) gbl) (gs_cons (gs_expr (gappend 3 (gcons (gv 8) gnil))) (gs_one (gs_expr (gappend 5 (gcons (gv 8) gnil)))))) gs_nil))))))) (gs_one (gs_ret (gv 3))))))
theorem b_wrapped_group (fk : FnK K mg .none "wrapped_group" s_wrapped_group ["generators", "width", "height"] f_ fd_) : Binds K fd_ ["generators", "width", "height"] [] := fk.binds fun _ _ _ _ _ _ us hl => match us, hl with | [_, _, _], _ => rfl
set_option maxHeartbeats 4000000 in
theorem g_raised (fk : FnK K mg .none "raised" s_raised ["number", "exponent"] f_ fd_) (sys : SysOk base) (z_range : mg "range" = none) : FnG P w K mg base Γ 1 f_ fd_ ["number", "exponent"] F_raised :=
  fnG_of (N := ["number", "exponent", "found", "lap"]) (body := B_raised) fk.ex sc_raised sys fun cdv hcd A outer s H E A0 hr gx tk => (gs_cons (gs_set 2 sc_raised.nd gint) (gs_cons (gs_for (tv := [3]) (passes_of rfl) rfl (gi_range1 z_range (gcons (gv 1) gnil)) (gg_name 3 sc_raised.nd) (gs_one (gs_set 2 sc_raised.nd (gmul (gv 2) (gv 0))))) (gs_one (gs_ret (gv 2)))))
theorem b_raised (fk : FnK K mg .none "raised" s_raised ["number", "exponent"] f_ fd_) : Binds K fd_ ["number", "exponent"] [] := fk.binds fun _ _ _ _ _ _ us hl => match us, hl with | [_, _], _ => rfl
set_option maxHeartbeats 4000000 in
theorem g_cycles_of (fk : FnK K mg .none "cycles_of" s_cycles_of ["symmetry", "width", "height"] f_ fd_) (sys : SysOk base) (z_range : mg "range" = none) (f_image_of : CalledG P w K mg base Γ 2 "image_of" ["symmetry", "square"] F_image_of []) : FnG P w K mg base Γ 3 f_ fd_ ["symmetry", "width", "height"] F_cycles_of :=
  fnG_of (N := ["symmetry", "width", "height", "known", "count", "start", "here", "there", "x", "y"]) (body := B_cycles_of) fk.ex sc_cycles_of sys fun cdv hcd A outer s H E A0 hr gx tk => (gs_cons (gs_par 3 4 rfl sc_cycles_of.nd gdic0 gint) (gs_cons (gs_for (tv := [5]) (passes_of rfl) rfl (gi_any (glc2 [8, 9] [9] rfl (by decide) rfl sc_cycles_of.nd (gi_range1 z_range (gcons (gv 1) gnil)) (blkOk_by (own := [("x", 8), ("y", 9)]) (by kernel_rfl)) (fun s_ H_ C_ cl_ fp_ => (gg_name 8 sc_cycles_of.nd)) (fun s_ H_ C_ cl_ fp_ => gts_nil) (fun s_ H_ C_ cl_ fp_ => (gi_range1 z_range (gcons (gv 2) gnil))) (fun s_ H_ C_ cl_ fp_ => (gg_name 9 sc_cycles_of.nd)) (fun s_ H_ C_ cl_ fp_ => gts_nil) (fun s_ H_ C_ cl_ fp_ => (gtup (gcons (gv 8) (gcons (gv 9) gnil)))))) (gg_name 5 sc_cycles_of.nd) (gs_one (gs_if (gtcmp (op_ninXX (hu1 hr)) ninXD_ok (gv 5) (gv 3) (by with_unfolding_all rfl)) (gs_cons (gs_par 4 6 rfl sc_cycles_of.nd (gadd (gv 4) gint) (gv 5)) (gs_one (gs_while mu_cycles_of_1 (passes_of rfl) (gtcmp (op_ninXX (hu1 hr)) ninXD_ok (gv 6) (gv 3) (by with_unfolding_all rfl)) (gs_cons (gsetX (hu1 hr) 3 (gv 6) gbl) (gs_cons (gs_set 7 sc_cycles_of.nd (gcallC [false, false] f_image_of hr gx tk (gcons (gv 0) (gcons (gv 6) gnil)))) (gs_one (gs_set 6 sc_cycles_of.nd (gtup (gcons (gmod (gix (hu1 hr) (gv 7) gint) (gv 1)) (gcons (gmod (gix (hu1 hr) (gv 7) gint) (gv 2)) gnil)))))))))) gs_nil))) (gs_one (gs_ret (gv 4)))))
theorem b_cycles_of (fk : FnK K mg .none "cycles_of" s_cycles_of ["symmetry", "width", "height"] f_ fd_) : Binds K fd_ ["symmetry", "width", "height"] [] := fk.binds fun _ _ _ _ _ _ us hl => match us, hl with | [_, _, _], _ => rfl
set_option maxHeartbeats 4000000 in
theorem g_count_classes (fk : FnK K mg .none "count_classes" s_count_classes ["generators", "width", "height", "colours"] f_ fd_) (sys : SysOk base) (z_any : mg "any" = none) (z_len : mg "len" = none) (z_sum : mg "sum" = none) (k_EXCHANGING : ConK K mg "EXCHANGING" c_EXCHANGING) (k_MOST_COLOURS : ConK K mg "MOST_COLOURS" c_MOST_COLOURS) (k_MOST_SIDE : ConK K mg "MOST_SIDE" c_MOST_SIDE) {C_CompatibilityError : Addr} (x_CompatibilityError : ExcK K mg "CompatibilityError" C_CompatibilityError "ValueError.__new__" [.type "ValueError", .type "Exception", .type "BaseException", .type "object"]) (f_cycles_of : CalledG P w K mg base Γ 3 "cycles_of" ["symmetry", "width", "height"] F_cycles_of []) (f_need_between : CalledG P w K mg base Γ 3 "need_between" ["thing", "least", "most"] F_need_between []) (f_need_generators : CalledG P w K mg base Γ 5 "need_generators" ["thing"] F_need_generators []) (f_raised : CalledG P w K mg base Γ 1 "raised" ["number", "exponent"] F_raised []) (f_wrapped_group : CalledG P w K mg base Γ 4 "wrapped_group" ["generators", "width", "height"] F_wrapped_group []) : FnG P w K mg base Γ 6 f_ fd_ ["generators", "width", "height", "colours"] F_count_classes :=
  fnG_of (N := ["generators", "width", "height", "colours", "group", "generator", "symmetry"]) (body := B_count_classes) fk.ex sc_count_classes sys fun cdv hcd A outer s H E A0 hr gx tk => (gs_cons (gs_expr (gcallC [false] f_need_generators hr gx tk (gcons (gv 0) gnil))) (gs_cons (gs_expr (gcallC [false, false, false] f_need_between hr gx tk (gcons (gv 1) (gcons gint (gcons (gcon k_MOST_SIDE) gnil))))) (gs_cons (gs_expr (gcallC [false, false, false] f_need_between hr gx tk (gcons (gv 2) (gcons gint (gcons (gcon k_MOST_SIDE) gnil))))) (gs_cons (gs_expr (gcallC [false, false, false] f_need_between hr gx tk (gcons (gv 3) (gcons gint (gcons (gcon k_MOST_COLOURS) gnil))))) (gs_cons (gs_if (PW.pt (gand (gtcmp (op_neU (hu64 hr)) neD_ok (gv 1) (gv 2) (nomark _)) (gand1 (gtv (g_any rfl z_any (gcons (glc [5] rfl rfl sc_count_classes.nd (gi_any (gv 0)) (blkOk_by (own := [("generator", 5)]) (by kernel_rfl)) (fun s_ H_ C_ cl_ fp_ => (gg_name 5 sc_count_classes.nd)) (fun s_ H_ C_ cl_ fp_ => gts_nil) (fun s_ H_ C_ cl_ fp_ => (ginX (hu65 hr) (gix (hu1 hr) (gv 5) gint) (gcon k_EXCHANGING)))) gnil)))))) (gs_one (gs_raise PySem.F.excBase_ValueError x_CompatibilityError rfl tk)) gs_nil) (gs_cons (gs_set 4 sc_count_classes.nd (gcallC [false, false, false] f_wrapped_group hr gx tk (gcons (gv 0) (gcons (gv 1) (gcons (gv 2) gnil))))) (gs_one (gs_ret (gfdiv (g_sum rfl z_sum (gcons (glc [6] rfl rfl sc_count_classes.nd (gi_any (gv 4)) (blkOk_by (own := [("symmetry", 6)]) (by kernel_rfl)) (fun s_ H_ C_ cl_ fp_ => (gg_name 6 sc_count_classes.nd)) (fun s_ H_ C_ cl_ fp_ => gts_nil) (fun s_ H_ C_ cl_ fp_ => have gx := gx_blk s_ H_ _ _ fp_ gx; have tk := takes_gx gx; (gcallC [false, false] f_raised hr gx tk (gcons (gv 3) (gcons (gcallC [false, false, false] f_cycles_of hr gx tk (gcons (gv 6) (gcons (gv 1) (gcons (gv 2) gnil)))) gnil))))) gnil)) (g_len z_len (gcons (gv 4) gnil)))))))))))
theorem b_count_classes (fk : FnK K mg .none "count_classes" s_count_classes ["generators", "width", "height", "colours"] f_ fd_) : Binds K fd_ ["generators", "width", "height", "colours"] [] := fk.binds fun _ _ _ _ _ _ us hl => match us, hl with | [_, _, _, _], _ => rfl
set_option maxHeartbeats 4000000 in
theorem g__law_is_equal (fk : FnK K mg .none "_law_is_equal" s__law_is_equal ["_law_actual", "_law_expected_here"] f_ fd_) (sys : SysOk base) (z_repr : mg "repr" = none) : FnG P w K mg base Γ 1 f_ fd_ ["_law_actual", "_law_expected_here"] F__law_is_equal_2 :=
  fnG_of (N := ["_law_actual", "_law_expected_here"]) (body := B__law_is_equal_2) fk.ex sc__law_is_equal sys fun cdv hcd A outer s H E A0 hr gx tk => (gs_one (gs_ret (geq (hu64 hr) (g_repr gx z_repr (gcons (gv 0) gnil)) (g_repr gx z_repr (gcons (gv 1) gnil)))))
theorem b__law_is_equal (fk : FnK K mg .none "_law_is_equal" s__law_is_equal ["_law_actual", "_law_expected_here"] f_ fd_) : Binds K fd_ ["_law_actual", "_law_expected_here"] [] := fk.binds fun _ _ _ _ _ _ us hl => match us, hl with | [_, _], _ => rfl
set_option maxHeartbeats 4000000 in
theorem g_law (fk : FnK K mg .none "law" s_law ["_law_script"] f_ fd_) (sys : SysOk base) (z_len : mg "len" = none) (z_max : mg "max" = none) (z_min : mg "min" = none) (z_range : mg "range" = none) (z_repr : mg "repr" = none) (z_tuple : mg "tuple" = none) (f__law_cell : CalledG P w K mg base Γ 1 "_law_cell" ["_law_script", "_law_index"] F__law_cell []) (f__law_expected : CalledG P w K mg base Γ 4 "_law_expected" ["_law_generators_here", "_law_width", "_law_height", "_law_colours"] F__law_expected_9 []) (f__law_generators : CalledG P w K mg base Γ 4 "_law_generators" ["_law_source_here", "_law_most", "_law_far"] F__law_generators []) (f__law_is_equal : CalledG P w K mg base Γ 1 "_law_is_equal" ["_law_actual", "_law_expected_here"] F__law_is_equal_2 []) (f__law_sides : CalledG P w K mg base Γ 3 "_law_sides" ["_law_source_here"] F__law_sides []) (f__law_source : CalledG P w K mg base Γ 1 "_law_source" ["_law_cell_here"] F__law_source []) (f_count_classes : CalledG P w K mg base Γ 6 "count_classes" ["generators", "width", "height", "colours"] F_count_classes []) : FnG P w K mg base Γ 7 f_ fd_ ["_law_script"] F_law_k73 :=
  fnG_of (N := ["_law_script", "_law_k", "_law_source_here", "_law_lap", "_law_width", "_law_height", "_law_colours", "_law_generators_here", "_law_before", "_law_expected_here", "_law_told", "_law_kind", "_law_x", "_law_y", "_law_turn"]) (body := B_law_k73) fk.ex sc_law sys fun cdv hcd A outer s H E A0 hr gx tk => (gs_cons (gs_for (tv := [1]) (passes_of rfl) rfl (gi_range1 z_range (gcons (g_max2 rfl z_max (gcons gint (gcons (g_min2 rfl z_min (gcons (g_len z_len (gcons (gv 0) gnil)) (gcons gint gnil))) gnil))) gnil)) (gg_name 1 sc_law.nd) (gs_cons (gs_set 2 sc_law.nd (gcallC [false] f__law_source hr gx tk (gcons (gcallC [false, false] f__law_cell hr gx tk (gcons (gv 0) (gcons (gv 1) gnil))) gnil))) (gs_one (gs_for (tv := [3]) (passes_of rfl) rfl (gi_range1 z_range (gcons gint gnil)) (gg_name 3 sc_law.nd) (gs_cons (gs_asg (tv := [4, 5, 6]) (gcallC [true] f__law_sides hr gx tk (gcons (gv 2) gnil)) (gg_tup rfl (ggs_cons (gg_name 4 sc_law.nd) (ggs_cons (gg_name 5 sc_law.nd) (ggs_cons (gg_name 6 sc_law.nd) ggs_nil))))) (gs_cons (gs_set 7 sc_law.nd (gcallC [true, false, false] f__law_generators hr gx tk (gcons (gv 2) (gcons gint (gcons gint gnil))))) (gs_cons (gs_if (gtcmp (op_neU (hu64 hr)) neD_ok (gv 4) (gv 5) (nomark _)) (gs_one (gs_set 7 sc_law.nd (g_tuple z_tuple (gcons (glc [11, 12, 13] rfl rfl sc_law.nd (gi_any (gv 7)) (blkOk_by (own := [("_law_kind", 11), ("_law_x", 12), ("_law_y", 13)]) (by kernel_rfl)) (fun s_ H_ C_ cl_ fp_ => (gg_tup rfl (ggs_cons (gg_name 11 sc_law.nd) (ggs_cons (gg_name 12 sc_law.nd) (ggs_cons (gg_name 13 sc_law.nd) ggs_nil))))) (fun s_ H_ C_ cl_ fp_ => gts_nil) (fun s_ H_ C_ cl_ fp_ => (gtup (gcons (gmul (gfdiv (gv 11) gint) gint) (gcons (gv 12) (gcons (gv 13) gnil)))))) gnil)))) gs_nil) (gs_cons (gs_par 8 9 rfl sc_law.nd (g_repr gx z_repr (gcons (gv 7) gnil)) (gcallC [false, false, false, false] f__law_expected hr gx tk (gcons (gv 7) (gcons (gv 4) (gcons (gv 5) (gcons (gv 6) gnil)))))) (gs_cons (gs_setLc [14] 10 rfl rfl sc_law.nd (sw_true rfl rfl rfl (by decide +kernel)) (gi_range1 z_range (gcons gint gnil)) (blkOk_by (own := [("_law_turn", 14)]) (by kernel_rfl)) (fun s_ H_ C_ cl_ fp_ => (gg_name 14 sc_law.nd)) (fun s_ H_ C_ cl_ fp_ => gts_nil) (fun s_ H_ C_ cl_ fp_ => have gx := gx_blk s_ H_ _ _ fp_ gx; have tk := takes_gx gx; (gcallC [false, false, false, false] f_count_classes hr gx tk (gcons (gv 7) (gcons (gv 4) (gcons (gv 5) (gcons (gv 6) gnil))))))) (gs_one (gs_if (PW.pt (gor (gnot (gtv (gcallC [false, false] f__law_is_equal hr gx tk (gcons (gv 10) (gcons (glst (gcons (gv 9) (gcons (gv 9) gnil))) gnil))))) (gor1 (gtcmp (op_neU (hu64 hr)) neD_ok (g_repr gx z_repr (gcons (gv 7) gnil)) (gv 8) (nomark _))))) (gs_one (gs_ret gbl)) gs_nil))))))))))) (gs_one (gs_ret gbl)))
end
end L_k73
section
open PySem PySem.Spec PyProof.Rows L2 G
local macro_rules
  | `(tactic| simp? [$ls,*]) => `(tactic| simp (maxSteps := 1000000) (disch := first | assumption | (simp (disch := decide +kernel) only [G.sl_nil, G.sl_cons, List.cons_append, List.nil_append, G.shN_str, G.shN_tup, G.shN_lst, G.shN_int, G.shN_bool, G.shN_none, G.shA_nil, G.shA_cons, G.b_ta, G.ky_i, G.ky_s]; done) | exact G.len_ok (by simp only [G.sl_nil, G.sl_cons]) | decide | decide +kernel | exact G.mulOk_l (by decide) | exact G.mulOk_r (by decide) | omega) only [G.rb_ok, G.rb_ex, G.rb_bad, G.rb_ite, G.lz, G.ls, G.sz, G.ss, G.r_seq, G.k_seq1, G.k_seq2, G.k_seq3, G.k_seq4, G.r_nx, G.r_bk, G.r_ct, G.r_retN, G.r_ret, G.k_ret, G.r_drop, G.k_drop, G.r_if, G.r_ife, G.k_if, G.r_asg, G.k_asg1, G.k_asg2, G.k_asg3, G.k_sl1, G.k_sl2, G.k_sh1, G.k_sh2, G.k_sh3, G.k_sh4, G.k_sh5, G.r_asgG, G.k_asgG, G.k_asgL, G.k_tg, G.r_nm, G.r_tup, G.r_tup1, G.r_tup3, G.r_tup4, G.r_nil, G.r_cons, G.r_V, G.k_V1, G.k_V2, G.k_V4, G.k_V3, G.r_C, G.p_val, G.p_fr, G.p_sl, G.pb_1, G.pb_2, G.pb_3, G.od_1, G.od_2, G.p_1, G.p_2, G.p_3, G.q_1, G.q_2, G.q_3, G.re_1, G.re_2, G.re_ite, G.st_1, G.st_2, G.st_3, G.r_op2, G.k_op2a, G.k_op2b, G.k_op2c, G.r_op1, G.k_op1, G.ob_some, G.r_said, G.k_said1, G.r_opN, G.k_opN, G.r_pk0, G.r_pk1, G.k_pk, G.r_anil, G.r_acons, G.k_acons, G.k_acons2, G.shs_v0, G.shs_v1, G.shs_v2, G.shs_v3, G.shs_v4, G.om_some, G.r_tupT, G.r_lstT, G.k_dt, G.k_dl, G.k_d1, G.k_d2, G.r_fB, G.k_fB, G.r_and, G.r_or, G.r_andV, G.r_orV, G.r_not, G.r_notV, G.k_not, G.k_notV, G.r_yes, G.r_ch, G.k_ch1, G.k_ch2, G.k_ch3, G.k_ch4, G.k_ch5, G.r_call, G.c1_nil, G.c1_t, G.c1_f, G.c1_s, G.c1_s1, G.c1_s2, G.k_ca, G.k_c1, G.k_c2, G.c2_nil, G.c2_v, G.c2_s, G.c2_s1, G.c2_s3, G.c2_s2, G.k_call, G.k_w1, G.k_w2, G.k_w3, G.k_wite, G.wb_nil, G.wb_none, G.wb_some, G.k_wb1, G.k_wb2, G.wbx_nil, G.wbx_none, G.ap_nil, G.ap_nil2, G.ap_cons, G.ma_nil, G.ma_cons, G.ds_nil, G.ds_none, G.ds_some, G.me_nil, G.me_none, G.me_some, G.ou_0, G.ou_s, G.ob_val, G.ob_own, G.ob_un, G.ob_exc, G.ob_prm, G.le_0, G.le_s, G.k_rf1, G.k_rf2, G.k_rf3, G.k_rf4, G.k_rs1, G.k_rs2, G.r_set, G.k_set1, G.k_set2, G.k_set3, G.k_set4, G.k_set5, G.k_set6, G.k_set7, G.k_set8, G.k_set9, G.r_mut, G.k_mu1, G.k_mu2, G.k_mu3, G.k_mu4, G.k_mu5, G.k_mu6, G.k_mu7, G.k_app, G.k_apps, G.r_par, G.k_par1, G.k_par2, G.k_par3, G.k_par4, G.k_par5, G.r_par3, G.k_p3a, G.k_p3b, G.r_parN, G.k_pn1, G.k_pn2, G.k_nx, G.ev_nil, G.ev_cons, G.k_ev1, G.k_ev2, G.rs_nil, G.rs_val, G.rs_fr, G.rs_sl, G.k_rsS1, G.k_rsS2, G.bn_nil, G.bn_val, G.bn_fr, G.r_rep, G.k_rp1, G.k_rp2, G.k_rp3, G.ixN_last, G.set_last, G.ix_last, G.r_for, G.k_for, G.fo_nil, G.fo_cons, G.k_fo0, G.k_fo1, G.k_fo2, G.k_fo3, G.k_fo4, G.r_turn, G.k_tu0, G.k_tu1, G.k_tu2, G.k_tu3, G.k_tu4, G.r_seqI, G.k_seqI, G.k_seqI1, G.k_seqI3, G.k_seqI5, G.k_seqI6, G.k_seqI4, G.k_seqI2, G.r_rng1, G.k_rng1, G.k_rng1b, G.r_rng2, G.k_rng2, G.k_rng2b, G.rgl_0, G.rgl_1, G.rgl_2, G.rgl_3, G.rgl_4, G.rgl_5, G.rgl_6, G.rgl_7, G.rgl_8, G.rgl_9, G.rgl_10, G.rgl_12, G.rgl_16, G.r1l_1, G.r1l_2, G.r1l_3, G.r1l_4, G.r1l_5, G.r1l_6, G.r1l_8, G.rpl_0, G.rpl_1, G.rpl_2, G.rpl_3, G.rpl_4, G.rpl_5, G.rpl_6, G.rpl_7, G.rpl_8, G.r_lc, G.k_lc, G.l_nil, G.l_cons, G.l_A, G.l_B, G.l_C, G.l_C2, G.l_C3, G.l_S1, G.l_S2, G.l_D, G.k_lc1, G.wi_nil, G.wi_cons, G.mulOk_l, G.mulOk_r, G.r_sl, G.k_sla, G.k_slb, G.k_slc, G.k_sld, G.pt_n, G.pt_s, G.k_pt, G.cu_t, G.cu_l, G.cu_1n, G.cu_2n, G.cu_n1, G.d_add, G.d_addT, G.d_addTs, G.d_addL, G.d_addLs, G.d_sub, G.d_mul, G.d_fdiv, G.d_mod, G.d_neg, G.d_cmp, G.d_ixT, G.d_ixL, G.at_0, G.at_1, G.at_2, G.at_3, G.d_lenL, G.d_lenT, G.d_tupL, G.d_tupT, G.d_all, G.k_all, G.d_any, G.k_any, G.bo_nil, G.bo_cons, G.al_nil, G.al_cons, G.al_map, G.an_nil, G.an_cons, G.an_map, G.id_b, G.bo_map, G.d_max, G.d_min, G.d_listL, G.d_listT, G.d_p18, G.d_p13, G.d_p12, G.d_is, G.d_abs, G.d_repr, G.d_eqS, G.d_neS, G.d_eqI, G.d_neI, G.d_isi, G.isy_int_none, G.isy_int_bool, G.isy_int_int, G.isy_int_str, G.isy_int_list, G.isy_int_tuple, G.isy_int_dict, G.isy_bool_none, G.isy_bool_bool, G.isy_bool_int, G.isy_bool_str, G.isy_bool_list, G.isy_bool_tuple, G.isy_bool_dict, G.isy_tuple_none, G.isy_tuple_bool, G.isy_tuple_int, G.isy_tuple_str, G.isy_tuple_list, G.isy_tuple_tuple, G.isy_tuple_dict, G.isy_list_none, G.isy_list_bool, G.isy_list_int, G.isy_list_str, G.isy_list_list, G.isy_list_tuple, G.isy_list_dict, G.isy_str_none, G.isy_str_bool, G.isy_str_int, G.isy_str_str, G.isy_str_list, G.isy_str_tuple, G.isy_str_dict, G.isy_dict_none, G.isy_dict_bool, G.isy_dict_int, G.isy_dict_str, G.isy_dict_list, G.isy_dict_tuple, G.isy_dict_dict, G.it_t, G.it_f, G.b_tt, G.b_ft, G.b_nt, G.b_nf, G.b_ta, G.b_fa, G.b_at, G.b_to, G.b_fo, G.lI_0, G.lI_1, G.lI_2, G.lI_3, G.lI_4, G.lI_5, G.lI_m, G.bs_f, G.es_f, G.bb_tt, G.bb_tf, G.bb_ft, G.bb_ff, G.bq_s, G.r_dic, G.k_dic1, G.k_dic2, G.k_dic3, G.k_dic4, G.k_kD1, G.k_kD2, G.k_fl0, G.k_fl1, G.k_pr0, G.k_pr1, G.k_pr2, G.r_dic0, G.d_ixDi, G.d_ixDs, G.d_inGT, G.d_inGL, G.d_ninGT, G.d_ninGL, G.d_inGi, G.d_ninGi, G.k_vals, G.k_items, G.d_setDi, G.dg_nil, G.dg_i, G.dg_s, G.mg_0, G.mg_s, G.dpk_n, G.ky_i, G.ky_s, G.d_eqX, G.d_neX, G.d_inT, G.d_inL, G.d_ninT, G.d_ninL, G.ev_ii, G.ev_bb, G.ev_ss, G.ev_nn, G.ev_tt, G.ev_ll, G.ev_0, G.ev_c, G.ev_c0, G.ev_0c, G.ev_none_bool, G.ev_none_int, G.ev_none_str, G.ev_none_list, G.ev_none_tuple, G.ev_bool_none, G.ev_bool_str, G.ev_bool_list, G.ev_bool_tuple, G.ev_int_none, G.ev_int_str, G.ev_int_list, G.ev_int_tuple, G.ev_str_none, G.ev_str_bool, G.ev_str_int, G.ev_str_list, G.ev_str_tuple, G.ev_list_none, G.ev_list_bool, G.ev_list_int, G.ev_list_str, G.ev_list_tuple, G.ev_tuple_none, G.ev_tuple_bool, G.ev_tuple_int, G.ev_tuple_str, G.ev_tuple_list, G.dec_t, G.not_dec, G.k_popA, G.k_popZ, G.k_pop1, G.r_ext, G.k_ext1, G.k_ext2, G.k_ext3, G.k_ext4, G.r_items, G.k_itemsJ, G.d_listD, G.d_intI, G.d_intB, G.d_strI, G.r_subG, G.k_sub1, G.k_sub2, G.k_sub3, G.k_sub4, G.k_sub5, G.k_sub6, G.k_sub7, G.r_tupL1, G.r_tupL2, G.r_tupL3, G.r_tupL4, G.d_isB, G.d_isnB, G.d_isnN, G.d_revL, G.d_revT, G.r_permA, G.k_perm1, G.k_perm2, G.k_perm3a, G.k_perm3b, G.k_perm3c, G.k_perm3d, G.k_perm3e, Int.reduceEq, Int.reduceLE, Int.reduceLT, Int.reduceAdd, Int.reduceSub, Int.reduceMul, Int.reduceNeg, Nat.reduceAdd, List.nil_append, not_true_eq_false, not_false_eq_true, and_true, true_and, and_false, false_and, or_true, true_or, or_false, false_or, decide_true, decide_false, eq_self, Bool.and_true, Bool.and_false, $ls,*])
  | `(tactic| simp? [$ls,*] at $h:ident) => `(tactic| simp (maxSteps := 1000000) (disch := first | assumption | (simp (disch := decide +kernel) only [G.sl_nil, G.sl_cons, List.cons_append, List.nil_append, G.shN_str, G.shN_tup, G.shN_lst, G.shN_int, G.shN_bool, G.shN_none, G.shA_nil, G.shA_cons, G.b_ta, G.ky_i, G.ky_s]; done) | exact G.len_ok (by simp only [G.sl_nil, G.sl_cons]) | decide | decide +kernel | exact G.mulOk_l (by decide) | exact G.mulOk_r (by decide) | omega) only [G.rb_ok, G.rb_ex, G.rb_bad, G.rb_ite, G.lz, G.ls, G.sz, G.ss, G.r_seq, G.k_seq1, G.k_seq2, G.k_seq3, G.k_seq4, G.r_nx, G.r_bk, G.r_ct, G.r_retN, G.r_ret, G.k_ret, G.r_drop, G.k_drop, G.r_if, G.r_ife, G.k_if, G.r_asg, G.k_asg1, G.k_asg2, G.k_asg3, G.k_sl1, G.k_sl2, G.k_sh1, G.k_sh2, G.k_sh3, G.k_sh4, G.k_sh5, G.r_asgG, G.k_asgG, G.k_asgL, G.k_tg, G.r_nm, G.r_tup, G.r_tup1, G.r_tup3, G.r_tup4, G.r_nil, G.r_cons, G.r_V, G.k_V1, G.k_V2, G.k_V4, G.k_V3, G.r_C, G.p_val, G.p_fr, G.p_sl, G.pb_1, G.pb_2, G.pb_3, G.od_1, G.od_2, G.p_1, G.p_2, G.p_3, G.q_1, G.q_2, G.q_3, G.re_1, G.re_2, G.re_ite, G.st_1, G.st_2, G.st_3, G.r_op2, G.k_op2a, G.k_op2b, G.k_op2c, G.r_op1, G.k_op1, G.ob_some, G.r_said, G.k_said1, G.r_opN, G.k_opN, G.r_pk0, G.r_pk1, G.k_pk, G.r_anil, G.r_acons, G.k_acons, G.k_acons2, G.shs_v0, G.shs_v1, G.shs_v2, G.shs_v3, G.shs_v4, G.om_some, G.r_tupT, G.r_lstT, G.k_dt, G.k_dl, G.k_d1, G.k_d2, G.r_fB, G.k_fB, G.r_and, G.r_or, G.r_andV, G.r_orV, G.r_not, G.r_notV, G.k_not, G.k_notV, G.r_yes, G.r_ch, G.k_ch1, G.k_ch2, G.k_ch3, G.k_ch4, G.k_ch5, G.r_call, G.c1_nil, G.c1_t, G.c1_f, G.c1_s, G.c1_s1, G.c1_s2, G.k_ca, G.k_c1, G.k_c2, G.c2_nil, G.c2_v, G.c2_s, G.c2_s1, G.c2_s3, G.c2_s2, G.k_call, G.k_w1, G.k_w2, G.k_w3, G.k_wite, G.wb_nil, G.wb_none, G.wb_some, G.k_wb1, G.k_wb2, G.wbx_nil, G.wbx_none, G.ap_nil, G.ap_nil2, G.ap_cons, G.ma_nil, G.ma_cons, G.ds_nil, G.ds_none, G.ds_some, G.me_nil, G.me_none, G.me_some, G.ou_0, G.ou_s, G.ob_val, G.ob_own, G.ob_un, G.ob_exc, G.ob_prm, G.le_0, G.le_s, G.k_rf1, G.k_rf2, G.k_rf3, G.k_rf4, G.k_rs1, G.k_rs2, G.r_set, G.k_set1, G.k_set2, G.k_set3, G.k_set4, G.k_set5, G.k_set6, G.k_set7, G.k_set8, G.k_set9, G.r_mut, G.k_mu1, G.k_mu2, G.k_mu3, G.k_mu4, G.k_mu5, G.k_mu6, G.k_mu7, G.k_app, G.k_apps, G.r_par, G.k_par1, G.k_par2, G.k_par3, G.k_par4, G.k_par5, G.r_par3, G.k_p3a, G.k_p3b, G.r_parN, G.k_pn1, G.k_pn2, G.k_nx, G.ev_nil, G.ev_cons, G.k_ev1, G.k_ev2, G.rs_nil, G.rs_val, G.rs_fr, G.rs_sl, G.k_rsS1, G.k_rsS2, G.bn_nil, G.bn_val, G.bn_fr, G.r_rep, G.k_rp1, G.k_rp2, G.k_rp3, G.ixN_last, G.set_last, G.ix_last, G.r_for, G.k_for, G.fo_nil, G.fo_cons, G.k_fo0, G.k_fo1, G.k_fo2, G.k_fo3, G.k_fo4, G.r_turn, G.k_tu0, G.k_tu1, G.k_tu2, G.k_tu3, G.k_tu4, G.r_seqI, G.k_seqI, G.k_seqI1, G.k_seqI3, G.k_seqI5, G.k_seqI6, G.k_seqI4, G.k_seqI2, G.r_rng1, G.k_rng1, G.k_rng1b, G.r_rng2, G.k_rng2, G.k_rng2b, G.rgl_0, G.rgl_1, G.rgl_2, G.rgl_3, G.rgl_4, G.rgl_5, G.rgl_6, G.rgl_7, G.rgl_8, G.rgl_9, G.rgl_10, G.rgl_12, G.rgl_16, G.r1l_1, G.r1l_2, G.r1l_3, G.r1l_4, G.r1l_5, G.r1l_6, G.r1l_8, G.rpl_0, G.rpl_1, G.rpl_2, G.rpl_3, G.rpl_4, G.rpl_5, G.rpl_6, G.rpl_7, G.rpl_8, G.r_lc, G.k_lc, G.l_nil, G.l_cons, G.l_A, G.l_B, G.l_C, G.l_C2, G.l_C3, G.l_S1, G.l_S2, G.l_D, G.k_lc1, G.wi_nil, G.wi_cons, G.mulOk_l, G.mulOk_r, G.r_sl, G.k_sla, G.k_slb, G.k_slc, G.k_sld, G.pt_n, G.pt_s, G.k_pt, G.cu_t, G.cu_l, G.cu_1n, G.cu_2n, G.cu_n1, G.d_add, G.d_addT, G.d_addTs, G.d_addL, G.d_addLs, G.d_sub, G.d_mul, G.d_fdiv, G.d_mod, G.d_neg, G.d_cmp, G.d_ixT, G.d_ixL, G.at_0, G.at_1, G.at_2, G.at_3, G.d_lenL, G.d_lenT, G.d_tupL, G.d_tupT, G.d_all, G.k_all, G.d_any, G.k_any, G.bo_nil, G.bo_cons, G.al_nil, G.al_cons, G.al_map, G.an_nil, G.an_cons, G.an_map, G.id_b, G.bo_map, G.d_max, G.d_min, G.d_listL, G.d_listT, G.d_p18, G.d_p13, G.d_p12, G.d_is, G.d_abs, G.d_repr, G.d_eqS, G.d_neS, G.d_eqI, G.d_neI, G.d_isi, G.isy_int_none, G.isy_int_bool, G.isy_int_int, G.isy_int_str, G.isy_int_list, G.isy_int_tuple, G.isy_int_dict, G.isy_bool_none, G.isy_bool_bool, G.isy_bool_int, G.isy_bool_str, G.isy_bool_list, G.isy_bool_tuple, G.isy_bool_dict, G.isy_tuple_none, G.isy_tuple_bool, G.isy_tuple_int, G.isy_tuple_str, G.isy_tuple_list, G.isy_tuple_tuple, G.isy_tuple_dict, G.isy_list_none, G.isy_list_bool, G.isy_list_int, G.isy_list_str, G.isy_list_list, G.isy_list_tuple, G.isy_list_dict, G.isy_str_none, G.isy_str_bool, G.isy_str_int, G.isy_str_str, G.isy_str_list, G.isy_str_tuple, G.isy_str_dict, G.isy_dict_none, G.isy_dict_bool, G.isy_dict_int, G.isy_dict_str, G.isy_dict_list, G.isy_dict_tuple, G.isy_dict_dict, G.it_t, G.it_f, G.b_tt, G.b_ft, G.b_nt, G.b_nf, G.b_ta, G.b_fa, G.b_at, G.b_to, G.b_fo, G.lI_0, G.lI_1, G.lI_2, G.lI_3, G.lI_4, G.lI_5, G.lI_m, G.bs_f, G.es_f, G.bb_tt, G.bb_tf, G.bb_ft, G.bb_ff, G.bq_s, G.r_dic, G.k_dic1, G.k_dic2, G.k_dic3, G.k_dic4, G.k_kD1, G.k_kD2, G.k_fl0, G.k_fl1, G.k_pr0, G.k_pr1, G.k_pr2, G.r_dic0, G.d_ixDi, G.d_ixDs, G.d_inGT, G.d_inGL, G.d_ninGT, G.d_ninGL, G.d_inGi, G.d_ninGi, G.k_vals, G.k_items, G.d_setDi, G.dg_nil, G.dg_i, G.dg_s, G.mg_0, G.mg_s, G.dpk_n, G.ky_i, G.ky_s, G.d_eqX, G.d_neX, G.d_inT, G.d_inL, G.d_ninT, G.d_ninL, G.ev_ii, G.ev_bb, G.ev_ss, G.ev_nn, G.ev_tt, G.ev_ll, G.ev_0, G.ev_c, G.ev_c0, G.ev_0c, G.ev_none_bool, G.ev_none_int, G.ev_none_str, G.ev_none_list, G.ev_none_tuple, G.ev_bool_none, G.ev_bool_str, G.ev_bool_list, G.ev_bool_tuple, G.ev_int_none, G.ev_int_str, G.ev_int_list, G.ev_int_tuple, G.ev_str_none, G.ev_str_bool, G.ev_str_int, G.ev_str_list, G.ev_str_tuple, G.ev_list_none, G.ev_list_bool, G.ev_list_int, G.ev_list_str, G.ev_list_tuple, G.ev_tuple_none, G.ev_tuple_bool, G.ev_tuple_int, G.ev_tuple_str, G.ev_tuple_list, G.dec_t, G.not_dec, G.k_popA, G.k_popZ, G.k_pop1, G.r_ext, G.k_ext1, G.k_ext2, G.k_ext3, G.k_ext4, G.r_items, G.k_itemsJ, G.d_listD, G.d_intI, G.d_intB, G.d_strI, G.r_subG, G.k_sub1, G.k_sub2, G.k_sub3, G.k_sub4, G.k_sub5, G.k_sub6, G.k_sub7, G.r_tupL1, G.r_tupL2, G.r_tupL3, G.r_tupL4, G.d_isB, G.d_isnB, G.d_isnN, G.d_revL, G.d_revT, G.r_permA, G.k_perm1, G.k_perm2, G.k_perm3a, G.k_perm3b, G.k_perm3c, G.k_perm3d, G.k_perm3e, Int.reduceEq, Int.reduceLE, Int.reduceLT, Int.reduceAdd, Int.reduceSub, Int.reduceMul, Int.reduceNeg, Nat.reduceAdd, List.nil_append, not_true_eq_false, not_false_eq_true, and_true, true_and, and_false, false_and, or_true, true_or, or_false, false_or, decide_true, decide_false, eq_self, Bool.and_true, Bool.and_false, $ls,*] at $h:ident)
namespace M
open PySem PySem.Spec PyProof.Rows L2 G
/-! ### kinds, symmetries -/
inductive Kd where
  | k0 | k1 | k2 | k3 | k4 | k5 | k6 | k7
deriving DecidableEq
def Kd.n : Kd → Nat
  | k0 => 0 | k1 => 1 | k2 => 2 | k3 => 3 | k4 => 4 | k5 => 5 | k6 => 6 | k7 => 7
def Kd.i : Kd → Int
  | k0 => 0 | k1 => 1 | k2 => 2 | k3 => 3 | k4 => 4 | k5 => 5 | k6 => 6 | k7 => 7
def Kd.of : Nat → Kd
  | 0 => k0 | 1 => k1 | 2 => k2 | 3 => k3 | 4 => k4 | 5 => k5 | 6 => k6 | _ => k7
def Kd.u : Kd → Int → Int → Int
  | k0, a, _ => a | k1, _, b => -b | k2, a, _ => -a | k3, _, b => b | k4, a, _ => -a | k5, _, b => -b | k6, a, _ => a | k7, _, b => b
def Kd.v : Kd → Int → Int → Int
  | k0, _, b => b | k1, a, _ => a | k2, _, b => -b | k3, a, _ => -a | k4, _, b => b | k5, a, _ => -a | k6, _, b => -b | k7, a, _ => a
/-- first p, then q -/
def Kd.mul (p q : Kd) : Kd := .of (if q.n < 4 then (if p.n < 4 then (p.n + q.n) % 4 else 4 + (p.n + q.n) % 4) else (if p.n < 4 then 4 + (q.n + 4 - p.n) % 4 else (q.n + 8 - p.n) % 4))
def Kd.inv : Kd → Kd
  | k1 => k3 | k3 => k1 | k => k
theorem Kd.mul_u (p q : Kd) (a b : Int) : (p.mul q).u a b = q.u (p.u a b) (p.v a b) := by
  cases p <;> cases q <;> simp [Kd.mul, Kd.n, Kd.of, Kd.u, Kd.v]
theorem Kd.mul_v (p q : Kd) (a b : Int) : (p.mul q).v a b = q.v (p.u a b) (p.v a b) := by
  cases p <;> cases q <;> simp [Kd.mul, Kd.n, Kd.of, Kd.u, Kd.v]
theorem Kd.mul_assoc (p q r : Kd) : (p.mul q).mul r = p.mul (q.mul r) := by
  cases p <;> cases q <;> cases r <;> rfl
theorem Kd.mul_k0 (p : Kd) : p.mul .k0 = p := by cases p <;> rfl
theorem Kd.k0_mul (p : Kd) : Kd.mul .k0 p = p := by cases p <;> rfl
theorem Kd.mul_inv (p : Kd) : p.mul p.inv = .k0 := by cases p <;> rfl
theorem Kd.inv_mul (p : Kd) : p.inv.mul p = .k0 := by cases p <;> rfl
theorem Kd.u_add (p : Kd) (a b c d : Int) : p.u (a + c) (b + d) = p.u a b + p.u c d := by cases p <;> simp only [Kd.u] <;> omega
theorem Kd.v_add (p : Kd) (a b c d : Int) : p.v (a + c) (b + d) = p.v a b + p.v c d := by cases p <;> simp only [Kd.v] <;> omega
theorem Kd.u_neg (p : Kd) (a b : Int) : p.u (-a) (-b) = -p.u a b := by cases p <;> simp only [Kd.u] <;> omega
theorem Kd.v_neg (p : Kd) (a b : Int) : p.v (-a) (-b) = -p.v a b := by cases p <;> simp only [Kd.v] <;> omega
theorem Kd.i_n (p : Kd) : p.i = (p.n : Int) := by cases p <;> rfl
theorem Kd.i_nonneg (p : Kd) : 0 ≤ p.i := by cases p <;> decide
theorem Kd.i_le (p : Kd) : p.i ≤ 7 := by cases p <;> decide
theorem Kd.i_inj {p q : Kd} (h : p.i = q.i) : p = q := by revert h; cases p <;> cases q <;> decide
/-- the kind of a number from 0 to 7 -/
def Kd.ofI (z : Int) : Kd := .of z.toNat
theorem Kd.ofI_i {z : Int} (h0 : 0 ≤ z) (h7 : z < 8) : (Kd.ofI z).i = z := by
  obtain h | h | h | h | h | h | h | h : z = 0 ∨ z = 1 ∨ z = 2 ∨ z = 3 ∨ z = 4 ∨ z = 5 ∨ z = 6 ∨ z = 7 := by omega
  all_goals subst h; rfl
abbrev SQ (a b : Int) : PyData := .tuple [.int a, .int b]
abbrev SY (k : Kd) (x y : Int) : PyData := .tuple [.int k.i, .int x, .int y]
structure Sym where
  k : Kd
  x : Int
  y : Int
deriving DecidableEq
abbrev Sym.d (s : Sym) : PyData := .tuple [.int s.k.i, .int s.x, .int s.y]
def Sym.one : Sym := ⟨.k0, 0, 0⟩
/-- first s, then t -/
def Sym.mul (s t : Sym) : Sym := ⟨s.k.mul t.k, t.k.u s.x s.y + t.x, t.k.v s.x s.y + t.y⟩
def Sym.inv (s : Sym) : Sym := ⟨s.k.inv, -s.k.inv.u s.x s.y, -s.k.inv.v s.x s.y⟩
theorem Sym.ext' {s t : Sym} (hk : s.k = t.k) (hx : s.x = t.x) (hy : s.y = t.y) : s = t := by
  cases s; cases t; cases hk; cases hx; cases hy; rfl
theorem Sym.mul_assoc (s t r : Sym) : (s.mul t).mul r = s.mul (t.mul r) := by
  unfold Sym.mul
  refine Sym.ext' (Kd.mul_assoc ..) ?_ ?_
  · dsimp only; rw [Kd.mul_u, Kd.u_add, Int.add_assoc]
  · dsimp only; rw [Kd.mul_v, Kd.v_add, Int.add_assoc]
theorem Sym.mul_one (s : Sym) : s.mul .one = s := by
  unfold Sym.mul Sym.one
  exact Sym.ext' (Kd.mul_k0 _) (by simp [Kd.u]) (by simp [Kd.v])
theorem Sym.one_mul (s : Sym) : Sym.one.mul s = s := by
  unfold Sym.mul Sym.one
  refine Sym.ext' (Kd.k0_mul _) ?_ ?_
  · cases h : s.k <;> simp [Kd.u, h]
  · cases h : s.k <;> simp [Kd.v, h]
theorem Sym.mul_inv (s : Sym) : s.mul s.inv = .one := by
  unfold Sym.mul Sym.inv Sym.one
  exact Sym.ext' (Kd.mul_inv _) (by dsimp only; omega) (by dsimp only; omega)
theorem Sym.inv_mul (s : Sym) : s.inv.mul s = .one := by
  unfold Sym.mul Sym.inv Sym.one
  refine Sym.ext' (Kd.inv_mul _) ?_ ?_
  · dsimp only
    rw [Kd.u_neg, ← Kd.mul_u, Kd.inv_mul]
    simp only [Kd.u]
    omega
  · dsimp only
    rw [Kd.v_neg, ← Kd.mul_v, Kd.inv_mul]
    simp only [Kd.v]
    omega
theorem Sym.mul_left_inj {s t r : Sym} (h : r.mul s = r.mul t) : s = t := by
  have := congrArg r.inv.mul h
  rwa [← Sym.mul_assoc, ← Sym.mul_assoc, Sym.inv_mul, Sym.one_mul, Sym.one_mul] at this
theorem Sym.inv_inv (s : Sym) : s.inv.inv = s := by
  apply Sym.mul_left_inj (r := s.inv)
  rw [Sym.mul_inv, Sym.inv_mul]
theorem Sym.inv_of {s t : Sym} (h : s.mul t = .one) : t = s.inv := by
  apply Sym.mul_left_inj (r := s)
  rw [h, Sym.mul_inv]
theorem Sym.mul_inv_rev (s t : Sym) : (s.mul t).inv = t.inv.mul s.inv := by
  symm
  apply Sym.inv_of
  rw [Sym.mul_assoc, ← Sym.mul_assoc t, Sym.mul_inv, Sym.one_mul, Sym.mul_inv]
/-- the image of a square -/
def Sym.im (s : Sym) (p : Int × Int) : Int × Int := (s.k.u p.1 p.2 + s.x, s.k.v p.1 p.2 + s.y)
theorem Sym.im_mul (s t : Sym) (p : Int × Int) : (s.mul t).im p = t.im (s.im p) := by
  unfold Sym.im Sym.mul
  dsimp only
  rw [Kd.mul_u, Kd.mul_v, Kd.u_add, Kd.v_add, Int.add_assoc, Int.add_assoc]
def Sym.npow (s : Sym) : Nat → Sym
  | 0 => .one
  | n + 1 => (s.npow n).mul s
/-! ### numbers, squares, symmetries checked -/
theorem is_integer_ok {z : Int} : F_is_integer [.val (.int z)] = .ok (.val (.bool true), [.un]) := by kernel_rfl
theorem is_between_ok {z a b : Int} : F_is_between [.val (.int z), .val (.int a), .val (.int b)] = .ok (.val (.bool (decide (a ≤ z ∧ z ≤ b))), [.un, .un, .un]) := by
  rw [r_is_between]
  unfold B_is_between
  simp? [is_integer_ok]
  by_cases h : a ≤ z <;> simp [h]
theorem is_symmetry_ok {k : Kd} {x y : Int} : F_is_symmetry [.val (SY k x y)] = .ok (.val (.bool true), [.un]) := by
  rw [r_is_symmetry]
  unfold B_is_symmetry
  simp? [is_integer_ok, is_between_ok]
  simp [Kd.i_nonneg, Kd.i_le]
/-! ### the linear part, images, products -/
theorem turned_ok {k : Kd} {x y : Int} : F_turned [.val (.int k.i), .val (SQ x y)] = .ok (.val (SQ (k.u x y) (k.v x y)), [.un, .un]) := by
  cases k
  · rw [show Kd.k0.u x y = 1 * x + 0 * y by simp only [Kd.u]; omega, show Kd.k0.v x y = 0 * x + 1 * y by simp only [Kd.v]; omega]; kernel_rfl
  · rw [show Kd.k1.u x y = 0 * x + -1 * y by simp only [Kd.u]; omega, show Kd.k1.v x y = 1 * x + 0 * y by simp only [Kd.v]; omega]; kernel_rfl
  · rw [show Kd.k2.u x y = -1 * x + 0 * y by simp only [Kd.u]; omega, show Kd.k2.v x y = 0 * x + -1 * y by simp only [Kd.v]; omega]; kernel_rfl
  · rw [show Kd.k3.u x y = 0 * x + 1 * y by simp only [Kd.u]; omega, show Kd.k3.v x y = -1 * x + 0 * y by simp only [Kd.v]; omega]; kernel_rfl
  · rw [show Kd.k4.u x y = -1 * x + 0 * y by simp only [Kd.u]; omega, show Kd.k4.v x y = 0 * x + 1 * y by simp only [Kd.v]; omega]; kernel_rfl
  · rw [show Kd.k5.u x y = 0 * x + -1 * y by simp only [Kd.u]; omega, show Kd.k5.v x y = -1 * x + 0 * y by simp only [Kd.v]; omega]; kernel_rfl
  · rw [show Kd.k6.u x y = 1 * x + 0 * y by simp only [Kd.u]; omega, show Kd.k6.v x y = 0 * x + -1 * y by simp only [Kd.v]; omega]; kernel_rfl
  · rw [show Kd.k7.u x y = 0 * x + 1 * y by simp only [Kd.u]; omega, show Kd.k7.v x y = 1 * x + 0 * y by simp only [Kd.v]; omega]; kernel_rfl
def kaB (p q : Kd) : Bool := match F_kind_after [.val (.int p.i), .val (.int q.i)] with
  | .ok (.val (.int i), [.un, .un]) => i == (p.mul q).i
  | _ => false
def kd8 : List Kd := [.k0, .k1, .k2, .k3, .k4, .k5, .k6, .k7]
theorem kd8_all (p : Kd) : p ∈ kd8 := by cases p <;> decide
theorem kaB_all : (kd8.all fun p => kd8.all fun q => kaB p q) = true := by kernel_rfl
theorem kind_after_ok {p q : Kd} : F_kind_after [.val (.int p.i), .val (.int q.i)] = .ok (.val (.int (p.mul q).i), [.un, .un]) := by
  have h := List.all_eq_true.mp (List.all_eq_true.mp kaB_all p (kd8_all p)) q (kd8_all q)
  unfold kaB at h
  split at h
  · rename_i i e
    rw [e, eq_of_beq h]
  · cases h
theorem offset_ok {k : Kd} {x y : Int} : F_offset [.val (SY k x y)] = .ok (.val (SQ x y), [.un]) := by kernel_rfl
theorem added_ok {x y a b m : Int} (h1 : mulOk m a = true) (h2 : mulOk m b = true) : F_added [.val (SQ x y), .val (SQ a b), .val (.int m)] = .ok (.val (SQ (x + m * a) (y + m * b)), [.un, .un, .un]) := by
  rw [r_added]
  unfold B_added
  simp? []
theorem mulOk_1 {a : Int} : mulOk 1 a = true := by unfold mulOk; rfl
theorem added1_ok {x y a b : Int} : F_added [.val (SQ x y), .val (SQ a b), .val (.int 1)] = .ok (.val (SQ (x + a) (y + b)), [.un, .un, .un]) := by
  rw [added_ok mulOk_1 mulOk_1, Int.one_mul, Int.one_mul]
theorem image_of_ok {k : Kd} {x y a b : Int} : F_image_of [.val (SY k x y), .val (SQ a b)] = .ok (.val (SQ (k.u a b + x) (k.v a b + y)), [.un, .un]) := by
  rw [r_image_of]
  unfold B_image_of
  simp? [turned_ok, offset_ok, added1_ok]
theorem product_of_ok {k l : Kd} {x y a b : Int} : F_product_of [.val (SY k x y), .val (SY l a b)] = .ok (.val (SY (k.mul l) (l.u x y + a) (l.v x y + b)), [.un, .un]) := by
  rw [r_product_of]
  unfold B_product_of
  simp? [kind_after_ok, offset_ok, image_of_ok]
theorem rngOk_nat {n : Nat} (h : n < 1000000) : rngOk (n : Int) = true := by
  unfold rngOk
  simp only [Bool.and_eq_true, decide_eq_true_eq]
  omega
/-! ### the laws' own images and products -/
theorem law_linear_ok {k : Kd} {x y : Int} : F__law_linear [.val (.int k.i), .val (SQ x y)] = .ok (.val (SQ (k.u x y) (k.v x y)), [.un, .un]) := by
  cases k
  · rw [show Kd.k0.u x y = x from rfl, show Kd.k0.v x y = y from rfl]; kernel_rfl
  · rw [show Kd.k1.u x y = 0 - y by simp only [Kd.u]; omega, show Kd.k1.v x y = x from rfl]; kernel_rfl
  · rw [show Kd.k2.u x y = 0 - x by simp only [Kd.u]; omega, show Kd.k2.v x y = 0 - y by simp only [Kd.v]; omega]; kernel_rfl
  · rw [show Kd.k3.u x y = 0 - (0 - y) by simp only [Kd.u]; omega, show Kd.k3.v x y = 0 - x by simp only [Kd.v]; omega]; kernel_rfl
  · rw [show Kd.k4.u x y = 0 - x by simp only [Kd.u]; omega, show Kd.k4.v x y = y from rfl]; kernel_rfl
  · rw [show Kd.k5.u x y = 0 - y by simp only [Kd.u]; omega, show Kd.k5.v x y = 0 - x by simp only [Kd.v]; omega]; kernel_rfl
  · rw [show Kd.k6.u x y = 0 - (0 - x) by simp only [Kd.u]; omega, show Kd.k6.v x y = 0 - y by simp only [Kd.v]; omega]; kernel_rfl
  · rw [show Kd.k7.u x y = 0 - (0 - y) by simp only [Kd.u]; omega, show Kd.k7.v x y = 0 - (0 - x) by simp only [Kd.v]; omega]; kernel_rfl
theorem law_image_ok {k : Kd} {x y a b : Int} : F__law_image [.val (SY k x y), .val (SQ a b)] = .ok (.val (SQ (k.u a b + x) (k.v a b + y)), [.un, .un]) := by
  rw [r__law_image]
  unfold B__law_image
  simp? [law_linear_ok]
theorem law_image_2_ok {k : Kd} {x y a b : Int} : F__law_image_2 [.val (SY k x y), .val (SQ a b)] = .ok (.val (SQ (k.u a b + x) (k.v a b + y)), [.un, .un]) := law_image_ok
/-! ### drawing -/
structure Src where
  a : Int
  b : Int
  c : Int
  h0 : 0 ≤ b
  h1 : b ≤ 2147483647
abbrev Src.d (s : Src) : PyData := .list [.int s.a, .int s.b, .int s.c]
def m1 (b c : Int) : Int := (b * 48271 + 1009 * (c + 1) + 7).fmod 2147483647
def m2 (b : Int) : Int := (b * b + 69621 * b + 11).fmod 2147483629
def m3 (x : Int) : Int := (x * x + 40014 * x).fmod 2147483587
theorem m1_nn (b c : Int) : 0 ≤ m1 b c := Int.fmod_nonneg_of_pos _ (by decide)
theorem m1_lt (b c : Int) : m1 b c < 2147483647 := Int.fmod_lt_of_pos _ (by decide)
theorem m2_nn (b : Int) : 0 ≤ m2 b := Int.fmod_nonneg_of_pos _ (by decide)
theorem m2_lt (b : Int) : m2 b < 2147483629 := Int.fmod_lt_of_pos _ (by decide)
/-- the next number below m -/
def Src.v (s : Src) (m : Int) : Int := if 0 < s.a then s.a.fmod m else ((m3 (m2 (m1 s.b s.c))).fdiv 16).fmod m
def Src.nx (s : Src) (m : Int) : Src := if 0 < s.a then ⟨s.a.fdiv m, s.b, s.c, s.h0, s.h1⟩ else ⟨s.a, m1 s.b s.c, s.c + 1, m1_nn _ _, by have := m1_lt s.b s.c; omega⟩
theorem Src.v_nn (s : Src) {m : Int} (h : 0 < m) : 0 ≤ s.v m := by
  unfold Src.v
  split <;> exact Int.fmod_nonneg_of_pos _ h
theorem Src.v_lt (s : Src) {m : Int} (h : 0 < m) : s.v m < m := by
  unfold Src.v
  split <;> exact Int.fmod_lt_of_pos _ h
theorem setD_0 {x a b c : Int} : setD (.list [.int a, .int b, .int c]) (.int 0) (.int x) = some (.list [.int x, .int b, .int c]) := by rfl
theorem setD_1 {x a b c : Int} : setD (.list [.int a, .int b, .int c]) (.int 1) (.int x) = some (.list [.int a, .int x, .int c]) := by rfl
theorem setD_2 {x a b c : Int} : setD (.list [.int a, .int b, .int c]) (.int 2) (.int x) = some (.list [.int a, .int b, .int x]) := by rfl
theorem smallI_of {i : Int} (h0 : 0 ≤ i) (h : i < 18446744073709551616) : smallI i = true := by
  unfold smallI
  simp only [Bool.and_eq_true, decide_eq_true_eq]
  omega
theorem draw_ok (s : Src) {m : Int} (h0 : 0 < m) (h1 : divOk m = true) : F__law_draw [.prm s.d, .val (.int m)] = .ok (.val (.int (s.v m)), [.prm (s.nx m).d, .un]) := by
  have hm : m ≠ 0 := by omega
  rw [r__law_draw]
  unfold B__law_draw Src.v Src.nx
  by_cases ha : 0 < s.a
  · simp? [ha, if_pos, setD_0]
  · have e1 := m1_nn s.b s.c
    have e2 := m1_lt s.b s.c
    have q1 : mulOk (m1 s.b s.c) (m1 s.b s.c) = true := G.mulOk_l (smallI_of e1 (by omega))
    have e3 := m2_nn (m1 s.b s.c)
    have e4 := m2_lt (m1 s.b s.c)
    have q2 : mulOk (m2 (m1 s.b s.c)) (m2 (m1 s.b s.c)) = true := G.mulOk_l (smallI_of e3 (by omega))
    have r1 : (s.b * 48271 + 1009 * (s.c + 1) + 7).fmod 2147483647 = m1 s.b s.c := rfl
    have r2 : (m1 s.b s.c * m1 s.b s.c + 69621 * m1 s.b s.c + 11).fmod 2147483629 = m2 (m1 s.b s.c) := rfl
    have r3 : (m2 (m1 s.b s.c) * m2 (m1 s.b s.c) + 40014 * m2 (m1 s.b s.c)).fmod 2147483587 = m3 (m2 (m1 s.b s.c)) := rfl
    simp? [ha, if_neg, setD_1, setD_2, r1, r2, r3]
theorem source_ok {z : Int} : ∃ s : Src, F__law_source [.val (.int z)] = .ok (.fr s.d, [.un]) := by
  have hz : 0 ≤ z.fmod 2147483629 ∧ z.fmod 2147483629 < 2147483629 := ⟨Int.fmod_nonneg_of_pos _ (by decide), Int.fmod_lt_of_pos _ (by decide)⟩
  refine ⟨⟨if z - 1000000000000000000 > 0 then z - 1000000000000000000 else 0, z.fmod 2147483629 + 1, 0, by omega, by omega⟩, ?_⟩
  rw [r__law_source]
  unfold B__law_source
  simp? []
theorem cell_ok (ns : List Int) (k : Nat) : ∃ z : Int, F__law_cell [.val (.list (ns.map PyData.int)), .val (.int k)] = .ok (.val (.int z), [.un, .un]) := by
  rw [r__law_cell]
  unfold B__law_cell
  by_cases h : k < ns.length
  · have h2 : atI (ns.map PyData.int) (k : Int) = some (.int ns[k]) := atI_nat (by rw [List.getElem?_map, List.getElem?_eq_getElem h]; rfl)
    have h3 : (k : Int) < (ns.length : Int) := by omega
    exact ⟨ns[k], by simp? [h2, h3, if_pos]⟩
  · have h3 : ¬ (k : Int) < (ns.length : Int) := by omega
    exact ⟨0, by simp? [h3, if_neg]⟩
def Src.sq (s : Src) (far : Int) : Int × Int := (s.v (2 * far + 1) - far, (s.nx (2 * far + 1)).v (2 * far + 1) - far)
def Src.nx2 (s : Src) (far : Int) : Src := (s.nx (2 * far + 1)).nx (2 * far + 1)
theorem divOk_of {j : Int} (h0 : 0 < j) (h : j < 1073741824) : divOk j = true := by
  unfold divOk
  simp only [Bool.and_eq_true, Bool.or_eq_true, decide_eq_true_eq]
  exact ⟨by omega, .inl (by omega)⟩
theorem square_ok (s : Src) {far : Int} (h0 : 0 ≤ far) (h1 : far < 1000000) : F__law_square [.prm s.d, .val (.int far)] = .ok (.val (SQ (s.sq far).1 (s.sq far).2), [.prm (s.nx2 far).d, .un]) := by
  have e1 := draw_ok s (m := 2 * far + 1) (by omega) (divOk_of (by omega) (by omega))
  have e2 := draw_ok (s.nx (2 * far + 1)) (m := 2 * far + 1) (by omega) (divOk_of (by omega) (by omega))
  rw [r__law_square]
  unfold B__law_square Src.sq Src.nx2
  simp? [e1, e2]
theorem Src.sq_abs (s : Src) {far : Int} (h0 : 0 ≤ far) : (s.sq far).1.natAbs ≤ far.natAbs ∧ (s.sq far).2.natAbs ≤ far.natAbs := by
  have a1 := s.v_nn (show 0 < 2 * far + 1 by omega)
  have a2 := s.v_lt (show 0 < 2 * far + 1 by omega)
  have a3 := (s.nx (2 * far + 1)).v_nn (show 0 < 2 * far + 1 by omega)
  have a4 := (s.nx (2 * far + 1)).v_lt (show 0 < 2 * far + 1 by omega)
  unfold Src.sq
  dsimp only
  omega
def Src.sym (s : Src) (far : Int) : Sym := ⟨Kd.ofI (s.v 8), ((s.nx 8).sq far).1, ((s.nx 8).sq far).2⟩
def Src.nxs (s : Src) (far : Int) : Src := (s.nx 8).nx2 far
theorem symmetry_ok (s : Src) {far : Int} (h0 : 0 ≤ far) (h1 : far < 1000000) : F__law_symmetry [.prm s.d, .val (.int far)] = .ok (.val (s.sym far).d, [.prm (s.nxs far).d, .un]) := by
  have e1 := draw_ok s (m := 8) (by omega) (by decide)
  have e2 := square_ok (s.nx 8) h0 h1
  rw [← Kd.ofI_i (s.v_nn (by decide)) (s.v_lt (by decide))] at e1
  rw [r__law_symmetry]
  unfold B__law_symmetry Src.sym Src.nxs
  simp? [e1, e2]
theorem Src.sym_abs (s : Src) {far : Int} (h0 : 0 ≤ far) : (s.sym far).x.natAbs ≤ far.natAbs ∧ (s.sym far).y.natAbs ≤ far.natAbs := (s.nx 8).sq_abs h0
/-! ### repr -/
theorem is_equal_ok {d : PyData} (h : reprOk d = true) : F__law_is_equal [.val d, .val d] = .ok (.val (.bool true), [.un, .un]) := by
  rw [r__law_is_equal]
  unfold B__law_is_equal
  simp? []
end M
namespace M
open PySem PySem.Spec PyProof.Rows L2 G
/-! ### the frame of a law -/
def outerI (most : Int) : SI := rng1I (aCons (opN max2D (aCons (fC (.int 1)) (aCons (opN min2D (aCons (opN lenD (aCons (fV 0) aNil)) (aCons (fC (.int most)) aNil))) aNil))) aNil)
theorem outerI_ok {ns : List Int} {bs : List B} (most : Nat) (h1 : 1 ≤ most) (h2 : most ≤ 100) : ∃ m : Nat, m ≤ most ∧ outerI most (.val (.list (ns.map PyData.int)) :: bs) = .ok ((List.range m).map fun i : Nat => PyData.int (0 + i), .val (.list (ns.map PyData.int)) :: bs) := by
  have key : ∃ m : Nat, m ≤ most ∧ (if (if (most : Int) < (ns.length : Int) then (most : Int) else (ns.length : Int)) > 1 then (if (most : Int) < (ns.length : Int) then (most : Int) else (ns.length : Int)) else 1) = (m : Int) := by
    by_cases h : (most : Int) < (ns.length : Int)
    · by_cases h2 : (most : Int) > 1
      · exact ⟨most, Nat.le_refl _, by rw [if_pos h, if_pos h2]⟩
      · exact ⟨1, h1, by rw [if_pos h, if_neg h2]; rfl⟩
    · by_cases h2 : (ns.length : Int) > 1
      · exact ⟨ns.length, by omega, by rw [if_neg h, if_pos h2]⟩
      · exact ⟨1, h1, by rw [if_neg h, if_neg h2]; rfl⟩
  obtain ⟨m, hm, em⟩ := key
  refine ⟨m, hm, ?_⟩
  have hr : rngOk (m : Int) = true := rngOk_nat (by omega)
  unfold outerI
  simp? [em, Int.toNat_natCast]
/-- a law whose turns of the outer loop go on -/
theorem law_outer {b : SS} {ns : List Int} {n : Nat} (most : Nat) (h1 : 1 ≤ most) (h2 : most ≤ 100)
    (st : ∀ (i : Nat) (bs : List B), i < most → bs.length = n → ∃ bs', bs'.length = n ∧ turn (nmG 1) b (.int (0 + i)) (.val (.list (ns.map PyData.int)) :: bs) = .ok (.nx (.val (.list (ns.map PyData.int)) :: bs'))) (bs : List B) (hb : bs.length = n) :
    ∃ bs', bs'.length = n ∧ forS (outerI most) (nmG 1) b (.val (.list (ns.map PyData.int)) :: bs) = .ok (.nx (.val (.list (ns.map PyData.int)) :: bs')) := by
  obtain ⟨m, hm, e⟩ := outerI_ok (ns := ns) (bs := bs) most h1 h2
  obtain ⟨ρ', e', bs', hb', rfl⟩ := fo_inv (enc := fun i : Nat => PyData.int (0 + i)) (t := nmG 1) (b := b) (fun ρ => ∃ bs : List B, bs.length = n ∧ ρ = .val (.list (ns.map PyData.int)) :: bs) (xs := List.range m) ⟨bs, hb, rfl⟩ (by
    rintro i hi ρ ⟨bs, hb, rfl⟩
    obtain ⟨bs', hb', e⟩ := st i bs (by have := List.mem_range.mp hi; omega) hb
    exact ⟨_, e, bs', hb', rfl⟩)
  exact ⟨bs', hb', by rw [r_for, e, rb_ok, k_for, e']⟩
def drawS : SS := asgS 2 (callF [false] F__law_source [] (aCons (callF [false, false] F__law_cell [] (aCons (fV 0) (aCons (fV 1) aNil))) aNil))
theorem drawS_ok {ns : List Int} {i : Nat} {b2 : B} {bs : List B} : ∃ s : Src, drawS (.val (.list (ns.map PyData.int)) :: .val (.int i) :: b2 :: bs) = .ok (.nx (.val (.list (ns.map PyData.int)) :: .val (.int i) :: .own s.d :: bs)) := by
  obtain ⟨z, ez⟩ := cell_ok ns i
  obtain ⟨s, es⟩ := source_ok (z := z)
  exact ⟨s, by unfold drawS; simp? [ez, es]⟩
/-- the end of such a law -/
theorem law_end {b : SS} {sc : PyData} {bs : List B} {n : Nat} (h : ∃ bs', bs'.length = n ∧ b (.val sc :: bs) = .ok (.nx (.val sc :: bs'))) : ∃ ρ, Rs.bind (seqS b (retS (fC (.bool true))) (.val sc :: bs)) (retF 1) = .ok (.val (.bool true), ρ) := by
  obtain ⟨bs', _, e⟩ := h
  exact ⟨[.un], by simp? [e]⟩
/-! ### repr -/
theorem rep_cons {x : PyData} {xs : List PyData} : PyData.showableAll (x :: xs) = (PyData.showable x && PyData.showableAll xs) := rfl
theorem rep_int {i : Int} (h : i.natAbs < 2 ^ 64) : PyData.showable (.int i) = true := by
  have l1 : ∀ n : Nat, n < 2 ^ 64 → n.log2 < 64 := fun n h => by
    by_cases h0 : n = 0
    · subst h0; decide
    · exact (Nat.log2_lt h0).mpr h
  have := l1 _ h
  unfold PyData.showable
  exact decide_eq_true (by omega)
theorem rep_kd {k : Kd} : PyData.showable (.int k.i) = true := by cases k <;> rfl
end M
namespace M
open PySem PySem.Spec PyProof.Rows L2 G
/-! ### lists drawn by turns -/
theorem lc_ind {α : Type} {enc : α → PyData} {t : SG} {c : SB} {fe : SE} {vs : List Nat} (I : List B → Prop) (P : PyData → Prop) : ∀ {xs : List α} {n : Nat} {ρ : List B}, I ρ → (∀ x ∈ xs, ∀ ρ, I ρ → ∃ y ρ', P y ∧ I ρ' ∧ lcL t c fe vs 0 [enc x] ρ = some ([y], ρ')) → n + xs.length ≤ sizeLine → ∃ ys ρ', ys.length = xs.length ∧ (∀ y ∈ ys, P y) ∧ I ρ' ∧ lcL t c fe vs n (xs.map enc) ρ = some (ys, ρ')
  | [], n, ρ, h, _, _ => ⟨[], ρ, rfl, (fun y hy => by cases hy), h, by rw [List.map_nil, l_nil]⟩
  | x :: xs, n, ρ, h, st, hn => by
    simp only [List.length_cons] at hn
    obtain ⟨y, ρ1, hy, h1, e1⟩ := st x (List.mem_cons_self ..) ρ h
    obtain ⟨ys, ρ2, hl, hP, h2, e2⟩ := lc_ind I P (n := n + 1) h1 (fun z hz => st z (List.mem_cons_of_mem _ hz)) (by omega)
    refine ⟨y :: ys, ρ2, by simp [hl], fun z hz => ?_, h2, ?_⟩
    · rcases List.mem_cons.mp hz with rfl | hz
      · exact hy
      · exact hP z hz
    · rw [List.map_cons, (lcL_cons1 e1).2 n _ (by omega)]
      show (lcL t c fe vs (n + 1) _ _).map _ = _
      rw [e2]
      rfl
theorem exists_map {α : Type} {enc : α → PyData} {Q : α → Prop} : ∀ {ys : List PyData}, (∀ y ∈ ys, ∃ a, Q a ∧ y = enc a) → ∃ as : List α, ys = as.map enc ∧ as.length = ys.length ∧ ∀ a ∈ as, Q a
  | [], _ => ⟨[], rfl, rfl, fun a h => by cases h⟩
  | y :: ys, h => by
    obtain ⟨a, qa, rfl⟩ := h y (List.mem_cons_self ..)
    obtain ⟨as, rfl, hl, hq⟩ := exists_map (ys := ys) fun z hz => h z (List.mem_cons_of_mem _ hz)
    refine ⟨a :: as, rfl, by simp, fun b hb => ?_⟩
    rcases List.mem_cons.mp hb with rfl | hb
    · exact qa
    · exact hq b hb
theorem choose_ok (s : Src) {ds : List PyData} (h : ds ≠ []) (hl : ds.length < 1000000) : ∃ d ∈ ds, F__law_choose [.prm s.d, .val (.list ds)] = .ok (.val d, [.prm (s.nx ds.length).d, .un]) := by
  have hp : 0 < ds.length := List.length_pos_iff.mpr h
  have e := draw_ok s (m := ds.length) (by omega) (divOk_of (by omega) (by omega))
  have a := s.v_nn (m := ds.length) (by omega)
  have b := s.v_lt (m := ds.length) (by omega)
  have hi : (s.v ds.length).toNat < ds.length := by omega
  have ha : atI ds (s.v ds.length) = some (ds[(s.v ds.length).toNat]) := by
    have := atI_nat (xs := ds) (j := (s.v ds.length).toNat) (v := ds[(s.v ds.length).toNat]) (List.getElem?_eq_getElem hi)
    rwa [show (((s.v ds.length).toNat : Nat) : Int) = s.v ds.length by omega] at this
  refine ⟨ds[(s.v ds.length).toNat], List.getElem_mem hi, ?_⟩
  rw [r__law_choose]
  unfold B__law_choose
  simp? [e, ha]
/-! ### generators drawn -/
def Sym.Far (far : Int) (s : Sym) : Prop := s.x.natAbs ≤ far.natAbs ∧ s.y.natAbs ≤ far.natAbs
def Sym.Wide (far : Int) (s : Sym) : Prop := (-far - 4 ≤ s.x ∧ s.x ≤ far) ∧ (-far - 4 ≤ s.y ∧ s.y ≤ far)
theorem clampI (far z : Int) (h0 : 0 ≤ far) : -far ≤ (if (if z < far then z else far) > 0 - far then (if z < far then z else far) else 0 - far) ∧ (if (if z < far then z else far) > 0 - far then (if z < far then z else far) else 0 - far) ≤ far := by
  by_cases h : z < far
  · rw [if_pos h]
    by_cases h2 : z > 0 - far
    · rw [if_pos h2]; omega
    · rw [if_neg h2]; omega
  · rw [if_neg h]
    by_cases h2 : far > 0 - far
    · rw [if_pos h2]; omega
    · rw [if_neg h2]; omega
theorem floorI {z t : Int} {far : Int} (h1 : -far ≤ z) (h2 : z ≤ far) (ht : 0 < t) (ht4 : t ≤ 4) : -far - 4 ≤ z.fdiv t * t ∧ z.fdiv t * t ≤ far := by
  have a := Int.mul_fdiv_add_fmod z t
  have b := Int.fmod_nonneg_of_pos z ht
  have c := Int.fmod_lt_of_pos z ht
  rw [Int.mul_comm] at a
  omega
def GI (most far way k a b t : Int) (n : Nat) (ρ : List B) : Prop := ∃ (s : Src) (gens : List Sym) (c8 c9 c10 c11 : B), gens.length = n ∧ (∀ g ∈ gens, g.Wide far) ∧ ρ = [.prm s.d, .val (.int most), .val (.int far), .val (.int way), .own (.list (gens.map Sym.d)), .val (.int k), .val (SQ a b), .val (.int t), c8, c9, c10, c11, .un]
theorem mem_snoc {gens : List Sym} {g : Sym} {P : Sym → Prop} (h : ∀ z ∈ gens, P z) (hg : P g) : ∀ z ∈ gens ++ [g], P z := by
  intro z hz
  rcases List.mem_append.mp hz with hz | hz
  · exact h z hz
  · rcases List.mem_singleton.mp hz with rfl
    exact hg
theorem len_map {gens : List Sym} (h : gens.length ≤ 1000) : (gens.map Sym.d).length < sizeLine := lt_line (by rw [List.length_map]; omega)
theorem smallI_ab {i : Int} (h : i.natAbs < 1000000) : smallI i = true := by
  unfold smallI
  simp only [Bool.and_eq_true, decide_eq_true_eq]
  omega
set_option maxHeartbeats 1000000 in
theorem gen_turn {most far way a b t : Int} {k : Kd} (h0 : 0 ≤ far) (h1 : far < 1000000) (ht : 0 < t) (ht4 : t ≤ 4) {n : Nat} (hn : n ≤ 100) {ρ : List B} (h : GI most far way k.i a b t n ρ) (i : Int) : ∃ ρ', turn (nmG 8) L1__law_generators (.int i) ρ = .ok (.nx ρ') ∧ GI most far way k.i a b t (n + 1) ρ' := by
  obtain ⟨s, gens, c8, c9, c10, c11, hl, hg, rfl⟩ := h
  have es := symmetry_ok s h0 h1
  have ab := s.sym_abs h0
  generalize s.sym far = g at es ab
  generalize s.nxs far = s1 at es
  have lm := len_map (gens := gens) (by omega)
  have k1 := cu_1n (a := PyData.int g.k.i) (l' := [PyData.int g.x, PyData.int g.y])
  have k2 := cu_n1 (a := PyData.int g.k.i) (l' := [PyData.int g.x, PyData.int g.y])
  have tOk : mulOk (g.x.fdiv t) t = true := G.mulOk_r (smallI_ab (by omega))
  have tOk2 : mulOk (g.y.fdiv t) t = true := G.mulOk_r (smallI_ab (by omega))
  have dOk : divOk t = true := divOk_of ht (by omega)
  have e5 := draw_ok s1 (m := 5) (by decide) (by decide)
  have a5 := s1.v_nn (show (0 : Int) < 5 by decide)
  have b5 := s1.v_lt (show (0 : Int) < 5 by decide)
  generalize s1.v 5 = v5 at e5 a5 b5
  have mOk1 : mulOk (v5 - 2) a = true := G.mulOk_l (smallI_ab (by omega))
  have mOk2 : mulOk (v5 - 2) b = true := G.mulOk_l (smallI_ab (by omega))
  by_cases w0 : way = 0
  · subst w0
    refine ⟨_, ?_, s1.nx 5, gens ++ [⟨.k0, (if (if (v5 - 2) * a < far then (v5 - 2) * a else far) > 0 - far then (if (v5 - 2) * a < far then (v5 - 2) * a else far) else 0 - far), (if (if (v5 - 2) * b < far then (v5 - 2) * b else far) > 0 - far then (if (v5 - 2) * b < far then (v5 - 2) * b else far) else 0 - far)⟩], .val (.int i), .val (.int (v5 - 2)), .val (.int ((v5 - 2) * a)), .val (.int ((v5 - 2) * b)), by simp [hl], mem_snoc hg ?_, rfl⟩
    · unfold L1__law_generators
      simp? [es, set_last, ix_last, k1, k2, e5]
      rw [List.map_append]
      rfl
    · have c1 := clampI far ((v5 - 2) * a) h0
      have c2 := clampI far ((v5 - 2) * b) h0
      unfold Sym.Wide
      dsimp only
      omega
  by_cases w1 : way = 1
  · subst w1
    refine ⟨_, ?_, s1, gens ++ [⟨k, g.x, g.y⟩], .val (.int i), c9, c10, c11, by simp [hl], mem_snoc hg ?_, rfl⟩
    · unfold L1__law_generators
      simp? [es, set_last, ix_last, k1, k2]
      rw [List.map_append]
      rfl
    · unfold Sym.Wide
      dsimp only
      omega
  by_cases w2 : way = 2
  · subst w2
    refine ⟨_, ?_, s1, gens ++ [⟨g.k, 0, 0⟩], .val (.int i), c9, c10, c11, by simp [hl], mem_snoc hg ?_, rfl⟩
    · unfold L1__law_generators
      simp? [es, set_last, ix_last, k1, k2]
      rw [List.map_append]
      rfl
    · unfold Sym.Wide
      dsimp only
      omega
  by_cases w3 : way = 3
  · subst w3
    refine ⟨_, ?_, s1, gens ++ [⟨g.k, g.x.fdiv t * t, g.y.fdiv t * t⟩], .val (.int i), c9, c10, c11, by simp [hl], mem_snoc hg ?_, rfl⟩
    · unfold L1__law_generators
      simp? [es, set_last, ix_last, k1, k2]
      rw [List.map_append]
      rfl
    · have c1 := floorI (z := g.x) (t := t) (far := far) (by omega) (by omega) ht ht4
      have c2 := floorI (z := g.y) (t := t) (far := far) (by omega) (by omega) ht ht4
      unfold Sym.Wide
      dsimp only
      omega
  · refine ⟨_, ?_, s1, gens ++ [g], .val (.int i), c9, c10, c11, by simp [hl], mem_snoc hg ?_, rfl⟩
    · unfold L1__law_generators
      simp? [es, set_last, ix_last, k1, k2, w0, w1, w2, w3]
      rw [List.map_append]
      rfl
    · unfold Sym.Wide
      omega
theorem shN_sym {n : Nat} (s : Sym) : shN (n + 1) s.d = true := by
  simp only [shN_tup, shA_cons, shA_nil, shN_int, Bool.and_self]
theorem shA_syms {n : Nat} (gs : List Sym) : shA (n + 1) (gs.map Sym.d) = true := shA_map fun z => shN_sym z
theorem ofI_d {z : Int} (h0 : 0 ≤ z) (h : z < 8) : PyData.int z = PyData.int (Kd.ofI z).i := by rw [Kd.ofI_i h0 h]
def clo (far : Int) (s : Sym) : Sym := ⟨s.k, if s.x > 0 - far then s.x else 0 - far, if s.y > 0 - far then s.y else 0 - far⟩
theorem clo_far {far : Int} {s : Sym} (h0 : 0 ≤ far) (h : s.Wide far) : (clo far s).Far far := by
  obtain ⟨⟨a, b⟩, c, d⟩ := h
  unfold clo Sym.Far
  dsimp only
  constructor <;> split <;> omega
set_option maxHeartbeats 1000000 in
theorem generators_ok (s : Src) {most far : Int} (m0 : 0 ≤ most) (m1 : most ≤ 50) (h0 : 0 ≤ far) (h1 : far < 1000000) : ∃ (gens : List Sym) (s' : Src), (gens.length : Int) ≤ most ∧ (∀ g ∈ gens, g.Far far) ∧ F__law_generators [.prm s.d, .val (.int most), .val (.int far)] = .ok (.val (.tuple (gens.map Sym.d)), [.prm s'.d, .un, .un]) := by
  have d7 := draw_ok s (m := 7) (by decide) (by decide)
  have d8 := draw_ok (s.nx 7) (m := 8) (by decide) (by decide)
  rw [ofI_d ((s.nx 7).v_nn (by decide)) ((s.nx 7).v_lt (by decide))] at d8
  generalize s.v 7 = way at d7
  generalize s.nx 7 = s1 at d7 d8
  generalize Kd.ofI (s1.v 8) = k at d8
  generalize s1.nx 8 = s2 at d8
  have sq := square_ok s2 h0 h1
  generalize (s2.sq far).1 = a at sq
  generalize (s2.sq far).2 = b at sq
  generalize s2.nx2 far = s3 at sq
  have d4 := draw_ok s3 (m := 4) (by decide) (by decide)
  have v4 := s3.v_nn (show (0 : Int) < 4 by decide)
  have w4 := s3.v_lt (show (0 : Int) < 4 by decide)
  generalize s3.v 4 = t4 at d4 v4 w4
  generalize s3.nx 4 = s4 at d4
  have dm := draw_ok s4 (m := most + 1) (by omega) (divOk_of (by omega) (by omega))
  have vm := s4.v_nn (show (0 : Int) < most + 1 by omega)
  have wm := s4.v_lt (show (0 : Int) < most + 1 by omega)
  generalize s4.v (most + 1) = cnt at dm vm wm
  generalize s4.nx (most + 1) = s5 at dm
  obtain ⟨ρ', el, s6, gens, c8, c9, c10, c11, hl, hg, rfl⟩ := fo_range (enc := fun i : Nat => PyData.int (0 + i)) (t := nmG 8) (b := L1__law_generators) (GI most far way k.i a b (1 + t4)) (m := cnt.toNat) (ρ := [.prm s5.d, .val (.int most), .val (.int far), .val (.int way), .own (.list []), .val (.int k.i), .val (SQ a b), .val (.int (1 + t4)), .un, .un, .un, .un, .un]) ⟨s5, [], _, _, _, _, rfl, (fun g hg => by cases hg), rfl⟩ (fun i hi ρ h => gen_turn h0 h1 (by omega) (by omega) (by omega) h _)
  have hr : rngOk cnt = true := by
    rw [show cnt = (cnt.toNat : Int) by omega]
    exact rngOk_nat (by omega)
  have hm : most + 1 - 1 = most := by omega
  have lc : lcL (tupG 3 (consG (nmG 5) (consG (nmG 10) (consG (nmG 11) nilG)))) yesB (tupE (aCons (fV 5) (aCons (opN max2D (aCons (op2 subD (fC (.int 0)) (fV 2)) (aCons (fV 10) aNil))) (aCons (opN max2D (aCons (op2 subD (fC (.int 0)) (fV 2)) (aCons (fV 11) aNil))) aNil)))) [5, 10, 11] 0 (gens.map Sym.d) [.prm s6.d, .val (.int most), .val (.int far), .val (.int way), .val (.list (gens.map Sym.d)), .un, .val (SQ a b), .val (.int (1 + t4)), c8, c9, .un, .un, .un] =
      some (gens.map fun g => (clo far g).d, [.prm s6.d, .val (.int most), .val (.int far), .val (.int way), .val (.list (gens.map Sym.d)), .un, .val (SQ a b), .val (.int (1 + t4)), c8, c9, .un, .un, .un]) :=
    lc_map (fun g => (clo far g).d) (fun g hg => by simp? []; rfl) (Nat.le_of_lt (lt_line (by omega)))
  have hgs : ∀ z ∈ gens.map (clo far), z.Far far := fun z hz => by
    obtain ⟨g, hg', rfl⟩ := List.mem_map.mp hz
    exact clo_far h0 (hg g hg')
  have hgl : (gens.map (clo far)).length ≤ 50 := by rw [List.length_map]; omega
  rw [show (gens.map fun g => (clo far g).d) = (gens.map (clo far)).map Sym.d by rw [List.map_map]; rfl] at lc
  generalize hgm : gens.map (clo far) = gs at lc hgs hgl
  have hcl : ((gs.length : Nat) : Int) ≤ most := by rw [← hgm, List.length_map]; omega
  clear hgm
  rw [r__law_generators]
  unfold B__law_generators
  simp? [d7, d8, sq, d4, dm, el, lc]
  cases gs with
  | nil =>
    refine ⟨[], s6, by simpa using m0, (fun g hg => by cases hg), ?_⟩
    simp? []
  | cons g0 rest =>
    have hsh : shN 64 (.list ((g0 :: rest).map Sym.d)) = true := shN_lst.trans (shA_syms _)
    have hsh2 : shN 64 (.list []) = true := by decide
    rw [List.map_cons] at hsh ⊢
    by_cases hw : way = 4
    · subst hw
      have pick : ∀ (b4 : B) (s : Src), (b4 = .own (.list (g0.d :: rest.map Sym.d)) ∨ b4 = .val (.list (g0.d :: rest.map Sym.d))) → ∃ g ∈ (g0 :: rest), ∃ s' : Src, ∀ (dd : PyData) (c5 c6 c7 c8 c9 c10 c11 : B), lcL (nmG 12) yesB (callF [true, false] F__law_choose [] (aCons (fV 0) (aCons (fV 4) aNil))) [12] 0 [dd] [.prm s.d, .val (.int most), .val (.int far), .val (.int 4), b4, c5, c6, c7, c8, c9, c10, c11, .un] = some ([g.d], [.prm s'.d, .val (.int most), .val (.int far), .val (.int 4), .val (.list (g0.d :: rest.map Sym.d)), c5, c6, c7, c8, c9, c10, c11, .un]) := by
        intro b4 s hb
        obtain ⟨d, hd, e⟩ := choose_ok s (ds := (g0 :: rest).map Sym.d) (by simp) (by rw [List.length_map]; omega)
        obtain ⟨g, hgm, rfl⟩ := List.mem_map.mp hd
        rw [List.map_cons] at e
        generalize s.nx _ = s' at e
        refine ⟨g, hgm, s', fun dd c5 c6 c7 c8 c9 c10 c11 => ?_⟩
        rcases hb with rfl | rfl
        · simp? [e]
        · simp? [e]
      obtain ⟨ys, ρ2, yl, yP, ⟨b4, s7, hb4, rfl⟩, ye⟩ := lc_ind (enc := Sym.d) (t := nmG 12) (c := yesB) (fe := callF [true, false] F__law_choose [] (aCons (fV 0) (aCons (fV 4) aNil))) (vs := [12]) (fun ρ => ∃ (b4 : B) (s : Src), (b4 = .own (.list (g0.d :: rest.map Sym.d)) ∨ b4 = .val (.list (g0.d :: rest.map Sym.d))) ∧ ρ = [.prm s.d, .val (.int most), .val (.int far), .val (.int 4), b4, .un, .val (SQ a b), .val (.int (1 + t4)), c8, c9, .un, .un, .un]) (fun y => ∃ g, g ∈ (g0 :: rest) ∧ y = Sym.d g) (xs := rest) (n := 0) (ρ := [.prm s6.d, .val (.int most), .val (.int far), .val (.int 4), .own (.list (g0.d :: rest.map Sym.d)), .un, .val (SQ a b), .val (.int (1 + t4)), c8, c9, .un, .un, .un]) ⟨_, s6, .inl rfl, rfl⟩ (by
        rintro x hx ρ ⟨b4, s, hb, rfl⟩
        obtain ⟨g, hg, s', e⟩ := pick b4 s hb
        exact ⟨g.d, _, ⟨g, hg, rfl⟩, ⟨_, s', .inr rfl, rfl⟩, e _ _ _ _ _ _ _ _⟩) (Nat.le_of_lt (lt_line (by simp only [List.length_cons] at hgl; omega)))
      obtain ⟨gs, rfl, gl, hgP⟩ := exists_map yP
      refine ⟨g0 :: gs, s7, ?_, ?_, ?_⟩
      · simp only [List.length_cons] at hcl ⊢
        rw [List.length_map] at gl yl
        omega
      · intro z hz
        rcases List.mem_cons.mp hz with rfl | hz
        · exact hgs _ (List.mem_cons_self ..)
        · exact hgs _ (hgP z hz)
      · have hl2 : [g0.d].length + (gs.map Sym.d).length ≤ sizeLine := Nat.le_of_lt (lt_line (by
          simp only [List.length_cons, List.length_nil] at hgl ⊢
          omega))
        rcases hb4 with rfl | rfl
        · simp? [ye, d_addL hl2]
        · simp? [ye, d_addL hl2]
    · refine ⟨g0 :: rest, s6, hcl, hgs, ?_⟩
      simp? [hw, List.map_cons]
/-! ### generators checked, carried -/
theorem is_generators_ok {gens : List Sym} (hl : gens.length ≤ 6) : F_is_generators [.val (.tuple (gens.map Sym.d))] = .ok (.val (.bool true), [.un]) := by
  have lc : ∀ b0 : B, lcL (nmG 1) yesB (callF [false] F_is_symmetry [] (aCons (fV 1) aNil)) [1] 0 (gens.map Sym.d) [b0, .un] = some (gens.map fun _ => PyData.bool true, [b0, .un]) := fun b0 => lc_map (fun _ => PyData.bool true) (fun g hg => by simp? [is_symmetry_ok]) (Nat.le_of_lt (lt_line (by omega)))
  have hb : (gens.all fun _ => true) = true := by simp
  have hl' : (gens.length : Int) ≤ 6 := by omega
  rw [r_is_generators]
  unfold B_is_generators
  simp? [lc, hl', hb]
theorem need_generators_ok {gens : List Sym} (hl : gens.length ≤ 6) : F_need_generators [.val (.tuple (gens.map Sym.d))] = .ok (.val .none, [.un]) := by
  rw [r_need_generators]
  unfold B_need_generators
  simp? [is_generators_ok hl]
end M
namespace M
open PySem PySem.Spec PyProof.Rows L2 G
/-! ### data that repr shows -/
structure RP (n z : Nat) (d : PyData) : Prop where
  sh : d.showable = true
  dp : d.depth ≤ n
  sz : szD d ≤ z
theorem RP.mono {n z n' z' : Nat} {d : PyData} (h : RP n z d) (hn : n ≤ n') (hz : z ≤ z') : RP n' z' d := ⟨h.sh, Nat.le_trans h.dp hn, Nat.le_trans h.sz hz⟩
theorem RP.int {i : Int} (h : i.natAbs < 2 ^ 64) : RP 0 1921 (.int i) := ⟨rep_int h, by simp [PyData.depth], by simp [szD]⟩
theorem RP.bool {b : Bool} : RP 0 1921 (.bool b) := ⟨rfl, by simp [PyData.depth], by simp [szD]⟩
theorem RP.none : RP 0 1921 .none := ⟨rfl, by simp [PyData.depth], by simp [szD]⟩
theorem RP.all {n z : Nat} : ∀ {xs : List PyData}, (∀ x ∈ xs, RP n z x) → PyData.showableAll xs = true ∧ PyData.depthAll xs ≤ n ∧ szAll xs ≤ xs.length * (z + 2)
  | [], _ => ⟨rfl, by simp [PyData.depthAll], by simp [szAll]⟩
  | x :: xs, h => by
    obtain ⟨a, b, c⟩ := h x (List.mem_cons_self ..)
    obtain ⟨a', b', c'⟩ := RP.all (xs := xs) fun y hy => h y (List.mem_cons_of_mem _ hy)
    refine ⟨by rw [rep_cons, a, a']; rfl, ?_, ?_⟩
    · rw [show PyData.depthAll (x :: xs) = max x.depth (PyData.depthAll xs) by simp [PyData.depthAll]]
      omega
    · rw [show szAll (x :: xs) = szD x + 2 + szAll xs by simp [szAll], List.length_cons, Nat.succ_mul]
      omega
theorem RP.tup {n z : Nat} {xs : List PyData} (h : ∀ x ∈ xs, RP n z x) : RP (n + 1) (xs.length * (z + 2) + 4) (.tuple xs) := by
  obtain ⟨a, b, c⟩ := RP.all h
  refine ⟨a, ?_, ?_⟩
  · rw [show PyData.depth (.tuple xs) = PyData.depthAll xs + 1 by simp [PyData.depth]]; omega
  · rw [show szD (.tuple xs) = szAll xs + 4 by simp [szD]]; omega
theorem RP.lst {n z : Nat} {xs : List PyData} (h : ∀ x ∈ xs, RP n z x) : RP (n + 1) (xs.length * (z + 2) + 4) (.list xs) := by
  obtain ⟨a, b, c⟩ := RP.all h
  refine ⟨a, ?_, ?_⟩
  · rw [show PyData.depth (.list xs) = PyData.depthAll xs + 1 by simp [PyData.depth]]; omega
  · rw [show szD (.list xs) = szAll xs + 4 by simp [szD]]; omega
theorem RP.ok {n z : Nat} {d : PyData} (h : RP n z d) (hn : n ≤ 64) (hz : z ≤ 16000000) : reprOk d = true := by
  unfold reprOk
  rw [h.sh, decide_eq_true (Nat.le_trans h.sz hz), decide_eq_true (Nat.le_trans h.dp hn)]
  rfl
theorem RP.kd {k : Kd} : RP 0 1921 (.int k.i) := ⟨rep_kd, by simp [PyData.depth], by simp [szD]⟩
theorem mem3 {P : PyData → Prop} {a b c : PyData} (ha : P a) (hb : P b) (hc : P c) : ∀ x ∈ [a, b, c], P x := by
  intro x hx
  simp only [List.mem_cons, List.not_mem_nil, or_false] at hx
  rcases hx with rfl | rfl | rfl <;> assumption
theorem mem2 {P : PyData → Prop} {a b : PyData} (ha : P a) (hb : P b) : ∀ x ∈ [a, b], P x := by
  intro x hx
  simp only [List.mem_cons, List.not_mem_nil, or_false] at hx
  rcases hx with rfl | rfl <;> assumption
theorem RP.sym {s : Sym} (hx : s.x.natAbs < 2 ^ 64) (hy : s.y.natAbs < 2 ^ 64) : RP 1 6000 s.d := (RP.tup (mem3 RP.kd (RP.int hx) (RP.int hy))).mono (by decide) (by simp)
theorem RP.sq {x y : Int} (hx : x.natAbs < 2 ^ 64) (hy : y.natAbs < 2 ^ 64) : RP 1 6000 (SQ x y) := (RP.tup (mem2 (RP.int hx) (RP.int hy))).mono (by decide) (by simp)
theorem RP.syms {α : Type} {f : α → Sym} {l : List α} {m : Nat} (h : ∀ z ∈ l, (f z).x.natAbs < 2 ^ 64 ∧ (f z).y.natAbs < 2 ^ 64) (hm : l.length ≤ m) : RP 2 (m * 6002 + 4) (.tuple (l.map fun z => (f z).d)) := by
  refine (RP.tup (n := 1) (z := 6000) fun x hx => ?_).mono (by decide) ?_
  · obtain ⟨z, hz, rfl⟩ := List.mem_map.mp hx
    exact RP.sym (h z hz).1 (h z hz).2
  · rw [List.length_map]
    have := Nat.mul_le_mul_right 6002 hm
    omega
theorem Sym.Far.sum {far : Int} {s : Sym} (h : s.Far far) : s.x.natAbs + s.y.natAbs ≤ 2 * far.natAbs := by
  obtain ⟨a, b⟩ := h
  omega
end M
namespace M
/-! ### what vectors span -/
inductive Sp (vs : List (Int × Int)) : Int → Int → Prop where
  | zero : Sp vs 0 0
  | add {a b x y : Int} : (a, b) ∈ vs → Sp vs x y → Sp vs (x + a) (y + b)
  | sub {a b x y : Int} : (a, b) ∈ vs → Sp vs x y → Sp vs (x - a) (y - b)
theorem Sp.of {vs : List (Int × Int)} {a b : Int} (h : (a, b) ∈ vs) : Sp vs a b := by
  have := Sp.add h Sp.zero
  rwa [Int.zero_add, Int.zero_add] at this
theorem Sp.plus {vs : List (Int × Int)} {x y z w : Int} (h : Sp vs x y) (h' : Sp vs z w) : Sp vs (x + z) (y + w) := by
  induction h' with
  | zero => simpa using h
  | add m _ ih => rw [← Int.add_assoc, ← Int.add_assoc]; exact .add m ih
  | sub m _ ih => rw [← Int.add_sub_assoc, ← Int.add_sub_assoc]; exact .sub m ih
theorem Sp.neg {vs : List (Int × Int)} {x y : Int} (h : Sp vs x y) : Sp vs (-x) (-y) := by
  induction h with
  | zero => simpa using Sp.zero
  | @add a b x y m _ ih => rw [show -(x + a) = -x - a by omega, show -(y + b) = -y - b by omega]; exact .sub m ih
  | @sub a b x y m _ ih => rw [show -(x - a) = -x + a by omega, show -(y - b) = -y + b by omega]; exact .add m ih
theorem Sp.minus {vs : List (Int × Int)} {x y z w : Int} (h : Sp vs x y) (h' : Sp vs z w) : Sp vs (x - z) (y - w) := by
  rw [Int.sub_eq_add_neg, Int.sub_eq_add_neg]; exact h.plus h'.neg
theorem Sp.nmul {vs : List (Int × Int)} {x y : Int} (h : Sp vs x y) : ∀ n : Nat, Sp vs ((n : Int) * x) ((n : Int) * y)
  | 0 => by simpa using Sp.zero
  | n + 1 => by
    rw [show ((n + 1 : Nat) : Int) * x = n * x + x by rw [Int.natCast_add, Int.add_mul]; simp, show ((n + 1 : Nat) : Int) * y = n * y + y by rw [Int.natCast_add, Int.add_mul]; simp]
    exact (Sp.nmul h n).plus h
theorem Sp.mul {vs : List (Int × Int)} {x y : Int} (h : Sp vs x y) (k : Int) : Sp vs (k * x) (k * y) := by
  rcases Int.eq_nat_or_neg k with ⟨n, rfl | rfl⟩
  · exact h.nmul n
  · rw [Int.neg_mul, Int.neg_mul]; exact (h.nmul n).neg
theorem Sp.sub_of {vs ws : List (Int × Int)} (h : ∀ v ∈ vs, Sp ws v.1 v.2) {x y : Int} (q : Sp vs x y) : Sp ws x y := by
  induction q with
  | zero => exact .zero
  | add m _ ih => exact ih.plus (h _ m)
  | sub m _ ih => exact ih.minus (h _ m)
theorem Sp.mono {vs ws : List (Int × Int)} (h : ∀ v ∈ vs, v ∈ ws) {x y : Int} (q : Sp vs x y) : Sp ws x y := q.sub_of fun v hv => .of (h v hv)
/-- two lists span the same -/
def SpEq (vs ws : List (Int × Int)) : Prop := ∀ x y, Sp vs x y ↔ Sp ws x y
theorem SpEq.of {vs ws : List (Int × Int)} (h1 : ∀ v ∈ vs, Sp ws v.1 v.2) (h2 : ∀ v ∈ ws, Sp vs v.1 v.2) : SpEq vs ws := fun _ _ => ⟨Sp.sub_of h1, Sp.sub_of h2⟩
theorem SpEq.refl (vs : List (Int × Int)) : SpEq vs vs := fun _ _ => Iff.rfl
theorem SpEq.symm {vs ws : List (Int × Int)} (h : SpEq vs ws) : SpEq ws vs := fun x y => (h x y).symm
theorem SpEq.trans {vs ws us : List (Int × Int)} (h : SpEq vs ws) (h' : SpEq ws us) : SpEq vs us := fun x y => (h x y).trans (h' x y)
/-- one of two is changed by a multiple of the other; both change places -/
theorem SpEq.step {a b x y t : Int} {us : List (Int × Int)} : SpEq ((a, b) :: (x, y) :: us) ((x, y) :: (a - t * x, b - t * y) :: us) := by
  refine SpEq.of (fun v hv => ?_) (fun v hv => ?_)
  · rcases List.mem_cons.mp hv with rfl | hv
    · have h1 : Sp ((x, y) :: (a - t * x, b - t * y) :: us) x y := .of (List.mem_cons_self ..)
      have h2 : Sp ((x, y) :: (a - t * x, b - t * y) :: us) (a - t * x) (b - t * y) := .of (List.mem_cons_of_mem _ (List.mem_cons_self ..))
      have := h2.plus (h1.mul t)
      rwa [Int.sub_add_cancel, Int.sub_add_cancel] at this
    · rcases List.mem_cons.mp hv with rfl | hv
      · exact .of (List.mem_cons_self ..)
      · exact .of (List.mem_cons_of_mem _ (List.mem_cons_of_mem _ hv))
  · rcases List.mem_cons.mp hv with rfl | hv
    · exact .of (List.mem_cons_of_mem _ (List.mem_cons_self ..))
    · rcases List.mem_cons.mp hv with rfl | hv
      · exact (Sp.of (List.mem_cons_self ..)).minus ((Sp.of (List.mem_cons_of_mem _ (List.mem_cons_self ..))).mul t)
      · exact .of (List.mem_cons_of_mem _ (List.mem_cons_of_mem _ hv))
/-! ### bases -/
inductive Bs where
  | b0 | b1 (a b : Int) | b2 (a b d : Int)
deriving DecidableEq
def Bs.ok : Bs → Prop
  | .b0 => True
  | .b1 a b => 0 < a ∨ (a = 0 ∧ 0 < b)
  | .b2 a b d => 0 < a ∧ 0 ≤ b ∧ b < d
def Bs.vs : Bs → List (Int × Int)
  | .b0 => []
  | .b1 a b => [(a, b)]
  | .b2 a b d => [(a, b), (0, d)]
def Bs.has : Bs → Int → Int → Prop
  | .b0, x, y => x = 0 ∧ y = 0
  | .b1 a b, x, y => ∃ k, x = k * a ∧ y = k * b
  | .b2 a b d, x, y => ∃ k l, x = k * a ∧ y = k * b + l * d
theorem Bs.has_iff (B : Bs) (x y : Int) : B.has x y ↔ Sp B.vs x y := by
  cases B with
  | b0 =>
    constructor
    · rintro ⟨rfl, rfl⟩; exact .zero
    · intro h; cases h with
      | zero => exact ⟨rfl, rfl⟩
      | add m _ => cases m
      | sub m _ => cases m
  | b1 a b =>
    constructor
    · rintro ⟨k, rfl, rfl⟩; exact (Sp.of (List.mem_cons_self ..)).mul k
    · intro h
      induction h with
      | zero => exact ⟨0, by simp, by simp⟩
      | add m _ ih =>
        obtain ⟨k, rfl, rfl⟩ := ih
        simp only [Bs.vs, List.mem_singleton, Prod.mk.injEq] at m
        obtain ⟨rfl, rfl⟩ := m
        exact ⟨k + 1, by rw [Int.add_mul, Int.one_mul], by rw [Int.add_mul, Int.one_mul]⟩
      | sub m _ ih =>
        obtain ⟨k, rfl, rfl⟩ := ih
        simp only [Bs.vs, List.mem_singleton, Prod.mk.injEq] at m
        obtain ⟨rfl, rfl⟩ := m
        exact ⟨k - 1, by rw [Int.sub_mul, Int.one_mul], by rw [Int.sub_mul, Int.one_mul]⟩
  | b2 a b d =>
    constructor
    · rintro ⟨k, l, rfl, rfl⟩
      have h1 : Sp (Bs.b2 a b d).vs a b := .of (List.mem_cons_self ..)
      have h2 : Sp (Bs.b2 a b d).vs 0 d := .of (List.mem_cons_of_mem _ (List.mem_cons_self ..))
      have := (h1.mul k).plus (h2.mul l)
      rwa [Int.mul_zero, Int.add_zero] at this
    · intro h
      induction h with
      | zero => exact ⟨0, 0, by simp, by simp⟩
      | add m _ ih =>
        obtain ⟨k, l, rfl, rfl⟩ := ih
        simp only [Bs.vs, List.mem_cons, List.not_mem_nil, or_false, Prod.mk.injEq] at m
        rcases m with ⟨rfl, rfl⟩ | ⟨rfl, rfl⟩
        · exact ⟨k + 1, l, by rw [Int.add_mul, Int.one_mul], by rw [Int.add_mul, Int.one_mul]; omega⟩
        · exact ⟨k, l + 1, by omega, by rw [Int.add_mul, Int.one_mul]; omega⟩
      | sub m _ ih =>
        obtain ⟨k, l, rfl, rfl⟩ := ih
        simp only [Bs.vs, List.mem_cons, List.not_mem_nil, or_false, Prod.mk.injEq] at m
        rcases m with ⟨rfl, rfl⟩ | ⟨rfl, rfl⟩
        · exact ⟨k - 1, l, by rw [Int.sub_mul, Int.one_mul], by rw [Int.sub_mul, Int.one_mul]; omega⟩
        · exact ⟨k, l - 1, by omega, by rw [Int.sub_mul, Int.one_mul]; omega⟩
theorem Bs.has_plus {B : Bs} {x y z w : Int} (h : B.has x y) (h' : B.has z w) : B.has (x + z) (y + w) := (B.has_iff _ _).mpr (((B.has_iff _ _).mp h).plus ((B.has_iff _ _).mp h'))
theorem Bs.has_minus {B : Bs} {x y z w : Int} (h : B.has x y) (h' : B.has z w) : B.has (x - z) (y - w) := (B.has_iff _ _).mpr (((B.has_iff _ _).mp h).minus ((B.has_iff _ _).mp h'))
theorem Bs.has_neg {B : Bs} {x y : Int} (h : B.has x y) : B.has (-x) (-y) := (B.has_iff _ _).mpr ((B.has_iff _ _).mp h).neg
theorem Bs.has_neg' {B : Bs} {x y z w : Int} (h : B.has (x - y) (z - w)) : B.has (y - x) (w - z) := by
  have := Bs.has_neg h
  rwa [Int.neg_sub, Int.neg_sub] at this
/-! ### vectors reduced -/
def Bs.red : Bs → Int × Int → Int × Int
  | .b0, v => v
  | .b1 a b, v => if a ≠ 0 then (v.1 - v.1.fdiv a * a, v.2 - v.1.fdiv a * b) else (v.1 - v.2.fdiv b * a, v.2 - v.2.fdiv b * b)
  | .b2 a b d, v => (v.1 - v.1.fdiv a * a, v.2 - v.1.fdiv a * b - (v.2 - v.1.fdiv a * b).fdiv d * d)
def Bs.Rd : Bs → Int × Int → Prop
  | .b0, _ => True
  | .b1 a b, v => if a ≠ 0 then 0 ≤ v.1 ∧ v.1 < a else 0 ≤ v.2 ∧ v.2 < b
  | .b2 a _ d, v => (0 ≤ v.1 ∧ v.1 < a) ∧ (0 ≤ v.2 ∧ v.2 < d)
theorem fmod_bd (x : Int) {a : Int} (h : 0 < a) : 0 ≤ x - x.fdiv a * a ∧ x - x.fdiv a * a < a := by
  have e := Int.mul_fdiv_add_fmod x a
  have h1 := Int.fmod_nonneg_of_pos x h
  have h2 := Int.fmod_lt_of_pos x h
  rw [Int.mul_comm] at e
  omega
theorem Bs.red_rd {B : Bs} (h : B.ok) (v : Int × Int) : B.Rd (B.red v) := by
  cases B with
  | b0 => trivial
  | b1 a b =>
    simp only [Bs.ok] at h
    simp only [Bs.Rd, Bs.red]
    by_cases ha : a ≠ 0
    · rw [if_pos ha, if_pos ha]
      exact fmod_bd _ (by omega)
    · rw [if_neg ha, if_neg ha]
      exact fmod_bd _ (by omega)
  | b2 a b d => exact ⟨fmod_bd _ h.1, fmod_bd _ (by have := h.2; omega)⟩
theorem Bs.red_has {B : Bs} (v : Int × Int) : B.has (v.1 - (B.red v).1) (v.2 - (B.red v).2) := by
  cases B with
  | b0 => simp only [Bs.has, Bs.red]; omega
  | b1 a b =>
    simp only [Bs.has, Bs.red]
    by_cases ha : a ≠ 0
    · rw [if_pos ha]; exact ⟨v.1.fdiv a, by dsimp only; omega, by dsimp only; omega⟩
    · rw [if_neg ha]; exact ⟨v.2.fdiv b, by dsimp only; omega, by dsimp only; omega⟩
  | b2 a b d => exact ⟨v.1.fdiv a, (v.2 - v.1.fdiv a * b).fdiv d, by simp only [Bs.red]; omega, by simp only [Bs.red]; omega⟩
theorem small_mul {k a z w : Int} (ha : 0 < a) (hz : 0 ≤ z ∧ z < a) (hw : 0 ≤ w ∧ w < a) (h : z - w = k * a) : k = 0 := by
  rcases Int.lt_trichotomy k 0 with q | q | q
  · have : k * a ≤ -1 * a := Int.mul_le_mul_of_nonneg_right (by omega) (by omega)
    omega
  · exact q
  · have : 1 * a ≤ k * a := Int.mul_le_mul_of_nonneg_right (by omega) (by omega)
    omega
theorem Bs.rd_uniq {B : Bs} (h : B.ok) {v w : Int × Int} (hv : B.Rd v) (hw : B.Rd w) (e : B.has (v.1 - w.1) (v.2 - w.2)) : v = w := by
  obtain ⟨x, y⟩ := v
  obtain ⟨z, t⟩ := w
  cases B with
  | b0 => obtain ⟨e1, e2⟩ := e; dsimp only at e1 e2; exact Prod.ext (by dsimp only; omega) (by dsimp only; omega)
  | b1 a b =>
    obtain ⟨k, e1, e2⟩ := e
    simp only [Bs.ok] at h
    simp only [Bs.Rd] at hv hw e1 e2
    by_cases ha : a ≠ 0
    · rw [if_pos ha] at hv hw
      have := small_mul (by omega) hv hw e1
      subst this
      exact Prod.ext (by dsimp only; omega) (by dsimp only; omega)
    · rw [if_neg ha] at hv hw
      have := small_mul (by omega) hv hw e2
      subst this
      exact Prod.ext (by dsimp only; omega) (by dsimp only; omega)
  | b2 a b d =>
    obtain ⟨k, l, e1, e2⟩ := e
    obtain ⟨h1, h2, h3⟩ := h
    simp only [Bs.Rd] at e1 e2 hv hw
    have := small_mul h1 hv.1 hw.1 e1
    subst this
    have := small_mul (show 0 < d by omega) hv.2 hw.2 (k := l) (by omega)
    subst this
    exact Prod.ext (by dsimp only; omega) (by dsimp only; omega)
theorem Bs.red_iff {B : Bs} (h : B.ok) (v w : Int × Int) : B.red v = B.red w ↔ B.has (v.1 - w.1) (v.2 - w.2) := by
  have a := B.red_has v
  have b := B.red_has w
  constructor
  · intro e
    rw [e] at a
    have := Bs.has_minus a b
    rwa [show v.1 - (B.red w).1 - (w.1 - (B.red w).1) = v.1 - w.1 by omega, show v.2 - (B.red w).2 - (w.2 - (B.red w).2) = v.2 - w.2 by omega] at this
  · intro e
    refine Bs.rd_uniq h (Bs.red_rd h v) (Bs.red_rd h w) ?_
    have := Bs.has_plus (Bs.has_minus e a) b
    rwa [show v.1 - w.1 - (v.1 - (B.red v).1) + (w.1 - (B.red w).1) = (B.red v).1 - (B.red w).1 by omega, show v.2 - w.2 - (v.2 - (B.red v).2) + (w.2 - (B.red w).2) = (B.red v).2 - (B.red w).2 by omega] at this
theorem Bs.red_of_rd {B : Bs} (h : B.ok) {v : Int × Int} (hv : B.Rd v) : B.red v = v := by
  refine Bs.rd_uniq h (Bs.red_rd h v) hv ?_
  exact Bs.has_neg' (Bs.red_has v)
end M
namespace M
/-! ### groups generated -/
inductive Gn (gs : List Sym) : Sym → Prop where
  | one : Gn gs .one
  | mul {s g : Sym} : Gn gs s → g ∈ gs → Gn gs (s.mul g)
  | div {s g : Sym} : Gn gs s → g ∈ gs → Gn gs (s.mul g.inv)
theorem Gn.of {gs : List Sym} {g : Sym} (h : g ∈ gs) : Gn gs g := by
  have := Gn.mul .one h
  rwa [Sym.one_mul] at this
theorem Gn.prod {gs : List Sym} {s t : Sym} (h : Gn gs s) (h' : Gn gs t) : Gn gs (s.mul t) := by
  induction h' with
  | one => rwa [Sym.mul_one]
  | mul _ m ih => rw [← Sym.mul_assoc]; exact .mul ih m
  | div _ m ih => rw [← Sym.mul_assoc]; exact .div ih m
theorem Gn.invG {gs : List Sym} {g : Sym} (h : g ∈ gs) : Gn gs g.inv := by
  have := Gn.div .one h
  rwa [Sym.one_mul] at this
theorem Gn.inv {gs : List Sym} {s : Sym} (h : Gn gs s) : Gn gs s.inv := by
  induction h with
  | one => rw [show Sym.one.inv = .one from rfl]; exact .one
  | mul _ m ih => rw [Sym.mul_inv_rev]; exact (Gn.invG m).prod ih
  | div _ m ih => rw [Sym.mul_inv_rev, Sym.inv_inv]; exact (Gn.of m).prod ih
theorem Gn.sub {gs hs : List Sym} (h : ∀ g ∈ gs, Gn hs g) {s : Sym} (q : Gn gs s) : Gn hs s := by
  induction q with
  | one => exact .one
  | mul _ m ih => exact ih.prod (h _ m)
  | div _ m ih => exact ih.prod (h _ m).inv
theorem Gn.mono {gs hs : List Sym} (h : ∀ g ∈ gs, g ∈ hs) {s : Sym} (q : Gn gs s) : Gn hs s := q.sub fun g hg => .of (h g hg)
abbrev sh (a b : Int) : Sym := ⟨.k0, a, b⟩
theorem mul_sh (s : Sym) (a b : Int) : s.mul (sh a b) = ⟨s.k, s.x + a, s.y + b⟩ := by
  unfold Sym.mul
  rw [Kd.mul_k0]
  rfl
theorem sh_sh (a b c d : Int) : (sh a b).mul (sh c d) = sh (a + c) (b + d) := by rw [mul_sh]
/-! ### descriptions -/
structure Ds where
  b : Bs
  ms : List Sym
def HasT (B : Bs) (ts : List Sym) (s : Sym) : Prop := ∃ t ∈ ts, t.k = s.k ∧ B.has (s.x - t.x) (s.y - t.y)
abbrev Ds.has (D : Ds) (s : Sym) : Prop := HasT D.b D.ms s
/-- by kinds, each once -/
def KSort (ts : List Sym) : Prop := ts.Pairwise fun s t => s.k.i < t.k.i
structure Ds.ok (D : Ds) : Prop where
  b : D.b.ok
  srt : KSort D.ms
  rd : ∀ m ∈ D.ms, D.b.Rd (m.x, m.y)
  one : Sym.one ∈ D.ms
theorem KSort.ext : ∀ {ts us : List Sym}, KSort ts → KSort us → (∀ s, s ∈ ts ↔ s ∈ us) → ts = us
  | [], [], _, _, _ => rfl
  | [], b :: us, _, _, h => by cases (h b).mpr (List.mem_cons_self ..)
  | a :: ts, [], _, _, h => by cases (h a).mp (List.mem_cons_self ..)
  | a :: ts, b :: us, ha, hb, h => by
    obtain ⟨a1, a2⟩ := List.pairwise_cons.mp ha
    obtain ⟨b1, b2⟩ := List.pairwise_cons.mp hb
    have e : a = b := by
      rcases List.mem_cons.mp ((h a).mp (List.mem_cons_self ..)) with e | m
      · exact e
      · rcases List.mem_cons.mp ((h b).mpr (List.mem_cons_self ..)) with e | m2
        · exact e.symm
        · have := b1 a m
          have := a1 b m2
          omega
    subst e
    rw [KSort.ext a2 b2 fun s => ⟨fun hs => ?_, fun hs => ?_⟩]
    · rcases List.mem_cons.mp ((h s).mp (List.mem_cons_of_mem _ hs)) with e | m
      · subst e
        have := a1 s hs
        omega
      · exact m
    · rcases List.mem_cons.mp ((h s).mpr (List.mem_cons_of_mem _ hs)) with e | m
      · subst e
        have := b1 s hs
        omega
      · exact m
/-! ### kinds -/
theorem Kd.inv3 (p q : Kd) : ((p.mul q).mul q).mul q = p.mul q.inv := by cases p <;> cases q <;> rfl
/-- the samples' kinds are closed -/
def KCl (gs ts : List Sym) : Prop := ∀ t ∈ ts, ∀ g ∈ gs, ∃ t' ∈ ts, t'.k = t.k.mul g.k
theorem KCl.inv {gs ts : List Sym} (h : KCl gs ts) {t g : Sym} (ht : t ∈ ts) (hg : g ∈ gs) : ∃ t' ∈ ts, t'.k.mul g.k = t.k := by
  obtain ⟨t1, m1, e1⟩ := h t ht g hg
  obtain ⟨t2, m2, e2⟩ := h t1 m1 g hg
  obtain ⟨t3, m3, e3⟩ := h t2 m2 g hg
  refine ⟨t3, m3, ?_⟩
  rw [e3, e2, e1, Kd.inv3, Kd.mul_assoc, Kd.mul_inv, Kd.mul_k0]
end M
namespace M
open PySem PySem.Spec PyProof.Rows L2 G
/-! ### powers -/
theorem Sym.npow_zero (s : Sym) : s.npow 0 = .one := rfl
theorem Sym.npow_succ (s : Sym) (n : Nat) : s.npow (n + 1) = (s.npow n).mul s := rfl
theorem Sym.npow4_k (s : Sym) : (s.npow 4).k = .k0 := by
  have : ∀ k : Kd, (((Kd.k0.mul k).mul k).mul k).mul k = .k0 := by intro k; cases k <;> rfl
  exact this s.k
/-! ### bounds -/
/-! ### the laws' own powers -/
end M
namespace M
open PySem PySem.Spec PyProof.Rows L2 G
/-! ### modulo a side -/
theorem fm_iff {n : Int} (hn : 0 < n) (x y : Int) : x.fmod n = y.fmod n ↔ ∃ k, x - y = n * k := by
  rw [Int.fmod_eq_emod_of_nonneg _ (Int.le_of_lt hn), Int.fmod_eq_emod_of_nonneg _ (Int.le_of_lt hn), Int.emod_eq_emod_iff_emod_sub_eq_zero]
  constructor
  · intro h
    exact Int.dvd_of_emod_eq_zero h
  · rintro ⟨k, h⟩
    rw [h]
    exact Int.mul_emod_right n k
theorem fm_bd {n : Int} (hn : 0 < n) (x : Int) : 0 ≤ x.fmod n ∧ x.fmod n < n := ⟨Int.fmod_nonneg_of_pos x hn, Int.fmod_lt_of_pos x hn⟩
theorem fm_self {n x : Int} (h : 0 ≤ x ∧ x < n) : x.fmod n = x := by
  have hn : 0 < n := by omega
  rw [Int.fmod_eq_emod_of_nonneg _ (Int.le_of_lt hn)]
  exact Int.emod_eq_of_lt h.1 h.2
theorem fm_k {n : Int} (hn : 0 < n) (x : Int) : ∃ k, x - x.fmod n = n * k := by
  refine (fm_iff hn _ _).mp ?_
  rw [fm_self (fm_bd hn x)]
def wr (n : Int) (v : Int × Int) : Int × Int := (v.1.fmod n, v.2.fmod n)
/-- congruent -/
def Cg (n : Int) (v w : Int × Int) : Prop := (∃ k, v.1 - w.1 = n * k) ∧ ∃ k, v.2 - w.2 = n * k
theorem Cg.symm {n : Int} {v w : Int × Int} (h : Cg n v w) : Cg n w v := by
  obtain ⟨⟨a, ha⟩, b, hb⟩ := h
  exact ⟨⟨-a, by rw [Int.mul_neg]; omega⟩, -b, by rw [Int.mul_neg]; omega⟩
theorem wr_iff {n : Int} (hn : 0 < n) (v w : Int × Int) : wr n v = wr n w ↔ Cg n v w := by
  unfold wr Cg
  rw [Prod.mk.injEq, fm_iff hn, fm_iff hn]
theorem wr_cg {n : Int} (hn : 0 < n) (v : Int × Int) : Cg n v (wr n v) := ⟨fm_k hn _, fm_k hn _⟩
theorem wr_bd {n : Int} (hn : 0 < n) (v : Int × Int) : (0 ≤ (wr n v).1 ∧ (wr n v).1 < n) ∧ 0 ≤ (wr n v).2 ∧ (wr n v).2 < n := ⟨fm_bd hn _, fm_bd hn _⟩
theorem wr_self {n : Int} {v : Int × Int} (h : (0 ≤ v.1 ∧ v.1 < n) ∧ 0 ≤ v.2 ∧ v.2 < n) : wr n v = v := by
  unfold wr
  rw [fm_self h.1, fm_self h.2]
theorem Cg.im {n : Int} {v w : Int × Int} (h : Cg n v w) (g : Sym) : Cg n (g.im v) (g.im w) := by
  obtain ⟨⟨a, ha⟩, b, hb⟩ := h
  unfold Sym.im Cg
  cases g.k <;> simp only [Kd.u, Kd.v] <;>
    first
    | exact ⟨⟨a, by omega⟩, b, by omega⟩
    | exact ⟨⟨b, by omega⟩, a, by omega⟩
    | exact ⟨⟨-a, by rw [Int.mul_neg]; omega⟩, -b, by rw [Int.mul_neg]; omega⟩
    | exact ⟨⟨-b, by rw [Int.mul_neg]; omega⟩, -a, by rw [Int.mul_neg]; omega⟩
    | exact ⟨⟨-a, by rw [Int.mul_neg]; omega⟩, b, by omega⟩
    | exact ⟨⟨a, by omega⟩, -b, by rw [Int.mul_neg]; omega⟩
    | exact ⟨⟨-b, by rw [Int.mul_neg]; omega⟩, a, by omega⟩
    | exact ⟨⟨b, by omega⟩, -a, by rw [Int.mul_neg]; omega⟩
/-- congruent symmetries -/
def CgS (n : Int) (s t : Sym) : Prop := s.k = t.k ∧ Cg n (s.x, s.y) (t.x, t.y)
theorem CgS.symm {n : Int} {s t : Sym} (h : CgS n s t) : CgS n t s := ⟨h.1.symm, h.2.symm⟩
theorem CgS.mul {n : Int} {s t : Sym} (h : CgS n s t) (g : Sym) : CgS n (s.mul g) (t.mul g) := by
  refine ⟨by show s.k.mul g.k = t.k.mul g.k; rw [h.1], ?_⟩
  have := h.2.im g
  exact this
theorem CgS.im {n : Int} {s t : Sym} (h : CgS n s t) (v : Int × Int) : Cg n (s.im v) (t.im v) := by
  obtain ⟨hk, ⟨a, ha⟩, b, hb⟩ := h
  unfold Sym.im
  rw [hk]
  dsimp only at ha hb
  exact ⟨⟨a, by dsimp only; omega⟩, b, by dsimp only; omega⟩
theorem sh_npow (u v : Int) : ∀ m : Nat, (sh u v).npow m = sh (m * u) (m * v)
  | 0 => by rw [Sym.npow_zero]; show Sym.one = ⟨.k0, _, _⟩; unfold Sym.one; simp
  | m + 1 => by
    rw [Sym.npow_succ, sh_npow u v m, sh_sh]
    rw [Int.natCast_add, Int.add_mul, Int.add_mul]
    simp
theorem npow_add (s : Sym) (a : Nat) : ∀ b, s.npow (a + b) = (s.npow a).mul (s.npow b)
  | 0 => by rw [Sym.npow_zero, Sym.mul_one]; rfl
  | b + 1 => by rw [← Nat.add_assoc, Sym.npow_succ, npow_add s a b, Sym.npow_succ, Sym.mul_assoc]
theorem npow_mul (s : Sym) (a : Nat) : ∀ b, s.npow (a * b) = (s.npow a).npow b
  | 0 => by rw [Nat.mul_zero]; rfl
  | b + 1 => by rw [Nat.mul_succ, npow_add, npow_mul s a b, Sym.npow_succ]
/-- an inverse is a power, but for a shift by multiples of the side -/
theorem inv_pow (g : Sym) {m : Nat} (hm : 0 < m) : ∃ p q : Int, g.npow (4 * m - 1) = (sh (m * p) (m * q)).mul g.inv := by
  have h4 : g.npow 4 = sh (g.npow 4).x (g.npow 4).y := Sym.ext' g.npow4_k rfl rfl
  refine ⟨(g.npow 4).x, (g.npow 4).y, ?_⟩
  have h1 : g.npow (4 * m) = sh (m * (g.npow 4).x) (m * (g.npow 4).y) := by
    rw [npow_mul, h4, sh_npow]
  have h2 : g.npow (4 * m) = (g.npow (4 * m - 1)).mul g := by
    rw [← Sym.npow_succ]
    congr 1
    omega
  rw [← h1, h2, Sym.mul_assoc, Sym.mul_inv, Sym.mul_one]
/-- what holds of the identity and is kept by generators holds of the group, if it tells nothing finer than modulo the side -/
theorem closed_all {gs : List Sym} {m : Nat} (hm : 0 < m) (F : Sym → Prop) (h1 : F .one) (hg : ∀ t, F t → ∀ g ∈ gs, F (t.mul g)) (hw : ∀ s t, CgS m s t → F s → F t) : ∀ s, Gn gs s → F s := by
  intro s hs
  induction hs with
  | one => exact h1
  | mul _ h ih => exact hg _ ih _ h
  | @div s g _ h ih =>
    have hp : ∀ j, F (s.mul (g.npow j)) := fun j => by
      induction j with
      | zero => rw [Sym.npow_zero, Sym.mul_one]; exact ih
      | succ j ij => rw [Sym.npow_succ, ← Sym.mul_assoc]; exact hg _ ij g h
    obtain ⟨p, q, e⟩ := inv_pow g hm
    have := hp (4 * m - 1)
    rw [e] at this
    refine hw _ _ ?_ this
    rw [← Sym.mul_assoc]
    refine CgS.mul ?_ g.inv
    rw [mul_sh]
    exact ⟨rfl, ⟨p, by dsimp only; omega⟩, q, by dsimp only; omega⟩
/-! ### steps on the torus -/
inductive Rch (gs : List Sym) (n : Int) (v : Int × Int) : Int × Int → Prop where
  | refl : Rch gs n v v
  | step {w : Int × Int} {g : Sym} : Rch gs n v w → g ∈ gs → Rch gs n v (wr n (g.im w))
theorem Rch.bd {gs : List Sym} {n : Int} (hn : 0 < n) {v w : Int × Int} (hv : (0 ≤ v.1 ∧ v.1 < n) ∧ 0 ≤ v.2 ∧ v.2 < n) (h : Rch gs n v w) : (0 ≤ w.1 ∧ w.1 < n) ∧ 0 ≤ w.2 ∧ w.2 < n := by
  cases h with
  | refl => exact hv
  | step _ _ => exact wr_bd hn _
/-- the orbit's squares are those that steps reach -/
theorem rch_gn {gs : List Sym} {n : Int} (hn : 0 < n) {v w : Int × Int} (h : Rch gs n v w) : ∃ s, Gn gs s ∧ Cg n (s.im v) w := by
  induction h with
  | refl => exact ⟨.one, .one, by rw [show Sym.one.im v = v from by unfold Sym.im Sym.one; simp [Kd.u, Kd.v]]; exact ⟨⟨0, by simp⟩, 0, by simp⟩⟩
  | @step w g _ hg ih =>
    obtain ⟨s, hs, hc⟩ := ih
    refine ⟨s.mul g, .mul hs hg, ?_⟩
    rw [Sym.im_mul]
    have h1 := hc.im g
    have h2 := (wr_iff hn _ _).mpr h1
    refine (wr_iff hn _ _).mp ?_
    rw [h2]
    have h3 := wr_bd hn (g.im w)
    exact (wr_self h3).symm
theorem gn_rch {gs : List Sym} {m : Nat} (hm : 0 < m) {v : Int × Int} (hv : (0 ≤ v.1 ∧ v.1 < (m : Int)) ∧ 0 ≤ v.2 ∧ v.2 < (m : Int)) : ∀ s, Gn gs s → Rch gs m v (wr m (s.im v)) := by
  have hn : (0 : Int) < m := by omega
  refine closed_all hm (fun s => Rch gs m v (wr m (s.im v))) ?_ (fun t h g hg => ?_) fun s t h hs => ?_
  · show Rch gs m v (wr m (Sym.one.im v))
    rw [show Sym.one.im v = v from by unfold Sym.im Sym.one; simp [Kd.u, Kd.v], wr_self hv]
    exact .refl
  · show Rch gs m v (wr m ((t.mul g).im v))
    have := Rch.step h hg
    rw [show wr (m : Int) (g.im (wr m (t.im v))) = wr m (g.im (t.im v)) from (wr_iff hn _ _).mpr ((wr_cg hn _).symm.im g)] at this
    rw [Sym.im_mul]
    exact this
  · show Rch gs m v (wr m (t.im v))
    rw [← (wr_iff hn _ _).mpr (h.im v)]
    exact hs
theorem Rch.symm {gs : List Sym} {m : Nat} (hm : 0 < m) {v w : Int × Int} (hv : (0 ≤ v.1 ∧ v.1 < (m : Int)) ∧ 0 ≤ v.2 ∧ v.2 < (m : Int)) (h : Rch gs m v w) : Rch gs m w v := by
  have hn : (0 : Int) < m := by omega
  obtain ⟨s, hs, hc⟩ := rch_gn hn h
  have := gn_rch (gs := gs) hm (Rch.bd hn hv h) s.inv hs.inv
  have e : wr (m : Int) (s.inv.im w) = v := by
    rw [← wr_self hv]
    refine (wr_iff hn _ _).mpr ?_
    have := hc.symm.im s.inv
    rw [← Sym.im_mul, Sym.mul_inv] at this
    rw [show Sym.one.im v = v from by unfold Sym.im Sym.one; simp [Kd.u, Kd.v]] at this
    exact this
  rw [e] at this
  exact this
theorem Rch.trans {gs : List Sym} {n : Int} {u v w : Int × Int} (h : Rch gs n u v) (h' : Rch gs n v w) : Rch gs n u w := by
  induction h' with
  | refl => exact h
  | step _ hg ih => exact .step ih hg
/-! ### numbers by first occurrence -/
section
variable {κ : Type} [DecidableEq κ]
def ad (l : List κ) (k : κ) : List κ := if k ∈ l then l else l ++ [k]
def dd (l : List κ) : List κ := l.foldl ad []
end
end M
namespace M
open PySem PySem.Spec PyProof.Rows L2 G
/-! ### while -/
theorem wh_run {c : SB} {b : SS} (I : Nat → List B → Prop) (Q : List B → Prop) (st : ∀ k ρ, I k ρ → (∃ ρ', c ρ = .ok (false, ρ') ∧ Q ρ') ∨ (∃ ρ1 ρ' j, c ρ = .ok (true, ρ1) ∧ b ρ1 = .ok (.nx ρ') ∧ j < k ∧ I j ρ')) : ∀ n k ρ, k < n → I k ρ → ∃ ρ', whF c b n ρ = .ok (.nx ρ') ∧ Q ρ'
  | 0, k, ρ, h, _ => absurd h (Nat.not_lt_zero _)
  | n + 1, k, ρ, h, i => by
    rcases st k ρ i with ⟨ρ', e, q⟩ | ⟨ρ1, ρ', j, e, e2, hj, i2⟩
    · refine ⟨ρ', ?_, q⟩
      unfold whF
      rw [e]
      rfl
    · obtain ⟨ρ2, e3, q⟩ := wh_run I Q st n j ρ' (by omega) i2
      refine ⟨ρ2, ?_, q⟩
      unfold whF
      rw [e, rb_ok]
      show Rs.bind (b ρ1) _ = _
      rw [e2]
      exact e3
/-! ### numbers -/
theorem fmod_natAbs (a : Int) {b : Int} (h : b ≠ 0) : (a.fmod b).natAbs < b.natAbs := by
  rcases Int.lt_or_gt_of_ne h with h | h
  · have h1 := Int.fmod_nonneg_of_pos (-a) (show 0 < -b by omega)
    have h2 := Int.fmod_lt_of_pos (-a) (show 0 < -b by omega)
    rw [Int.neg_fmod_neg] at h1 h2
    omega
  · have h1 := Int.fmod_nonneg_of_pos a h
    have h2 := Int.fmod_lt_of_pos a h
    omega
theorem divOk_s {j : Int} (h : j ≠ 0) (h2 : j.natAbs < 18446744073709551616) : divOk j = true := by
  unfold divOk
  have : j.natAbs.log2 < 9000 := Nat.lt_trans ((Nat.log2_lt (by omega)).mpr (show j.natAbs < 2 ^ 64 from h2)) (by decide)
  simp [h, this]
theorem smallI_m {i : Int} (h : i.natAbs < 18446744073709551616) : smallI i = true := by
  unfold smallI
  simp only [Bool.and_eq_true, decide_eq_true_eq]
  omega
theorem log2_bd {n k : Nat} (hk : 0 < k) (h : n < 2 ^ k) : n.log2 < k := by
  by_cases h0 : n = 0
  · subst h0; simpa using hk
  · exact (Nat.log2_lt h0).mpr h
/-! ### divisor -/
structure IsG (a b g : Int) : Prop where
  nn : 0 ≤ g
  l : g ∣ a
  r : g ∣ b
  lin : ∃ u v, g = u * a + v * b
theorem divisor_run (a0 b0 : Int) : ∃ g : Int, whS mu_divisor_1 (fB (op2 neD (fV 1) (fC (.int 0)))) L1_divisor [.val (.int a0), .val (.int b0)] = .ok (.nx [.val (.int g), .val (.int 0)]) ∧ (g ∣ a0 ∧ g ∣ b0 ∧ ∃ u v, g = u * a0 + v * b0) := by
  obtain ⟨ρ', e, g, rfl, q⟩ := wh_run (c := fB (op2 neD (fV 1) (fC (.int 0)))) (b := L1_divisor)
      (fun k ρ => ∃ a b : Int, ρ = [.val (.int a), .val (.int b)] ∧ b.natAbs = k ∧ (∀ d, d ∣ a → d ∣ b → d ∣ a0 ∧ d ∣ b0) ∧ (∃ u v, a = u * a0 + v * b0) ∧ ∃ u v, b = u * a0 + v * b0)
      (fun ρ => ∃ g : Int, ρ = [.val (.int g), .val (.int 0)] ∧ (g ∣ a0 ∧ g ∣ b0 ∧ ∃ u v, g = u * a0 + v * b0)) (by
      rintro k _ ⟨a, b, rfl, hk, hd, ⟨u, v, ha⟩, u', v', hb⟩
      by_cases h : b = 0
      · subst h
        refine .inl ⟨_, ?_, a, rfl, ?_⟩
        · simp? []
        · exact ⟨(hd a (Int.dvd_refl _) (Int.dvd_zero _)).1, (hd a (Int.dvd_refl _) (Int.dvd_zero _)).2, u, v, ha⟩
      · refine .inr ⟨[.val (.int a), .val (.int b)], [.val (.int b), .val (.int (a.fmod b))], (a.fmod b).natAbs, ?_, ?_, ?_, b, a.fmod b, rfl, rfl, ?_, ⟨u', v', hb⟩, u - a.fdiv b * u', v - a.fdiv b * v', ?_⟩
        · simp? [h]
        · unfold L1_divisor
          simp? [h]
        · rw [← hk]; exact fmod_natAbs a h
        · intro d d1 d2
          have e := Int.mul_fdiv_add_fmod a b
          exact hd d (by rw [← e]; exact Int.dvd_add (Int.dvd_trans d1 (Int.dvd_mul_right _ _)) d2) d1
        · have e := Int.mul_fdiv_add_fmod a b
          have e1 : b * a.fdiv b = a.fdiv b * (u' * a0) + a.fdiv b * (v' * b0) := by rw [← Int.mul_add, ← hb, Int.mul_comm]
          rw [Int.sub_mul, Int.sub_mul, Int.mul_assoc, Int.mul_assoc]
          omega) (b0.natAbs + 1) b0.natAbs [.val (.int a0), .val (.int b0)] (Nat.lt_succ_self _) ⟨a0, b0, rfl, rfl, fun d h1 h2 => ⟨h1, h2⟩, ⟨1, 0, by omega⟩, 0, 1, by omega⟩
  exact ⟨g, e, q⟩
theorem divisor_ok (a b : Int) : ∃ g, F_divisor [.val (.int a), .val (.int b)] = .ok (.val (.int g), [.un, .un]) ∧ IsG a b g := by
  obtain ⟨g, e, d1, d2, u, v, hg⟩ := divisor_run a b
  refine ⟨if g < 0 then -g else g, ?_, ?_⟩
  · rw [r_divisor]
    unfold B_divisor
    simp? [e]
  · by_cases h : g < 0
    · rw [if_pos h]
      exact ⟨by omega, Int.neg_dvd.mpr d1, Int.neg_dvd.mpr d2, -u, -v, by rw [Int.neg_mul, Int.neg_mul]; omega⟩
    · rw [if_neg h]
      exact ⟨by omega, d1, d2, u, v, hg⟩
/-! ### the basis of vectors -/
abbrev vd (v : Int × Int) : PyData := .tuple [.int v.1, .int v.2]
abbrev Bs.d : Bs → PyData
  | .b0 => .tuple []
  | .b1 a b => .tuple [.tuple [.int a, .int b]]
  | .b2 a b d => .tuple [.tuple [.int a, .int b], .tuple [.int 0, .int d]]
theorem SpEq.cons {v : Int × Int} {vs ws : List (Int × Int)} (h : SpEq vs ws) : SpEq (v :: vs) (v :: ws) := by
  have key : ∀ {vs ws : List (Int × Int)}, SpEq vs ws → ∀ z ∈ v :: vs, Sp (v :: ws) z.1 z.2 := fun {vs ws} h z hz => by
    rcases List.mem_cons.mp hz with rfl | hz
    · exact .of (List.mem_cons_self ..)
    · exact ((h _ _).mp (.of hz)).mono fun _ q => List.mem_cons_of_mem _ q
  exact SpEq.of (key h) (key h.symm)
end M
namespace M
open PySem PySem.Spec PyProof.Rows L2 G
/-! ### vectors reduced -/
def Sm (z : Int) : Prop := z.natAbs < 2 ^ 100
def Bs.Sm (A : Bs) : Prop := ∀ v ∈ A.vs, M.Sm v.1 ∧ M.Sm v.2
theorem ev_vd (v w : Int × Int) : PyData.eqv (vd v) (vd w) = decide (v = w) := by
  simp only [ev_tt, ev_c, ev_0, ev_ii, Bool.and_true]
  rw [Bool.eq_iff_iff]
  simp only [Bool.and_eq_true, decide_eq_true_eq]
  exact ⟨fun h => Prod.ext h.1 h.2, fun h => by rw [h]; exact ⟨rfl, rfl⟩⟩
def Bs.reds (A : Bs) (s : Sym) : Sym := ⟨s.k, (A.red (s.x, s.y)).1, (A.red (s.x, s.y)).2⟩
end M
namespace M
open PySem PySem.Spec PyProof.Rows L2 G
/-! ### sizes -/
def Sym.le (s : Sym) (n : Nat) : Prop := s.x.natAbs ≤ n ∧ s.y.natAbs ≤ n
theorem kinds_len {ts : List Sym} (h : (ts.map Sym.k).Nodup) : ts.length ≤ 8 := by
  have h2 : ((ts.map Sym.k).map Kd.n).Nodup := by
    rw [List.Nodup, List.pairwise_map]
    exact List.Pairwise.imp (fun {p q} (hn : p ≠ q) (e : p.n = q.n) => hn (Kd.i_inj (by rw [Kd.i_n, Kd.i_n, e]))) h
  have := nat_nodup_len _ (List.range 8) h2 fun x hx => by
    obtain ⟨k, _, rfl⟩ := List.mem_map.mp hx
    rw [List.mem_range]
    cases k <;> decide
  simpa using this
/-! ### dicts of samples -/
/-! ### samples -/
structure SB0 (gs : List Sym) (F : Nat) (ts : List Sym) : Prop where
  one : Sym.one ∈ ts
  un : (ts.map Sym.k).Nodup
  gn : ∀ t ∈ ts, Gn gs t
  bd : ∀ t ∈ ts, t.le (F * ts.length)
end M
namespace M
open PySem PySem.Spec PyProof.Rows L2 G
/-! ### shifts -/
/-! ### members in order -/
abbrev Sym.row (s : Sym) : List Int := [s.k.i, s.x, s.y]
theorem row_inj {s t : Sym} (h : s.row = t.row) : s = t := by
  simp only [Sym.row, List.cons.injEq, and_true] at h
  exact Sym.ext' (Kd.i_inj h.1) h.2.1 h.2.2
end M
namespace M
open PySem PySem.Spec PyProof.Rows L2 G
/-! ### how long a basis may be -/
/-! ### describe -/
abbrev Ds.d (D : Ds) : PyData := .tuple [D.b.d, .tuple (D.ms.map Sym.d)]
structure Ds.Sm (D : Ds) : Prop where
  b : D.b.Sm
  m : ∀ m ∈ D.ms, m.x.natAbs < 2 ^ 80 ∧ m.y.natAbs < 2 ^ 80
  q : ∀ v ∈ D.b.vs, v.1.natAbs ≤ 2400000000000000 ∧ v.2.natAbs ≤ 2400000000000000
end M
namespace M
open PySem PySem.Spec PyProof.Rows L2 G
/-! ### the laws' own divisor, reduction, basis -/
/-! sorted sets of vectors -/
/-! sums -/
end M
namespace M
open PySem PySem.Spec PyProof.Rows L2 G
theorem SpEq.mem {a b : List (Int × Int)} (h : ∀ v, v ∈ a ↔ v ∈ b) : SpEq a b := SpEq.of (fun v hv => .of ((h v).mp hv)) (fun v hv => .of ((h v).mpr hv))
theorem nat_nodup_len2 {α : Type} [DecidableEq α] : ∀ {l m : List α}, l.Nodup → (∀ x ∈ l, x ∈ m) → l.length ≤ m.length
  | [], _, _, _ => Nat.zero_le _
  | x :: l, m, hn, hs => by
    obtain ⟨h1, h2⟩ := List.nodup_cons.mp hn
    have hx : x ∈ m := hs x (List.mem_cons_self ..)
    have ih := nat_nodup_len2 (m := m.erase x) h2 fun y hy => (List.mem_erase_of_ne (show y ≠ x from fun z => h1 (by rw [← z]; exact hy))).mpr (hs y (List.mem_cons_of_mem _ hy))
    have e := List.length_erase_of_mem hx
    have hp : 0 < m.length := List.length_pos_of_mem hx
    rw [List.length_cons]
    omega
end M
namespace M
open PySem PySem.Spec PyProof.Rows L2 G
end M
namespace M
open PySem PySem.Spec PyProof.Rows L2 G
/-! ### bases that grow -/
def Bs.Bd (n : Nat) : Bs → Prop
  | .b0 => True
  | .b1 a b => a.natAbs ≤ n ∧ b.natAbs ≤ n
  | .b2 a _ d => a.natAbs ≤ 2 * (n * n) ∧ d.natAbs ≤ 2 * (n * n)
def Bs.meas (n : Nat) : Bs → Nat
  | .b0 => 4 * (n * n) * (n * n) + 1 + 2 * n + 1
  | .b1 a b => 4 * (n * n) * (n * n) + 1 + a.natAbs + b.natAbs
  | .b2 a _ d => a.natAbs * d.natAbs
theorem Bs.sub_of {A : Bs} {vs : List (Int × Int)} (sp : SpEq vs A.vs) {v : Int × Int} (h : v ∈ vs) : A.has v.1 v.2 := (A.has_iff _ _).mpr ((sp _ _).mp (.of h))
theorem Bs.d_vs (A : Bs) : A.d = .tuple (A.vs.map vd) := by cases A <;> rfl
end M
namespace M
open PySem PySem.Spec PyProof.Rows L2 G
/-! ### the laws' own search for a group -/
structure GS (gs : List Sym) (F n : Nat) (A : Bs) (ts : List Sym) : Prop where
  ok : A.ok
  bd : A.Bd n
  gA : ∀ a b, A.has a b → Gn gs (sh a b)
  sb : SB0 gs F ts
def mG (n : Nat) (A : Bs) (ts : List Sym) : Nat := A.meas n + (8 - ts.length)
structure GP (gs : List Sym) (F n : Nat) (A : Bs) (ts : List Sym) (o : Bool) (A' : Bs) (ts' : List Sym) (o' : Bool) : Prop where
  gs : GS gs F n A' ts'
  sA : ∀ x y, A.has x y → A'.has x y
  sT : ∀ t ∈ ts, t ∈ ts'
  ch : (A' = A ∧ ts' = ts ∧ o' = o) ∨ (o' = true ∧ mG n A' ts' < mG n A ts)
theorem GP.refl {gs : List Sym} {F n : Nat} {A : Bs} {ts : List Sym} {o : Bool} (h : GS gs F n A ts) : GP gs F n A ts o A ts o := ⟨h, fun _ _ z => z, fun _ z => z, .inl ⟨rfl, rfl, rfl⟩⟩
theorem GP.trans {gs : List Sym} {F n : Nat} {A A1 A2 : Bs} {ts ts1 ts2 : List Sym} {o o1 o2 : Bool} (h : GP gs F n A ts o A1 ts1 o1) (h' : GP gs F n A1 ts1 o1 A2 ts2 o2) : GP gs F n A ts o A2 ts2 o2 := by
  refine ⟨h'.gs, fun x y z => h'.sA x y (h.sA x y z), fun t z => h'.sT t (h.sT t z), ?_⟩
  rcases h.ch with ⟨e1, e2, e3⟩ | ⟨e1, e2⟩
  · subst e1 e2 e3; exact h'.ch
  · rcases h'.ch with ⟨f1, f2, f3⟩ | ⟨f1, f2⟩
    · subst f1 f2 f3; exact .inr ⟨e1, e2⟩
    · exact .inr ⟨f1, by omega⟩
/-- a sample and a generator lead to a sample, up to a step -/
def Fact (A : Bs) (ts : List Sym) (t g : Sym) : Prop := ∃ t' ∈ ts, t'.k = t.k.mul g.k ∧ A.has ((t.mul g).x - t'.x) ((t.mul g).y - t'.y)
theorem Fact.mono {A A' : Bs} {ts ts' : List Sym} {t g : Sym} (h : Fact A ts t g) (sA : ∀ x y, A.has x y → A'.has x y) (sT : ∀ t ∈ ts, t ∈ ts') : Fact A' ts' t g := by
  obtain ⟨t', h1, h2, h3⟩ := h
  exact ⟨t', sT _ h1, h2, sA _ _ h3⟩
def SzB (A : Bs) : Prop := ∀ v ∈ A.vs, v.1.natAbs < 18446744073709551616 ∧ v.2.natAbs < 18446744073709551616
theorem SzB.sm {A : Bs} (h : SzB A) : A.Sm := fun v hv => by
  have := h v hv
  unfold Sm
  omega
end M
namespace M
open PySem PySem.Spec PyProof.Rows L2 G
end M
namespace M
open PySem PySem.Spec PyProof.Rows L2 G
/-! ### descriptions shown, compared -/
theorem rep_intS {i : Int} (h : Sm i) : PyData.showable (.int i) = true := by
  unfold PyData.showable
  exact decide_eq_true (Nat.lt_trans (log2_bd (by decide) h) (by decide))
theorem RP.intS {i : Int} (h : Sm i) : RP 0 1921 (.int i) := ⟨rep_intS h, by simp [PyData.depth], by simp [szD]⟩
theorem RP.sqS {x y : Int} (hx : Sm x) (hy : Sm y) : RP 1 6000 (SQ x y) := (RP.tup (mem2 (RP.intS hx) (RP.intS hy))).mono (by decide) (by simp)
theorem RP.bs {A : Bs} (h : A.Sm) : RP 2 20000 A.d := by
  rw [Bs.d_vs]
  refine (RP.tup (n := 1) (z := 6000) fun x hx => ?_).mono (by decide) ?_
  · obtain ⟨z, hz, rfl⟩ := List.mem_map.mp hx
    exact RP.sqS (h z hz).1 (h z hz).2
  · rw [List.length_map]
    have : A.vs.length ≤ 2 := by cases A <;> simp [Bs.vs]
    have := Nat.mul_le_mul_right 6002 this
    omega
theorem SB.of_k {ts : List Sym} (h : KSort ts) : (ts.map Sym.k).Nodup := by
  rw [List.Nodup, List.pairwise_map]
  exact h.imp fun {p q} hlt e => by rw [e] at hlt; omega
theorem KSort.len {ts : List Sym} (h : KSort ts) : ts.length ≤ 8 := kinds_len (SB.of_k h)
theorem Sym.Far.le {far : Int} {s : Sym} (h : s.Far far) : s.le far.natAbs := h
/-! ### describe, contains -/
theorem Ds.has_iff {D : Ds} (h : D.ok) (s : Sym) : D.has s ↔ D.b.reds s ∈ D.ms := by
  constructor
  · rintro ⟨t, ht, hk, hh⟩
    have e : D.b.red (s.x, s.y) = (t.x, t.y) := by
      rw [← Bs.red_of_rd h.b (h.rd t ht)]
      exact (Bs.red_iff h.b (s.x, s.y) (t.x, t.y)).mpr hh
    have : D.b.reds s = t := by
      unfold Bs.reds
      rw [e]
      exact Sym.ext' hk.symm rfl rfl
    rw [this]; exact ht
  · intro h2
    exact ⟨_, h2, rfl, Bs.red_has (B := D.b) (s.x, s.y)⟩
end M
namespace M
open PySem PySem.Spec PyProof.Rows L2 G
/-! ### representatives -/
/-! ### what carries a square to another one -/
end M
namespace M
open PySem PySem.Spec PyProof.Rows L2 G
/-! ### values of any sort: fewer than n levels, ints up to B -/
/-! ### sizes -/
/-! ### a value of another sort -/
end M
namespace M
open PySem PySem.Spec PyProof.Rows L2 G
/-! ### squares and symmetries: what is none; what a caught exception is told as -/
end M
namespace M
open PySem PySem.Spec PyProof.Rows L2 G
/-! ### words drawn -/
end M
namespace M
open PySem PySem.Spec PyProof.Rows L2 G
/-! ### two groups -/
instance dsDec : DecidableEq Ds := fun A B => decidable_of_iff (A.b = B.b ∧ A.ms = B.ms) ⟨fun h => by cases A; cases B; cases h.1; cases h.2; rfl, fun h => by rw [h]; exact ⟨rfl, rfl⟩⟩
abbrev Ds.B (D : Ds) (s : Sym) : Bool := decide (D.b.reds s ∈ D.ms)
def outs (gs : List Sym) (D : Ds) : List Sym := gs.filter fun g => !D.B g
end M
namespace M
open PySem PySem.Spec PyProof.Rows L2 G
/-! ### is_basis, is_description at any value -/
theorem vd_inj {v w : Int × Int} (h : vd v = vd w) : v = w := by
  have := ev_vd v w
  rw [h, ev_vd w w, decide_eq_true rfl] at this
  exact of_decide_eq_true this.symm
/-! ### members -/
instance (ts : List Sym) : Decidable (KSort ts) := inferInstanceAs (Decidable (ts.Pairwise fun s t => s.k.i < t.k.i))
/-! ### the description -/
structure Fit (A : Bs) (ms : List Sym) : Prop where
  ok : A.ok
  q : ∀ v ∈ A.vs, v.1.natAbs ≤ 2400000000000000 ∧ v.2.natAbs ≤ 2400000000000000
  m : ∀ m ∈ ms, m.x.natAbs < 2 ^ 80 ∧ m.y.natAbs < 2 ^ 80
  l : ms.length < 64
theorem Fit.sm {A : Bs} {ms : List Sym} (f : Fit A ms) : A.Sm := fun v hv => by
  have := f.q v hv
  unfold Sm
  omega
end M
namespace M
open PySem PySem.Spec PyProof.Rows L2 G
/-! ### kinds that are composed of some kinds -/
abbrev kd (k : Kd) : PyData := .int k.i
def KG (ks : List Kd) (x : Kd) : Prop := ∃ l : List Kd, (∀ k ∈ l, k ∈ ks) ∧ x = l.foldl Kd.mul .k0
theorem KG.one (ks : List Kd) : KG ks .k0 := ⟨[], fun _ h => (nomatch h), rfl⟩
theorem KG.mul {ks : List Kd} {x k : Kd} (h : KG ks x) (hk : k ∈ ks) : KG ks (x.mul k) := by
  obtain ⟨l, h1, rfl⟩ := h
  refine ⟨l ++ [k], fun z hz => ?_, by rw [List.foldl_append]; rfl⟩
  rcases List.mem_append.mp hz with q | q
  · exact h1 z q
  · rw [List.mem_singleton.mp q]; exact hk
theorem KG.of {ks : List Kd} {k : Kd} (hk : k ∈ ks) : KG ks k := by
  have := (KG.one ks).mul hk
  rwa [Kd.k0_mul] at this
/-! ### generators of a description -/
def kgC (l : List Kd) : List Kd := (List.range 3).foldl (fun F _ => (F ++ F.flatMap fun x => l.map x.mul).eraseDups) [.k0]
theorem kgC_KG (l : List Kd) : ∀ x ∈ kgC l, KG l x := by
  have step : ∀ (n : Nat) (F : List Kd), (∀ x ∈ F, KG l x) → ∀ x ∈ (List.range n).foldl (fun F _ => (F ++ F.flatMap fun x => l.map x.mul).eraseDups) F, KG l x := by
    intro n
    induction n with
    | zero => intro F h; exact h
    | succ n ih =>
      intro F h
      rw [List.range_succ, List.foldl_append]
      intro x hx
      have hx := List.mem_eraseDups.mp hx
      rcases List.mem_append.mp hx with q | q
      · exact ih F h x q
      · obtain ⟨y, hy, q⟩ := List.mem_flatMap.mp q
        obtain ⟨k, hk, rfl⟩ := List.mem_map.mp q
        exact (ih F h y hy).mul hk
  exact step 3 [.k0] fun x hx => by rw [List.mem_singleton.mp hx]; exact KG.one l
def allK8 : List Kd := [.k0, .k1, .k2, .k3, .k4, .k5, .k6, .k7]
theorem mem_allK8 (k : Kd) : k ∈ allK8 := by cases k <;> decide
theorem no_four : (allK8.all fun a => allK8.all fun b => allK8.all fun c => allK8.all fun d => decide (a ∈ kgC []) || (decide (b ∈ kgC [a]) || (decide (c ∈ kgC [a, b]) || decide (d ∈ kgC [a, b, c])))) = true := by decide +kernel
/-- each kind is not composed of those before it -/
def Ind (l : List Kd) : Prop := ∀ i k, l[i]? = some k → ¬ KG (l.take i) k
theorem Ind.le {l : List Kd} (h : Ind l) : l.length ≤ 3 := by
  match l, h with
  | [], _ => exact Nat.zero_le _
  | [_], _ => simp
  | [_, _], _ => simp
  | [_, _, _], _ => simp
  | a :: b :: c :: d :: r, h =>
    exfalso
    have q := no_four
    simp only [List.all_eq_true] at q
    have q := q a (mem_allK8 a) b (mem_allK8 b) c (mem_allK8 c) d (mem_allK8 d)
    simp only [Bool.or_eq_true, decide_eq_true_eq] at q
    rcases q with q | q | q | q
    · exact h 0 a rfl (kgC_KG _ _ q)
    · exact h 1 b rfl (kgC_KG _ _ q)
    · exact h 2 c rfl (kgC_KG _ _ q)
    · exact h 3 d rfl (kgC_KG _ _ q)
theorem KG.mono {l m : List Kd} {x : Kd} (h : KG l x) (hs : ∀ k ∈ l, k ∈ m) : KG m x := by
  obtain ⟨a, h1, h2⟩ := h
  exact ⟨a, fun k hk => hs k (h1 k hk), h2⟩
structure Chs (ms C : List Sym) : Prop where
  sub : ∀ m ∈ C, m ∈ ms
  ind : Ind (C.map Sym.k)
theorem Chs.le {ms C : List Sym} (h : Chs ms C) : C.length ≤ 3 := by have := h.ind.le; rwa [List.length_map] at this
end M
namespace M
open PySem PySem.Spec PyProof.Rows L2 G
/-! ### the generators told span the group; a group's description is one -/
end M
namespace M
/-! ### counting -/
theorem nodup_map {α β : Type} {f : α → β} : ∀ {l : List α}, l.Nodup → (∀ x ∈ l, ∀ y ∈ l, f x = f y → x = y) → (l.map f).Nodup
  | [], _, _ => List.nodup_nil
  | x :: l, hn, hi => by
    obtain ⟨h1, h2⟩ := List.nodup_cons.mp hn
    rw [List.map_cons, List.nodup_cons]
    refine ⟨fun hm => ?_, nodup_map h2 fun y hy z hz => hi y (List.mem_cons_of_mem _ hy) z (List.mem_cons_of_mem _ hz)⟩
    obtain ⟨y, hy, e⟩ := List.mem_map.mp hm
    have := hi y (List.mem_cons_of_mem _ hy) x (List.mem_cons_self ..) e
    exact h1 (this ▸ hy)
theorem mem_map_of_inj {α : Type} [DecidableEq α] {l : List α} (hn : l.Nodup) {f : α → α} (hm : ∀ x ∈ l, f x ∈ l) (hi : ∀ x ∈ l, ∀ y ∈ l, f x = f y → x = y) : ∀ y ∈ l, ∃ x ∈ l, f x = y := by
  intro y hy
  apply Decidable.byContradiction
  intro hx
  have hnm := nodup_map hn hi
  have sub : ∀ z ∈ l.map f, z ∈ l.erase y := fun z hz => by
    obtain ⟨x, hx', rfl⟩ := List.mem_map.mp hz
    exact hn.mem_erase_iff.mpr ⟨fun e => hx ⟨x, hx', e⟩, hm x hx'⟩
  have := nat_nodup_len2 hnm sub
  rw [List.length_map, List.length_erase_of_mem hy] at this
  have := List.length_pos_of_mem hy
  omega
theorem perm_of_inj {α : Type} [DecidableEq α] {l : List α} (hn : l.Nodup) {f : α → α} (hm : ∀ x ∈ l, f x ∈ l) (hi : ∀ x ∈ l, ∀ y ∈ l, f x = f y → x = y) : (l.map f).Perm l :=
  (List.perm_ext_iff_of_nodup (nodup_map hn hi) hn).mpr fun y => ⟨fun h => by
    obtain ⟨x, hx, rfl⟩ := List.mem_map.mp h
    exact hm x hx, fun h => by
    obtain ⟨x, hx, e⟩ := mem_map_of_inj hn hm hi y h
    exact List.mem_map.mpr ⟨x, hx, e⟩⟩
theorem countP_perm {α : Type} [DecidableEq α] {l : List α} (hn : l.Nodup) {f : α → α} (hm : ∀ x ∈ l, f x ∈ l) (hi : ∀ x ∈ l, ∀ y ∈ l, f x = f y → x = y) (p : α → Bool) : l.countP p = l.countP fun x => p (f x) := by
  rw [← (perm_of_inj hn hm hi).countP_eq p, List.countP_map]
  rfl
/-- each of l has one value in Y -/
theorem sum_fibers {α β : Type} [DecidableEq β] (f : α → β) {Y : List β} (hY : Y.Nodup) : ∀ l : List α, (Y.map fun y => l.countP fun x => decide (f x = y)).sum = l.countP fun x => decide (f x ∈ Y)
  | [] => by
    have : ∀ Y : List β, (Y.map fun y => ([] : List α).countP fun x => decide (f x = y)).sum = 0 := by
      intro Y
      induction Y with
      | nil => rfl
      | cons y Y ih => rw [List.map_cons, List.sum_cons, ih]; rfl
    exact this Y
  | x :: l => by
    have key : ∀ Y : List β, Y.Nodup → (Y.map fun y => (x :: l).countP fun x => decide (f x = y)).sum = (Y.map fun y => l.countP fun x => decide (f x = y)).sum + if f x ∈ Y then 1 else 0 := by
      intro Y
      induction Y with
      | nil => intro _; rfl
      | cons y Y ih =>
        intro hn
        obtain ⟨h1, h2⟩ := List.nodup_cons.mp hn
        rw [List.map_cons, List.map_cons, List.sum_cons, List.sum_cons, ih h2, List.countP_cons]
        by_cases e : f x = y
        · have n1 : f x ∉ Y := by rw [e]; exact h1
          rw [if_pos (by rw [e]; exact decide_eq_true rfl), if_neg n1, if_pos (by rw [e]; exact List.mem_cons_self ..)]
          omega
        · rw [if_neg (by rw [decide_eq_false e]; decide)]
          by_cases m : f x ∈ Y
          · rw [if_pos m, if_pos (List.mem_cons_of_mem _ m)]; omega
          · rw [if_neg m, if_neg (fun z => (List.mem_cons.mp z).elim e m)]; omega
    rw [key Y hY, sum_fibers f hY l, List.countP_cons]
    by_cases m : f x ∈ Y
    · rw [if_pos m, if_pos (decide_eq_true m)]
    · rw [if_neg m, if_neg (by rw [decide_eq_false m]; decide)]
theorem sum_const {α : Type} {f : α → Nat} {k : Nat} : ∀ {l : List α}, (∀ x ∈ l, f x = k) → (l.map f).sum = l.length * k
  | [], _ => by simp
  | x :: l, h => by
    rw [List.map_cons, List.sum_cons, h x (List.mem_cons_self ..), sum_const (l := l) fun y hy => h y (List.mem_cons_of_mem _ hy), List.length_cons, Nat.add_mul]
    omega
theorem sum_congr {α : Type} {f g : α → Nat} : ∀ {l : List α}, (∀ x ∈ l, f x = g x) → (l.map f).sum = (l.map g).sum
  | [], _ => rfl
  | x :: l, h => by rw [List.map_cons, List.map_cons, List.sum_cons, List.sum_cons, h x (List.mem_cons_self ..), sum_congr (l := l) fun y hy => h y (List.mem_cons_of_mem _ hy)]
theorem sum_all {α β : Type} [DecidableEq β] {f : α → β} {Y : List β} {l : List α} (hY : Y.Nodup) (hf : ∀ x ∈ l, f x ∈ Y) : (Y.map fun y => l.countP fun x => decide (f x = y)).sum = l.length := by
  rw [sum_fibers f hY, List.countP_eq_length]
  exact fun x hx => decide_eq_true (hf x hx)
/-- pairs counted either way -/
theorem count_swap {α β : Type} (p : α → β → Bool) : ∀ (X : List α) (Y : List β), (X.map fun x => Y.countP (p x)).sum = (Y.map fun y => X.countP fun x => p x y).sum
  | [], Y => by
    have : ∀ Y : List β, (Y.map fun y => ([] : List α).countP fun x => p x y).sum = 0 := by
      intro Y
      induction Y with
      | nil => rfl
      | cons y Y ih => rw [List.map_cons, List.sum_cons, ih]; rfl
    rw [this Y]; rfl
  | x :: X, Y => by
    rw [List.map_cons, List.sum_cons, count_swap p X Y]
    induction Y with
    | nil => rfl
    | cons y Y ih =>
      rw [List.map_cons, List.map_cons, List.sum_cons, List.sum_cons, List.countP_cons, List.countP_cons, ← ih]
      omega
/-! ### squares up to steps -/
/-- all reduced squares -/
structure Box (L : Bs) (X : List (Int × Int)) : Prop where
  ok : L.ok
  n : X.Nodup
  m : ∀ v, v ∈ X ↔ L.Rd v
theorem Box.red {L : Bs} {X : List (Int × Int)} (h : Box L X) (v : Int × Int) : L.red v ∈ X := (h.m _).mpr (Bs.red_rd h.ok v)
theorem Box.eq {L : Bs} {X : List (Int × Int)} (h : Box L X) {v w : Int × Int} (hv : v ∈ X) (hw : w ∈ X) (e : L.has (v.1 - w.1) (v.2 - w.2)) : v = w := Bs.rd_uniq h.ok ((h.m _).mp hv) ((h.m _).mp hw) e
abbrev plus (v w : Int × Int) : Int × Int := (v.1 + w.1, v.2 + w.2)
/-! ### what a member leaves -/
abbrev ps (k : Kd) (v : Int × Int) : Int × Int := (k.u v.1 v.2 - v.1, k.v v.1 v.2 - v.2)
/-! ### a group on the reduced squares -/
end M
namespace M
open PySem PySem.Spec PyProof.Rows L2 G
/-! ### all reduced squares of a basis of rank 2 -/
def sqL (a d : Int) : List (Int × Int) := (List.range a.toNat).flatMap fun x : Nat => (List.range d.toNat).map fun y : Nat => ((x : Int), (y : Int))
theorem sqL_len (a d : Int) : (sqL a d).length = a.toNat * d.toNat := by
  unfold sqL
  rw [List.length_flatMap, sum_const (k := d.toNat) (fun x _ => by rw [List.length_map, List.length_range]), List.length_range]
theorem sqL_box {a b d : Int} (ok : (Bs.b2 a b d).ok) : Box (.b2 a b d) (sqL a d) := by
  refine ⟨ok, ?_, fun v => ?_⟩
  · refine List.pairwise_flatMap.mpr ⟨fun x _ => ?_, ?_⟩
    · exact nodup_map List.nodup_range fun y _ z _ e => by
        have := congrArg Prod.snd e
        dsimp only at this
        omega
    · refine List.Pairwise.imp (fun {x y} h u hu w hw e => ?_) (List.nodup_iff_pairwise_ne.mp List.nodup_range)
      obtain ⟨_, _, rfl⟩ := List.mem_map.mp hu
      obtain ⟨_, _, rfl⟩ := List.mem_map.mp hw
      have := congrArg Prod.fst e
      dsimp only at this
      omega
  · unfold sqL
    rw [List.mem_flatMap]
    show _ ↔ (0 ≤ v.1 ∧ v.1 < a) ∧ (0 ≤ v.2 ∧ v.2 < d)
    constructor
    · rintro ⟨x, hx, hv⟩
      obtain ⟨y, hy, rfl⟩ := List.mem_map.mp hv
      have := List.mem_range.mp hx
      have := List.mem_range.mp hy
      dsimp only
      omega
    · rintro ⟨h1, h2⟩
      refine ⟨v.1.toNat, List.mem_range.mpr (by omega), List.mem_map.mpr ⟨v.2.toNat, List.mem_range.mpr (by omega), ?_⟩⟩
      obtain ⟨v1, v2⟩ := v
      simp only [Prod.mk.injEq]
      dsimp only at h1 h2
      omega
/-! ### the number that a member leaves -/
theorem ints_of (l : List Int) : intsD (l.map PyData.int) = some l := by
  induction l with
  | nil => rfl
  | cons a l ih => show (intsD (l.map PyData.int)).map _ = _; rw [ih]; rfl
theorem sum_ints (l : List Int) : sumD [.list (l.map PyData.int)] = some (.val (.int l.sum)) := by
  show (intsD (l.map PyData.int)).map _ = _
  rw [ints_of]
  rfl
theorem sum_cast (f : Sym → Nat) : ∀ l : List Sym, (l.map fun m => (f m : Int)).sum = ((l.map f).sum : Nat)
  | [] => rfl
  | m :: l => by rw [List.map_cons, List.sum_cons, sum_cast f l, List.map_cons, List.sum_cons]; omega
end M
namespace M
open PySem PySem.Spec PyProof.Rows L2 G
/-! ### closing a list under some maps -/
section bfs
variable {α β : Type} [DecidableEq β] (f : α → β → β)
def st1 (h : β) (s : List β × List β) (g : α) : List β × List β := if f g h ∈ s.1 then s else (s.1 ++ [f g h], s.2 ++ [f g h])
theorem nodup_snoc {l : List β} {x : β} (a : l.Nodup) (b : x ∉ l) : (l ++ [x]).Nodup := by
  rw [List.nodup_append]
  exact ⟨a, List.nodup_cons.mpr ⟨fun z => (nomatch z), List.nodup_nil⟩, fun y hy z hz => by
    rw [List.mem_singleton.mp hz]
    exact fun q => b (q ▸ hy)⟩
theorem st1_fold (P : β → Prop) (h : β) : ∀ (gs : List α) (s : List β × List β), s.1.Nodup → (∀ g ∈ gs, P (f g h)) → ∃ n, gs.foldl (st1 f h) s = (s.1 ++ n, s.2 ++ n) ∧ (s.1 ++ n).Nodup ∧ (∀ x ∈ n, P x) ∧ ∀ g ∈ gs, f g h ∈ s.1 ++ n
  | [], s, hs, _ => ⟨[], by simp, by simpa using hs, fun _ h => (nomatch h), fun _ h => (nomatch h)⟩
  | g :: gs, s, hs, hp => by
    rw [List.foldl_cons]
    by_cases hm : f g h ∈ s.1
    · have e : st1 f h s g = s := if_pos hm
      rw [e]
      obtain ⟨n, a, b, c, d⟩ := st1_fold P h gs s hs fun z hz => hp z (List.mem_cons_of_mem _ hz)
      refine ⟨n, a, b, c, fun z hz => ?_⟩
      rcases List.mem_cons.mp hz with rfl | hz
      · exact List.mem_append_left _ hm
      · exact d z hz
    · have e : st1 f h s g = (s.1 ++ [f g h], s.2 ++ [f g h]) := if_neg hm
      rw [e]
      obtain ⟨n, a, b, c, d⟩ := st1_fold P h gs (s.1 ++ [f g h], s.2 ++ [f g h]) (nodup_snoc hs hm) fun z hz => hp z (List.mem_cons_of_mem _ hz)
      dsimp only at a b d
      rw [List.append_assoc, List.append_assoc] at a
      rw [List.append_assoc] at b d
      refine ⟨[f g h] ++ n, a, b, fun x hx => ?_, fun z hz => ?_⟩
      · rcases List.mem_append.mp hx with hx | hx
        · rw [List.mem_singleton.mp hx]; exact hp g (List.mem_cons_self ..)
        · exact c x hx
      · rcases List.mem_cons.mp hz with rfl | hz
        · simp
        · exact d z hz
end bfs
theorem nodup_le {β : Type} [DecidableEq β] {F X : List β} (hF : F.Nodup) (hX : X.Nodup) (sub : ∀ x ∈ F, x ∈ X) : F.length ≤ X.length := by
  have : F.Perm (X.filter fun x => decide (x ∈ F)) := (List.perm_ext_iff_of_nodup hF (hX.filter _)).mpr fun x => by
    rw [List.mem_filter, decide_eq_true_eq]
    exact ⟨fun h => ⟨sub x h, h⟩, fun h => h.2⟩
  rw [this.length_eq]
  exact List.length_filter_le ..
/-! ### lists of vectors -/
/-! ### the reduced squares -/
/-! ### an orbit, spread by generators -/
/-! ### all orbits -/
end M
namespace M
open PySem PySem.Spec PyProof.Rows L2 G
/-! ### is_generators at any value; what describe, contains and generators_of refuse -/
/-! descriptions that are none -/
/-! texts that are no marks -/
end M
namespace M
open PySem PySem.Spec PyProof.Rows L2 G
open PySem.W (alike alikeAll)
/-! ### dicts whose keys are symmetries -/
structure DI (V : PyData → Prop) (n : Nat) (kvs : List (PyData × PyData)) : Prop where
  el : ∀ p ∈ kvs, (∃ s : Sym, p.1 = s.d) ∧ V p.2
  len : kvs.length ≤ n
abbrev symQ (s : Sym) : List Int := [s.k.i, s.x, s.y]
theorem tkey_sym (s : Sym) : tkey s.d = some (symQ s) := rfl
section
variable {V : PyData → Prop} {n : Nat} {kvs : List (PyData × PyData)}
theorem txget_mem {q : List Int} {d : PyData} : ∀ {kvs : List (PyData × PyData)}, txget kvs q = some d → ∃ k, (k, d) ∈ kvs
  | [], e => nomatch e
  | (k, x) :: r, e => by
    unfold txget at e
    split at e
    · cases e; exact ⟨k, List.mem_cons_self⟩
    · obtain ⟨k', h⟩ := txget_mem e
      exact ⟨k', List.mem_cons_of_mem _ h⟩
theorem DI.get {q : List Int} {d : PyData} (h : DI V n kvs) (e : txget kvs q = some d) : V d := by
  obtain ⟨k, hm⟩ := txget_mem e
  exact (h.el _ hm).2
theorem DI.getD {q : List Int} {d : PyData} (h : DI V n kvs) (hd : V d) : V ((txget kvs q).getD d) := by
  cases e : txget kvs q with
  | none => exact hd
  | some x => exact h.get e
theorem DI.put {s : Sym} {d : PyData} (h : DI V n kvs) (hd : V d) : DI V (n + 1) (txput kvs (symQ s) d) := by
  unfold txput
  split
  · refine ⟨fun p hp => ?_, by rw [List.length_map]; exact Nat.le_succ_of_le h.len⟩
    obtain ⟨p', hp', rfl⟩ := List.mem_map.mp hp
    have q := h.el p' hp'
    split
    · exact ⟨q.1, hd⟩
    · exact q
  · refine ⟨fun p hp => ?_, by rw [List.length_append]; exact Nat.succ_le_succ h.len⟩
    rcases List.mem_append.mp hp with q | q
    · exact h.el p q
    · rw [List.mem_singleton.mp q]
      exact ⟨⟨s, rfl⟩, hd⟩
theorem txput_ne {q : List Int} {d : PyData} (h : kvs ≠ []) : txput kvs q d ≠ [] := by
  unfold txput
  split
  · intro z; exact h (List.map_eq_nil_iff.mp z)
  · intro z; exact h (List.append_eq_nil_iff.mp z).1
theorem DI.mono {V' : PyData → Prop} {m : Nat} (h : DI V n kvs) (hv : ∀ d, V d → V' d) (hn : n ≤ m) : DI V' m kvs := ⟨fun p hp => ⟨(h.el p hp).1, hv _ (h.el p hp).2⟩, Nat.le_trans h.len hn⟩
theorem DI.upd {m : Nat} : ∀ {more kvs : List (PyData × PyData)} {n : Nat}, DI V n kvs → kvs ≠ [] → DI V m more → ∃ r, txupd kvs more = some r ∧ DI V (n + more.length) r ∧ r ≠ []
  | [], kvs, n, h, ne, _ => ⟨kvs, rfl, h, ne⟩
  | (k, d) :: r, kvs, n, h, ne, hm => by
    obtain ⟨⟨s, e⟩, hd⟩ := hm.el (k, d) List.mem_cons_self
    have e : k = s.d := e
    subst e
    obtain ⟨r', e', h', ne'⟩ := DI.upd (more := r) (h.put (s := s) hd) (txput_ne (q := symQ s) (d := d) ne) ⟨fun p hp => hm.el p (List.mem_cons_of_mem _ hp), Nat.le_trans (Nat.le_succ _) hm.len⟩
    refine ⟨r', ?_, h'.mono (fun _ z => z) (by rw [List.length_cons]; omega), ne'⟩
    show (tkey s.d).bind (fun q => txupd (txput kvs q d) r) = some r'
    rw [tkey_sym]
    exact e'
end
/-! ### words -/
abbrev letD (p : Int × Int) : PyData := .tuple [.int p.1, .int p.2]
def wordD (l : List (Int × Int)) : PyData := .tuple (l.map letD)
def Wo (m : Nat) (d : PyData) : Prop := ∃ l : List (Int × Int), l.length ≤ m ∧ (∀ p ∈ l, p.1.natAbs ≤ 10 ∧ p.2.natAbs ≤ 10) ∧ d = wordD l
theorem Wo.mono {m m' : Nat} {d : PyData} (h : Wo m d) (hm : m ≤ m') : Wo m' d := by
  obtain ⟨l, h1, h2, h3⟩ := h
  exact ⟨l, Nat.le_trans h1 hm, h2, h3⟩
theorem prod_d (s t : Sym) : F_product_of [.val s.d, .val t.d] = .ok (.val (s.mul t).d, [.un, .un]) := product_of_ok
/-! ### longer_words -/
/-! ### shortest_word_by -/
/-! ### counts_after -/
def Nu (m : Nat) (d : PyData) : Prop := ∃ k : Nat, k ≤ m ∧ d = .int (k : Int)
theorem Nu.mono {m m' : Nat} {d : PyData} (h : Nu m d) (hm : m ≤ m') : Nu m' d := by
  obtain ⟨k, h1, h2⟩ := h
  exact ⟨k, Nat.le_trans h1 hm, h2⟩
/-! ### letters -/
/-! ### the two functions -/
end M
namespace M
open PySem PySem.Spec PyProof.Rows L2 G
/-! ### dicts whose keys are squares -/
abbrev VK := List ((Int × Int) × PyData)
def look : VK → Int × Int → Option PyData
  | [], _ => none
  | p :: l, v => if p.1 = v then some p.2 else look l v
def put (l : VK) (v : Int × Int) (d : PyData) : VK := if (look l v).isSome = true then l.map (fun p => if p.1 = v then (p.1, d) else p) else l ++ [(v, d)]
theorem tkey_vd (v : Int × Int) : tkey (vd v) = some [v.1, v.2] := rfl
theorem two_eq {a b c d : Int} : some [a, b] = some [c, d] ↔ (a, b) = (c, d) := by
  simp
theorem look_none {l : VK} {v : Int × Int} (h : look l v = none) : ∀ p ∈ l, p.1 ≠ v := by
  induction l with
  | nil => exact fun _ h => (nomatch h)
  | cons p l ih =>
    unfold look at h
    split at h
    · cases h
    · rename_i hp
      intro q hq
      rcases List.mem_cons.mp hq with rfl | hq
      · exact hp
      · exact ih h q hq
theorem look_app {l m : VK} {v : Int × Int} : look (l ++ m) v = (look l v).or (look m v) := by
  induction l with
  | nil => simp [look]
  | cons p l ih =>
    show (if p.1 = v then some p.2 else look (l ++ m) v) = (if p.1 = v then some p.2 else look l v).or (look m v)
    by_cases h : p.1 = v
    · rw [if_pos h, if_pos h]; rfl
    · rw [if_neg h, if_neg h, ih]
/-! ### the law's orbits -/
theorem law_image_vd (g : Sym) (v : Int × Int) : F__law_image_2 [.val g.d, .val (vd v)] = .ok (.val (vd (g.im v)), [.un, .un]) := law_image_2_ok
def Bx (n : Int) (v : Int × Int) : Prop := (0 ≤ v.1 ∧ v.1 < n) ∧ 0 ≤ v.2 ∧ v.2 < n
/-! the search from one spot -/
structure Srch (gs : List Sym) (n : Int) (s : Int × Int) (F0 : VK) (N W : List (Int × Int)) : Prop where
  nd : N.Nodup
  new : ∀ v ∈ N, look F0 v = none
  rn : ∀ v ∈ N, Rch gs n s v
  rw' : ∀ v ∈ W, Rch gs n s v
  st : (look F0 s).isSome = true ∨ s ∈ N ∨ s ∈ W
  cl : ∀ v ∈ N, ∀ g ∈ gs, (look F0 (wr n (g.im v))).isSome = true ∨ wr n (g.im v) ∈ N ∨ wr n (g.im v) ∈ W
theorem look_new {F0 : VK} {N : List (Int × Int)} {d : PyData} {v : Int × Int} : look (F0 ++ N.map fun v => (v, d)) v = (look F0 v).or (if v ∈ N then some d else none) := by
  rw [look_app]
  congr 1
  induction N with
  | nil => rfl
  | cons a N ih =>
    show (if a = v then some d else look (N.map fun v => (v, d)) v) = _
    by_cases h : a = v
    · rw [if_pos h, if_pos (by rw [h]; exact List.mem_cons_self)]
    · rw [if_neg h, ih]
      by_cases h2 : v ∈ N
      · rw [if_pos h2, if_pos (List.mem_cons_of_mem _ h2)]
      · rw [if_neg h2, if_neg fun z => by rcases List.mem_cons.mp z with q | q; exact h q.symm; exact h2 q]
/-- all spots so far -/
structure OSt (gs : List Sym) (n : Int) (F : VK) (P : List (Int × Int)) : Prop where
  el : ∀ v d, look F v = some d → ∃ c, d = vd c ∧ Bx n c ∧ Bx n v ∧ Rch gs n c v
  cl : ∀ v, (look F v).isSome = true → ∀ g ∈ gs, (look F (wr n (g.im v))).isSome = true
  same : ∀ v w c c', look F v = some (vd c) → look F w = some (vd c') → Rch gs n v w → c = c'
  dn : ∀ s ∈ P, (look F s).isSome = true
  nd : (F.map (·.1)).Nodup
  bx : ∀ p ∈ F, Bx n p.1
theorem OSt.rch {gs : List Sym} {n : Int} {F : VK} {P : List (Int × Int)} (O : OSt gs n F P) {v w : Int × Int} (h : (look F v).isSome = true) (r : Rch gs n v w) : (look F w).isSome = true := by
  induction r with
  | refl => exact h
  | step _ hg ih => exact O.cl _ ih _ hg
theorem OSt.len {gs : List Sym} {m : Nat} {F : VK} {P : List (Int × Int)} (hm : 0 < m) (hm2 : m ≤ 12) (O : OSt gs m F P) : F.length ≤ 144 := by
  have hn : (0 : Int) < m := by omega
  have bx : Box (.b2 m 0 m) (sqL m m) := sqL_box ⟨hn, Int.le_refl _, hn⟩
  have bm : ∀ v, v ∈ sqL m m ↔ Bx m v := fun v => bx.m v
  have bl : (sqL m m).length ≤ 144 := by
    rw [sqL_len, Int.toNat_natCast]
    exact Nat.mul_le_mul hm2 hm2
  have := nodup_le O.nd bx.n fun x hx => (bm x).mpr (by
    obtain ⟨p, hp, rfl⟩ := List.mem_map.mp hx
    exact O.bx p hp)
  rw [List.length_map] at this
  omega
theorem OSt.step {gs : List Sym} {m : Nat} (hm : 0 < m) {F : VK} {P N : List (Int × Int)} {s : Int × Int} (hs : Bx m s) (O : OSt gs m F P) (S : Srch gs m s F N []) : OSt gs m (F ++ N.map fun v => (v, vd s)) (P ++ [s]) := by
  have hn : (0 : Int) < m := by omega
  have lk : ∀ v d, look (F ++ N.map fun v => (v, vd s)) v = some d → look F v = some d ∨ (look F v = none ∧ v ∈ N ∧ d = vd s) := fun v d h => by
    rw [look_new] at h
    cases q : look F v with
    | some x => rw [q] at h; exact .inl h
    | none =>
      rw [q] at h
      by_cases z : v ∈ N
      · rw [if_pos z] at h
        exact .inr ⟨rfl, z, (Option.some.inj h).symm⟩
      · rw [if_neg z] at h; cases h
  have some_iff : ∀ v, (look (F ++ N.map fun v => (v, vd s)) v).isSome = true ↔ (look F v).isSome = true ∨ v ∈ N := fun v => by
    rw [look_new]
    cases q : look F v with
    | some x => simp
    | none =>
      by_cases z : v ∈ N
      · rw [if_pos z]; simp [z]
      · rw [if_neg z]; simp [z]
  have no : ∀ v ∈ N, ∀ w, (look F w).isSome = true → ¬ Rch gs m v w := fun v hv w hw r => by
    have r2 := Rch.symm hm (Rch.bd hn hs (S.rn v hv)) r
    have := O.rch hw r2
    rw [S.new v hv] at this
    cases this
  refine ⟨fun v d h => ?_, fun v h g hg => ?_, fun v w c c' h1 h2 r => ?_, fun x hx => ?_, ?_, fun p hp => ?_⟩
  · rcases lk v d h with q | ⟨_, q, rfl⟩
    · exact O.el v d q
    · exact ⟨s, rfl, hs, Rch.bd hn hs (S.rn v q), S.rn v q⟩
  · refine (some_iff _).mpr ?_
    rcases (some_iff v).mp h with q | q
    · exact .inl (O.cl v q g hg)
    · rcases S.cl v q g hg with z | z | z
      · exact .inl z
      · exact .inr z
      · cases z
  · rcases lk v _ h1 with q1 | ⟨_, q1, e1⟩
    · rcases lk w _ h2 with q2 | ⟨_, q2, e2⟩
      · exact O.same v w c c' q1 q2 r
      · exact (no w q2 v (by rw [q1]; rfl) (Rch.symm hm (by
          obtain ⟨_, _, _, hb, _⟩ := O.el v _ q1
          exact hb) r)).elim
    · rcases lk w _ h2 with q2 | ⟨_, q2, e2⟩
      · exact (no v q1 w (by rw [q2]; rfl) r).elim
      · rw [vd_inj e1, vd_inj e2]
  · refine (some_iff _).mpr ?_
    rcases List.mem_append.mp hx with q | q
    · exact .inl (O.dn x q)
    · rw [List.mem_singleton.mp q]
      rcases S.st with z | z | z
      · exact .inl z
      · exact .inr z
      · cases z
  · rw [List.map_append, List.map_map]
    have e : N.map ((fun p : (Int × Int) × PyData => p.1) ∘ fun v => (v, vd s)) = N := by rw [show ((fun p : (Int × Int) × PyData => p.1) ∘ fun v : Int × Int => (v, vd s)) = id from rfl, List.map_id]
    rw [e]
    refine List.nodup_append.mpr ⟨O.nd, S.nd, fun a ha b hb z => ?_⟩
    subst z
    obtain ⟨p, hp, rfl⟩ := List.mem_map.mp ha
    exact look_none (S.new _ hb) p hp rfl
  · rcases List.mem_append.mp hp with q | q
    · exact O.bx p q
    · obtain ⟨v, hv, rfl⟩ := List.mem_map.mp q
      exact Rch.bd hn hs (S.rn v hv)
end M
namespace M
open PySem PySem.Spec PyProof.Rows L2 G
/-! ### dicts whose keys are symmetries, all True -/
def TS (F : List Sym) : List (PyData × PyData) := F.map fun s => (s.d, .bool true)
theorem symQ_inj {s t : Sym} (h : symQ s = symQ t) : s = t := row_inj h
theorem TS_txd (F : List Sym) : txd (TS F) = true := by cases F <;> rfl
theorem TS_get (s : Sym) : ∀ F : List Sym, txget (TS F) (symQ s) = if s ∈ F then some (.bool true) else none
  | [] => rfl
  | t :: F => by
    show (if tkey t.d = some (symQ s) then some (.bool true) else txget (TS F) (symQ s)) = _
    rw [TS_get s F, tkey_sym]
    by_cases h : t = s
    · rw [if_pos (by rw [h]), if_pos (by rw [h]; exact List.mem_cons_self)]
    · rw [if_neg fun z => h (symQ_inj (Option.some.inj z))]
      by_cases h2 : s ∈ F
      · rw [if_pos h2, if_pos (List.mem_cons_of_mem _ h2)]
      · rw [if_neg h2, if_neg fun z => by rcases List.mem_cons.mp z with q | q; exact h q.symm; exact h2 q]
theorem TS_nin (F : List Sym) (s : Sym) : ninXD s.d (.dict (TS F)) = some (.val (.bool (decide (s ∉ F)))) := by
  show (if txd (TS F) = true then some (Ev.val (.bool (!(txget (TS F) (symQ s)).isSome))) else none) = _
  rw [if_pos (TS_txd F), TS_get]
  by_cases h : s ∈ F
  · rw [if_pos h]; simp [h]
  · rw [if_neg h]; simp [h]
theorem TS_set {F : List Sym} {s : Sym} (hs : s ∉ F) (h : F.length < 1000000) : setXD (.dict (TS F)) s.d (.bool true) = some (.dict (TS (F ++ [s]))) := by
  show (if txd (TS F) = true ∧ (TS F).length < 1000000 then some (PyData.dict (txput (TS F) (symQ s) (.bool true))) else none) = _
  rw [if_pos ⟨TS_txd F, by unfold TS; rw [List.length_map]; exact h⟩]
  unfold txput
  rw [TS_get, if_neg hs]
  unfold TS
  rw [List.map_append]
  rfl
/-! ### the law's group on the torus -/
/-! all symmetries of the torus -/
def symL (m : Nat) : List Sym := kd8.flatMap fun k => (sqL m m).map fun v => ⟨k, v.1, v.2⟩
theorem sqLs (m : Nat) (hm : 0 < m) (hm2 : m ≤ 12) : (sqL m m).Nodup ∧ (∀ v, v ∈ sqL m m ↔ Bx m v) ∧ (sqL m m).length ≤ 144 := by
  have hn : (0 : Int) < m := by omega
  have bx : Box (.b2 m 0 m) (sqL m m) := sqL_box ⟨hn, Int.le_refl _, hn⟩
  refine ⟨bx.n, fun v => bx.m v, ?_⟩
  rw [sqL_len, Int.toNat_natCast]
  exact Nat.mul_le_mul hm2 hm2
theorem symL_ok {m : Nat} (hm : 0 < m) (hm2 : m ≤ 12) : (symL m).Nodup ∧ (∀ s : Sym, Bx m (s.x, s.y) → s ∈ symL m) ∧ (symL m).length ≤ 1152 := by
  obtain ⟨nd, mem, len⟩ := sqLs m hm hm2
  refine ⟨?_, fun s hs => ?_, ?_⟩
  · refine List.pairwise_flatMap.mpr ⟨fun k _ => ?_, ?_⟩
    · refine List.pairwise_map.mpr (nd.imp fun {a b} h z => h ?_)
      injection z with _ z1 z2
      exact Prod.ext z1 z2
    · have : kd8.Pairwise (· ≠ ·) := by decide
      refine this.imp fun {a b} h x hx y hy z => h ?_
      obtain ⟨_, _, rfl⟩ := List.mem_map.mp hx
      obtain ⟨_, _, rfl⟩ := List.mem_map.mp hy
      injection z with z1 _ _
  · exact List.mem_flatMap.mpr ⟨s.k, kd8_all _, List.mem_map.mpr ⟨(s.x, s.y), (mem _).mpr hs, rfl⟩⟩
  · unfold symL kd8
    simp only [List.flatMap_cons, List.flatMap_nil, List.length_append, List.length_map, List.length_nil]
    omega
theorem ne_syms (W : List Sym) : neD (.list (W.map Sym.d)) (.list []) = some (.val (.bool (!W.isEmpty))) := by
  rw [d_neX (shN_lst.trans (shA_map fun _ => rfl)) (by decide)]
  cases W <;> rfl
end M
namespace M
/-! ### counting orbits -/
section
variable {γ α : Type} [DecidableEq γ] [DecidableEq α]
/-- a finite group that acts on a finite list -/
structure Act (T : List γ) (m : γ → γ → γ) (act : γ → α → α) (X : List α) : Prop where
  nd : T.Nodup
  cl : ∀ s ∈ T, ∀ t ∈ T, m s t ∈ T
  can : ∀ s ∈ T, ∀ t ∈ T, ∀ u ∈ T, m s t = m s u → t = u
  st : ∀ s ∈ T, ∀ x ∈ X, act s x ∈ X
  ml : ∀ s ∈ T, ∀ t ∈ T, ∀ x ∈ X, act (m s t) x = act t (act s x)
  un : ∃ e ∈ T, ∀ x ∈ X, act e x = x
  iv : ∀ s ∈ T, ∃ t ∈ T, ∀ x ∈ X, act t (act s x) = x
def stb (T : List γ) (act : γ → α → α) (x : α) : Nat := T.countP fun s => decide (act s x = x)
def ssum (T : List γ) (act : γ → α → α) (X : List α) : Nat := (X.map (stb T act)).sum
variable {T : List γ} {m : γ → γ → γ} {act : γ → α → α} {X : List α}
theorem Act.sub {Y : List α} (h : Act T m act X) (hs : ∀ y ∈ Y, y ∈ X) (hc : ∀ s ∈ T, ∀ y ∈ Y, act s y ∈ Y) : Act T m act Y :=
  ⟨h.nd, h.cl, h.can, hc, fun s hs' t ht x hx => h.ml s hs' t ht x (hs x hx), let ⟨e, h1, h2⟩ := h.un; ⟨e, h1, fun x hx => h2 x (hs x hx)⟩, fun s hs' => let ⟨t, h1, h2⟩ := h.iv s hs'; ⟨t, h1, fun x hx => h2 x (hs x hx)⟩⟩
/-- over one orbit -/
theorem Act.orbit (h : Act T m act X) {x : α} (hx : x ∈ X) {O : List α} (hn : O.Nodup) (hO : ∀ y, y ∈ O ↔ ∃ s ∈ T, act s x = y) : ssum T act O = T.length := by
  have e1 : ssum T act O = (O.map fun y => T.countP fun s => decide (act s x = y)).sum := sum_congr fun y hy => by
    obtain ⟨g, hg, ey⟩ := (hO y).mp hy
    have e2 : (T.countP fun s => decide (act s x = y)) = T.countP fun s => decide (act (m g s) x = y) :=
      countP_perm h.nd (f := fun s => m g s) (fun s hs => h.cl g hg s hs) (fun s hs t ht e => h.can g hg s hs t ht e) fun s => decide (act s x = y)
    rw [e2]
    refine List.countP_congr fun s hs => ?_
    rw [decide_eq_true_eq, decide_eq_true_eq, h.ml g hg s hs x hx, ey]
  rw [e1]
  exact sum_all hn fun s hs => (hO _).mpr ⟨s, hs, rfl⟩
theorem ssum_split (p : α → Bool) : ∀ l : List α, ssum T act l = ssum T act (l.filter p) + ssum T act (l.filter fun x => !p x)
  | [] => rfl
  | x :: l => by
    have ih := ssum_split p l
    unfold ssum at *
    cases h : p x
    · rw [List.filter_cons_of_neg (by rw [h]; decide), List.filter_cons_of_pos (by rw [h]; rfl), List.map_cons, List.map_cons, List.sum_cons, List.sum_cons, ih]
      omega
    · rw [List.filter_cons_of_pos h, List.filter_cons_of_neg (by rw [h]; decide), List.map_cons, List.map_cons, List.sum_cons, List.sum_cons, ih]
      omega
def inOrb (T : List γ) (act : γ → α → α) (x y : α) : Bool := T.any fun s => decide (act s x = y)
theorem inOrb_iff {x y : α} : inOrb T act x y = true ↔ ∃ s ∈ T, act s x = y := by
  unfold inOrb
  rw [List.any_eq_true]
  constructor
  · rintro ⟨s, hs, e⟩; exact ⟨s, hs, of_decide_eq_true e⟩
  · rintro ⟨s, hs, e⟩; exact ⟨s, hs, decide_eq_true e⟩
theorem Act.rest (h : Act T m act X) {x : α} (hx : x ∈ X) : (∀ s ∈ T, ∀ y ∈ X.filter (inOrb T act x), act s y ∈ X.filter (inOrb T act x)) ∧ ∀ s ∈ T, ∀ y ∈ X.filter (fun y => !inOrb T act x y), act s y ∈ X.filter fun y => !inOrb T act x y := by
  refine ⟨fun s hs y hy => ?_, fun s hs y hy => ?_⟩
  · rw [List.mem_filter] at hy ⊢
    refine ⟨h.st s hs y hy.1, ?_⟩
    obtain ⟨g, hg, e⟩ := inOrb_iff.mp hy.2
    exact inOrb_iff.mpr ⟨m g s, h.cl g hg s hs, by rw [h.ml g hg s hs x hx, e]⟩
  · rw [List.mem_filter] at hy ⊢
    refine ⟨h.st s hs y hy.1, ?_⟩
    have hy2 := hy.2
    rw [Bool.not_eq_true', Bool.eq_false_iff] at hy2 ⊢
    intro z
    obtain ⟨g, hg, e⟩ := inOrb_iff.mp z
    obtain ⟨t, ht, e2⟩ := h.iv s hs
    refine hy2 (inOrb_iff.mpr ⟨m g t, h.cl g hg t ht, ?_⟩)
    rw [h.ml g hg t ht x hx, e, e2 y hy.1]
theorem Act.orbF (h : Act T m act X) {x : α} (hx : x ∈ X) (hn : X.Nodup) : ssum T act (X.filter (inOrb T act x)) = T.length :=
  h.orbit hx (hn.filter _) fun y => by
    rw [List.mem_filter, inOrb_iff]
    constructor
    · exact fun z => z.2
    · rintro ⟨s, hs, rfl⟩
      exact ⟨h.st s hs x hx, s, hs, rfl⟩
theorem filter_lt {p : α → Bool} {x : α} {l : List α} (hx : x ∈ l) (hp : p x = true) : (l.filter fun y => !p y).length < l.length := by
  induction l with
  | nil => cases hx
  | cons a l ih =>
    rcases List.mem_cons.mp hx with rfl | hx
    · rw [List.filter_cons_of_neg (by rw [hp]; decide), List.length_cons]
      exact Nat.lt_succ_of_le (List.length_filter_le _ _)
    · have := ih hx
      cases h : p a
      · rw [List.filter_cons_of_pos (by rw [h]; rfl), List.length_cons, List.length_cons]; omega
      · rw [List.filter_cons_of_neg (by rw [h]; decide), List.length_cons]; omega
/-- as often as the group has members, for each orbit -/
theorem Act.divides (h : Act T m act X) (hn : X.Nodup) : ∃ k, ssum T act X = T.length * k ∧ (X ≠ [] → 1 ≤ k) := by
  have key : ∀ n : Nat, ∀ Y : List α, Y.length ≤ n → Act T m act Y → Y.Nodup → ∃ k, ssum T act Y = T.length * k ∧ (Y ≠ [] → 1 ≤ k) := fun n => by
    induction n with
    | zero =>
      intro Y hl _ _
      have : Y = [] := List.eq_nil_of_length_eq_zero (by omega)
      subst this
      exact ⟨0, rfl, fun z => (z rfl).elim⟩
    | succ n ih =>
      intro Y hl hA hN
      cases Y with
      | nil => exact ⟨0, rfl, fun z => (z rfl).elim⟩
      | cons x Y =>
        have hx : x ∈ x :: Y := List.mem_cons_self
        have hxx : inOrb T act x x = true := by
          obtain ⟨e, he, h2⟩ := hA.un
          exact inOrb_iff.mpr ⟨e, he, h2 x hx⟩
        have hl2 := filter_lt hx hxx
        obtain ⟨k, hk, _⟩ := ih ((x :: Y).filter fun y => !inOrb T act x y) (by omega) (hA.sub (fun y hy => (List.mem_filter.mp hy).1) (hA.rest hx).2) (hN.filter _)
        refine ⟨k + 1, ?_, fun _ => Nat.succ_le_succ (Nat.zero_le _)⟩
        rw [ssum_split (inOrb T act x), hA.orbF hx hN, hk, Nat.mul_add, Nat.mul_one, Nat.add_comm]
  exact key X.length X (Nat.le_refl _) h hn
/-- a larger group has no more orbits -/
theorem Act.more {T' : List γ} (h : Act T m act X) (h' : Act T' m act X) (hs : ∀ s ∈ T, s ∈ T') (hn : X.Nodup) : ∃ k k', ssum T act X = T.length * k ∧ ssum T' act X = T'.length * k' ∧ k' ≤ k := by
  have key : ∀ n : Nat, ∀ Y : List α, Y.length ≤ n → Act T m act Y → Act T' m act Y → Y.Nodup → ∃ k k', ssum T act Y = T.length * k ∧ ssum T' act Y = T'.length * k' ∧ k' ≤ k := fun n => by
    induction n with
    | zero =>
      intro Y hl _ _ _
      have : Y = [] := List.eq_nil_of_length_eq_zero (by omega)
      subst this
      exact ⟨0, 0, rfl, rfl, Nat.le_refl _⟩
    | succ n ih =>
      intro Y hl hA hA' hN
      cases Y with
      | nil => exact ⟨0, 0, rfl, rfl, Nat.le_refl _⟩
      | cons x Y =>
        have hx : x ∈ x :: Y := List.mem_cons_self
        have hxx : inOrb T' act x x = true := by
          obtain ⟨e, he, h2⟩ := hA'.un
          exact inOrb_iff.mpr ⟨e, he, h2 x hx⟩
        have hl2 := filter_lt hx hxx
        have r := hA'.rest hx
        have aO : Act T m act ((x :: Y).filter (inOrb T' act x)) := hA.sub (fun y hy => (List.mem_filter.mp hy).1) fun s hs' => r.1 s (hs s hs')
        have aZ : Act T m act ((x :: Y).filter fun y => !inOrb T' act x y) := hA.sub (fun y hy => (List.mem_filter.mp hy).1) fun s hs' => r.2 s (hs s hs')
        have aZ' : Act T' m act ((x :: Y).filter fun y => !inOrb T' act x y) := hA'.sub (fun y hy => (List.mem_filter.mp hy).1) r.2
        obtain ⟨k, k', e1, e2, hk⟩ := ih _ (by omega) aZ aZ' (hN.filter _)
        obtain ⟨j, e3, hj⟩ := aO.divides (hN.filter _)
        have hj1 := hj fun z => by
          have : x ∈ (x :: Y).filter (inOrb T' act x) := List.mem_filter.mpr ⟨hx, hxx⟩
          rw [z] at this
          cases this
        refine ⟨j + k, 1 + k', ?_, ?_, by omega⟩
        · rw [ssum_split (inOrb T' act x), e3, e1, Nat.mul_add]
        · rw [ssum_split (inOrb T' act x), hA'.orbF hx hN, e2, Nat.mul_add, Nat.mul_one]
  exact key X.length X (Nat.le_refl _) h h' hn
theorem ssum_swap : ssum T act X = (T.map fun s => X.countP fun x => decide (act s x = x)).sum := count_swap (fun x s => decide (act s x = x)) X T
end
/-! ### colourings -/
section
variable {κ : Type} [DecidableEq κ]
def setF (f : κ → Nat) (v : κ) (k : Nat) : κ → Nat := fun u => if u = v then k else f u
/-- all colourings of the places -/
def cols (c : Nat) : List κ → List (κ → Nat)
  | [] => [fun _ => 0]
  | v :: X => (cols c X).flatMap fun f => (List.range c).map (setF f v)
theorem cols_mem {c : Nat} : ∀ {X : List κ}, X.Nodup → ∀ f : κ → Nat, f ∈ cols c X ↔ (∀ v ∈ X, f v < c) ∧ ∀ v, v ∉ X → f v = 0
  | [], _, f => by
    simp only [cols, List.mem_singleton]
    constructor
    · rintro rfl; exact ⟨fun _ h => (nomatch h), fun _ _ => rfl⟩
    · intro h; funext v; exact h.2 v (fun z => nomatch z)
  | v :: X, hn, f => by
    have hn := List.nodup_cons.mp hn
    simp only [cols, List.mem_flatMap, List.mem_map, List.mem_range]
    constructor
    · rintro ⟨g, hg, k, hk, rfl⟩
      obtain ⟨h1, h2⟩ := (cols_mem hn.2 g).mp hg
      refine ⟨fun u hu => ?_, fun u hu => ?_⟩
      · unfold setF
        split
        · exact hk
        · rename_i hne
          exact h1 u (by rcases List.mem_cons.mp hu with q | q; exact (hne q).elim; exact q)
      · unfold setF
        rw [if_neg fun z => hu (by rw [z]; exact List.mem_cons_self)]
        exact h2 u fun z => hu (List.mem_cons_of_mem _ z)
    · rintro ⟨h1, h2⟩
      refine ⟨setF f v 0, (cols_mem hn.2 _).mpr ⟨fun u hu => ?_, fun u hu => ?_⟩, f v, h1 v List.mem_cons_self, ?_⟩
      · unfold setF
        rw [if_neg fun z => hn.1 (by rw [← z]; exact hu)]
        exact h1 u (List.mem_cons_of_mem _ hu)
      · unfold setF
        split
        · rfl
        · rename_i hne
          exact h2 u fun z => by rcases List.mem_cons.mp z with q | q; exact hne q; exact hu q
      · funext u
        unfold setF
        by_cases e : u = v
        · rw [if_pos e, e]
        · rw [if_neg e, if_neg e]
theorem cols_nodup {c : Nat} : ∀ {X : List κ}, X.Nodup → (cols c X).Nodup
  | [], _ => by simp [cols]
  | v :: X, hn => by
    have hn := List.nodup_cons.mp hn
    have zero : ∀ f ∈ cols c X, f v = 0 := fun f hf => ((cols_mem hn.2 f).mp hf).2 v hn.1
    refine List.pairwise_flatMap.mpr ⟨fun f hf => ?_, ?_⟩
    · refine List.pairwise_map.mpr (List.nodup_range.imp fun {a b} h z => h ?_)
      have := congrFun z v
      unfold setF at this
      rw [if_pos rfl, if_pos rfl] at this
      exact this
    · refine (cols_nodup hn.2).imp_of_mem fun {f g} hf hg hne x hx y hy z => hne ?_
      obtain ⟨a, _, rfl⟩ := List.mem_map.mp hx
      obtain ⟨b, _, rfl⟩ := List.mem_map.mp hy
      funext u
      by_cases e : u = v
      · rw [e, zero f hf, zero g hg]
      · have := congrFun z u
        unfold setF at this
        rw [if_neg e, if_neg e] at this
        exact this
theorem cols_len {c : Nat} : ∀ X : List κ, (cols c X).length = c ^ X.length
  | [] => rfl
  | v :: X => by
    have : ∀ l : List (κ → Nat), (l.flatMap fun f => (List.range c).map (setF f v)).length = l.length * c := fun l => by
      induction l with
      | nil => simp
      | cons f l ih => rw [List.flatMap_cons, List.length_append, ih, List.length_map, List.length_range, List.length_cons, Nat.add_mul]; omega
    show ((cols c X).flatMap fun f => (List.range c).map (setF f v)).length = _
    rw [this, cols_len X, List.length_cons, Nat.pow_succ]
/-- the colourings that agree with a place that each place leans on -/
def agree (r : κ → κ) (X : List κ) (f : κ → Nat) : Bool := X.all fun v => decide (f v = f (r v))
theorem count_one {n a : Nat} (h : a < n) : (List.range n).countP (fun k => decide (k = a)) = 1 := by
  have key : ∀ n : Nat, (List.range n).countP (fun k => decide (k = a)) = if a < n then 1 else 0 := fun n => by
    induction n with
    | zero => rfl
    | succ n ih =>
      rw [List.range_succ, List.countP_append, ih, List.countP_singleton]
      by_cases h1 : a < n <;> by_cases h2 : n = a <;> simp [h1, h2] <;> omega
  rw [key, if_pos h]
theorem cols_agree {c : Nat} {r : κ → κ} : ∀ {X : List κ}, X.Nodup → (∀ Y v Z, X = Y ++ v :: Z → r v = v ∨ r v ∈ Z) → (cols c X).countP (agree r X) = c ^ X.countP fun v => decide (r v = v)
  | [], _, _ => rfl
  | v :: X, hn, hr => by
    have hn' := List.nodup_cons.mp hn
    have ih := cols_agree (c := c) (r := r) hn'.2 fun Y u Z e => by
      rcases hr (v :: Y) u Z (by rw [e]; rfl) with q | q
      · exact .inl q
      · exact .inr q
    have hrX : ∀ u ∈ X, r u ≠ v := fun u hu z => by
      obtain ⟨Y, Z, e⟩ := List.append_of_mem hu
      rcases hr (v :: Y) u Z (by rw [e]; rfl) with q | q
      · rw [q] at z; rw [z] at hu; exact hn'.1 hu
      · rw [z] at q; exact hn'.1 (by rw [e]; exact List.mem_append_right _ (List.mem_cons_of_mem _ q))
    have hag : ∀ f k, agree r X (setF f v k) = agree r X f := fun f k => by
      unfold agree
      rw [Bool.eq_iff_iff, List.all_eq_true, List.all_eq_true]
      have : ∀ u ∈ X, (setF f v k u = setF f v k (r u)) ↔ f u = f (r u) := fun u hu => by
        unfold setF
        rw [if_neg fun z => hn'.1 (by rw [← z]; exact hu), if_neg (hrX u hu)]
      exact ⟨fun h u hu => decide_eq_true ((this u hu).mp (of_decide_eq_true (h u hu))), fun h u hu => decide_eq_true ((this u hu).mpr (of_decide_eq_true (h u hu)))⟩
    have hcons : ∀ f k, agree r (v :: X) (setF f v k) = (decide (setF f v k v = setF f v k (r v)) && agree r X f) := fun f k => by
      rw [← hag f k]
      rfl
    have cnt : ∀ (p : (κ → Nat) → Nat → Bool) (l : List (κ → Nat)), (l.flatMap fun f => (List.range c).map (setF f v)).countP (agree r (v :: X)) = (l.map fun f => (List.range c).countP fun k => agree r (v :: X) (setF f v k)).sum := fun _ l => by
      induction l with
      | nil => rfl
      | cons f l ih =>
        rw [List.flatMap_cons, List.countP_append, ih, List.map_cons, List.sum_cons, List.countP_map]
        rfl
    show ((cols c X).flatMap fun f => (List.range c).map (setF f v)).countP (agree r (v :: X)) = _
    rw [cnt (fun _ _ => true), List.countP_cons]
    have sumk : ∀ (q : Nat) (l : List (κ → Nat)), (∀ f ∈ l, ((List.range c).countP fun k => agree r (v :: X) (setF f v k)) = if agree r X f = true then q else 0) → (l.map fun f => (List.range c).countP fun k => agree r (v :: X) (setF f v k)).sum = l.countP (agree r X) * q := fun q l => by
      induction l with
      | nil => intro _; simp
      | cons f l ih2 =>
        intro h
        rw [List.map_cons, List.sum_cons, ih2 fun g hg => h g (List.mem_cons_of_mem _ hg), h f List.mem_cons_self, List.countP_cons]
        cases hb : agree r X f
        · simp
        · simp only [if_true]; rw [Nat.add_mul]; omega
    by_cases hv : r v = v
    · rw [sumk c (cols c X) fun f hf => ?_, ih, if_pos (decide_eq_true hv), Nat.pow_succ]
      have : ∀ k, agree r (v :: X) (setF f v k) = agree r X f := fun k => by
        rw [hcons, hv, decide_eq_true rfl, Bool.true_and]
      rw [List.countP_congr fun k _ => by rw [this k]]
      cases hb : agree r X f
      · simp
      · simp
    · have hm : r v ∈ X := by
        rcases hr [] v X rfl with q | q
        · exact (hv q).elim
        · exact q
      rw [sumk 1 (cols c X) fun f hf => ?_, ih, if_neg (by simpa using hv), Nat.mul_one, Nat.add_zero]
      have hb0 := ((cols_mem hn'.2 f).mp hf).1 (r v) hm
      have : ∀ k, agree r (v :: X) (setF f v k) = (decide (k = f (r v)) && agree r X f) := fun k => by
        rw [hcons]
        unfold setF
        rw [if_pos rfl, if_neg hv]
      rw [List.countP_congr fun k _ => by rw [this k]]
      cases hb : agree r X f
      · simp
      · simp only [Bool.and_true, if_true]
        exact count_one hb0
end
end M
namespace M
open PySem PySem.Spec PyProof.Rows L2 G
/-! ### modulo two sides -/
def wr2 (w h : Int) (v : Int × Int) : Int × Int := (v.1.fmod w, v.2.fmod h)
def wrS2 (w h : Int) (s : Sym) : Sym := ⟨s.k, s.x.fmod w, s.y.fmod h⟩
def Cg2 (w h : Int) (v u : Int × Int) : Prop := (∃ k, v.1 - u.1 = w * k) ∧ ∃ k, v.2 - u.2 = h * k
def CgS2 (w h : Int) (s t : Sym) : Prop := s.k = t.k ∧ Cg2 w h (s.x, s.y) (t.x, t.y)
/-- the kind does not exchange sides that are unequal -/
def FitK (w h : Int) (k : Kd) : Prop := w = h ∨ k = .k0 ∨ k = .k2 ∨ k = .k4 ∨ k = .k6
theorem FitK.mul {w h : Int} {p q : Kd} (hp : FitK w h p) (hq : FitK w h q) : FitK w h (p.mul q) := by
  rcases hp with e | hp
  · exact .inl e
  · rcases hq with e | hq
    · exact .inl e
    · refine .inr ?_
      rcases hp with rfl | rfl | rfl | rfl <;> rcases hq with rfl | rfl | rfl | rfl <;> decide
theorem FitK.inv {w h : Int} {p : Kd} (hp : FitK w h p) : FitK w h p.inv := by
  rcases hp with e | hp
  · exact .inl e
  · refine .inr ?_
    rcases hp with rfl | rfl | rfl | rfl <;> decide
theorem Cg2.symm {w h : Int} {v u : Int × Int} (c : Cg2 w h v u) : Cg2 w h u v := by
  obtain ⟨⟨a, ha⟩, b, hb⟩ := c
  exact ⟨⟨-a, by rw [Int.mul_neg]; omega⟩, -b, by rw [Int.mul_neg]; omega⟩
theorem CgS2.symm {w h : Int} {s t : Sym} (c : CgS2 w h s t) : CgS2 w h t s := ⟨c.1.symm, c.2.symm⟩
theorem wr2_iff {w h : Int} (hw : 0 < w) (hh : 0 < h) (v u : Int × Int) : wr2 w h v = wr2 w h u ↔ Cg2 w h v u := by
  unfold wr2 Cg2
  rw [Prod.mk.injEq, fm_iff hw, fm_iff hh]
theorem wrS2_iff {w h : Int} (hw : 0 < w) (hh : 0 < h) (s t : Sym) : wrS2 w h s = wrS2 w h t ↔ CgS2 w h s t := by
  unfold wrS2 CgS2 Cg2
  rw [Sym.mk.injEq, fm_iff hw, fm_iff hh]
theorem wr2_cg {w h : Int} (hw : 0 < w) (hh : 0 < h) (v : Int × Int) : Cg2 w h v (wr2 w h v) := ⟨fm_k hw _, fm_k hh _⟩
theorem wrS2_cg {w h : Int} (hw : 0 < w) (hh : 0 < h) (s : Sym) : CgS2 w h s (wrS2 w h s) := ⟨rfl, fm_k hw _, fm_k hh _⟩
def Bx2 (w h : Int) (v : Int × Int) : Prop := (0 ≤ v.1 ∧ v.1 < w) ∧ 0 ≤ v.2 ∧ v.2 < h
theorem wr2_bx {w h : Int} (hw : 0 < w) (hh : 0 < h) (v : Int × Int) : Bx2 w h (wr2 w h v) := ⟨fm_bd hw _, fm_bd hh _⟩
theorem wr2_self {w h : Int} {v : Int × Int} (b : Bx2 w h v) : wr2 w h v = v := by
  unfold wr2
  rw [fm_self b.1, fm_self b.2]
theorem Cg2.im {w h : Int} {v u : Int × Int} (c : Cg2 w h v u) {g : Sym} (hg : FitK w h g.k) : Cg2 w h (g.im v) (g.im u) := by
  rcases hg with e | hg
  · subst e
    exact Cg.im c g
  · obtain ⟨⟨a, ha⟩, b, hb⟩ := c
    unfold Sym.im Cg2
    rcases hg with e | e | e | e <;> rw [e] <;> simp only [Kd.u, Kd.v]
    · exact ⟨⟨a, by omega⟩, b, by omega⟩
    · exact ⟨⟨-a, by rw [Int.mul_neg]; omega⟩, -b, by rw [Int.mul_neg]; omega⟩
    · exact ⟨⟨-a, by rw [Int.mul_neg]; omega⟩, b, by omega⟩
    · exact ⟨⟨a, by omega⟩, -b, by rw [Int.mul_neg]; omega⟩
theorem CgS2.mul {w h : Int} {s t : Sym} (c : CgS2 w h s t) {g : Sym} (hg : FitK w h g.k) : CgS2 w h (s.mul g) (t.mul g) :=
  ⟨by show s.k.mul g.k = t.k.mul g.k; rw [c.1], c.2.im hg⟩
theorem CgS2.im {w h : Int} {s t : Sym} (c : CgS2 w h s t) (v : Int × Int) : Cg2 w h (s.im v) (t.im v) := by
  obtain ⟨hk, ⟨a, ha⟩, b, hb⟩ := c
  unfold Sym.im
  rw [hk]
  dsimp only at ha hb
  exact ⟨⟨a, by dsimp only; omega⟩, b, by dsimp only; omega⟩
theorem closed_all2 {gs : List Sym} {w h : Nat} (hw : 0 < w) (hh : 0 < h) (fit : ∀ g ∈ gs, FitK w h g.k) (F : Sym → Prop) (h1 : F .one) (hg : ∀ t, F t → ∀ g ∈ gs, F (t.mul g)) (hc : ∀ s t, CgS2 w h s t → F s → F t) : ∀ s, Gn gs s → F s := by
  intro s hs
  induction hs with
  | one => exact h1
  | mul _ h ih => exact hg _ ih _ h
  | @div s g _ h' ih =>
    have hp : ∀ j, F (s.mul (g.npow j)) := fun j => by
      induction j with
      | zero => rw [Sym.npow_zero, Sym.mul_one]; exact ih
      | succ j ij => rw [Sym.npow_succ, ← Sym.mul_assoc]; exact hg _ ij g h'
    obtain ⟨p, q, e⟩ := inv_pow g (Nat.mul_pos hw hh)
    have := hp (4 * (w * h) - 1)
    rw [e] at this
    refine hc _ _ ?_ this
    rw [← Sym.mul_assoc]
    refine CgS2.mul ?_ (fit g h').inv
    rw [mul_sh, Int.natCast_mul]
    exact ⟨rfl, ⟨h * p, by dsimp only; rw [← Int.mul_assoc]; omega⟩, w * q, by dsimp only; rw [← Int.mul_assoc, Int.mul_comm (h : Int)]; omega⟩
theorem gn_fit {gs : List Sym} {w h : Int} (fit : ∀ g ∈ gs, FitK w h g.k) : ∀ s, Gn gs s → FitK w h s.k := by
  intro s hs
  induction hs with
  | one => exact .inr (.inl rfl)
  | mul _ h ih => exact ih.mul (fit _ h)
  | div _ h ih => exact ih.mul (fit _ h).inv
/-! ### wrapped_group -/
theorem wrapped_ok {w h : Int} (hw : w ≠ 0) (hh : h ≠ 0) (s : Sym) : F_wrapped [.val s.d, .val (.int w), .val (.int h)] = .ok (.val (wrS2 w h s).d, [.un, .un, .un]) := by
  obtain ⟨k, x, y⟩ := s
  show F_wrapped [.val (.tuple [.int k.i, .int x, .int y]), .val (.int w), .val (.int h)] = .ok (.val (.tuple [.int k.i, .int (x.fmod w), .int (y.fmod h)]), [.un, .un, .un])
  rw [r_wrapped]
  unfold B_wrapped
  simp? [hw, hh]
abbrev stp2 (w h : Int) (g t : Sym) : Sym := wrS2 w h (t.mul g)
theorem wg_turn {b0 c7 c8 : B} {w h : Int} (hw : w ≠ 0) (hh : h ≠ 0) {t g : Sym} {s : List Sym × List Sym} (h1 : s.1.length < 10000) (h2 : s.2.length < 10000) : ∃ d8 : B,
    turn (nmG 7) L1_wrapped_group g.d [b0, .val (.int w), .val (.int h), .own (.list (s.1.map Sym.d)), .own (.dict (TS s.1)), .own (.list (s.2.map Sym.d)), .val t.d, c7, c8] =
      .ok (.nx [b0, .val (.int w), .val (.int h), .own (.list ((st1 (stp2 w h) t s g).1.map Sym.d)), .own (.dict (TS (st1 (stp2 w h) t s g).1)), .own (.list ((st1 (stp2 w h) t s g).2.map Sym.d)), .val t.d, .val g.d, d8]) := by
  have e1 := prod_d t g
  have e0 := wrapped_ok hw hh (t.mul g)
  have e2 := TS_nin s.1 (stp2 w h g t)
  unfold st1
  by_cases hm : stp2 w h g t ∈ s.1
  · rw [if_pos hm]
    rw [decide_eq_false (by simpa using hm)] at e2
    generalize (wrS2 w h (t.mul g)).d = r at e0 e2
    generalize (t.mul g).d = p at e0 e1
    generalize t.d = hd at e1
    generalize g.d = gd at e1
    generalize s.2.map Sym.d = wl
    generalize s.1.map Sym.d = fl
    generalize TS s.1 = tf at e2
    refine ⟨?_, ?eq⟩
    case eq =>
      unfold L1_wrapped_group
      simp? [e0, e1, e2, r_setX, k_sX1, k_sX2, k_sX3, k_sX4, k_sX5, k_sX6, k_sX7, k_sX8, k_sX9, r_mutX, k_mx1, r_dic1, k_d11, k_d12, k_d13, r_getX, k_gt1, k_gt3]
      exact rfl
  · rw [if_neg hm]
    have e3 := TS_set hm (by omega)
    rw [decide_eq_true hm] at e2
    have a1 : mtApp (.list (s.2.map Sym.d)) [(stp2 w h g t).d] = some (.list (s.2.map Sym.d ++ [(stp2 w h g t).d]), .none) := k_app (by rw [List.length_map, sizeLine_eq]; omega)
    have a2 : mtApp (.list (s.1.map Sym.d)) [(stp2 w h g t).d] = some (.list (s.1.map Sym.d ++ [(stp2 w h g t).d]), .none) := k_app (by rw [List.length_map, sizeLine_eq]; omega)
    have e4 : (s.2 ++ [stp2 w h g t]).map Sym.d = s.2.map Sym.d ++ [(stp2 w h g t).d] := by rw [List.map_append]; rfl
    have e5 : (s.1 ++ [stp2 w h g t]).map Sym.d = s.1.map Sym.d ++ [(stp2 w h g t).d] := by rw [List.map_append]; rfl
    dsimp only
    rw [e4, e5]
    generalize TS (s.1 ++ [stp2 w h g t]) = tf2 at e3
    generalize (wrS2 w h (t.mul g)).d = r at e0 e2 e3 a1 a2
    generalize (t.mul g).d = p at e0 e1
    generalize t.d = hd at e1
    generalize g.d = gd at e1
    generalize s.2.map Sym.d = wl at a1
    generalize s.1.map Sym.d = fl at a2
    generalize TS s.1 = tf at e2 e3
    refine ⟨?_, ?eq2⟩
    case eq2 =>
      unfold L1_wrapped_group
      simp? [e0, e1, e2, e3, a1, a2, r_setX, k_sX1, k_sX2, k_sX3, k_sX4, k_sX5, k_sX6, k_sX7, k_sX8, k_sX9, r_mutX, k_mx1, r_dic1, k_d11, k_d12, k_d13, r_getX, k_gt1, k_gt3]
      exact rfl
theorem wg_inner {b0 : B} {w h : Int} (hw : w ≠ 0) (hh : h ≠ 0) {t : Sym} : ∀ (gs : List Sym) (s : List Sym × List Sym) (c7 c8 : B), s.1.length + gs.length < 10000 → s.2.length + gs.length < 10000 → ∃ d7 d8 : B,
    forL (nmG 7) L1_wrapped_group (gs.map Sym.d) [b0, .val (.int w), .val (.int h), .own (.list (s.1.map Sym.d)), .own (.dict (TS s.1)), .own (.list (s.2.map Sym.d)), .val t.d, c7, c8] =
      .ok (.nx [b0, .val (.int w), .val (.int h), .own (.list ((gs.foldl (st1 (stp2 w h) t) s).1.map Sym.d)), .own (.dict (TS (gs.foldl (st1 (stp2 w h) t) s).1)), .own (.list ((gs.foldl (st1 (stp2 w h) t) s).2.map Sym.d)), .val t.d, d7, d8])
  | [], s, c7, c8, _, _ => ⟨c7, c8, fo_nil⟩
  | g :: gs, s, c7, c8, h1, h2 => by
    rw [List.length_cons] at h1 h2
    obtain ⟨d8, e⟩ := wg_turn (b0 := b0) (c7 := c7) (c8 := c8) hw hh (t := t) (g := g) (s := s) (by omega) (by omega)
    have l1 : (st1 (stp2 w h) t s g).1.length ≤ s.1.length + 1 ∧ (st1 (stp2 w h) t s g).2.length ≤ s.2.length + 1 := by
      unfold st1
      split
      · omega
      · dsimp only
        rw [List.length_append, List.length_append]
        exact ⟨Nat.le_refl _, Nat.le_refl _⟩
    obtain ⟨x7, x8, e2⟩ := wg_inner hw hh (b0 := b0) (t := t) gs (st1 (stp2 w h) t s g) (.val g.d) d8 (by omega) (by omega)
    refine ⟨x7, x8, ?_⟩
    rw [List.map_cons, turn_nx e, e2, List.foldl_cons]
theorem wg_body {w h : Int} (hw : w ≠ 0) (hh : h ≠ 0) {t : Sym} {gs : List Sym} {F W : List Sym} {c6 c7 c8 : B} (h1 : F.length + gs.length < 10000) (h2 : W.length + gs.length < 10000) : ∃ d7 d8 : B,
    L2_wrapped_group [.val (.tuple (gs.map Sym.d)), .val (.int w), .val (.int h), .own (.list (F.map Sym.d)), .own (.dict (TS F)), .own (.list ((W ++ [t]).map Sym.d)), c6, c7, c8] =
      .ok (.nx [.val (.tuple (gs.map Sym.d)), .val (.int w), .val (.int h), .own (.list ((gs.foldl (st1 (stp2 w h) t) (F, W)).1.map Sym.d)), .own (.dict (TS (gs.foldl (st1 (stp2 w h) t) (F, W)).1)), .own (.list ((gs.foldl (st1 (stp2 w h) t) (F, W)).2.map Sym.d)), .val t.d, d7, d8]) := by
  obtain ⟨d7, d8, e⟩ := wg_inner (b0 := .val (.tuple (gs.map Sym.d))) hw hh (t := t) gs (F, W) c7 c8 h1 h2
  have e1 : (W ++ [t]).map Sym.d = W.map Sym.d ++ [t.d] := by rw [List.map_append]; rfl
  rw [e1]
  dsimp only at e
  refine ⟨d7, d8, ?_⟩
  generalize TS (gs.foldl (st1 (stp2 w h) t) (F, W)).1 = tf2 at e
  generalize (gs.foldl (st1 (stp2 w h) t) (F, W)).2.map Sym.d = w2 at e
  generalize (gs.foldl (st1 (stp2 w h) t) (F, W)).1.map Sym.d = f2 at e
  generalize TS F = tf at e
  generalize F.map Sym.d = fl at e
  generalize W.map Sym.d = wl at e
  generalize t.d = hd at e
  generalize gs.map Sym.d = gd at e
  unfold L2_wrapped_group
  simp? [e, k_popZ, r_setX, k_sX1, k_sX2, k_sX3, k_sX4, k_sX5, k_sX6, k_sX7, k_sX8, k_sX9, r_mutX, k_mx1, r_dic1, k_d11, k_d12, k_d13, r_getX, k_gt1, k_gt3]
structure WSt (gs : List Sym) (w h : Int) (F W : List Sym) : Prop where
  nd : F.Nodup
  one : Sym.one ∈ F
  sub : ∀ u ∈ W, u ∈ F
  cl : ∀ t ∈ F, t ∉ W → ∀ g ∈ gs, stp2 w h g t ∈ F
  gn : ∀ t ∈ F, ∃ u, Gn gs u ∧ t = wrS2 w h u
theorem wg_run {gs : List Sym} {w h : Nat} (hw : 0 < w) (hw2 : w ≤ 12) (hh : 0 < h) (hh2 : h ≤ 12) (fit : ∀ g ∈ gs, FitK w h g.k) (hg : gs.length ≤ 10) : ∃ (F : List Sym) (d6 d7 d8 : B), WSt gs w h F [] ∧ F.length ≤ 1152 ∧
    whS mu_wrapped_group_1 (fB (op2 neD (fV 5) (lstE aNil))) L2_wrapped_group [.val (.tuple (gs.map Sym.d)), .val (.int w), .val (.int h), .own (.list ([Sym.one].map Sym.d)), .own (.dict (TS [Sym.one])), .own (.list ([Sym.one].map Sym.d)), .un, .un, .un] =
      .ok (.nx [.val (.tuple (gs.map Sym.d)), .val (.int w), .val (.int h), .own (.list (F.map Sym.d)), .own (.dict (TS F)), .own (.list []), d6, d7, d8]) := by
  have hn : (0 : Int) < w := by omega
  have hn2 : (0 : Int) < h := by omega
  obtain ⟨sn, sm, sl⟩ := symL_ok (m := 12) (by decide) (by decide)
  have bd : ∀ {F W : List Sym}, WSt gs w h F W → F.length ≤ 1152 := fun S => by
    have := nodup_le S.nd sn fun x hx => by
      obtain ⟨u, _, rfl⟩ := S.gn x hx
      have a := fm_bd hn u.x
      have b := fm_bd hn2 u.y
      refine sm _ ⟨⟨a.1, ?_⟩, b.1, ?_⟩
      · show u.x.fmod w < ((12 : Nat) : Int); omega
      · show u.y.fmod h < ((12 : Nat) : Int); omega
    omega
  have w1 : wrS2 w h Sym.one = Sym.one := by
    unfold wrS2 Sym.one
    rw [fm_self ⟨Int.le_refl _, hn⟩, fm_self ⟨Int.le_refl _, hn2⟩]
  obtain ⟨ρ', e, F, d6, d7, d8, hF, rfl⟩ := wh_run (c := fB (op2 neD (fV 5) (lstE aNil))) (b := L2_wrapped_group)
    (fun k ρ => ∃ (F W : List Sym) (c6 c7 c8 : B), WSt gs w h F W ∧ W.length + (1152 - F.length) ≤ 1200 ∧ k = (1152 - F.length) * 2 + W.length ∧
      ρ = [.val (.tuple (gs.map Sym.d)), .val (.int w), .val (.int h), .own (.list (F.map Sym.d)), .own (.dict (TS F)), .own (.list (W.map Sym.d)), c6, c7, c8])
    (fun ρ => ∃ (F : List Sym) (d6 d7 d8 : B), WSt gs w h F [] ∧ ρ = [.val (.tuple (gs.map Sym.d)), .val (.int w), .val (.int h), .own (.list (F.map Sym.d)), .own (.dict (TS F)), .own (.list []), d6, d7, d8]) (by
      rintro k _ ⟨F, W, c6, c7, c8, S, hb, rfl, rfl⟩
      have ew := ne_syms W
      rcases List.eq_nil_or_concat W with rfl | ⟨W', t, rfl⟩
      · refine .inl ⟨_, ?_, F, c6, c7, c8, S, rfl⟩
        generalize TS F = tf
        generalize F.map Sym.d = fl
        generalize gs.map Sym.d = gd
        simp? []
      · rw [List.concat_eq_append] at *
        have hlW : (W' ++ [t]).length = W'.length + 1 := by rw [List.length_append]; rfl
        have hbF := bd S
        have ht : t ∈ F := S.sub t (by simp)
        obtain ⟨u, hu, hwu⟩ := S.gn t ht
        obtain ⟨N, e1, e2, e3, e4⟩ := st1_fold (stp2 w h) (fun x => ∃ u, Gn gs u ∧ x = wrS2 w h u) t gs (F, W') S.nd fun g hg => ⟨u.mul g, .mul hu hg, by
          show wrS2 w h (t.mul g) = wrS2 w h (u.mul g)
          refine (wrS2_iff hn hn2 _ _).mpr (CgS2.mul ?_ (fit g hg))
          rw [hwu]
          exact (wrS2_cg hn hn2 u).symm⟩
        obtain ⟨d7, d8, eb⟩ := wg_body (w := w) (h := h) (by omega) (by omega) (t := t) (gs := gs) (F := F) (W := W') (c6 := c6) (c7 := c7) (c8 := c8) (by omega) (by omega)
        rw [e1] at eb
        have S2 : WSt gs w h (F ++ N) (W' ++ N) := ⟨e2, by simp [S.one], fun x hx => by
            rcases List.mem_append.mp hx with q | q
            · exact List.mem_append_left _ (S.sub x (by simp [q]))
            · exact List.mem_append_right _ q,
          fun x hx hxw g hg => by
            by_cases hxt : x = t
            · rw [hxt]; exact e4 g hg
            · rcases List.mem_append.mp hx with q | q
              · refine List.mem_append_left _ (S.cl x q (fun z => ?_) g hg)
                rcases List.mem_append.mp z with z | z
                · exact hxw (List.mem_append_left _ z)
                · exact hxt (List.mem_singleton.mp z)
              · exact (hxw (List.mem_append_right _ q)).elim,
          fun x hx => by
            rcases List.mem_append.mp hx with q | q
            · exact S.gn x q
            · exact e3 x q⟩
        have hb2 := bd S2
        rw [List.length_append] at hb2
        have cond : fB (op2 neD (fV 5) (lstE aNil)) [.val (.tuple (gs.map Sym.d)), .val (.int w), .val (.int h), .own (.list (F.map Sym.d)), .own (.dict (TS F)), .own (.list ((W' ++ [t]).map Sym.d)), c6, c7, c8] = .ok (true, [.val (.tuple (gs.map Sym.d)), .val (.int w), .val (.int h), .own (.list (F.map Sym.d)), .own (.dict (TS F)), .own (.list ((W' ++ [t]).map Sym.d)), c6, c7, c8]) := by
          rw [show (!(W' ++ [t]).isEmpty) = true by cases W' <;> rfl] at ew
          generalize TS F = tf
          generalize F.map Sym.d = fl
          generalize gs.map Sym.d = gd
          generalize (W' ++ [t]).map Sym.d = wl at ew
          simp? [ew]
        refine .inr ⟨_, _, _, cond, eb, ?_, F ++ N, W' ++ N, .val t.d, d7, d8, S2, ?_, rfl, rfl⟩
        · rw [List.length_append, List.length_append]; omega
        · rw [List.length_append, List.length_append]; omega) (10 ^ 90) 2303 _ (by decide) ⟨[Sym.one], [Sym.one], .un, .un, .un, ⟨by simp, by simp, fun w h => h, fun t ht hw => (hw ht).elim, fun t ht => ⟨.one, .one, by rw [List.mem_singleton.mp ht, w1]⟩⟩, Nat.le_of_ble_eq_true rfl, rfl, rfl⟩
  exact ⟨F, d6, d7, d8, hF, bd hF, e⟩
theorem wg_ok {gs : List Sym} {w h : Nat} (hw : 0 < w) (hw2 : w ≤ 12) (hh : 0 < h) (hh2 : h ≤ 12) (fit : ∀ g ∈ gs, FitK w h g.k) (hg : gs.length ≤ 10) : ∃ F : List Sym, F_wrapped_group [.val (.tuple (gs.map Sym.d)), .val (.int w), .val (.int h)] = .ok (.fr (.list (F.map Sym.d)), [.un, .un, .un]) ∧ F.Nodup ∧ F.length ≤ 1152 ∧ ∀ t, t ∈ F ↔ ∃ u, Gn gs u ∧ t = wrS2 w h u := by
  have hn : (0 : Int) < w := by omega
  have hn2 : (0 : Int) < h := by omega
  obtain ⟨F, d6, d7, d8, S, hF, e⟩ := wg_run (gs := gs) hw hw2 hh hh2 fit hg
  refine ⟨F, ?_, S.nd, hF, fun t => ⟨S.gn t, ?_⟩⟩
  · rw [show TS [Sym.one] = [(.tuple [.int 0, .int 0, .int 0], .bool true)] from rfl, show [Sym.one].map Sym.d = [.tuple [.int 0, .int 0, .int 0]] from rfl] at e
    have ek : tkey c_IDENTITY = some [0, 0, 0] := rfl
    rw [r_wrapped_group]
    unfold B_wrapped_group
    generalize TS F = tf at e
    generalize F.map Sym.d = fl at e
    generalize gs.map Sym.d = gd at e
    generalize (w : Int) = ww at e
    generalize (h : Int) = hhh at e
    simp? [ek, e, r_setX, k_sX1, k_sX2, k_sX3, k_sX4, k_sX5, k_sX6, k_sX7, k_sX8, k_sX9, r_mutX, k_mx1, r_dic1, k_d11, k_d12, k_d13, r_getX, k_gt1, k_gt3]
  · rintro ⟨u, hu, rfl⟩
    refine closed_all2 hw hh fit (fun s => wrS2 w h s ∈ F) ?_ (fun t ht g hg => ?_) (fun s t c hs => ?_) u hu
    · show wrS2 w h Sym.one ∈ F
      unfold wrS2 Sym.one
      rw [fm_self ⟨Int.le_refl _, hn⟩, fm_self ⟨Int.le_refl _, hn2⟩]
      exact S.one
    · have := S.cl _ ht (fun z => nomatch z) g hg
      show wrS2 w h (t.mul g) ∈ F
      rw [(wrS2_iff hn hn2 _ _).mpr (CgS2.mul (wrS2_cg hn hn2 t) (fit g hg))]
      exact this
    · show wrS2 w h t ∈ F
      rw [← (wrS2_iff hn hn2 _ _).mpr c]
      exact hs
end M
namespace M
/-! ### cycles of a map that turns back -/
section
variable {κ : Type} [DecidableEq κ]
def pw (a : κ → κ) : Nat → κ → κ
  | 0, v => v
  | j + 1, v => a (pw a j v)
theorem pw_add (a : κ → κ) (i : Nat) (v : κ) : ∀ j, pw a (i + j) v = pw a j (pw a i v)
  | 0 => rfl
  | j + 1 => congrArg a (pw_add a i v j)
/-- a map of a list that comes back -/
structure Cyc (a : κ → κ) (L : List κ) : Prop where
  nd : L.Nodup
  st : ∀ v ∈ L, a v ∈ L
  bk : ∃ p, 0 < p ∧ ∀ v ∈ L, pw a p v = v
variable {a : κ → κ} {L : List κ}
theorem Cyc.pw (h : Cyc a L) {v : κ} (hv : v ∈ L) : ∀ j, M.pw a j v ∈ L
  | 0 => hv
  | j + 1 => h.st _ (h.pw hv j)
def Orb (a : κ → κ) (u v : κ) : Prop := ∃ j, pw a j u = v
noncomputable instance orbDec (a : κ → κ) (u v : κ) : Decidable (Orb a u v) := Classical.propDecidable _
theorem Orb.refl (v : κ) : Orb a v v := ⟨0, rfl⟩
theorem Orb.trans {u v w : κ} (h : Orb a u v) (h' : Orb a v w) : Orb a u w := by
  obtain ⟨i, rfl⟩ := h
  obtain ⟨j, rfl⟩ := h'
  exact ⟨i + j, pw_add a i u j⟩
theorem Cyc.mul (h : Cyc a L) {p : Nat} (hp : ∀ v ∈ L, M.pw a p v = v) {v : κ} (hv : v ∈ L) : ∀ k, M.pw a (p * k) v = v
  | 0 => rfl
  | k + 1 => by rw [Nat.mul_succ, pw_add, h.mul hp hv k, hp v hv]
theorem Cyc.symm (h : Cyc a L) {u v : κ} (hu : u ∈ L) (o : Orb a u v) : Orb a v u := by
  obtain ⟨i, rfl⟩ := o
  obtain ⟨p, h0, hp⟩ := h.bk
  refine ⟨p * i - i, ?_⟩
  have : i + (p * i - i) = p * i := by
    have : 1 * i ≤ p * i := Nat.mul_le_mul_right i h0
    omega
  rw [← pw_add, this, h.mul hp hu]
/-- the first place of a cycle -/
noncomputable def rep (a : κ → κ) (L : List κ) (v : κ) : κ := (L.find? fun u => decide (Orb a v u)).getD v
noncomputable def cyc (a : κ → κ) (L : List κ) : Nat := L.countP fun v => decide (rep a L v = v)
theorem rep_orb (h : Cyc a L) {v : κ} : Orb a v (rep a L v) ∧ (v ∈ L → rep a L v ∈ L) := by
  unfold rep
  cases e : L.find? fun u => decide (Orb a v u) with
  | none => exact ⟨.refl v, fun h => h⟩
  | some u => exact ⟨of_decide_eq_true (p := Orb a v u) (List.find?_some (p := fun u => decide (Orb a v u)) e), fun _ => List.mem_of_find?_eq_some e⟩
theorem rep_congr (h : Cyc a L) {u v : κ} (hu : u ∈ L) (hv : v ∈ L) (o : Orb a u v) : rep a L u = rep a L v := by
  have e : (fun w => decide (Orb a u w)) = fun w => decide (Orb a v w) := by
    funext w
    by_cases hw : Orb a u w
    · rw [decide_eq_true hw, decide_eq_true ((h.symm hu o).trans hw)]
    · rw [decide_eq_false hw, decide_eq_false fun z => hw (o.trans z)]
  unfold rep
  rw [e]
  cases e2 : L.find? fun u => decide (Orb a v u) with
  | some w => rfl
  | none => exact absurd (decide_eq_true (Orb.refl v)) (List.find?_eq_none.mp e2 v hv)
theorem rep_split (h : Cyc a L) {P Q : List κ} {v : κ} (e : L = P ++ v :: Q) : (rep a L v = v ↔ ∀ u ∈ P, ¬ Orb a v u) ∧ (rep a L v = v ∨ rep a L v ∈ P) := by
  have hn := h.nd
  rw [e] at hn
  have hvP : v ∉ P := fun z => (List.nodup_append.mp hn).2.2 v z v List.mem_cons_self rfl
  by_cases hp : ∀ u ∈ P, ¬ Orb a v u
  · have : rep a L v = v := by
      unfold rep
      rw [e, List.find?_append, List.find?_eq_none.mpr fun u hu => by rw [decide_eq_false (hp u hu)]; decide, List.find?_cons_of_pos (p := fun u => decide (Orb a v u)) (decide_eq_true (Orb.refl v))]
      rfl
    exact ⟨⟨fun _ => hp, fun _ => this⟩, .inl this⟩
  · have : rep a L v ∈ P := by
      unfold rep
      rw [e, List.find?_append]
      cases e2 : P.find? fun u => decide (Orb a v u) with
      | some w => exact List.mem_of_find?_eq_some e2
      | none => exact absurd (fun u hu z => absurd (decide_eq_true z) (List.find?_eq_none.mp e2 u hu)) hp
    exact ⟨⟨fun z => (hvP (by rw [z] at this; exact this)).elim, fun z => (hp z).elim⟩, .inr this⟩
theorem nodup_rev {l : List κ} (h : l.Nodup) : l.reverse.Nodup := (List.reverse_perm l).nodup_iff.mpr h
/-- how many colourings the map keeps -/
theorem kept_cols (h : Cyc a L) (c : Nat) : ((cols c L.reverse).countP fun f => L.all fun v => decide (f (a v) = f v)) = c ^ cyc a L := by
  have hn : L.reverse.Nodup := nodup_rev h.nd
  have k := cols_agree (c := c) (r := rep a L) hn fun Y v Z e => by
    have e2 : L = Z.reverse ++ v :: Y.reverse := by
      have := congrArg List.reverse e
      rw [List.reverse_reverse, List.reverse_append, List.reverse_cons, List.append_assoc] at this
      exact this
    rcases (rep_split h e2).2 with q | q
    · exact .inl q
    · exact .inr (List.mem_reverse.mp q)
  rw [List.countP_reverse] at k
  unfold cyc
  rw [← k]
  refine List.countP_congr fun f _ => ?_
  unfold agree
  rw [List.all_eq_true, List.all_eq_true]
  constructor
  · intro z v hv
    rw [List.mem_reverse] at hv
    have : ∀ j, f (pw a j v) = f v := fun j => by
      induction j with
      | zero => rfl
      | succ j ih => rw [← ih]; exact of_decide_eq_true (z _ (h.pw hv j))
    obtain ⟨j, ej⟩ := (rep_orb h (v := v)).1
    rw [decide_eq_true_eq, ← ej, this]
  · intro z v hv
    have z1 := of_decide_eq_true (z v (List.mem_reverse.mpr hv))
    have z2 := of_decide_eq_true (z (a v) (List.mem_reverse.mpr (h.st v hv)))
    rw [decide_eq_true_eq, z1, z2, rep_congr h hv (h.st v hv) ⟨1, rfl⟩]
theorem cyc_le : cyc a L ≤ L.length := List.countP_le_length
end
end M
namespace M
open PySem PySem.Spec PyProof.Rows L2 G
/-! ### a dict of squares as a set -/
def TV (F : List (Int × Int)) : List (PyData × PyData) := F.map fun v => (vd v, .bool true)
theorem TV_txd (F : List (Int × Int)) : txd (TV F) = true := by cases F <;> rfl
theorem TV_get (v : Int × Int) : ∀ F : List (Int × Int), txget (TV F) [v.1, v.2] = if v ∈ F then some (.bool true) else none
  | [] => rfl
  | t :: F => by
    show (if tkey (vd t) = some [v.1, v.2] then some (.bool true) else txget (TV F) [v.1, v.2]) = _
    rw [TV_get v F, tkey_vd]
    by_cases h : t = v
    · rw [if_pos (by rw [h]), if_pos (by rw [h]; exact List.mem_cons_self)]
    · rw [if_neg fun z => h (two_eq.mp z)]
      by_cases h2 : v ∈ F
      · rw [if_pos h2, if_pos (List.mem_cons_of_mem _ h2)]
      · rw [if_neg h2, if_neg fun z => by rcases List.mem_cons.mp z with q | q; exact h q.symm; exact h2 q]
theorem TV_nin (F : List (Int × Int)) (v : Int × Int) : ninXD (vd v) (.dict (TV F)) = some (.val (.bool (decide (v ∉ F)))) := by
  show (if txd (TV F) = true then some (Ev.val (.bool (!(txget (TV F) [v.1, v.2]).isSome))) else none) = _
  rw [if_pos (TV_txd F), TV_get]
  by_cases h : v ∈ F
  · rw [if_pos h]; simp [h]
  · rw [if_neg h]; simp [h]
theorem TV_set {F : List (Int × Int)} {v : Int × Int} (hs : v ∉ F) (h : F.length < 1000000) : setXD (.dict (TV F)) (vd v) (.bool true) = some (.dict (TV (F ++ [v]))) := by
  show (if txd (TV F) = true ∧ (TV F).length < 1000000 then some (PyData.dict (txput (TV F) [v.1, v.2] (.bool true))) else none) = _
  rw [if_pos ⟨TV_txd F, by unfold TV; rw [List.length_map]; exact h⟩]
  unfold txput
  rw [TV_get, if_neg hs]
  unfold TV
  rw [List.map_append]
  rfl
/-! ### two for's -/
theorem lc2_run {α : Type} {enc : α → PyData} {t : SG} {c : SB} {fi1 : SI} {t1 : SG} {c1 : SB} {fe : SE} {vs vs1 : List Nat} {ρ : List B} (g : α → List PyData) (m : Nat) : ∀ {xs : List α} {n : Nat}, n + m * xs.length ≤ sizeLine → (∀ x ∈ xs, (g x).length ≤ m ∧ ∃ ρ1 ds1 ρ2, t (enc x) ρ = .ok ρ1 ∧ c ρ1 = .ok (true, ρ1) ∧ fi1 ρ1 = .ok (ds1, ρ1) ∧ wipeB ρ2 vs = ρ ∧ ∀ n, n + m ≤ sizeLine → lcL t1 c1 fe vs1 n ds1 (wipeB ρ1 vs1) = some (g x, ρ2)) →
    lcL2 t c fi1 t1 c1 fe vs vs1 n (xs.map enc) ρ = some (xs.flatMap g, ρ)
  | [], n, _, _ => rfl
  | x :: xs, n, hn, h => by
    rw [List.length_cons, Nat.mul_add, Nat.mul_one] at hn
    obtain ⟨hg, ρ1, ds1, ρ2, e1, e2, e3, e4, e5⟩ := h x List.mem_cons_self
    rw [List.map_cons]
    unfold lcL2
    rw [e1]
    dsimp only
    rw [e2]
    dsimp only
    rw [e3]
    dsimp only
    rw [e5 n (by omega)]
    dsimp only
    rw [e4, lc2_run g m (by omega) fun y hy => h y (List.mem_cons_of_mem _ hy)]
    rfl
theorem r_lc2E {t : SG} {c : SB} {fi1 : SI} {t1 : SG} {c1 : SB} {fe : SE} {vs vs1 : List Nat} {it : SI} {ρ ρ' ρ2 : List B} {ds all : List PyData} (e : it ρ = .ok (ds, ρ')) (e2 : lcL2 t c fi1 t1 c1 fe vs vs1 0 ds (wipeB ρ' vs) = some (all, ρ2)) : lc2E t c fi1 t1 c1 fe vs vs1 it ρ = .ok (.fr (.list all), wipeB ρ2 vs) := by
  unfold lc2E
  rw [e]
  show (match lcL2 t c fi1 t1 c1 fe vs vs1 0 ds (wipeB ρ' vs) with | some (all, ρe) => Rs.ok (Ev.fr (.list all), wipeB ρe vs) | none => .bad) = _
  rw [e2]
/-! ### the cycles -/
def stepV (w h : Int) (s : Sym) (v : Int × Int) : Int × Int := wr2 w h (s.im v)
theorem sq2_mem {w h : Nat} (v : Int × Int) : v ∈ sqL w h ↔ Bx2 w h v := by
  unfold sqL Bx2
  simp only [List.mem_flatMap, List.mem_map, List.mem_range]
  constructor
  · rintro ⟨x, hx, y, hy, rfl⟩
    dsimp only
    omega
  · intro ⟨a, b⟩
    refine ⟨v.1.toNat, by omega, v.2.toNat, by omega, ?_⟩
    rw [Int.toNat_of_nonneg a.1, Int.toNat_of_nonneg b.1]
theorem sq2_nodup (w h : Nat) : (sqL w h).Nodup := by
  refine List.pairwise_flatMap.mpr ⟨fun x _ => List.pairwise_map.mpr (List.nodup_range.imp fun {a b} hne z => hne ?_), List.nodup_range.imp fun {a b} hne u hu v hv z => hne ?_⟩
  · have := congrArg Prod.snd z; dsimp only at this; omega
  · simp only [List.mem_map, List.mem_range] at hu hv
    obtain ⟨_, _, rfl⟩ := hu
    obtain ⟨_, _, rfl⟩ := hv
    have := congrArg Prod.fst z; dsimp only at this; omega
theorem stepV_pw {w h : Nat} (hw : 0 < w) (hh : 0 < h) {s : Sym} (fit : FitK w h s.k) {v : Int × Int} (hv : Bx2 w h v) : ∀ j, pw (stepV w h s) j v = wr2 w h ((s.npow j).im v)
  | 0 => by
    rw [Sym.npow_zero]
    show v = wr2 w h (Sym.one.im v)
    rw [show Sym.one.im v = v by unfold Sym.im Sym.one; simp [Kd.u, Kd.v], wr2_self hv]
  | j + 1 => by
    show stepV w h s (pw (stepV w h s) j v) = _
    rw [stepV_pw hw hh fit hv j, Sym.npow_succ]
    unfold stepV
    rw [Sym.im_mul]
    exact (wr2_iff (by omega) (by omega) _ _).mpr (((wr2_cg (by omega) (by omega) _).symm).im fit)
theorem stepV_cyc {w h : Nat} (hw : 0 < w) (hh : 0 < h) {s : Sym} (fit : FitK w h s.k) : Cyc (stepV w h s) (sqL w h) where
  nd := sq2_nodup w h
  st := fun v _ => (sq2_mem _).mpr (wr2_bx (by omega) (by omega) _)
  bk := by
    refine ⟨4 * (w * h), Nat.mul_pos (by decide) (Nat.mul_pos hw hh), fun v hv => ?_⟩
    have hb := (sq2_mem v).mp hv
    have hN := Nat.mul_pos hw hh
    rw [stepV_pw hw hh fit hb]
    obtain ⟨p, q, e⟩ := inv_pow s hN
    have : s.npow (4 * (w * h)) = sh ((w * h : Nat) * p) ((w * h : Nat) * q) := by
      rw [show 4 * (w * h) = (4 * (w * h) - 1) + 1 by omega, Sym.npow_succ, e, Sym.mul_assoc, Sym.inv_mul, Sym.mul_one]
    rw [this]
    have e2 : wr2 w h ((sh ((w * h : Nat) * p) ((w * h : Nat) * q)).im v) = wr2 w h v := by
      refine (wr2_iff (by omega) (by omega) _ _).mpr ?_
      rw [Int.natCast_mul]
      exact ⟨⟨h * p, by show v.1 + (w : Int) * h * p - v.1 = _; rw [← Int.mul_assoc]; omega⟩, w * q, by show v.2 + (w : Int) * h * q - v.2 = _; rw [← Int.mul_assoc, Int.mul_comm (h : Int)]; omega⟩
    rw [e2, wr2_self hb]
def vis (a : Int × Int → Int × Int) (u : Int × Int) (i : Nat) : List (Int × Int) := (List.range i).map fun j => pw a j u
theorem vis_succ (a : Int × Int → Int × Int) (u : Int × Int) (i : Nat) : vis a u (i + 1) = vis a u i ++ [pw a i u] := by
  unfold vis
  rw [List.range_succ, List.map_append]
  rfl
def Kn (a : Int × Int → Int × Int) (L P K : List (Int × Int)) : Prop := ∀ v, v ∈ K ↔ v ∈ L ∧ ∃ t ∈ P, Orb a t v
theorem vis_all {a : Int × Int → Int × Int} {L P K : List (Int × Int)} (hc : Cyc a L) (hK : Kn a L P K) {u : Int × Int} (hu : u ∈ L) (hn : u ∉ K) {i : Nat} (h : pw a i u ∈ K ++ vis a u i) : Kn a L (P ++ [u]) (K ++ vis a u i) := by
  have h1 : pw a i u ∈ vis a u i := by
    rcases List.mem_append.mp h with q | q
    · obtain ⟨_, t, ht, o⟩ := (hK _).mp q
      exact (hn ((hK u).mpr ⟨hu, t, ht, o.trans (hc.symm hu ⟨i, rfl⟩)⟩)).elim
    · exact q
  have all : ∀ j, pw a j u ∈ vis a u i := fun j => by
    induction j with
    | zero =>
      cases i with
      | zero => exact h1
      | succ i => exact List.mem_map.mpr ⟨0, List.mem_range.mpr (Nat.succ_pos i), rfl⟩
    | succ j ih =>
      obtain ⟨m, hm, e⟩ := List.mem_map.mp ih
      have hm := List.mem_range.mp hm
      have e2 : pw a (m + 1) u = pw a (j + 1) u := congrArg a e
      by_cases hl : m + 1 < i
      · exact List.mem_map.mpr ⟨m + 1, List.mem_range.mpr hl, e2⟩
      · have : m + 1 = i := by omega
        rw [← e2, this]
        exact h1
  intro v
  rw [List.mem_append, hK]
  constructor
  · rintro (⟨hv, t, ht, o⟩ | q)
    · exact ⟨hv, t, List.mem_append_left _ ht, o⟩
    · obtain ⟨m, _, rfl⟩ := List.mem_map.mp q
      exact ⟨hc.pw hu m, u, by simp, m, rfl⟩
  · rintro ⟨hv, t, ht, o⟩
    rcases List.mem_append.mp ht with q | q
    · exact .inl ⟨hv, t, q, o⟩
    · obtain ⟨j, rfl⟩ := o
      rw [List.mem_singleton.mp q]
      exact .inr (all j)
theorem cy_body {w h : Int} (hw : w ≠ 0) (hh : h ≠ 0) {s : Sym} {K : List (Int × Int)} {u : Int × Int} {c4 c5 c7 c8 c9 : B} (hu : u ∉ K) (hl : K.length < 1000000) :
    L1_cycles_of [.val s.d, .val (.int w), .val (.int h), .own (.dict (TV K)), c4, c5, .val (vd u), c7, c8, c9] = .ok (.nx [.val s.d, .val (.int w), .val (.int h), .own (.dict (TV (K ++ [u]))), c4, c5, .val (vd (stepV w h s u)), .val (vd (s.im u)), c8, c9]) := by
  have e1 := image_of_ok (k := s.k) (x := s.x) (y := s.y) (a := u.1) (b := u.2)
  have e2 := TV_set hu hl
  show L1_cycles_of [.val (SY s.k s.x s.y), .val (.int w), .val (.int h), .own (.dict (TV K)), c4, c5, .val (SQ u.1 u.2), c7, c8, c9] = .ok (.nx [.val (SY s.k s.x s.y), .val (.int w), .val (.int h), .own (.dict (TV (K ++ [u]))), c4, c5, .val (.tuple [.int ((s.k.u u.1 u.2 + s.x).fmod w), .int ((s.k.v u.1 u.2 + s.y).fmod h)]), .val (SQ (s.k.u u.1 u.2 + s.x) (s.k.v u.1 u.2 + s.y)), c8, c9])
  change setXD (.dict (TV K)) (SQ u.1 u.2) (.bool true) = _ at e2
  have e3 : SQ (s.k.u u.1 u.2 + s.x) (s.k.v u.1 u.2 + s.y) = .tuple [.int (s.k.u u.1 u.2 + s.x), .int (s.k.v u.1 u.2 + s.y)] := rfl
  rw [e3] at e1 ⊢
  generalize SY s.k s.x s.y = sd at *
  generalize s.k.u u.1 u.2 + s.x = x at *
  generalize s.k.v u.1 u.2 + s.y = y at *
  generalize SQ u.1 u.2 = ud at *
  generalize TV (K ++ [u]) = k2 at *
  generalize TV K = k1 at *
  unfold L1_cycles_of
  simp? [e1, e2, hw, hh, r_setX, k_sX1, k_sX2, k_sX3, k_sX4, k_sX5, k_sX6, k_sX7, k_sX8, k_sX9, r_mutX, k_mx1, r_dic1, k_d11, k_d12, k_d13, r_getX, k_gt1, k_gt3]
theorem cy_run {w h : Nat} (hw : 0 < w) (hw2 : w ≤ 12) (hh : 0 < h) (hh2 : h ≤ 12) {s : Sym} (fit : FitK w h s.k) {K : List (Int × Int)} (hK : K.Nodup) (sub : ∀ v ∈ K, v ∈ sqL w h) {u : Int × Int} (hu : u ∈ sqL w h) {c4 c5 c7 c8 c9 : B} : ∃ (i : Nat) (c6 d7 : B), pw (stepV w h s) i u ∈ K ++ vis (stepV w h s) u i ∧ (K ++ vis (stepV w h s) u i).Nodup ∧ (∀ v ∈ K ++ vis (stepV w h s) u i, v ∈ sqL w h) ∧
    whS mu_cycles_of_1 (fB (op2 ninXD (fV 6) (fV 3))) L1_cycles_of [.val s.d, .val (.int w), .val (.int h), .own (.dict (TV K)), c4, c5, .val (vd u), c7, c8, c9] =
      .ok (.nx [.val s.d, .val (.int w), .val (.int h), .own (.dict (TV (K ++ vis (stepV w h s) u i))), c4, c5, c6, d7, c8, c9]) := by
  have hc := stepV_cyc hw hh fit
  have hlen : (sqL w h).length ≤ 144 := by
    rw [sqL_len]
    exact Nat.le_trans (Nat.mul_le_mul (show (w : Int).toNat ≤ 12 by omega) (show (h : Int).toNat ≤ 12 by omega)) (by decide)
  obtain ⟨ρ', e, i, c6, d7, q1, q2, q3, rfl⟩ := wh_run (c := fB (op2 ninXD (fV 6) (fV 3))) (b := L1_cycles_of)
    (fun k ρ => ∃ (i : Nat) (d7 : B), (K ++ vis (stepV w h s) u i).Nodup ∧ (∀ v ∈ K ++ vis (stepV w h s) u i, v ∈ sqL w h) ∧ i + k = 145 ∧ ρ = [.val s.d, .val (.int w), .val (.int h), .own (.dict (TV (K ++ vis (stepV w h s) u i))), c4, c5, .val (vd (pw (stepV w h s) i u)), d7, c8, c9])
    (fun ρ => ∃ (i : Nat) (c6 d7 : B), pw (stepV w h s) i u ∈ K ++ vis (stepV w h s) u i ∧ (K ++ vis (stepV w h s) u i).Nodup ∧ (∀ v ∈ K ++ vis (stepV w h s) u i, v ∈ sqL w h) ∧ ρ = [.val s.d, .val (.int w), .val (.int h), .own (.dict (TV (K ++ vis (stepV w h s) u i))), c4, c5, c6, d7, c8, c9]) (by
      rintro k _ ⟨i, d7, hn, hs, hk, rfl⟩
      have en := TV_nin (K ++ vis (stepV w h s) u i) (pw (stepV w h s) i u)
      by_cases hm : pw (stepV w h s) i u ∈ K ++ vis (stepV w h s) u i
      · refine .inl ⟨_, ?_, i, .val (vd (pw (stepV w h s) i u)), d7, hm, hn, hs, rfl⟩
        rw [decide_eq_false (fun z => z hm)] at en
        generalize vd (pw (stepV w h s) i u) = ud at en
        generalize TV (K ++ vis (stepV w h s) u i) = k1 at en
        simp? [en, r_setX, k_sX1, k_sX2, k_sX3, k_sX4, k_sX5, k_sX6, k_sX7, k_sX8, k_sX9, r_mutX, k_mx1, r_dic1, k_d11, k_d12, k_d13, r_getX, k_gt1, k_gt3]
      · rw [decide_eq_true hm] at en
        have hll := nodup_le hn (sq2_nodup w h) hs
        have hvl : (vis (stepV w h s) u i).length = i := by unfold vis; rw [List.length_map, List.length_range]
        rw [List.length_append, hvl] at hll
        have eb := cy_body (w := w) (h := h) (by omega) (by omega) (s := s) (c4 := c4) (c5 := c5) (c7 := d7) (c8 := c8) (c9 := c9) hm (by rw [List.length_append, hvl]; omega)
        rw [List.append_assoc, ← vis_succ] at eb
        refine .inr ⟨_, _, k - 1, ?_, eb, by omega, i + 1, _, ?_, ?_, by omega, rfl⟩
        · generalize vd (pw (stepV w h s) i u) = ud at en
          generalize TV (K ++ vis (stepV w h s) u i) = k1 at en
          simp? [en, r_setX, k_sX1, k_sX2, k_sX3, k_sX4, k_sX5, k_sX6, k_sX7, k_sX8, k_sX9, r_mutX, k_mx1, r_dic1, k_d11, k_d12, k_d13, r_getX, k_gt1, k_gt3]
        · rw [vis_succ, ← List.append_assoc]
          exact nodup_snoc hn hm
        · intro v hv
          rw [vis_succ, ← List.append_assoc] at hv
          rcases List.mem_append.mp hv with q | q
          · exact hs v q
          · rw [List.mem_singleton.mp q]
            exact hc.pw hu i) (10 ^ 90) 145 _ (by decide) ⟨0, c7, by rw [show vis (stepV w h s) u 0 = [] from rfl, List.append_nil]; exact hK, by rw [show vis (stepV w h s) u 0 = [] from rfl, List.append_nil]; exact sub, rfl, by rw [show vis (stepV w h s) u 0 = [] from rfl, List.append_nil]⟩
  exact ⟨i, c6, d7, q1, q2, q3, e⟩
theorem cy_loop {w h : Nat} (hw : 0 < w) (hw2 : w ≤ 12) (hh : 0 < h) (hh2 : h ≤ 12) {s : Sym} (fit : FitK w h s.k) : ∀ (Q P K : List (Int × Int)) (n : Int) (c5 c6 c7 c8 c9 : B), sqL w h = P ++ Q → K.Nodup → Kn (stepV w h s) (sqL w h) P K → ∃ (K' : List (Int × Int)) (d5 d6 d7 : B),
    forL (nmG 5) L2_cycles_of (Q.map vd) [.val s.d, .val (.int w), .val (.int h), .own (.dict (TV K)), .val (.int n), c5, c6, c7, c8, c9] = .ok (.nx [.val s.d, .val (.int w), .val (.int h), .own (.dict (TV K')), .val (.int (n + (Q.countP fun v => decide (rep (stepV w h s) (sqL w h) v = v) : Nat))), d5, d6, d7, c8, c9])
  | [], P, K, n, c5, c6, c7, c8, c9, _, _, _ => ⟨K, c5, c6, c7, by rw [List.countP_nil, Int.natCast_zero, Int.add_zero]; exact fo_nil⟩
  | u :: Q, P, K, n, c5, c6, c7, c8, c9, hL, hn, hK => by
    have hc := stepV_cyc hw hh fit
    have hu : u ∈ sqL w h := by rw [hL]; simp
    have hL2 : sqL w h = (P ++ [u]) ++ Q := by rw [hL, List.append_assoc]; rfl
    have en := TV_nin K u
    have hm : u ∉ K ↔ rep (stepV w h s) (sqL w h) u = u := by
      rw [(rep_split hc hL).1]
      constructor
      · intro z t ht o
        exact z ((hK u).mpr ⟨hu, t, ht, hc.symm hu o⟩)
      · intro z q
        obtain ⟨_, t, ht, o⟩ := (hK u).mp q
        exact z t ht (hc.symm (by rw [hL]; exact List.mem_append_left _ ht) o)
    by_cases h0 : u ∈ K
    · have hK2 : Kn (stepV w h s) (sqL w h) (P ++ [u]) K := fun v => by
        rw [hK v]
        obtain ⟨_, t0, ht0, o0⟩ := (hK u).mp h0
        constructor
        · rintro ⟨a, t, ht, o⟩; exact ⟨a, t, List.mem_append_left _ ht, o⟩
        · rintro ⟨a, t, ht, o⟩
          rcases List.mem_append.mp ht with q | q
          · exact ⟨a, t, q, o⟩
          · rw [List.mem_singleton.mp q] at o
            exact ⟨a, t0, ht0, o0.trans o⟩
      obtain ⟨K', d5, d6, d7, e⟩ := cy_loop hw hw2 hh hh2 fit Q (P ++ [u]) K n (.val (vd u)) c6 c7 c8 c9 hL2 hn hK2
      refine ⟨K', d5, d6, d7, ?_⟩
      have hr : ¬ rep (stepV w h s) (sqL w h) u = u := fun z => hm.mpr z h0
      rw [List.countP_cons_of_neg (p := fun v => decide (rep (stepV w h s) (sqL w h) v = v)) (by simpa using hr), ← e, List.map_cons]
      rw [decide_eq_false (by simpa using h0)] at en
      refine turn_nx ?_
      generalize vd u = ud at en
      generalize TV K = k1 at en
      unfold L2_cycles_of
      simp? [en, r_setX, k_sX1, k_sX2, k_sX3, k_sX4, k_sX5, k_sX6, k_sX7, k_sX8, k_sX9, r_mutX, k_mx1, r_dic1, k_d11, k_d12, k_d13, r_getX, k_gt1, k_gt3]
    · obtain ⟨i, c6', c7', q1, q2, q3, ew⟩ := cy_run hw hw2 hh hh2 fit hn (fun v hv => ((hK v).mp hv).1) hu (c4 := .val (.int (n + 1))) (c5 := .val (vd u)) (c7 := c7) (c8 := c8) (c9 := c9)
      have hK2 := vis_all hc hK hu h0 q1
      obtain ⟨K', d5, d6, d7, e⟩ := cy_loop hw hw2 hh hh2 fit Q (P ++ [u]) _ (n + 1) (.val (vd u)) c6' c7' c8 c9 hL2 q2 hK2
      refine ⟨K', d5, d6, d7, ?_⟩
      rw [List.countP_cons_of_pos (p := fun v => decide (rep (stepV w h s) (sqL w h) v = v)) (decide_eq_true (hm.mp h0)), show n + ((Q.countP fun v => decide (rep (stepV w h s) (sqL w h) v = v)) + 1 : Nat) = n + 1 + ((Q.countP fun v => decide (rep (stepV w h s) (sqL w h) v = v) : Nat) : Int) by omega, ← e, List.map_cons]
      rw [decide_eq_true h0] at en
      refine turn_nx ?_
      generalize TV (K ++ vis (stepV w h s) u i) = k2 at ew
      generalize vd u = ud at en ew
      generalize TV K = k1 at en ew
      unfold L2_cycles_of
      simp? [en, ew, r_setX, k_sX1, k_sX2, k_sX3, k_sX4, k_sX5, k_sX6, k_sX7, k_sX8, k_sX9, r_mutX, k_mx1, r_dic1, k_d11, k_d12, k_d13, r_getX, k_gt1, k_gt3]
theorem cycles_ok {w h : Nat} (hw : 0 < w) (hw2 : w ≤ 12) (hh : 0 < h) (hh2 : h ≤ 12) {s : Sym} (fit : FitK w h s.k) : F_cycles_of [.val s.d, .val (.int w), .val (.int h)] = .ok (.val (.int (cyc (stepV w h s) (sqL w h) : Nat)), [.un, .un, .un]) := by
  obtain ⟨K', d5, d6, d7, e⟩ := cy_loop hw hw2 hh hh2 fit (sqL w h) [] [] 0 .un .un .un .un .un rfl List.nodup_nil (fun v => by simp)
  have e2 : ∀ b3 b4 b5 b6 b7 : B, lc2E (nmG 8) yesB (rng1I (aCons (fV 2) aNil)) (nmG 9) yesB (tupE (aCons (fV 8) (aCons (fV 9) aNil))) [8, 9] [9] (rng1I (aCons (fV 1) aNil)) [.val s.d, .val (.int w), .val (.int h), b3, b4, b5, b6, b7, .un, .un] = .ok (.fr (.list ((sqL w h).map vd)), [.val s.d, .val (.int w), .val (.int h), b3, b4, b5, b6, b7, .un, .un]) := fun b3 b4 b5 b6 b7 => by
    have rw1 : rngOk (w : Int) = true := by unfold rngOk; rw [Bool.and_eq_true, decide_eq_true_eq, decide_eq_true_eq]; omega
    have rw2 : rngOk (h : Int) = true := by unfold rngOk; rw [Bool.and_eq_true, decide_eq_true_eq, decide_eq_true_eq]; omega
    generalize s.d = sd
    have k : (sqL w h).map vd = (List.range w).flatMap fun x : Nat => (List.range h).map fun y : Nat => PyData.tuple [.int (0 + x), .int (0 + y)] := by
      unfold sqL
      rw [List.map_flatMap, Int.toNat_natCast, Int.toNat_natCast]
      refine congrArg (fun g => List.flatMap g (List.range w)) ?_
      funext x
      rw [List.map_map]
      refine List.map_congr_left fun y _ => ?_
      rw [Int.zero_add, Int.zero_add]
      rfl
    rw [k]
    have l2 : lcL2 (nmG 8) yesB (rng1I (aCons (fV 2) aNil)) (nmG 9) yesB (tupE (aCons (fV 8) (aCons (fV 9) aNil))) [8, 9] [9] 0 ((List.range w).map fun x : Nat => PyData.int (0 + x)) [.val sd, .val (.int w), .val (.int h), b3, b4, b5, b6, b7, .un, .un] = some ((List.range w).flatMap fun x : Nat => (List.range h).map fun y : Nat => PyData.tuple [.int (0 + x), .int (0 + y)], [.val sd, .val (.int w), .val (.int h), b3, b4, b5, b6, b7, .un, .un]) := by
      refine lc2_run (enc := fun x : Nat => PyData.int (0 + x)) (fun x : Nat => (List.range h).map fun y : Nat => PyData.tuple [.int (0 + x), .int (0 + y)]) 12 (by rw [List.length_range, sizeLine_eq]; omega) fun x hx => ⟨by rw [List.length_map, List.length_range]; exact hh2, [.val sd, .val (.int w), .val (.int h), b3, b4, b5, b6, b7, .val (.int (0 + x)), .un], (List.range h).map fun y : Nat => PyData.int (0 + y), [.val sd, .val (.int w), .val (.int h), b3, b4, b5, b6, b7, .val (.int (0 + x)), .un], rfl, rfl, ?_, rfl, fun n hn => ?_⟩
      · simp? [rw2, Int.toNat_natCast]
      · exact lc_map (enc := fun y : Nat => PyData.int (0 + y)) (fun y : Nat => PyData.tuple [.int (0 + x), .int (0 + y)]) (fun y _ => by simp? []) (n := n) (by rw [List.length_range]; omega)
    have it : rng1I (aCons (fV 1) aNil) [.val sd, .val (.int w), .val (.int h), b3, b4, b5, b6, b7, .un, .un] = .ok ((List.range w).map fun x : Nat => PyData.int (0 + x), [.val sd, .val (.int w), .val (.int h), b3, b4, b5, b6, b7, .un, .un]) := by
      simp? [rw1, Int.toNat_natCast]
    exact r_lc2E it l2
  rw [show TV [] = [] from rfl] at e
  rw [Int.zero_add] at e
  have e3 := e2 (.own (.dict [])) (.val (.int 0)) .un .un .un
  rw [r_cycles_of]
  unfold B_cycles_of
  generalize (sqL w h).map vd = ll at *
  generalize lc2E (nmG 8) yesB (rng1I (aCons (fV 2) aNil)) (nmG 9) yesB (tupE (aCons (fV 8) (aCons (fV 9) aNil))) [8, 9] [9] (rng1I (aCons (fV 1) aNil)) = E at *
  generalize s.d = sd at *
  generalize (w : Int) = ww at *
  generalize (h : Int) = hhh at *
  simp? [e3, e, r_setX, k_sX1, k_sX2, k_sX3, k_sX4, k_sX5, k_sX6, k_sX7, k_sX8, k_sX9, r_mutX, k_mx1, r_dic1, k_d11, k_d12, k_d13, r_getX, k_gt1, k_gt3]
  rfl
end M
namespace M
open PySem PySem.Spec PyProof.Rows L2 G
/-! ### powers of numbers -/
theorem raised_loop {c : Nat} (hc : c ≤ 9) (b1 : B) (n : Nat) : ∃ d3 : B, forL (nmG 3) L1_raised ((List.range n).map fun i : Nat => PyData.int (0 + i)) [.val (.int c), b1, .val (.int 1), .un] = .ok (.nx [.val (.int c), b1, .val (.int ((c ^ n : Nat) : Int)), d3]) := by
  obtain ⟨ρ', e, d3, rfl⟩ := fo_range (enc := fun i : Nat => PyData.int (0 + i)) (t := nmG 3) (b := L1_raised) (fun i ρ => ∃ d3 : B, ρ = [.val (.int c), b1, .val (.int ((c ^ i : Nat) : Int)), d3]) (m := n) (ρ := [.val (.int c), b1, .val (.int 1), .un]) ⟨.un, rfl⟩ (by
    rintro i _ _ ⟨d3, rfl⟩
    refine ⟨_, ?_, .val (.int (0 + i)), rfl⟩
    have m1 : mulOk ((c ^ i : Nat) : Int) (c : Int) = true := mulOk_r (smallI_m (by omega))
    rw [Nat.pow_succ, Int.natCast_mul]
    generalize ((c ^ i : Nat) : Int) = p at *
    unfold L1_raised
    simp? [m1])
  exact ⟨d3, e⟩
theorem raised_ok {c n : Nat} (hc : c ≤ 9) (hn : n ≤ 1000) : F_raised [.val (.int c), .val (.int n)] = .ok (.val (.int ((c ^ n : Nat) : Int)), [.un, .un]) := by
  obtain ⟨d3, e⟩ := raised_loop hc (.val (.int n)) n
  have rn : rngOk (n : Int) = true := by unfold rngOk; rw [Bool.and_eq_true, decide_eq_true_eq, decide_eq_true_eq]; omega
  generalize ((c ^ n : Nat) : Int) = p at *
  rw [r_raised]
  unfold B_raised
  simp? [rn, e, Int.toNat_natCast]
/-! ### the classes -/
noncomputable def cyN (w h : Nat) (s : Sym) : Nat := cyc (stepV w h s) (sqL w h)
theorem stepV_cg {w h : Nat} (hw : 0 < w) (hh : 0 < h) {s t : Sym} (c : CgS2 w h s t) : stepV w h s = stepV w h t := by
  funext v
  exact (wr2_iff (by omega) (by omega) _ _).mpr (c.im v)
structure IsF (gs : List Sym) (w h : Nat) (F : List Sym) : Prop where
  nd : F.Nodup
  mem : ∀ t, t ∈ F ↔ ∃ u, Gn gs u ∧ t = wrS2 w h u
theorem IsF.perm {gs gs' : List Sym} {w h : Nat} {F F' : List Sym} (a : IsF gs w h F) (b : IsF gs' w h F') (e : ∀ u, Gn gs u ↔ Gn gs' u) : F.Perm F' :=
  (List.perm_ext_iff_of_nodup a.nd b.nd).mpr fun t => by
    rw [a.mem, b.mem]
    exact ⟨fun ⟨u, h1, h2⟩ => ⟨u, (e u).mp h1, h2⟩, fun ⟨u, h1, h2⟩ => ⟨u, (e u).mpr h1, h2⟩⟩
noncomputable def wSum (F : List Sym) (w h c : Nat) : Nat := (F.map fun s => c ^ cyN w h s).sum
theorem IsF.pos {gs : List Sym} {w h : Nat} {F : List Sym} (a : IsF gs w h F) : 0 < F.length := List.length_pos_of_mem ((a.mem _).mpr ⟨.one, .one, rfl⟩)
/-- the number of classes -/
def IsC (gs : List Sym) (w h c n : Nat) : Prop := ∀ F, IsF gs w h F → wSum F w h c = F.length * n
theorem isF_ex {gs : List Sym} {w h : Nat} (hw : 0 < w) (hw2 : w ≤ 12) (hh : 0 < h) (hh2 : h ≤ 12) (fit : ∀ g ∈ gs, FitK w h g.k) (hg : gs.length ≤ 10) : ∃ F, IsF gs w h F ∧ F.length ≤ 1152 ∧ F_wrapped_group [.val (.tuple (gs.map Sym.d)), .val (.int w), .val (.int h)] = .ok (.fr (.list (F.map Sym.d)), [.un, .un, .un]) := by
  obtain ⟨F, e, n, l, m⟩ := wg_ok hw hw2 hh hh2 fit hg
  exact ⟨F, ⟨n, m⟩, l, e⟩
/-! ### the group moves colourings -/
def actF (w h : Nat) (s : Sym) (f : Int × Int → Nat) : Int × Int → Nat := fun v => if v ∈ sqL w h then f (stepV w h s v) else 0
noncomputable instance decF : DecidableEq (Int × Int → Nat) := fun _ _ => Classical.propDecidable _
abbrev mulF (w h : Nat) (s t : Sym) : Sym := wrS2 w h (t.mul s)
theorem stepV_mul {w h : Nat} (hw : 0 < w) (hh : 0 < h) (s : Sym) {t : Sym} (ft : FitK w h t.k) (v : Int × Int) : stepV w h (wrS2 w h (s.mul t)) v = stepV w h t (stepV w h s v) := by
  rw [← stepV_cg hw hh (wrS2_cg (by omega) (by omega) (s.mul t))]
  unfold stepV
  rw [Sym.im_mul]
  exact (wr2_iff (by omega) (by omega) _ _).mpr ((wr2_cg (by omega) (by omega) _).im ft)
theorem isF_act {gs : List Sym} {w h : Nat} (hw : 0 < w) (hh : 0 < h) (fit : ∀ g ∈ gs, FitK w h g.k) {F : List Sym} (hF : IsF gs w h F) (c : Nat) : Act F (mulF w h) (actF w h) (cols c (sqL w h).reverse) := by
  have hn := sq2_nodup w h
  have hnr := nodup_rev hn
  have hwi : (0 : Int) < w := by omega
  have hhi : (0 : Int) < h := by omega
  have fitF : ∀ s ∈ F, FitK w h s.k := fun s hs => by
    obtain ⟨u, hu, rfl⟩ := (hF.mem s).mp hs
    exact gn_fit fit u hu
  have mem : ∀ f : Int × Int → Nat, f ∈ cols c (sqL w h).reverse ↔ (∀ v ∈ sqL w h, f v < c) ∧ ∀ v, v ∉ sqL w h → f v = 0 := fun f => by
    rw [cols_mem hnr]
    simp only [List.mem_reverse]
  have stL : ∀ s v, stepV w h s v ∈ sqL w h := fun s v => (sq2_mem _).mpr (wr2_bx hwi hhi _)
  have cl : ∀ s ∈ F, ∀ t ∈ F, mulF w h s t ∈ F := fun s hs t ht => by
    obtain ⟨u, hu, rfl⟩ := (hF.mem s).mp hs
    obtain ⟨u', hu', rfl⟩ := (hF.mem t).mp ht
    refine (hF.mem _).mpr ⟨u'.mul u, hu'.prod hu, ?_⟩
    refine (wrS2_iff hwi hhi _ _).mpr ?_
    have q1 : CgS2 w h ((wrS2 w h u').mul (wrS2 w h u)) (u'.mul (wrS2 w h u)) := ((wrS2_cg hwi hhi u').symm).mul (gn_fit fit u hu)
    obtain ⟨a1, ⟨k1, b1⟩, k2, b2⟩ := q1
    obtain ⟨a2, ⟨k3, b3⟩, k4, b4⟩ := (wrS2_cg hwi hhi u).symm
    refine ⟨a1, ⟨k1 + k3, ?_⟩, k2 + k4, ?_⟩
    · rw [Int.mul_add, ← b1, ← b3]
      show _ - ((u'.mul u).x) = _
      unfold Sym.mul wrS2
      dsimp only
      omega
    · rw [Int.mul_add, ← b2, ← b4]
      show _ - ((u'.mul u).y) = _
      unfold Sym.mul wrS2
      dsimp only
      omega
  have hone : wrS2 w h .one ∈ F := (hF.mem _).mpr ⟨.one, .one, rfl⟩
  have one_st : ∀ v ∈ sqL w h, stepV w h (wrS2 w h .one) v = v := fun v hv => by
    rw [← stepV_cg hw hh (wrS2_cg hwi hhi .one)]
    unfold stepV
    rw [show Sym.one.im v = v by unfold Sym.im Sym.one; simp [Kd.u, Kd.v], wr2_self ((sq2_mem v).mp hv)]
  refine ⟨hF.nd, cl, fun s hs t ht u hu e => ?_, fun s hs f hf => ?_, fun s hs t ht f hf => ?_, ⟨_, hone, fun f hf => ?_⟩, fun s hs => ?_⟩
  · have e1 := (wrS2_iff hwi hhi _ _).mp e
    have e2 := e1.mul (g := s.inv) (fitF s hs).inv
    rw [Sym.mul_assoc, Sym.mul_assoc, Sym.mul_inv, Sym.mul_one, Sym.mul_one] at e2
    obtain ⟨t', _, rfl⟩ := (hF.mem t).mp ht
    obtain ⟨u', _, rfl⟩ := (hF.mem u).mp hu
    have e3 := (wrS2_iff hwi hhi _ _).mpr e2
    have self : ∀ x : Sym, wrS2 w h (wrS2 w h x) = wrS2 w h x := fun x => (wrS2_iff hwi hhi _ _).mpr (wrS2_cg hwi hhi x).symm
    rw [self, self] at e3
    exact e3
  · refine (mem _).mpr ⟨fun v hv => ?_, fun v hv => ?_⟩
    · unfold actF
      rw [if_pos hv]
      exact ((mem f).mp hf).1 _ (stL _ _)
    · unfold actF
      rw [if_neg hv]
  · funext v
    unfold actF
    by_cases hv : v ∈ sqL w h
    · rw [if_pos hv, if_pos hv, if_pos (stL t v), stepV_mul hw hh t (fitF s hs)]
    · rw [if_neg hv, if_neg hv]
  · funext v
    unfold actF
    by_cases hv : v ∈ sqL w h
    · rw [if_pos hv, one_st v hv]
    · rw [if_neg hv, ((mem f).mp hf).2 v hv]
  · obtain ⟨u, hu, rfl⟩ := (hF.mem s).mp hs
    refine ⟨wrS2 w h u.inv, (hF.mem _).mpr ⟨u.inv, hu.inv, rfl⟩, fun f hf => ?_⟩
    funext v
    unfold actF
    by_cases hv : v ∈ sqL w h
    · rw [if_pos hv, if_pos (stL _ _)]
      congr 1
      have : stepV w h (wrS2 w h (u.inv.mul u)) v = stepV w h u (stepV w h u.inv v) := stepV_mul hw hh u.inv (gn_fit fit u hu) v
      rw [Sym.inv_mul, one_st v hv] at this
      rw [← stepV_cg hw hh (wrS2_cg hwi hhi u), ← stepV_cg hw hh (wrS2_cg hwi hhi u.inv)]
      exact this.symm
    · rw [if_neg hv, ((mem f).mp hf).2 v hv]
theorem wSum_ssum {gs : List Sym} {w h : Nat} (hw : 0 < w) (hh : 0 < h) (fit : ∀ g ∈ gs, FitK w h g.k) {F : List Sym} (hF : IsF gs w h F) (c : Nat) : wSum F w h c = ssum F (actF w h) (cols c (sqL w h).reverse) := by
  rw [ssum_swap]
  unfold wSum
  refine sum_congr fun s hs => ?_
  have fs : FitK w h s.k := by
    obtain ⟨u, hu, rfl⟩ := (hF.mem s).mp hs
    exact gn_fit fit u hu
  unfold cyN
  rw [← kept_cols (stepV_cyc hw hh fs) c]
  refine List.countP_congr fun f hf => ?_
  rw [List.all_eq_true, decide_eq_true_eq]
  constructor
  · intro z
    funext v
    unfold actF
    by_cases hv : v ∈ sqL w h
    · rw [if_pos hv]; exact of_decide_eq_true (z v hv)
    · rw [if_neg hv, ((cols_mem (nodup_rev (sq2_nodup w h)) f).mp hf).2 v fun z => hv (List.mem_reverse.mp z)]
  · intro z v hv
    have := congrFun z v
    unfold actF at this
    rw [if_pos hv] at this
    exact decide_eq_true this
end M
namespace M
open PySem PySem.Spec PyProof.Rows L2 G
theorem IsF.of {gs gs' : List Sym} {w h : Nat} {F : List Sym} (a : IsF gs w h F) (e : ∀ u, Gn gs u ↔ Gn gs' u) : IsF gs' w h F :=
  ⟨a.nd, fun t => by rw [a.mem]; exact ⟨fun ⟨u, h1, h2⟩ => ⟨u, (e u).mp h1, h2⟩, fun ⟨u, h1, h2⟩ => ⟨u, (e u).mpr h1, h2⟩⟩⟩
theorem IsC.of {gs gs' : List Sym} {w h c n : Nat} (a : IsC gs w h c n) (e : ∀ u, Gn gs u ↔ Gn gs' u) : IsC gs' w h c n := fun F hF => a F (hF.of fun u => (e u).symm)
theorem wSum_perm {F F' : List Sym} {w h c : Nat} (p : F.Perm F') : wSum F w h c = wSum F' w h c := (p.map _).sum_nat
theorem IsC.mk {gs : List Sym} {w h c n : Nat} {F : List Sym} (hF : IsF gs w h F) (e : wSum F w h c = F.length * n) : IsC gs w h c n := fun F' hF' => by
  have p := hF'.perm hF fun _ => Iff.rfl
  rw [wSum_perm p, e, p.length_eq]
/-! ### exchanged sides -/
/-! ### one generator of order two -/
end M
namespace M
open PySem PySem.Spec PyProof.Rows L2 G
/-! ### least of ints -/
/-! ### the sides -/
theorem sides_ok {a b d : Int} (ok : (Bs.b2 a b d).ok) (ha : a ≤ 1000000) (hd : d ≤ 1000000) : ∃ w, F_sides_of [.val (Bs.b2 a b d).d] = .ok (.val (.tuple [.int w, .int d]), [.un]) ∧ 0 < w ∧ ∀ x, (Bs.b2 a b d).has x 0 ↔ ∃ k, x = w * k := by
  obtain ⟨a0, b0, bd⟩ := ok
  obtain ⟨g, e, gn, ⟨b', hb⟩, ⟨d', hd'⟩, u, v, hg⟩ := divisor_ok b d
  have g0 : 0 < g := by
    rcases Int.lt_or_eq_of_le gn with h | h
    · exact h
    · rw [← h, Int.zero_mul] at hd'; omega
  have d0 : 0 < d' := by
    refine Int.lt_of_not_ge fun h => ?_
    have := Int.mul_nonpos_of_nonneg_of_nonpos gn h
    omega
  have gd : g ≤ d := Int.le_of_dvd (by omega) ⟨d', hd'⟩
  have dd : d' ≤ d := Int.le_of_dvd (by omega) ⟨g, by rw [Int.mul_comm]; exact hd'⟩
  have ef : d.fdiv g = d' := by
    rw [hd', Int.mul_comm, Int.mul_fdiv_cancel _ (by omega)]
  have q1 : divOk g = true := divOk_s (by omega) (by omega)
  have q2 : mulOk a d' = true := G.mulOk_l (smallI_m (by omega))
  refine ⟨a * d', ?_, Int.mul_pos a0 d0, fun x => ⟨?_, ?_⟩⟩
  · rw [r_sides_of]
    unfold B_sides_of
    dsimp only [Bs.d]
    simp? [e, q1, ef, q2]
  · rintro ⟨k, l, hx, hy⟩
    have h1 : k * g = g * (d' * (v * k - u * l)) := by
      have h2 : k * g = u * (k * b) + v * k * d := by
        rw [hg, Int.mul_add]
        rw [← Int.mul_assoc k u b, Int.mul_comm k u, Int.mul_assoc u k b, ← Int.mul_assoc k v d, Int.mul_comm k v]
      have h3 : k * b = -(l * d) := by omega
      rw [h3, hd'] at h2
      rw [h2, Int.mul_sub, Int.mul_sub, Int.mul_neg]
      have r1 : u * (l * (g * d')) = g * (d' * (u * l)) := by
        rw [← Int.mul_assoc u l, Int.mul_comm (u * l), Int.mul_assoc g]
      have r2 : v * k * (g * d') = g * (d' * (v * k)) := by
        rw [Int.mul_comm (v * k), Int.mul_assoc g]
      rw [r1, r2]
      omega
    have h4 : k = d' * (v * k - u * l) := by
      rw [Int.mul_comm k g] at h1
      exact Int.eq_of_mul_eq_mul_left (by omega) h1
    refine ⟨v * k - u * l, ?_⟩
    rw [hx, Int.mul_assoc, ← h4, Int.mul_comm]
  · rintro ⟨j, rfl⟩
    refine ⟨d' * j, -(b' * j), ?_, ?_⟩
    · rw [Int.mul_assoc, Int.mul_comm]
    · rw [Int.neg_mul]
      have r1 : d' * j * b = g * (d' * j * b') := by
        rw [hb, ← Int.mul_assoc, Int.mul_comm (d' * j) g, Int.mul_assoc]
      have r2 : b' * j * d = g * (d' * j * b') := by
        rw [hd', ← Int.mul_assoc, Int.mul_comm (b' * j) g, Int.mul_assoc, Int.mul_comm b' j, Int.mul_comm (j * b') d', ← Int.mul_assoc d']
      omega
end M
namespace M
open PySem PySem.Spec PyProof.Rows L2 G
/-! ### the numbers of keys -/
def nd : Nat → List (Int × Int) → VK
  | _, [] => []
  | i, k :: ks => (k, .int (i : Int)) :: nd (i + 1) ks
/-! ### the program's numbers -/
end M
namespace M
open PySem PySem.Spec PyProof.Rows L2 G
/-! ### finest_pattern -/
/-! ### what the law expects -/
/-! the least sides -/
/-! ### both are the same -/
end M
namespace M
open PySem PySem.Spec PyProof.Rows L2 G
/-! ### groups of rank 0 and 1 -/
/-! ### groups of shifts -/
end M
namespace M
open PySem PySem.Spec PyProof.Rows L2 G
theorem need_bt {n : Nat} {b : Int} (h1 : 1 ≤ n) (h : (n : Int) ≤ b) : F_need_between [.val (.int (n : Int)), .val (.int 1), .val (.int b)] = .ok (.val .none, [.un, .un, .un]) := by
  have e := is_between_ok (z := (n : Int)) (a := 1) (b := b)
  rw [decide_eq_true (show (1 : Int) ≤ (n : Int) ∧ (n : Int) ≤ b by omega)] at e
  rw [r_need_between]
  unfold B_need_between
  simp? [e]
def exK : Kd → Bool
  | .k1 | .k3 | .k5 | .k7 => true
  | _ => false
theorem in_exch (k : Kd) : inG (.int k.i) c_EXCHANGING = some (.val (.bool (exK k))) := by cases k <;> rfl
theorem exK_fit {w h : Int} {k : Kd} (f : FitK w h k) (hne : w ≠ h) : exK k = false := by
  rcases f with e | rfl | rfl | rfl | rfl
  · exact (hne e).elim
  all_goals rfl
theorem sum_nats (f : Sym → Nat) (l : List Sym) : sumD [.list (l.map fun s => PyData.int ((f s : Nat) : Int))] = some (.val (.int (((l.map f).sum : Nat) : Int))) := by
  have := sum_ints (l.map fun s => ((f s : Nat) : Int))
  rw [sum_cast, List.map_map] at this
  exact this
theorem any_no (gs : List Sym) : anyD [.list (gs.map fun g => PyData.bool false)] = some (.val (.bool false)) := by
  have e : boolsD (gs.map fun g => PyData.bool false) = some (gs.map fun _ => false) := bo_map (u := fun _ : Sym => false)
  show anyK (boolsD (gs.map fun g => PyData.bool false)) = _
  rw [e]
  have : (gs.map fun _ : Sym => false).any id = false := by
    rw [List.any_eq_false]
    intro b hb
    obtain ⟨_, _, rfl⟩ := List.mem_map.mp hb
    decide
  show some (Ev.val (.bool ((gs.map fun _ : Sym => false).any id))) = _
  rw [this]
/-- the program's number of classes -/
theorem classes_ok {gs : List Sym} {w h c n : Nat} (hw : 0 < w) (hw2 : w ≤ 12) (hh : 0 < h) (hh2 : h ≤ 12) (hc : 1 ≤ c) (hc2 : c ≤ 9) (fit : ∀ g ∈ gs, FitK w h g.k) (hg : gs.length ≤ 6) (a : IsC gs w h c n) : F_count_classes [.val (.tuple (gs.map Sym.d)), .val (.int w), .val (.int h), .val (.int c)] = .ok (.val (.int n), [.un, .un, .un, .un]) := by
  obtain ⟨F, hF, hl, ef⟩ := isF_ex hw hw2 hh hh2 fit (by omega)
  have e0 := need_generators_ok hg
  have e1 := need_bt (n := w) (b := 12) hw (by omega)
  have e2 := need_bt (n := h) (b := 12) hh (by omega)
  have e3 := need_bt (n := c) (b := 9) hc (by omega)
  have ws := a F hF
  have lw : w * h ≤ 1000 := Nat.le_trans (Nat.mul_le_mul hw2 hh2) (by decide)
  have lc : ∀ b0 b4 b5 : B, lcL (nmG 6) yesB (callF [false, false] F_raised [] (aCons (fV 3) (aCons (callF [false, false, false] F_cycles_of [] (aCons (fV 6) (aCons (fV 1) (aCons (fV 2) aNil)))) aNil))) [6] 0 (F.map Sym.d) [b0, .val (.int w), .val (.int h), .val (.int c), b4, b5, .un] = some (F.map fun s => PyData.int ((c ^ cyN w h s : Nat) : Int), [b0, .val (.int w), .val (.int h), .val (.int c), b4, b5, .un]) := fun b0 b4 b5 => by
    refine lc_map (enc := Sym.d) (fun s : Sym => PyData.int ((c ^ cyN w h s : Nat) : Int)) (xs := F) (n := 0) (fun s hs => ?_) (by rw [sizeLine_eq]; omega)
    have fs : FitK w h s.k := by
      obtain ⟨u, hu, rfl⟩ := (hF.mem s).mp hs
      exact gn_fit fit u hu
    have q1 := cycles_ok hw hw2 hh hh2 fs
    have cl : cyN w h s ≤ 1000 := Nat.le_trans (cyc_le) (by rw [sqL_len, Int.toNat_natCast, Int.toNat_natCast]; exact lw)
    have q2 := raised_ok hc2 cl
    change F_cycles_of _ = Rs.ok (Ev.val (PyData.int ((cyN w h s : Nat) : Int)), _) at q1
    generalize ((c ^ cyN w h s : Nat) : Int) = p at *
    generalize ((cyN w h s : Nat) : Int) = y at *
    generalize s.d = sd at *
    generalize (w : Int) = ww at *
    generalize (h : Int) = hhh at *
    generalize (c : Int) = cc at *
    simp? [q1, q2]
  have es := sum_nats (fun s => c ^ cyN w h s) F
  change _ = some (Ev.val (PyData.int ((wSum F w h c : Nat) : Int))) at es
  rw [ws] at es
  have hpos := hF.pos
  have dv : divOk ((F.map Sym.d).length : Int) = true := divOk_of (by rw [List.length_map]; omega) (by rw [List.length_map]; omega)
  have q : (((F.length * n : Nat) : Int).fdiv ((F.map Sym.d).length : Int)) = n := by
    rw [List.length_map, Int.natCast_mul, Int.mul_comm, Int.mul_fdiv_cancel _ (by omega)]
  have ex : ∀ b4 : B, (w : Int) ≠ h → lcL (nmG 5) yesB (op2 inG (op2 ixD (fV 5) (fC (.int 0))) (fC c_EXCHANGING)) [5] 0 (gs.map Sym.d) [.val (.tuple (gs.map Sym.d)), .val (.int w), .val (.int h), .val (.int c), b4, .un, .un] = some (gs.map fun g => PyData.bool false, [.val (.tuple (gs.map Sym.d)), .val (.int w), .val (.int h), .val (.int c), b4, .un, .un]) := fun b4 hne => by
    generalize PyData.tuple (List.map Sym.d gs) = gd
    refine lc_map (enc := Sym.d) (fun g : Sym => PyData.bool false) (xs := gs) (n := 0) (fun g hg' => ?_) (by rw [sizeLine_eq]; omega)
    have q3 := in_exch g.k
    rw [exK_fit (fit g hg') hne] at q3
    show lcL _ _ _ _ _ [PyData.tuple [.int g.k.i, .int g.x, .int g.y]] _ = _
    generalize (Kd.i g.k) = ki at *
    simp? [q3]
  have ba := any_no gs
  generalize (wSum F w h c : Nat) = wsm at *
  generalize (F.map fun s => PyData.int ((c ^ cyN w h s : Nat) : Int)) = pl at *
  generalize ((F.length * n : Nat) : Int) = sm at *
  generalize F.map Sym.d = fd at *
  generalize (gs.map fun g => PyData.bool false) = bl at *
  generalize gs.map Sym.d = gd at *
  rw [r_count_classes]
  unfold B_count_classes
  by_cases hne : (w : Int) = h
  · generalize (w : Int) = ww at *
    generalize (h : Int) = hhh at *
    subst hne
    generalize (c : Int) = cc at *
    generalize (n : Int) = nn at *
    simp? [e0, e1, e2, e3, ef, lc, es, dv, q]
  · have ex' := fun b4 => ex b4 hne
    generalize (w : Int) = ww at *
    generalize (h : Int) = hhh at *
    generalize (c : Int) = cc at *
    generalize (n : Int) = nn at *
    simp? [e0, e1, e2, e3, ef, lc, es, dv, q, hne, ex', ba]
end M
namespace M
open PySem PySem.Spec PyProof.Rows L2 G
/-! ### all patterns, as lists of colours -/
def patN (c : Nat) : Nat → List (List Int)
  | 0 => [[]]
  | n + 1 => (patN c n).flatMap fun p => (List.range c).map fun k => p ++ [((k : Nat) : Int)]
theorem patN_mem {c : Nat} : ∀ {n : Nat} {p : List Int}, p ∈ patN c n ↔ p.length = n ∧ ∀ i ∈ p, 0 ≤ i ∧ i < c
  | 0, p => by
    unfold patN
    rw [List.mem_singleton]
    constructor
    · rintro rfl; exact ⟨rfl, fun i hi => nomatch hi⟩
    · rintro ⟨h, _⟩; exact List.eq_nil_of_length_eq_zero h
  | n + 1, p => by
    unfold patN
    rw [List.mem_flatMap]
    constructor
    · rintro ⟨q, hq, h⟩
      obtain ⟨k, hk, rfl⟩ := List.mem_map.mp h
      obtain ⟨h1, h2⟩ := patN_mem.mp hq
      have hk := List.mem_range.mp hk
      refine ⟨by rw [List.length_append, h1]; rfl, fun i hi => ?_⟩
      rcases List.mem_append.mp hi with z | z
      · exact h2 i z
      · rw [List.mem_singleton.mp z]; omega
    · rintro ⟨h1, h2⟩
      rcases List.eq_nil_or_concat p with rfl | ⟨q, z, rfl⟩
      · cases h1
      · rw [List.concat_eq_append] at *
        rw [List.length_append] at h1
        have hz := h2 z (by simp)
        refine ⟨q, patN_mem.mpr ⟨by simpa using h1, fun i hi => h2 i (by simp [hi])⟩, List.mem_map.mpr ⟨z.toNat, List.mem_range.mpr (by omega), ?_⟩⟩
        rw [Int.toNat_of_nonneg hz.1]
theorem len_flat {α β : Type} (f : α → List β) (c : Nat) : ∀ l : List α, (∀ x ∈ l, (f x).length = c) → (l.flatMap f).length = l.length * c
  | [], _ => by simp
  | x :: l, h => by
    rw [List.flatMap_cons, List.length_append, h x List.mem_cons_self, len_flat f c l fun y hy => h y (List.mem_cons_of_mem _ hy), List.length_cons, Nat.add_mul, Nat.one_mul, Nat.add_comm]
theorem patN_len (c : Nat) : ∀ n, (patN c n).length = c ^ n
  | 0 => rfl
  | n + 1 => by
    unfold patN
    rw [len_flat _ c _ fun x _ => by rw [List.length_map, List.length_range], patN_len c n, Nat.pow_succ]
/-! ### places -/
def plc (w i : Nat) : Int × Int := (((i % w : Nat) : Int), ((i / w : Nat) : Int))
def idx (w : Nat) (v : Int × Int) : Nat := v.1.toNat + v.2.toNat * w
theorem idx_plc {w : Nat} (hw : 0 < w) (i : Nat) : idx w (plc w i) = i := by
  unfold idx plc
  rw [Int.toNat_natCast, Int.toNat_natCast]
  exact Nat.mod_add_div' i w
theorem plc_mem {w h : Nat} (hw : 0 < w) {i : Nat} (hi : i < w * h) : plc w i ∈ sqL w h := by
  rw [sq2_mem]
  have h1 := Nat.mod_lt i hw
  have h2 : i / w < h := (Nat.div_lt_iff_lt_mul hw).mpr (by rw [Nat.mul_comm]; exact hi)
  exact ⟨⟨Int.natCast_nonneg _, Int.ofNat_lt.mpr h1⟩, Int.natCast_nonneg _, Int.ofNat_lt.mpr h2⟩
theorem idx_lt {w h : Nat} {v : Int × Int} (hv : v ∈ sqL w h) : idx w v < w * h := by
  obtain ⟨⟨a, b⟩, c, d⟩ := (sq2_mem v).mp hv
  unfold idx
  have h1 : v.1.toNat < w := by omega
  have h2 : v.2.toNat + 1 ≤ h := by omega
  have h3 := Nat.mul_le_mul_right w h2
  rw [Nat.add_mul, Nat.one_mul] at h3
  rw [Nat.mul_comm w h]
  omega
theorem plc_idx {w h : Nat} {v : Int × Int} (hv : v ∈ sqL w h) : plc w (idx w v) = v := by
  obtain ⟨⟨a, b⟩, c, d⟩ := (sq2_mem v).mp hv
  unfold idx plc
  have h1 : v.1.toNat < w := by omega
  rw [Nat.add_mul_mod_self_right, Nat.mod_eq_of_lt h1, Nat.add_mul_div_right _ _ (by omega), Nat.div_eq_of_lt h1, Nat.zero_add, Int.toNat_of_nonneg a, Int.toNat_of_nonneg c]
def way (w h : Nat) (g : Sym) : List Nat := (List.range (w * h)).map fun i => idx w (stepV w h g (plc w i))
def mv (w h : Nat) (g : Sym) (p : List Int) : List Int := (way w h g).map fun j => p.getD j 0
theorem stL {w h : Nat} (hw : 0 < w) (hh : 0 < h) (s : Sym) (v : Int × Int) : stepV w h s v ∈ sqL w h := (sq2_mem _).mpr (wr2_bx (by omega) (by omega) _)
theorem getD_mem {p : List Int} {j : Nat} (h : j < p.length) : p.getD j 0 ∈ p := by
  rw [List.getD_eq_getElem?_getD, List.getElem?_eq_getElem h]
  exact List.getElem_mem h
theorem mv_mem {w h c : Nat} (hw : 0 < w) (hh : 0 < h) {g : Sym} {p : List Int} (hp : p ∈ patN c (w * h)) : mv w h g p ∈ patN c (w * h) := by
  obtain ⟨h1, h2⟩ := patN_mem.mp hp
  refine patN_mem.mpr ⟨by unfold mv way; rw [List.length_map, List.length_map, List.length_range], fun i hi => ?_⟩
  unfold mv way at hi
  obtain ⟨j, hj, rfl⟩ := List.mem_map.mp hi
  obtain ⟨k, hk, rfl⟩ := List.mem_map.mp hj
  exact h2 _ (getD_mem (by rw [h1]; exact idx_lt (stL hw hh _ _)))
theorem mv_get {w h : Nat} (g : Sym) (p : List Int) {i : Nat} (hi : i < w * h) : (mv w h g p).getD i 0 = p.getD (idx w (stepV w h g (plc w i))) 0 := by
  unfold mv way
  rw [List.map_map, List.getD_eq_getElem?_getD, List.getElem?_map, List.getElem?_range hi]
  rfl
/-! ### as colourings -/
def toF (w h : Nat) (p : List Int) : Int × Int → Nat := fun v => if v ∈ sqL w h then (p.getD (idx w v) 0).toNat else 0
theorem colsR_mem {w h c : Nat} (f : Int × Int → Nat) : f ∈ cols c (sqL w h).reverse ↔ (∀ v ∈ sqL w h, f v < c) ∧ ∀ v, v ∉ sqL w h → f v = 0 := by
  rw [cols_mem (nodup_rev (sq2_nodup w h))]
  simp only [List.mem_reverse]
theorem toF_mem {w h c : Nat} {p : List Int} (hp : p ∈ patN c (w * h)) : toF w h p ∈ cols c (sqL w h).reverse := by
  obtain ⟨h1, h2⟩ := patN_mem.mp hp
  refine (colsR_mem _).mpr ⟨fun v hv => ?_, fun v hv => ?_⟩
  · unfold toF
    rw [if_pos hv]
    have := h2 _ (getD_mem (p := p) (j := idx w v) (by rw [h1]; exact idx_lt hv))
    omega
  · unfold toF
    rw [if_neg hv]
theorem toF_inj {w h c : Nat} (hw : 0 < w) {p q : List Int} (hp : p ∈ patN c (w * h)) (hq : q ∈ patN c (w * h)) (e : toF w h p = toF w h q) : p = q := by
  obtain ⟨h1, h2⟩ := patN_mem.mp hp
  obtain ⟨h3, h4⟩ := patN_mem.mp hq
  refine List.ext_getElem (by rw [h1, h3]) fun i hi hj => ?_
  have hi' : i < w * h := by omega
  have := congrFun e (plc w i)
  unfold toF at this
  rw [if_pos (plc_mem hw hi'), if_pos (plc_mem hw hi'), idx_plc hw, List.getD_eq_getElem?_getD, List.getElem?_eq_getElem hi, List.getD_eq_getElem?_getD, List.getElem?_eq_getElem hj] at this
  dsimp only [Option.getD_some] at this
  have a := h2 _ (List.getElem_mem hi)
  have b := h4 _ (List.getElem_mem hj)
  omega
theorem toF_sur {w h c : Nat} (hw : 0 < w) {f : Int × Int → Nat} (hf : f ∈ cols c (sqL w h).reverse) : ∃ p ∈ patN c (w * h), toF w h p = f := by
  obtain ⟨h1, h2⟩ := (colsR_mem f).mp hf
  refine ⟨(List.range (w * h)).map fun i => ((f (plc w i) : Nat) : Int), patN_mem.mpr ⟨by rw [List.length_map, List.length_range], fun i hi => ?_⟩, ?_⟩
  · obtain ⟨j, hj, rfl⟩ := List.mem_map.mp hi
    have := h1 _ (plc_mem hw (List.mem_range.mp hj))
    omega
  · funext v
    unfold toF
    by_cases hv : v ∈ sqL w h
    · rw [if_pos hv, List.getD_eq_getElem?_getD, List.getElem?_map, List.getElem?_range (idx_lt hv)]
      show ((f (plc w (idx w v)) : Nat) : Int).toNat = f v
      rw [plc_idx hv, Int.toNat_natCast]
    · rw [if_neg hv, h2 v hv]
theorem toF_mv {w h : Nat} (hw : 0 < w) (hh : 0 < h) (g : Sym) (p : List Int) : toF w h (mv w h g p) = actF w h g (toF w h p) := by
  funext v
  unfold toF actF
  by_cases hv : v ∈ sqL w h
  · rw [if_pos hv, if_pos hv]
    show ((mv w h g p).getD (idx w v) 0).toNat = (if stepV w h g v ∈ sqL w h then (p.getD (idx w (stepV w h g v)) 0).toNat else 0)
    rw [if_pos (stL hw hh g v), mv_get g p (idx_lt hv), plc_idx hv]
  · rw [if_neg hv, if_neg hv]
theorem actF_mul {w h : Nat} (hw : 0 < w) (hh : 0 < h) (s : Sym) {t : Sym} (ft : FitK w h t.k) (f : Int × Int → Nat) : actF w h (s.mul t) f = actF w h s (actF w h t f) := by
  funext v
  unfold actF
  by_cases hv : v ∈ sqL w h
  · rw [if_pos hv, if_pos hv, if_pos (stL hw hh s v), ← stepV_mul hw hh s ft, stepV_cg hw hh (wrS2_cg (by omega) (by omega) (s.mul t))]
  · rw [if_neg hv, if_neg hv]
theorem actF_one {w h c : Nat} {f : Int × Int → Nat} (hf : f ∈ cols c (sqL w h).reverse) : actF w h .one f = f := by
  funext v
  unfold actF
  by_cases hv : v ∈ sqL w h
  · rw [if_pos hv]
    unfold stepV
    rw [show Sym.one.im v = v by unfold Sym.im Sym.one; simp [Kd.u, Kd.v], wr2_self ((sq2_mem v).mp hv)]
  · rw [if_neg hv, ((colsR_mem f).mp hf).2 v hv]
theorem actF_cg {w h : Nat} (hw : 0 < w) (hh : 0 < h) {s t : Sym} (c : CgS2 w h s t) (f : Int × Int → Nat) : actF w h s f = actF w h t f := by
  unfold actF
  rw [stepV_cg hw hh c]
/-! ### closed sets of patterns -/
def ClM (gs : List Sym) (w h : Nat) (K : List (List Int)) : Prop := ∀ p ∈ K, ∀ g ∈ gs, mv w h g p ∈ K
theorem clM_all {gs : List Sym} {w h c : Nat} (hw : 0 < w) (hh : 0 < h) (fit : ∀ g ∈ gs, FitK w h g.k) {K : List (List Int)} (hK : ∀ p ∈ K, p ∈ patN c (w * h)) (cl : ClM gs w h K) : ∀ s, Gn gs s → ∀ f ∈ K.map (toF w h), actF w h s f ∈ K.map (toF w h) := by
  refine closed_all2 hw hh fit (fun s => ∀ f ∈ K.map (toF w h), actF w h s f ∈ K.map (toF w h)) (fun f hf => ?_) (fun t ht g hg f hf => ?_) fun s t c ht f hf => ?_
  · obtain ⟨p, hp, rfl⟩ := List.mem_map.mp hf
    rw [actF_one (toF_mem (hK p hp))]
    exact hf
  · rw [actF_mul hw hh t (fit g hg)]
    refine ht _ ?_
    obtain ⟨p, hp, rfl⟩ := List.mem_map.mp hf
    rw [← toF_mv hw hh]
    exact List.mem_map_of_mem (cl p hp g hg)
  · rw [← actF_cg hw hh c]
    exact ht f hf
/-- reached from p -/
def RchP (gs : List Sym) (w h c : Nat) (p q : List Int) : Prop := q ∈ patN c (w * h) ∧ ∃ s, Gn gs s ∧ toF w h q = actF w h s (toF w h p)
theorem RchP.self {gs : List Sym} {w h c : Nat} {p : List Int} (hp : p ∈ patN c (w * h)) : RchP gs w h c p p := ⟨hp, .one, .one, (actF_one (toF_mem hp)).symm⟩
theorem RchP.step {gs : List Sym} {w h c : Nat} (hw : 0 < w) (hh : 0 < h) (fit : ∀ g ∈ gs, FitK w h g.k) {p q : List Int} (r : RchP gs w h c p q) {g : Sym} (hg : g ∈ gs) : RchP gs w h c p (mv w h g q) := by
  obtain ⟨h1, s, hs, e⟩ := r
  refine ⟨mv_mem hw hh h1, g.mul s, (Gn.of hg).prod hs, ?_⟩
  rw [toF_mv hw hh, e, actF_mul hw hh g (gn_fit fit s hs)]
/-- n orbits, and no more -/
structure CntP (gs F : List Sym) (w h c : Nat) (K : List (List Int)) (n : Nat) : Prop where
  nd : K.Nodup
  sub : ∀ p ∈ K, p ∈ patN c (w * h)
  cl : ClM gs w h K
  sm : ssum F (actF w h) (K.map (toF w h)) = F.length * n
  le : n ≤ K.length
theorem CntP.nil {gs F : List Sym} {w h c : Nat} : CntP gs F w h c [] 0 := ⟨List.nodup_nil, fun p hp => (nomatch hp), fun p hp => (nomatch hp), rfl, Nat.le_refl _⟩
theorem nodup_mapK {w h c : Nat} (hw : 0 < w) {K : List (List Int)} (n : K.Nodup) (sub : ∀ p ∈ K, p ∈ patN c (w * h)) : (K.map (toF w h)).Nodup := by
  induction K with
  | nil => exact List.nodup_nil
  | cons a K ih =>
    obtain ⟨n1, n2⟩ := List.nodup_cons.mp n
    refine List.nodup_cons.mpr ⟨fun z => ?_, ih n2 fun p hp => sub p (List.mem_cons_of_mem _ hp)⟩
    obtain ⟨q, hq, e⟩ := List.mem_map.mp z
    rw [toF_inj hw (sub q (List.mem_cons_of_mem _ hq)) (sub a List.mem_cons_self) e] at hq
    exact n1 hq
theorem CntP.more {gs F : List Sym} {w h c : Nat} (hw : 0 < w) (hh : 0 < h) (fit : ∀ g ∈ gs, FitK w h g.k) (hF : IsF gs w h F) {K O : List (List Int)} {n : Nat} (a : CntP gs F w h c K n) {p : List Int} (hp : p ∉ K) (nd : (K ++ O).Nodup) (hO : ∀ q ∈ O, RchP gs w h c p q) (pO : p ∈ O) (cl : ClM gs w h (K ++ O)) : CntP gs F w h c (K ++ O) (n + 1) := by
  have sub : ∀ q ∈ K ++ O, q ∈ patN c (w * h) := fun q hq => by
    rcases List.mem_append.mp hq with z | z
    · exact a.sub q z
    · exact (hO q z).1
  refine ⟨nd, sub, cl, ?_, by rw [List.length_append]; have := a.le; have := List.length_pos_of_mem pO; omega⟩
  have hA := isF_act hw hh fit hF c
  have hx := toF_mem (sub p (List.mem_append_right _ pO))
  have ndm := nodup_mapK hw nd sub
  rw [List.map_append] at ndm ⊢
  have nO := (List.nodup_append.mp ndm).2.1
  have dj := (List.nodup_append.mp ndm).2.2
  have e : ssum F (actF w h) (O.map (toF w h)) = F.length := hA.orbit hx nO fun y => by
    constructor
    · intro z
      obtain ⟨q, hq, rfl⟩ := List.mem_map.mp z
      obtain ⟨_, s, hs, e⟩ := hO q hq
      refine ⟨wrS2 w h s, (hF.mem _).mpr ⟨s, hs, rfl⟩, ?_⟩
      rw [e]
      exact (actF_cg hw hh (wrS2_cg (by omega) (by omega) s) _).symm
    · rintro ⟨s, hs, rfl⟩
      obtain ⟨u, hu, rfl⟩ := (hF.mem s).mp hs
      rw [← actF_cg hw hh (wrS2_cg (by omega) (by omega) u)]
      have m1 := clM_all hw hh fit sub cl u hu (toF w h p) (List.mem_map_of_mem (List.mem_append_right _ pO))
      rw [List.map_append] at m1
      rcases List.mem_append.mp m1 with z | z
      · exfalso
        have m2 := clM_all hw hh fit a.sub a.cl u.inv hu.inv _ z
        rw [← actF_mul hw hh _ (gn_fit fit u hu), Sym.inv_mul, actF_one hx] at m2
        exact dj _ m2 _ (List.mem_map_of_mem pO) rfl
      · exact z
  have am := a.sm
  unfold ssum at *
  rw [List.map_append, List.sum_append, am, e, Nat.mul_add, Nat.mul_one]
theorem CntP.all {gs F : List Sym} {w h c : Nat} (hw : 0 < w) (hh : 0 < h) (fit : ∀ g ∈ gs, FitK w h g.k) (hF : IsF gs w h F) {K : List (List Int)} {n : Nat} (a : CntP gs F w h c K n) (al : ∀ p ∈ patN c (w * h), p ∈ K) : IsC gs w h c n := by
  refine IsC.mk hF ?_
  rw [wSum_ssum hw hh fit hF, ← a.sm]
  unfold ssum
  refine List.Perm.sum_nat (List.Perm.map _ ?_)
  refine (List.perm_ext_iff_of_nodup (cols_nodup (nodup_rev (sq2_nodup w h))) (nodup_mapK hw a.nd a.sub)).mpr fun f => ⟨fun hf => ?_, fun hf => ?_⟩
  · obtain ⟨p, hp, rfl⟩ := toF_sur hw hf
    exact List.mem_map_of_mem (al p hp)
  · obtain ⟨p, hp, rfl⟩ := List.mem_map.mp hf
    exact toF_mem (a.sub p hp)
end M
namespace M
open PySem PySem.Spec PyProof.Rows L2 G
/-! ### the patterns in the text -/
def pd (p : List Int) : PyData := .tuple (p.map PyData.int)
def TP (K : List (List Int)) : List (PyData × PyData) := K.map fun p => (pd p, .bool true)
theorem TP_txd (K : List (List Int)) : txd (TP K) = true := by
  cases K with
  | nil => rfl
  | cons p K =>
    show (tkey (pd p)).isSome = true
    unfold pd
    rw [tkey_tup]
    rfl
theorem TP_get (p : List Int) : ∀ K : List (List Int), txget (TP K) p = if p ∈ K then some (.bool true) else none
  | [] => rfl
  | t :: K => by
    show (if tkey (pd t) = some p then some (.bool true) else txget (TP K) p) = _
    rw [TP_get p K]
    unfold pd
    rw [tkey_tup]
    by_cases h : t = p
    · rw [if_pos (by rw [h]), if_pos (by rw [h]; exact List.mem_cons_self)]
    · rw [if_neg fun z => h (Option.some.inj z)]
      by_cases h2 : p ∈ K
      · rw [if_pos h2, if_pos (List.mem_cons_of_mem _ h2)]
      · rw [if_neg h2, if_neg fun z => by rcases List.mem_cons.mp z with q | q; exact h q.symm; exact h2 q]
theorem TP_nin (K : List (List Int)) (p : List Int) : ninXD (pd p) (.dict (TP K)) = some (.val (.bool (decide (p ∉ K)))) := by
  show ((tkey (pd p)).bind fun q => if txd (TP K) = true then some (Ev.val (.bool (!(txget (TP K) q).isSome))) else none) = _
  rw [show tkey (pd p) = some p from tkey_tup p]
  show (if txd (TP K) = true then some (Ev.val (.bool (!(txget (TP K) p).isSome))) else none) = _
  rw [if_pos (TP_txd K), TP_get]
  by_cases h : p ∈ K
  · rw [if_pos h]; simp [h]
  · rw [if_neg h]; simp [h]
theorem TP_set {K : List (List Int)} {p : List Int} (hs : p ∉ K) (h : K.length < 1000000) : setXD (.dict (TP K)) (pd p) (.bool true) = some (.dict (TP (K ++ [p]))) := by
  show ((tkey (pd p)).bind fun q => if txd (TP K) = true ∧ (TP K).length < 1000000 then some (PyData.dict (txput (TP K) q (.bool true))) else none) = _
  rw [show tkey (pd p) = some p from tkey_tup p]
  show (if txd (TP K) = true ∧ (TP K).length < 1000000 then some (PyData.dict (txput (TP K) p (.bool true))) else none) = _
  rw [if_pos ⟨TP_txd K, by unfold TP; rw [List.length_map]; exact h⟩]
  unfold txput
  rw [TP_get, if_neg hs]
  unfold TP
  rw [List.map_append]
  rfl
theorem ne_pats (W : List (List Int)) : neD (.list (W.map pd)) (.list []) = some (.val (.bool (!W.isEmpty))) := by
  have hx : shN 64 (.list (W.map pd)) = true := shN_lst.trans (shA_map fun p => by
    unfold pd
    exact shN_tup.trans (shA_map fun _ => shN_int))
  rw [d_neX hx (by decide)]
  cases W <;> rfl
/-! ### the ways -/
theorem way_val {w h : Nat} (hw : 0 < w) (hh : 0 < h) (g : Sym) (v : Int × Int) : (g.im v).1.fmod w + (g.im v).2.fmod h * w = ((idx w (stepV w h g v) : Nat) : Int) := by
  obtain ⟨⟨a, _⟩, b, _⟩ := wr2_bx (w := w) (h := h) (by omega) (by omega) (g.im v)
  unfold idx stepV
  rw [Int.natCast_add, Int.natCast_mul, Int.toNat_of_nonneg a, Int.toNat_of_nonneg b]
  rfl
theorem plc_at {w x y : Nat} (hx : x < w) : plc w (y * w + x) = ((0 : Int) + x, (0 : Int) + y) := by
  unfold plc
  rw [Nat.add_comm, Nat.add_mul_mod_self_right, Nat.mod_eq_of_lt hx, Nat.add_mul_div_right _ _ (by omega), Nat.div_eq_of_lt hx, Nat.zero_add, Int.zero_add, Int.zero_add]
def fnW (w h : Nat) (g : Sym) (j : Nat) : PyData := .int ((idx w (stepV w h g (plc w j)) : Nat) : Int)
def fnL (w h : Nat) (g : Sym) (n : Nat) : List PyData := (List.range n).map (fnW w h g)
theorem fnL_succ (w h : Nat) (g : Sym) (n : Nat) : fnL w h g (n + 1) = fnL w h g n ++ [fnW w h g n] := by
  unfold fnL
  rw [List.range_succ, List.map_append]
  rfl
theorem mvd_turn {w h : Nat} (hw : 0 < w) (hw2 : w ≤ 12) (hh : 0 < h) (hh2 : h ≤ 12) (g : Sym) {x y : Nat} (hx : x < w) (hy : y < h) {b5 b6 b7 : B} : ∃ d6 d7 : B, turn (nmG 5) L1__law_moved (.int (0 + (x : Int))) [.val g.d, .val (.int w), .val (.int h), .own (.list (fnL w h g (y * w + x))), .val (.int (0 + (y : Int))), b5, b6, b7] = .ok (.nx [.val g.d, .val (.int w), .val (.int h), .own (.list (fnL w h g (y * w + x + 1))), .val (.int (0 + (y : Int))), .val (.int (0 + (x : Int))), d6, d7]) := by
  have e := law_image_vd g ((0 : Int) + x, (0 : Int) + y)
  have hv := way_val hw hh g ((0 : Int) + x, (0 : Int) + y)
  have hl : y * w + x < 1000 := by
    have := Nat.mul_le_mul (show y ≤ 12 by omega) hw2
    omega
  have f : fnW w h g (y * w + x) = .int ((g.im ((0 : Int) + x, (0 : Int) + y)).1.fmod w + (g.im ((0 : Int) + x, (0 : Int) + y)).2.fmod h * w) := by
    unfold fnW
    rw [plc_at hx, hv]
  rw [fnL_succ, f]
  have a : mtApp (.list (fnL w h g (y * w + x))) [.int ((g.im ((0 : Int) + x, (0 : Int) + y)).1.fmod w + (g.im ((0 : Int) + x, (0 : Int) + y)).2.fmod h * w)] = some (.list (fnL w h g (y * w + x) ++ [.int ((g.im ((0 : Int) + x, (0 : Int) + y)).1.fmod w + (g.im ((0 : Int) + x, (0 : Int) + y)).2.fmod h * w)]), .none) := k_app (by unfold fnL; rw [List.length_map, List.length_range, sizeLine_eq]; omega)
  have m1 : mulOk ((g.im ((0 : Int) + x, (0 : Int) + y)).2.fmod h) (w : Int) = true := mulOk_r (smallI_m (by omega))
  have hw0 : (w : Int) ≠ 0 := by omega
  have hh0 : (h : Int) ≠ 0 := by omega
  change F__law_image_2 [.val g.d, .val (.tuple [.int (0 + (x : Int)), .int (0 + (y : Int))])] = .ok (.val (.tuple [.int (g.im ((0 : Int) + x, (0 : Int) + y)).1, .int (g.im ((0 : Int) + x, (0 : Int) + y)).2]), [.un, .un]) at e
  generalize g.im ((0 : Int) + x, (0 : Int) + y) = v at *
  generalize fnL w h g (y * w + x) = fl at *
  generalize g.d = gd at *
  generalize (0 : Int) + (x : Int) = xx at *
  generalize (0 : Int) + (y : Int) = yy at *
  refine ⟨.val (.int v.1), .val (.int v.2), ?_⟩
  generalize v.1 = v1 at *
  generalize v.2 = v2 at *
  clear hv f hw hw2 hh hh2 hx hy hl
  generalize (w : Int) = ww at *
  generalize (h : Int) = hhh at *
  unfold L1__law_moved
  simp? [e, a, m1, hw0, hh0]
theorem rngN {n : Nat} (h : n ≤ 1000) : rngOk (n : Int) = true := by unfold rngOk; rw [Bool.and_eq_true, decide_eq_true_eq, decide_eq_true_eq]; omega
theorem mvd_row {w h : Nat} (hw : 0 < w) (hw2 : w ≤ 12) (hh : 0 < h) (hh2 : h ≤ 12) (g : Sym) {y : Nat} (hy : y < h) (b5 b6 b7 : B) : ∃ d5 d6 d7 : B, forL (nmG 5) L1__law_moved ((List.range w).map fun i : Nat => PyData.int (0 + i)) [.val g.d, .val (.int w), .val (.int h), .own (.list (fnL w h g (y * w))), .val (.int (0 + (y : Int))), b5, b6, b7] = .ok (.nx [.val g.d, .val (.int w), .val (.int h), .own (.list (fnL w h g ((y + 1) * w))), .val (.int (0 + (y : Int))), d5, d6, d7]) := by
  obtain ⟨ρ', e, d5, d6, d7, rfl⟩ := fo_range (enc := fun i : Nat => PyData.int (0 + i)) (t := nmG 5) (b := L1__law_moved) (fun i ρ => ∃ d5 d6 d7 : B, ρ = [.val g.d, .val (.int w), .val (.int h), .own (.list (fnL w h g (y * w + i))), .val (.int (0 + (y : Int))), d5, d6, d7]) (m := w) (ρ := [.val g.d, .val (.int w), .val (.int h), .own (.list (fnL w h g (y * w))), .val (.int (0 + (y : Int))), b5, b6, b7]) ⟨b5, b6, b7, rfl⟩ (by
    rintro i hi _ ⟨d5, d6, d7, rfl⟩
    obtain ⟨x6, x7, e⟩ := mvd_turn hw hw2 hh hh2 g hi hy (b5 := d5) (b6 := d6) (b7 := d7)
    exact ⟨_, e, _, _, _, rfl⟩)
  rw [Nat.add_mul, Nat.one_mul]
  exact ⟨d5, d6, d7, e⟩
theorem moved_ok {w h : Nat} (hw : 0 < w) (hw2 : w ≤ 12) (hh : 0 < h) (hh2 : h ≤ 12) (g : Sym) : F__law_moved [.val g.d, .val (.int w), .val (.int h)] = .ok (.fr (.list (fnL w h g (w * h))), [.un, .un, .un]) := by
  obtain ⟨ρ', e, d4, d5, d6, d7, rfl⟩ := fo_range (enc := fun i : Nat => PyData.int (0 + i)) (t := nmG 4) (b := L2__law_moved) (fun i ρ => ∃ d4 d5 d6 d7 : B, ρ = [.val g.d, .val (.int w), .val (.int h), .own (.list (fnL w h g (i * w))), d4, d5, d6, d7]) (m := h) (ρ := [.val g.d, .val (.int w), .val (.int h), .own (.list []), .un, .un, .un, .un]) ⟨.un, .un, .un, .un, by rw [Nat.zero_mul]; rfl⟩ (by
    rintro i hi _ ⟨d4, d5, d6, d7, rfl⟩
    obtain ⟨x5, x6, x7, e⟩ := mvd_row hw hw2 hh hh2 g hi d5 d6 d7
    refine ⟨[.val g.d, .val (.int w), .val (.int h), .own (.list (fnL w h g ((i + 1) * w))), .val (.int (0 + (i : Int))), x5, x6, x7], ?_, _, _, _, _, rfl⟩
    have rn := rngN (n := w) (by omega)
    generalize fnL w h g (i * w) = f1 at *
    generalize fnL w h g ((i + 1) * w) = f2 at *
    generalize g.d = gd at *
    unfold L2__law_moved
    generalize L1__law_moved = L1 at *
    simp? [rn, e, Int.toNat_natCast])
  rw [Nat.mul_comm w h]
  have rn := rngN (n := h) (by omega)
  rw [r__law_moved]
  unfold B__law_moved
  generalize L2__law_moved = L2 at *
  generalize fnL w h g (h * w) = f2 at *
  generalize g.d = gd at *
  simp? [rn, e, Int.toNat_natCast]
/-! ### the list of all patterns -/
theorem add_pat {p : List Int} (hp : p.length ≤ 1000) (k : Nat) : addD (pd p) (.tuple [.int (0 + (k : Int))]) = some (.val (pd (p ++ [(k : Int)]))) := by
  unfold pd
  rw [d_addT (by rw [List.length_map, sizeLine_eq]; show p.length + 1 ≤ _; omega), Int.zero_add, List.map_append]
  rfl
def grw (c : Nat) (p : List Int) : List (List Int) := (List.range c).map fun k => p ++ [((k : Nat) : Int)]
theorem pat_turn {c : Nat} (hc : c ≤ 9) {p : List Int} (hp : p.length ≤ 1000) {L : List PyData} (hL : L.length ≤ 10000) {b0 b1 b2 b4 b5 b7 b8 b9 b10 b11 b12 b14 b15 : B} : turn (nmG 7) L1__law_expected_9 (pd p) [b0, b1, b2, .val (.int c), b4, b5, .own (.list L), b7, b8, b9, b10, b11, b12, .un, b14, b15] = .ok (.nx [b0, b1, b2, .val (.int c), b4, b5, .own (.list (L ++ (grw c p).map pd)), .val (pd p), b8, b9, b10, b11, b12, .un, b14, b15]) := by
  have l : lcL (nmG 13) yesB (op2 addD (fV 7) (tupE (aCons (fV 13) aNil))) [13] 0 ((List.range c).map fun i : Nat => PyData.int (0 + i)) [b0, b1, b2, .val (.int c), b4, b5, .own (.list L), .val (pd p), b8, b9, b10, b11, b12, .un, b14, b15] = some ((List.range c).map fun k : Nat => pd (p ++ [(k : Int)]), [b0, b1, b2, .val (.int c), b4, b5, .own (.list L), .val (pd p), b8, b9, b10, b11, b12, .un, b14, b15]) := by
    refine lc_map (enc := fun i : Nat => PyData.int (0 + i)) (fun k : Nat => pd (p ++ [(k : Int)])) (fun k _ => ?_) (by rw [List.length_range, sizeLine_eq]; omega)
    have e := add_pat hp k
    generalize pd p = q at *
    generalize pd (p ++ [(k : Int)]) = q2 at *
    simp? [e]
  have e2 : (grw c p).map pd = (List.range c).map fun k : Nat => pd (p ++ [(k : Int)]) := by
    unfold grw
    rw [List.map_map]
    rfl
  have e3 : ((List.range c).map fun k : Nat => pd (p ++ [(k : Int)])).length = c := by rw [List.length_map, List.length_range]
  rw [e2]
  generalize ((List.range c).map fun k : Nat => pd (p ++ [(k : Int)])) = M2 at *
  have rn := rngN (n := c) (by omega)
  have ea : addD (.list L) (.list M2) = some (.fr (.list (L ++ M2))) := d_addL (by rw [e3, sizeLine_eq]; omega)
  clear hp hL e2 e3
  generalize pd p = q at *
  unfold L1__law_expected_9
  simp? [l, rn, ea, Int.toNat_natCast]
theorem pat_for {c : Nat} (hc : c ≤ 9) {b0 b1 b2 b4 b5 b8 b9 b10 b11 b12 b14 b15 : B} : ∀ (P L : List (List Int)) (b7 : B), (∀ p ∈ P, p.length ≤ 1000) → L.length + P.length * 9 ≤ 10000 → ∃ d7 : B, forL (nmG 7) L1__law_expected_9 (P.map pd) [b0, b1, b2, .val (.int c), b4, b5, .own (.list (L.map pd)), b7, b8, b9, b10, b11, b12, .un, b14, b15] = .ok (.nx [b0, b1, b2, .val (.int c), b4, b5, .own (.list ((L ++ P.flatMap (grw c)).map pd)), d7, b8, b9, b10, b11, b12, .un, b14, b15])
  | [], L, b7, _, _ => ⟨b7, by rw [List.flatMap_nil, List.append_nil]; exact fo_nil⟩
  | p :: P, L, b7, hp, hl => by
    rw [List.length_cons] at hl
    have e := pat_turn hc (hp p List.mem_cons_self) (L := L.map pd) (by rw [List.length_map]; omega) (b0 := b0) (b1 := b1) (b2 := b2) (b4 := b4) (b5 := b5) (b7 := b7) (b8 := b8) (b9 := b9) (b10 := b10) (b11 := b11) (b12 := b12) (b14 := b14) (b15 := b15)
    rw [← List.map_append] at e
    obtain ⟨d7, e2⟩ := pat_for hc (b0 := b0) (b1 := b1) (b2 := b2) (b4 := b4) (b5 := b5) (b8 := b8) (b9 := b9) (b10 := b10) (b11 := b11) (b12 := b12) (b14 := b14) (b15 := b15) P (L ++ grw c p) (.val (pd p)) (fun q hq => hp q (List.mem_cons_of_mem _ hq)) (by rw [List.length_append]; unfold grw; rw [List.length_map, List.length_range]; omega)
    refine ⟨d7, ?_⟩
    rw [List.map_cons, turn_nx e, e2, List.flatMap_cons, List.append_assoc]
def OV (X : PyData) (b : B) : Prop := b = .own X ∨ b = .val X
theorem plc_turn {c : Nat} (hc : c ≤ 9) {P : List (List Int)} (hp : ∀ p ∈ P, p.length ≤ 1000) (hl : P.length * 9 ≤ 10000) {i : Nat} {b0 b1 b2 b4 b5 b6 b7 b8 b9 b10 b11 b12 b14 b15 : B} (h4 : OV (.list (P.map pd)) b4) : ∃ d5 d6 d7 : B, turn (nmG 5) L2__law_expected_9 (.int (0 + (i : Int))) [b0, b1, b2, .val (.int c), b4, b5, b6, b7, b8, b9, b10, b11, b12, .un, b14, b15] = .ok (.nx [b0, b1, b2, .val (.int c), .val (.list ((P.flatMap (grw c)).map pd)), d5, d6, d7, b8, b9, b10, b11, b12, .un, b14, b15]) := by
  obtain ⟨d7, e⟩ := pat_for hc (b0 := b0) (b1 := b1) (b2 := b2) (b4 := .val (.list (P.map pd))) (b5 := .val (.int (0 + (i : Int)))) (b8 := b8) (b9 := b9) (b10 := b10) (b11 := b11) (b12 := b12) (b14 := b14) (b15 := b15) P [] b7 hp (by simpa using hl)
  rw [List.map_nil, List.nil_append] at e
  generalize (P.flatMap (grw c)).map pd = P2 at *
  generalize P.map pd = P1 at *
  unfold L2__law_expected_9
  generalize L1__law_expected_9 = L1 at *
  refine ⟨.val (.int (0 + (i : Int))), .val (.list P2), d7, ?_⟩
  rcases h4 with rfl | rfl
  · simp? [e]
  · simp? [e]
theorem patN_lng {c n : Nat} {p : List Int} (hn : n ≤ 1000) (hp : p ∈ patN c n) : p.length ≤ 1000 := by
  rw [(patN_mem.mp hp).1]
  exact hn
theorem plc_for {c N : Nat} (hc0 : 0 < c) (hc : c ≤ 9) (hN : N ≤ 1000) (hl : c ^ N ≤ 600) {b0 b1 b2 b6 b7 b8 b9 b10 b11 b12 b14 b15 : B} : ∃ d4 d5 d6 d7 : B, OV (.list ((patN c N).map pd)) d4 ∧ forL (nmG 5) L2__law_expected_9 ((List.range N).map fun i : Nat => PyData.int (0 + i)) [b0, b1, b2, .val (.int c), .own (.list [.tuple []]), .un, b6, b7, b8, b9, b10, b11, b12, .un, b14, b15] = .ok (.nx [b0, b1, b2, .val (.int c), d4, d5, d6, d7, b8, b9, b10, b11, b12, .un, b14, b15]) := by
  obtain ⟨ρ', e, d4, d5, d6, d7, h4, rfl⟩ := fo_range (enc := fun i : Nat => PyData.int (0 + i)) (t := nmG 5) (b := L2__law_expected_9) (fun i ρ => ∃ d4 d5 d6 d7 : B, OV (.list ((patN c i).map pd)) d4 ∧ ρ = [b0, b1, b2, .val (.int c), d4, d5, d6, d7, b8, b9, b10, b11, b12, .un, b14, b15]) (m := N) (ρ := [b0, b1, b2, .val (.int c), .own (.list [.tuple []]), .un, b6, b7, b8, b9, b10, b11, b12, .un, b14, b15]) ⟨.own (.list [.tuple []]), .un, b6, b7, .inl rfl, rfl⟩ (by
    rintro i hi _ ⟨d4, d5, d6, d7, h4, rfl⟩
    obtain ⟨x5, x6, x7, e⟩ := plc_turn hc (P := patN c i) (fun p hp => patN_lng (by omega) hp) (by
      rw [patN_len]
      have := Nat.pow_le_pow_right hc0 (show i ≤ N by omega)
      omega) (i := i) (b0 := b0) (b1 := b1) (b2 := b2) (b5 := d5) (b6 := d6) (b7 := d7) (b8 := b8) (b9 := b9) (b10 := b10) (b11 := b11) (b12 := b12) (b14 := b14) (b15 := b15) h4
    exact ⟨_, e, _, _, _, _, .inr rfl, rfl⟩)
  exact ⟨d4, d5, d6, d7, h4, e⟩
/-! ### from a pattern -/
theorem ix_pat {p : List Int} {j : Nat} (hj : j < p.length) : ixD (pd p) (.int (j : Int)) = some (.val (.int (p.getD j 0))) := by
  have := atI_nat (xs := p.map PyData.int) (j := j) (v := PyData.int (p.getD j 0)) (by rw [List.getElem?_map, List.getD_eq_getElem?_getD, List.getElem?_eq_getElem hj]; rfl)
  show (atI (p.map PyData.int) (j : Int)).map Ev.val = _
  rw [this]
  rfl
abbrev ILC : SE := lcE (seqI bothK (fV 15)) (nmG 5) yesB (op2 ixD (fV 12) (fV 5)) [5]
theorem way_lc {w h c : Nat} (hw : 0 < w) (hh : 0 < h) (hl : w * h ≤ 1000) (g : Sym) {p : List Int} (hp : p ∈ patN c (w * h)) {b0 b1 b2 b3 b4 b5 b6 b7 b8 b9 b10 b11 b13 b14 : B} : ILC [b0, b1, b2, b3, b4, b5, b6, b7, b8, b9, b10, b11, .val (pd p), b13, b14, .val (.list (fnL w h g (w * h)))] = .ok (.fr (.list ((mv w h g p).map PyData.int)), [b0, b1, b2, b3, b4, .un, b6, b7, b8, b9, b10, b11, .val (pd p), b13, b14, .val (.list (fnL w h g (w * h)))]) := by
  have l : lcL (nmG 5) yesB (op2 ixD (fV 12) (fV 5)) [5] 0 (fnL w h g (w * h)) [b0, b1, b2, b3, b4, .un, b6, b7, b8, b9, b10, b11, .val (pd p), b13, b14, .val (.list (fnL w h g (w * h)))] = some ((mv w h g p).map PyData.int, [b0, b1, b2, b3, b4, .un, b6, b7, b8, b9, b10, b11, .val (pd p), b13, b14, .val (.list (fnL w h g (w * h)))]) := by
    have em : (mv w h g p).map PyData.int = (List.range (w * h)).map fun j => PyData.int (p.getD (idx w (stepV w h g (plc w j))) 0) := by
      unfold mv way
      rw [List.map_map, List.map_map]
      rfl
    rw [em]
    generalize (B.val (.list (fnL w h g (w * h)))) = bw
    refine lc_map (enc := fnW w h g) (fun j => PyData.int (p.getD (idx w (stepV w h g (plc w j))) 0)) (fun j hj => ?_) (by rw [List.length_range, sizeLine_eq]; omega)
    have e : ixD (pd p) (fnW w h g j) = some (.val (.int (p.getD (idx w (stepV w h g (plc w j))) 0))) := ix_pat (by rw [(patN_mem.mp hp).1]; exact idx_lt (stL hw hh _ _))
    generalize fnW w h g j = f at *
    generalize p.getD (idx w (stepV w h g (plc w j))) 0 = z at *
    generalize pd p = q at *
    simp? [e]
  generalize (mv w h g p).map PyData.int = m at *
  generalize fnL w h g (w * h) = f at *
  generalize pd p = q at *
  simp? [l]
abbrev OFE : SE := opN tupleD (aCons ILC aNil)
theorem ways_lc {w h c : Nat} (hw : 0 < w) (hh : 0 < h) (hl : w * h ≤ 1000) {p : List Int} (hp : p ∈ patN c (w * h)) {b0 b1 b2 b3 b4 b6 b7 b8 b9 b10 b11 b13 b14 : B} : ∀ (gs : List Sym) (n : Nat) (b5 : B), n + gs.length ≤ 1000 → ∃ d5 : B, lcL (nmG 15) yesB OFE [15] n (gs.map fun g => PyData.list (fnL w h g (w * h))) [b0, b1, b2, b3, b4, b5, b6, b7, b8, b9, b10, b11, .val (pd p), b13, b14, .un] = some ((gs.map fun g => mv w h g p).map pd, [b0, b1, b2, b3, b4, d5, b6, b7, b8, b9, b10, b11, .val (pd p), b13, b14, .un])
  | [], n, b5, _ => ⟨b5, rfl⟩
  | g :: gs, n, b5, hn => by
    rw [List.length_cons] at hn
    have one : lcL (nmG 15) yesB OFE [15] 0 [PyData.list (fnL w h g (w * h))] [b0, b1, b2, b3, b4, b5, b6, b7, b8, b9, b10, b11, .val (pd p), b13, b14, .un] = some ([pd (mv w h g p)], [b0, b1, b2, b3, b4, .un, b6, b7, b8, b9, b10, b11, .val (pd p), b13, b14, .un]) := by
      have e := way_lc hw hh hl g hp (b0 := b0) (b1 := b1) (b2 := b2) (b3 := b3) (b4 := b4) (b5 := b5) (b6 := b6) (b7 := b7) (b8 := b8) (b9 := b9) (b10 := b10) (b11 := b11) (b13 := b13) (b14 := b14)
      unfold OFE
      rw [show pd (mv w h g p) = .tuple ((mv w h g p).map PyData.int) from rfl]
      generalize (mv w h g p).map PyData.int = m at *
      generalize fnL w h g (w * h) = f at *
      generalize pd p = q at *
      generalize ILC = il at *
      simp? [e]
    obtain ⟨_, h2⟩ := lcL_cons1 one
    obtain ⟨d5, e5⟩ := ways_lc hw hh hl hp gs (n + 1) .un (by omega) (b0 := b0) (b1 := b1) (b2 := b2) (b3 := b3) (b4 := b4) (b6 := b6) (b7 := b7) (b8 := b8) (b9 := b9) (b10 := b10) (b11 := b11) (b13 := b13) (b14 := b14)
    refine ⟨d5, ?_⟩
    rw [List.map_cons, h2 n _ (by rw [sizeLine_eq]; omega)]
    show (lcL (nmG 15) yesB OFE [15] (n + 1) _ _).map _ = _
    rw [e5]
    rfl
theorem ext_ok {w h c : Nat} (hw : 0 < w) (hh : 0 < h) (hl : w * h ≤ 1000) {p : List Int} (hp : p ∈ patN c (w * h)) {gs : List Sym} (hg : gs.length ≤ 6) {W : List (List Int)} (hW : W.length ≤ 100000) {b0 b1 b2 b3 b4 b5 b6 b7 b9 b10 b13 b14 b8 : B} (h8 : OV (.list (gs.map fun g => PyData.list (fnL w h g (w * h)))) b8) : ∃ d5 : B, extE 11 (lcE (seqI bothK (fV 8)) (nmG 15) yesB OFE [15]) [b0, b1, b2, b3, b4, b5, b6, b7, b8, b9, b10, .own (.list (W.map pd)), .val (pd p), b13, b14, .un] = .ok (.val .none, [b0, b1, b2, b3, b4, d5, b6, b7, .val (.list (gs.map fun g => PyData.list (fnL w h g (w * h)))), b9, b10, .own (.list ((W ++ gs.map fun g => mv w h g p).map pd)), .val (pd p), b13, b14, .un]) := by
  obtain ⟨d5, e⟩ := ways_lc hw hh hl hp gs 0 b5 (by omega) (b0 := b0) (b1 := b1) (b2 := b2) (b3 := b3) (b4 := b4) (b6 := b6) (b7 := b7) (b8 := .val (.list (gs.map fun g => PyData.list (fnL w h g (w * h))))) (b9 := b9) (b10 := b10) (b11 := .own (.list (W.map pd))) (b13 := b13) (b14 := b14)
  refine ⟨d5, ?_⟩
  have x : (W.map pd).length + ((gs.map fun g => mv w h g p).map pd).length ≤ 1000000 := by
    rw [List.length_map, List.length_map, List.length_map]
    omega
  rw [List.map_append]
  generalize (gs.map fun g => mv w h g p).map pd = m at *
  generalize (gs.map fun g => PyData.list (fnL w h g (w * h))) = f at *
  generalize W.map pd = wl at *
  generalize pd p = q at *
  generalize OFE = oe at *
  rcases h8 with rfl | rfl
  · simp? [e, x]
  · simp? [e, x]
end M
namespace M
open PySem PySem.Spec PyProof.Rows L2 G
theorem k_in {gs : List Sym} {w h c : Nat} {K W : List (List Int)} {t : List Int} (ht : t ∈ K) {b0 b1 b2 b3 b4 b5 b6 b7 b8 b10 b12 b13 b14 : B} : L3__law_expected_9 [b0, b1, b2, b3, b4, b5, b6, b7, b8, .own (.dict (TP K)), b10, .own (.list ((W ++ [t]).map pd)), b12, b13, b14, .un] = .ok (.nx [b0, b1, b2, b3, b4, b5, b6, b7, b8, .own (.dict (TP K)), b10, .own (.list (W.map pd)), .val (pd t), b13, b14, .un]) := by
  have e := TP_nin K t
  rw [decide_eq_false (by simpa using ht)] at e
  rw [List.map_append, show [t].map pd = [pd t] from rfl]
  generalize TP K = tk at *
  generalize W.map pd = wl at *
  generalize pd t = q at *
  unfold L3__law_expected_9
  simp? [e, k_popZ, r_setX, k_sX1, k_sX2, k_sX3, k_sX4, k_sX5, k_sX6, k_sX7, k_sX8, k_sX9, r_mutX, k_mx1, r_dic1, k_d11, k_d12, k_d13, r_getX, k_gt1, k_gt3]
theorem k_out {gs : List Sym} {w h c : Nat} (hw : 0 < w) (hh : 0 < h) (hl : w * h ≤ 1000) (hg : gs.length ≤ 6) {K W : List (List Int)} {t : List Int} (ht : t ∉ K) (hk : K.length ≤ 600) (hp : t ∈ patN c (w * h)) (hW : W.length ≤ 100000) {b0 b1 b2 b3 b4 b5 b6 b7 b8 b10 b12 b13 b14 : B} (h8 : OV (.list (gs.map fun g => PyData.list (fnL w h g (w * h)))) b8) : ∃ d5 : B, L3__law_expected_9 [b0, b1, b2, b3, b4, b5, b6, b7, b8, .own (.dict (TP K)), b10, .own (.list ((W ++ [t]).map pd)), b12, b13, b14, .un] = .ok (.nx [b0, b1, b2, b3, b4, d5, b6, b7, .val (.list (gs.map fun g => PyData.list (fnL w h g (w * h)))), .own (.dict (TP (K ++ [t]))), b10, .own (.list ((W ++ gs.map fun g => mv w h g t).map pd)), .val (pd t), b13, b14, .un]) := by
  have e := TP_nin K t
  rw [decide_eq_true ht] at e
  have e2 := TP_set ht (by omega)
  obtain ⟨d5, e3⟩ := ext_ok hw hh hl hp hg hW h8 (b0 := b0) (b1 := b1) (b2 := b2) (b3 := b3) (b4 := b4) (b5 := b5) (b6 := b6) (b7 := b7) (b9 := .own (.dict (TP (K ++ [t])))) (b10 := b10) (b13 := b13) (b14 := b14)
  refine ⟨d5, ?_⟩
  have eL : L3__law_expected_9 = (seqS (asgS 12 (mutE 11 mtPop aNil)) (ifS (fB (op2 ninXD (fV 12) (fV 9))) (seqS (setXS 9 (fV 12) (fC (.bool true))) (dropS (extE 11 (lcE (seqI bothK (fV 8)) (nmG 15) yesB OFE [15])))) nxS)) := rfl
  rw [eL, List.map_append, show [t].map pd = [pd t] from rfl]
  generalize (W ++ gs.map fun g => mv w h g t).map pd = w2 at *
  generalize (gs.map fun g => PyData.list (fnL w h g (w * h))) = f at *
  generalize (extE 11 (lcE (seqI bothK (fV 8)) (nmG 15) yesB OFE [15])) = XE at *
  generalize TP (K ++ [t]) = tk2 at *
  generalize TP K = tk at *
  generalize W.map pd = wl at *
  generalize pd t = q at *
  simp? [e, e2, e3, k_popZ, r_setX, k_sX1, k_sX2, k_sX3, k_sX4, k_sX5, k_sX6, k_sX7, k_sX8, k_sX9, r_mutX, k_mx1, r_dic1, k_d11, k_d12, k_d13, r_getX, k_gt1, k_gt3]
theorem pats_le {w h c : Nat} (hw : 0 < w) (hc : c ^ (w * h) ≤ 600) {K : List (List Int)} (n : K.Nodup) (sub : ∀ p ∈ K, p ∈ patN c (w * h)) : K.length ≤ 600 := by
  have a := nodup_le (nodup_mapK hw n sub) (cols_nodup (c := c) (nodup_rev (sq2_nodup w h))) fun f hf => by
    obtain ⟨p, hp, rfl⟩ := List.mem_map.mp hf
    exact toF_mem (sub p hp)
  rw [List.length_map, cols_len, List.length_reverse, sqL_len, Int.toNat_natCast, Int.toNat_natCast] at a
  omega
/-- the state while one pattern's orbit is found -/
structure DSt (gs : List Sym) (w h c : Nat) (p : List Int) (K0 O W : List (List Int)) : Prop where
  nd : (K0 ++ O).Nodup
  ro : ∀ q ∈ O, RchP gs w h c p q
  rw : ∀ q ∈ W, RchP gs w h c p q
  pi : p ∈ O ∨ p ∈ W
  cl : ∀ q ∈ K0 ++ O, ∀ g ∈ gs, mv w h g q ∈ K0 ++ O ∨ mv w h g q ∈ W
abbrev CND : SB := fB (op2 neD (fV 11) (lstE aNil))
theorem cnd_ok (W : List (List Int)) {b0 b1 b2 b3 b4 b5 b6 b7 b8 b9 b10 b12 b13 b14 b15 : B} : CND [b0, b1, b2, b3, b4, b5, b6, b7, b8, b9, b10, .own (.list (W.map pd)), b12, b13, b14, b15] = .ok (!W.isEmpty, [b0, b1, b2, b3, b4, b5, b6, b7, b8, b9, b10, .own (.list (W.map pd)), b12, b13, b14, b15]) := by
  have e := ne_pats W
  generalize W.map pd = wl at *
  generalize (!W.isEmpty) = z at *
  simp? [e]
theorem dfs_run {gs : List Sym} {w h c : Nat} (hw : 0 < w) (hh : 0 < h) (hl : w * h ≤ 1000) (hc : c ^ (w * h) ≤ 600) (hg : gs.length ≤ 6) (fit : ∀ g ∈ gs, FitK w h g.k) {K0 : List (List Int)} (sub : ∀ q ∈ K0, q ∈ patN c (w * h)) (nd : K0.Nodup) (cl : ClM gs w h K0) {p : List Int} (hp : p ∈ patN c (w * h)) (hn : p ∉ K0) {b0 b1 b2 b3 b4 b5 b6 b7 b8 b10 b12 b13 b14 : B} (h8 : OV (.list (gs.map fun g => PyData.list (fnL w h g (w * h)))) b8) : ∃ (O : List (List Int)) (d5 d8 d12 : B), DSt gs w h c p K0 O [] ∧ OV (.list (gs.map fun g => PyData.list (fnL w h g (w * h)))) d8 ∧
    whS mu__law_expected_9_1 CND L3__law_expected_9 [b0, b1, b2, b3, b4, b5, b6, b7, b8, .own (.dict (TP K0)), b10, .own (.list ([p].map pd)), b12, b13, b14, .un] = .ok (.nx [b0, b1, b2, b3, b4, d5, b6, b7, d8, .own (.dict (TP (K0 ++ O))), b10, .own (.list []), d12, b13, b14, .un]) := by
  have subO : ∀ {O W : List (List Int)}, DSt gs w h c p K0 O W → ∀ q ∈ K0 ++ O, q ∈ patN c (w * h) := fun S q hq => by
    rcases List.mem_append.mp hq with z | z
    · exact sub q z
    · exact (S.ro q z).1
  obtain ⟨ρ', e, O, d5, d8, d12, S, q8, rfl⟩ := wh_run (c := CND) (b := L3__law_expected_9)
    (fun k ρ => ∃ (O W : List (List Int)) (d5 d8 d12 : B), DSt gs w h c p K0 O W ∧ OV (.list (gs.map fun g => PyData.list (fnL w h g (w * h)))) d8 ∧ W.length + (600 - (K0 ++ O).length) * 7 ≤ 4201 ∧ k = W.length + (600 - (K0 ++ O).length) * 7 ∧
      ρ = [b0, b1, b2, b3, b4, d5, b6, b7, d8, .own (.dict (TP (K0 ++ O))), b10, .own (.list (W.map pd)), d12, b13, b14, .un])
    (fun ρ => ∃ (O : List (List Int)) (d5 d8 d12 : B), DSt gs w h c p K0 O [] ∧ OV (.list (gs.map fun g => PyData.list (fnL w h g (w * h)))) d8 ∧ ρ = [b0, b1, b2, b3, b4, d5, b6, b7, d8, .own (.dict (TP (K0 ++ O))), b10, .own (.list []), d12, b13, b14, .un]) (by
      rintro k _ ⟨O, W, d5, d8, d12, S, q8, hb, rfl, rfl⟩
      have ec := cnd_ok W (b0 := b0) (b1 := b1) (b2 := b2) (b3 := b3) (b4 := b4) (b5 := d5) (b6 := b6) (b7 := b7) (b8 := d8) (b9 := .own (.dict (TP (K0 ++ O)))) (b10 := b10) (b12 := d12) (b13 := b13) (b14 := b14) (b15 := .un)
      rcases List.eq_nil_or_concat W with rfl | ⟨W', t, rfl⟩
      · exact .inl ⟨_, ec, O, d5, d8, d12, S, q8, rfl⟩
      · rw [List.concat_eq_append] at *
        rw [show (!(W' ++ [t]).isEmpty) = true by cases W' <;> rfl] at ec
        have hlW : (W' ++ [t]).length = W'.length + 1 := by rw [List.length_append]; rfl
        have rt := S.rw t (by simp)
        have hbK := pats_le hw hc S.nd (subO S)
        refine .inr ?_
        by_cases ht : t ∈ K0 ++ O
        · have eb := k_in (gs := gs) (w := w) (h := h) (c := c) ht (W := W') (b0 := b0) (b1 := b1) (b2 := b2) (b3 := b3) (b4 := b4) (b5 := d5) (b6 := b6) (b7 := b7) (b8 := d8) (b10 := b10) (b12 := d12) (b13 := b13) (b14 := b14)
          refine ⟨_, _, _, ec, eb, ?_, O, W', d5, d8, .val (pd t), ⟨S.nd, S.ro, fun q hq => S.rw q (by simp [hq]), ?_, fun q hq g hg' => ?_⟩, q8, ?_, rfl, rfl⟩
          · omega
          · rcases S.pi with z | z
            · exact .inl z
            · rcases List.mem_append.mp z with z | z
              · exact .inr z
              · rw [List.mem_singleton.mp z] at hn ⊢
                rcases List.mem_append.mp ht with y | y
                · exact (hn y).elim
                · exact .inl y
          · rcases S.cl q hq g hg' with z | z
            · exact .inl z
            · rcases List.mem_append.mp z with z | z
              · exact .inr z
              · rw [List.mem_singleton.mp z]
                exact .inl ht
          · omega
        · obtain ⟨x5, eb⟩ := k_out hw hh hl hg ht hbK rt.1 (W := W') (by omega) q8 (b0 := b0) (b1 := b1) (b2 := b2) (b3 := b3) (b4 := b4) (b5 := d5) (b6 := b6) (b7 := b7) (b10 := b10) (b12 := d12) (b13 := b13) (b14 := b14)
          rw [List.append_assoc] at eb
          have S2 : DSt gs w h c p K0 (O ++ [t]) (W' ++ gs.map fun g => mv w h g t) := by
            refine ⟨?_, fun q hq => ?_, fun q hq => ?_, ?_, fun q hq g hg' => ?_⟩
            · rw [← List.append_assoc]
              refine List.nodup_append.mpr ⟨S.nd, by simp, fun a ha b hb e => ?_⟩
              rw [List.mem_singleton.mp hb] at e
              rw [e] at ha
              exact ht ha
            · rcases List.mem_append.mp hq with z | z
              · exact S.ro q z
              · rw [List.mem_singleton.mp z]; exact rt
            · rcases List.mem_append.mp hq with z | z
              · exact S.rw q (by simp [z])
              · obtain ⟨g, hg', rfl⟩ := List.mem_map.mp z
                exact rt.step hw hh fit hg'
            · rcases S.pi with z | z
              · exact .inl (List.mem_append_left _ z)
              · rcases List.mem_append.mp z with z | z
                · exact .inr (List.mem_append_left _ z)
                · exact .inl (List.mem_append_right _ z)
            · rw [← List.append_assoc] at hq ⊢
              rcases List.mem_append.mp hq with z | z
              · rcases S.cl q z g hg' with y | y
                · exact .inl (List.mem_append_left _ y)
                · rcases List.mem_append.mp y with y | y
                  · exact .inr (List.mem_append_left _ y)
                  · exact .inl (List.mem_append_right _ y)
              · rw [List.mem_singleton.mp z]
                exact .inr (List.mem_append_right _ (List.mem_map_of_mem hg'))
          have hbK2 := pats_le hw hc S2.nd (subO S2)
          have l2 : (K0 ++ (O ++ [t])).length = (K0 ++ O).length + 1 := by rw [← List.append_assoc, List.length_append]; rfl
          have l3 : (W' ++ gs.map fun g => mv w h g t).length = W'.length + gs.length := by rw [List.length_append, List.length_map]
          refine ⟨_, _, _, ec, eb, ?_, O ++ [t], _, x5, _, .val (pd t), S2, .inr rfl, ?_, rfl, rfl⟩
          · rw [l3, l2]; omega
          · rw [l3, l2]; omega) (10 ^ 90) ([p].length + (600 - (K0 ++ []).length) * 7) _ (by
      have : [p].length + (600 - (K0 ++ []).length) * 7 ≤ 4201 := by rw [List.length_singleton]; omega
      exact Nat.lt_of_le_of_lt this (by decide)) ⟨[], [p], b5, b8, b12, ⟨by rw [List.append_nil]; exact nd, fun q hq => (nomatch hq), fun q hq => by rw [List.mem_singleton.mp hq]; exact RchP.self hp, .inr List.mem_cons_self, fun q hq g hg' => by
      rw [List.append_nil] at hq ⊢
      exact .inl (cl q hq g hg')⟩, h8, by rw [List.length_singleton]; omega, rfl, by rw [List.append_nil]⟩
  exact ⟨O, d5, d8, d12, S, q8, e⟩
end M
namespace M
open PySem PySem.Spec PyProof.Rows L2 G
theorem dfs_in {K : List (List Int)} {p : List Int} (hp : p ∈ K) {b0 b1 b2 b3 b4 b5 b6 b7 b8 b10 b12 b13 b14 : B} : ∃ d12 : B,
    whS mu__law_expected_9_1 CND L3__law_expected_9 [b0, b1, b2, b3, b4, b5, b6, b7, b8, .own (.dict (TP K)), b10, .own (.list ([p].map pd)), b12, b13, b14, .un] = .ok (.nx [b0, b1, b2, b3, b4, b5, b6, b7, b8, .own (.dict (TP K)), b10, .own (.list []), d12, b13, b14, .un]) := by
  obtain ⟨ρ', e, d12, rfl⟩ := wh_run (c := CND) (b := L3__law_expected_9)
    (fun k ρ => ∃ (W : List (List Int)) (d12 : B), (W = [] ∨ W = [p]) ∧ k = W.length ∧ ρ = [b0, b1, b2, b3, b4, b5, b6, b7, b8, .own (.dict (TP K)), b10, .own (.list (W.map pd)), d12, b13, b14, .un])
    (fun ρ => ∃ d12 : B, ρ = [b0, b1, b2, b3, b4, b5, b6, b7, b8, .own (.dict (TP K)), b10, .own (.list []), d12, b13, b14, .un]) (by
      rintro k _ ⟨W, d12, hW, rfl, rfl⟩
      have ec := cnd_ok W (b0 := b0) (b1 := b1) (b2 := b2) (b3 := b3) (b4 := b4) (b5 := b5) (b6 := b6) (b7 := b7) (b8 := b8) (b9 := .own (.dict (TP K))) (b10 := b10) (b12 := d12) (b13 := b13) (b14 := b14) (b15 := .un)
      rcases hW with rfl | rfl
      · exact .inl ⟨_, ec, d12, rfl⟩
      · have eb := k_in (gs := []) (w := 0) (h := 0) (c := 0) hp (W := []) (b0 := b0) (b1 := b1) (b2 := b2) (b3 := b3) (b4 := b4) (b5 := b5) (b6 := b6) (b7 := b7) (b8 := b8) (b10 := b10) (b12 := d12) (b13 := b13) (b14 := b14)
        exact .inr ⟨_, _, 0, ec, eb, Nat.zero_lt_one, [], .val (pd p), .inl rfl, rfl, rfl⟩) (10 ^ 90) 1 _ (by decide) ⟨[p], b12, .inr rfl, rfl, rfl⟩
  exact ⟨d12, e⟩
theorem one_pat {gs F : List Sym} {w h c n : Nat} (hw : 0 < w) (hh : 0 < h) (hl : w * h ≤ 1000) (hc : c ^ (w * h) ≤ 600) (hg : gs.length ≤ 6) (fit : ∀ g ∈ gs, FitK w h g.k) (hF : IsF gs w h F) {K : List (List Int)} (a : CntP gs F w h c K n) {p : List Int} (hp : p ∈ patN c (w * h)) {b0 b1 b2 b3 b4 b5 b6 b7 b8 b11 b12 b13 b14 : B} (h8 : OV (.list (gs.map fun g => PyData.list (fnL w h g (w * h)))) b8) :
    ∃ (K' : List (List Int)) (n' : Nat) (d5 d8 d12 : B), CntP gs F w h c K' n' ∧ (∀ q ∈ K, q ∈ K') ∧ p ∈ K' ∧ OV (.list (gs.map fun g => PyData.list (fnL w h g (w * h)))) d8 ∧
      turn (nmG 7) L4__law_expected_9 (pd p) [b0, b1, b2, b3, b4, b5, b6, b7, b8, .own (.dict (TP K)), .val (.int n), b11, b12, b13, b14, .un] = .ok (.nx [b0, b1, b2, b3, b4, d5, b6, .val (pd p), d8, .own (.dict (TP K')), .val (.int n'), .own (.list []), d12, b13, b14, .un]) := by
  have en := TP_nin K p
  have eL : L4__law_expected_9 = (seqS (ifS (fB (op2 ninXD (fV 7) (fV 9))) (asgS 10 (op2 addD (fV 10) (fC (.int 1)))) nxS) (seqS (asgS 11 (lstE (aCons (fV 7) aNil))) (whS mu__law_expected_9_1 CND L3__law_expected_9))) := rfl
  by_cases h0 : p ∈ K
  · obtain ⟨d12, e⟩ := dfs_in h0 (b0 := b0) (b1 := b1) (b2 := b2) (b3 := b3) (b4 := b4) (b5 := b5) (b6 := b6) (b7 := .val (pd p)) (b8 := b8) (b10 := .val (.int n)) (b12 := b12) (b13 := b13) (b14 := b14)
    refine ⟨K, n, b5, b8, d12, a, fun q hq => hq, h0, h8, ?_⟩
    rw [decide_eq_false (by simpa using h0)] at en
    rw [show [p].map pd = [pd p] from rfl] at e
    rw [eL]
    generalize whS mu__law_expected_9_1 CND L3__law_expected_9 = WH at *
    generalize TP K = tk at *
    generalize pd p = q at *
    clear h8 eL
    simp? [en, e]
  · obtain ⟨O, d5, d8, d12, S, q8, e⟩ := dfs_run hw hh hl hc hg fit a.sub a.nd a.cl hp h0 (b0 := b0) (b1 := b1) (b2 := b2) (b3 := b3) (b4 := b4) (b5 := b5) (b6 := b6) (b7 := .val (pd p)) (b10 := .val (.int (n + 1))) (b12 := b12) (b13 := b13) (b14 := b14) h8
    have pO : p ∈ O := S.pi.resolve_right fun z => nomatch z
    refine ⟨K ++ O, n + 1, d5, d8, d12, a.more hw hh fit hF h0 S.nd S.ro pO (fun q hq g hg' => (S.cl q hq g hg').resolve_right fun z => nomatch z), fun q hq => List.mem_append_left _ hq, List.mem_append_right _ pO, q8, ?_⟩
    rw [decide_eq_true h0] at en
    rw [show [p].map pd = [pd p] from rfl] at e
    rw [eL, show ((n + 1 : Nat) : Int) = (n : Int) + 1 from rfl]
    generalize whS mu__law_expected_9_1 CND L3__law_expected_9 = WH at *
    generalize TP (K ++ O) = tk2 at *
    generalize TP K = tk at *
    generalize pd p = q at *
    clear h8 eL q8
    generalize (n : Int) = nn at *
    simp? [en, e]
theorem all_pats {gs F : List Sym} {w h c : Nat} (hw : 0 < w) (hh : 0 < h) (hl : w * h ≤ 1000) (hc : c ^ (w * h) ≤ 600) (hg : gs.length ≤ 6) (fit : ∀ g ∈ gs, FitK w h g.k) (hF : IsF gs w h F) {b0 b1 b2 b3 b4 b6 b13 b14 : B} : ∀ (Q K : List (List Int)) (n : Nat) (b5 b7 b8 b11 b12 : B), CntP gs F w h c K n → (∀ q ∈ Q, q ∈ patN c (w * h)) → OV (.list (gs.map fun g => PyData.list (fnL w h g (w * h)))) b8 →
    ∃ (K' : List (List Int)) (n' : Nat) (d5 d7 d8 d11 d12 : B), CntP gs F w h c K' n' ∧ (∀ q ∈ K, q ∈ K') ∧ (∀ q ∈ Q, q ∈ K') ∧
      forL (nmG 7) L4__law_expected_9 (Q.map pd) [b0, b1, b2, b3, b4, b5, b6, b7, b8, .own (.dict (TP K)), .val (.int n), b11, b12, b13, b14, .un] = .ok (.nx [b0, b1, b2, b3, b4, d5, b6, d7, d8, .own (.dict (TP K')), .val (.int n'), d11, d12, b13, b14, .un])
  | [], K, n, b5, b7, b8, b11, b12, a, _, _ => ⟨K, n, b5, b7, b8, b11, b12, a, fun q hq => hq, fun q hq => (nomatch hq), fo_nil⟩
  | p :: Q, K, n, b5, b7, b8, b11, b12, a, hQ, h8 => by
    obtain ⟨K1, n1, x5, x8, x12, a1, s1, p1, q8, e1⟩ := one_pat hw hh hl hc hg fit hF a (hQ p List.mem_cons_self) h8 (b0 := b0) (b1 := b1) (b2 := b2) (b3 := b3) (b4 := b4) (b5 := b5) (b6 := b6) (b7 := b7) (b11 := b11) (b12 := b12) (b13 := b13) (b14 := b14)
    obtain ⟨K2, n2, d5, d7, d8, d11, d12, a2, s2, p2, e2⟩ := all_pats hw hh hl hc hg fit hF (b0 := b0) (b1 := b1) (b2 := b2) (b3 := b3) (b4 := b4) (b6 := b6) (b13 := b13) (b14 := b14) Q K1 n1 x5 (.val (pd p)) x8 (.own (.list [])) x12 a1 (fun q hq => hQ q (List.mem_cons_of_mem _ hq)) q8
    refine ⟨K2, n2, d5, d7, d8, d11, d12, a2, fun q hq => s2 q (s1 q hq), fun q hq => ?_, ?_⟩
    · rcases List.mem_cons.mp hq with rfl | z
      · exact s2 _ p1
      · exact p2 q z
    · rw [List.map_cons, turn_nx e1, e2]
theorem expected9_ok {gs : List Sym} {w h c : Nat} (hw : 0 < w) (hw2 : w ≤ 12) (hh : 0 < h) (hh2 : h ≤ 12) (hc0 : 0 < c) (hc : c ≤ 9) (hN : c ^ (w * h) ≤ 600) (hg : gs.length ≤ 6) (fit : ∀ g ∈ gs, FitK w h g.k) : ∃ n : Nat, n ≤ 600 ∧ IsC gs w h c n ∧ F__law_expected_9 [.val (.tuple (gs.map Sym.d)), .val (.int w), .val (.int h), .val (.int c)] = .ok (.val (.int n), [.un, .un, .un, .un]) := by
  have hl : w * h ≤ 1000 := Nat.le_trans (Nat.mul_le_mul hw2 hh2) (by decide)
  obtain ⟨F, hF, _, _⟩ := isF_ex hw hw2 hh hh2 fit (by omega)
  obtain ⟨d4, d5, d6, d7, h4, e1⟩ := plc_for hc0 hc hl hN (b0 := .val (.tuple (gs.map Sym.d))) (b1 := .val (.int w)) (b2 := .val (.int h)) (b6 := .un) (b7 := .un) (b8 := .un) (b9 := .un) (b10 := .un) (b11 := .un) (b12 := .un) (b14 := .un) (b15 := .un)
  have e2 : lcL (nmG 14) yesB (callF [false, false, false] F__law_moved [] (aCons (fV 14) (aCons (fV 1) (aCons (fV 2) aNil)))) [14] 0 (gs.map Sym.d) [.val (.tuple (gs.map Sym.d)), .val (.int w), .val (.int h), .val (.int c), d4, d5, d6, d7, .un, .un, .un, .un, .un, .un, .un, .un] = some (gs.map fun g => PyData.list (fnL w h g (w * h)), [.val (.tuple (gs.map Sym.d)), .val (.int w), .val (.int h), .val (.int c), d4, d5, d6, d7, .un, .un, .un, .un, .un, .un, .un, .un]) := by
    generalize PyData.tuple (gs.map Sym.d) = gt
    refine lc_map (enc := Sym.d) (fun g : Sym => PyData.list (fnL w h g (w * h))) (fun g _ => ?_) (by rw [sizeLine_eq]; omega)
    have e := moved_ok hw hw2 hh hh2 g
    generalize fnL w h g (w * h) = f at *
    generalize g.d = gd at *
    generalize (w : Int) = ww at *
    generalize (h : Int) = hhh at *
    simp? [e]
  obtain ⟨K, n, x5, x7, x8, x11, x12, a, _, al, e3⟩ := all_pats hw hh hl hN hg fit hF (b0 := .val (.tuple (gs.map Sym.d))) (b1 := .val (.int w)) (b2 := .val (.int h)) (b3 := .val (.int c)) (b4 := .val (.list ((patN c (w * h)).map pd))) (b6 := d6) (b13 := .un) (b14 := .un) (patN c (w * h)) [] 0 d5 d7 (.own (.list (gs.map fun g => PyData.list (fnL w h g (w * h))))) .un .un CntP.nil (fun q hq => hq) (.inl rfl)
  rw [show TP [] = [] from rfl, show (((0 : Nat) : Int)) = 0 from rfl] at e3
  refine ⟨n, Nat.le_trans a.le (pats_le hw hN a.nd a.sub), a.all hw hh fit hF al, ?_⟩
  have rn := rngN (n := w * h) hl
  rw [Int.natCast_mul] at rn
  have tn : ((w : Int) * h).toNat = w * h := by rw [← Int.natCast_mul, Int.toNat_natCast]
  have m1 : mulOk (w : Int) (h : Int) = true := mulOk_l (smallI_m (by omega))
  rw [r__law_expected_9]
  unfold B__law_expected_9
  generalize (gs.map fun g => PyData.list (fnL w h g (w * h))) = wl at *
  generalize (patN c (w * h)).map pd = pl at *
  generalize gs.map Sym.d = gd at *
  generalize TP K = tk at *
  generalize L2__law_expected_9 = L2 at *
  generalize L4__law_expected_9 = L4 at *
  clear a al
  generalize (n : Int) = nn at *
  generalize (c : Int) = cc at *
  rcases h4 with rfl | rfl
  · simp? [e1, e2, e3, rn, tn, m1]
  · simp? [e1, e2, e3, rn, tn, m1]
end M
namespace M
open PySem PySem.Spec PyProof.Rows L2 G
/-! ### necklaces -/
end M
namespace M
open PySem PySem.Spec PyProof.Rows L2 G
/-! ### the law's necklaces -/
end M
namespace M
open PySem PySem.Spec PyProof.Rows L2 G
/-! ### two shifts along the axes and an involution -/
end M
namespace M
open PySem PySem.Spec PyProof.Rows L2 G
/-! ### the colourings that an involution and all shifts by the sides keep -/
/-! ### the law's means -/
end M
namespace M
open PySem PySem.Spec PyProof.Rows L2 G
/-! ### fitting generators -/
def evK : Kd → Kd
  | .k0 | .k1 => .k0
  | .k2 | .k3 => .k2
  | .k4 | .k5 => .k4
  | .k6 | .k7 => .k6
theorem evK_i (k : Kd) : (k.i).fdiv 2 * 2 = (evK k).i := by cases k <;> rfl
theorem evK_fit (w h : Int) (k : Kd) : FitK w h (evK k) := by
  refine .inr ?_
  cases k
  · exact .inl rfl
  · exact .inl rfl
  · exact .inr (.inl rfl)
  · exact .inr (.inl rfl)
  · exact .inr (.inr (.inl rfl))
  · exact .inr (.inr (.inl rfl))
  · exact .inr (.inr (.inr rfl))
  · exact .inr (.inr (.inr rfl))
/-! ### other generators -/
end M
namespace L_k73
open PySem PySem.Spec PyProof.Rows L2 G M
theorem for_rngP {n : Nat} {t : SG} {b : SS} {ρ ρ' : List B} (hn : n < 1000) (h : forL t b ((List.range n).map fun i : Nat => PyData.int (0 + i)) ρ = .ok (.nx ρ')) : forS (rng1I (aCons (fC (.int n)) aNil)) t b ρ = .ok (.nx ρ') := by
  have rn : rngOk (n : Int) = true := by unfold rngOk; rw [Bool.and_eq_true, decide_eq_true_eq, decide_eq_true_eq]; omega
  simp? [rn, h, Int.toNat_natCast]
theorem for_rngP4 {t : SG} {b : SS} {ρ ρ' : List B} (h : forL t b ((List.range 4).map fun i : Nat => PyData.int (0 + i)) ρ = .ok (.nx ρ')) : forS (rng1I (aCons (fC (.int 4)) aNil)) t b ρ = .ok (.nx ρ') := for_rngP (n := 4) (by decide) h
/-! ### the sides -/
def sidL : List (Nat × Nat × Nat) := [(1, 1, 9), (1, 2, 9), (2, 1, 8), (1, 3, 6), (3, 1, 5), (2, 2, 4), (2, 2, 3), (2, 2, 2), (3, 3, 2), (4, 2, 2), (2, 4, 2), (3, 2, 2), (2, 3, 2), (5, 1, 3), (1, 6, 2), (12, 12, 1), (1, 9, 2)]
def encS (t : Nat × Nat × Nat) : PyData := .tuple [.int t.1, .int t.2.1, .int t.2.2]
theorem sid_all : ∀ t ∈ sidL, 0 < t.1 ∧ t.1 ≤ 12 ∧ 0 < t.2.1 ∧ t.2.1 ≤ 12 ∧ 0 < t.2.2 ∧ t.2.2 ≤ 9 ∧ t.2.2 ^ (t.1 * t.2.1) ≤ 600 := by decide +kernel
theorem sides_ok (s : Src) : ∃ (w h c : Nat) (s' : Src), 0 < w ∧ w ≤ 12 ∧ 0 < h ∧ h ≤ 12 ∧ 0 < c ∧ c ≤ 9 ∧ c ^ (w * h) ≤ 600 ∧ F__law_sides [.prm s.d] = .ok (.val (.tuple [.int w, .int h, .int c]), [.prm s'.d]) := by
  obtain ⟨d, hd, e⟩ := choose_ok s (ds := sidL.map encS) (by decide) (by decide)
  obtain ⟨⟨w, h, c⟩, ht, rfl⟩ := List.mem_map.mp hd
  obtain ⟨a1, a2, a3, a4, a5, a6, a7⟩ := sid_all _ ht
  refine ⟨w, h, c, s.nx (sidL.map encS).length, a1, a2, a3, a4, a5, a6, a7, ?_⟩
  change F__law_choose [.prm s.d, .val (.list [.tuple [.int 1, .int 1, .int 9], .tuple [.int 1, .int 2, .int 9], .tuple [.int 2, .int 1, .int 8], .tuple [.int 1, .int 3, .int 6], .tuple [.int 3, .int 1, .int 5], .tuple [.int 2, .int 2, .int 4], .tuple [.int 2, .int 2, .int 3], .tuple [.int 2, .int 2, .int 2], .tuple [.int 3, .int 3, .int 2], .tuple [.int 4, .int 2, .int 2], .tuple [.int 2, .int 4, .int 2], .tuple [.int 3, .int 2, .int 2], .tuple [.int 2, .int 3, .int 2], .tuple [.int 5, .int 1, .int 3], .tuple [.int 1, .int 6, .int 2], .tuple [.int 12, .int 12, .int 1], .tuple [.int 1, .int 9, .int 2]])] = .ok (.val (.tuple [.int w, .int h, .int c]), [.prm (s.nx (sidL.map encS).length).d, .un]) at e
  generalize s.nx (sidL.map encS).length = s2 at *
  clear hd ht
  generalize (w : Int) = ww at *
  generalize (h : Int) = hhh at *
  generalize (c : Int) = cc at *
  rw [r__law_sides]
  unfold B__law_sides
  simp? [e]
/-! ### the law -/
theorem lap_ok (sc : PyData) (b1 : B) (s : Src) (c3 c4 c5 c6 c7 c8 c9 c10 c11 c12 c13 c14 : B) {i : Nat} : ∃ (s' : Src) (d3 d4 d5 d6 d7 d8 d9 d10 d11 d12 d13 d14 : B), turn (nmG 3) L1_law_k73 (.int (0 + (i : Int))) [.val sc, b1, .own s.d, c3, c4, c5, c6, c7, c8, c9, c10, c11, c12, c13, c14] = .ok (.nx [.val sc, b1, .own s'.d, d3, d4, d5, d6, d7, d8, d9, d10, d11, d12, d13, d14]) := by
  obtain ⟨w, h, c, s1, hw, hw2, hh, hh2, hc, hc2, hN, e1⟩ := sides_ok s
  obtain ⟨gens, s2, hl, hf, e2⟩ := generators_ok s1 (most := 4) (far := 3) (by decide) (by decide) (by decide) (by decide)
  have hl : gens.length ≤ 4 := by omega
  have hf : ∀ g ∈ gens, g.le 3 := fun g hg => hf g hg
  have body : ∀ gs : List Sym, gs.length ≤ 4 → (∀ g ∈ gs, FitK w h g.k) → (∀ g ∈ gs, g.le 3) → ∃ n : Nat, F__law_expected_9 [.val (.tuple (gs.map Sym.d)), .val (.int w), .val (.int h), .val (.int c)] = .ok (.val (.int n), [.un, .un, .un, .un]) ∧ F_count_classes [.val (.tuple (gs.map Sym.d)), .val (.int w), .val (.int h), .val (.int c)] = .ok (.val (.int n), [.un, .un, .un, .un]) ∧ reprOk (.tuple (gs.map Sym.d)) = true ∧ F__law_is_equal_2 [.val (.list [.int n, .int n]), .val (.list [.int n, .int n])] = .ok (.val (.bool true), [.un, .un]) := fun gs hl fit hf => by
    obtain ⟨n, hn, ic, e3⟩ := expected9_ok hw hw2 hh hh2 hc hc2 hN (show gs.length ≤ 6 by omega) fit
    have e4 := classes_ok hw hw2 hh hh2 hc hc2 fit (show gs.length ≤ 6 by omega) ic
    have rg : RP 2 (6 * 6002 + 4) (.tuple (gs.map Sym.d)) := RP.syms (f := fun g : Sym => g) (l := gs) (fun g hg => ⟨Nat.lt_of_le_of_lt (hf g hg).1 (by decide), Nat.lt_of_le_of_lt (hf g hg).2 (by decide)⟩) (by omega)
    have rn : RP 0 1921 (.int (n : Int)) := RP.int (by omega)
    exact ⟨n, e3, e4, rg.ok (by decide) (by decide), is_equal_ok ((RP.lst (mem2 rn rn)).ok (by decide) (by simp))⟩
  by_cases hne : (w : Int) = h
  · obtain ⟨n, e3, e4, r, eq⟩ := body gens hl (fun g _ => .inl hne) hf
    refine ⟨s2, .val (.int (0 + (i : Int))), .val (.int w), .val (.int h), .val (.int c), .val (.tuple (gens.map Sym.d)), .val (.str (PyData.shown (.tuple (gens.map Sym.d)))), .val (.int n), .val (.list [.int n, .int n]), c11, c12, c13, .un, ?_⟩
    clear body hf hl
    generalize gens.map Sym.d = gd at *
    clear hw hw2 hh hh2 hc hc2 hN
    generalize (w : Int) = ww at *
    generalize (h : Int) = hhh at *
    subst hne
    generalize (c : Int) = cc at *
    generalize (n : Int) = nn at *
    unfold L1_law_k73
    simp? [e1, e2, e3, e4, r, eq]
  · obtain ⟨n, e3, e4, r, eq⟩ := body (gens.map fun g => ⟨evK g.k, g.x, g.y⟩) (by rw [List.length_map]; exact hl) (fun g hg => by
      obtain ⟨g', _, rfl⟩ := List.mem_map.mp hg
      exact evK_fit _ _ _) (fun g hg => by
      obtain ⟨g', hg', rfl⟩ := List.mem_map.mp hg
      exact hf g' hg')
    have lc : ∀ b0 b1 b2 b3 b4 b5 b6 b7 b8 b9 b10 b14 : B, lcL (tupG 3 (consG (nmG 11) (consG (nmG 12) (consG (nmG 13) nilG)))) yesB (tupE (aCons (op2 mulD (op2 fdivD (fV 11) (fC (.int 2))) (fC (.int 2))) (aCons (fV 12) (aCons (fV 13) aNil)))) [11, 12, 13] 0 (gens.map Sym.d) [b0, b1, b2, b3, b4, b5, b6, b7, b8, b9, b10, .un, .un, .un, b14] = some (gens.map fun g => Sym.d ⟨evK g.k, g.x, g.y⟩, [b0, b1, b2, b3, b4, b5, b6, b7, b8, b9, b10, .un, .un, .un, b14]) := fun b0 b1 b2 b3 b4 b5 b6 b7 b8 b9 b10 b14 => by
      refine lc_map (enc := Sym.d) (fun g : Sym => Sym.d ⟨evK g.k, g.x, g.y⟩) (xs := gens) (n := 0) (fun g _ => ?_) (by rw [sizeLine_eq]; omega)
      show lcL _ _ _ _ _ [PyData.tuple [.int g.k.i, .int g.x, .int g.y]] _ = some ([PyData.tuple [.int (evK g.k).i, .int g.x, .int g.y]], _)
      rw [← evK_i]
      have m2 : mulOk ((g.k.i).fdiv 2) 2 = true := mulOk_r (by decide)
      generalize g.k.i = ki at *
      simp? [m2]
    rw [List.map_map] at e3 e4 r
    change F__law_expected_9 [.val (.tuple (gens.map fun g => Sym.d ⟨evK g.k, g.x, g.y⟩)), _, _, _] = _ at e3
    change F_count_classes [.val (.tuple (gens.map fun g => Sym.d ⟨evK g.k, g.x, g.y⟩)), _, _, _] = _ at e4
    change reprOk (.tuple (gens.map fun g => Sym.d ⟨evK g.k, g.x, g.y⟩)) = true at r
    refine ⟨s2, .val (.int (0 + (i : Int))), .val (.int w), .val (.int h), .val (.int c), .val (.tuple (gens.map fun g => Sym.d ⟨evK g.k, g.x, g.y⟩)), .val (.str (PyData.shown (.tuple (gens.map fun g => Sym.d ⟨evK g.k, g.x, g.y⟩)))), .val (.int n), .val (.list [.int n, .int n]), .un, .un, .un, .un, ?_⟩
    clear body hf hl
    generalize (gens.map fun g => Sym.d ⟨evK g.k, g.x, g.y⟩) = rd at *
    generalize gens.map Sym.d = gd at *
    clear hw hw2 hh hh2 hc hc2 hN
    generalize (w : Int) = ww at *
    generalize (h : Int) = hhh at *
    generalize (c : Int) = cc at *
    generalize (n : Int) = nn at *
    unfold L1_law_k73
    simp? [e1, e2, e3, e4, r, eq, hne, lc]
theorem laps_ok (sc : PyData) (b1 : B) (s : Src) (c3 c4 c5 c6 c7 c8 c9 c10 c11 c12 c13 c14 : B) : ∃ (s' : Src) (d3 d4 d5 d6 d7 d8 d9 d10 d11 d12 d13 d14 : B), forS (rng1I (aCons (fC (.int 4)) aNil)) (nmG 3) L1_law_k73 [.val sc, b1, .own s.d, c3, c4, c5, c6, c7, c8, c9, c10, c11, c12, c13, c14] = .ok (.nx [.val sc, b1, .own s'.d, d3, d4, d5, d6, d7, d8, d9, d10, d11, d12, d13, d14]) := by
  obtain ⟨ρ', e, s', d3, d4, d5, d6, d7, d8, d9, d10, d11, d12, d13, d14, rfl⟩ := fo_range (enc := fun i : Nat => PyData.int (0 + i)) (t := nmG 3) (b := L1_law_k73) (fun i ρ => ∃ (s' : Src) (d3 d4 d5 d6 d7 d8 d9 d10 d11 d12 d13 d14 : B), ρ = [.val sc, b1, .own s'.d, d3, d4, d5, d6, d7, d8, d9, d10, d11, d12, d13, d14]) (m := 4) (ρ := [.val sc, b1, .own s.d, c3, c4, c5, c6, c7, c8, c9, c10, c11, c12, c13, c14]) ⟨s, c3, c4, c5, c6, c7, c8, c9, c10, c11, c12, c13, c14, rfl⟩ (by
    rintro i hi _ ⟨s', d3, d4, d5, d6, d7, d8, d9, d10, d11, d12, d13, d14, rfl⟩
    obtain ⟨s2, x3, x4, x5, x6, x7, x8, x9, x10, x11, x12, x13, x14, e⟩ := lap_ok sc b1 s' d3 d4 d5 d6 d7 d8 d9 d10 d11 d12 d13 d14 (i := i)
    exact ⟨_, e, s2, x3, x4, x5, x6, x7, x8, x9, x10, x11, x12, x13, x14, rfl⟩)
  exact ⟨s', d3, d4, d5, d6, d7, d8, d9, d10, d11, d12, d13, d14, for_rngP4 e⟩
theorem outer_ok {ns : List Int} (i : Nat) (b1 b2 c3 c4 c5 c6 c7 c8 c9 c10 c11 c12 c13 c14 : B) : ∃ bs' : List B, bs'.length = 14 ∧ turn (nmG 1) L2_law_k73 (.int (0 + i)) [.val (.list (ns.map PyData.int)), b1, b2, c3, c4, c5, c6, c7, c8, c9, c10, c11, c12, c13, c14] = .ok (.nx (.val (.list (ns.map PyData.int)) :: bs')) := by
  obtain ⟨s, es⟩ := drawS_ok (ns := ns) (i := i) (b2 := b2) (bs := [c3, c4, c5, c6, c7, c8, c9, c10, c11, c12, c13, c14])
  generalize PyData.list (ns.map PyData.int) = sc at *
  have h0 : (0 : Int) + (i : Int) = i := by omega
  rw [h0]
  obtain ⟨s', d3, d4, d5, d6, d7, d8, d9, d10, d11, d12, d13, d14, e⟩ := laps_ok sc (.val (.int i)) s c3 c4 c5 c6 c7 c8 c9 c10 c11 c12 c13 c14
  have eL : L2_law_k73 = seqS drawS (forS (rng1I (aCons (fC (.int 4)) aNil)) (nmG 3) L1_law_k73) := rfl
  refine ⟨[.val (.int i), .own s'.d, d3, d4, d5, d6, d7, d8, d9, d10, d11, d12, d13, d14], rfl, ?_⟩
  rw [eL]
  have core : ∀ FS DS : SS, DS [.val sc, .val (.int i), b2, c3, c4, c5, c6, c7, c8, c9, c10, c11, c12, c13, c14] = .ok (.nx [.val sc, .val (.int i), .own s.d, c3, c4, c5, c6, c7, c8, c9, c10, c11, c12, c13, c14]) → FS [.val sc, .val (.int i), .own s.d, c3, c4, c5, c6, c7, c8, c9, c10, c11, c12, c13, c14] = .ok (.nx [.val sc, .val (.int i), .own s'.d, d3, d4, d5, d6, d7, d8, d9, d10, d11, d12, d13, d14]) → turn (nmG 1) (seqS DS FS) (.int i) [.val sc, b1, b2, c3, c4, c5, c6, c7, c8, c9, c10, c11, c12, c13, c14] = .ok (.nx [.val sc, .val (.int i), .own s'.d, d3, d4, d5, d6, d7, d8, d9, d10, d11, d12, d13, d14]) := fun FS DS h1 h2 => by
    simp? [h1, h2]
  exact core _ _ es e
theorem law_ok (ns : List Int) (hl : ns.length ≤ 63) : ∃ ρ, F_law_k73 [.val (.list (ns.map PyData.int))] = .ok (.val (.bool true), ρ) := by
  rw [r_law_k73]
  refine law_end (b := forS (outerI 3) (nmG 1) L2_law_k73) (law_outer 3 (by decide) (by decide) (n := 14) (fun i bs hi hb => ?_) (List.replicate 14 .un) List.length_replicate)
  match bs, hb with
  | [b1, b2, c3, c4, c5, c6, c7, c8, c9, c10, c11, c12, c13, c14], _ => exact outer_ok i b1 b2 c3 c4 c5 c6 c7 c8 c9 c10 c11 c12 c13 c14
end L_k73
end
open PySem PySem.W PyProof.Rows in
set_option maxHeartbeats 0 in
theorem PySem.Challenge.cw_gridsym_k73_classes_of_small_patterns_co_holds : PySem.Challenge.rw_gridsym_k73_classes_of_small_patterns_co.Holds := by
  w_on; o_law; k_head; (case hw => w_witness2)
  k_fill
  refine G.end_walk (l := PySem.Challenge.rw_gridsym_k73_classes_of_small_patterns_co) (n := 63) (k := 7) (x := "_law_script") (F := fun _ => M.F_law_k73) rfl (by decide) rfl ⟨rfl, by decide, by decide⟩ (by decide +kernel) (fun w h Y => PySem.W.kIn_of Y) ?F (fun _ ns hl => L_k73.law_ok ns hl)
  case F =>
    intro w mg fa h Y KX NG hmg
    have z_all : mg "all" = none := PySem.W.mg_none_of KX NG (by k_is)
    have z_any : mg "any" = none := PySem.W.mg_none_of KX NG (by k_is)
    have z_bool : mg "bool" = none := PySem.W.mg_none_of KX NG (by k_is)
    have z_int : mg "int" = none := PySem.W.mg_none_of KX NG (by k_is)
    have z_isinstance : mg "isinstance" = none := PySem.W.mg_none_of KX NG (by k_is)
    have z_len : mg "len" = none := PySem.W.mg_none_of KX NG (by k_is)
    have z_max : mg "max" = none := PySem.W.mg_none_of KX NG (by k_is)
    have z_min : mg "min" = none := PySem.W.mg_none_of KX NG (by k_is)
    have z_range : mg "range" = none := PySem.W.mg_none_of KX NG (by k_is)
    have z_repr : mg "repr" = none := PySem.W.mg_none_of KX NG (by k_is)
    have z_sum : mg "sum" = none := PySem.W.mg_none_of KX NG (by k_is)
    have z_tuple : mg "tuple" = none := PySem.W.mg_none_of KX NG (by k_is)
    have k_EXCHANGING := G.conK_mk (mg := mg) (x := "EXCHANGING") (d := M.c_EXCHANGING) KX NG (by k_is) (G.kd_tup (by k_is) (by decide +kernel) (.cons G.kd_int (.cons G.kd_int (.cons G.kd_int (.cons G.kd_int .nil)))))
    have k_IDENTITY := G.conK_mk (mg := mg) (x := "IDENTITY") (d := M.c_IDENTITY) KX NG (by k_is) (G.kd_tup (by k_is) (by decide +kernel) (.cons G.kd_int (.cons G.kd_int (.cons G.kd_int .nil))))
    have k_KINDS := G.conK_mk (mg := mg) (x := "KINDS") (d := M.c_KINDS) KX NG (by k_is) G.kd_int
    have k_LINEAR := G.conK_mk (mg := mg) (x := "LINEAR") (d := M.c_LINEAR) KX NG (by k_is) (G.kd_tup (by k_is) (by decide +kernel) (.cons (G.kd_tup (by k_is) (by decide +kernel) (.cons G.kd_int (.cons G.kd_int (.cons G.kd_int (.cons G.kd_int .nil))))) (.cons (G.kd_tup (by k_is) (by decide +kernel) (.cons G.kd_int (.cons G.kd_int (.cons G.kd_int (.cons G.kd_int .nil))))) (.cons (G.kd_tup (by k_is) (by decide +kernel) (.cons G.kd_int (.cons G.kd_int (.cons G.kd_int (.cons G.kd_int .nil))))) (.cons (G.kd_tup (by k_is) (by decide +kernel) (.cons G.kd_int (.cons G.kd_int (.cons G.kd_int (.cons G.kd_int .nil))))) (.cons (G.kd_tup (by k_is) (by decide +kernel) (.cons G.kd_int (.cons G.kd_int (.cons G.kd_int (.cons G.kd_int .nil))))) (.cons (G.kd_tup (by k_is) (by decide +kernel) (.cons G.kd_int (.cons G.kd_int (.cons G.kd_int (.cons G.kd_int .nil))))) (.cons (G.kd_tup (by k_is) (by decide +kernel) (.cons G.kd_int (.cons G.kd_int (.cons G.kd_int (.cons G.kd_int .nil))))) (.cons (G.kd_tup (by k_is) (by decide +kernel) (.cons G.kd_int (.cons G.kd_int (.cons G.kd_int (.cons G.kd_int .nil))))) .nil)))))))))
    have k_MOST_COLOURS := G.conK_mk (mg := mg) (x := "MOST_COLOURS") (d := M.c_MOST_COLOURS) KX NG (by k_is) G.kd_int
    have k_MOST_GENERATORS := G.conK_mk (mg := mg) (x := "MOST_GENERATORS") (d := M.c_MOST_GENERATORS) KX NG (by k_is) G.kd_int
    have k_MOST_SIDE := G.conK_mk (mg := mg) (x := "MOST_SIDE") (d := M.c_MOST_SIDE) KX NG (by k_is) G.kd_int
    have t_LINEAR := G.conT_mk (mg := mg) (x := "LINEAR") (d := M.c_LINEAR) KX NG (by k_is) (by k_is) (G.kd_tup (by k_is) (by decide +kernel) (.cons (G.kd_tup (by k_is) (by decide +kernel) (.cons G.kd_int (.cons G.kd_int (.cons G.kd_int (.cons G.kd_int .nil))))) (.cons (G.kd_tup (by k_is) (by decide +kernel) (.cons G.kd_int (.cons G.kd_int (.cons G.kd_int (.cons G.kd_int .nil))))) (.cons (G.kd_tup (by k_is) (by decide +kernel) (.cons G.kd_int (.cons G.kd_int (.cons G.kd_int (.cons G.kd_int .nil))))) (.cons (G.kd_tup (by k_is) (by decide +kernel) (.cons G.kd_int (.cons G.kd_int (.cons G.kd_int (.cons G.kd_int .nil))))) (.cons (G.kd_tup (by k_is) (by decide +kernel) (.cons G.kd_int (.cons G.kd_int (.cons G.kd_int (.cons G.kd_int .nil))))) (.cons (G.kd_tup (by k_is) (by decide +kernel) (.cons G.kd_int (.cons G.kd_int (.cons G.kd_int (.cons G.kd_int .nil))))) (.cons (G.kd_tup (by k_is) (by decide +kernel) (.cons G.kd_int (.cons G.kd_int (.cons G.kd_int (.cons G.kd_int .nil))))) (.cons (G.kd_tup (by k_is) (by decide +kernel) (.cons G.kd_int (.cons G.kd_int (.cons G.kd_int (.cons G.kd_int .nil))))) .nil)))))))))
    have x_CompatibilityError := G.excK_mk (mg := mg) (x := "CompatibilityError") (newId := "ValueError.__new__") (bm := [.type "ValueError", .type "Exception", .type "BaseException", .type "object"]) KX NG (by k_is) (by k_exc) (by k_is) (by k_is) (by k_is)
    have x_GeneratorsError := G.excK_mk (mg := mg) (x := "GeneratorsError") (newId := "ValueError.__new__") (bm := [.type "ValueError", .type "Exception", .type "BaseException", .type "object"]) KX NG (by k_is) (by k_exc) (by k_is) (by k_is) (by k_is)
    have x_NumberError := G.excK_mk (mg := mg) (x := "NumberError") (newId := "ValueError.__new__") (bm := [.type "ValueError", .type "Exception", .type "BaseException", .type "object"]) KX NG (by k_is) (by k_exc) (by k_is) (by k_is) (by k_is)
    have h__law_source := G.fnK_mk (mg := mg) (dV := .none) (x := "_law_source") (st := L_k73.s__law_source) (ps := ["_law_cell_here"]) KX NG (by k_is) (by k_is) (by k_is) (by k_is)
    have h__law_cell := G.fnK_mk (mg := mg) (dV := .none) (x := "_law_cell") (st := L_k73.s__law_cell) (ps := ["_law_script", "_law_index"]) KX NG (by k_is) (by k_is) (by k_is) (by k_is)
    have h__law_draw := G.fnK_mk (mg := mg) (dV := .none) (x := "_law_draw") (st := L_k73.s__law_draw) (ps := ["_law_source_here", "_law_many"]) KX NG (by k_is) (by k_is) (by k_is) (by k_is)
    have h__law_choose := G.fnK_mk (mg := mg) (dV := .none) (x := "_law_choose") (st := L_k73.s__law_choose) (ps := ["_law_source_here", "_law_values"]) KX NG (by k_is) (by k_is) (by k_is) (by k_is)
    have h__law_sides := G.fnK_mk (mg := mg) (dV := .none) (x := "_law_sides") (st := L_k73.s__law_sides) (ps := ["_law_source_here"]) KX NG (by k_is) (by k_is) (by k_is) (by k_is)
    have h__law_square := G.fnK_mk (mg := mg) (dV := .none) (x := "_law_square") (st := L_k73.s__law_square) (ps := ["_law_source_here", "_law_far"]) KX NG (by k_is) (by k_is) (by k_is) (by k_is)
    have h__law_symmetry := G.fnK_mk (mg := mg) (dV := .none) (x := "_law_symmetry") (st := L_k73.s__law_symmetry) (ps := ["_law_source_here", "_law_far"]) KX NG (by k_is) (by k_is) (by k_is) (by k_is)
    have h__law_generators := G.fnK_mk (mg := mg) (dV := .none) (x := "_law_generators") (st := L_k73.s__law_generators) (ps := ["_law_source_here", "_law_most", "_law_far"]) KX NG (by k_is) (by k_is) (by k_is) (by k_is)
    have h__law_linear := G.fnK_mk (mg := mg) (dV := .none) (x := "_law_linear") (st := L_k73.s__law_linear) (ps := ["_law_kind", "_law_vector"]) KX NG (by k_is) (by k_is) (by k_is) (by k_is)
    have h__law_image := G.fnK_mk (mg := mg) (dV := .none) (x := "_law_image") (st := L_k73.s__law_image) (ps := ["_law_symmetry_here", "_law_square_here"]) KX NG (by k_is) (by k_is) (by k_is) (by k_is)
    have h__law_moved := G.fnK_mk (mg := mg) (dV := .none) (x := "_law_moved") (st := L_k73.s__law_moved) (ps := ["_law_generator", "_law_width", "_law_height"]) KX NG (by k_is) (by k_is) (by k_is) (by k_is)
    have h__law_expected := G.fnK_mk (mg := mg) (dV := .none) (x := "_law_expected") (st := L_k73.s__law_expected) (ps := ["_law_generators_here", "_law_width", "_law_height", "_law_colours"]) KX NG (by k_is) (by k_is) (by k_is) (by k_is)
    have h_is_integer := G.fnK_mk (mg := mg) (dV := .none) (x := "is_integer") (st := L_k73.s_is_integer) (ps := ["thing"]) KX NG (by k_is) (by k_is) (by k_is) (by k_is)
    have h_is_between := G.fnK_mk (mg := mg) (dV := .none) (x := "is_between") (st := L_k73.s_is_between) (ps := ["thing", "least", "most"]) KX NG (by k_is) (by k_is) (by k_is) (by k_is)
    have h_is_symmetry := G.fnK_mk (mg := mg) (dV := .none) (x := "is_symmetry") (st := L_k73.s_is_symmetry) (ps := ["thing"]) KX NG (by k_is) (by k_is) (by k_is) (by k_is)
    have h_is_generators := G.fnK_mk (mg := mg) (dV := .none) (x := "is_generators") (st := L_k73.s_is_generators) (ps := ["thing"]) KX NG (by k_is) (by k_is) (by k_is) (by k_is)
    have h_need_generators := G.fnK_mk (mg := mg) (dV := .none) (x := "need_generators") (st := L_k73.s_need_generators) (ps := ["thing"]) KX NG (by k_is) (by k_is) (by k_is) (by k_is)
    have h_need_between := G.fnK_mk (mg := mg) (dV := .none) (x := "need_between") (st := L_k73.s_need_between) (ps := ["thing", "least", "most"]) KX NG (by k_is) (by k_is) (by k_is) (by k_is)
    have h_wrapped := G.fnK_mk (mg := mg) (dV := .none) (x := "wrapped") (st := L_k73.s_wrapped) (ps := ["symmetry", "width", "height"]) KX NG (by k_is) (by k_is) (by k_is) (by k_is)
    have h_added := G.fnK_mk (mg := mg) (dV := .ref _) (x := "added") (st := L_k73.s_added) (ps := ["vector", "step", "many"]) KX NG (by k_is) (by k_is) (by k_is) (by k_is)
    have e_added := G.dflK_mk h_added (by k_is) (ds := [.int (1)]) (.cons G.kd_int .nil)
    have h_turned := G.fnK_mk (mg := mg) (dV := .none) (x := "turned") (st := L_k73.s_turned) (ps := ["kind", "vector"]) KX NG (by k_is) (by k_is) (by k_is) (by k_is)
    have h_offset := G.fnK_mk (mg := mg) (dV := .none) (x := "offset") (st := L_k73.s_offset) (ps := ["symmetry"]) KX NG (by k_is) (by k_is) (by k_is) (by k_is)
    have h_image_of := G.fnK_mk (mg := mg) (dV := .none) (x := "image_of") (st := L_k73.s_image_of) (ps := ["symmetry", "square"]) KX NG (by k_is) (by k_is) (by k_is) (by k_is)
    have h_kind_after := G.fnK_mk (mg := mg) (dV := .none) (x := "kind_after") (st := L_k73.s_kind_after) (ps := ["first", "second"]) KX NG (by k_is) (by k_is) (by k_is) (by k_is)
    have h_product_of := G.fnK_mk (mg := mg) (dV := .none) (x := "product_of") (st := L_k73.s_product_of) (ps := ["first", "second"]) KX NG (by k_is) (by k_is) (by k_is) (by k_is)
    have h_wrapped_group := G.fnK_mk (mg := mg) (dV := .none) (x := "wrapped_group") (st := L_k73.s_wrapped_group) (ps := ["generators", "width", "height"]) KX NG (by k_is) (by k_is) (by k_is) (by k_is)
    have h_raised := G.fnK_mk (mg := mg) (dV := .none) (x := "raised") (st := L_k73.s_raised) (ps := ["number", "exponent"]) KX NG (by k_is) (by k_is) (by k_is) (by k_is)
    have h_cycles_of := G.fnK_mk (mg := mg) (dV := .none) (x := "cycles_of") (st := L_k73.s_cycles_of) (ps := ["symmetry", "width", "height"]) KX NG (by k_is) (by k_is) (by k_is) (by k_is)
    have h_count_classes := G.fnK_mk (mg := mg) (dV := .none) (x := "count_classes") (st := L_k73.s_count_classes) (ps := ["generators", "width", "height", "colours"]) KX NG (by k_is) (by k_is) (by k_is) (by k_is)
    have h__law_is_equal := G.fnK_mk (mg := mg) (dV := .none) (x := "_law_is_equal") (st := L_k73.s__law_is_equal) (ps := ["_law_actual", "_law_expected_here"]) KX NG (by k_is) (by k_is) (by k_is) (by k_is)
    have h_law := G.fnK_mk (mg := mg) (dV := .none) (x := "law") (st := L_k73.s_law) (ps := ["_law_script"]) KX NG (by k_is) (by k_is) (by k_is) (by k_is)
    have e := hmg.symm.trans h_law.at_
    cases e
    refine ⟨_, [], { T := [], es := [] }, G.noTabs, fun s u => G.binds_at h_law (fun _ _ _ _ _ _ _ => rfl) s u, fun base _ _ sys TB => ?_⟩
    have g__law_source := L_k73.g__law_source (P := PySem.Challenge.pw_gridsym_k73_classes_of_small_patterns_co) (w := w) (Γ := { T := [], es := [] }) h__law_source sys z_max
    have f__law_source := G.called_of h__law_source (L_k73.b__law_source h__law_source) g__law_source
    have g__law_cell := L_k73.g__law_cell (P := PySem.Challenge.pw_gridsym_k73_classes_of_small_patterns_co) (w := w) (Γ := { T := [], es := [] }) h__law_cell sys z_len
    have f__law_cell := G.called_of h__law_cell (L_k73.b__law_cell h__law_cell) g__law_cell
    have g__law_draw := L_k73.g__law_draw (P := PySem.Challenge.pw_gridsym_k73_classes_of_small_patterns_co) (w := w) (Γ := { T := [], es := [] }) h__law_draw sys
    have f__law_draw := G.called_of h__law_draw (L_k73.b__law_draw h__law_draw) g__law_draw
    have g__law_choose := L_k73.g__law_choose (P := PySem.Challenge.pw_gridsym_k73_classes_of_small_patterns_co) (w := w) (Γ := { T := [], es := [] }) h__law_choose sys z_len f__law_draw
    have f__law_choose := G.called_of h__law_choose (L_k73.b__law_choose h__law_choose) g__law_choose
    have g__law_sides := L_k73.g__law_sides (P := PySem.Challenge.pw_gridsym_k73_classes_of_small_patterns_co) (w := w) (Γ := { T := [], es := [] }) h__law_sides sys f__law_choose
    have f__law_sides := G.called_of h__law_sides (L_k73.b__law_sides h__law_sides) g__law_sides
    have g__law_square := L_k73.g__law_square (P := PySem.Challenge.pw_gridsym_k73_classes_of_small_patterns_co) (w := w) (Γ := { T := [], es := [] }) h__law_square sys f__law_draw
    have f__law_square := G.called_of h__law_square (L_k73.b__law_square h__law_square) g__law_square
    have g__law_symmetry := L_k73.g__law_symmetry (P := PySem.Challenge.pw_gridsym_k73_classes_of_small_patterns_co) (w := w) (Γ := { T := [], es := [] }) h__law_symmetry sys f__law_draw f__law_square
    have f__law_symmetry := G.called_of h__law_symmetry (L_k73.b__law_symmetry h__law_symmetry) g__law_symmetry
    have g__law_generators := L_k73.g__law_generators (P := PySem.Challenge.pw_gridsym_k73_classes_of_small_patterns_co) (w := w) (Γ := { T := [], es := [] }) h__law_generators sys z_max z_min z_range z_tuple f__law_choose f__law_draw f__law_square f__law_symmetry
    have f__law_generators := G.called_of h__law_generators (L_k73.b__law_generators h__law_generators) g__law_generators
    have g__law_linear := L_k73.g__law_linear (P := PySem.Challenge.pw_gridsym_k73_classes_of_small_patterns_co) (w := w) (Γ := { T := [], es := [] }) h__law_linear sys z_range
    have f__law_linear := G.called_of h__law_linear (L_k73.b__law_linear h__law_linear) g__law_linear
    have g__law_image := L_k73.g__law_image (P := PySem.Challenge.pw_gridsym_k73_classes_of_small_patterns_co) (w := w) (Γ := { T := [], es := [] }) h__law_image sys f__law_linear
    have f__law_image := G.called_of h__law_image (L_k73.b__law_image h__law_image) g__law_image
    have g__law_moved := L_k73.g__law_moved (P := PySem.Challenge.pw_gridsym_k73_classes_of_small_patterns_co) (w := w) (Γ := { T := [], es := [] }) h__law_moved sys z_range f__law_image
    have f__law_moved := G.called_of h__law_moved (L_k73.b__law_moved h__law_moved) g__law_moved
    have g__law_expected := L_k73.g__law_expected (P := PySem.Challenge.pw_gridsym_k73_classes_of_small_patterns_co) (w := w) (Γ := { T := [], es := [] }) h__law_expected sys z_range z_tuple f__law_moved
    have f__law_expected := G.called_of h__law_expected (L_k73.b__law_expected h__law_expected) g__law_expected
    have g_is_integer := L_k73.g_is_integer (P := PySem.Challenge.pw_gridsym_k73_classes_of_small_patterns_co) (w := w) (Γ := { T := [], es := [] }) h_is_integer sys z_bool z_int z_isinstance
    have f_is_integer := G.called_of h_is_integer (L_k73.b_is_integer h_is_integer) g_is_integer
    have g_is_between := L_k73.g_is_between (P := PySem.Challenge.pw_gridsym_k73_classes_of_small_patterns_co) (w := w) (Γ := { T := [], es := [] }) h_is_between sys f_is_integer
    have f_is_between := G.called_of h_is_between (L_k73.b_is_between h_is_between) g_is_between
    have g_is_symmetry := L_k73.g_is_symmetry (P := PySem.Challenge.pw_gridsym_k73_classes_of_small_patterns_co) (w := w) (Γ := { T := [], es := [] }) h_is_symmetry sys z_all z_isinstance z_len z_tuple k_KINDS f_is_between f_is_integer
    have f_is_symmetry := G.called_of h_is_symmetry (L_k73.b_is_symmetry h_is_symmetry) g_is_symmetry
    have g_is_generators := L_k73.g_is_generators (P := PySem.Challenge.pw_gridsym_k73_classes_of_small_patterns_co) (w := w) (Γ := { T := [], es := [] }) h_is_generators sys z_all z_isinstance z_len z_tuple k_MOST_GENERATORS f_is_symmetry
    have f_is_generators := G.called_of h_is_generators (L_k73.b_is_generators h_is_generators) g_is_generators
    have g_need_generators := L_k73.g_need_generators (P := PySem.Challenge.pw_gridsym_k73_classes_of_small_patterns_co) (w := w) (Γ := { T := [], es := [] }) h_need_generators sys x_GeneratorsError f_is_generators
    have f_need_generators := G.called_of h_need_generators (L_k73.b_need_generators h_need_generators) g_need_generators
    have g_need_between := L_k73.g_need_between (P := PySem.Challenge.pw_gridsym_k73_classes_of_small_patterns_co) (w := w) (Γ := { T := [], es := [] }) h_need_between sys x_NumberError f_is_between
    have f_need_between := G.called_of h_need_between (L_k73.b_need_between h_need_between) g_need_between
    have g_wrapped := L_k73.g_wrapped (P := PySem.Challenge.pw_gridsym_k73_classes_of_small_patterns_co) (w := w) (Γ := { T := [], es := [] }) h_wrapped sys
    have f_wrapped := G.called_of h_wrapped (L_k73.b_wrapped h_wrapped) g_wrapped
    have g_added := L_k73.g_added (P := PySem.Challenge.pw_gridsym_k73_classes_of_small_patterns_co) (w := w) (Γ := { T := [], es := [] }) h_added sys
    have f_added_1 := G.called_d h_added (L_k73.bd_added_1 h_added e_added) g_added
    have g_turned := L_k73.g_turned (P := PySem.Challenge.pw_gridsym_k73_classes_of_small_patterns_co) (w := w) (Γ := { T := [], es := [] }) h_turned sys k_LINEAR
    have f_turned := G.called_of h_turned (L_k73.b_turned h_turned) g_turned
    have g_offset := L_k73.g_offset (P := PySem.Challenge.pw_gridsym_k73_classes_of_small_patterns_co) (w := w) (Γ := { T := [], es := [] }) h_offset sys
    have f_offset := G.called_of h_offset (L_k73.b_offset h_offset) g_offset
    have g_image_of := L_k73.g_image_of (P := PySem.Challenge.pw_gridsym_k73_classes_of_small_patterns_co) (w := w) (Γ := { T := [], es := [] }) h_image_of sys f_added_1 f_offset f_turned
    have f_image_of := G.called_of h_image_of (L_k73.b_image_of h_image_of) g_image_of
    have g_kind_after := L_k73.g_kind_after (P := PySem.Challenge.pw_gridsym_k73_classes_of_small_patterns_co) (w := w) (Γ := { T := [], es := [] }) h_kind_after sys t_LINEAR f_turned
    have f_kind_after := G.called_of h_kind_after (L_k73.b_kind_after h_kind_after) g_kind_after
    have g_product_of := L_k73.g_product_of (P := PySem.Challenge.pw_gridsym_k73_classes_of_small_patterns_co) (w := w) (Γ := { T := [], es := [] }) h_product_of sys f_image_of f_kind_after f_offset
    have f_product_of := G.called_of h_product_of (L_k73.b_product_of h_product_of) g_product_of
    have g_wrapped_group := L_k73.g_wrapped_group (P := PySem.Challenge.pw_gridsym_k73_classes_of_small_patterns_co) (w := w) (Γ := { T := [], es := [] }) h_wrapped_group sys k_IDENTITY f_product_of f_wrapped
    have f_wrapped_group := G.called_of h_wrapped_group (L_k73.b_wrapped_group h_wrapped_group) g_wrapped_group
    have g_raised := L_k73.g_raised (P := PySem.Challenge.pw_gridsym_k73_classes_of_small_patterns_co) (w := w) (Γ := { T := [], es := [] }) h_raised sys z_range
    have f_raised := G.called_of h_raised (L_k73.b_raised h_raised) g_raised
    have g_cycles_of := L_k73.g_cycles_of (P := PySem.Challenge.pw_gridsym_k73_classes_of_small_patterns_co) (w := w) (Γ := { T := [], es := [] }) h_cycles_of sys z_range f_image_of
    have f_cycles_of := G.called_of h_cycles_of (L_k73.b_cycles_of h_cycles_of) g_cycles_of
    have g_count_classes := L_k73.g_count_classes (P := PySem.Challenge.pw_gridsym_k73_classes_of_small_patterns_co) (w := w) (Γ := { T := [], es := [] }) h_count_classes sys z_any z_len z_sum k_EXCHANGING k_MOST_COLOURS k_MOST_SIDE x_CompatibilityError f_cycles_of f_need_between f_need_generators f_raised f_wrapped_group
    have f_count_classes := G.called_of h_count_classes (L_k73.b_count_classes h_count_classes) g_count_classes
    have g__law_is_equal := L_k73.g__law_is_equal (P := PySem.Challenge.pw_gridsym_k73_classes_of_small_patterns_co) (w := w) (Γ := { T := [], es := [] }) h__law_is_equal sys z_repr
    have f__law_is_equal := G.called_of h__law_is_equal (L_k73.b__law_is_equal h__law_is_equal) g__law_is_equal
    exact L_k73.g_law h_law sys z_len z_max z_min z_range z_repr z_tuple f__law_cell f__law_expected f__law_generators f__law_is_equal f__law_sides f__law_source f_count_classes
