import PyProof.Rows.All
import Wide.All
import OpenK.AllK
import Wide.FinOn
import HandS.ForMost
import HandS.ForExc
import HandS.TupAny
import HandS.TupLe
import HandS.Deep
import HandS.Wide
import HandS.IsInst
import HandS.Flow
import HandS.Lambda
import HandS.Small
import HandS.Dict
import HandS.Iter
import HandS.More
import HandS.Style
import HandS.NoneIn
import HandS.EndTab
import HandS.ExcOwn
import HandS.Defaults
import HandS.Strs
import HandS.ExcIs
import KE.KExcIs
import HandS.HotCalls
import HandS.SortRule
import HandS.SortInts
import HandS.TupSets
import KE.GoesEnum
import HandS.ListItems
import HandS.TupMul
import KE.KEqNest
import HandS.Text
import HandS.FStr
import HandS.ExcInit
import HandS.ExcField
import HandS.WordsExc
import KE.DataMinMax
import KE.SortData
import KE.KDictDisplayH
import HandS.TupLen
import HandS.DictSubView
import KE.KDictCopyH
import HandS.Conv
import KE.KDictWalk
import KE.KeyNested
import PyProof.CollectIter
import PyProof.TupleOfGen
import KE.GoesZip
import HandS.Zip
import HandS.Codes
import HandS.MakeKw
import HandS.MakeKwOnly
import HandS.ExcValue
import PySem.Challenge.RW_gridsym_k06_symmetries_by_hand_and_by_na
set_option Elab.async false
set_option linter.all false
set_option maxRecDepth 100000
/-! the data layer: values as PyData, bindings of a frame's slots, what an expression does as a function of the bindings -/
namespace G
open PySem PySem.Spec PyProof.Rows L2
abbrev St := L2.St
def kD : Key → PyData
  | .inl i => .int i
  | .inr x => .str x
/-- a list that nobody writes: frozen, or of the module -/
def LstR (K : PySem.W.Frag) (H : Hp) (a : Addr) (xs : List V) : Prop :=
  (∃ o, H a = some (.frz o (.lst xs))) ∨
    ∃ (its : List Value) (n : Nat), K.lookup a = some { cls := .type "list", data := .seq its.toArray n } ∧ its.length ≤ sizeLine ∧ Vals xs its
/-- a list that is read -/
def LstX (K : PySem.W.Frag) (H : Hp) (a : Addr) (xs : List V) : Prop := H a = some (.lst xs) ∨ LstR K H a xs
/-- a table of code objects: it grows as lambdas are made -/
def isTb : HO → Prop
  | .tbl _ => True
  | _ => False
/-- the hash of a tuple of ints -/
def hI (ns : List Int) : Int := reduceHash (Builtin.Tuple.tupleHashOf (ns.map hashInt))
abbrev KX := List Int × Addr × Value
def entX (x : KX) : DictEntry := ⟨hI x.1, .ref x.2.1, x.2.2⟩
/-- a dict at a whose keys are tuples of ints, whatever tuples they are: told by its entries -/
def TXφ (a : Addr) (xs : List KX) (h : Heap) : Prop := (a == sysModules) = false ∧ xs.length ≤ sizeLine ∧ (xs.map (·.1)).Nodup ∧ ∃ o es ep, h.get? a = some o ∧ o.ExactDict ∧ o.data = .dict es ep ∧ es.toList = xs.map entX
def TX (a : Addr) (xs : List KX) : HO := .ext (TXφ a xs)
theorem tx_code {a c : Addr} {q : Str} {xs : List KX} : TX a xs ≠ LamX.CodeO c q := fun z => by
  injection z with z
  let ob : Obj := { cls := .none, data := .fields #[.none, .str q 0] }
  have g : ∀ b o, (⟨Array.replicate (c + 1) ob, {}⟩ : Heap).get? b = some o → o = ob := fun b o e => by
    unfold Heap.get? at e
    dsimp only at e
    rw [Array.getElem?_replicate] at e
    by_cases hb : b < c + 1
    · rw [if_pos hb] at e
      exact (Option.some.inj e).symm
    · rw [if_neg hb] at e
      cases e
  have gc : (⟨Array.replicate (c + 1) ob, {}⟩ : Heap).get? c = some ob := by
    unfold Heap.get?
    dsimp only
    rw [Array.getElem?_replicate, if_pos (Nat.lt_succ_self c)]
  have h1 : (fun h : Heap => ∃ (oc : Obj) (vs : Array Value) (t : Tok), h.get? c = some oc ∧ oc.data = .fields vs ∧ vs[1]? = some (.str q t)) (⟨Array.replicate (c + 1) ob, {}⟩ : Heap) := ⟨ob, _, 0, gc, rfl, rfl⟩
  rw [← z] at h1
  obtain ⟨_, _, _, o, es, ep, h2, _, h3, _⟩ := h1
  rw [g a o h2] at h3
  cases h3
/-- tables when a list, dict .. is written -/
theorem tabs_upd {T : List (Addr × Str)} {H : Hp} {a : Addr} {o o' : HO} (t : LamX.Tabs T H) (e : H a = some o) (n1 : ¬ isTb o) (n2 : ∀ c q, o ≠ LamX.CodeO c q) : LamX.Tabs T (upd H a o') := fun p hp => by
  obtain ⟨ps, h1, h2, h3⟩ := t p hp
  refine ⟨ps, ?_, h2, fun pos cv hc => ?_⟩
  · rw [upd_ne]
    · exact h1
    · intro z
      rw [z, e] at h1
      cases h1
      exact n1 trivial
  · obtain ⟨c, e1, e2⟩ := h3 pos cv hc
    refine ⟨c, e1, ?_⟩
    rw [upd_ne]
    · exact e2
    · intro z
      rw [z, e] at e2
      exact n2 _ _ (Option.some.inj e2)
/-- a dict; what may be locked while it is walked -/
def isDc : HO → Prop
  | .dK _ => True
  | .ext _ => True
  | _ => False
/-- the object stands there, or (a dict) stands there locked -/
def HasO (H : Hp) (a : Addr) (o : HO) : Prop := H a = some o ∨ (isDc o ∧ ∃ od, H a = some (.frz od o))
theorem HasO.lst {H : Hp} {a : Addr} {xs : List V} (h : HasO H a (.lst xs)) : H a = some (.lst xs) := by
  rcases h with h | ⟨h, _⟩
  · exact h
  · exact h.elim
theorem HasO.some {H : Hp} {a : Addr} {o : HO} (h : HasO H a o) : ∃ u, H a = some u := by
  rcases h with h | ⟨_, od, h⟩
  · exact ⟨_, h⟩
  · exact ⟨_, h⟩
mutual
/-- v is the datum d; its lists and dicts are shared ones (in S) -/
inductive Dr (K : PySem.W.Frag) (S : Addr → Prop) (H : Hp) : V → PyData → Prop
  | non : Dr K S H .non .none
  | bl (b : Bool) : Dr K S H (.bl b) (.bool b)
  | int (i : Int) : Dr K S H (.int i) (.int i)
  | str (x : Str) : Dr K S H (.str x) (.str x)
  | obj {a : Addr} {o : HO} {d : PyData} : HasO H a o → S a → Ct K S H o d → Dr K S H (.ref a) d
  | lstR {a : Addr} {xs : List V} {ds : List PyData} : LstR K H a xs → DrAll K S H xs ds → Dr K S H (.ref a) (.list ds)
  | tup {a : Addr} {xs : List V} {ds : List PyData} : SqT K H a xs → DrAll K S H xs ds → Dr K S H (.ref a) (.tuple ds)
inductive DrAll (K : PySem.W.Frag) (S : Addr → Prop) (H : Hp) : List V → List PyData → Prop
  | nil : DrAll K S H [] []
  | cons {v : V} {vs : List V} {d : PyData} {ds : List PyData} : Dr K S H v d → DrAll K S H vs ds → DrAll K S H (v :: vs) (d :: ds)
/-- what a list or dict object holds -/
inductive Ct (K : PySem.W.Frag) (S : Addr → Prop) (H : Hp) : HO → PyData → Prop
  | lst {xs : List V} {ds : List PyData} : DrAll K S H xs ds → Ct K S H (.lst xs) (.list ds)
  | dK {kvs : List (Key × V)} {ds : List PyData} : DrAll K S H (kvs.map (·.2)) ds → Ct K S H (.dK kvs) (.dict ((kvs.map fun p => kD p.1).zip ds))
  | dX {a : Addr} {xs : List KX} {vs : List V} {ds : List PyData} : (∀ x ∈ xs, SqT K H x.2.1 (x.1.map V.int)) → Vals vs (xs.map (·.2.2)) → DrAll K S H vs ds → Ct K S H (TX a xs) (.dict ((xs.map fun x => PyData.tuple (x.1.map PyData.int)).zip ds))
end
theorem DrAll.length {K : PySem.W.Frag} {S : Addr → Prop} {H : Hp} : ∀ {vs : List V} {ds : List PyData}, DrAll K S H vs ds → vs.length = ds.length
  | [], _, h => by cases h; rfl
  | v :: vs, _, h => by
    cases h with
    | cons h1 h2 => simp only [List.length_cons]; rw [DrAll.length h2]
theorem DrAll.get {K : PySem.W.Frag} {S : Addr → Prop} {H : Hp} : ∀ {vs : List V} {ds : List PyData} {i : Nat} {d : PyData}, DrAll K S H vs ds → ds[i]? = some d → ∃ v, vs[i]? = some v ∧ Dr K S H v d
  | [], _, i, d, h, e => by cases h; simp at e
  | v :: vs, _, 0, d, h, e => by
    cases h with
    | cons h1 h2 => simp at e; subst e; exact ⟨v, rfl, h1⟩
  | v :: vs, _, i + 1, d, h, e => by
    cases h with
    | cons h1 h2 =>
      obtain ⟨u, e1, e2⟩ := DrAll.get (i := i) h2 (by simpa using e)
      exact ⟨u, by simpa using e1, e2⟩
theorem DrAll.append {K : PySem.W.Frag} {S : Addr → Prop} {H : Hp} : ∀ {vs us : List V} {ds es : List PyData}, DrAll K S H vs ds → DrAll K S H us es → DrAll K S H (vs ++ us) (ds ++ es)
  | [], _, _, _, h, h' => by cases h; exact h'
  | v :: vs, _, _, _, h, h' => by
    cases h with
    | cons h1 h2 => exact .cons h1 (DrAll.append h2 h')
theorem DrAll.drop {K : PySem.W.Frag} {S : Addr → Prop} {H : Hp} : ∀ {vs : List V} {ds : List PyData} (n : Nat), DrAll K S H vs ds → DrAll K S H (vs.drop n) (ds.drop n)
  | _, _, 0, h => h
  | [], _, n + 1, h => by cases h; exact .nil
  | v :: vs, _, n + 1, h => by
    cases h with
    | cons h1 h2 => exact DrAll.drop n h2
theorem DrAll.take {K : PySem.W.Frag} {S : Addr → Prop} {H : Hp} : ∀ {vs : List V} {ds : List PyData} (n : Nat), DrAll K S H vs ds → DrAll K S H (vs.take n) (ds.take n)
  | _, _, 0, h => .nil
  | [], _, n + 1, h => by cases h; exact .nil
  | v :: vs, _, n + 1, h => by
    cases h with
    | cons h1 h2 => exact .cons h1 (DrAll.take n h2)
theorem DrAll.set {K : PySem.W.Frag} {S : Addr → Prop} {H : Hp} {v : V} {d : PyData} (r : Dr K S H v d) : ∀ {vs : List V} {ds : List PyData} (n : Nat), DrAll K S H vs ds → DrAll K S H (vs.set n v) (ds.set n d)
  | [], _, _, h => by cases h; exact .nil
  | u :: vs, _, 0, h => by
    cases h with
    | cons h1 h2 => exact .cons r h2
  | u :: vs, _, n + 1, h => by
    cases h with
    | cons h1 h2 => exact .cons h1 (DrAll.set r n h2)
theorem DrAll.reverse {K : PySem.W.Frag} {S : Addr → Prop} {H : Hp} : ∀ {vs : List V} {ds : List PyData}, DrAll K S H vs ds → DrAll K S H vs.reverse ds.reverse
  | [], _, h => by cases h; exact .nil
  | v :: vs, _, h => by
    cases h with
    | cons h1 h2 => rw [List.reverse_cons, List.reverse_cons]; exact (DrAll.reverse h2).append (.cons h1 .nil)
/-- the data part of a step: what Dr leans on is kept -/
structure Ex (S : Addr → Prop) (H : Hp) (S' : Addr → Prop) (H' : Hp) : Prop where
  s : ∀ a, S a → S' a
  sh : ∀ a o, S a → ¬ isTb o → HasO H a o → HasO H' a o
  tup : ∀ a xs, H a = some (.tup xs) → H' a = some (.tup xs)
  frz : ∀ a o u, H a = some (.frz o u) → H' a = some (.frz o u)
  xd : ∀ a fs, H a = some (.xd fs) → H' a = some (.xd fs)
theorem SqT.ex {K : PySem.W.Frag} {S S' : Addr → Prop} {H H' : Hp} (e : Ex S H S' H') {a : Addr} {xs : List V} (h : SqT K H a xs) : SqT K H' a xs := by
  rcases h with (h | ⟨o, h⟩) | h
  · exact .inl (.inl (e.tup _ _ h))
  · exact .inl (.inr ⟨o, e.frz _ _ _ h⟩)
  · exact .inr h
theorem LstR.ex {K : PySem.W.Frag} {S S' : Addr → Prop} {H H' : Hp} (e : Ex S H S' H') {a : Addr} {xs : List V} (h : LstR K H a xs) : LstR K H' a xs := by
  rcases h with ⟨o, h⟩ | h
  · exact .inl ⟨o, e.frz _ _ _ h⟩
  · exact .inr h
theorem LstR.sq {K : PySem.W.Frag} {H : Hp} {a : Addr} {xs : List V} (h : LstR K H a xs) : SqL K H a xs := by
  rcases h with ⟨o, h⟩ | ⟨its, n, h, z, v⟩
  · exact .inl (.inr ⟨o, h⟩)
  · exact .inr ⟨_, its.toArray, n, h, rfl, rfl, rfl, by simpa using z, by simpa using v⟩
theorem LstX.sq {K : PySem.W.Frag} {H : Hp} {a : Addr} {xs : List V} (h : LstX K H a xs) : SqL K H a xs := by
  rcases h with h | h
  · exact .inl (.inl h)
  · exact h.sq
theorem LstX.at_ {X : Cx} {pins : List (Addr × Obj)} {σ : St} {H : Hp} {s : Shared} {a : Addr} {xs : List V} (I : Inv X pins σ H s) (h : LstX X.K H a xs) :
    ∃ (its : List Value) (n : Nat), Vals xs its ∧ s.heap.get? a = some { cls := .type "list", data := .seq its.toArray n } ∧ xs.length ≤ sizeLine := by
  rcases h with h | ⟨o, h⟩ | ⟨its, n, h, z, v⟩
  · exact I.lst h
  · obtain ⟨e, q⟩ := (show ObjOk X.prog X.w H s.heap a (.frz o (.lst xs)) from I.hok a _ h)
    obtain ⟨z, its, n, r, e2⟩ := q
    exact ⟨its, n, r, e2, z⟩
  · exact ⟨its, n, v, I.kIn _ _ h, by rw [v.length]; exact z⟩
theorem Ct.notTb {K : PySem.W.Frag} {S : Addr → Prop} {H : Hp} {o : HO} {d : PyData} (h : Ct K S H o d) : ¬ isTb o := by cases h <;> exact fun z => z
theorem Ct.notCode {K : PySem.W.Frag} {S : Addr → Prop} {H : Hp} {o : HO} {d : PyData} (h : Ct K S H o d) : ∀ c q, o ≠ LamX.CodeO c q := by
  cases h with
  | dX _ _ _ => exact fun _ _ => tx_code
  | _ => exact fun _ _ z => nomatch z
theorem tb_dc {o : HO} (h : isTb o) : ¬ isDc o := by cases o <;> first | exact fun z => z | exact h.elim
theorem Dr.ex {K : PySem.W.Frag} {S S' : Addr → Prop} {H H' : Hp} (e : Ex S H S' H') {v : V} {d : PyData} (h : Dr K S H v d) : Dr K S' H' v d :=
  Dr.rec (motive_1 := fun v d _ => Dr K S' H' v d) (motive_2 := fun vs ds _ => DrAll K S' H' vs ds) (motive_3 := fun o d _ => Ct K S' H' o d)
    .non .bl .int .str (fun ha hs q hc => .obj (e.sh _ _ hs q.notTb ha) (e.s _ hs) hc) (fun hl _ h => .lstR (hl.ex e) h) (fun ht _ h => .tup (SqT.ex e ht) h)
    .nil (fun _ _ h1 h2 => .cons h1 h2) (fun _ h => .lst h) (fun _ h => .dK h) (fun hk hv _ h => .dX (fun x hx => SqT.ex e (hk x hx)) hv h) h
theorem DrAll.ex {K : PySem.W.Frag} {S S' : Addr → Prop} {H H' : Hp} (e : Ex S H S' H') : ∀ {vs : List V} {ds : List PyData}, DrAll K S H vs ds → DrAll K S' H' vs ds
  | [], _, h => by cases h; exact .nil
  | v :: vs, _, h => by
    cases h with
    | cons h1 h2 => exact .cons (h1.ex e) (DrAll.ex e h2)
theorem Ct.ex {K : PySem.W.Frag} {S S' : Addr → Prop} {H H' : Hp} (e : Ex S H S' H') {o : HO} {d : PyData} (h : Ct K S H o d) : Ct K S' H' o d := by
  cases h with
  | lst h => exact .lst (h.ex e)
  | dK h => exact .dK (h.ex e)
  | dX hk hv h => exact .dX (fun x hx => SqT.ex e (hk x hx)) hv (h.ex e)
/-- objects that Ct speaks of -/
theorem Ct.notTup {K : PySem.W.Frag} {S : Addr → Prop} {H : Hp} {xs : List V} {d : PyData} (h : Ct K S H (.tup xs) d) : False := by cases h
theorem Ct.notXd {K : PySem.W.Frag} {S : Addr → Prop} {H : Hp} {fs : List (Str × V)} {d : PyData} (h : Ct K S H (.xd fs) d) : False := by cases h
theorem Ct.notFrz {K : PySem.W.Frag} {S : Addr → Prop} {H : Hp} {o : Obj} {u : HO} {d : PyData} (h : Ct K S H (.frz o u) d) : False := by cases h
/-! ### bindings -/
/-- an exception: its class's name; what it holds (amount, limit), if it is made by an own __init__ -/
structure Xn where
  cls : Str
  pl : Option (Int × Int)
instance : Coe Str Xn := ⟨fun s => ⟨s, none⟩⟩
instance : CoeTail String Xn := ⟨fun s => ⟨(s : Str), none⟩⟩
/-- the dict of such an exception -/
def limFs (a b : Int) : List (Str × V) := [("limit", .int b), ("amount", .int a)]
def XdAt (H : Hp) (pd : Option Addr) : Option (Int × Int) → Prop
  | none => pd = none
  | some (a, b) => ∃ d, pd = some d ∧ H d = some (.xd (limFs a b))
theorem XdAt.keep {H H' : Hp} {pd : Option Addr} {pl : Option (Int × Int)} (k : ∀ d fs, H d = some (.xd fs) → H' d = some (.xd fs)) (h : XdAt H pd pl) : XdAt H' pd pl := by
  cases pl with
  | none => exact h
  | some p => obtain ⟨d, e, q⟩ := h; exact ⟨d, e, k _ _ q⟩
/-- a field of an object: a datum; the list that was handed in slot g -/
inductive OF where
  | inl (d : PyData) | gh (g : Nat)
/-- what is known of a slot: nothing; a datum; a list or dict that this frame alone holds; one that the caller handed to be written;
  an object of the class of that name that the caller handed -/
inductive B where
  | un | val (d : PyData) | own (d : PyData) | prm (d : PyData) | exc (n : Xn) | ob (cls : Str) (fs : List (Str × OF))
/-- what all frames know: the tables of code objects and the names in them, the classes of exceptions -/
structure Gx where
  T : List (Addr × Str)
  es : List (Str × Addr)
  /-- the classes of objects -/
  cl : List (Str × Addr) := []
  /-- in an except suite: the address of the exception, and of its class -/
  pa : Addr := 0
  pc : Addr := 0
  pd : Option Addr := none
structure Ax where
  f : Nat → Option Addr
  g : Gx
instance : CoeFun Ax (fun _ => Nat → Option Addr) := ⟨Ax.f⟩
/-- what an expression gives: a datum; a new list or dict; what stands in slot i -/
inductive Ev where
  | val (d : PyData) | fr (d : PyData) | sl (i : Nat)
/-- a result: a value, an exception of the class of that name (and what is known of the slots), or nothing is said -/
inductive Rs (α : Type) where
  | ok (a : α) | ex (n : Xn) (ρ : List B) | bad
def Rs.bind {α β : Type} (r : Rs α) (f : α → Rs β) : Rs β := match r with
  | .ok a => f a
  | .ex n ρ => .ex n ρ
  | .bad => .bad
instance : Monad Rs where
  pure := .ok
  bind := Rs.bind
abbrev SE := List B → Rs (Ev × List B)
def isOw : Option B → Bool
  | some (.own _) => true
  | some (.prm _) => true
  | some (.ob _ _) => true
  | _ => false
def OwI (σ : St) (ρ : List B) (i : Nat) (a : Addr) : Prop := isOw ρ[i]? = true ∧ σ[i]? = some (some (.ref a))
def Ow (σ : St) (ρ : List B) (a : Addr) : Prop := ∃ i, OwI σ ρ i a
def OwnAt (K : PySem.W.Frag) (S : Addr → Prop) (H : Hp) (a : Addr) (d : PyData) : Prop := ∃ o, H a = some o ∧ Ct K S H o d
/-- a field's value -/
def OFR (K : PySem.W.Frag) (A0 : Ax) (S : Addr → Prop) (H : Hp) (u : V) : OF → Prop
  | .inl d => Dr K S H u d
  | .gh g => ∃ l, u = .ref l ∧ A0 g = some l
abbrev FR (K : PySem.W.Frag) (A0 : Ax) (S : Addr → Prop) (H : Hp) : List (Str × V) → List (Str × OF) → Prop := Paired fun v f => v.1 = f.1 ∧ OFR K A0 S H v.2 f.2
def Bd (K : PySem.W.Frag) (A0 : Ax) (S : Addr → Prop) (H : Hp) (σ : St) (i : Nat) : B → Prop
  | .un => True
  | .val d => ∃ v, σ[i]? = some (some v) ∧ Dr K S H v d
  | .own d => ∃ a, σ[i]? = some (some (.ref a)) ∧ ¬ S a ∧ OwnAt K S H a d
  | .prm d => ∃ a, σ[i]? = some (some (.ref a)) ∧ A0 i = some a ∧ ¬ S a ∧ OwnAt K S H a d
  | .exc n => (n.cls, A0.g.pc) ∈ A0.g.es ∧ σ[i]? = some (some (.ref A0.g.pa)) ∧ XdAt H A0.g.pd n.pl
  | .ob cls fs => ∃ a, σ[i]? = some (some (.ref a)) ∧ A0 i = some a ∧ ¬ S a ∧ ∃ C dx vs, (cls, C) ∈ A0.g.cl ∧ H a = some (.ins C dx vs) ∧ FR K A0 S H vs fs
/-- the slots are as ρ tells -/
structure Rp (K : PySem.W.Frag) (A0 : Ax) (S : Addr → Prop) (H : Hp) (σ : St) (ρ : List B) : Prop where
  len : σ.length = ρ.length
  bd : ∀ i b, ρ[i]? = some b → Bd K A0 S H σ i b
  dis : ∀ i j a, OwI σ ρ i a → OwI σ ρ j a → i = j
  al : ∀ a, S a → ∃ o, H a = some o
  np : ∀ (i : Nat) (d : PyData) (a : Addr), ρ[i]? = some (B.own d) → σ[i]? = some (some (V.ref a)) → ∀ j, A0 j ≠ some a
  aa : ∀ j a, A0 j = some a → ∃ o, H a = some o
  tb : LamX.Tabs A0.g.T H
/-- what may have changed: the owned ones; S grows by what is new or was owned -/
structure Tr (S : Addr → Prop) (H : Hp) (O S' : Addr → Prop) (H' : Hp) (O' : Addr → Prop) : Prop where
  s : ∀ a, S a → S' a
  keep : ∀ a o, H a = some o → ¬ O a → H' a = some o ∨ (isDc o ∧ S' a ∧ ∃ od, H' a = some (.frz od o)) ∨ (isTb o ∧ ∃ o', isTb o' ∧ H' a = some o')
  dom : ∀ a o, H a = some o → ∃ o', H' a = some o'
  o : ∀ a, O' a → O a ∨ H a = none
  g : ∀ a, S' a → S a ∨ O a ∨ H a = none
theorem Tr.refl {S : Addr → Prop} {H : Hp} {O : Addr → Prop} : Tr S H O S H O := ⟨fun _ h => h, fun _ _ h _ => .inl h, fun _ o h => ⟨o, h⟩, fun _ h => .inl h, fun _ h => .inl h⟩
section
variable {S : Addr → Prop} {H : Hp} {O S' : Addr → Prop} {H' : Hp} {O' : Addr → Prop}
theorem Tr.keepN (t : Tr S H O S' H' O') {a : Addr} {o : HO} (h : H a = some o) (n : ¬ O a) (hd : ¬ isDc o) (ht : ¬ isTb o := by exact fun z => z) : H' a = some o := by
  rcases t.keep a o h n with q | ⟨q, _⟩ | ⟨q, _⟩
  · exact q
  · exact (hd q).elim
  · exact (ht q).elim
theorem Tr.keepS (t : Tr S H O S' H' O') {a : Addr} {o : HO} (h : H a = some o) (n : ¬ O a) (hs : ¬ S' a) (ht : ¬ isTb o := by exact fun z => z) : H' a = some o := by
  rcases t.keep a o h n with q | ⟨_, q, _⟩ | ⟨q, _⟩
  · exact q
  · exact (hs q).elim
  · exact (ht q).elim
theorem Tr.hasO (t : Tr S H O S' H' O') {a : Addr} {o : HO} (h : HasO H a o) (n : ¬ O a) (ht : ¬ isTb o) : HasO H' a o := by
  rcases h with h | ⟨hd, od, h⟩
  · rcases t.keep a o h n with q | ⟨q, _, od, e⟩ | ⟨q, _⟩
    · exact .inl q
    · exact .inr ⟨q, od, e⟩
    · exact (ht q).elim
  · exact .inr ⟨hd, od, t.keepN h n fun z => z⟩
end
theorem Tr.fresh {S : Addr → Prop} {H : Hp} {O S' : Addr → Prop} {H' : Hp} {O' : Addr → Prop} (t : Tr S H O S' H' O') {a : Addr} (h : H' a = none) : H a = none := by
  cases e : H a with
  | none => rfl
  | some o => obtain ⟨o', e'⟩ := t.dom a o e; rw [h] at e'; cases e'
theorem Tr.trans {S : Addr → Prop} {H : Hp} {O S1 : Addr → Prop} {H1 : Hp} {O1 S2 : Addr → Prop} {H2 : Hp} {O2 : Addr → Prop} (t : Tr S H O S1 H1 O1) (u : Tr S1 H1 O1 S2 H2 O2) : Tr S H O S2 H2 O2 := by
  refine ⟨fun a h => u.s a (t.s a h), fun a o h n => ?_, fun a o h => ?_, fun a h => ?_, fun a h => ?_⟩
  · have n1 : ¬ O1 a := fun z => by
      rcases t.o a z with q | q
      · exact n q
      · rw [h] at q; cases q
    rcases t.keep a o h n with q | ⟨q1, q2, od, q3⟩ | ⟨q1, o', q2, q3⟩
    · exact u.keep a o q n1
    · exact .inr (.inl ⟨q1, u.s a q2, od, u.keepN q3 n1 fun z => z⟩)
    · rcases u.keep a o' q3 n1 with p | ⟨p1, _⟩ | ⟨_, o2, p2, p3⟩
      · exact .inr (.inr ⟨q1, o', q2, p⟩)
      · exact (tb_dc q2 p1).elim
      · exact .inr (.inr ⟨q1, o2, p2, p3⟩)
  · obtain ⟨o', e⟩ := t.dom a o h
    exact u.dom a o' e
  · rcases u.o a h with q | q
    · exact t.o a q
    · exact .inr (t.fresh q)
  · rcases u.g a h with q | q | q
    · exact t.g a q
    · rcases t.o a q with z | z
      · exact .inr (.inl z)
      · exact .inr (.inr z)
    · exact .inr (.inr (t.fresh q))
section
variable {K : PySem.W.Frag} {A0 : Ax} {S S' : Addr → Prop} {H H' : Hp} {σ σ' : St} {ρ ρ' : List B} {O' : Addr → Prop}
/-- what an owned object may be -/
structure OwO (H : Hp) (a : Addr) : Prop where
  ex : ∃ o, H a = some o ∧ ¬ isTb o ∧ (∀ c q, o ≠ LamX.CodeO c q) ∧ (∀ xs, o ≠ .tup xs) ∧ (∀ ob u, o ≠ .frz ob u) ∧ (∀ fs, o ≠ .xd fs)
theorem OwnAt.owo {a : Addr} {d : PyData} (h : OwnAt K S H a d) : OwO H a := by
  obtain ⟨o, e, c⟩ := h
  exact ⟨o, e, c.notTb, c.notCode, fun xs z => by subst z; exact c.notTup, fun ob u z => by subst z; exact c.notFrz, fun fs z => by subst z; exact c.notXd⟩
theorem OwO.ins {a C dx : Addr} {vs : List (Str × V)} (h : H a = some (.ins C dx vs)) : OwO H a := ⟨_, h, (fun z => z), (fun c q z => by unfold LamX.CodeO at z; cases z), (fun xs z => by cases z), (fun ob u z => by cases z), (fun fs z => by cases z)⟩
theorem Rp.own (r : Rp K A0 S H σ ρ) {i : Nat} {a : Addr} (h : OwI σ ρ i a) : ¬ S a ∧ OwO H a := by
  obtain ⟨h1, h2⟩ := h
  cases e : ρ[i]? with
  | none => rw [e] at h1; cases h1
  | some b =>
    rw [e] at h1
    have q := r.bd i b e
    cases b with
    | un => cases h1
    | val d => cases h1
    | own d =>
      obtain ⟨a', e1, e2, e3⟩ := q
      rw [h2] at e1; cases e1
      exact ⟨e2, e3.owo⟩
    | prm d =>
      obtain ⟨a', e1, _, e2, e3⟩ := q
      rw [h2] at e1; cases e1
      exact ⟨e2, e3.owo⟩
    | exc n => cases h1
    | ob c fs =>
      obtain ⟨a', e1, _, e2, C, dx, vs, _, e3, _⟩ := q
      rw [h2] at e1; cases e1
      exact ⟨e2, .ins e3⟩
theorem FR.mono (e : Ex S H S' H') {vs : List (Str × V)} {fs : List (Str × OF)} (h : FR K A0 S H vs fs) : FR K A0 S' H' vs fs := Paired.mapP h fun v f q => ⟨q.1, by
  have h2 := q.2
  obtain ⟨n, x⟩ := f
  cases x with
  | inl d => exact Dr.ex e h2
  | gh g => exact h2⟩
/-- an object stays, if its own heap object stays -/
theorem bd_ob (e : Ex S H S' H') {i : Nat} {c : Str} {fs : List (Str × OF)} (h : Bd K A0 S H σ i (.ob c fs)) (hs : ∀ a, σ[i]? = some (some (.ref a)) → σ'[i]? = some (some (.ref a)) ∧ ¬ S' a ∧ ∀ o, H a = some o → H' a = some o) : Bd K A0 S' H' σ' i (.ob c fs) := by
  obtain ⟨a, e1, e2, e3, C, dx, vs, e4, e5, e6⟩ := h
  obtain ⟨z0, z1, z2⟩ := hs a e1
  exact ⟨a, z0, e2, z1, C, dx, vs, e4, z2 _ e5, FR.mono e e6⟩
theorem bd_exc (e : Ex S H S' H') {i : Nat} {n : Xn} (h : Bd K A0 S H σ i (.exc n)) : Bd K A0 S' H' σ i (.exc n) := ⟨h.1, h.2.1, h.2.2.keep e.xd⟩
theorem Rp.sep (r : Rp K A0 S H σ ρ) {a : Addr} (h : S a) : ¬ Ow σ ρ a := fun ⟨_, q⟩ => (r.own q).1 h
theorem Ex.of_tr {O : Addr → Prop} (t : Tr S H O S' H' O') (hs : ∀ a, S a → ¬ O a) (hc : ∀ a, O a → OwO H a) : Ex S H S' H' := by
  refine ⟨t.s, fun a o h nt q => t.hasO q (hs a h) nt, fun a xs h => t.keepN h (fun z => ?_) fun z => z, fun a o u h => t.keepN h (fun z => ?_) fun z => z, fun a fs h => t.keepN h (fun z => ?_) fun z => z⟩
  · obtain ⟨o, e, _, _, n, _⟩ := (hc a z).ex
    rw [h] at e; cases e; exact n _ rfl
  · obtain ⟨o, e, _, _, _, n, _⟩ := (hc a z).ex
    rw [h] at e; cases e; exact n _ _ rfl
  · obtain ⟨o, e, _, _, _, _, n⟩ := (hc a z).ex
    rw [h] at e; cases e; exact n _ rfl
theorem Rp.ex (r : Rp K A0 S H σ ρ) (t : Tr S H (Ow σ ρ) S' H' O') : Ex S H S' H' := Ex.of_tr t (fun a h => r.sep h) fun a ⟨i, q⟩ => (r.own q).2
/-- an expression's value v -/
def RE (K : PySem.W.Frag) (A0 : Ax) (H0 : Hp) (S : Addr → Prop) (H : Hp) (σ : St) (ρ : List B) (v : V) : Ev → Prop
  | .val d => Dr K S H v d
  | .fr d => ∃ a, v = .ref a ∧ (H0 a = none ∧ ∀ j, A0 j ≠ some a) ∧ ¬ S a ∧ ¬ Ow σ ρ a ∧ OwnAt K S H a d
  | .sl i => σ[i]? = some (some v)
theorem OwnAt.ex {a : Addr} {d : PyData} (e : Ex S H S' H') (k : ∀ o, H a = some o → H' a = some o) (h : OwnAt K S H a d) : OwnAt K S' H' a d :=
  let ⟨o, h1, h2⟩ := h
  ⟨o, k o h1, h2.ex e⟩
theorem RE.mono {H0 : Hp} {v : V} {e : Ev} (r : Rp K A0 S H σ ρ) (t : Tr S H (Ow σ ρ) S' H' (Ow σ ρ')) (h : RE K A0 H0 S H σ ρ v e) : RE K A0 H0 S' H' σ ρ' v e := by
  cases e with
  | val d => exact Dr.ex (r.ex t) h
  | sl i => exact h
  | fr d =>
    obtain ⟨a, rfl, h0, hs, ho, ha⟩ := h
    obtain ⟨o, e1, e2⟩ := ha
    have hs' : ¬ S' a := fun z => by
      rcases t.g a z with q | q | q
      · exact hs q
      · exact ho q
      · rw [e1] at q; cases q
    refine ⟨a, rfl, h0, hs', fun z => ?_, ⟨o, t.keepS e1 ho hs' e2.notTb, e2.ex (r.ex t)⟩⟩
    · rcases t.o a z with q | q
      · exact ho q
      · rw [e1] at q; cases q
theorem RE.back {H0 H00 : Hp} {v : V} {e : Ev} (dm : ∀ a, H0 a = none → H00 a = none) (h : RE K A0 H0 S H σ ρ v e) : RE K A0 H00 S H σ ρ v e := by
  cases e with
  | val d => exact h
  | sl i => exact h
  | fr d =>
    obtain ⟨a, rfl, h0, r⟩ := h
    exact ⟨a, rfl, ⟨dm a h0.1, h0.2⟩, r⟩
end
/-- the datum, whoever holds it -/
def Dw (K : PySem.W.Frag) (S : Addr → Prop) (H : Hp) (v : V) (d : PyData) : Prop := Dr K S H v d ∨ ∃ a, v = .ref a ∧ OwnAt K S H a d
def peekB : B → Option PyData
  | .un => none
  | .val d => some d
  | .own d => some d
  | .prm d => some d
  | .exc _ => none
  | .ob _ _ => none
def peek (ρ : List B) : Ev → Option PyData
  | .val d => some d
  | .fr d => some d
  | .sl i => (ρ[i]?).bind peekB
theorem peek_ok {K : PySem.W.Frag} {A0 : Ax} {S : Addr → Prop} {H H0 : Hp} {σ : St} {ρ : List B} {v : V} {e : Ev} {d : PyData} (r : Rp K A0 S H σ ρ) (h : RE K A0 H0 S H σ ρ v e) (p : peek ρ e = some d) : Dw K S H v d := by
  cases e with
  | val d' => cases p; exact .inl h
  | fr d' =>
    cases p
    obtain ⟨a, rfl, _, _, _, q⟩ := h
    exact .inr ⟨a, rfl, q⟩
  | sl i =>
    have hv : σ[i]? = some (some v) := h
    have p' : (ρ[i]?).bind peekB = some d := p
    cases e : ρ[i]? with
    | none => rw [e] at p'; cases p'
    | some b =>
      rw [e] at p'
      have q := r.bd i b e
      cases b with
      | un => cases p'
      | val d' =>
        cases p'
        obtain ⟨u, e1, e2⟩ := q
        rw [hv] at e1; cases e1
        exact .inl e2
      | exc n => cases p'
      | ob _ _ => cases p'
      | own d' =>
        cases p'
        obtain ⟨a, e1, _, e2⟩ := q
        rw [hv] at e1; cases e1
        exact .inr ⟨a, rfl, e2⟩
      | prm d' =>
        cases p'
        obtain ⟨a, e1, _, _, e2⟩ := q
        rw [hv] at e1; cases e1
        exact .inr ⟨a, rfl, e2⟩
section
variable {K : PySem.W.Frag} {S : Addr → Prop} {H : Hp} {v : V}
theorem Dw.int {i : Int} (h : Dw K S H v (.int i)) : v = .int i := by
  rcases h with h | ⟨a, rfl, o, h1, h2⟩
  · cases h with
    | int => rfl
    | obj _ _ c => cases c
  · cases h2
theorem Dw.bl {b : Bool} (h : Dw K S H v (.bool b)) : v = .bl b := by
  rcases h with h | ⟨a, rfl, o, h1, h2⟩
  · cases h with
    | bl => rfl
    | obj _ _ c => cases c
  · cases h2
theorem Dw.non (h : Dw K S H v .none) : v = .non := by
  rcases h with h | ⟨a, rfl, o, h1, h2⟩
  · cases h with
    | non => rfl
    | obj _ _ c => cases c
  · cases h2
theorem Dw.str {x : Str} (h : Dw K S H v (.str x)) : v = .str x := by
  rcases h with h | ⟨a, rfl, o, h1, h2⟩
  · cases h with
    | str => rfl
    | obj _ _ c => cases c
  · cases h2
theorem Dw.tup {ds : List PyData} (h : Dw K S H v (.tuple ds)) : ∃ a xs, v = .ref a ∧ SqT K H a xs ∧ DrAll K S H xs ds := by
  rcases h with h | ⟨a, rfl, o, h1, h2⟩
  · cases h with
    | tup h1 h2 => exact ⟨_, _, rfl, h1, h2⟩
    | obj _ _ c => cases c
  · cases h2
theorem Dw.lst {ds : List PyData} (h : Dw K S H v (.list ds)) : ∃ a xs, v = .ref a ∧ LstX K H a xs ∧ DrAll K S H xs ds := by
  rcases h with h | ⟨a, rfl, o, h1, h2⟩
  · cases h with
    | lstR h1 h2 => exact ⟨_, _, rfl, .inr h1, h2⟩
    | obj h1 _ c => cases c with
      | lst c => exact ⟨_, _, rfl, .inl h1.lst, c⟩
  · cases h2 with
    | lst c => exact ⟨_, _, rfl, .inl h1, c⟩
theorem Dr.w {d : PyData} (h : Dr K S H v d) : Dw K S H v d := .inl h
theorem Dr.tupE {ds : List PyData} (h : Dr K S H v (.tuple ds)) : ∃ a xs, v = .ref a ∧ SqT K H a xs ∧ DrAll K S H xs ds := h.w.tup
end
/-! data without dicts: as the library's Dp -/
mutual
theorem Dr.dp {K : PySem.W.Frag} {S : Addr → Prop} {H : Hp} : ∀ (d : PyData) (v : V), d.canLay0 = true → Dr K S H v d → Dp K H v d
  | .none, v, _, h => by rw [h.w.non]; exact .non
  | .bool b, v, _, h => by rw [h.w.bl]; exact .bl b
  | .int i, v, _, h => by rw [h.w.int]; exact .int i
  | .str x, v, _, h => by rw [h.w.str]; exact .str x
  | .list ds, v, c, h => by
    obtain ⟨a, xs, rfl, h1, h2⟩ := h.w.lst
    exact .lst h1.sq (DrAll.dp ds xs (by simpa only [PyData.canLay0] using c) h2)
  | .tuple ds, v, c, h => by
    obtain ⟨a, xs, rfl, h1, h2⟩ := h.w.tup
    exact .tup h1 (DrAll.dp ds xs (by simpa only [PyData.canLay0] using c) h2)
  | .dict _, _, c, _ => by simp [PyData.canLay0] at c
theorem DrAll.dp {K : PySem.W.Frag} {S : Addr → Prop} {H : Hp} : ∀ (ds : List PyData) (vs : List V), PyData.canLayAll0 ds = true → DrAll K S H vs ds → DpAll K H vs ds
  | [], _, _, h => by cases h; exact .nil
  | d :: ds, _, c, h => by
    cases h with
    | cons h1 h2 =>
      simp only [PyData.canLayAll0, Bool.and_eq_true] at c
      exact .cons (Dr.dp d _ c.1 h1) (DrAll.dp ds _ c.2 h2)
end
theorem Dw.dp {K : PySem.W.Frag} {S : Addr → Prop} {H : Hp} {v : V} {d : PyData} (c : d.canLay0 = true) (h : Dw K S H v d) : Dp K H v d := by
  cases d with
  | list ds =>
    obtain ⟨a, xs, rfl, h1, h2⟩ := h.lst
    exact .lst h1.sq (DrAll.dp ds xs (by simpa only [PyData.canLay0] using c) h2)
  | dict kvs => simp [PyData.canLay0] at c
  | none => rw [h.non]; exact .non
  | bool b => rw [h.bl]; exact .bl b
  | int i => rw [h.int]; exact .int i
  | str x => rw [h.str]; exact .str x
  | tuple ds =>
    obtain ⟨a, xs, rfl, h1, h2⟩ := h.tup
    exact .tup h1 (DrAll.dp ds xs (by simpa only [PyData.canLay0] using c) h2)
end G
namespace G
open PySem PySem.Spec PyProof.Rows L2
theorem PE_imp {X : Cx} {e : Expr} {t t' : TE} (h : PE X e t) (i : ∀ σ H Q, t' σ H Q → t σ H Q) : PE X e t' := ⟨fun pins s σ H Q I q => h.run pins s σ H Q I (i σ H Q q)⟩
theorem PT_imp {X : Cx} {e : Expr} {t t' : TT} (h : PT X e t) (i : ∀ σ H Q, t' σ H Q → t σ H Q) : PT X e t' := ⟨fun pins s σ H Q I q => h.run pins s σ H Q I (i σ H Q q)⟩
theorem PW_imp {X : Cx} {e : Expr} {t t' : TT} (h : PW X e t) (i : ∀ σ H Q, t' σ H Q → t σ H Q) : PW X e t' := ⟨fun w pins s σ H Q I q => h.run w pins s σ H Q I (i σ H Q q)⟩
theorem PA_imp {X : Cx} {e : List Expr} {t t' : TA} (h : PA X e t) (i : ∀ σ H Q, t' σ H Q → t σ H Q) : PA X e t' := ⟨fun p pins s σ H Q I q => h.run p pins s σ H Q I (i σ H Q q)⟩
theorem PS_imp {X : Cx} {e : Stmt} {t t' : TS} (h : PS X e t) (i : ∀ D σ H, t' D σ H → t D σ H) : PS X e t' := ⟨fun pins s σ H D I q => h.run pins s σ H D I (i D σ H q)⟩
theorem PSs_imp {X : Cx} {e : List Stmt} {t t' : TS} (h : PSs X e t) (i : ∀ D σ H, t' D σ H → t D σ H) : PSs X e t' := ⟨fun pins s σ H D I q => h.run pins s σ H D I (i D σ H q)⟩
/-- what the layer is told of a def's body: the parameters' addresses that may be written, what is wished of an exception -/
structure Gc where
  K : PySem.W.Frag
  mg : Str → Option Value
  A0 : Ax
  W : WX
def Gc.wx (g : Gc) (n : Xn) (σ : St) (H : Hp) : Prop := ∀ C pd, g.mg n.cls = some (.ref C) → XdAt H pd n.pl → g.W (.ref C) pd σ H
def PostE (g : Gc) (S : Addr → Prop) (H : Hp) (σ : St) (ρ : List B) (r : Rs (Ev × List B)) (Q : VK) : Prop := match r with
  | .ok p => ∀ S' H' v, Tr S H (Ow σ ρ) S' H' (Ow σ p.2) → Rp g.K g.A0 S' H' σ p.2 → RE g.K g.A0 H S' H' σ p.2 v p.1 → Q v H'
  | .ex n ρ' => ∀ S' H', Tr S H (Ow σ ρ) S' H' (Ow σ ρ') → Rp g.K g.A0 S' H' σ ρ' → g.wx n σ H'
  | .bad => False
def tE (g : Gc) (f : SE) : TE := fun σ H Q => ∃ S ρ, Rp g.K g.A0 S H σ ρ ∧ PostE g S H σ ρ (f ρ) Q
def PostT (g : Gc) (S : Addr → Prop) (H : Hp) (σ : St) (ρ : List B) (r : Rs (Bool × List B)) (Q : Bool → Hp → Prop) : Prop := match r with
  | .ok p => ∀ S' H', Tr S H (Ow σ ρ) S' H' (Ow σ p.2) → Rp g.K g.A0 S' H' σ p.2 → Q p.1 H'
  | .ex n ρ' => ∀ S' H', Tr S H (Ow σ ρ) S' H' (Ow σ ρ') → Rp g.K g.A0 S' H' σ ρ' → g.wx n σ H'
  | .bad => False
abbrev SB := List B → Rs (Bool × List B)
def tT (g : Gc) (f : SB) : TT := fun σ H Q => ∃ S ρ, Rp g.K g.A0 S H σ ρ ∧ PostT g S H σ ρ (f ρ) Q
/-- an argument's value: no new object stays alone -/
def RE1 (K : PySem.W.Frag) (S : Addr → Prop) (H : Hp) (σ : St) (v : V) : Ev → Prop
  | .val d => Dr K S H v d
  | .fr _ => False
  | .sl i => σ[i]? = some (some v)
def PostA (g : Gc) (S : Addr → Prop) (H : Hp) (σ : St) (ρ : List B) (r : Rs (List Ev × List B)) (Q : List V → Hp → Prop) : Prop := match r with
  | .ok p => ∀ S' H' vs, Tr S H (Ow σ ρ) S' H' (Ow σ p.2) → Rp g.K g.A0 S' H' σ p.2 → Paired (RE1 g.K S' H' σ) vs p.1 → Q vs H'
  | .ex n ρ' => ∀ S' H', Tr S H (Ow σ ρ) S' H' (Ow σ ρ') → Rp g.K g.A0 S' H' σ ρ' → g.wx n σ H'
  | .bad => False
abbrev SA := List B → Rs (List Ev × List B)
def tA (g : Gc) (f : SA) : TA := fun σ H Q => ∃ S ρ, Rp g.K g.A0 S H σ ρ ∧ PostA g S H σ ρ (f ρ) Q
/-! ### the heap grows -/
section
variable {K : PySem.W.Frag} {A0 : Ax} {S S' S0 : Addr → Prop} {H H' H0 : Hp} {σ σ' : St} {ρ ρ' ρ0 : List B} {O O' O0 : Addr → Prop}
theorem same_alloc {p : Addr} {o : HO} (h : H p = none) : L2.Same H (upd H p o) := fun b x e => by rw [upd_ne (ne_of_none e h)]; exact e
theorem HasO.same (s : L2.Same H H') {a : Addr} {o : HO} (h : HasO H a o) : HasO H' a o := h.imp (fun q => s a _ q) fun ⟨q, od, z⟩ => ⟨q, od, s a _ z⟩
theorem Ex.same (s : L2.Same H H') : Ex S H S H' := ⟨fun _ h => h, fun a o _ _ h => h.same s, fun a xs h => s a _ h, fun a o u h => s a _ h, fun a fs h => s a _ h⟩
theorem Rp.same (r : Rp K A0 S H σ ρ) (s : L2.Same H H') : Rp K A0 S H' σ ρ := by
  refine ⟨r.len, fun i b e => ?_, r.dis, fun a h => let ⟨o, e⟩ := r.al a h; ⟨o, s a o e⟩, r.np, fun j a h => let ⟨o, e⟩ := r.aa j a h; ⟨o, s a o e⟩, r.tb.ext s⟩
  have q := r.bd i b e
  cases b with
  | un => trivial
  | exc n => exact bd_exc (Ex.same s) q
  | val d => obtain ⟨v, e1, e2⟩ := q; exact ⟨v, e1, e2.ex (Ex.same s)⟩
  | own d => obtain ⟨a, e1, e2, e3⟩ := q; exact ⟨a, e1, e2, e3.ex (Ex.same s) fun o => s a o⟩
  | prm d => obtain ⟨a, e1, e0, e2, e3⟩ := q; exact ⟨a, e1, e0, e2, e3.ex (Ex.same s) fun o => s a o⟩
  | ob c fs => exact bd_ob (Ex.same s) q fun a ea => ⟨ea, (r.own ⟨by rw [e]; rfl, ea⟩).1, fun o => s a o⟩
theorem Tr.same (t : Tr S0 H0 O0 S H O) (s : L2.Same H H') : Tr S0 H0 O0 S H' O :=
  ⟨t.s, fun a o h n => (t.keep a o h n).imp (fun q => s a o q) fun q => q.imp (fun ⟨q1, q2, od, q3⟩ => ⟨q1, q2, od, s a _ q3⟩) fun ⟨q1, o', q2, q3⟩ => ⟨q1, o', q2, s a _ q3⟩, fun a o h => let ⟨o', e⟩ := t.dom a o h; ⟨o', s a o' e⟩, t.o, t.g⟩
theorem Tr.grow (s : L2.Same H H') : Tr S H O S H' O := Tr.refl.same s
theorem Dw.ex {v : V} {d : PyData} (e : Ex S H S' H') (k : ∀ a o, H a = some o → H' a = some o) (h : Dw K S H v d) : Dw K S' H' v d := by
  rcases h with h | ⟨a, rfl, h⟩
  · exact .inl (h.ex e)
  · exact .inr ⟨a, rfl, h.ex e fun o => k a o⟩
theorem Rp.alive (r : Rp K A0 S H σ ρ) {a : Addr} (h : Ow σ ρ a) : ∃ o, H a = some o := by
  obtain ⟨i, q⟩ := h
  obtain ⟨o, e, _⟩ := (r.own q).2.ex
  exact ⟨o, e⟩
/-- S grows by one object -/
def Sadd (S : Addr → Prop) (a : Addr) : Addr → Prop := fun b => S b ∨ b = a
theorem Ex.add (a : Addr) : Ex S H (Sadd S a) H := ⟨fun _ h => .inl h, fun _ _ _ _ h => h, fun _ _ h => h, fun _ _ _ h => h, fun _ _ h => h⟩
theorem Rp.add (r : Rp K A0 S H σ ρ) {a : Addr} (ho : ¬ Ow σ ρ a) (h : ∃ o, H a = some o) : Rp K A0 (Sadd S a) H σ ρ := by
  refine ⟨r.len, fun i b e => ?_, r.dis, fun b hb => ?_, r.np, r.aa, r.tb⟩
  · have q := r.bd i b e
    cases b with
    | un => trivial
    | exc n => exact bd_exc (Ex.add a) q
    | val d => obtain ⟨v, e1, e2⟩ := q; exact ⟨v, e1, e2.ex (Ex.add a)⟩
    | own d =>
      obtain ⟨c, e1, e2, e3⟩ := q
      refine ⟨c, e1, fun z => ?_, e3.ex (Ex.add a) fun _ h => h⟩
      rcases z with z | z
      · exact e2 z
      · exact ho (z ▸ ⟨i, by unfold OwI; rw [e]; exact ⟨rfl, e1⟩⟩)
    | prm d =>
      obtain ⟨c, e1, e0, e2, e3⟩ := q
      refine ⟨c, e1, e0, fun z => ?_, e3.ex (Ex.add a) fun _ h => h⟩
      rcases z with z | z
      · exact e2 z
      · exact ho (z ▸ ⟨i, by unfold OwI; rw [e]; exact ⟨rfl, e1⟩⟩)
    | ob c fs =>
      refine bd_ob (Ex.add a) q fun c' ea => ⟨ea, fun z => ?_, fun _ h => h⟩
      have own : OwI σ ρ i c' := ⟨by rw [e]; rfl, ea⟩
      rcases z with z | z
      · exact (r.own own).1 z
      · exact ho (z ▸ ⟨i, own⟩)
  · rcases hb with hb | rfl
    · exact r.al b hb
    · exact h
theorem Tr.add (t : Tr S0 H0 O0 S H O) {a : Addr} (h : H0 a = none ∨ O0 a) : Tr S0 H0 O0 (Sadd S a) H O :=
  ⟨fun b q => .inl (t.s b q), fun b o h n => (t.keep b o h n).imp id fun q => q.imp (fun ⟨q1, q2, q3⟩ => ⟨q1, .inl q2, q3⟩) id, t.dom, t.o, fun b q => by
    rcases q with q | rfl
    · exact t.g b q
    · rcases h with h | h
      · exact .inr (.inr h)
      · exact .inr (.inl h)⟩
theorem RE1.ex {v : V} {e : Ev} (x : Ex S H S' H') (h : RE1 K S H σ v e) : RE1 K S' H' σ v e := by
  cases e with
  | val d => exact Dr.ex x h
  | fr d => exact h
  | sl i => exact h
theorem RE1s.ex {vs : List V} {es : List Ev} (x : Ex S H S' H') (h : Paired (RE1 K S H σ) vs es) : Paired (RE1 K S' H' σ) vs es := Paired.mapP h fun _ _ q => q.ex x
end
/-- a new object is given to all -/
def settle : Ev → Ev
  | .fr d => .val d
  | e => e
theorem settle_ok {K : PySem.W.Frag} {A0 : Ax} {S S0 : Addr → Prop} {H H0 : Hp} {σ : St} {ρ : List B} {O0 : Addr → Prop} {v : V} {e : Ev}
    (t : Tr S0 H0 O0 S H (Ow σ ρ)) (r : Rp K A0 S H σ ρ) (h : RE K A0 H0 S H σ ρ v e) : ∃ S', Tr S0 H0 O0 S' H (Ow σ ρ) ∧ Rp K A0 S' H σ ρ ∧ RE1 K S' H σ v (settle e) ∧ Ex S H S' H := by
  cases e with
  | val d => exact ⟨S, t, r, h, Ex.same fun _ _ e => e⟩
  | sl i => exact ⟨S, t, r, h, Ex.same fun _ _ e => e⟩
  | fr d =>
    obtain ⟨a, rfl, h0, hs, ho, o, e1, e2⟩ := h
    exact ⟨Sadd S a, t.add (.inl h0.1), r.add ho ⟨o, e1⟩, .obj (.inl e1) (.inr rfl) (e2.ex (Ex.add a)), Ex.add a⟩
/-! ### from here to there -/
section
variable {g : Gc} {S S' : Addr → Prop} {H H' : Hp} {σ : St} {ρ ρ' : List B}
theorem PostE.from {r : Rs (Ev × List B)} {Q : VK} (t : Tr S H (Ow σ ρ) S' H' (Ow σ ρ')) (h : PostE g S H σ ρ r Q) : PostE g S' H' σ ρ' r Q := by
  cases r with
  | ok p => exact fun S2 H2 v t2 r2 e2 => h S2 H2 v (t.trans t2) r2 (e2.back fun a q => t.fresh q)
  | ex n ρ2 => exact fun S2 H2 t2 r2 => h S2 H2 (t.trans t2) r2
  | bad => exact h
theorem PostT.from {r : Rs (Bool × List B)} {Q : Bool → Hp → Prop} (t : Tr S H (Ow σ ρ) S' H' (Ow σ ρ')) (h : PostT g S H σ ρ r Q) : PostT g S' H' σ ρ' r Q := by
  cases r with
  | ok p => exact fun S2 H2 t2 r2 => h S2 H2 (t.trans t2) r2
  | ex n ρ2 => exact fun S2 H2 t2 r2 => h S2 H2 (t.trans t2) r2
  | bad => exact h
theorem PostA.from {r : Rs (List Ev × List B)} {Q : List V → Hp → Prop} (t : Tr S H (Ow σ ρ) S' H' (Ow σ ρ')) (h : PostA g S H σ ρ r Q) : PostA g S' H' σ ρ' r Q := by
  cases r with
  | ok p => exact fun S2 H2 vs t2 r2 e2 => h S2 H2 vs (t.trans t2) r2 e2
  | ex n ρ2 => exact fun S2 H2 t2 r2 => h S2 H2 (t.trans t2) r2
  | bad => exact h
/-- an expression, then what hangs on it -/
theorem tE_bind {f : SE} {R : VK} {α : Type} {k : Ev × List B → Rs α} {P : Rs α → Prop} (hex : ∀ n ρ', P (.ex n ρ') → ∀ S' H', Tr S H (Ow σ ρ) S' H' (Ow σ ρ') → Rp g.K g.A0 S' H' σ ρ' → g.wx n σ H') (hbad : ¬ P .bad)
    (r : Rp g.K g.A0 S H σ ρ) (h : P ((f ρ).bind k)) (hk : ∀ p S' H' v, Tr S H (Ow σ ρ) S' H' (Ow σ p.2) → Rp g.K g.A0 S' H' σ p.2 → RE g.K g.A0 H S' H' σ p.2 v p.1 → P (k p) → R v H') : tE g f σ H R := by
  refine ⟨S, ρ, r, ?_⟩
  cases e : f ρ with
  | ok p => rw [e] at h; exact fun S' H' v t r' q => hk p S' H' v t r' q h
  | ex n ρ' => rw [e] at h; exact hex n ρ' h
  | bad => rw [e] at h; exact (hbad h).elim
theorem tT_bind {f : SB} {R : Bool → Hp → Prop} {α : Type} {k : Bool × List B → Rs α} {P : Rs α → Prop} (hex : ∀ n ρ', P (.ex n ρ') → ∀ S' H', Tr S H (Ow σ ρ) S' H' (Ow σ ρ') → Rp g.K g.A0 S' H' σ ρ' → g.wx n σ H') (hbad : ¬ P .bad)
    (r : Rp g.K g.A0 S H σ ρ) (h : P ((f ρ).bind k)) (hk : ∀ p S' H', Tr S H (Ow σ ρ) S' H' (Ow σ p.2) → Rp g.K g.A0 S' H' σ p.2 → P (k p) → R p.1 H') : tT g f σ H R := by
  refine ⟨S, ρ, r, ?_⟩
  cases e : f ρ with
  | ok p => rw [e] at h; exact fun S' H' t r' => hk p S' H' t r' h
  | ex n ρ' => rw [e] at h; exact hex n ρ' h
  | bad => rw [e] at h; exact (hbad h).elim
theorem tA_bind {f : SA} {R : List V → Hp → Prop} {α : Type} {k : List Ev × List B → Rs α} {P : Rs α → Prop} (hex : ∀ n ρ', P (.ex n ρ') → ∀ S' H', Tr S H (Ow σ ρ) S' H' (Ow σ ρ') → Rp g.K g.A0 S' H' σ ρ' → g.wx n σ H') (hbad : ¬ P .bad)
    (r : Rp g.K g.A0 S H σ ρ) (h : P ((f ρ).bind k)) (hk : ∀ p S' H' vs, Tr S H (Ow σ ρ) S' H' (Ow σ p.2) → Rp g.K g.A0 S' H' σ p.2 → Paired (RE1 g.K S' H' σ) vs p.1 → P (k p) → R vs H') : tA g f σ H R := by
  refine ⟨S, ρ, r, ?_⟩
  cases e : f ρ with
  | ok p => rw [e] at h; exact fun S' H' v t r' q => hk p S' H' v t r' q h
  | ex n ρ' => rw [e] at h; exact hex n ρ' h
  | bad => rw [e] at h; exact (hbad h).elim
theorem exE {Q : VK} : ∀ n ρ', PostE g S H σ ρ (.ex n ρ') Q → ∀ S' H', Tr S H (Ow σ ρ) S' H' (Ow σ ρ') → Rp g.K g.A0 S' H' σ ρ' → g.wx n σ H' := fun _ _ h => h
theorem exT {Q : Bool → Hp → Prop} : ∀ n ρ', PostT g S H σ ρ (.ex n ρ') Q → ∀ S' H', Tr S H (Ow σ ρ) S' H' (Ow σ ρ') → Rp g.K g.A0 S' H' σ ρ' → g.wx n σ H' := fun _ _ h => h
theorem exA {Q : List V → Hp → Prop} : ∀ n ρ', PostA g S H σ ρ (.ex n ρ') Q → ∀ S' H', Tr S H (Ow σ ρ) S' H' (Ow σ ρ') → Rp g.K g.A0 S' H' σ ρ' → g.wx n σ H' := fun _ _ h => h
theorem PostE.bad {Q : VK} : ¬ PostE g S H σ ρ .bad Q := fun h => h
theorem PostT.bad {Q : Bool → Hp → Prop} : ¬ PostT g S H σ ρ .bad Q := fun h => h
theorem PostA.bad {Q : List V → Hp → Prop} : ¬ PostA g S H σ ρ .bad Q := fun h => h
end
/-! ### operations on data -/
/-- what an operation may give: a datum (the heap may grow), or a new object -/
def Out (K : PySem.W.Frag) (S : Addr → Prop) (H : Hp) (e : Ev) (Q : VK) : Prop := match e with
  | .val d => ∀ v H', L2.Same H H' → Dr K S H' v d → Q v H'
  | .fr d => ∀ a H', L2.Same H H' → H a = none → OwnAt K S H' a d → Q (.ref a) H'
  | .sl _ => False
theorem Out.ok {g : Gc} {S S0 : Addr → Prop} {H H0 : Hp} {σ : St} {ρ ρ0 : List B} {e : Ev} {Q : VK} (t : Tr S0 H0 (Ow σ ρ0) S H (Ow σ ρ)) (r : Rp g.K g.A0 S H σ ρ) (he : ∀ i, e ≠ .sl i) (h : PostE g S0 H0 σ ρ0 (.ok (e, ρ)) Q) : Out g.K S H e Q := by
  cases e with
  | val d => exact fun v H' s q => h S H' v (t.same s) (r.same s) q
  | fr d =>
    refine fun a H' s hn q => h S H' _ (t.same s) (r.same s) ⟨a, rfl, ⟨t.fresh hn, fun j hj => by obtain ⟨o, e⟩ := r.aa j a hj; rw [hn] at e; cases e⟩, fun z => ?_, fun z => ?_, q⟩
    · obtain ⟨o, e⟩ := r.al a z; rw [hn] at e; cases e
    · obtain ⟨o, e⟩ := r.alive z; rw [hn] at e; cases e
  | sl i => exact (he i rfl).elim
def resE (ρ : List B) : Option Ev → Rs (Ev × List B)
  | some (.val d) => .ok (.val d, ρ)
  | some (.fr d) => .ok (.fr d, ρ)
  | _ => .bad
theorem resE_out {g : Gc} {S S0 : Addr → Prop} {H H0 : Hp} {σ : St} {ρ ρ0 : List B} {o : Option Ev} {Q : VK} (t : Tr S0 H0 (Ow σ ρ0) S H (Ow σ ρ)) (r : Rp g.K g.A0 S H σ ρ) (h : PostE g S0 H0 σ ρ0 (resE ρ o) Q) : ∃ e, o = some e ∧ Out g.K S H e Q := by
  cases o with
  | none => exact h.elim
  | some e =>
    cases e with
    | val d => exact ⟨_, rfl, Out.ok t r (fun _ => nofun) h⟩
    | fr d => exact ⟨_, rfl, Out.ok t r (fun _ => nofun) h⟩
    | sl i => exact h.elim
/-- a two-place operation by data -/
def op2 (b : PyData → PyData → Option Ev) (fa fb : SE) : SE := fun ρ => (fa ρ).bind fun p => (fb p.2).bind fun q => resE q.2 ((peek q.2 p.1).bind fun d1 => (peek q.2 q.1).bind fun d2 => b d1 d2)
def OpD (K : PySem.W.Frag) (r : R2) (b : PyData → PyData → Option Ev) : Prop := ∀ S H x y d1 d2 e Q, Dw K S H x d1 → Dw K S H y d2 → b d1 d2 = some e → Out K S H e Q → r x y H Q
theorem op2_ok {g : Gc} {r : R2} {b : PyData → PyData → Option Ev} {fa fb : SE} (ho : OpD g.K r b) : ∀ σ H Q, tE g (op2 b fa fb) σ H Q → tOp r (tE g fa) (tE g fb) σ H Q := by
  rintro σ H Q ⟨S, ρ, rp, h⟩
  refine tE_bind (P := fun z => PostE g S H σ ρ z Q) exE PostE.bad rp h fun p S1 H1 v1 t1 r1 e1 h => ?_
  refine tE_bind (P := fun z => PostE g S1 H1 σ p.2 z Q) exE PostE.bad r1 (h.from t1) fun q S2 H2 v2 t2 r2 e2 h => ?_
  obtain ⟨e, he, out⟩ := resE_out t2 r2 h
  have e1' := e1.mono r1 t2
  cases p1 : peek q.2 p.1 with
  | none => rw [p1] at he; cases he
  | some d1 =>
    rw [p1] at he
    cases p2 : peek q.2 q.1 with
    | none => rw [p2] at he; cases he
    | some d2 =>
      rw [p2] at he
      exact ho S2 H2 v1 v2 d1 d2 e Q (peek_ok r2 e1' p1) (peek_ok r2 e2 p2) he out
def op1 (b : PyData → Option Ev) (fa : SE) : SE := fun ρ => (fa ρ).bind fun p => resE p.2 ((peek p.2 p.1).bind b)
theorem op1_ok {g : Gc} {r : V → Hp → VK → Prop} {b : PyData → Option Ev} {fa : SE} (ho : ∀ S H x d e Q, Dw g.K S H x d → b d = some e → Out g.K S H e Q → r x H Q) : ∀ σ H Q, tE g (op1 b fa) σ H Q → (tE g fa) σ H fun x H1 => r x H1 Q := by
  rintro σ H Q ⟨S, ρ, rp, h⟩
  refine tE_bind (P := fun z => PostE g S H σ ρ z Q) exE PostE.bad rp h fun p S1 H1 v1 t1 r1 e1 h => ?_
  obtain ⟨e, he, out⟩ := resE_out t1 r1 h
  cases p1 : peek p.2 p.1 with
  | none => rw [p1] at he; cases he
  | some d1 =>
    rw [p1] at he
    exact ho S1 H1 v1 d1 e Q (peek_ok r1 e1 p1) he out
/-- arguments that are looked at -/
def DwAll (K : PySem.W.Frag) (S : Addr → Prop) (H : Hp) : List V → List PyData → Prop := Paired (Dw K S H)
def peeks (ρ : List B) : List Ev → Option (List PyData)
  | [] => some []
  | e :: es => (peek ρ e).bind fun d => (peeks ρ es).map (d :: ·)
theorem RE1.re {K : PySem.W.Frag} {A0 : Ax} {S : Addr → Prop} {H H0 : Hp} {σ : St} {ρ : List B} {v : V} {e : Ev} (h : RE1 K S H σ v e) : RE K A0 H0 S H σ ρ v e := by
  cases e with
  | val d => exact h
  | sl i => exact h
  | fr d => exact h.elim
theorem peeks_ok {K : PySem.W.Frag} {A0 : Ax} {S : Addr → Prop} {H : Hp} {σ : St} {ρ : List B} (r : Rp K A0 S H σ ρ) : ∀ {vs : List V} {es : List Ev} {ds : List PyData}, Paired (RE1 K S H σ) vs es → peeks ρ es = some ds → DwAll K S H vs ds
  | _, _, ds, .nil, h => by cases h; exact .nil
  | _, _, ds, .cons (b := e) (l₂ := es) a t, h => by
    unfold peeks at h
    cases p : peek ρ e with
    | none => rw [p] at h; cases h
    | some d =>
      rw [p] at h
      cases q : peeks ρ es with
      | none => rw [q] at h; cases h
      | some ds' =>
        rw [q] at h; cases h
        exact .cons (peek_ok (H0 := H) r a.re p) (peeks_ok r t q)
/-- a call by data -/
def opN (b : List PyData → Option Ev) (fa : SA) : SE := fun ρ => (fa ρ).bind fun p => resE p.2 ((peeks p.2 p.1).bind b)
def CallD (K : PySem.W.Frag) (r : List V → Hp → VK → Prop) (b : List PyData → Option Ev) : Prop := ∀ S H xs ds e Q, DwAll K S H xs ds → b ds = some e → Out K S H e Q → r xs H Q
theorem opN_ok {g : Gc} {r : List V → Hp → VK → Prop} {b : List PyData → Option Ev} {fa : SA} (ho : CallD g.K r b) : ∀ σ H Q, tE g (opN b fa) σ H Q → tCB r (tA g fa) σ H Q := by
  rintro σ H Q ⟨S, ρ, rp, h⟩
  refine tA_bind (P := fun z => PostE g S H σ ρ z Q) exE PostE.bad rp h fun p S1 H1 vs t1 r1 e1 h => ?_
  obtain ⟨e, he, out⟩ := resE_out t1 r1 h
  cases p1 : peeks p.2 p.1 with
  | none => rw [p1] at he; cases he
  | some ds =>
    rw [p1] at he
    exact ho S1 H1 vs ds e Q (peeks_ok r1 e1 p1) he out
/-! ### names, constants -/
section
variable {X : Cx} {A0 : Ax} {W : WX}
abbrev gc (X : Cx) (A0 : Ax) (W : WX) : Gc := ⟨X.K, X.mg, A0, W⟩
def fV (i : Nat) : SE := fun ρ => match ρ[i]? with
  | some (.val d) => .ok (.val d, ρ)
  | some (.own _) => .ok (.sl i, ρ)
  | some (.prm _) => .ok (.sl i, ρ)
  | some (.exc _) => .ok (.sl i, ρ)
  | _ => .bad
theorem fV_ok {g : Gc} {i : Nat} : ∀ σ H Q, tE g (fV i) σ H Q → tVar i σ H Q := by
  rintro σ H Q ⟨S, ρ, r, h⟩
  unfold fV at h
  cases e : ρ[i]? with
  | none => rw [e] at h; exact h.elim
  | some b =>
    rw [e] at h
    have q := r.bd i b e
    cases b with
    | un => exact h.elim
    | exc n => exact ⟨_, q.2.1, h S H _ Tr.refl r q.2.1⟩
    | val d => obtain ⟨v, e1, e2⟩ := q; exact ⟨v, e1, h S H v Tr.refl r e2⟩
    | own d => obtain ⟨a, e1, _⟩ := q; exact ⟨_, e1, h S H _ Tr.refl r e1⟩
    | prm d => obtain ⟨a, e1, _⟩ := q; exact ⟨_, e1, h S H _ Tr.refl r e1⟩
    | ob c fs => exact h.elim
theorem gv (i : Nat) {x : Str} {pos : Pos} (hN : X.N[i]? = some x := by rfl) (hv : Vis X.env.scope x := by first | exact Or.inl rfl | exact Or.inr (Or.inl rfl) | exact Or.inr (Or.inr rfl)) (hd : (x == ("__debug__" : Str)) = false := by decide)
    (hcd : (x == ("__classdict__" : Str)) = false := by decide) : PE X (.Name x pos) (tE (gc X A0 W) (fV i)) := PE_imp (pe_var hN hv hd hcd) fV_ok
def fC (d : PyData) : SE := fun ρ => .ok (.val d, ρ)
theorem fC_ok {g : Gc} {v : V} {d : PyData} (hd : ∀ S H, Dr g.K S H v d) : ∀ σ H Q, tE g (fC d) σ H Q → tC v σ H Q := fun σ H Q ⟨S, ρ, r, h⟩ => h S H v Tr.refl r (hd S H)
theorem gint {i j pos} : PE X (.Constant (.int i) j pos) (tE (gc X A0 W) (fC (.int i))) := PE_imp pe_int (fC_ok fun _ _ => .int i)
theorem gbl {b j pos} : PE X (.Constant (.bool b) j pos) (tE (gc X A0 W) (fC (.bool b))) := PE_imp pe_bl (fC_ok fun _ _ => .bl b)
theorem gstr {x j pos} : PE X (.Constant (.str x) j pos) (tE (gc X A0 W) (fC (.str x))) := PE_imp pe_str (fC_ok fun _ _ => .str x)
/-- a constant of the module -/
def KD (K : PySem.W.Frag) (u : Value) (d : PyData) : Prop := ∃ v, RelV v u ∧ ∀ S H, Dr K S H v d
theorem gglob {x : Str} {u : Value} {d : PyData} {pos : Pos} (hm : X.mg x = some u) (k : KD X.K u d) (hg : Gl X x := by rfl) (hd : (x == ("__debug__" : Str)) = false := by decide) : PE X (.Name x pos) (tE (gc X A0 W) (fC d)) := by
  obtain ⟨v, r, q⟩ := k
  exact PE_imp (pe_glob hg hm r hd) (fC_ok q)
end
end G
namespace G
open PySem PySem.Spec PyProof.Rows L2
/-! ### numbers -/
def smallI (i : Int) : Bool := decide (-18446744073709551616 < i) && decide (i < 18446744073709551616)
def mulOk (i j : Int) : Bool := smallI i || smallI j || decide (i.natAbs.log2 + j.natAbs.log2 < 1000000)
def divOk (j : Int) : Bool := decide (j ≠ 0) && (decide (j.natAbs < 1073741824) || decide (j.natAbs.log2 < 9000))
def CDivA (_ j : Int) : Prop := j ≠ 0 ∧ j.natAbs.log2 < 9000
theorem op_fdivA {X : Cx} : OpR X (binaryOp .FloorDiv) (rI CDivA fun i j => .int (i.fdiv j)) := opI fun _ _ _ _ _ _ _ hc q => floordiv_int hc.1 q (.inl (PyProof.noPylong_of_log2 hc.2))
def addD : PyData → PyData → Option Ev
  | .int i, .int j => some (.val (.int (i + j)))
  | .str a, .str b => if a.length + b.length ≤ sizeLine then some (.val (.str (a ++ b))) else none
  | .tuple xs, .tuple ys => if xs.length + ys.length ≤ sizeLine then some (.val (.tuple (xs ++ ys))) else none
  | .list xs, .list ys => if xs.length + ys.length ≤ sizeLine then some (.fr (.list (xs ++ ys))) else none
  | _, _ => none
def subD : PyData → PyData → Option Ev
  | .int i, .int j => some (.val (.int (i - j)))
  | _, _ => none
def mulD : PyData → PyData → Option Ev
  | .int i, .int j => if mulOk i j = true then some (.val (.int (i * j))) else none
  | _, _ => none
def fdivD : PyData → PyData → Option Ev
  | .int i, .int j => if divOk j = true then some (.val (.int (i.fdiv j))) else none
  | _, _ => none
def modD : PyData → PyData → Option Ev
  | .int i, .int j => if j = 0 then none else some (.val (.int (i.fmod j)))
  | _, _ => none
def powD : PyData → PyData → Option Ev
  | .int i, .int j => if 0 ≤ j ∧ j ≤ 1000000 ∧ i.natAbs < 18446744073709551616 then some (.val (.int (i ^ j.toNat))) else none
  | _, _ => none
section
variable {K : PySem.W.Frag}
theorem outInt {S : Addr → Prop} {H : Hp} {Q : VK} {i : Int} (h : Out K S H (.val (.int i)) Q) : Q (.int i) H := h _ H (fun _ _ e => e) (.int i)
theorem outBl {S : Addr → Prop} {H : Hp} {Q : VK} {i : Bool} (h : Out K S H (.val (.bool i)) Q) : Q (.bl i) H := h _ H (fun _ _ e => e) (.bl i)
theorem outStr {S : Addr → Prop} {H : Hp} {Q : VK} {i : Str} (h : Out K S H (.val (.str i)) Q) : Q (.str i) H := h _ H (fun _ _ e => e) (.str i)
theorem outTup {S : Addr → Prop} {H : Hp} {Q : VK} {ds : List PyData} {xs : List V} (r : DrAll K S H xs ds) (h : Out K S H (.val (.tuple ds)) Q) : ∀ p, H p = none → Q (.ref p) (upd H p (.tup xs)) := fun p hp =>
  h _ _ (same_alloc hp) (.tup (.inl (.inl upd_same)) (r.ex (Ex.same (same_alloc hp))))
theorem outLst {S : Addr → Prop} {H : Hp} {Q : VK} {ds : List PyData} {xs : List V} (r : DrAll K S H xs ds) (h : Out K S H (.fr (.list ds)) Q) : ∀ p, H p = none → Q (.ref p) (upd H p (.lst xs)) := fun p hp =>
  h _ _ (same_alloc hp) hp ⟨_, upd_same, .lst (r.ex (Ex.same (same_alloc hp)))⟩
end
section
variable {X : Cx} {A0 : Ax} {W : WX} {a b : Expr} {fa fb : SE} {pos : Pos}
theorem gop {op : Operator} {r : R2} {bd : PyData → PyData → Option Ev} (ho : OpR X (binaryOp op) r) (hd : OpD X.K r bd) (ha : PE X a (tE (gc X A0 W) fa)) (hb : PE X b (tE (gc X A0 W) fb)) : PE X (.BinOp a op b pos) (tE (gc X A0 W) (op2 bd fa fb)) :=
  PE_imp (pe_op ho ha hb) (op2_ok hd)
/-- list + list, any that is read -/
def rCatL (K : PySem.W.Frag) : R2 := fun x y H Q => ∃ l b xs zs, x = .ref l ∧ y = .ref b ∧ LstX K H l xs ∧ LstX K H b zs ∧ xs.length + zs.length ≤ sizeLine ∧ ∀ p, H p = none → Q (.ref p) (upd H p (.lst (xs ++ zs)))
theorem intD {C : Int → Int → Prop} {gI : Int → Int → Int} {bd : PyData → PyData → Option Ev} (h : ∀ d1 d2 e, bd d1 d2 = some e → ∃ i j, d1 = .int i ∧ d2 = .int j ∧ C i j ∧ e = .val (.int (gI i j))) {K : PySem.W.Frag} : OpD K (rI C fun i j => .int (gI i j)) bd := by
  intro S H x y d1 d2 e Q h1 h2 he out
  obtain ⟨i, j, rfl, rfl, c, rfl⟩ := h d1 d2 e he
  exact ⟨i, j, h1.int, h2.int, c, outInt out⟩
theorem intD0 {gI : Int → Int → Int} {bd : PyData → PyData → Option Ev} (h : ∀ d1 d2 e, bd d1 d2 = some e → ∃ i j, d1 = .int i ∧ d2 = .int j ∧ e = .val (.int (gI i j))) {K : PySem.W.Frag} : OpD K (rI0 fun i j => .int (gI i j)) bd := by
  intro S H x y d1 d2 e Q h1 h2 he out
  obtain ⟨i, j, rfl, rfl, rfl⟩ := h d1 d2 e he
  exact ⟨i, j, h1.int, h2.int, outInt out⟩
theorem gsub (ha : PE X a (tE (gc X A0 W) fa)) (hb : PE X b (tE (gc X A0 W) fb)) : PE X (.BinOp a .Sub b pos) (tE (gc X A0 W) (op2 subD fa fb)) :=
  gop op_sub (intD0 (gI := fun i j => i - j) fun d1 d2 e h => by
    cases d1 <;> cases d2 <;> simp only [subD, reduceCtorEq] at h
    cases h; exact ⟨_, _, rfl, rfl, rfl⟩) ha hb
theorem smallI_ok {i : Int} (h : smallI i = true) : -(2 ^ 64) < i ∧ i < 2 ^ 64 := by
  simp only [smallI, Bool.and_eq_true, decide_eq_true_eq] at h
  have : (2 : Int) ^ 64 = 18446744073709551616 := by decide
  omega
theorem gmul (ha : PE X a (tE (gc X A0 W) fa)) (hb : PE X b (tE (gc X A0 W) fb)) : PE X (.BinOp a .Mult b pos) (tE (gc X A0 W) (op2 mulD fa fb)) :=
  gop (r := fun x y H Q => rI CMul (fun i j => .int (i * j)) x y H Q ∨ rI CMulW (fun i j => .int (i * j)) x y H Q) (op_mul.or op_mulW) (fun S H x y d1 d2 e Q h1 h2 he out => by
    cases d1 <;> cases d2 <;> simp only [mulD, reduceCtorEq] at he
    rename_i i j
    split at he
    · rename_i hc
      cases he
      simp only [mulOk, Bool.or_eq_true, decide_eq_true_eq] at hc
      rcases hc with (hc | hc) | hc
      · exact .inl ⟨i, j, h1.int, h2.int, .inl (smallI_ok hc), outInt out⟩
      · exact .inl ⟨i, j, h1.int, h2.int, .inr (smallI_ok hc), outInt out⟩
      · exact .inr ⟨i, j, h1.int, h2.int, hc, outInt out⟩
    · cases he) ha hb
theorem gfdiv (ha : PE X a (tE (gc X A0 W) fa)) (hb : PE X b (tE (gc X A0 W) fb)) : PE X (.BinOp a .FloorDiv b pos) (tE (gc X A0 W) (op2 fdivD fa fb)) :=
  gop (r := fun x y H Q => rI CDivN (fun i j => .int (i.fdiv j)) x y H Q ∨ rI CDivA (fun i j => .int (i.fdiv j)) x y H Q) (op_fdivN.or op_fdivA) (fun S H x y d1 d2 e Q h1 h2 he out => by
    cases d1 <;> cases d2 <;> simp only [fdivD, reduceCtorEq] at he
    rename_i i j
    split at he
    · rename_i hc
      cases he
      simp only [divOk, Bool.and_eq_true, Bool.or_eq_true, decide_eq_true_eq] at hc
      obtain ⟨h0, hc | hc⟩ := hc
      · exact .inl ⟨i, j, h1.int, h2.int, ⟨h0, hc⟩, outInt out⟩
      · exact .inr ⟨i, j, h1.int, h2.int, ⟨h0, hc⟩, outInt out⟩
    · cases he) ha hb
theorem gmod (ha : PE X a (tE (gc X A0 W) fa)) (hb : PE X b (tE (gc X A0 W) fb)) : PE X (.BinOp a .Mod b pos) (tE (gc X A0 W) (op2 modD fa fb)) :=
  gop op_modN (intD (C := fun _ j => j ≠ 0) (gI := fun i j => i.fmod j) fun d1 d2 e h => by
    cases d1 <;> cases d2 <;> simp only [modD, reduceCtorEq] at h
    rename_i i j
    split at h
    · cases h
    · rename_i hj; cases h; exact ⟨_, _, rfl, rfl, hj, rfl⟩) ha hb
theorem gpow (ha : PE X a (tE (gc X A0 W) fa)) (hb : PE X b (tE (gc X A0 W) fb)) : PE X (.BinOp a .Pow b pos) (tE (gc X A0 W) (op2 powD fa fb)) :=
  gop op_pow (intD (C := CPow) (gI := fun i j => i ^ j.toNat) fun d1 d2 e h => by
    cases d1 <;> cases d2 <;> simp only [powD, reduceCtorEq] at h
    rename_i i j
    split at h
    · rename_i hj; cases h; exact ⟨_, _, rfl, rfl, ⟨hj.1, hj.2.1, by have : (2 : Nat) ^ 64 = 18446744073709551616 := by decide
                                                                     rw [this]; exact hj.2.2⟩, rfl⟩
    · cases h) ha hb
theorem op_catL : OpR X (binaryOp .Add) (rCatL X.K) := by
  intro pins s σ H x y v u Q I rx ry h
  obtain ⟨l, b, xs, zs, rfl, rfl, h1, h2, hz, q⟩ := h
  cases rx
  cases ry
  obtain ⟨its, n, r, e, z⟩ := h1.at_ I
  obtain ⟨its2, n2, r2, e2, z2⟩ := h2.at_ I
  have l1 := r.length
  have l2 := r2.length
  refine PySem.P.add_list e e2 ?_ (by rw [List.size_toArray, List.size_toArray]; omega)
  have ea : its.toArray ++ its2.toArray = (its ++ its2).toArray := by simp
  rw [ea]
  exact ⟨.ref _, _, I.lnew (t' := s.toks) (r.append r2) (by rw [List.length_append]; omega), rfl, q _ I.fresh⟩
def rAddX (K : PySem.W.Frag) : R2 := fun x y H Q => rI0 (fun i j => .int (i + j)) x y H Q ∨ (∃ i j, x = .str i ∧ y = .str j ∧ i.length + j.length ≤ sizeLine ∧ Q (.str (i ++ j)) H) ∨ rCatA K x y H Q ∨ rCatL K x y H Q
theorem op_addX : OpR X (binaryOp .Add) (rAddX X.K) := op_add.or (op_add_str.or (op_catA.or op_catL))
theorem addX_ok {K : PySem.W.Frag} : OpD K (rAddX K) addD := by
  intro S H x y d1 d2 e Q h1 h2 he out
  cases d1 <;> cases d2 <;> simp only [addD, reduceCtorEq] at he
  · cases he; exact .inl ⟨_, _, h1.int, h2.int, outInt out⟩
  · split at he
    · rename_i hc
      cases he; exact .inr (.inl ⟨_, _, h1.str, h2.str, hc, outStr out⟩)
    · cases he
  · split at he
    · rename_i hc
      cases he
      obtain ⟨a, xs, rfl, q1, r1⟩ := h1.lst
      obtain ⟨b, ys, rfl, q2, r2⟩ := h2.lst
      exact .inr (.inr (.inr ⟨a, b, xs, ys, rfl, rfl, q1, q2, by rw [r1.length, r2.length]; exact hc, outLst (r1.append r2) out⟩))
    · cases he
  · split at he
    · rename_i hc
      cases he
      obtain ⟨a, xs, rfl, q1, r1⟩ := h1.tup
      obtain ⟨b, ys, rfl, q2, r2⟩ := h2.tup
      refine .inr (.inr (.inl ⟨a, b, xs, ys, rfl, rfl, q1, q2, by rw [r1.length, r2.length]; exact hc, fun z => ?_, fun _ z => ?_, fun _ _ => outTup (r1.append r2) out⟩))
      · subst z
        exact out _ H (fun _ _ e => e) (.tup q2 (r1.append r2))
      · subst z
        have := r1.append r2
        rw [List.append_nil] at this
        exact out _ H (fun _ _ e => e) (.tup q1 this)
    · cases he
theorem gadd (ha : PE X a (tE (gc X A0 W) fa)) (hb : PE X b (tE (gc X A0 W) fb)) : PE X (.BinOp a .Add b pos) (tE (gc X A0 W) (op2 addD fa fb)) := gop op_addX addX_ok ha hb
/-! ### comparisons -/
def cmpI (c : Int → Int → Bool) : PyData → PyData → Option Ev
  | .int i, .int j => some (.val (.bool (c i j)))
  | _, _ => none
def str2 : PyData → PyData → Bool
  | .str _, .str _ => true
  | _, _ => false
def eqD : PyData → PyData → Option Ev := fun x y => if (str2 x y || (SeqAt.shaped x && SeqAt.shaped y)) = true then some (.val (.bool (PyData.eqv x y))) else none
def neD : PyData → PyData → Option Ev := fun x y => if (str2 x y || (SeqAt.shaped x && SeqAt.shaped y)) = true then some (.val (.bool (!PyData.eqv x y))) else none
def itemsD : PyData → Option (List PyData)
  | .list ds => some ds
  | .tuple ds => some ds
  | _ => none
def inD : PyData → PyData → Option Ev := fun x y => (itemsD y).bind fun ds => if (SeqAt.shaped x && SeqAt.shaped y) = true then some (.val (.bool (ds.any fun z => PyData.eqv z x))) else none
def ninD : PyData → PyData → Option Ev := fun x y => (itemsD y).bind fun ds => if (SeqAt.shaped x && SeqAt.shaped y) = true then some (.val (.bool (!ds.any fun z => PyData.eqv z x))) else none
def isNoneD : PyData → Bool
  | .none => true
  | _ => false
def isD : PyData → PyData → Option Ev
  | .bool a, .bool b => some (.val (.bool (decide (a = b))))
  | x, .none => some (.val (.bool (isNoneD x)))
  | _, _ => none
def isnD : PyData → PyData → Option Ev
  | .bool a, .bool b => some (.val (.bool (!decide (a = b))))
  | x, .none => some (.val (.bool (!isNoneD x)))
  | _, _ => none
theorem cmpI_ok {K : PySem.W.Frag} {c : Int → Int → Bool} : OpD K (rI0 fun i j => .bl (c i j)) (cmpI c) := by
  intro S H x y d1 d2 e Q h1 h2 he out
  cases d1 <;> cases d2 <;> simp only [cmpI, reduceCtorEq] at he
  cases he; exact ⟨_, _, h1.int, h2.int, outBl out⟩
theorem shaped_lay {d : PyData} (h : SeqAt.shaped d = true) : d.canLay0 = true := SeqAt.canLay_of_shaped h
def rEqU (K : PySem.W.Frag) : R2 := fun x y H Q => rEq x y H Q ∨ rEqD K x y H Q
def rNeU (K : PySem.W.Frag) : R2 := fun x y H Q => rNe x y H Q ∨ rNeD K x y H Q
theorem op_eqU {X : Cx} (hu : X.A.units + 64 < cLine) : OpR X (compareOp .Eq) (rEqU X.K) := op_eq.or (op_eqD hu)
theorem op_neU {X : Cx} (hu : X.A.units + 64 < cLine) : OpR X (compareOp .NotEq) (rNeU X.K) := op_ne.or (op_neD hu)
theorem str2_ok {K : PySem.W.Frag} {S : Addr → Prop} {H : Hp} {x y : V} {d1 d2 : PyData} (h1 : Dw K S H x d1) (h2 : Dw K S H y d2) (h : str2 d1 d2 = true) : scal x y = true ∧ decide (x = y) = PyData.eqv d1 d2 := by
  cases d1 <;> cases d2 <;> simp only [str2, Bool.false_eq_true] at h
  have e1 := h1.str
  have e2 := h2.str
  subst e1 e2
  exact ⟨rfl, dec_str⟩
theorem eqD_ok {K : PySem.W.Frag} : OpD K (rEqU K) eqD := by
  intro S H x y d1 d2 e Q h1 h2 he out
  unfold eqD at he
  split at he
  · rename_i hc
    cases he
    rcases Bool.or_eq_true_iff.mp hc with hc | hc
    · obtain ⟨e1, e2⟩ := str2_ok h1 h2 hc
      exact .inl ⟨e1, by rw [e2]; exact outBl out⟩
    · simp only [Bool.and_eq_true] at hc
      exact .inr ⟨d1, d2, h1.dp (shaped_lay hc.1), h2.dp (shaped_lay hc.2), hc.1, hc.2, outBl out⟩
  · cases he
theorem neD_ok {K : PySem.W.Frag} : OpD K (rNeU K) neD := by
  intro S H x y d1 d2 e Q h1 h2 he out
  unfold neD at he
  split at he
  · rename_i hc
    cases he
    rcases Bool.or_eq_true_iff.mp hc with hc | hc
    · obtain ⟨e1, e2⟩ := str2_ok h1 h2 hc
      exact .inl ⟨e1, by rw [e2]; exact outBl out⟩
    · simp only [Bool.and_eq_true] at hc
      exact .inr ⟨d1, d2, h1.dp (shaped_lay hc.1), h2.dp (shaped_lay hc.2), hc.1, hc.2, outBl out⟩
  · cases he
/-- in, not in, of a tuple -/
def rInT (K : PySem.W.Frag) : R2 := fun x y H Q => ∃ d ds, Dp K H x d ∧ Dp K H y (.tuple ds) ∧ SeqAt.shaped d = true ∧ SeqAt.shaped (.tuple ds) = true ∧ Q (.bl (ds.any fun z => PyData.eqv z d)) H
end
end G
/-! dicts whose keys are ints or texts -/
namespace G
open PySem PySem.Spec PyProof.Rows L2
def keyOf : PyData → Option Key
  | .int i => some (.inl i)
  | .str x => some (.inr x)
  | _ => none
theorem keyOf_kD (k : Key) : keyOf (kD k) = some k := by cases k <;> rfl
theorem Dw.key {K : PySem.W.Frag} {S : Addr → Prop} {H : Hp} {v : V} {d : PyData} {k : Key} (h : Dw K S H v d) (e : keyOf d = some k) : v = kV k := by
  cases d with
  | int i => cases e; exact h.int
  | str x => cases e; exact h.str
  | _ => cases e
/-- the datum at a key -/
def dget : List (PyData × PyData) → Key → Option PyData
  | [], _ => none
  | (k, d) :: r, q => if keyOf k = some q then some d else dget r q
/-- all keys are ints or texts, and there is one -/
def keyed : List (PyData × PyData) → Bool
  | [] => false
  | (k, _) :: _ => (keyOf k).isSome
theorem Dw.dic {K : PySem.W.Frag} {S : Addr → Prop} {H : Hp} {v : V} {kvs : List (PyData × PyData)} (h : Dw K S H v (.dict kvs)) : ∃ a o, v = .ref a ∧ HasO H a o ∧ Ct K S H o (.dict kvs) := by
  rcases h with h | ⟨a, rfl, o, h1, h2⟩
  · generalize hd : PyData.dict kvs = D at h
    cases h with
    | obj h1 _ c => subst hd; exact ⟨_, _, rfl, h1, c⟩
    | _ => cases hd
  · exact ⟨a, o, rfl, .inl h1, h2⟩
theorem Ct.key {K : PySem.W.Frag} {S : Addr → Prop} {H : Hp} {o : HO} {kvs : List (PyData × PyData)} (h : Ct K S H o (.dict kvs)) (hk : keyed kvs = true) : ∃ (ks : List (Key × V)) (ds : List PyData), o = .dK ks ∧ DrAll K S H (ks.map (·.2)) ds ∧ kvs = (ks.map fun p => kD p.1).zip ds := by
  generalize hd : PyData.dict kvs = D at h
  cases h with
  | lst _ => cases hd
  | dK c => cases hd; exact ⟨_, _, rfl, c, rfl⟩
  | dX _ _ c =>
    rename_i xs vs ds _ _
    cases hd
    cases xs with
    | nil => simp [keyed] at hk
    | cons p r =>
      cases ds with
      | nil => simp [keyed] at hk
      | cons d r => simp [keyed, keyOf] at hk
theorem HasO.rd {H : Hp} {a : Addr} {ks : List (Key × V)} (h : HasO H a (.dK ks)) : Rd H a (.dK ks) := by
  rcases h with h | ⟨_, od, h⟩
  · exact .inl h
  · exact .inr ⟨od, h⟩
theorem dget_val {K : PySem.W.Frag} {S : Addr → Prop} {H : Hp} (q : Key) : ∀ {ks : List (Key × V)} {ds : List PyData}, DrAll K S H (ks.map (·.2)) ds →
    (∀ d, dget ((ks.map fun p => kD p.1).zip ds) q = some d → ∃ v, valV ks q = some v ∧ Dr K S H v d) ∧ (dget ((ks.map fun p => kD p.1).zip ds) q = none → valV ks q = none)
  | [], ds, h => by
    cases h
    exact ⟨fun d e => (by cases e), fun _ => rfl⟩
  | (k, v) :: ks, _, .cons (d := d) (ds := ds) h1 h2 => by
    obtain ⟨ih1, ih2⟩ := dget_val q h2
    refine ⟨fun d' e => ?_, fun e => ?_⟩
    · simp only [List.map_cons, List.zip_cons_cons, dget, keyOf_kD, Option.some.injEq] at e
      by_cases hk : k = q
      · rw [if_pos hk] at e
        cases e
        exact ⟨v, valV_pos hk, h1⟩
      · rw [if_neg hk] at e
        obtain ⟨u, e1, e2⟩ := ih1 d' e
        exact ⟨u, by rw [valV_neg hk]; exact e1, e2⟩
    · simp only [List.map_cons, List.zip_cons_cons, dget, keyOf_kD, Option.some.injEq] at e
      by_cases hk : k = q
      · rw [if_pos hk] at e; cases e
      · rw [if_neg hk] at e
        rw [valV_neg hk]
        exact ih2 e
theorem dget_keyX {q : Key} {d : PyData} : ∀ {ks : List KX} {ds : List PyData}, dget ((ks.map fun p => PyData.tuple (p.1.map PyData.int)).zip ds) q ≠ some d
  | [], _, h => by cases h
  | _ :: ks, [], h => by cases h
  | _ :: ks, _ :: ds, h => by
    simp only [List.map_cons, List.zip_cons_cons, dget, keyOf, reduceCtorEq, if_false] at h
    exact dget_keyX h
/-- d[k], k there -/
theorem Dw.get {K : PySem.W.Frag} {S : Addr → Prop} {H : Hp} {x y : V} {kvs : List (PyData × PyData)} {k d : PyData} {q : Key} (h : Dw K S H x (.dict kvs)) (hk : Dw K S H y k) (hq : keyOf k = some q) (hd : dget kvs q = some d) : ∃ a v, x = .ref a ∧ DGet H a y (some v) ∧ Dr K S H v d := by
  obtain ⟨a, o, rfl, ho, c⟩ := h.dic
  generalize hD : PyData.dict kvs = D at c
  cases c with
  | lst _ => cases hD
  | dK c =>
    cases hD
    obtain ⟨v, e1, e2⟩ := (dget_val q c).1 d hd
    exact ⟨a, v, rfl, .inl ⟨_, q, ho.rd, hk.key hq, e1.symm⟩, e2⟩
  | dX _ _ c =>
    cases hD
    exact (dget_keyX hd).elim
def rIxG : R2 := fun x y H Q => ∃ a v, x = .ref a ∧ DGet H a y (some v) ∧ Q v H
section
variable {X : Cx}
theorem ix_dict (hu : X.A.units + 1 < cLine) : IxR X rIxG := by
  intro value slice pins s σ H x y v u Q I rx ry h hs
  obtain ⟨a, r, rfl, g, q⟩ := h
  obtain rfl : v = Value.ref a := rx
  exact tail_any (dict_typeIs I g) PySem.F.slot_dict_getitem.lookup (d_getItem hu I g ry fun w' s3 I3 rw' => ⟨r, H, I3, rw', q⟩) hs
end
/-- the dict with d at the key -/
def dput (kvs : List (PyData × PyData)) (q : Key) (d : PyData) : List (PyData × PyData) := if (dget kvs q).isSome = true then kvs.map (fun p => if keyOf p.1 = some q then (p.1, d) else p) else kvs ++ [(kD q, d)]
end G
namespace G
open PySem PySem.Spec PyProof.Rows L2
section
variable {X : Cx} {A0 : Ax} {W : WX} {a b c e : Expr} {fa fb fc f : SE} {pos : Pos}
theorem op_inT (hu : X.A.units + 65 < cLine) : OpR X (compareOp .In) (rInT X.K) := by
  intro pins s σ H x y v u Q I rx ry h
  obtain ⟨d, ds, hd, he, sd, se, q⟩ := h
  obtain ⟨as, r1⟩ := Dp.reads I d x v hd rx
  obtain ⟨bs, r2⟩ := Dp.reads I (.tuple ds) y u he ry
  exact SeqAt.in_tuple_reads r2 r1 (SeqAt.canLay_of_shaped se) (SeqAt.canLay_of_shaped sd) (room_in_shaped sd hu) ⟨.bl _, H, I, rfl, q⟩
theorem inD_ok {K : PySem.W.Frag} : OpD K (fun x y H Q => rInD K x y H Q ∨ rInT K x y H Q) inD := by
  intro S H x y d1 d2 e Q h1 h2 he out
  unfold inD at he
  cases d2 <;> simp only [itemsD, Option.bind_none, Option.bind_some, reduceCtorEq] at he
  · split at he
    · rename_i ds hc
      simp only [Bool.and_eq_true] at hc
      cases he
      exact .inl ⟨d1, ds, h1.dp (shaped_lay hc.1), h2.dp (shaped_lay hc.2), hc.1, hc.2, outBl out⟩
    · cases he
  · split at he
    · rename_i ds hc
      simp only [Bool.and_eq_true] at hc
      cases he
      exact .inr ⟨d1, ds, h1.dp (shaped_lay hc.1), h2.dp (shaped_lay hc.2), hc.1, hc.2, outBl out⟩
    · cases he
theorem gcmp {op : CmpOp} {r : R2} {bd : PyData → PyData → Option Ev} (ho : OpR X (compareOp op) r) (hd : OpD X.K r bd) (ha : PE X a (tE (gc X A0 W) fa)) (hb : PE X b (tE (gc X A0 W) fb)) (hm : behindInMarks op b = false) :
    PE X (.Compare a [op] [b] pos) (tE (gc X A0 W) (op2 bd fa fb)) := PE_imp (pe_cmpR ho ha hb hm) (op2_ok hd)
theorem geq (hu : X.A.units + 64 < cLine) (ha : PE X a (tE (gc X A0 W) fa)) (hb : PE X b (tE (gc X A0 W) fb)) : PE X (.Compare a [.Eq] [b] pos) (tE (gc X A0 W) (op2 eqD fa fb)) := gcmp (op_eqU hu) eqD_ok ha hb (nomark _)
/-! ### a < b < c -/
def boolD : Option Ev → Option Bool
  | some (.val (.bool k)) => some k
  | _ => none
def ch3 (b1 b2 : PyData → PyData → Option Ev) (fa fb fc : SE) : SE := fun ρ => (fa ρ).bind fun p => (fb p.2).bind fun q =>
  match boolD ((peek q.2 p.1).bind fun d1 => (peek q.2 q.1).bind fun d2 => b1 d1 d2) with
  | some false => .ok (.val (.bool false), q.2)
  | some true => (fc q.2).bind fun r => resE r.2 ((peek r.2 q.1).bind fun d1 => (peek r.2 r.1).bind fun d2 => b2 d1 d2)
  | none => .bad
/-- an operation whose answer changes nothing and is the same for the same data -/
theorem chain_ok {r r' : R2} {b1 b2 : PyData → PyData → Option Ev} (hd : OpD X.K r b1) (hd' : OpD X.K r' b2) : ∀ σ H Q, tE (gc X A0 W) (ch3 b1 b2 fa fb fc) σ H Q → tChain r r' (tE (gc X A0 W) fa) (tE (gc X A0 W) fb) (tE (gc X A0 W) fc) σ H Q := by
  rintro σ H Q ⟨S, ρ, rp, h⟩
  refine tE_bind (P := fun z => PostE (gc X A0 W) S H σ ρ z Q) exE PostE.bad rp h fun p S1 H1 v1 t1 r1 e1 h => ?_
  refine tE_bind (P := fun z => PostE (gc X A0 W) S1 H1 σ p.2 z Q) exE PostE.bad r1 (h.from t1) fun q S2 H2 v2 t2 r2 e2 h => ?_
  have e1' := e1.mono r1 t2
  cases p1 : peek q.2 p.1 with
  | none => rw [p1] at h; exact h.elim
  | some d1 =>
    rw [p1] at h
    cases p2 : peek q.2 q.1 with
    | none => rw [p2] at h; exact h.elim
    | some d2 =>
      rw [p2] at h
      simp only [Option.bind_some] at h
      cases hb1 : b1 d1 d2 with
      | none => rw [hb1] at h; exact h.elim
      | some ev =>
        rw [hb1] at h
        cases ev with
        | fr d => exact h.elim
        | sl i => exact h.elim
        | val d =>
          cases d with
          | bool k =>
            refine hd S2 H2 v1 v2 d1 d2 _ _ (peek_ok r2 e1' p1) (peek_ok r2 e2 p2) hb1 fun v H3 s3 dv => ?_
            obtain rfl := dv.w.bl
            refine ⟨k, rfl, ?_⟩
            have t3 := t2.same s3
            have r3 := r2.same s3
            cases k with
            | false => exact iteF ((h : PostE (gc X A0 W) S1 H1 σ p.2 (.ok (.val (.bool false), q.2)) Q) S2 H3 _ t3 r3 (.bl false))
            | true =>
              refine iteT ?_
              refine tE_bind (P := fun z => PostE (gc X A0 W) S2 H3 σ q.2 z Q) exE PostE.bad r3 (PostE.from t3 h) fun r S4 H4 v4 t4 r4 e4 h4 => ?_
              obtain ⟨ev, he, out⟩ := resE_out t4 r4 h4
              have e2' : RE X.K A0 H1 S4 H4 σ r.2 v2 q.1 := RE.mono r3 t4 (e2.mono (ρ' := q.2) r2 (Tr.refl.same s3))
              cases p3 : peek r.2 q.1 with
              | none => rw [p3] at he; cases he
              | some d3 =>
                rw [p3] at he
                cases p4 : peek r.2 r.1 with
                | none => rw [p4] at he; cases he
                | some d4 =>
                  rw [p4] at he
                  exact hd' S4 H4 v2 v4 d3 d4 ev Q (peek_ok r4 e2' p3) (peek_ok r4 e4 p4) he out
          | _ => exact h.elim
theorem gchain {op op' : CmpOp} {r r' : R2} {b1 b2 : PyData → PyData → Option Ev} (ho : OpR X (compareOp op) r) (ho' : OpR X (compareOp op') r') (hd : OpD X.K r b1) (hd' : OpD X.K r' b2)
    (ha : PE X a (tE (gc X A0 W) fa)) (hb : PE X b (tE (gc X A0 W) fb)) (hc : PE X c (tE (gc X A0 W) fc)) (hm : lastMarks [op, op'] [b, c] = false := by with_unfolding_all rfl) :
    PE X (.Compare a [op, op'] [b, c] pos) (tE (gc X A0 W) (ch3 b1 b2 fa fb fc)) := PE_imp (pe_chain ho ho' ha hb hc hm) (chain_ok hd hd')
end
/-! ### tests -/
section
variable {X : Cx} {A0 : Ax} {W : WX} {a b c e : Expr} {f fa fb : SE} {ga gb : SB} {pos : Pos} {rest : List Expr}
def fB (f : SE) : SB := fun ρ => (f ρ).bind fun p => match peek p.2 p.1 with
  | some (.bool k) => .ok (k, p.2)
  | _ => .bad
theorem fB_ok {g : Gc} : ∀ σ H Q, tT g (fB f) σ H Q → tB (tE g f) σ H Q := by
  rintro σ H Q ⟨S, ρ, rp, h⟩
  refine tE_bind (P := fun z => PostT g S H σ ρ z Q) exT PostT.bad rp h fun p S1 H1 v1 t1 r1 e1 h => ?_
  cases p1 : peek p.2 p.1 with
  | none => rw [p1] at h; exact h.elim
  | some d =>
    rw [p1] at h
    cases d with
    | bool k => exact ⟨k, (peek_ok r1 e1 p1).bl, h S1 H1 t1 r1⟩
    | _ => exact h.elim
theorem gtv (h : PE X e (tE (gc X A0 W) f)) (he : ∀ whole, isTrue e X.env whole = (do let v ← whole; standAt e.pos; holding [v] (truthy v)) := by intro _; rfl) : PT X e (tT (gc X A0 W) (fB f)) := PT_imp (pt_val h he) fB_ok
/-- a op b as a test -/
theorem gtcmp {op : CmpOp} {r : R2} {bd : PyData → PyData → Option Ev} (ho : OpR X (compareOp op) r) (hd : OpD X.K r bd) (ha : PE X a (tE (gc X A0 W) fa)) (hb : PE X b (tE (gc X A0 W) fb)) (hm : behindInMarks op b = false) :
    PT X (.Compare a [op] [b] pos) (tT (gc X A0 W) (fB (op2 bd fa fb))) := PT_imp (pt_cmpR ho ha hb hm) fun σ H Q h => op2_ok hd σ H _ (fB_ok σ H Q h)
def andB (fa fb : SB) : SB := fun ρ => (fa ρ).bind fun p => if p.1 = true then fb p.2 else .ok (false, p.2)
def orB (fa fb : SB) : SB := fun ρ => (fa ρ).bind fun p => if p.1 = true then .ok (true, p.2) else fb p.2
def notB (fa : SB) : SB := fun ρ => (fa ρ).bind fun p => .ok (!p.1, p.2)
theorem gor1 (ha : PT X a (tT (gc X A0 W) ga)) : PW X (.BoolOp .Or [a] pos) (tT (gc X A0 W) ga) := pw_or1 ha
theorem gor (ha : PT X a (tT (gc X A0 W) ga)) (hb : PW X (.BoolOp .Or (b :: rest) pos) (tT (gc X A0 W) gb)) : PW X (.BoolOp .Or (a :: b :: rest) pos) (tT (gc X A0 W) (orB ga gb)) := by
  refine PW_imp (pw_or ha hb) ?_
  rintro σ H Q ⟨S, ρ, rp, h⟩
  refine tT_bind (P := fun z => PostT (gc X A0 W) S H σ ρ z Q) exT PostT.bad rp h fun p S1 H1 t1 r1 h => ?_
  cases hp : p.1 with
  | true => rw [hp] at h; exact iteT ((show PostT (gc X A0 W) S H σ ρ (.ok (true, p.2)) Q from h) S1 H1 t1 r1)
  | false => rw [hp] at h; exact iteF ⟨S1, p.2, r1, PostT.from t1 h⟩
theorem gnot (ha : PT X a (tT (gc X A0 W) ga)) : PT X (.UnaryOp .Not a pos) (tT (gc X A0 W) (notB ga)) := by
  refine PT_imp (pt_not ha) ?_
  rintro σ H Q ⟨S, ρ, rp, h⟩
  exact tT_bind (P := fun z => PostT (gc X A0 W) S H σ ρ z Q) exT PostT.bad rp h fun p S1 H1 t1 r1 h => h S1 H1 t1 r1
/-! and, or, not as values -/
def andV (fa fb : SE) : SE := fun ρ => (fB fa ρ).bind fun p => if p.1 = true then fb p.2 else .ok (.val (.bool false), p.2)
def orV (fa fb : SE) : SE := fun ρ => (fB fa ρ).bind fun p => if p.1 = true then .ok (.val (.bool true), p.2) else fb p.2
def notV (fa : SE) : SE := fun ρ => (fB fa ρ).bind fun p => .ok (.val (.bool (!p.1)), p.2)
theorem fB_bind {g : Gc} {S : Addr → Prop} {H : Hp} {σ : St} {ρ : List B} {R : VK} {Q : VK} {k : Bool × List B → Rs (Ev × List B)} (r : Rp g.K g.A0 S H σ ρ) (h : PostE g S H σ ρ ((fB fa ρ).bind k) Q)
    (hk : ∀ (c : Bool) (ρ1 : List B) S' H', Tr S H (Ow σ ρ) S' H' (Ow σ ρ1) → Rp g.K g.A0 S' H' σ ρ1 → PostE g S H σ ρ (k (c, ρ1)) Q → R (.bl c) H') : tE g fa σ H R := by
  refine tE_bind (f := fa) (k := fun p => (match peek p.2 p.1 with | some (.bool c) => (Rs.ok (c, p.2) : Rs (Bool × List B)) | _ => Rs.bad).bind k) (P := fun z => PostE g S H σ ρ z Q) exE PostE.bad r ?_ fun p S1 H1 v1 t1 r1 e1 h => ?_
  · have e : (fB fa ρ).bind k = (fa ρ).bind (fun p => (match peek p.2 p.1 with | some (.bool c) => (Rs.ok (c, p.2) : Rs (Bool × List B)) | _ => Rs.bad).bind k) := by
      unfold fB
      cases fa ρ with
      | ok p => rfl
      | ex n ρ' => rfl
      | bad => rfl
    rw [e] at h
    exact h
  · cases p1 : peek p.2 p.1 with
    | none => rw [p1] at h; exact h.elim
    | some d =>
      rw [p1] at h
      cases d with
      | bool c =>
        rw [(peek_ok r1 e1 p1).bl]
        exact hk c p.2 S1 H1 t1 r1 h
      | _ => exact h.elim
theorem gandV (ha : PE X a (tE (gc X A0 W) fa)) (hb : PE X (.BoolOp .And (b :: rest) pos) (tE (gc X A0 W) fb)) : PE X (.BoolOp .And (a :: b :: rest) pos) (tE (gc X A0 W) (andV fa fb)) := by
  refine PE_imp (pe_and ha hb) ?_
  rintro σ H Q ⟨S, ρ, rp, h⟩
  refine fB_bind rp h fun c ρ1 S1 H1 t1 r1 h => ⟨c, rfl, ?_⟩
  cases c with
  | false => exact iteF ((show PostE (gc X A0 W) S H σ ρ (.ok (.val (.bool false), ρ1)) Q from h) S1 H1 _ t1 r1 (.bl false))
  | true => exact iteT ⟨S1, ρ1, r1, PostE.from t1 h⟩
theorem gone {op} (h : PE X a (tE (gc X A0 W) fa)) : PE X (.BoolOp op [a] pos) (tE (gc X A0 W) fa) := pe_one h
theorem gnotV (ha : PE X a (tE (gc X A0 W) fa)) : PE X (.UnaryOp .Not a pos) (tE (gc X A0 W) (notV fa)) := by
  refine PE_imp (pe_not ha) ?_
  rintro σ H Q ⟨S, ρ, rp, h⟩
  exact fB_bind rp h fun c ρ1 S1 H1 t1 r1 h => ⟨c, rfl, (show PostE (gc X A0 W) S H σ ρ (.ok (.val (.bool (!c)), ρ1)) Q from h) S1 H1 _ t1 r1 (.bl _)⟩
def ifE (t : SB) (fa fb : SE) : SE := fun ρ => (t ρ).bind fun p => if p.1 = true then fa p.2 else fb p.2
theorem gif {t : Expr} (ht : PT X t (tT (gc X A0 W) ga)) (ha : PE X a (tE (gc X A0 W) fa)) (hb : PE X b (tE (gc X A0 W) fb)) : PE X (.IfExp t a b pos) (tE (gc X A0 W) (ifE ga fa fb)) := by
  refine PE_imp (pe_ifExp ht ha hb) ?_
  rintro σ H Q ⟨S, ρ, rp, h⟩
  refine tT_bind (P := fun z => PostE (gc X A0 W) S H σ ρ z Q) exE PostE.bad rp h fun p S1 H1 t1 r1 h => ?_
  cases hp : p.1 with
  | true => rw [hp] at h; exact iteT ⟨S1, p.2, r1, PostE.from t1 h⟩
  | false => rw [hp] at h; exact iteF ⟨S1, p.2, r1, PostE.from t1 h⟩
end
/-! ### arguments, displays -/
section
variable {X : Cx} {A0 : Ax} {W : WX} {e : Expr} {es : List Expr} {f : SE} {fs : SA} {pos : Pos}
def aNil : SA := fun ρ => .ok ([], ρ)
def aCons (f : SE) (fs : SA) : SA := fun ρ => (f ρ).bind fun p => (fs p.2).bind fun q => .ok (settle p.1 :: q.1, q.2)
theorem gnil : PA X [] (tA (gc X A0 W) aNil) := PA_imp pa_nil fun σ H Q ⟨S, ρ, r, h⟩ => h S H [] Tr.refl r .nil
theorem gcons (ha : PE X e (tE (gc X A0 W) f)) (hr : PA X es (tA (gc X A0 W) fs)) (hs : starEach (e :: es) X.env = (false, eval e X.env) :: starEach es X.env := by rfl) : PA X (e :: es) (tA (gc X A0 W) (aCons f fs)) := by
  refine PA_imp (pa_cons ha hr hs) ?_
  rintro σ H Q ⟨S, ρ, rp, h⟩
  refine tE_bind (P := fun z => PostA (gc X A0 W) S H σ ρ z Q) exA PostA.bad rp h fun p S1 H1 v1 t1 r1 e1 h => ?_
  obtain ⟨S1', t1', r1', e1', _⟩ := settle_ok t1 r1 e1
  refine tA_bind (P := fun z => PostA (gc X A0 W) S1' H1 σ p.2 z Q) exA PostA.bad r1' (h.from t1') fun q S2 H2 vs t2 r2 e2 h => ?_
  exact h S2 H2 (v1 :: vs) t2 r2 (.cons (e1'.ex (r1'.ex t2)) e2)
/-- what stands in a slot is given away -/
def shr (ρ : List B) : Ev → Option (PyData × List B)
  | .val d => some (d, ρ)
  | .fr d => some (d, ρ)
  | .sl i => match ρ[i]? with
    | some (.own d) => some (d, ρ.set i (.val d))
    | some (.val d) => some (d, ρ)
    | _ => none
theorem ow_set {σ : St} {ρ : List B} {i : Nat} {b : B} (hb : isOw (some b) = false) {a : Addr} (h : Ow σ (ρ.set i b) a) : Ow σ ρ a ∧ ¬ ∃ o, OwI σ ρ i o ∧ o = a ∧ ∀ j, OwI σ ρ j a → j = i := by
  obtain ⟨j, h1, h2⟩ := h
  by_cases e : i = j
  · subst e
    by_cases hl : i < ρ.length
    · rw [List.getElem?_set_self hl, hb] at h1; cases h1
    · rw [List.getElem?_eq_none (by rw [List.length_set]; omega)] at h1; cases h1
  · rw [List.getElem?_set_ne e] at h1
    exact ⟨⟨j, h1, h2⟩, fun ⟨o, _, _, u⟩ => e (u j ⟨h1, h2⟩).symm⟩
theorem shr_sl {K : PySem.W.Frag} {A0 : Ax} {S : Addr → Prop} {H : Hp} {σ : St} {ρ : List B} {i : Nat} {d : PyData} (r : Rp K A0 S H σ ρ) (e : ρ[i]? = some (.own d)) :
    ∃ a, σ[i]? = some (some (.ref a)) ∧ Ow σ ρ a ∧ Rp K A0 (Sadd S a) H σ (ρ.set i (.val d)) ∧ Dr K (Sadd S a) H (.ref a) d ∧ (∀ b, Ow σ (ρ.set i (.val d)) b → Ow σ ρ b) := by
  obtain ⟨a, e1, e2, o, e3, e4⟩ := r.bd i _ e
  have ow : OwI σ ρ i a := by unfold OwI; rw [e]; exact ⟨rfl, e1⟩
  have hl : i < ρ.length := (List.getElem?_eq_some_iff.mp e).1
  have dr : Dr K (Sadd S a) H (.ref a) d := .obj (.inl e3) (.inr rfl) (e4.ex (Ex.add a))
  have sub : ∀ b, Ow σ (ρ.set i (.val d)) b → Ow σ ρ b := fun b h => (ow_set rfl h).1
  refine ⟨a, e1, ⟨i, ow⟩, ⟨by rw [List.length_set]; exact r.len, fun j b hb => ?_, fun j k c h1 h2 => ?_, fun c hc => ?_, fun j d' c h1 h2 => ?_, r.aa, r.tb⟩, dr, sub⟩
  · by_cases hj : i = j
    · subst hj
      rw [List.getElem?_set_self hl] at hb; cases hb
      exact ⟨_, e1, dr⟩
    · rw [List.getElem?_set_ne hj] at hb
      have q := r.bd j b hb
      cases b with
      | un => trivial
      | exc n => exact bd_exc (Ex.add a) q
      | val d' => obtain ⟨v, q1, q2⟩ := q; exact ⟨v, q1, q2.ex (Ex.add a)⟩
      | own d' =>
        obtain ⟨c, q1, q2, q3⟩ := q
        refine ⟨c, q1, fun z => ?_, q3.ex (Ex.add a) fun _ h => h⟩
        rcases z with z | rfl
        · exact q2 z
        · exact hj (r.dis i j c ow (by unfold OwI; rw [hb]; exact ⟨rfl, q1⟩))
      | prm d' =>
        obtain ⟨c, q1, q0, q2, q3⟩ := q
        refine ⟨c, q1, q0, fun z => ?_, q3.ex (Ex.add a) fun _ h => h⟩
        rcases z with z | rfl
        · exact q2 z
        · exact hj (r.dis i j c ow (by unfold OwI; rw [hb]; exact ⟨rfl, q1⟩))
      | ob cl fs =>
        refine bd_ob (Ex.add a) q fun c ec => ⟨ec, fun z => ?_, fun _ h => h⟩
        have own : OwI σ ρ j c := ⟨by rw [hb]; rfl, ec⟩
        rcases z with z | rfl
        · exact (r.own own).1 z
        · exact hj (r.dis i j c ow own)
  · have w1 : OwI σ ρ j c := by
      by_cases hj : i = j
      · subst hj; unfold OwI at h1; rw [List.getElem?_set_self hl] at h1; cases h1.1
      · unfold OwI at h1 ⊢; rw [List.getElem?_set_ne hj] at h1; exact h1
    have w2 : OwI σ ρ k c := by
      by_cases hj : i = k
      · subst hj; unfold OwI at h2; rw [List.getElem?_set_self hl] at h2; cases h2.1
      · unfold OwI at h2 ⊢; rw [List.getElem?_set_ne hj] at h2; exact h2
    exact r.dis j k c w1 w2
  · rcases hc with hc | rfl
    · exact r.al c hc
    · exact ⟨o, e3⟩
  · by_cases hj : i = j
    · subst hj; rw [List.getElem?_set_self hl] at h1; cases h1
    · rw [List.getElem?_set_ne hj] at h1; exact r.np j d' c h1 h2
theorem shr_ok {K : PySem.W.Frag} {A0 : Ax} {S S0 : Addr → Prop} {H H0 : Hp} {σ : St} {ρ ρ' : List B} {O0 : Addr → Prop} {v : V} {e : Ev} {d : PyData}
    (t : Tr S0 H0 O0 S H (Ow σ ρ)) (r : Rp K A0 S H σ ρ) (h : RE1 K S H σ v e) (q : shr ρ e = some (d, ρ')) :
    ∃ S', Tr S0 H0 O0 S' H (Ow σ ρ') ∧ Rp K A0 S' H σ ρ' ∧ Dr K S' H v d ∧ Ex S H S' H := by
  cases e with
  | val d' => cases q; exact ⟨S, t, r, h, Ex.same fun _ _ e => e⟩
  | fr d' => exact h.elim
  | sl i =>
    have hv : σ[i]? = some (some v) := h
    unfold shr at q
    cases e : ρ[i]? with
    | none => simp only [e, reduceCtorEq] at q
    | some b =>
      simp only [e] at q
      cases b with
      | un => cases q
      | exc n => cases q
      | ob _ _ => cases q
      | prm d' => cases q
      | val d' =>
        cases q
        obtain ⟨u, e1, e2⟩ := r.bd i _ e
        rw [hv] at e1; cases e1
        exact ⟨S, t, r, e2, Ex.same fun _ _ e => e⟩
      | own d' =>
        cases q
        obtain ⟨a, e1, ow, r', dr, sub⟩ := shr_sl r e
        rw [hv] at e1; cases e1
        refine ⟨Sadd S a, ?_, r', dr, Ex.add a⟩
        have t' := t.add (a := a) (by
          rcases t.o a ow with z | z
          · exact .inr z
          · exact .inl z)
        exact ⟨t'.s, t'.keep, t'.dom, fun b hb => t.o b (sub b hb), t'.g⟩
def shrs (ρ : List B) : List Ev → Option (List PyData × List B)
  | [] => some ([], ρ)
  | e :: es => (shr ρ e).bind fun p => (shrs p.2 es).map fun q => (p.1 :: q.1, q.2)
theorem shrs_ok {K : PySem.W.Frag} {A0 : Ax} {S0 : Addr → Prop} {H H0 : Hp} {σ : St} {O0 : Addr → Prop} : ∀ {vs : List V} {es : List Ev} {S : Addr → Prop} {ρ ρ' : List B} {ds : List PyData},
    Tr S0 H0 O0 S H (Ow σ ρ) → Rp K A0 S H σ ρ → Paired (RE1 K S H σ) vs es → shrs ρ es = some (ds, ρ') → ∃ S', Tr S0 H0 O0 S' H (Ow σ ρ') ∧ Rp K A0 S' H σ ρ' ∧ DrAll K S' H vs ds ∧ Ex S H S' H
  | _, _, S, ρ, ρ', ds, t, r, .nil, q => by cases q; exact ⟨S, t, r, .nil, Ex.same fun _ _ e => e⟩
  | _, _, S, ρ, ρ', ds, t, r, .cons (b := e) (l₂ := es) a rest, q => by
    unfold shrs at q
    cases h1 : shr ρ e with
    | none => rw [h1] at q; cases q
    | some p =>
      rw [h1] at q
      cases h2 : shrs p.2 es with
      | none => rw [Option.bind_some, h2] at q; cases q
      | some p2 =>
        rw [Option.bind_some, h2] at q; cases q
        obtain ⟨S1, t1, r1, d1, x1⟩ := shr_ok t r a h1
        obtain ⟨S2, t2, r2, d2, x2⟩ := shrs_ok t1 r1 (RE1s.ex x1 rest) h2
        exact ⟨S2, t2, r2, .cons (d1.ex x2) d2, ⟨fun b hb => x2.s b (x1.s b hb), fun _ _ _ _ e => e, fun _ _ e => e, fun _ _ _ e => e, fun _ _ e => e⟩⟩
/-- a display: what it makes of the items -/
def dispE (mk : List PyData → Ev) (fs : SA) : SE := fun ρ => (fs ρ).bind fun p => match shrs p.2 p.1 with
  | some (ds, ρ') => if ds.length ≤ sizeLine then resE ρ' (some (mk ds)) else .bad
  | none => .bad
theorem disp_ok {g : Gc} {mk : List PyData → Ev} {σ : St} {H : Hp} {Q : VK} (h : tE g (dispE mk fs) σ H Q) {R : List V → Hp → Prop}
    (hR : ∀ S' H' vs ds, DrAll g.K S' H' vs ds → vs.length ≤ sizeLine → Out g.K S' H' (mk ds) Q → R vs H') : tA g fs σ H R := by
  obtain ⟨S, ρ, rp, h⟩ := h
  refine tA_bind (P := fun z => PostE g S H σ ρ z Q) exE PostE.bad rp h fun p S1 H1 vs t1 r1 e1 h => ?_
  cases q : shrs p.2 p.1 with
  | none => rw [q] at h; exact h.elim
  | some pr =>
    obtain ⟨ds, ρ'⟩ := pr
    rw [q] at h
    obtain ⟨S2, t2, r2, d2, _⟩ := shrs_ok t1 r1 e1 q
    simp only at h
    split at h
    · rename_i hl
      obtain ⟨ev, he, out⟩ := resE_out t2 r2 h
      cases he
      exact hR S2 H1 vs ds d2 (by rw [d2.length]; exact hl) out
    · exact h.elim
def tupE (fs : SA) : SE := dispE (fun ds => .val (.tuple ds)) fs
def lstE (fs : SA) : SE := dispE (fun ds => .fr (.list ds)) fs
theorem gtup {x1} (h : PA X es (tA (gc X A0 W) fs)) : PE X (.Tuple es x1 pos) (tE (gc X A0 W) (tupE fs)) := PE_imp (pe_tup h) fun σ H Q q => disp_ok (g := gc X A0 W) q fun S' H' vs ds d hl out => ⟨hl, outTup d out⟩
theorem glst (h : PA X es (tA (gc X A0 W) fs)) : PE X (.List es pos) (tE (gc X A0 W) (lstE fs)) := PE_imp (pe_lst h) fun σ H Q q => disp_ok (g := gc X A0 W) q fun S' H' vs ds d hl out => ⟨hl, outLst d out⟩
end
/-! ### items, slices -/
section
variable {X : Cx} {A0 : Ax} {W : WX} {a b : Expr} {fa fb : SE} {pos : Pos}
def ixD : PyData → PyData → Option Ev
  | .list ds, .int i => (atI ds i).map .val
  | .tuple ds, .int i => (atI ds i).map .val
  | .str z, .int i => if z.length ≤ sizeLine then (atI z.cps.toList i).map fun c => .val (.str ⟨#[c]⟩) else none
  | .dict kvs, k => (keyOf k).bind fun q => (dget kvs q).map .val
  | _, _ => none
theorem atI_dr {K : PySem.W.Frag} {S : Addr → Prop} {H : Hp} {xs : List V} {ds : List PyData} {i : Int} {d : PyData} (r : DrAll K S H xs ds) (h : atI ds i = some d) : ∃ v, atI xs i = some v ∧ Dr K S H v d := by
  unfold atI at h ⊢
  rw [r.length]
  cases e : ixN ds.length i with
  | none => rw [e] at h; cases h
  | some j =>
    rw [e] at h
    exact r.get h
theorem ixD_ok {K : PySem.W.Frag} : OpD K (fun x y H Q => rIx K x y H Q ∨ rIxG x y H Q) ixD := by
  intro S H x y d1 d2 e Q h1 h2 he out
  cases d1 with
  | none => cases d2 <;> cases he
  | bool b => cases d2 <;> cases he
  | int b => cases d2 <;> cases he
  | str z =>
    cases d2 with
    | int i =>
      simp only [ixD] at he
      split at he
      · rename_i hz
        cases e1 : atI z.cps.toList i with
        | none => rw [e1] at he; cases he
        | some c =>
          rw [e1] at he; cases he
          exact .inl (.inr (.inr ⟨z, i, c, h1.str, h2.int, hz, e1, outStr out⟩))
      · cases he
    | _ => cases he
  | list ds =>
    cases d2 with
    | int i =>
      simp only [ixD] at he
      cases e1 : atI ds i with
      | none => rw [e1] at he; cases he
      | some d =>
        rw [e1] at he; cases he
        obtain ⟨a, xs, rfl, q, r⟩ := h1.lst
        obtain ⟨v, e2, dv⟩ := atI_dr r e1
        exact .inl (.inl ⟨a, xs, i, v, rfl, h2.int, q.sq, e2, out v H (fun _ _ e => e) dv⟩)
    | _ => cases he
  | tuple ds =>
    cases d2 with
    | int i =>
      simp only [ixD] at he
      cases e1 : atI ds i with
      | none => rw [e1] at he; cases he
      | some d =>
        rw [e1] at he; cases he
        obtain ⟨a, xs, rfl, q, r⟩ := h1.tup
        obtain ⟨v, e2, dv⟩ := atI_dr r e1
        exact .inl (.inr (.inl ⟨a, xs, i, v, rfl, h2.int, q, e2, out v H (fun _ _ e => e) dv⟩))
    | _ => cases he
  | dict kvs =>
    have he' : ((keyOf d2).bind fun q => (dget kvs q).map Ev.val) = some e := by cases d2 <;> exact he
    cases hq : keyOf d2 with
    | none => rw [hq] at he'; cases he'
    | some q =>
      rw [hq] at he'
      cases hg : dget kvs q with
      | none => simp only [Option.bind, hg, Option.map_none, reduceCtorEq] at he'
      | some d =>
        simp only [Option.bind, hg, Option.map_some, Option.some.injEq] at he'
        subst he'
        obtain ⟨a, v, rfl, g, dr⟩ := h1.get h2 hq hg
        exact .inr ⟨a, v, rfl, g, out v H (fun _ _ e => e) dr⟩
theorem gix (hu : X.A.units + 1 < cLine) (ha : PE X a (tE (gc X A0 W) fa)) (hb : PE X b (tE (gc X A0 W) fb)) (hs : PlainIx b := by exact fun _ _ => rfl) : PE X (.Subscript a b pos) (tE (gc X A0 W) (op2 ixD fa fb)) := PE_imp (pe_ix (ix_seq.or (ix_dict hu)) ha hb hs) (op2_ok ixD_ok)
end
end G
namespace G
open PySem PySem.Spec PyProof.Rows L2
/-! ### what is read off the real heap -/
section
variable {X : Cx} {pins : List (Addr × Obj)} {σ : St} {H : Hp} {s : Shared} {S : Addr → Prop}
theorem pairs_vals {P : Program} {w : World} : ∀ {es : List DictEntry} {vs : List (Key × Value)}, Pairs (mixKind P w) es vs → es.map (·.val) = vs.map (·.2)
  | _, _, .nil => rfl
  | _, _, .cons _ he t => by simp only [List.map_cons, he, pairs_vals t]
theorem kv_vals {κ : Type} : ∀ {kvs : List (κ × V)} {vs : List (κ × Value)}, KV kvs vs → Vals (kvs.map (·.2)) (vs.map (·.2)) ∧ kvs.map (·.1) = vs.map (·.1)
  | _, _, .nil => ⟨.nil, rfl⟩
  | _, _, .cons ⟨a, b⟩ t => by
    obtain ⟨h1, h2⟩ := kv_vals t
    exact ⟨.cons b h1, by simp only [List.map_cons, a, h2]⟩
theorem zip_fst {α β : Type} : ∀ {l : List α} {m : List β}, l.length = m.length → (l.zip m).map (·.1) = l
  | [], [], _ => rfl
  | a :: l, b :: m, h => by simp only [List.zip_cons_cons, List.map_cons, zip_fst (Nat.succ.inj h)]
theorem zip_snd {α β : Type} : ∀ {l : List α} {m : List β}, l.length = m.length → (l.zip m).map (·.2) = m
  | [], [], _ => rfl
  | a :: l, b :: m, h => by simp only [List.zip_cons_cons, List.map_cons, zip_snd (Nat.succ.inj h)]
/-- no object that is the module table -/
def NoSys (as : List Addr) : Prop := sysModules ∉ as
/-- what more is known around a body: no repr is running; the module table stands in the base -/
structure GX (X : Cx) : Prop where
  gd : X.A.guards = some []
  sys : ∃ o es ep, X.base.get? sysModules = some o ∧ o.data = .dict es ep
  un : X.A.units + 150 < cLine
theorem GX.ne_lst (G : GX X) (I : Inv X pins σ H s) {a : Addr} {xs : List V} (ha : LstX X.K H a xs) : a ≠ sysModules := by
  obtain ⟨o, es, ep, e, hc⟩ := G.sys
  rintro rfl
  obtain ⟨e2, hn⟩ := I.bs _ _ e
  rcases ha with h | ⟨o', h⟩ | ⟨its, n, h, _⟩
  · rw [hn] at h; cases h
  · rw [hn] at h; cases h
  · have := I.mod.kin _ _ h
    rw [e] at this; cases this
    cases hc
theorem Ct.reads_lst (G : GX X) (I : Inv X pins σ H s) {xs : List V} {ds : List PyData} (h : ∀ us, Vals xs us → ∃ as, ReadsAll s.heap us ds as ∧ NoSys as) {a : Addr} (ha : LstX X.K H a xs) : ∃ as, Reads s.heap (.ref a) (.list ds) as ∧ NoSys as := by
  obtain ⟨its, n, rv, e, z⟩ := ha.at_ I
  obtain ⟨as, hr, hn⟩ := h its rv
  refine ⟨_, Reads.list e rfl rfl (by simpa using hr), fun hm => ?_⟩
  rcases List.mem_cons.mp hm with hm | hm
  · exact G.ne_lst I ha hm.symm
  · exact hn hm
theorem nosys_nil : NoSys [] := fun h => nomatch h
theorem pairs_read {h : Heap} {P : Program} {w : World} : ∀ {es : List DictEntry} {vs : List (Key × Value)}, Pairs (mixKind P w) es vs → ∃ as, ReadsAll h (es.map (·.key)) (vs.map fun p => kD p.1) as ∧ NoSys as
  | _, _, .nil => ⟨_, .nil, nosys_nil⟩
  | _, _, .cons (e := e) (kv := kv) hk _ t => by
    obtain ⟨as, q, n⟩ := pairs_read (h := h) t
    rcases keyIs_shape hk with ⟨i, u, e1, e2⟩ | ⟨x, u, e1, e2⟩
    · exact ⟨[] ++ as, .cons (by show Reads h e.key (kD kv.1) []; rw [e1, e2]; exact Reads.int i u) q, n⟩
    · exact ⟨[] ++ as, .cons (by show Reads h e.key (kD kv.1) []; rw [e1, e2]; exact Reads.str x u) q, n⟩
theorem nosys_app {as bs : List Addr} (h : NoSys as) (h' : NoSys bs) : NoSys (as ++ bs) := fun z => (List.mem_append.mp z).elim h h'
theorem hokO (I : Inv X pins σ H s) {a : Addr} {o : HO} (h : HasO H a o) : ObjOk X.prog X.w H s.heap a o := by
  rcases h with h | ⟨_, od, h⟩
  · exact I.hok a _ h
  · exact (show ObjOk X.prog X.w H s.heap a (.frz od o) from I.hok a _ h).2
/-- the address in such a dict's description is its own -/
theorem tx_addr {P : Program} {w : World} {H : Hp} {h : Heap} {a b : Addr} {xs : List KX} (x : ObjOk P w H h a (TX b xs)) : b = a := by
  by_cases z : b = a
  · exact z
  · obtain ⟨p, ⟨o, ho⟩, m⟩ := x
    let nob : Obj := { cls := .none, data := .fields #[] }
    have ga : ∀ o', h.get? a = some o' → (⟨h.objs.setIfInBounds b nob, h.life⟩ : Heap).get? a = some o' := fun o' e => by
      unfold Heap.get? at e ⊢
      dsimp only
      rw [Array.getElem?_setIfInBounds_ne z]
      exact e
    have q := m h ⟨h.objs.setIfInBounds b nob, h.life⟩ p ga
    obtain ⟨_, _, _, o2, es2, ep2, e3, _, e4, _⟩ := q
    obtain ⟨_, _, _, o1, es, ep, e1, _⟩ := p
    have lt : b < h.objs.size := Heap.lt_size e1
    unfold Heap.get? at e3
    dsimp only at e3
    rw [Array.getElem?_setIfInBounds_self_of_lt lt] at e3
    cases (Option.some.inj e3)
    cases e4
theorem ints_read {h : Heap} : ∀ (ns : List Int) (us : List Value), Vals (ns.map V.int) us → ∃ as, ReadsAll h us (ns.map PyData.int) as ∧ NoSys as
  | [], _, r => by cases r; exact ⟨_, .nil, nosys_nil⟩
  | i :: ns, _, .cons r t => by
    obtain ⟨as, q, n⟩ := ints_read (h := h) ns _ t
    obtain ⟨u, rfl⟩ := r
    exact ⟨[] ++ as, .cons (Reads.int i u) q, n⟩
theorem kx_read (I : Inv X pins σ H s) : ∀ {xs : List KX}, (∀ x ∈ xs, SqT X.K H x.2.1 (x.1.map V.int)) → ∃ as, ReadsAll s.heap ((xs.map entX).map (·.key)) (xs.map fun x => PyData.tuple (x.1.map PyData.int)) as ∧ NoSys as
  | [], _ => ⟨_, .nil, nosys_nil⟩
  | x :: xs, h => by
    obtain ⟨as, r, n1⟩ := kx_read I fun y hy => h y (List.mem_cons_of_mem _ hy)
    obtain ⟨its, rv, ⟨o, ho, hc, n, hd⟩, _⟩ := I.tuple (h x (List.mem_cons_self ..))
    obtain ⟨bs, r2, n2⟩ := ints_read (h := s.heap) x.1 its rv
    exact ⟨_, .cons (Reads.tuple ho hc hd r2) r, nosys_app n2 n1⟩
theorem reads_all (G : GX X) (I : Inv X pins σ H s) {v : V} {d : PyData} (h : Dr X.K S H v d) : ∀ u, RelV v u → ∃ as, Reads s.heap u d as ∧ NoSys as :=
  Dr.rec (motive_1 := fun v d _ => ∀ u, RelV v u → ∃ as, Reads s.heap u d as ∧ NoSys as) (motive_2 := fun vs ds _ => vs.length = ds.length ∧ ∀ us, Vals vs us → ∃ as, ReadsAll s.heap us ds as ∧ NoSys as) (motive_3 := fun o d _ => ∀ a, HasO H a o → ∃ as, Reads s.heap (.ref a) d as ∧ NoSys as)
    (fun u r => by cases r; exact ⟨_, Reads.none, nosys_nil⟩)
    (fun b u r => by cases r; exact ⟨_, Reads.bool b, nosys_nil⟩)
    (fun i u r => by obtain ⟨t, rfl⟩ := r; exact ⟨_, Reads.int i t, nosys_nil⟩)
    (fun x u r => by obtain ⟨t, rfl⟩ := r; exact ⟨_, Reads.str x t, nosys_nil⟩)
    (fun ha hs _ ih u r => by cases r; exact ih _ ha)
    (fun hl _ ih u r => by cases r; exact Ct.reads_lst G I ih.2 (.inr hl))
    (fun ht _ ih u r => by
      cases r
      obtain ⟨its, rv, ⟨o, ho, hc, n, hd⟩, _⟩ := I.tuple ht
      obtain ⟨as, hr, hn⟩ := ih.2 its rv
      exact ⟨_, Reads.tuple ho hc hd hr, hn⟩)
    ⟨rfl, fun us r => by cases r; exact ⟨_, ReadsAll.nil, nosys_nil⟩⟩
    (fun _ _ ih1 ih2 => ⟨by simp only [List.length_cons, ih2.1], fun us r => by
      cases r with
      | cons r1 r2 =>
        obtain ⟨as, q1, n1⟩ := ih1 _ r1
        obtain ⟨bs, q2, n2⟩ := ih2.2 _ r2
        exact ⟨_, ReadsAll.cons q1 q2, nosys_app n1 n2⟩⟩)
    (fun _ ih a ha => Ct.reads_lst G I ih.2 (.inl ha.lst))
    (fun {kvs ds} _ ih a ha => by
      obtain ⟨_, hsys, vs, kv, o, es, ep, ho, hx, hdt, _, hp, _⟩ := hokO I ha
      obtain ⟨q1, q2⟩ := kv_vals kv
      obtain ⟨as, r1, n1⟩ := pairs_read (h := s.heap) hp
      obtain ⟨hl, ih⟩ := ih
      obtain ⟨bs, r2, n2⟩ := ih _ q1
      refine ⟨_, Reads.dict ho hx.1 hdt (as := as) (bs := bs) ?_ ?_, nosys_app (as := a :: as) (fun z => (List.mem_cons.mp z).elim (fun e => by rw [e, beq_self_eq_true] at hsys; cases hsys) n1) n2⟩
      · rw [zip_fst (by simpa using hl), show (fun p : Key × V => kD p.1) = kD ∘ (·.1) from rfl, ← List.map_map, q2, List.map_map]
        exact r1
      · rw [zip_snd (by simpa using hl), pairs_vals hp]
        exact r2)
    (fun {a xs vs ds} hk hv _ ih b hb => by
      have ok := hokO I hb
      obtain rfl := tx_addr ok
      obtain ⟨⟨hsys, _, _, o, es, ep, ho, hx, hdt, hes⟩, _⟩ := ok
      obtain ⟨as, r1, n1⟩ := kx_read I hk
      obtain ⟨hl, ih⟩ := ih
      obtain ⟨bs, r2, n2⟩ := ih _ hv
      have lx : xs.length = ds.length := by rw [← hl, hv.length, List.length_map]
      refine ⟨_, Reads.dict ho hx.1 hdt (as := as) (bs := bs) ?_ ?_, nosys_app (as := a :: as) (fun z => (List.mem_cons.mp z).elim (fun e => by rw [e, beq_self_eq_true] at hsys; cases hsys) n1) n2⟩
      · rw [zip_fst (by simpa using lx), hes]
        exact r1
      · rw [zip_snd (by simpa using lx), hes, List.map_map]
        exact r2) h
theorem Dw.reads (G : GX X) (I : Inv X pins σ H s) {v : V} {d : PyData} {u : Value} (h : Dw X.K S H v d) (r : RelV v u) : ∃ as, Reads s.heap u d as ∧ NoSys as := by
  rcases h with h | ⟨a, rfl, o, e, c⟩
  · exact reads_all G I h u r
  · exact reads_all (S := fun b => S b ∨ b = a) G I (Dr.obj (.inl e) (.inr rfl) (c.ex (Ex.add a))) u r
/-! ### repr -/
mutual
def szD : PyData → Nat
  | .none => 4
  | .bool _ => 5
  | .int _ => 1921
  | .str x => if x.cps.toList.all (fun c => decide (c < 4294967296)) = true then 10 * x.length + 2 else 4294967296
  | .list xs => szAll xs + 4
  | .tuple xs => szAll xs + 4
  | .dict kvs => szKv kvs + 4
def szAll : List PyData → Nat
  | [] => 0
  | x :: xs => szD x + 2 + szAll xs
def szKv : List (PyData × PyData) → Nat
  | [] => 0
  | (k, v) :: r => szD k + szD v + 4 + szKv r
end
def reprOk (d : PyData) : Bool := d.showable && (decide (szD d ≤ 16000000) && decide (d.depth ≤ 64))
def reprD : List PyData → Option Ev
  | [d] => if reprOk d = true then some (.val (.str d.shown)) else none
  | _ => none
end
/-! ### built-in calls -/
section
variable {X : Cx} {A0 : Ax} {W : WX} {x : Str} {p pos : Pos} {e : Expr} {es : List Expr} {fs : SA} {f : SE} {bid T : String} {r : List V → Hp → VK → Prop} {bd : List PyData → Option Ev}
theorem gcall (hc : CallR X (.builtin bid) r) (hd : CallD X.K r bd) (hm : X.mg x = none) (hv : bootBuiltins x = some (.builtin bid)) (ha : PA X (e :: es) (tA (gc X A0 W) fs)) (hg : Gl X x := by rfl) (hn : x ≠ "__name__" := by decide) (hdb : (x == ("__debug__" : Str)) = false := by decide)
    (he : starEach (e :: es) X.env = (false, eval e X.env) :: starEach es X.env := by rfl) (hpl : (backTo pos (starEach es X.env)).any (·.1) = false := by rfl) : PE X (.Call (.Name x p) (e :: es) [] pos) (tE (gc X A0 W) (opN bd fs)) :=
  PE_imp (pe_callB hc hg hm hv ha hn hdb he hpl) (opN_ok hd)
theorem dw1 {K : PySem.W.Frag} {S : Addr → Prop} {H : Hp} {xs : List V} {d : PyData} (h : DwAll K S H xs [d]) : ∃ v, xs = [v] ∧ Dw K S H v d := by
  cases h with
  | cons a b => cases b; exact ⟨_, rfl, a⟩
theorem dw2 {K : PySem.W.Frag} {S : Addr → Prop} {H : Hp} {xs : List V} {d e : PyData} (h : DwAll K S H xs [d, e]) : ∃ v u, xs = [v, u] ∧ Dw K S H v d ∧ Dw K S H u e := by
  cases h with
  | cons a b => cases b with
    | cons b c => cases c; exact ⟨_, _, rfl, a, b⟩
/-! len -/
def lenD : List PyData → Option Ev
  | [.list ds] => some (.val (.int ds.length))
  | [.tuple ds] => some (.val (.int ds.length))
  | [.str z] => if z.length ≤ sizeLine then some (.val (.int z.length)) else none
  | _ => none
theorem lenD_ok {K : PySem.W.Frag} : CallD K (fun xs H Q => ∃ x n, xs = [x] ∧ LenV K x H n ∧ Q (.int n) H) lenD := by
  intro S H xs ds ev Q h he out
  match ds, he with
  | [.list ds], he =>
    cases he
    obtain ⟨v, rfl, hv⟩ := dw1 h
    obtain ⟨a, ys, rfl, q, rr⟩ := hv.lst
    exact ⟨_, ds.length, rfl, .inl ⟨ys, q.sq, rr.length.symm⟩, outInt out⟩
  | [.tuple ds], he =>
    cases he
    obtain ⟨v, rfl, hv⟩ := dw1 h
    obtain ⟨a, ys, rfl, q, rr⟩ := hv.tup
    exact ⟨_, ds.length, rfl, .inr ⟨ys, q, rr.length.symm⟩, outInt out⟩
  | [.str z], he =>
    simp only [lenD] at he
    split at he
    · rename_i hz
      cases he
      obtain ⟨v, rfl, hv⟩ := dw1 h
      rw [hv.str]
      exact ⟨_, z.length, rfl, ⟨hz, rfl⟩, outInt out⟩
    · cases he
theorem g_len (hm : X.mg "len" = none) (ha : PA X (e :: es) (tA (gc X A0 W) fs)) (hg : Gl X "len" := by rfl)
    (he : starEach (e :: es) X.env = (false, eval e X.env) :: starEach es X.env := by rfl) (hpl : (backTo pos (starEach es X.env)).any (·.1) = false := by rfl) : PE X (.Call (.Name "len" p) (e :: es) [] pos) (tE (gc X A0 W) (opN lenD fs)) :=
  gcall call_len lenD_ok hm PySem.boot_len ha hg (by decide) (by decide) he hpl
/-! all, any over a list of bools -/
def boolsD : List PyData → Option (List Bool)
  | [] => some []
  | .bool b :: r => (boolsD r).map (b :: ·)
  | _ => none
theorem boolsD_ok {K : PySem.W.Frag} {S : Addr → Prop} {H : Hp} : ∀ {vs : List V} {ds : List PyData} {bs : List Bool}, DrAll K S H vs ds → boolsD ds = some bs → vs = bs.map V.bl
  | [], ds, bs, h, e => by cases h; cases e; rfl
  | v :: vs, ds, bs, h, e => by
    cases h with
    | cons h1 h2 =>
      rename_i d ds
      cases d with
      | bool b =>
        simp only [boolsD] at e
        cases e1 : boolsD ds with
        | none => rw [e1] at e; cases e
        | some bs' => rw [e1] at e; cases e; rw [h1.w.bl, boolsD_ok h2 e1]; rfl
      | _ => cases e
def allD : List PyData → Option Ev
  | [.list ds] => (boolsD ds).map fun bs => .val (.bool (bs.all id))
  | _ => none
def anyD : List PyData → Option Ev
  | [.list ds] => (boolsD ds).map fun bs => .val (.bool (bs.any id))
  | _ => none
theorem allD_ok {K : PySem.W.Frag} : CallD K (rAll K) allD := by
  intro S H xs ds ev Q h he out
  match ds, he with
  | [.list ds], he =>
    simp only [allD] at he
    cases e1 : boolsD ds with
    | none => rw [e1] at he; cases he
    | some bs =>
      rw [e1] at he; cases he
      obtain ⟨v, rfl, hv⟩ := dw1 h
      obtain ⟨a, ys, rfl, q, rr⟩ := hv.lst
      obtain rfl := boolsD_ok rr e1
      exact ⟨a, bs, rfl, q.sq, outBl out⟩
theorem g_all (hc : X.calm = true) (hm : X.mg "all" = none) (ha : PA X (e :: es) (tA (gc X A0 W) fs)) (hg : Gl X "all" := by rfl)
    (he : starEach (e :: es) X.env = (false, eval e X.env) :: starEach es X.env := by rfl) (hpl : (backTo pos (starEach es X.env)).any (·.1) = false := by rfl) : PE X (.Call (.Name "all" p) (e :: es) [] pos) (tE (gc X A0 W) (opN allD fs)) :=
  gcall (cr_all hc) allD_ok hm (by decide +kernel) ha hg (by decide) (by decide) he hpl
/-! abs, max, min of two ints -/
def absD : List PyData → Option Ev
  | [.int i] => some (.val (.int (if i < 0 then -i else i)))
  | _ => none
def max2D : List PyData → Option Ev
  | [.int i, .int j] => some (.val (.int (if j > i then j else i)))
  | _ => none
def min2D : List PyData → Option Ev
  | [.int i, .int j] => some (.val (.int (if j < i then j else i)))
  | _ => none
theorem max2D_ok {K : PySem.W.Frag} : CallD K (fun xs H Q => ∃ i j, xs = [.int i, .int j] ∧ Q (.int (if j > i then j else i)) H) max2D := by
  intro S H xs ds ev Q h he out
  match ds, he with
  | [.int i, .int j], he => cases he; obtain ⟨v, u, rfl, hv, hu⟩ := dw2 h; exact ⟨i, j, by rw [hv.int, hu.int], outInt out⟩
theorem min2D_ok {K : PySem.W.Frag} : CallD K (fun xs H Q => ∃ i j, xs = [.int i, .int j] ∧ Q (.int (if j < i then j else i)) H) min2D := by
  intro S H xs ds ev Q h he out
  match ds, he with
  | [.int i, .int j], he => cases he; obtain ⟨v, u, rfl, hv, hu⟩ := dw2 h; exact ⟨i, j, by rw [hv.int, hu.int], outInt out⟩
theorem g_max2 (hc : X.calm = true) (hm : X.mg "max" = none) (ha : PA X (e :: es) (tA (gc X A0 W) fs)) (hg : Gl X "max" := by rfl)
    (he : starEach (e :: es) X.env = (false, eval e X.env) :: starEach es X.env := by rfl) (hpl : (backTo pos (starEach es X.env)).any (·.1) = false := by rfl) : PE X (.Call (.Name "max" p) (e :: es) [] pos) (tE (gc X A0 W) (opN max2D fs)) :=
  gcall (call_max2 hc) max2D_ok hm (by decide +kernel) ha hg (by decide) (by decide) he hpl
theorem g_min2 (hc : X.calm = true) (hm : X.mg "min" = none) (ha : PA X (e :: es) (tA (gc X A0 W) fs)) (hg : Gl X "min" := by rfl)
    (he : starEach (e :: es) X.env = (false, eval e X.env) :: starEach es X.env := by rfl) (hpl : (backTo pos (starEach es X.env)).any (·.1) = false := by rfl) : PE X (.Call (.Name "min" p) (e :: es) [] pos) (tE (gc X A0 W) (opN min2D fs)) :=
  gcall (call_min2 hc) min2D_ok hm (by decide +kernel) ha hg (by decide) (by decide) he hpl
/-! tuple(x), list(x) -/
def tupleD : List PyData → Option Ev
  | [.list ds] => some (.val (.tuple ds))
  | [.tuple ds] => some (.val (.tuple ds))
  | _ => none
def listD : List PyData → Option Ev
  | [.list ds] => some (.fr (.list ds))
  | [.tuple ds] => some (.fr (.list ds))
  | [.dict kvs] => if keyed kvs = true then some (.fr (.list (kvs.map (·.1)))) else none
  | _ => none
/-! isinstance with a built-in class -/
def tyD : PyData → String
  | .none => "NoneType"
  | .bool _ => "bool"
  | .int _ => "int"
  | .str _ => "str"
  | .list _ => "list"
  | .tuple _ => "tuple"
  | .dict _ => "dict"
/-- the type of a datum's value -/
def TyY (K : PySem.W.Frag) (H : Hp) (x : V) (t : Value) : Prop := TyX K H x t ∨ ∃ a b xs, x = .ref a ∧ (H a = some (TX b xs) ∨ ∃ od, H a = some (.frz od (TX b xs))) ∧ t = .type "dict"
theorem tyY_of {X : Cx} {pins : List (Addr × Obj)} {σ : St} {H : Hp} {s : Shared} {x : V} {u t : Value} (I : Inv X pins σ H s) (rx : RelV x u) (ty : TyY X.K H x t) : ∃ P : Heap → Prop, PySem.W.KitX X.K u t P ∧ P s.heap ∧ u ≠ .builtin "__main__.__loader__#opaque" := by
  rcases ty with ty | ⟨a, b, xs, rfl, h, rfl⟩
  · exact kit_of I rx ty
  · cases (show u = Value.ref a from rx)
    have ok : ObjOk X.prog X.w H s.heap a (TX b xs) := by
      rcases h with h | ⟨od, h⟩
      · exact I.hok a _ h
      · exact (show ObjOk X.prog X.w H s.heap a (.frz od (TX b xs)) from I.hok a _ h).2
    obtain rfl := tx_addr ok
    obtain ⟨⟨_, _, _, o, es, ep, h1, h2, _⟩, _⟩ := ok
    exact ⟨_, PySem.W.kitx_dict, ⟨o, h1, h2.1⟩, fun z => nomatch z⟩
def rIsiY (K : PySem.W.Frag) : List V → Hp → VK → Prop := fun xs H Q => ∃ (x c : V) (t u : Value) (b : Bool), xs = [x, c] ∧ ClsV c u ∧ TyY K H x t ∧ PySem.W.kitOne K t u = some b ∧ Q (.bl b) H
theorem call_isiY {X : Cx} : CallR X (.builtin "isinstance") (rIsiY X.K) := by
  intro pins s σ H xs us Q I r h
  obtain ⟨x, c, t, u, b, rfl, k, ty, e, q⟩ := h
  obtain ⟨u1, u2, rfl, r1, r2⟩ := vals2 r
  have e2 := k.eq r2
  subst e2
  obtain ⟨P, Z, p, hx⟩ := tyY_of I r1 ty
  exact PySem.W.kia_one Z I.kIn p e hx fun tk => ⟨.bl b, H, I.tok tk, rfl, q⟩
theorem Dw.tyx {K : PySem.W.Frag} {S : Addr → Prop} {H : Hp} {v : V} {d : PyData} (h : Dw K S H v d) : TyY K H v (.type (tyD d)) := by
  cases d with
  | none => rw [h.non]; exact .inl (.base .non)
  | bool b => rw [h.bl]; exact .inl (.base (.bl b))
  | int i => rw [h.int]; exact .inl (.base (.int i))
  | str x => rw [h.str]; exact .inl (.base (.str x))
  | list ds =>
    obtain ⟨a, xs, rfl, q, _⟩ := h.lst
    rcases q with q | ⟨o, q⟩ | ⟨its, n, q, _⟩
    · exact .inl (.base (.lst q))
    · exact .inl (.base (.frz q))
    · exact .inl (.kList q rfl)
  | tuple ds =>
    obtain ⟨a, xs, rfl, q, _⟩ := h.tup
    rcases q with (q | ⟨o, q⟩) | ⟨o, its, n, q, c, _⟩
    · exact .inl (.base (.tup q))
    · exact .inl (.fTuple q)
    · exact .inl (.kTuple q c)
  | dict kvs =>
    have key : ∀ (o : HO) (a : Addr), HasO H a o → Ct K S H o (.dict kvs) → TyY K H (.ref a) (.type "dict") := fun o a e c => by
      generalize hd : PyData.dict kvs = D at c
      cases c with
      | lst _ => cases hd
      | dK _ =>
        rcases e with e | ⟨_, od, e⟩
        · exact .inl (.base (.dK e))
        · exact .inl (.fDict e)
      | dX _ _ _ =>
        rcases e with e | ⟨_, od, e⟩
        · exact .inr ⟨_, _, _, rfl, .inl e, rfl⟩
        · exact .inr ⟨_, _, _, rfl, .inr ⟨od, e⟩, rfl⟩
    rcases h with h | ⟨a, rfl, o, e, c⟩
    · cases h with
      | obj e _ c => exact key _ _ e c
    · exact key _ _ (.inl e) c
def isiS (T s : String) : Bool := s == T || (T == "int" && s == "bool")
def isiB (T : String) (d : PyData) : Bool := isiS T (tyD d)
def isiD (T : String) : PyData → Option Ev := fun d => some (.val (.bool (isiB T d)))
def KitOk (T : String) : Prop := ∀ d, kitB (tyD d) T = some (isiB T d)
theorem kit_mk {T : String} (h : (["NoneType", "bool", "int", "str", "list", "tuple", "dict"].all fun s => kitB s T == some (isiS T s)) = true) : KitOk T := fun d => by
  have := List.all_eq_true.mp h (tyD d) (by cases d <;> simp [tyD])
  exact eq_of_beq this
theorem kit_int : KitOk "int" := kit_mk (by decide +kernel)
theorem kit_bool : KitOk "bool" := kit_mk (by decide +kernel)
theorem kit_tuple : KitOk "tuple" := kit_mk (by decide +kernel)
theorem g_isi {T : String} {y : Str} {p2 : Pos} (k : KitOk T) (hm : X.mg "isinstance" = none) (hm2 : X.mg y = none) (hv2 : bootBuiltins y = some (.type T)) (ha : PE X e (tE (gc X A0 W) f)) (hg : Gl X "isinstance" := by rfl) (hg2 : Gl X y := by rfl)
    (hn2 : y ≠ "__name__" := by decide) (hdb2 : (y == ("__debug__" : Str)) = false := by decide)
    (he : starEach [e, .Name y p2] X.env = (false, eval e X.env) :: starEach [.Name y p2] X.env := by rfl) (he2 : starEach [.Name y p2] X.env = (false, eval (.Name y p2) X.env) :: starEach [] X.env := by rfl)
    (hpl : (backTo pos (starEach [.Name y p2] X.env)).any (·.1) = false := by rfl) :
    PE X (.Call (.Name "isinstance" p) [e, .Name y p2] [] pos) (tE (gc X A0 W) (op1 (isiD T) f)) := by
  refine PE_imp (pe_callB call_isiY hg hm (by decide +kernel) (pa_cons ha (pa_cons (pe_bltn (v := .ty T) hg2 hm2 hv2 rfl hn2 hdb2) pa_nil he2) he) (by decide) (by decide) he hpl) fun σ H Q h => ?_
  refine op1_ok (g := gc X A0 W) (r := fun x H Q => rIsiY X.K [x, .ty T] H Q) (b := isiD T) (fun S H x d ev Q hd he out => ?_) σ H Q h
  cases he
  exact ⟨x, .ty T, .type (tyD d), .type T, _, rfl, .ty T, hd.tyx, kit_ty (k d), outBl out⟩
end
end G
namespace G
open PySem PySem.Spec PyProof.Rows L2
/-- how a statement ends -/
inductive Fl where
  | nx (ρ : List B) | rt (e : Ev) (ρ : List B) | bk (ρ : List B) | ct (ρ : List B)
abbrev SS := List B → Rs Fl
def Fl.env : Fl → List B
  | .nx ρ => ρ
  | .rt _ ρ => ρ
  | .bk ρ => ρ
  | .ct ρ => ρ
def EndFl (g : Gc) (H0 : Hp) (D : Ends) (S : Addr → Prop) (H : Hp) (σ : St) : Fl → Prop
  | .nx _ => D.nx σ H
  | .bk _ => D.bk σ H
  | .ct _ => D.ct σ H
  | .rt e ρ => ∀ v, RE g.K g.A0 H0 S H σ ρ v e → D.rt v H
def PostS (g : Gc) (S : Addr → Prop) (H : Hp) (σ : St) (ρ : List B) (r : Rs Fl) (D : Ends) : Prop := match r with
  | .ok fl => ∀ S' H' σ', Tr S H (Ow σ ρ) S' H' (Ow σ' fl.env) → Rp g.K g.A0 S' H' σ' fl.env → EndFl g H D S' H' σ' fl
  | .ex n ρ' => ∀ S' H' σ', Tr S H (Ow σ ρ) S' H' (Ow σ' ρ') → Rp g.K g.A0 S' H' σ' ρ' → g.wx n σ' H'
  | .bad => False
def tSt (g : Gc) (f : SS) : TS := fun D σ H => ∃ S ρ, Rp g.K g.A0 S H σ ρ ∧ PostS g S H σ ρ (f ρ) D
section
variable {g : Gc} {S S' : Addr → Prop} {H H' : Hp} {σ σ' : St} {ρ ρ' : List B} {D : Ends}
theorem PostS.from {r : Rs Fl} (t : Tr S H (Ow σ ρ) S' H' (Ow σ' ρ')) (h : PostS g S H σ ρ r D) : PostS g S' H' σ' ρ' r D := by
  cases r with
  | ok fl =>
    intro S2 H2 σ2 t2 r2
    have q := h S2 H2 σ2 (t.trans t2) r2
    cases fl with
    | nx _ => exact q
    | bk _ => exact q
    | ct _ => exact q
    | rt e ρ2 => exact fun v re => q v (re.back fun a hz => t.fresh hz)
  | ex n ρ2 => exact fun S2 H2 σ2 t2 r2 => h S2 H2 σ2 (t.trans t2) r2
  | bad => exact h
theorem PostS.bad : ¬ PostS g S H σ ρ .bad D := fun h => h
theorem exS : ∀ n ρ', PostS g S H σ ρ (.ex n ρ') D → ∀ S' H', Tr S H (Ow σ ρ) S' H' (Ow σ ρ') → Rp g.K g.A0 S' H' σ ρ' → g.wx n σ H' := fun _ _ h S' H' t r => h S' H' σ t r
end
def nxS : SS := fun ρ => .ok (.nx ρ)
def seqS (f1 f2 : SS) : SS := fun ρ => (f1 ρ).bind fun r => match r with
  | .nx ρ' => f2 ρ'
  | r => .ok r
section
variable {X : Cx} {A0 : Ax} {W : WX} {st : Stmt} {rest : List Stmt} {f f1 f2 : SS} {e : Expr} {fe : SE} {pos : Pos}
theorem gs_nil : PSs X [] (tSt (gc X A0 W) nxS) := PSs_imp pss_nil fun D σ H ⟨S, ρ, r, h⟩ => h S H σ Tr.refl r
theorem seq_ok {g : Gc} : ∀ D σ H, tSt g (seqS f1 f2) D σ H → tSeq (tSt g f1) (tSt g f2) D σ H := by
  rintro D σ H ⟨S, ρ, r, h⟩
  refine ⟨S, ρ, r, ?_⟩
  unfold seqS at h
  cases e : f1 ρ with
  | bad => rw [e] at h; exact h
  | ex n ρ' => rw [e] at h; exact h
  | ok fl =>
    rw [e] at h
    cases fl with
    | nx ρ' => exact fun S' H' σ' t r' => ⟨S', ρ', r', PostS.from t h⟩
    | rt ev ρ' => exact h
    | bk ρ' => exact h
    | ct ρ' => exact h
theorem gs_cons (h1 : PS X st (tSt (gc X A0 W) f1)) (h2 : PSs X rest (tSt (gc X A0 W) f2)) : PSs X (st :: rest) (tSt (gc X A0 W) (seqS f1 f2)) := PSs_imp (pss_cons h1 h2) seq_ok
theorem gs_one (h1 : PS X st (tSt (gc X A0 W) f1)) : PSs X [st] (tSt (gc X A0 W) f1) := pss_one h1
def bkS : SS := fun ρ => .ok (.bk ρ)
def ctS : SS := fun ρ => .ok (.ct ρ)
def retS (fe : SE) : SS := fun ρ => (fe ρ).bind fun p => .ok (.rt p.1 p.2)
theorem gs_ret (he : PE X e (tE (gc X A0 W) fe)) : PS X (.Return (some e) pos) (tSt (gc X A0 W) (retS fe)) := PS_imp (ps_ret he) fun D σ H ⟨S, ρ, r, h⟩ =>
  tE_bind (P := fun z => PostS (gc X A0 W) S H σ ρ z D) exS PostS.bad r h fun p S1 H1 v1 t1 r1 e1 h => h S1 H1 σ t1 r1 v1 e1
def retNS : SS := fun ρ => .ok (.rt (.val .none) ρ)
def dropS (fe : SE) : SS := fun ρ => (fe ρ).bind fun p => .ok (.nx p.2)
theorem gs_expr (he : PE X e (tE (gc X A0 W) fe)) (hs : swapsWith e none pos.line X.env = pure false := by rfl) : PS X (.Expr e pos) (tSt (gc X A0 W) (dropS fe)) := PS_imp (ps_expr he hs) fun D σ H ⟨S, ρ, r, h⟩ =>
  tE_bind (P := fun z => PostS (gc X A0 W) S H σ ρ z D) exS PostS.bad r h fun p S1 H1 v1 t1 r1 e1 h => h S1 H1 σ t1 r1
def ifS (c : SB) (f1 f2 : SS) : SS := fun ρ => (c ρ).bind fun p => if p.1 = true then f1 p.2 else f2 p.2
theorem gs_if {c : Expr} {a b : List Stmt} {fc : SB} (hc : PT X c (tT (gc X A0 W) fc)) (ha : PSs X a (tSt (gc X A0 W) f1)) (hb : PSs X b (tSt (gc X A0 W) f2)) : PS X (.If c a b pos) (tSt (gc X A0 W) (ifS fc f1 f2)) := PS_imp (ps_if hc ha hb) fun D σ H ⟨S, ρ, r, h⟩ =>
  tT_bind (P := fun z => PostS (gc X A0 W) S H σ ρ z D) exS PostS.bad r h fun p S1 H1 t1 r1 h => by
    cases hp : p.1 with
    | true => rw [hp] at h; exact iteT ⟨S1, p.2, r1, PostS.from t1 h⟩
    | false => rw [hp] at h; exact iteF ⟨S1, p.2, r1, PostS.from t1 h⟩
end
/-! ### a slot is stored -/
section
variable {K : PySem.W.Frag} {A0 : Ax} {S S0 : Addr → Prop} {H H0 : Hp} {σ : St} {ρ : List B} {O0 : Addr → Prop} {i : Nat}
theorem Bd.other {σ : St} {j : Nat} {b : B} {x : Option V} (hj : i ≠ j) (h : Bd K A0 S H σ j b) : Bd K A0 S H (σ.set i x) j b := by
  cases b with
  | un => trivial
  | exc n => exact ⟨h.1, by rw [List.getElem?_set_ne hj]; exact h.2⟩
  | val d => obtain ⟨v, e, q⟩ := h; exact ⟨v, by rw [List.getElem?_set_ne hj]; exact e, q⟩
  | own d => obtain ⟨v, e, q⟩ := h; exact ⟨v, by rw [List.getElem?_set_ne hj]; exact e, q⟩
  | prm d => obtain ⟨v, e, q⟩ := h; exact ⟨v, by rw [List.getElem?_set_ne hj]; exact e, q⟩
  | ob c fs => obtain ⟨v, e, q⟩ := h; exact ⟨v, by rw [List.getElem?_set_ne hj]; exact e, q⟩
theorem OwI.other {x : Option V} {b : B} {j : Nat} {a : Addr} (hj : i ≠ j) (h : OwI (σ.set i x) (ρ.set i b) j a) : OwI σ ρ j a := by
  obtain ⟨h1, h2⟩ := h
  rw [List.getElem?_set_ne hj] at h1 h2
  exact ⟨h1, h2⟩
theorem Rp.setVal (r : Rp K A0 S H σ ρ) {v : V} {d : PyData} (hd : Dr K S H v d) : Rp K A0 S H (σ.set i (some v)) (ρ.set i (.val d)) ∧ ∀ a, Ow (σ.set i (some v)) (ρ.set i (.val d)) a → Ow σ ρ a := by
  have own : ∀ j a, OwI (σ.set i (some v)) (ρ.set i (.val d)) j a → OwI σ ρ j a := fun j a h => by
    by_cases hj : i = j
    · subst hj
      obtain ⟨h1, _⟩ := h
      by_cases hl : i < ρ.length
      · rw [List.getElem?_set_self hl] at h1; cases h1
      · rw [List.getElem?_eq_none (by rw [List.length_set]; omega)] at h1; cases h1
    · exact OwI.other hj h
  refine ⟨⟨by rw [List.length_set, List.length_set]; exact r.len, fun j b hb => ?_, fun j k a h1 h2 => r.dis j k a (own j a h1) (own k a h2), r.al, fun j d' a h1 h2 => ?_, r.aa, r.tb⟩, fun a ⟨j, h⟩ => ⟨j, own j a h⟩⟩
  by_cases hj : i = j
  · subst hj
    have hl : i < ρ.length := by
      have := (List.getElem?_eq_some_iff.mp hb).1
      simpa using this
    rw [List.getElem?_set_self hl] at hb; cases hb
    exact ⟨v, by rw [List.getElem?_set_self (by rw [r.len]; exact hl)], hd⟩
  · rw [List.getElem?_set_ne hj] at hb
    exact (r.bd j b hb).other hj
  · by_cases hj : i = j
    · subst hj
      by_cases hl : i < ρ.length
      · rw [List.getElem?_set_self hl] at h1; cases h1
      · rw [List.getElem?_eq_none (by rw [List.length_set]; omega)] at h1; cases h1
    · rw [List.getElem?_set_ne hj] at h1 h2
      exact r.np j d' a h1 h2
theorem Rp.setOwn (r : Rp K A0 S H σ ρ) {a : Addr} {d : PyData} (hs : ¬ S a) (ho : ¬ Ow σ ρ a) (hp : ∀ j, A0 j ≠ some a) (ha : OwnAt K S H a d) : Rp K A0 S H (σ.set i (some (.ref a))) (ρ.set i (.own d)) ∧ ∀ b, Ow (σ.set i (some (.ref a))) (ρ.set i (.own d)) b → Ow σ ρ b ∨ b = a := by
  have own : ∀ j b, OwI (σ.set i (some (.ref a))) (ρ.set i (.own d)) j b → (OwI σ ρ j b ∧ i ≠ j) ∨ (j = i ∧ b = a) := fun j b h => by
    by_cases hj : i = j
    · subst hj
      obtain ⟨h1, h2⟩ := h
      by_cases hl : i < ρ.length
      · rw [List.getElem?_set_self (by rw [r.len]; exact hl)] at h2; cases h2; exact .inr ⟨rfl, rfl⟩
      · rw [List.getElem?_eq_none (by rw [List.length_set]; omega)] at h1; cases h1
    · exact .inl ⟨OwI.other hj h, hj⟩
  refine ⟨⟨by rw [List.length_set, List.length_set]; exact r.len, fun j b hb => ?_, fun j k b h1 h2 => ?_, r.al, fun j d' b h1 h2 => ?_, r.aa, r.tb⟩, fun b ⟨j, h⟩ => ?_⟩
  · by_cases hj : i = j
    · subst hj
      have hl : i < ρ.length := by
        have := (List.getElem?_eq_some_iff.mp hb).1
        simpa using this
      rw [List.getElem?_set_self hl] at hb; cases hb
      exact ⟨a, by rw [List.getElem?_set_self (by rw [r.len]; exact hl)], hs, ha⟩
    · rw [List.getElem?_set_ne hj] at hb
      exact (r.bd j b hb).other hj
  · rcases own j b h1 with ⟨q1, _⟩ | ⟨q1, q2⟩
    · rcases own k b h2 with ⟨p1, _⟩ | ⟨p1, p2⟩
      · exact r.dis j k b q1 p1
      · exact (ho (p2 ▸ ⟨j, q1⟩)).elim
    · rcases own k b h2 with ⟨p1, _⟩ | ⟨p1, p2⟩
      · exact (ho (q2 ▸ ⟨k, p1⟩)).elim
      · rw [q1, p1]
  · by_cases hj : i = j
    · subst hj
      by_cases hl : i < ρ.length
      · rw [List.getElem?_set_self (by rw [r.len]; exact hl)] at h2; cases h2; exact hp
      · rw [List.getElem?_eq_none (by rw [List.length_set]; omega)] at h1; cases h1
    · rw [List.getElem?_set_ne hj] at h1 h2
      exact r.np j d' b h1 h2
  · rcases own j b h with ⟨q, _⟩ | ⟨_, q⟩
    · exact .inl ⟨j, q⟩
    · exact .inr q
end
def bindV (i : Nat) : Ev → List B → Rs (List B)
  | .val d, ρ => .ok (ρ.set i (.val d))
  | .fr d, ρ => .ok (ρ.set i (.own d))
  | .sl j, ρ => match shr ρ (.sl j) with
    | some (d, ρ') => .ok (ρ'.set i (.val d))
    | none => .bad
theorem bindV_ok {g : Gc} {S S0 : Addr → Prop} {H H0 : Hp} {σ σ0 : St} {ρ ρ0 ρ' : List B} {i : Nat} {e : Ev} {v : V} (t : Tr S0 H0 (Ow σ0 ρ0) S H (Ow σ ρ)) (r : Rp g.K g.A0 S H σ ρ) (h : RE g.K g.A0 H0 S H σ ρ v e)
    (hb : bindV i e ρ = .ok ρ') : ∃ S', Tr S0 H0 (Ow σ0 ρ0) S' H (Ow (σ.set i (some v)) ρ') ∧ Rp g.K g.A0 S' H (σ.set i (some v)) ρ' := by
  cases e with
  | val d =>
    cases hb
    obtain ⟨r', s⟩ := r.setVal (i := i) h
    exact ⟨S, ⟨t.s, t.keep, t.dom, fun a q => t.o a (s a q), t.g⟩, r'⟩
  | fr d =>
    cases hb
    obtain ⟨a, rfl, h0, hs, ho, ha⟩ := h
    obtain ⟨r', s⟩ := r.setOwn (i := i) hs ho h0.2 ha
    refine ⟨S, ⟨t.s, t.keep, t.dom, fun b q => ?_, t.g⟩, r'⟩
    rcases s b q with q | rfl
    · exact t.o b q
    · exact .inr h0.1
  | sl j =>
    unfold bindV at hb
    cases q : shr ρ (.sl j) with
    | none => simp only [q, reduceCtorEq] at hb
    | some p =>
      obtain ⟨d, ρ1⟩ := p
      simp only [q] at hb
      cases hb
      obtain ⟨S', t', r', hd, _⟩ := shr_ok t r (show RE1 g.K S H σ v (.sl j) from h) q
      obtain ⟨r2, s⟩ := r'.setVal (i := i) hd
      have t2 := t'
      exact ⟨S', ⟨t2.s, t2.keep, t2.dom, fun a z => t2.o a (s a z), t2.g⟩, r2⟩
def asgS (i : Nat) (fe : SE) : SS := fun ρ => (fe ρ).bind fun p => (bindV i p.1 p.2).bind fun ρ' => .ok (.nx ρ')
section
variable {X : Cx} {A0 : Ax} {W : WX} {e : Expr} {fe : SE} {pos pos' : Pos}
theorem gs_set (i : Nat) {x : Str} (hN : X.N.Nodup) (he : PE X e (tE (gc X A0 W) fe)) (hi : X.N[i]? = some x := by rfl) (hx : Loc X.env.scope x := by first | exact Or.inl rfl | exact Or.inr rfl) (hs : swapsWith e (some (.Name x pos')) pos.line X.env = pure false := by rfl) (hf : X.fn x = true ∨ X.env.scope.names.lookup x = some .local := by first | exact .inl rfl | exact .inr rfl | assumption) :
    PS X (.Assign [.Name x pos'] e pos) (tSt (gc X A0 W) (asgS i fe)) := PS_imp (ps_set hN hi hx he hs hf) fun D σ H ⟨S, ρ, r, h⟩ =>
  tE_bind (P := fun z => PostS (gc X A0 W) S H σ ρ z D) exS PostS.bad r h fun p S1 H1 v1 t1 r1 e1 h => by
    show D.nx _ _
    cases hb : bindV i p.1 p.2 with
    | bad => rw [hb] at h; exact h.elim
    | ex n ρ' =>
      exfalso
      revert hb
      unfold bindV
      split
      · nofun
      · nofun
      · split <;> nofun
    | ok ρ' =>
      rw [hb] at h
      obtain ⟨S2, t2, r2⟩ := bindV_ok t1 r1 e1 hb
      exact h S2 H1 _ t2 r2
end
/-! ### targets -/
abbrev SG := PyData → List B → Rs (List B)
def PostG (g : Gc) (tv : List Nat) (S : Addr → Prop) (H : Hp) (σ : St) (ρ : List B) (r : Rs (List B)) (Q : St → Hp → Prop) : Prop := match r with
  | .ok ρ' => ∀ S' H' σ', Tr S H (Ow σ ρ) S' H' (Ow σ' ρ') → Rp g.K g.A0 S' H' σ' ρ' → wipe σ' tv = wipe σ tv → Q σ' H'
  | _ => False
def tG (g : Gc) (tv : List Nat) (ft : SG) : TG := fun v σ H Q => ∃ S ρ d, Rp g.K g.A0 S H σ ρ ∧ Dr g.K S H v d ∧ PostG g tv S H σ ρ (ft d ρ) Q
def tGs (g : Gc) (tv : List Nat) (ft : List PyData → List B → Rs (List B)) : TGs := fun vs σ H Q => ∃ S ρ ds, Rp g.K g.A0 S H σ ρ ∧ DrAll g.K S H vs ds ∧ PostG g tv S H σ ρ (ft ds ρ) Q
theorem wipe_get {σ : St} {k : Nat} : ∀ {vs : List Nat}, (wipe σ vs)[k]? = if k ∈ vs then (σ[k]?).map fun _ => none else σ[k]?
  | [] => by simp [wipe]
  | v :: vs => by
    unfold wipe
    by_cases hk : v = k
    · subst hk
      rw [if_pos (List.mem_cons_self ..)]
      by_cases hl : v < σ.length
      · rw [List.getElem?_set_self (by rw [wipe_length]; exact hl), List.getElem?_eq_getElem hl]; rfl
      · rw [List.getElem?_eq_none (by rw [List.length_set, wipe_length]; omega), List.getElem?_eq_none (by omega)]; rfl
    · rw [List.getElem?_set_ne hk, wipe_get]
      by_cases hm : k ∈ vs
      · rw [if_pos hm, if_pos (List.mem_cons_of_mem _ hm)]
      · rw [if_neg hm, if_neg]
        intro z
        rcases List.mem_cons.mp z with z | z
        · exact hk z.symm
        · exact hm z
theorem wipe_set {σ : St} {i : Nat} {x : Option V} {vs : List Nat} (h : i ∈ vs) : wipe (σ.set i x) vs = wipe σ vs := by
  apply List.ext_getElem?
  intro k
  rw [wipe_get, wipe_get]
  by_cases hk : k ∈ vs
  · rw [if_pos hk, if_pos hk]
    by_cases hi : i = k
    · subst hi
      by_cases hl : i < σ.length
      · rw [List.getElem?_set_self hl, List.getElem?_eq_getElem hl]; rfl
      · rw [List.getElem?_eq_none (by rw [List.length_set]; omega), List.getElem?_eq_none (by omega)]
    · rw [List.getElem?_set_ne hi]
  · rw [if_neg hk, if_neg hk, List.getElem?_set_ne (fun z => hk (by rw [← z]; exact h))]
theorem PostG.from {g : Gc} {tv : List Nat} {S S' : Addr → Prop} {H H' : Hp} {σ σ' : St} {ρ ρ' : List B} {r : Rs (List B)} {Q : St → Hp → Prop} (t : Tr S H (Ow σ ρ) S' H' (Ow σ' ρ')) (hw : wipe σ' tv = wipe σ tv) (h : PostG g tv S H σ ρ r Q) : PostG g tv S' H' σ' ρ' r Q := by
  cases r with
  | ok p => exact fun S2 H2 σ2 t2 r2 w2 => h S2 H2 σ2 (t.trans t2) r2 (w2.trans hw)
  | ex n ρ2 => exact h
  | bad => exact h
def nmG (i : Nat) : SG := fun d ρ => .ok (ρ.set i (.val d))
def nilG : List PyData → List B → Rs (List B) := fun ds ρ => match ds with
  | [] => .ok ρ
  | _ => .bad
def consG (t : SG) (u : List PyData → List B → Rs (List B)) : List PyData → List B → Rs (List B) := fun ds ρ => match ds with
  | d :: r => (t d ρ).bind (u r)
  | [] => .bad
def tupG (n : Nat) (u : List PyData → List B → Rs (List B)) : SG := fun d ρ => match d with
  | .tuple ds => if ds.length = n then u ds ρ else .bad
  | .list ds => if ds.length = n then u ds ρ else .bad
  | _ => .bad
section
variable {X : Cx} {A0 : Ax} {W : WX} {pos : Pos} {tv : List Nat}
theorem gg_name (i : Nat) {x : Str} (hN : X.N.Nodup) (hi : X.N[i]? = some x := by rfl) (hx : Loc X.env.scope x := by first | exact Or.inl rfl | exact Or.inr rfl) (hf : X.fn x = true ∨ X.env.scope.names.lookup x = some .local := by first | exact .inl rfl | exact .inr rfl | assumption) (hm : i ∈ tv := by decide) : PG X (.Name x pos) (tG (gc X A0 W) tv (nmG i)) := by
  refine ⟨fun pins s σ H v u Q I r h => (pg_name hN hi hx hf).run pins s σ H v u Q I r ?_⟩
  obtain ⟨S, ρ, d, rp, hd, h⟩ := h
  obtain ⟨r', s⟩ := rp.setVal (i := i) hd
  exact h S H _ ⟨fun _ q => q, fun _ _ q _ => .inl q, fun _ o q => ⟨o, q⟩, fun a q => .inl (s a q), fun _ q => .inl q⟩ r' (wipe_set hm)
theorem ggs_nil : PGs X [] (tGs (gc X A0 W) tv nilG) := by
  refine ⟨fun pins s σ H vs us Q I r h => pgs_nil.run pins s σ H vs us Q I r ?_⟩
  obtain ⟨S, ρ, ds, rp, hd, h⟩ := h
  cases ds with
  | nil => cases hd; exact ⟨rfl, h S H σ Tr.refl rp rfl⟩
  | cons _ _ => exact h.elim
theorem ggs_cons {e : Expr} {es : List Expr} {t : SG} {u : List PyData → List B → Rs (List B)} (h1 : PG X e (tG (gc X A0 W) tv t)) (h2 : PGs X es (tGs (gc X A0 W) tv u))
    (hs : (assignEach (e :: es) X.env).map (·.2) = assign e X.env :: (assignEach es X.env).map (·.2) := by rfl) : PGs X (e :: es) (tGs (gc X A0 W) tv (consG t u)) := by
  refine ⟨fun pins s σ H vs us Q I r h => (pgs_cons h1 h2 hs).run pins s σ H vs us Q I r ?_⟩
  obtain ⟨S, ρ, ds, rp, hd, h⟩ := h
  cases ds with
  | nil => exact h.elim
  | cons d ds =>
    cases hd with
    | cons hd1 hd2 =>
      refine ⟨_, _, rfl, S, ρ, d, rp, hd1, ?_⟩
      simp only [consG] at h
      cases e : t d ρ with
      | ok ρ' =>
        rw [e] at h
        exact fun S' H' σ' t' r' w' => ⟨S', ρ', ds, r', hd2.ex (rp.ex t'), PostG.from t' w' h⟩
      | ex n ρ' => rw [e] at h; exact h.elim
      | bad => rw [e] at h; exact h.elim
theorem gg_tup {es : List Expr} {k : Nat} {u : List PyData → List B → Rs (List B)} {n : Nat} (hc : X.calm = true) (h : PGs X es (tGs (gc X A0 W) tv u))
    (hn : (assignEach es X.env).length = n := by rfl) (hst : (assignEach es X.env).findIdx? (·.1) = none := by rfl) : PG X (.Tuple es k pos) (tG (gc X A0 W) tv (tupG n u)) := by
  refine ⟨fun pins s σ H v w Q I r q => ?_⟩
  obtain ⟨S, ρ, d, rp, hd, q⟩ := q
  cases d with
  | tuple ds =>
    simp only [tupG] at q
    split at q
    · rename_i hl
      obtain ⟨a, xs, rfl, hq, hx⟩ := hd.tupE
      exact (pg_tup hc h hn hst).run pins s σ H _ w Q I r ⟨a, xs, rfl, hq, by rw [hx.length]; exact hl, S, ρ, ds, rp, hx, q⟩
    · exact q.elim
  | list ds =>
    simp only [tupG] at q
    split at q
    · rename_i hl
      obtain ⟨a, xs, rfl, hq, hx⟩ := hd.w.lst
      exact (pg_unl hc h hn hst).run pins s σ H _ w Q I r ⟨a, xs, rfl, hq.sq, by rw [hx.length]; exact hl, S, ρ, ds, rp, hx, q⟩
    · exact q.elim
  | _ => exact q.elim
/-- target = value, the value a datum -/
def asgG (t : SG) (fe : SE) : SS := fun ρ => (fe ρ).bind fun p => match shr p.2 (settle p.1) with
  | some (d, ρ1) => (match t d ρ1 with
    | .ok ρ' => .ok (.nx ρ')
    | _ => .bad)
  | none => .bad
theorem gs_asg {tg e : Expr} {fe : SE} {t : SG} (he : PE X e (tE (gc X A0 W) fe)) (hg : PG X tg (tG (gc X A0 W) tv t)) (hs : swapsWithSole [tg] e pos.line X.env = pure false := by rfl) (hw : swappedStores [tg] e X.env = pure none := by rfl)
    (h1 : (assignEach [tg] X.env).map (·.2) = [assign tg X.env] := by rfl) : PS X (.Assign [tg] e pos) (tSt (gc X A0 W) (asgG t fe)) := PS_imp (ps_asg he hg hs hw h1) fun D σ H ⟨S, ρ, r, h⟩ =>
  tE_bind (P := fun z => PostS (gc X A0 W) S H σ ρ z D) exS PostS.bad r h fun p S1 H1 v1 t1 r1 e1 h => by
    obtain ⟨S1', t1', r1', e1', _⟩ := settle_ok t1 r1 e1
    cases q : shr p.2 (settle p.1) with
    | none => rw [q] at h; exact h.elim
    | some pr =>
      obtain ⟨d, ρ1⟩ := pr
      rw [q] at h
      obtain ⟨S2, t2, r2, hd, _⟩ := shr_ok t1' r1' e1' q
      simp only at h
      refine ⟨S2, ρ1, d, r2, hd, ?_⟩
      cases e : t d ρ1 with
      | ok ρ' => rw [e] at h; exact fun S' H' σ' t' r' _ => h S' H' σ' (t2.trans t') r'
      | ex n ρ' => rw [e] at h; exact h.elim
      | bad => rw [e] at h; exact h.elim
end
end G
namespace G
open PySem PySem.Spec PyProof.Rows L2
/-! ### while -/
/-! ### what is walked -/
theorem Ex.trans {S S1 S2 : Addr → Prop} {H H1 H2 : Hp} (a : Ex S H S1 H1) (b : Ex S1 H1 S2 H2) : Ex S H S2 H2 :=
  ⟨fun c h => b.s c (a.s c h), fun c o h n e => b.sh c o (a.s c h) n (a.sh c o h n e), fun c xs h => b.tup c xs (a.tup c xs h), fun c o u h => b.frz c o u (a.frz c o u h), fun c fs h => b.xd c fs (a.xd c fs h)⟩
structure ItOk (K : PySem.W.Frag) (J : It) (S0 : Addr → Prop) (H0 : Hp) (ds : List PyData) : Prop where
  at_ : ∀ S H i d, Ex S0 H0 S H → ds[i]? = some d → J.go i H ∧ ∀ x H', J.yld i H x H' → L2.Same H H' ∧ Dr K S H' x d
  end_ : ∀ S H, Ex S0 H0 S H → J.stop ds.length H
theorem ItOk.mono {K : PySem.W.Frag} {J : It} {S S' : Addr → Prop} {H H' : Hp} {ds : List PyData} (x : Ex S H S' H') (h : ItOk K J S H ds) : ItOk K J S' H' ds :=
  ⟨fun S2 H2 i d q => h.at_ S2 H2 i d (x.trans q), fun S2 H2 q => h.end_ S2 H2 (x.trans q)⟩
abbrev SI := List B → Rs (List PyData × List B)
def PostI (g : Gc) (S : Addr → Prop) (H : Hp) (σ : St) (ρ : List B) (r : Rs (List PyData × List B)) (R : It → Hp → Prop) : Prop := match r with
  | .ok p => ∀ S' H' J, Tr S H (Ow σ ρ) S' H' (Ow σ p.2) → Rp g.K g.A0 S' H' σ p.2 → ItOk g.K J S' H' p.1 → R J H'
  | .ex n ρ' => ∀ S' H', Tr S H (Ow σ ρ) S' H' (Ow σ ρ') → Rp g.K g.A0 S' H' σ ρ' → g.wx n σ H'
  | .bad => False
def tI (g : Gc) (f : SI) : TI := fun σ H R => ∃ S ρ, Rp g.K g.A0 S H σ ρ ∧ PostI g S H σ ρ (f ρ) R
theorem tI_bind {g : Gc} {S : Addr → Prop} {H : Hp} {σ : St} {ρ : List B} {f : SI} {R : It → Hp → Prop} {α : Type} {k : List PyData × List B → Rs α} {P : Rs α → Prop} (hex : ∀ n ρ', P (.ex n ρ') → ∀ S' H', Tr S H (Ow σ ρ) S' H' (Ow σ ρ') → Rp g.K g.A0 S' H' σ ρ' → g.wx n σ H') (hbad : ¬ P .bad)
    (r : Rp g.K g.A0 S H σ ρ) (h : P ((f ρ).bind k)) (hk : ∀ p S' H' J, Tr S H (Ow σ ρ) S' H' (Ow σ p.2) → Rp g.K g.A0 S' H' σ p.2 → ItOk g.K J S' H' p.1 → P (k p) → R J H') : tI g f σ H R := by
  refine ⟨S, ρ, r, ?_⟩
  cases e : f ρ with
  | ok p => rw [e] at h; exact fun S' H' v t r' q => hk p S' H' v t r' q h
  | ex n ρ' => rw [e] at h; exact hex n ρ' h
  | bad => rw [e] at h; exact (hbad h).elim
theorem exI {g : Gc} {S : Addr → Prop} {H : Hp} {σ : St} {ρ : List B} {R : It → Hp → Prop} : ∀ n ρ', PostI g S H σ ρ (.ex n ρ') R → ∀ S' H', Tr S H (Ow σ ρ) S' H' (Ow σ ρ') → Rp g.K g.A0 S' H' σ ρ' → g.wx n σ H' := fun _ _ h => h
theorem PostI.bad {g : Gc} {S : Addr → Prop} {H : Hp} {σ : St} {ρ : List B} {R : It → Hp → Prop} : ¬ PostI g S H σ ρ .bad R := fun h => h
/-- a list or tuple walked -/
def seqI (k : PyData → Option (List PyData)) (fe : SE) : SI := fun ρ => (fe ρ).bind fun p => match shr p.2 (settle p.1) with
  | some (d, ρ1) => (match k d with
    | some ds => .ok (ds, ρ1)
    | none => .bad)
  | none => .bad
theorem seqI_bind {g : Gc} {k : PyData → Option (List PyData)} {fe : SE} {σ : St} {H : Hp} {R : It → Hp → Prop} (h : tI g (seqI k fe) σ H R) {R' : VK}
    (hk : ∀ S' H' v d ds, Dr g.K S' H' v d → k d = some ds → (∀ J, ItOk g.K J S' H' ds → R J H') → R' v H') : tE g fe σ H R' := by
  obtain ⟨S, ρ, r, h⟩ := h
  refine tE_bind (P := fun z => PostI g S H σ ρ z R) exI PostI.bad r h fun p S1 H1 v1 t1 r1 e1 h => ?_
  obtain ⟨S1', t1', r1', e1', _⟩ := settle_ok t1 r1 e1
  cases q : shr p.2 (settle p.1) with
  | none => rw [q] at h; exact h.elim
  | some pr =>
    obtain ⟨d, ρ1⟩ := pr
    rw [q] at h
    obtain ⟨S2, t2, r2, hd, _⟩ := shr_ok t1' r1' e1' q
    simp only at h
    cases e : k d with
    | none => rw [e] at h; exact h.elim
    | some ds =>
      rw [e] at h
      exact hk S2 H1 v1 d ds hd e fun J ok => h S2 H1 J t2 r2 ok
def lstK : PyData → Option (List PyData)
  | .list ds => some ds
  | _ => none
def tupK : PyData → Option (List PyData)
  | .tuple ds => some ds
  | _ => none
theorem itl_ok {K : PySem.W.Frag} {S : Addr → Prop} {H : Hp} {v : V} {ds : List PyData} (h : Dr K S H v (.list ds)) : ∃ a, v = .ref a ∧ (∃ xs, SqL K H a xs) ∧ ItOk K (Itl K a) S H ds := by
  obtain ⟨a, xs0, rfl, q0, _⟩ := h.w.lst
  have key : ∀ S2 H2, Ex S H S2 H2 → ∃ xs, SqL K H2 a xs ∧ DrAll K S2 H2 xs ds := fun S2 H2 x => by
    obtain ⟨a', xs, e, q1, q2⟩ := (h.ex x).w.lst
    cases e
    exact ⟨xs, q1.sq, q2⟩
  refine ⟨a, rfl, ⟨xs0, q0.sq⟩, fun S2 H2 i d x e => ?_, fun S2 H2 x => ?_⟩
  · obtain ⟨xs, q1, q2⟩ := key S2 H2 x
    obtain ⟨u, e1, e2⟩ := q2.get e
    refine ⟨⟨xs, u, q1, e1⟩, fun y H' hy => ?_⟩
    obtain ⟨rfl, hy⟩ := hy
    have := hy xs q1
    rw [e1] at this; cases this
    exact ⟨fun _ _ e => e, e2⟩
  · obtain ⟨xs, q1, q2⟩ := key S2 H2 x
    exact ⟨xs, q1, by rw [q2.length]; exact Nat.le_refl _⟩
theorem itt_ok {K : PySem.W.Frag} {S : Addr → Prop} {H : Hp} {v : V} {ds : List PyData} (h : Dr K S H v (.tuple ds)) : ∃ a, v = .ref a ∧ (∃ xs, SqT K H a xs) ∧ ItOk K (Itt K a) S H ds := by
  obtain ⟨a, xs0, rfl, q0, _⟩ := h.w.tup
  have key : ∀ S2 H2, Ex S H S2 H2 → ∃ xs, SqT K H2 a xs ∧ DrAll K S2 H2 xs ds := fun S2 H2 x => by
    obtain ⟨a', xs, e, q1, q2⟩ := (h.ex x).w.tup
    cases e
    exact ⟨xs, q1, q2⟩
  refine ⟨a, rfl, ⟨xs0, q0⟩, fun S2 H2 i d x e => ?_, fun S2 H2 x => ?_⟩
  · obtain ⟨xs, q1, q2⟩ := key S2 H2 x
    obtain ⟨u, e1, e2⟩ := q2.get e
    refine ⟨⟨xs, u, q1, e1⟩, fun y H' hy => ?_⟩
    obtain ⟨rfl, hy⟩ := hy
    have := hy xs q1
    rw [e1] at this; cases this
    exact ⟨fun _ _ e => e, e2⟩
  · obtain ⟨xs, q1, q2⟩ := key S2 H2 x
    exact ⟨xs, q1, by rw [q2.length]; exact Nat.le_refl _⟩
theorem itr_ok {K : PySem.W.Frag} {S : Addr → Prop} {H : Hp} {lo : Int} {n : Nat} : ItOk K (Itr lo n) S H ((List.range n).map fun i : Nat => PyData.int (lo + i)) := by
  refine ⟨fun S2 H2 i d x e => ?_, fun S2 H2 x => by rw [List.length_map, List.length_range]; exact Nat.le_refl _⟩
  rw [List.getElem?_map] at e
  by_cases hi : i < n
  · rw [List.getElem?_range hi] at e
    cases e
    refine ⟨hi, fun y H' hy => ?_⟩
    obtain ⟨rfl, rfl⟩ := hy
    exact ⟨fun _ _ e => e, .int _⟩
  · rw [List.getElem?_eq_none (by rw [List.length_range]; omega)] at e; cases e
section
variable {X : Cx} {A0 : Ax} {W : WX} {tg l : Expr} {fe : SE} {pos p : Pos}
theorem PI_imp {iter : Expr} {t t' : TI} (h : PI X tg iter t) (i : ∀ σ H R, t' σ H R → t σ H R) : PI X tg iter t' := ⟨fun pins s σ H R I q => h.run pins s σ H R I (i σ H R q)⟩
def rngOk (i : Int) : Bool := decide (-4611686018427387904 ≤ i) && decide (i < 4611686018427387904)
theorem rngOk_ok {i : Int} (h : rngOk i = true) : -(2 ^ 62) ≤ i ∧ i < 2 ^ 62 := by
  simp only [rngOk, Bool.and_eq_true, decide_eq_true_eq] at h
  have : (2 : Int) ^ 62 = 4611686018427387904 := by decide
  omega
def rng1I (fa : SA) : SI := fun ρ => (fa ρ).bind fun p => match peeks p.2 p.1 with
  | some [.int j] => if rngOk j = true then .ok ((List.range j.toNat).map fun i : Nat => PyData.int (0 + i), p.2) else .bad
  | _ => .bad
def rng2I (fa : SA) : SI := fun ρ => (fa ρ).bind fun p => match peeks p.2 p.1 with
  | some [.int i, .int j] => if (rngOk i && rngOk j) = true then .ok ((List.range (j - i).toNat).map fun k : Nat => PyData.int (i + k), p.2) else .bad
  | _ => .bad
variable {a b : Expr} {fa : SA}
theorem gi_range1 (hm : X.mg "range" = none) (ha : PA X [a] (tA (gc X A0 W) fa)) (hg : Gl X "range" := by rfl) (hs : starEach [a] X.env = [(false, eval a X.env)] := by rfl) : PI X tg (.Call (.Name "range" p) [a] [] pos) (tI (gc X A0 W) (rng1I fa)) := PI_imp (pi_range1 hg hm ha hs) fun σ H R ⟨S, ρ, r, h⟩ =>
  tA_bind (P := fun z => PostI (gc X A0 W) S H σ ρ z R) exI PostI.bad r h fun p S1 H1 vs t1 r1 e1 h => by
    cases q : peeks p.2 p.1 with
    | none => rw [q] at h; exact h.elim
    | some ds =>
      rw [q] at h
      match ds, h, peeks_ok r1 e1 q with
      | [.int j], h, dw =>
        simp only at h
        split at h
        · rename_i hj
          obtain ⟨v, rfl, hv⟩ := dw1 dw
          have := rngOk_ok hj
          exact ⟨j, by rw [hv.int], this.1, this.2, h S1 H1 _ t1 r1 itr_ok⟩
        · exact h.elim
end
/-! ### for -/
def forL (t : SG) (b : SS) : List PyData → List B → Rs Fl
  | [], ρ => .ok (.nx ρ)
  | d :: ds, ρ => match t d ρ with
    | .ok ρ1 => (b ρ1).bind fun r => (match r with
      | .nx ρ2 => forL t b ds ρ2
      | .ct ρ2 => forL t b ds ρ2
      | .bk ρ2 => .ok (.nx ρ2)
      | .rt e ρ2 => .ok (.rt e ρ2))
    | _ => .bad
def forS (it : SI) (t : SG) (b : SS) : SS := fun ρ => (it ρ).bind fun p => forL t b p.1 p.2
theorem drop_cons {α : Type} {l : List α} {i : Nat} {d : α} (h : l[i]? = some d) : l.drop i = d :: l.drop (i + 1) := by
  obtain ⟨hi, e⟩ := List.getElem?_eq_some_iff.mp h
  rw [List.drop_eq_getElem_cons hi, e]
section
variable {X : Cx} {A0 : Ax} {W : WX} {tg iter : Expr} {pos : Pos} {tv : List Nat}
theorem gs_for {body : List Stmt} {fi : SI} {ft : SG} {fb : SS} (hp : PassesOwn (model X.prog X.w) X.A X.env X.xe) (hc : X.calm = true) (hi : PI X tg iter (tI (gc X A0 W) fi)) (hg : PG X tg (tG (gc X A0 W) tv ft)) (hb : PSs X body (tSt (gc X A0 W) fb))
    (hs : ∀ x, foldedSetIterable iter X.env x = pure x := by intro _; rfl) : PS X (.For tg iter body [] pos) (tSt (gc X A0 W) (forS fi ft fb)) := by
  refine PS_imp (ps_for hp hc hi hg hb hs) ?_
  rintro D σ H ⟨S, ρ, r, h⟩
  refine tI_bind (P := fun z => PostS (gc X A0 W) S H σ ρ z D) exS PostS.bad r h fun p S1 H1 J t1 r1 ok h1 => ?_
  obtain ⟨ds, ρ1⟩ := p
  refine ⟨fun i m σ H => i + m = ds.length ∧ ∃ S ρ, Rp X.K A0 S H σ ρ ∧ ItOk X.K J S H ds ∧ PostS (gc X A0 W) S H σ ρ (forL ft fb (ds.drop i) ρ) D, ⟨ds.length, by omega, S1, ρ1, r1, ok, PostS.from t1 h1⟩, ?_⟩
  rintro i m σ H ⟨hm, S, ρ, r, ok, h⟩
  cases m with
  | zero =>
    have hi : i = ds.length := by omega
    subst hi
    rw [List.drop_length] at h
    exact .inl ⟨ok.end_ S H (Ex.same fun _ _ e => e), h S H σ Tr.refl r⟩
  | succ n =>
    have hl : i < ds.length := by omega
    have e : ds[i]? = some ds[i] := List.getElem?_eq_getElem hl
    obtain ⟨hgo, hy⟩ := ok.at_ S H i _ (Ex.same fun _ _ e => e) e
    rw [drop_cons e] at h
    refine .inr ⟨hgo, fun σ' H' => ∃ S ρ, Rp X.K A0 S H' σ' ρ ∧ ItOk X.K J S H' ds ∧ PostS (gc X A0 W) S H' σ' ρ (forL ft fb (ds.drop (i + 1)) ρ) D, fun σ' H' q => ⟨n, Nat.lt_succ_self n, by omega, q⟩, fun x H' y => ?_⟩
    obtain ⟨sm, dx⟩ := hy x H' y
    have tg0 : Tr S H (Ow σ ρ) S H' (Ow σ ρ) := Tr.grow sm
    refine ⟨S, ρ, ds[i], r.same sm, dx, ?_⟩
    simp only [forL] at h
    cases e1 : ft ds[i] ρ with
    | bad => rw [e1] at h; exact h.elim
    | ex k ρ' => rw [e1] at h; exact h.elim
    | ok ρ2 =>
      rw [e1] at h
      simp only at h
      intro S2 H2 σ2 t2 r2 _
      have t02 := tg0.trans t2
      have x02 : Ex S H S2 H2 := r.ex t02
      refine ⟨S2, ρ2, r2, ?_⟩
      cases e2 : fb ρ2 with
      | bad => rw [e2] at h; exact h.elim
      | ex k ρ' => rw [e2] at h; exact PostS.from t02 h
      | ok fl =>
        rw [e2] at h
        cases fl with
        | nx ρ' => exact fun S' H' σ' t' r' => ⟨S', ρ', r', ok.mono (x02.trans (r2.ex t')), PostS.from (t02.trans t') h⟩
        | ct ρ' => exact fun S' H' σ' t' r' => ⟨S', ρ', r', ok.mono (x02.trans (r2.ex t')), PostS.from (t02.trans t') h⟩
        | bk ρ' => exact fun S' H' σ' t' r' => h S' H' σ' (t02.trans t') r'
        | rt ev ρ' => exact fun S' H' σ' t' r' v re => h S' H' σ' (t02.trans t') r' v (re.back fun a hz => t02.fresh hz)
end
end G
namespace G
open PySem PySem.Spec PyProof.Rows L2
/-! ### what a def promises: F of its parameters' bindings -/
def A0f (vs : List V) (bs : List B) (i : Nat) : Option Addr := match bs[i]?, vs[i]? with
  | some (.prm _), some (.ref a) => some a
  | some (.ob _ _), some (.ref a) => some a
  | _, _ => none
abbrev A0p (Γ : Gx) (vs : List V) (bs : List B) : Ax := ⟨A0f vs bs, Γ⟩
theorem A0p_ok {vs : List V} {bs : List B} {i : Nat} {a : Addr} (h : A0f vs bs i = some a) : ((∃ d, bs[i]? = some (.prm d)) ∨ ∃ c fs, bs[i]? = some (.ob c fs)) ∧ vs[i]? = some (.ref a) := by
  unfold A0f at h
  split at h
  · rename_i d a' e1 e2; cases h; exact ⟨.inl ⟨_, e1⟩, e2⟩
  · rename_i c fs a' e1 e2; cases h; exact ⟨.inr ⟨_, _, e1⟩, e2⟩
  · cases h
abbrev pst (vs : List V) : St := vs.map some
def PostF (Γ : Gx) (K : PySem.W.Frag) (mg : Str → Option Value) (S : Addr → Prop) (H : Hp) (vs : List V) (bs : List B) (r : Rs (Ev × List B)) (Q : VK) (E : XK) : Prop := match r with
  | .ok p => ∀ S' H' v, Tr S H (Ow (pst vs) bs) S' H' (Ow (pst vs) p.2) → Rp K (A0p Γ vs bs) S' H' (pst vs) p.2 → RE K (A0p Γ vs bs) H S' H' (pst vs) p.2 v p.1 → Q v H'
  | .ex n _ => ∀ S' H', Tr S H (Ow (pst vs) bs) S' H' (fun _ => False) → (∀ a, S' a → ∃ o, H' a = some o) → LamX.Tabs Γ.T H' → ∀ C pd, mg n.cls = some (.ref C) → XdAt H' pd n.pl → E (.ref C) pd H'
  | .bad => False
/-- the base has the module table -/
def SysOk (base : Heap) : Prop := ∃ o es ep, base.get? sysModules = some o ∧ o.data = .dict es ep
structure FnG (P : Program) (w : World) (K : PySem.W.Frag) (mg : Str → Option Value) (base : Heap) (Γ : Gx) (k : Nat) (f : Addr) (fd : FuncData) (ps : List Str) (F : SE) : Prop where
  run : ∀ (A : Around) (outer : List Env) (s : Shared) (H : Hp) (args : Args) (us : List Value) (vs : List V) (Q : VK) (E : XK) (S : Addr → Prop) (bs : List B), Room k A → A.guards = some [] → Env0 P w K mg base A outer s H → BindsTo s fd args (ps.zip us) → Vals vs us →
    vs.length = ps.length → (∀ (i : Nat) (d : PyData), bs[i]? ≠ some (B.own d)) → Rp K (A0p Γ vs bs) S H (pst vs) bs → PostF Γ K mg S H vs bs (F bs) Q E → codeAny (model P w) A (.call (.ref f) args) (CR (CX P w) outer P w H s Q E) s
theorem FnG.mono {P : Program} {w : World} {K : PySem.W.Frag} {mg : Str → Option Value} {base : Heap} {Γ : Gx} {j k : Nat} {f : Addr} {fd : FuncData} {ps : List Str} {F : SE} (G : FnG P w K mg base Γ j f fd ps F) (h : j ≤ k) : FnG P w K mg base Γ k f fd ps F :=
  ⟨fun A outer s H args us vs Q E S bs hr => G.run A outer s H args us vs Q E S bs (hr.mono h)⟩
/-- the parameters' bindings behind the body -/
def outB : B → B
  | .prm d => .prm d
  | .ob c fs => .ob c fs
  | _ => .un
def retF0 (outs : List B) : Fl → Rs (Ev × List B)
  | .rt (.val d) _ => .ok (.val d, outs)
  | .rt (.fr d) _ => .ok (.fr d, outs)
  | .rt (.sl i) ρ => match ρ[i]? with
    | some (.val d) => .ok (.val d, outs)
    | some (.own d) => .ok (.fr d, outs)
    | _ => .bad
  | .nx _ => .ok (.val .none, outs)
  | _ => .bad
def retF (m : Nat) (fl : Fl) : Rs (Ev × List B) := if m ≤ fl.env.length then retF0 ((fl.env.take m).map outB) fl else .bad
/-- a def by its body: N names -/
def defF (N : Nat) (body : SS) : SE := fun bs => (body (bs ++ List.replicate (N - bs.length) .un)).bind (retF bs.length)
section
variable {Γ : Gx} {K : PySem.W.Frag} {A0 : Ax} {S S' : Addr → Prop} {H H' : Hp}
theorem start_get {N : List Str} {vs : List V} {i : Nat} {v : V} (h : (pst vs)[i]? = some (some v)) : (L2.start N vs)[i]? = some (some v) := by
  unfold L2.start
  have hi : i < (pst vs).length := (List.getElem?_eq_some_iff.mp h).1
  rw [List.getElem?_append_left hi]
  exact h
theorem Rp.begin_ {N : List Str} {vs : List V} {bs : List B} (hN : vs.length ≤ N.length) (r : Rp K (A0p Γ vs bs) S H (pst vs) bs) : Rp K (A0p Γ vs bs) S H (L2.start N vs) (bs ++ List.replicate (N.length - bs.length) .un) ∧
    (∀ a, Ow (L2.start N vs) (bs ++ List.replicate (N.length - bs.length) .un) a ↔ Ow (pst vs) bs a) := by
  have hl : bs.length = vs.length := by rw [← r.len]; simp [pst]
  have inn : ∀ i a, OwI (L2.start N vs) (bs ++ List.replicate (N.length - bs.length) .un) i a → OwI (pst vs) bs i a := fun i a ⟨h1, h2⟩ => by
    by_cases hi : i < bs.length
    · rw [List.getElem?_append_left hi] at h1
      unfold L2.start at h2
      rw [List.getElem?_append_left (by simpa [pst] using (by omega : i < vs.length))] at h2
      exact ⟨h1, h2⟩
    · rw [List.getElem?_append_right (by omega), List.getElem?_replicate] at h1
      split at h1 <;> cases h1
  have out : ∀ i a, OwI (pst vs) bs i a → OwI (L2.start N vs) (bs ++ List.replicate (N.length - bs.length) .un) i a := fun i a ⟨h1, h2⟩ => by
    have hi : i < bs.length := by
      by_cases hi : i < bs.length
      · exact hi
      · rw [List.getElem?_eq_none (by omega)] at h1; cases h1
    exact ⟨by rw [List.getElem?_append_left hi]; exact h1, start_get h2⟩
  refine ⟨⟨?_, fun i b hb => ?_, fun i j a h1 h2 => r.dis i j a (inn i a h1) (inn j a h2), r.al, fun i d a h1 h2 => ?_, r.aa, r.tb⟩, fun a => ⟨fun ⟨i, h⟩ => ⟨i, inn i a h⟩, fun ⟨i, h⟩ => ⟨i, out i a h⟩⟩⟩
  · unfold L2.start
    rw [List.length_append, List.length_append, List.length_map, List.length_replicate, List.length_replicate, hl]
  · by_cases hi : i < bs.length
    · rw [List.getElem?_append_left hi] at hb
      have q := r.bd i b hb
      cases b with
      | un => trivial
      | exc n => exact ⟨q.1, start_get q.2.1, q.2.2⟩
      | val d => obtain ⟨v, e, q⟩ := q; exact ⟨v, start_get e, q⟩
      | own d => obtain ⟨v, e, q⟩ := q; exact ⟨v, start_get e, q⟩
      | prm d => obtain ⟨v, e, q⟩ := q; exact ⟨v, start_get e, q⟩
      | ob c fs => obtain ⟨v, e, q⟩ := q; exact ⟨v, start_get e, q⟩
    · rw [List.getElem?_append_right (by omega), List.getElem?_replicate] at hb
      split at hb
      · cases hb; trivial
      · cases hb
  · by_cases hi : i < bs.length
    · rw [List.getElem?_append_left hi] at h1
      unfold L2.start at h2
      rw [List.getElem?_append_left (by simpa [pst] using (by omega : i < vs.length))] at h2
      exact r.np i d a h1 h2
    · rw [List.getElem?_append_right (by omega), List.getElem?_replicate] at h1
      split at h1 <;> cases h1
/-- from the body's end to the parameters -/
theorem outs_ok {vs : List V} {bs : List B} {σ : St} {ρ : List B} {m : Nat} (hm : m = vs.length) (hlen : m ≤ ρ.length) (r : Rp K (A0p Γ vs bs) S H σ ρ) : Rp K (A0p Γ vs bs) S H (pst vs) ((ρ.take m).map outB) ∧ ∀ a, Ow (pst vs) ((ρ.take m).map outB) a → Ow σ ρ a := by
  have get : ∀ i b, ((ρ.take m).map outB)[i]? = some b → i < m ∧ ∃ b0, ρ[i]? = some b0 ∧ b = outB b0 := fun i b h => by
    rw [List.getElem?_map] at h
    by_cases hi : i < m
    · rw [List.getElem?_take_of_lt hi] at h
      cases e : ρ[i]? with
      | none => rw [e] at h; cases h
      | some b0 => rw [e] at h; cases h; exact ⟨hi, b0, rfl, rfl⟩
    · rw [List.getElem?_eq_none (by rw [List.length_take]; omega)] at h; cases h
  have prm : ∀ (i : Nat) (d : PyData), ((ρ.take m).map outB)[i]? = some (B.prm d) → ρ[i]? = some (B.prm d) ∧ ∃ a, σ[i]? = some (some (V.ref a)) ∧ vs[i]? = some (V.ref a) ∧ (¬ S a ∧ OwnAt K S H a d) ∧ A0f vs bs i = some a := fun i d h => by
    obtain ⟨hi, b0, e, eb⟩ := get i _ h
    cases b0 with
    | prm d0 =>
      cases eb
      obtain ⟨a, e1, e2, e3⟩ := r.bd i _ e
      exact ⟨e, a, e1, (A0p_ok e2).2, e3, e2⟩
    | _ => cases eb
  have obj : ∀ (i : Nat) (c : Str) (fs : List (Str × OF)), ((ρ.take m).map outB)[i]? = some (B.ob c fs) → ρ[i]? = some (B.ob c fs) ∧ ∃ a, σ[i]? = some (some (V.ref a)) ∧ vs[i]? = some (V.ref a) := fun i c fs h => by
    obtain ⟨hi, b0, e, eb⟩ := get i _ h
    cases b0 with
    | ob c0 f0 =>
      cases eb
      obtain ⟨a, e1, e2, e3⟩ := r.bd i _ e
      exact ⟨e, a, e1, (A0p_ok e2).2⟩
    | _ => cases eb
  have own : ∀ i a, OwI (pst vs) ((ρ.take m).map outB) i a → OwI σ ρ i a := fun i a ⟨h1, h2⟩ => by
    cases e : ((ρ.take m).map outB)[i]? with
    | none => rw [e] at h1; cases h1
    | some b =>
      obtain ⟨hi, b0, e0, eb⟩ := get i b e
      cases b with
      | prm d =>
        obtain ⟨p1, a', p2, p3, _⟩ := prm i d e
        have : (pst vs)[i]? = some (some (.ref a')) := by simp [pst, p3]
        rw [this] at h2; cases h2
        exact ⟨by rw [p1]; rfl, p2⟩
      | ob c fs =>
        obtain ⟨p1, a', p2, p3⟩ := obj i c fs e
        have : (pst vs)[i]? = some (some (.ref a')) := by simp [pst, p3]
        rw [this] at h2; cases h2
        exact ⟨by rw [p1]; rfl, p2⟩
      | un => rw [e] at h1; cases h1
      | exc _ => rw [e] at h1; cases h1
      | val d => rw [e] at h1; cases h1
      | own d => cases b0 <;> cases eb
  refine ⟨⟨by simp [pst]; omega, fun i b hb => ?_, fun i j a h1 h2 => r.dis i j a (own i a h1) (own j a h2), r.al, fun i d a h1 _ => ?_, r.aa, r.tb⟩, fun a ⟨i, h⟩ => ⟨i, own i a h⟩⟩
  · obtain ⟨hi, b0, e0, eb⟩ := get i b hb
    cases b with
    | un => trivial
    | exc _ => cases b0 <;> cases eb
    | val d => cases b0 <;> cases eb
    | own d => cases b0 <;> cases eb
    | prm d =>
      obtain ⟨p1, a', p2, p3, p4, p5⟩ := prm i d hb
      exact ⟨a', by simp [pst, p3], p5, p4.1, p4.2⟩
    | ob c fs =>
      obtain ⟨p1, a', p2, p3⟩ := obj i c fs hb
      obtain ⟨a2, q1, q2⟩ := r.bd i _ p1
      rw [p2] at q1; cases q1
      exact ⟨a', by simp [pst, p3], q2⟩
  · obtain ⟨_, b0, _, eb⟩ := get i _ h1
    cases b0 <;> cases eb
end
section
variable {P : Program} {w : World} {K : PySem.W.Frag} {mg : Str → Option Value} {base : Heap} {Γ : Gx}
abbrev WF (E : XK) : WX := fun cls d _ H => E cls d H
/-- what the body's end says to the caller -/
theorem body_reads {vs : List V} {bs : List B} {N : List Str} {S0 : Addr → Prop} {H : Hp} {body : SS} {Q : VK} {E : XK} (hN : vs.length ≤ N.length) (hbs : ∀ (i : Nat) (d : PyData), bs[i]? ≠ some (B.own d)) (rp : Rp K (A0p Γ vs bs) S0 H (pst vs) bs)
    (hF : PostF Γ K mg S0 H vs bs (defF N.length body bs) Q E) : PostS ⟨K, mg, A0p Γ vs bs, WF E⟩ S0 H (L2.start N vs) (bs ++ List.replicate (N.length - bs.length) .un) (body (bs ++ List.replicate (N.length - bs.length) .un)) { nx := fun _ H' => Q .non H', rt := Q } := by
  have hbl : bs.length = vs.length := by rw [← rp.len]; simp [pst]
  obtain ⟨_, ow⟩ := rp.begin_ (N := N) hN
  have trP : ∀ {S' : Addr → Prop} {H' : Hp} {O' O2 : Addr → Prop}, Tr S0 H (Ow (L2.start N vs) (bs ++ List.replicate (N.length - bs.length) .un)) S' H' O' → (∀ a, O2 a → O' a) → Tr S0 H (Ow (pst vs) bs) S' H' O2 := fun t h =>
    ⟨t.s, fun a o e n => t.keep a o e fun z => n ((ow a).mp z), t.dom, fun a z => (t.o a (h a z)).imp (ow a).mp id, fun a z => (t.g a z).imp id (Or.imp (ow a).mp id)⟩
  unfold defF at hF
  cases eb : body (bs ++ List.replicate (N.length - bs.length) .un) with
  | bad => rw [eb] at hF; exact hF
  | ex n ρ' =>
    rw [eb] at hF
    exact fun S' H' σ' t' r' C hC => hF S' H' (trP t' fun a z => z.elim) r'.al r'.tb C hC
  | ok fl =>
    rw [eb] at hF
    intro S' H' σ' t' r'
    have hF : PostF Γ K mg S0 H vs bs (retF bs.length fl) Q E := hF
    unfold retF at hF
    split at hF
    rotate_left
    · exact hF.elim
    rename_i hm
    obtain ⟨ro, so⟩ := outs_ok hbl hm r'
    cases fl with
    | nx ρ' => exact hF S' H' .non (trP t' so) ro .non
    | bk ρ' => exact hF.elim
    | ct ρ' => exact hF.elim
    | rt ev ρ' =>
      intro v re
      cases ev with
      | val d => exact hF S' H' v (trP t' so) ro re
      | fr d =>
        obtain ⟨a, e1, h0, hs, ho, hc⟩ := re
        exact hF S' H' v (trP t' so) ro ⟨a, e1, h0, hs, fun z => ho (so a z), hc⟩
      | sl i =>
        have hv : σ'[i]? = some (some v) := re
        simp only [retF0] at hF
        cases ei : ρ'[i]? with
        | none => simp only [ei] at hF; exact hF.elim
        | some b =>
          simp only [ei] at hF
          have q := r'.bd i b ei
          cases b with
          | un => exact hF.elim
          | exc _ => exact hF.elim
          | ob _ _ => exact hF.elim
          | prm d => exact hF.elim
          | val d =>
            obtain ⟨u, e1, e2⟩ := q
            rw [hv] at e1; cases e1
            exact hF S' H' v (trP t' so) ro e2
          | own d =>
            obtain ⟨a, e1, e2, e3⟩ := q
            rw [hv] at e1; cases e1
            have ow1 : OwI σ' ρ' i a := ⟨by rw [ei]; rfl, hv⟩
            have np := r'.np i d a ei hv
            refine hF S' H' _ (trP t' so) ro ⟨a, rfl, ⟨?_, np⟩, e2, fun z => ?_, e3⟩
            · rcases t'.o a ⟨i, ow1⟩ with z | z
              · exfalso
                obtain ⟨j, z1, z2⟩ := (ow a).mp z
                cases ej : bs[j]? with
                | none => rw [ej] at z1; cases z1
                | some bj =>
                  rw [ej] at z1
                  cases bj with
                  | un => cases z1
                  | exc _ => cases z1
                  | val _ => cases z1
                  | own d' => exact hbs j d' ej
                  | prm d' =>
                    obtain ⟨a', q1, q2, _⟩ := rp.bd j _ ej
                    rw [z2] at q1; cases q1
                    exact np j q2
                  | ob c fs =>
                    obtain ⟨a', q1, q2, _⟩ := rp.bd j _ ej
                    rw [z2] at q1; cases q1
                    exact np j q2
              · exact z
            · obtain ⟨j, z1, z2⟩ := z
              have z1 : isOw ((List.map outB (List.take bs.length ρ'))[j]?) = true := z1
              have ro : Rp K (A0p Γ vs bs) S' H' (pst vs) (List.map outB (List.take bs.length ρ')) := ro
              cases ej : (List.map outB (List.take bs.length ρ'))[j]? with
              | none => rw [ej] at z1; cases z1
              | some bj =>
                rw [ej] at z1
                have q := ro.bd j bj ej
                cases bj with
                | un => cases z1
                | exc _ => cases z1
                | val _ => cases z1
                | own d' =>
                  rw [List.getElem?_map] at ej
                  cases ek : (List.take bs.length ρ')[j]? with
                  | none => rw [ek] at ej; cases ej
                  | some b0 => rw [ek] at ej; cases b0 <;> cases ej
                | prm d' =>
                  obtain ⟨a', q1, q2, _⟩ := q
                  rw [z2] at q1; cases q1
                  exact np j q2
                | ob c fs =>
                  obtain ⟨a', q1, q2, _⟩ := q
                  rw [z2] at q1; cases q1
                  exact np j q2
/-- the code of the def at f -/
def CodeAt (K : PySem.W.Frag) (f : Addr) (cdv : Value) : Prop := ∃ (oc : Value) (od : Option Addr) (fd : FuncData) (osl : Array (Option Value)), K.lookup f = some ⟨oc, od, .func fd, osl⟩ ∧ fd.code = cdv
/-- a def as it stands in K, whatever its defaults -/
def FnEx (K : PySem.W.Frag) (dV : Value) (x qual : Str) (st : Stmt) (f : Addr) (fd : FuncData) : Prop :=
  ∃ (oc : Value) (od : Option Addr) (kV doc pm : Value) (an : Option Addr) (cdv ct : Value) (osl : Array (Option Value)),
    fd = PySem.W.fnOf x qual (defArgs st) (defBody st) (defScope st) dV kV doc pm an cdv ct ∧ K.lookup f = some ⟨oc, od, .func fd, osl⟩ ∧ PySem.W.codeIn K cdv qual = true
/-- THE RULE: a def by its body -/
theorem fnG_of {dV : Value} {x qual : Str} {st : Stmt} {f : Addr} {fd : FuncData} {N ps : List Str} {k : Nat} {body : SS} (F : FnEx K dV x qual st f fd) (S : FnScope N ps (defScope st)) (sys : SysOk base)
    (hbody : ∀ (cdv : Value), CodeAt K f cdv → ∀ (A : Around) (outer : List Env) (s : Shared) (H : Hp) (E : XK) (A0 : Nat → Option Addr), Room k (cxOf (CX P w) P w K mg base N qual (defScope st) f cdv A outer s H E).A → GX (cxOf (CX P w) P w K mg base N qual (defScope st) f cdv A outer s H E) →
      Takes (cxOf (CX P w) P w K mg base N qual (defScope st) f cdv A outer s H E) (WF E) →
      PSs (cxOf (CX P w) P w K mg base N qual (defScope st) f cdv A outer s H E) (defBody st) (tSt (gc (cxOf (CX P w) P w K mg base N qual (defScope st) f cdv A outer s H E) ⟨A0, Γ⟩ (WF E)) body)) :
    FnG P w K mg base Γ (k + 1) f fd ps (defF N.length body) := by
  obtain ⟨oc, od, kV, doc, pm, an, cdv, ct, osl, rfl, lk, hcd⟩ := F
  refine ⟨fun A outer s H args us vs Q E S0 bs hr hgd e0 hb r hl hbs rp hF => ?_⟩
  have KX : K.In s.heap := e0.mod.kin.keeps fun b o e => (e0.bs b o e).1
  have lim : s.heap.NoLimit := e0.mod.nolimit.keeps fun b o e => (e0.bs b o e).1
  have hpl : ps.length ≤ N.length := by have := congrArg List.length S.pre; rw [List.length_take] at this; omega
  have hbl : bs.length = vs.length := by rw [← rp.len]; simp [pst]
  have hkind : ∀ y ∈ ps.zip us, (defScope st).names.lookup y.1 = some .local ∨ ((defScope st).names.lookup y.1 = some .cell ∧ ((cellsFrom (s.heap.objs.size + 1) (defScope st).names []).lookup y.1).isSome = true) := fun ⟨n, v⟩ hy => by
    rcases S.par n (List.of_mem_zip hy).1 with q | q
    · exact .inl q
    · exact .inr ⟨q, PySem.W.cellsFrom_some _ _ _ (.inl q)⟩
  refine codeAny_call_function hr.depth (KX _ _ lk) rfl S.co S.gen rfl (PySem.W.codeRec_of KX hcd) (hb _ _ _ _ ?_)
  refine wpAny_newFunctionEnv_cells S.kind hkind fun env he s1 x => ?_
  subst he
  refine ⟨lim.keeps x.toInCall.keep, codeAny_func ?_⟩
  have hrd : Room k (A.deeper (envOfC qual (defScope st) s.heap.objs.size f cdv)) := hr.deeper _
  have ht := hbody cdv ⟨oc, od, _, osl, lk, rfl⟩ A outer s H E (A0f vs bs) hrd ⟨hgd, sys, by have := hrd.un; show (A.deeper (envOfC qual (defScope st) s.heap.objs.size f cdv)).units + 150 < _; omega⟩ (takes_of rfl rfl rfl rfl)
  have I : Inv (cxOf (CX P w) P w K mg base N qual (defScope st) f cdv A outer s H E) [] (L2.start N vs) H s1 := inv_start S hr.hd e0 hl r x
  obtain ⟨rp', ow⟩ := rp.begin_ (N := N) (by omega)
  have fin : ∀ {σ' : St} {H' : Hp} {v : V} {u : Value} {s' : Shared}, Inv (cxOf (CX P w) P w K mg base N qual (defScope st) f cdv A outer s H E) [] σ' H' s' → RelV v u → Q v H' → CE outer P w H s Q u s' :=
    fun {σ' H' v u s'} J rv q => ⟨v, H', J.os, J.bare, J.base, J.hok, rv, q⟩
  refine wpAny_mono (ht.run [] s1 (L2.start N vs) H { nx := fun _ H' => Q .non H', rt := Q } I ⟨S0, _, rp', ?_⟩) (fun fl s' hs => ?_) fun e s' hs => hs
  · exact body_reads (by omega) hbs rp hF
  · cases fl with
    | ret u =>
      obtain ⟨v, σ', H', J, rv, q⟩ := hs
      exact fin J rv q
    | next =>
      obtain ⟨σ', H', J, q⟩ := hs
      exact fin (v := V.non) (u := Value.none) J rfl q
    | brk =>
      obtain ⟨_, _, _, q⟩ := hs
      exact False.elim q
    | cont =>
      obtain ⟨_, _, _, q⟩ := hs
      exact False.elim q
end
end G
namespace G
open PySem PySem.Spec PyProof.Rows L2
/-! ### how arguments become parameters: a mode each, true: the slot's own list is handed over -/
def cv1 : List Bool → List Ev → List B → Option (List Ev × List B)
  | m :: ms, e :: es, ρ => if m = true then (cv1 ms es ρ).map fun q => (e :: q.1, q.2) else (shr ρ e).bind fun p => (cv1 ms es p.2).map fun q => (.val p.1 :: q.1, q.2)
  | [], [], ρ => some ([], ρ)
  | _, _, _ => none
def cvB (ρ : List B) : Ev → Option (B × Option Nat)
  | .val d => some (.val d, none)
  | .sl j => match ρ[j]? with
    | some (.own d) => some (.prm d, some j)
    | some (.prm d) => some (.prm d, some j)
    | some (.exc n) => some (.exc n, none)
    | _ => none
  | .fr _ => none
def cv2 (ρ : List B) : List Ev → Option (List B × List (Option Nat))
  | [] => some ([], [])
  | e :: es => (cvB ρ e).bind fun b => (cv2 ρ es).map fun q => (b.1 :: q.1, b.2 :: q.2)
def memL (j : Nat) : List (Option Nat) → Bool
  | [] => false
  | some i :: r => (i == j) || memL j r
  | none :: r => memL j r
def dstL : List (Option Nat) → Bool
  | [] => true
  | some i :: r => !memL i r && dstL r
  | none :: r => dstL r
def reB : B → B → B
  | .own _, .prm d => .own d
  | .prm _, .prm d => .prm d
  | _, _ => .un
def wb : List (Option Nat) → List B → List B → List B
  | some j :: ls, o :: os, ρ => wb ls os (ρ.set j (match ρ[j]? with
    | some b => reB b o
    | none => .un))
  | none :: ls, _ :: os, ρ => wb ls os ρ
  | _, _, ρ => ρ
def wbx : List (Option Nat) → List B → List B
  | some j :: ls, ρ => wbx ls (ρ.set j .un)
  | none :: ls, ρ => wbx ls ρ
  | [], ρ => ρ
def callR (F : SE) (bs : List B) (ls : List (Option Nat)) (ρ : List B) : Rs (Ev × List B) := if dstL ls = true then (match F bs with
  | .ok (.val d, outs) => .ok (.val d, wb ls outs ρ)
  | .ok (.fr d, outs) => .ok (.fr d, wb ls outs ρ)
  | .ok (.sl _, _) => .bad
  | .ex n _ => .ex n (wbx ls ρ)
  | .bad => .bad) else .bad
def callF (ms : List Bool) (F : SE) (dbs : List B) (fa : SA) : SE := fun ρ => (fa ρ).bind fun p => match cv1 ms p.1 p.2 with
  | some (es, ρ1) => (match cv2 ρ1 es with
    | some (bs, ls) => callR F (bs ++ dbs) (ls ++ dbs.map fun _ => none) ρ1
    | none => .bad)
  | none => .bad
section
variable {K : PySem.W.Frag} {A0 : Ax} {S S0 : Addr → Prop} {H H0 : Hp} {σ : St} {O0 : Addr → Prop}
theorem cv1_ok : ∀ {ms : List Bool} {es es' : List Ev} {vs : List V} {S : Addr → Prop} {ρ ρ' : List B}, Tr S0 H0 O0 S H (Ow σ ρ) → Rp K A0 S H σ ρ → Paired (RE1 K S H σ) vs es → cv1 ms es ρ = some (es', ρ') →
    ∃ S', Tr S0 H0 O0 S' H (Ow σ ρ') ∧ Rp K A0 S' H σ ρ' ∧ Paired (RE1 K S' H σ) vs es' ∧ Ex S H S' H
  | [], [], es', vs, S, ρ, ρ', t, r, h, q => by cases q; cases h; exact ⟨S, t, r, .nil, Ex.same fun _ _ e => e⟩
  | m :: ms, e :: es, es', _, S, ρ, ρ', t, r, .cons (a := v) (l₁ := vs) a h, q => by
    unfold cv1 at q
    cases m with
    | true =>
      simp only [if_true] at q
      cases q1 : cv1 ms es ρ with
      | none => rw [q1] at q; cases q
      | some p =>
        rw [q1] at q; cases q
        obtain ⟨S', t', r', h', x⟩ := cv1_ok t r h q1
        exact ⟨S', t', r', .cons (a.ex x) h', x⟩
    | false =>
      simp only [Bool.false_eq_true, if_false] at q
      cases q1 : shr ρ e with
      | none => rw [q1] at q; cases q
      | some p =>
        rw [q1, Option.bind_some] at q
        cases q2 : cv1 ms es p.2 with
        | none => rw [q2] at q; cases q
        | some p2 =>
          rw [q2] at q; cases q
          obtain ⟨S1, t1, r1, d1, x1⟩ := shr_ok t r a q1
          obtain ⟨S', t', r', h', x⟩ := cv1_ok t1 r1 (RE1s.ex x1 h) q2
          exact ⟨S', t', r', .cons (d1.ex x) h', x1.trans x⟩
  | [], _ :: _, _, _, _, _, _, _, _, _, q => by cases q
  | _ :: _, [], _, _, _, _, _, _, _, _, q => by cases q
/-- the parameters, one by one -/
def Par (Γ : Gx) (K : PySem.W.Frag) (S : Addr → Prop) (H : Hp) (σ : St) (ρ : List B) (v : V) (b : B) (l : Option Nat) : Prop :=
  (∃ d, b = .val d ∧ l = none ∧ Dr K S H v d) ∨ (∃ j d a, b = .prm d ∧ l = some j ∧ v = .ref a ∧ OwI σ ρ j a ∧ ¬ S a ∧ OwnAt K S H a d) ∨ ∃ n, b = .exc n ∧ l = none ∧ v = .ref Γ.pa ∧ (n.cls, Γ.pc) ∈ Γ.es ∧ XdAt H Γ.pd n.pl
theorem cv2_ok : ∀ {es : List Ev} {vs : List V} {ρ : List B} {bs : List B} {ls : List (Option Nat)}, Rp K A0 S H σ ρ → Paired (RE1 K S H σ) vs es → cv2 ρ es = some (bs, ls) →
    vs.length = bs.length ∧ bs.length = ls.length ∧ ∀ (i : Nat) (b : B), bs[i]? = some b → ∃ v l, vs[i]? = some v ∧ ls[i]? = some l ∧ Par A0.g K S H σ ρ v b l
  | [], _, ρ, bs, ls, r, .nil, q => by cases q; exact ⟨rfl, rfl, fun i b e => by simp at e⟩
  | e :: es, _, ρ, bs, ls, r, .cons (a := v) (l₁ := vs) a h, q => by
    unfold cv2 at q
    cases q1 : cvB ρ e with
    | none => rw [q1] at q; cases q
    | some p =>
      rw [q1, Option.bind_some] at q
      cases q2 : cv2 ρ es with
      | none => rw [q2] at q; cases q
      | some p2 =>
        rw [q2] at q; cases q
        obtain ⟨l1, l2, ih⟩ := cv2_ok r h q2
        refine ⟨by simp only [List.length_cons, l1], by simp only [List.length_cons, l2], fun i b hb => ?_⟩
        cases i with
        | succ i => exact ih i b (by simpa using hb)
        | zero =>
          have hb' : p.1 = b := Option.some.inj hb
          subst hb'
          refine ⟨v, p.2, rfl, rfl, ?_⟩
          cases e with
          | val d => cases q1; exact .inl ⟨d, rfl, rfl, a⟩
          | fr d => cases q1
          | sl j =>
            have hv : σ[j]? = some (some v) := a
            unfold cvB at q1
            cases ej : ρ[j]? with
            | none => simp only [ej, reduceCtorEq] at q1
            | some b0 =>
              simp only [ej] at q1
              have qb := r.bd j b0 ej
              cases b0 with
              | un => cases q1
              | exc n =>
                cases q1
                obtain ⟨e0, e1, e2⟩ := qb
                rw [hv] at e1; cases e1
                exact .inr (.inr ⟨n, rfl, rfl, rfl, e0, e2⟩)
              | val _ => cases q1
              | ob _ _ => cases q1
              | own d =>
                cases q1
                obtain ⟨a', e1, e2, e3⟩ := qb
                rw [hv] at e1; cases e1
                exact .inr (.inl ⟨j, d, a', rfl, rfl, rfl, ⟨by rw [ej]; rfl, hv⟩, e2, e3⟩)
              | prm d =>
                cases q1
                obtain ⟨a', e1, e0, e2, e3⟩ := qb
                rw [hv] at e1; cases e1
                exact .inr (.inl ⟨j, d, a', rfl, rfl, rfl, ⟨by rw [ej]; rfl, hv⟩, e2, e3⟩)
theorem memL_of {j : Nat} : ∀ {ls : List (Option Nat)} {i : Nat}, ls[i]? = some (some j) → memL j ls = true
  | [], i, h => by simp at h
  | some k :: r, 0, h => by
    have : k = j := by simpa using h
    simp [memL, this]
  | none :: r, 0, h => by simp at h
  | some k :: r, i + 1, h => by simp only [memL, memL_of (ls := r) (i := i) (by simpa using h), Bool.or_true]
  | none :: r, i + 1, h => by simp only [memL, memL_of (ls := r) (i := i) (by simpa using h)]
theorem dstL_ok : ∀ {ls : List (Option Nat)}, dstL ls = true → ∀ {i k j : Nat}, ls[i]? = some (some j) → ls[k]? = some (some j) → i = k
  | [], _, i, k, j, h, _ => by simp at h
  | none :: r, d, 0, k, j, h, _ => by simp at h
  | none :: r, d, i + 1, 0, j, _, h => by simp at h
  | none :: r, d, i + 1, k + 1, j, h1, h2 => by rw [dstL_ok (ls := r) d (i := i) (k := k) (by simpa using h1) (by simpa using h2)]
  | some x :: r, d, 0, 0, j, _, _ => rfl
  | some x :: r, d, 0, k + 1, j, h1, h2 => by
    have e : x = j := by simpa using h1
    have := memL_of (ls := r) (i := k) (j := j) (by simpa using h2)
    simp only [dstL, e, this, Bool.not_true, Bool.false_and, Bool.false_eq_true] at d
  | some x :: r, d, i + 1, 0, j, h1, h2 => by
    have e : x = j := by simpa using h2
    have := memL_of (ls := r) (i := i) (j := j) (by simpa using h1)
    simp only [dstL, e, this, Bool.not_true, Bool.false_and, Bool.false_eq_true] at d
  | some x :: r, d, i + 1, k + 1, j, h1, h2 => by
    simp only [dstL, Bool.and_eq_true] at d
    rw [dstL_ok (ls := r) d.2 (i := i) (k := k) (by simpa using h1) (by simpa using h2)]
/-- what stands behind the call in a slot -/
theorem wb_len : ∀ {ls : List (Option Nat)} {outs ρ : List B}, (wb ls outs ρ).length = ρ.length
  | [], outs, ρ => by cases outs <;> rfl
  | some j :: ls, o :: os, ρ => by unfold wb; rw [wb_len, List.length_set]
  | none :: ls, o :: os, ρ => by unfold wb; rw [wb_len]
  | some j :: ls, [], ρ => rfl
  | none :: ls, [], ρ => rfl
theorem wbx_len : ∀ {ls : List (Option Nat)} {ρ : List B}, (wbx ls ρ).length = ρ.length
  | [], ρ => rfl
  | some j :: ls, ρ => by unfold wbx; rw [wbx_len, List.length_set]
  | none :: ls, ρ => by unfold wbx; rw [wbx_len]
theorem wb_ne {j : Nat} : ∀ {ls : List (Option Nat)} {outs ρ : List B}, memL j ls = false → (wb ls outs ρ)[j]? = ρ[j]?
  | [], outs, ρ, _ => by cases outs <;> rfl
  | some k :: ls, o :: os, ρ, h => by
    simp only [memL, Bool.or_eq_false_iff, beq_eq_false_iff_ne] at h
    unfold wb
    rw [wb_ne h.2, List.getElem?_set_ne h.1]
  | none :: ls, o :: os, ρ, h => by unfold wb; exact wb_ne (by simpa only [memL] using h)
  | some k :: ls, [], ρ, _ => rfl
  | none :: ls, [], ρ, _ => rfl
theorem wbx_ne {j : Nat} : ∀ {ls : List (Option Nat)} {ρ : List B}, memL j ls = false → (wbx ls ρ)[j]? = ρ[j]?
  | [], ρ, _ => rfl
  | some k :: ls, ρ, h => by
    simp only [memL, Bool.or_eq_false_iff, beq_eq_false_iff_ne] at h
    unfold wbx
    rw [wbx_ne h.2, List.getElem?_set_ne h.1]
  | none :: ls, ρ, h => by unfold wbx; exact wbx_ne (by simpa only [memL] using h)
theorem memL_at {j : Nat} : ∀ {ls : List (Option Nat)}, memL j ls = true → ∃ i : Nat, ls[i]? = some (some j)
  | [], h => by cases h
  | some k :: r, h => by
    simp only [memL, Bool.or_eq_true, beq_iff_eq] at h
    rcases h with rfl | h
    · exact ⟨0, rfl⟩
    · obtain ⟨i, e⟩ := memL_at h; exact ⟨i + 1, by simpa using e⟩
  | none :: r, h => by
    obtain ⟨i, e⟩ := memL_at (ls := r) (by simpa only [memL] using h); exact ⟨i + 1, by simpa using e⟩
theorem wb_at {j : Nat} {b o : B} : ∀ {ls : List (Option Nat)} {outs ρ : List B} {i : Nat}, dstL ls = true → ls[i]? = some (some j) → outs[i]? = some o → ρ[j]? = some b → (wb ls outs ρ)[j]? = some (reB b o)
  | [], _, _, i, _, h, _, _ => by simp at h
  | _ :: _, [], _, i, _, _, h, _ => by simp at h
  | none :: ls, o' :: os, ρ, 0, d, h, _, _ => by simp at h
  | none :: ls, o' :: os, ρ, i + 1, d, h1, h2, h3 => by unfold wb; exact wb_at (i := i) d (by simpa using h1) (by simpa using h2) h3
  | some k :: ls, o' :: os, ρ, 0, d, h1, h2, h3 => by
    have e : k = j := by simpa using h1
    have e2 : o' = o := by simpa using h2
    subst e e2
    simp only [dstL, Bool.and_eq_true, Bool.not_eq_true'] at d
    unfold wb
    rw [wb_ne d.1, List.getElem?_set_self (List.getElem?_eq_some_iff.mp h3).1, h3]
  | some k :: ls, o' :: os, ρ, i + 1, d, h1, h2, h3 => by
    have hm : memL j ls = true := memL_of (i := i) (by simpa using h1)
    simp only [dstL, Bool.and_eq_true, Bool.not_eq_true'] at d
    have hk : k ≠ j := fun e => by rw [e, hm] at d; cases d.1
    unfold wb
    exact wb_at (i := i) d.2 (by simpa using h1) (by simpa using h2) (by rw [List.getElem?_set_ne hk]; exact h3)
theorem wbx_at {j : Nat} : ∀ {ls : List (Option Nat)} {ρ : List B} {b : B}, memL j ls = true → (wbx ls ρ)[j]? = some b → b = .un
  | [], ρ, b, h, _ => by cases h
  | none :: ls, ρ, b, h, e => wbx_at (ls := ls) (ρ := ρ) (by simpa only [memL] using h) (by unfold wbx at e; exact e)
  | some k :: ls, ρ, b, h, e => by
    unfold wbx at e
    cases hm : memL j ls with
    | true => exact wbx_at hm e
    | false =>
      rw [wbx_ne hm] at e
      simp only [memL, hm, Bool.or_false, beq_iff_eq] at h
      subst h
      by_cases hl : k < ρ.length
      · rw [List.getElem?_set_self hl] at e; cases e; rfl
      · rw [List.getElem?_eq_none (by rw [List.length_set]; omega)] at e; cases e
end
section
variable {K : PySem.W.Frag} {A0 : Ax} {S S2 : Addr → Prop} {H H2 : Hp} {σ : St} {ρ : List B} {vs : List V} {bs outs : List B} {ls : List (Option Nat)}
/-- the parameters' state -/
theorem par_rp (r : Rp K A0 S H σ ρ) (d : dstL ls = true) (hl : vs.length = bs.length) (hp : ∀ (i : Nat) (b : B), bs[i]? = some b → ∃ v l, vs[i]? = some v ∧ ls[i]? = some l ∧ Par A0.g K S H σ ρ v b l) :
    Rp K (A0p A0.g vs bs) S H (pst vs) bs ∧ (∀ (i : Nat) (d : PyData), bs[i]? ≠ some (B.own d)) ∧ ∀ i a, OwI (pst vs) bs i a → ∃ j, ls[i]? = some (some j) ∧ OwI σ ρ j a := by
  have own : ∀ i a, OwI (pst vs) bs i a → ∃ j, ls[i]? = some (some j) ∧ OwI σ ρ j a := fun i a ⟨h1, h2⟩ => by
    cases e : bs[i]? with
    | none => rw [e] at h1; cases h1
    | some b =>
      obtain ⟨v, l, e1, e2, p⟩ := hp i b e
      have hv : (pst vs)[i]? = some (some v) := by simp [pst, e1]
      rw [hv] at h2
      rcases p with ⟨d, rfl, _⟩ | ⟨j, d, a', rfl, rfl, rfl, q, _⟩ | ⟨n, rfl, _⟩
      · rw [e] at h1; cases h1
      · cases h2; exact ⟨j, e2, q⟩
      · rw [e] at h1; cases h1
  refine ⟨⟨by simp [pst, hl], fun i b e => ?_, fun i k a h1 h2 => ?_, r.al, fun i d' a e _ => ?_, fun i a h => ?_, r.tb⟩, fun i d' e => ?_, own⟩
  · obtain ⟨v, l, e1, e2, p⟩ := hp i b e
    have hv : (pst vs)[i]? = some (some v) := by simp [pst, e1]
    rcases p with ⟨d, rfl, _, q⟩ | ⟨j, d, a', rfl, rfl, rfl, q, q2, q3⟩ | ⟨n, rfl, _, rfl, q1⟩
    · exact ⟨v, hv, q⟩
    · exact ⟨a', hv, by show A0f vs bs i = some a'; unfold A0f; rw [e, e1], q2, q3⟩
    · exact ⟨q1.1, hv, q1.2⟩
  · obtain ⟨j, p1, p2⟩ := own i a h1
    obtain ⟨j', q1, q2⟩ := own k a h2
    obtain rfl := r.dis j j' a p2 q2
    exact dstL_ok d p1 q1
  · obtain ⟨v, l, _, _, p⟩ := hp i _ e
    rcases p with ⟨_, h, _⟩ | ⟨_, _, _, h, _⟩ | ⟨_, h, _⟩ <;> cases h
  · obtain ⟨⟨d', e⟩ | ⟨c', f', e⟩, e1⟩ := A0p_ok h
    rotate_left
    · obtain ⟨v, l, _, _, p⟩ := hp i _ e
      rcases p with ⟨_, h, _⟩ | ⟨_, _, _, h, _⟩ | ⟨_, h, _⟩ <;> cases h
    obtain ⟨v, l, e2, _, p⟩ := hp i _ e
    rw [e1] at e2; cases e2
    rcases p with ⟨_, h, _⟩ | ⟨j, d2, a', h, _, e3, q, _, q3⟩ | ⟨_, h, _⟩
    · cases h
    · cases e3
      obtain ⟨o, e4, _⟩ := q3
      exact ⟨o, e4⟩
    · cases h
  · obtain ⟨v, l, _, _, p⟩ := hp i _ e
    rcases p with ⟨_, h, _⟩ | ⟨_, _, _, h, _⟩ | ⟨_, h, _⟩ <;> cases h
/-- behind the call: the caller's state -/
theorem back_rp (r : Rp K A0 S H σ ρ) (d : dstL ls = true) (hl : vs.length = bs.length) (hlb : bs.length = ls.length) (hp : ∀ (i : Nat) (b : B), bs[i]? = some b → ∃ v l, vs[i]? = some v ∧ ls[i]? = some l ∧ Par A0.g K S H σ ρ v b l)
    (more : List V) (dbs : List B) (hmore : ∀ i a, OwI (pst (vs ++ more)) (bs ++ dbs) i a → i < bs.length)
    (t : Tr S H (Ow (pst (vs ++ more)) (bs ++ dbs)) S2 H2 (Ow (pst (vs ++ more)) outs)) (ro : Rp K (A0p A0.g (vs ++ more) (bs ++ dbs)) S2 H2 (pst (vs ++ more)) outs) :
    Tr S H (Ow σ ρ) S2 H2 (Ow σ (wb ls outs ρ)) ∧ Rp K A0 S2 H2 σ (wb ls outs ρ) ∧ ∀ a, Ow σ (wb ls outs ρ) a → Ow σ ρ a := by
  have inn : ∀ a, Ow (pst (vs ++ more)) (bs ++ dbs) a → Ow σ ρ a := fun a ⟨i, h⟩ => by
    have hi := hmore i a h
    obtain ⟨h1, h2⟩ := h
    rw [List.getElem?_append_left hi] at h1
    have h2' : (pst vs)[i]? = some (some (.ref a)) := by
      simp only [pst, List.map_append] at h2 ⊢
      rw [List.getElem?_append_left (by simp; omega)] at h2
      exact h2
    obtain ⟨_, _, own⟩ := par_rp r d hl hp
    obtain ⟨j, _, q⟩ := own i a ⟨h1, h2'⟩
    exact ⟨j, q⟩
  have x : Ex S H S2 H2 := Ex.of_tr t (fun a hs z => r.sep hs (inn a z)) fun a z => by
    obtain ⟨i, q⟩ := inn a z
    exact (r.own q).2
  -- what a handed slot holds
  have handed : ∀ j, memL j ls = true → ∃ i : Nat, ls[i]? = some (some j) ∧ i < bs.length := fun j h => by
    obtain ⟨i, e⟩ := memL_at h
    exact ⟨i, e, by rw [hlb]; exact (List.getElem?_eq_some_iff.mp e).1⟩
  have at_ : ∀ (i j : Nat), ls[i]? = some (some j) → i < bs.length → ∃ (d0 : PyData) (a : Addr) (b : B), bs[i]? = some (B.prm d0) ∧ vs[i]? = some (V.ref a) ∧ ρ[j]? = some b ∧ σ[j]? = some (some (V.ref a)) ∧ isOw (some b) = true ∧ OwI σ ρ j a := fun i j e hi => by
    obtain ⟨v, l, e1, e2, p⟩ := hp i _ (List.getElem?_eq_getElem hi)
    rw [e] at e2; cases e2
    rcases p with ⟨_, _, h, _⟩ | ⟨j', d0, a, h, h2, h3, q, _⟩ | ⟨_, _, h, _⟩
    · cases h
    rotate_left
    · cases h
    · cases h2
      obtain ⟨q1, q2⟩ := q
      cases ej : ρ[j]? with
      | none => rw [ej] at q1; cases q1
      | some b => exact ⟨d0, a, b, by rw [List.getElem?_eq_getElem hi, h], by rw [e1, h3], rfl, q2, by rw [ej] at q1; exact q1, ⟨q1, q2⟩⟩
  have out_prm : ∀ (i : Nat) (dd : PyData), outs[i]? = some (B.prm dd) → ∃ a : Addr, (pst (vs ++ more))[i]? = some (some (V.ref a)) ∧ ¬ S2 a ∧ OwnAt K S2 H2 a dd := fun i dd e => by
    obtain ⟨a, e1, _, e2, e3⟩ := ro.bd i _ e
    exact ⟨a, e1, e2, e3⟩
  -- slot by slot
  have slot : ∀ (j : Nat) (b' : B), (wb ls outs ρ)[j]? = some b' → (memL j ls = false ∧ ρ[j]? = some b') ∨ b' = .un ∨ ∃ (i : Nat) (b : B) (dd : PyData) (a : Addr), ls[i]? = some (some j) ∧ ρ[j]? = some b ∧ b' = reB b (B.prm dd) ∧ outs[i]? = some (B.prm dd) ∧ OwI σ ρ j a ∧ vs[i]? = some (V.ref a) := fun j b' e => by
    cases hm : memL j ls with
    | false => rw [wb_ne hm] at e; exact .inl ⟨rfl, e⟩
    | true =>
      obtain ⟨i, ei, hi⟩ := handed j hm
      obtain ⟨d0, a, b, _, q2, q3, q4, q5, q6⟩ := at_ i j ei hi
      cases eo : outs[i]? with
      | none =>
        -- outs is as long as the parameters
        exfalso
        have := ro.len
        have h1 : i < (pst (vs ++ more)).length := by simp [pst]; omega
        rw [this] at h1
        rw [List.getElem?_eq_getElem h1] at eo; cases eo
      | some o =>
        rw [wb_at d ei eo q3] at e
        cases e
        cases o with
        | prm dd => exact .inr (.inr ⟨i, b, dd, a, ei, q3, rfl, eo, q6, q2⟩)
        | un => cases b <;> exact .inr (.inl rfl)
        | exc _ => cases b <;> exact .inr (.inl rfl)
        | val _ => cases b <;> exact .inr (.inl rfl)
        | own _ => cases b <;> exact .inr (.inl rfl)
        | ob _ _ => cases b <;> exact .inr (.inl rfl)
  have own : ∀ j a, OwI σ (wb ls outs ρ) j a → OwI σ ρ j a := fun j a ⟨h1, h2⟩ => by
    cases e : (wb ls outs ρ)[j]? with
    | none => rw [e] at h1; cases h1
    | some b' =>
      rcases slot j b' e with ⟨_, q⟩ | rfl | ⟨i, b, dd, a', q1, q2, q3, q4, q5, _⟩
      · exact ⟨by rw [q]; rw [e] at h1; exact h1, h2⟩
      · rw [e] at h1; cases h1
      · exact ⟨q5.1, h2⟩
  have noS : ∀ j a, OwI σ ρ j a → memL j ls = false → ¬ S2 a := fun j a q hm z => by
    obtain ⟨hs, ⟨o, e, _⟩⟩ := r.own q
    rcases t.g a z with y | ⟨i, y⟩ | y
    · exact hs y
    · have hi := hmore i a y
      obtain ⟨h1, h2⟩ := y
      rw [List.getElem?_append_left hi] at h1
      have h2' : (pst vs)[i]? = some (some (.ref a)) := by
        simp only [pst, List.map_append] at h2 ⊢
        rw [List.getElem?_append_left (by simp; omega)] at h2
        exact h2
      obtain ⟨_, _, own2⟩ := par_rp r d hl hp
      obtain ⟨j', p1, p2⟩ := own2 i a ⟨h1, h2'⟩
      obtain rfl := r.dis j j' a q p2
      rw [memL_of p1] at hm; cases hm
    · rw [e] at y; cases y
  have keepO : ∀ j a, OwI σ ρ j a → memL j ls = false → ∀ o, H a = some o → H2 a = some o := fun j a q hm o e => t.keepS e (fun ⟨i, z⟩ => by
    have hi := hmore i a z
    obtain ⟨h1, h2⟩ := z
    rw [List.getElem?_append_left hi] at h1
    have h2' : (pst vs)[i]? = some (some (.ref a)) := by
      simp only [pst, List.map_append] at h2 ⊢
      rw [List.getElem?_append_left (by simp; omega)] at h2
      exact h2
    obtain ⟨_, _, own2⟩ := par_rp r d hl hp
    obtain ⟨j', p1, p2⟩ := own2 i a ⟨h1, h2'⟩
    obtain rfl := r.dis j j' a q p2
    rw [memL_of p1] at hm; cases hm) (noS j a q hm) (by obtain ⟨_, ⟨o', e', c, _⟩⟩ := r.own q; rw [e] at e'; cases e'; exact c)
  refine ⟨⟨t.s, fun a o e n => t.keep a o e fun z => n (inn a z), t.dom, fun a ⟨j, h⟩ => .inl ⟨j, own j a h⟩, fun a z => (t.g a z).imp id (Or.imp (inn a) id)⟩,
    ⟨by rw [wb_len]; exact r.len, fun j b' e => ?_, fun j k a h1 h2 => r.dis j k a (own j a h1) (own k a h2), ro.al, fun j dd a e h2 => ?_, fun j a h => let ⟨o, e⟩ := r.aa j a h; t.dom a o e, ro.tb⟩, fun a ⟨j, h⟩ => ⟨j, own j a h⟩⟩
  · rcases slot j b' e with ⟨hm, q⟩ | rfl | ⟨i, b, dd, a, q1, q2, q3, q4, q5, q6⟩
    · have qb := r.bd j b' q
      cases b' with
      | un => trivial
      | exc _ => exact bd_exc x qb
      | val d' => obtain ⟨v, e1, e2⟩ := qb; exact ⟨v, e1, e2.ex x⟩
      | own d' =>
        obtain ⟨a, e1, e2, e3⟩ := qb
        have ow : OwI σ ρ j a := ⟨by rw [q]; rfl, e1⟩
        exact ⟨a, e1, noS j a ow hm, e3.ex x (keepO j a ow hm)⟩
      | prm d' =>
        obtain ⟨a, e1, e0, e2, e3⟩ := qb
        have ow : OwI σ ρ j a := ⟨by rw [q]; rfl, e1⟩
        exact ⟨a, e1, e0, noS j a ow hm, e3.ex x (keepO j a ow hm)⟩
      | ob c fs =>
        refine bd_ob x qb fun a e1 => ?_
        have ow : OwI σ ρ j a := ⟨by rw [q]; rfl, e1⟩
        exact ⟨e1, noS j a ow hm, keepO j a ow hm⟩
    · trivial
    · obtain ⟨a', p1, p2, p3⟩ := out_prm i dd q4
      have ea : a' = a := by
        have hi : i < vs.length := (List.getElem?_eq_some_iff.mp q6).1
        simp only [pst, List.map_append] at p1
        rw [List.getElem?_append_left (by simp; omega), List.getElem?_map, q6] at p1
        cases p1; rfl
      subst ea
      have qb := r.bd j b q2
      cases b with
      | un => subst q3; trivial
      | exc _ => subst q3; trivial
      | val _ => subst q3; trivial
      | ob _ _ => subst q3; trivial
      | own d' => subst q3; exact ⟨a', q5.2, p2, p3⟩
      | prm d' =>
        subst q3
        obtain ⟨a2, e1, e0, _⟩ := qb
        rw [q5.2] at e1; cases e1
        exact ⟨a', q5.2, e0, p2, p3⟩
  · rcases slot j _ e with ⟨hm, q⟩ | h | ⟨i, b, d2, a', q1, q2, q3, q4, q5, q6⟩
    · exact r.np j dd a q h2
    · cases h
    · cases b with
      | own d' => exact r.np j d' a q2 h2
      | _ => cases q3
/-- an exception came: the handed slots are told no more -/
theorem backx_rp (r : Rp K A0 S H σ ρ) (d : dstL ls = true) (hl : vs.length = bs.length) (hlb : bs.length = ls.length) (hp : ∀ (i : Nat) (b : B), bs[i]? = some b → ∃ v l, vs[i]? = some v ∧ ls[i]? = some l ∧ Par A0.g K S H σ ρ v b l)
    (more : List V) (dbs : List B) (hmore : ∀ i a, OwI (pst (vs ++ more)) (bs ++ dbs) i a → i < bs.length) (al2 : ∀ a, S2 a → ∃ o, H2 a = some o) (tb2 : LamX.Tabs A0.g.T H2)
    (t : Tr S H (Ow (pst (vs ++ more)) (bs ++ dbs)) S2 H2 (fun _ => False)) : Tr S H (Ow σ ρ) S2 H2 (Ow σ (wbx ls ρ)) ∧ Rp K A0 S2 H2 σ (wbx ls ρ) := by
  have inn : ∀ a, Ow (pst (vs ++ more)) (bs ++ dbs) a → ∃ j, OwI σ ρ j a ∧ memL j ls = true := fun a ⟨i, h⟩ => by
    have hi := hmore i a h
    obtain ⟨h1, h2⟩ := h
    rw [List.getElem?_append_left hi] at h1
    have h2' : (pst vs)[i]? = some (some (.ref a)) := by
      simp only [pst, List.map_append] at h2 ⊢
      rw [List.getElem?_append_left (by simp; omega)] at h2
      exact h2
    obtain ⟨_, _, own⟩ := par_rp r d hl hp
    obtain ⟨j, p, q⟩ := own i a ⟨h1, h2'⟩
    exact ⟨j, q, memL_of p⟩
  have x : Ex S H S2 H2 := Ex.of_tr t (fun a hs z => by
      obtain ⟨j, q, _⟩ := inn a z
      exact (r.own q).1 hs) fun a z => by
    obtain ⟨i, q, _⟩ := inn a z
    exact (r.own q).2
  have slot : ∀ (j : Nat) (b' : B), (wbx ls ρ)[j]? = some b' → (memL j ls = false ∧ ρ[j]? = some b') ∨ b' = .un := fun j b' e => by
    cases hm : memL j ls with
    | false => rw [wbx_ne hm] at e; exact .inl ⟨rfl, e⟩
    | true => exact .inr (wbx_at hm e)
  have own : ∀ j a, OwI σ (wbx ls ρ) j a → OwI σ ρ j a ∧ memL j ls = false := fun j a ⟨h1, h2⟩ => by
    cases e : (wbx ls ρ)[j]? with
    | none => rw [e] at h1; cases h1
    | some b' =>
      rcases slot j b' e with ⟨hm, q⟩ | rfl
      · exact ⟨⟨by rw [q]; rw [e] at h1; exact h1, h2⟩, hm⟩
      · rw [e] at h1; cases h1
  have noS : ∀ j a, OwI σ ρ j a → memL j ls = false → ¬ S2 a := fun j a q hm z => by
    obtain ⟨hs, ⟨o, e, _⟩⟩ := r.own q
    rcases t.g a z with y | y | y
    · exact hs y
    · obtain ⟨j', q', hm'⟩ := inn a y
      obtain rfl := r.dis j j' a q q'
      rw [hm'] at hm; cases hm
    · rw [e] at y; cases y
  have keepO : ∀ j a, OwI σ ρ j a → memL j ls = false → ∀ o, H a = some o → H2 a = some o := fun j a q hm o e => t.keepS e (fun z => by
    obtain ⟨j', q', hm'⟩ := inn a z
    obtain rfl := r.dis j j' a q q'
    rw [hm'] at hm; cases hm) (noS j a q hm) (by obtain ⟨_, ⟨o', e', c, _⟩⟩ := r.own q; rw [e] at e'; cases e'; exact c)
  refine ⟨⟨t.s, fun a o e n => t.keep a o e fun z => let ⟨j, q, _⟩ := inn a z; n ⟨j, q⟩, t.dom, fun a ⟨j, h⟩ => .inl ⟨j, (own j a h).1⟩, fun a z => (t.g a z).imp id (Or.imp (fun z => let ⟨j, q, _⟩ := inn a z; ⟨j, q⟩) id)⟩,
    ⟨by rw [wbx_len]; exact r.len, fun j b' e => ?_, fun j k a h1 h2 => r.dis j k a (own j a h1).1 (own k a h2).1, al2, fun j dd a e h2 => ?_, fun j a h => let ⟨o, e⟩ := r.aa j a h; t.dom a o e, tb2⟩⟩
  · rcases slot j b' e with ⟨hm, q⟩ | rfl
    · have qb := r.bd j b' q
      cases b' with
      | un => trivial
      | exc _ => exact bd_exc x qb
      | val d' => obtain ⟨v, e1, e2⟩ := qb; exact ⟨v, e1, e2.ex x⟩
      | own d' =>
        obtain ⟨a, e1, e2, e3⟩ := qb
        have ow : OwI σ ρ j a := ⟨by rw [q]; rfl, e1⟩
        exact ⟨a, e1, noS j a ow hm, e3.ex x (keepO j a ow hm)⟩
      | prm d' =>
        obtain ⟨a, e1, e0, e2, e3⟩ := qb
        have ow : OwI σ ρ j a := ⟨by rw [q]; rfl, e1⟩
        exact ⟨a, e1, e0, noS j a ow hm, e3.ex x (keepO j a ow hm)⟩
      | ob c fs =>
        refine bd_ob x qb fun a e1 => ?_
        have ow : OwI σ ρ j a := ⟨by rw [q]; rfl, e1⟩
        exact ⟨e1, noS j a ow hm, keepO j a ow hm⟩
    · trivial
  · rcases slot j _ e with ⟨hm, q⟩ | h
    · exact r.np j dd a q h2
    · cases h
end
section
variable {X : Cx} {A0 : Ax} {W : WX} {k : Nat} {f : Addr} {fd : FuncData} {ps : List Str} {F : SE} {dvs : List V} {ds : List Value} {dbs : List B} {x : Str} {p pos : Pos} {e : Expr} {es : List Expr} {fa : SA}
abbrev Dfl (K : PySem.W.Frag) (dvs : List V) (dbs : List B) : Prop := Paired (fun v b => ∃ d, b = B.val d ∧ ∀ S H, Dr K S H v d) dvs dbs
theorem Dfl.nil {K : PySem.W.Frag} : Dfl K [] [] := Paired.nil
theorem Dfl.get {K : PySem.W.Frag} : ∀ {dvs : List V} {dbs : List B} {i : Nat} {b : B}, Dfl K dvs dbs → dbs[i]? = some b → ∃ v d, dvs[i]? = some v ∧ b = .val d ∧ ∀ S H, Dr K S H v d
  | [], dbs, i, b, h, e => by cases h; simp at e
  | v :: dvs, dbs, i, b, h, e => by
    cases h with
    | cons a t =>
      cases i with
      | zero =>
        obtain ⟨d, e1, q⟩ := a
        have e2 : _ = b := Option.some.inj e
        exact ⟨v, d, rfl, by rw [← e2, e1], q⟩
      | succ i =>
        obtain ⟨v', d, e1, q⟩ := Dfl.get (i := i) t (by simpa using e)
        exact ⟨v', d, by simpa using e1, q⟩
theorem Dfl.len {K : PySem.W.Frag} {dvs : List V} {dbs : List B} (h : Dfl K dvs dbs) : dvs.length = dbs.length := Paired.length h
/-- the callee runs -/
theorem run_fnG {pins : List (Addr × Obj)} {σ : St} {H : Hp} {s : Shared} {Q : VK} {E : XK} {us : List Value} {vs : List V} {S : Addr → Prop} {bs : List B} (G : FnG X.prog X.w X.K X.mg X.base A0.g k f fd ps F) (hr : Room k X.A) (gx : GX X) (hb : Binds X.K fd ps ds) (hd : Vals dvs ds)
    (hx : ∀ (e : Value) (s' : Shared), CX X.prog X.w X.stack H s E e s' → X.xe e s')
    (I : Inv X pins σ H s) (r : Vals vs us) (hl : (vs ++ dvs).length = ps.length) (hbs : ∀ (i : Nat) (d : PyData), bs[i]? ≠ some (B.own d)) (rp : Rp X.K (A0p A0.g (vs ++ dvs) bs) S H (pst (vs ++ dvs)) bs)
    (h : PostF A0.g X.K X.mg S H (vs ++ dvs) bs (F bs) Q E) : wpAny (model X.prog X.w) X.A (call (.ref f) us) (EP X pins σ Q) X.xe s := by
  have r2 : Vals (vs ++ dvs) (us ++ ds) := r.append hd
  have hl2 : (us ++ ds).length = ps.length := by rw [← r2.length]; exact hl
  refine wpAny_call (codeAny_mono (G.run X.A X.stack s H ⟨us, []⟩ (us ++ ds) (vs ++ dvs) Q E S bs hr gx.gd I.env0 (hb s us I.kIn hl2) r2 hl hbs rp h) fun r s' hq => ?_)
  cases r with
  | error e => exact hx e s' hq
  | ok fl =>
    cases fl with
    | ret u => exact I.after hq
    | next => exact False.elim hq
    | brk => exact False.elim hq
    | cont => exact False.elim hq
def tCallG (G : Sp) (E : St → XK) (t : TA) : TE := fun σ H Q => t σ H fun vs H1 => G vs H1 Q (E σ)
def spG (Γ : Gx) (K : PySem.W.Frag) (mg : Str → Option Value) (n : Nat) (dvs : List V) (F : SE) : Sp := fun vs H Q E => (vs ++ dvs).length = n ∧ ∃ S bs, (∀ (i : Nat) (d : PyData), bs[i]? ≠ some (B.own d)) ∧ Rp K (A0p Γ (vs ++ dvs) bs) S H (pst (vs ++ dvs)) bs ∧ PostF Γ K mg S H (vs ++ dvs) bs (F bs) Q E
theorem pe_callG (gg : FnG X.prog X.w X.K X.mg X.base A0.g k f fd ps F) (hr : Room k X.A) (gx : GX X) (tk : Takes X W) (hg : Gl X x) (hm : X.mg x = some (.ref f)) (hk : PySem.W.keepIn X.K (.ref f) = true) (hb : Binds X.K fd ps ds) (hd : Vals dvs ds)
    {t : TA} (ha : PA X (e :: es) t) (hdb : (x == ("__debug__" : Str)) = false := by decide) (he : starEach (e :: es) X.env = (false, eval e X.env) :: starEach es X.env := by rfl) (hpl : (backTo pos (starEach es X.env)).any (·.1) = false := by rfl) :
    PE X (.Call (.Name x p) (e :: es) [] pos) (tCallG (spG A0.g X.K X.mg ps.length dvs F) (WE W) t) := by
  refine ⟨fun pins s σ H Q I h => ?_⟩
  refine wpAny_Call_Name_kw (ld_glob I hg hm ?_ hdb)
  refine PySem.W.callWith_K (h₀ := X.base) I.ok.mod.kin hk (thn (ha.run pos pins s σ H _ I h) fun us s1 ⟨vs, H1, I1, r, hl, S, bs, hbs, rp, q⟩ => ⟨I1.kIn, ?_⟩) he hpl
  exact run_fnG gg hr gx hb hd (fun e s' c => passAt tk σ pins H1 s1 e s' I1 c) I1 r hl hbs rp q
theorem callG_ok {ms : List Bool} {n : Nat} (hdf : Dfl X.K dvs dbs) (hlen : ∀ vs : List V, ∀ es : List Ev, Paired (fun _ _ => True) vs es → ∀ ρ es' ρ', cv1 ms es ρ = some (es', ρ') → (vs ++ dvs).length = n) :
    ∀ σ H Q, tE (gc X A0 W) (callF ms F dbs fa) σ H Q → tCallG (spG A0.g X.K X.mg n dvs F) (WE W) (tA (gc X A0 W) fa) σ H Q := by
  rintro σ H Q ⟨S, ρ, rp, h⟩
  refine tA_bind (P := fun z => PostE (gc X A0 W) S H σ ρ z Q) exE PostE.bad rp h fun p S1 H1 vs t1 r1 e1 h => ?_
  cases q1 : cv1 ms p.1 p.2 with
  | none => rw [q1] at h; exact h.elim
  | some pr =>
    obtain ⟨es', ρ1⟩ := pr
    rw [q1] at h
    simp only at h
    obtain ⟨S2, t2, r2, e2, _⟩ := cv1_ok t1 r1 e1 q1
    cases q2 : cv2 ρ1 es' with
    | none => rw [q2] at h; exact h.elim
    | some pr2 =>
      obtain ⟨bs, ls⟩ := pr2
      rw [q2] at h
      simp only at h
      obtain ⟨l1, l2, hp⟩ := cv2_ok r2 e2 q2
      have ld := hdf.len
      have hp' : ∀ (i : Nat) (b : B), (bs ++ dbs)[i]? = some b → ∃ v l, (vs ++ dvs)[i]? = some v ∧ (ls ++ dbs.map fun _ => (none : Option Nat))[i]? = some l ∧ Par A0.g X.K S2 H1 σ ρ1 v b l := fun i b hb => by
        by_cases hi : i < bs.length
        · rw [List.getElem?_append_left hi] at hb
          obtain ⟨v, l, e1, e2, q⟩ := hp i b hb
          exact ⟨v, l, by rw [List.getElem?_append_left (by omega)]; exact e1, by rw [List.getElem?_append_left (by omega)]; exact e2, q⟩
        · rw [List.getElem?_append_right (by omega)] at hb
          obtain ⟨v, d, e1, e2, q⟩ := hdf.get hb
          refine ⟨v, none, by rw [List.getElem?_append_right (by omega), l1]; exact e1, ?_, .inl ⟨d, e2, rfl, q _ _⟩⟩
          rw [List.getElem?_append_right (by omega), ← l2, List.getElem?_map, hb]
          rfl
      have hl' : (vs ++ dvs).length = (bs ++ dbs).length := by rw [List.length_append, List.length_append]; omega
      have hlb' : (bs ++ dbs).length = (ls ++ dbs.map fun _ => (none : Option Nat)).length := by rw [List.length_append, List.length_append, List.length_map]; omega
      show spG A0.g X.K X.mg n dvs F vs H1 Q (WE W σ)
      unfold spG
      generalize bs ++ dbs = bs' at h hp' hl' hlb'
      generalize (ls ++ dbs.map fun _ => (none : Option Nat)) = ls' at h hp' hlb'
      have hn := hlen vs p.1 (Paired.mapP e1 fun _ _ _ => trivial) _ _ _ q1
      generalize vs ++ dvs = vs' at hp' hl' hn ⊢
      unfold callR at h
      split at h
      rotate_left
      · exact h.elim
      rename_i dst
      obtain ⟨pr, pb, pown⟩ := par_rp r2 dst hl' hp'
      have hmore : ∀ i a, OwI (pst (vs' ++ [])) (bs' ++ []) i a → i < bs'.length := fun i a ⟨q, _⟩ => by
        by_cases hi : i < bs'.length
        · exact hi
        · rw [List.append_nil, List.getElem?_eq_none (by omega)] at q; cases q
      refine ⟨hn, S2, bs', pb, pr, ?_⟩
      cases ef : F bs' with
      | bad => rw [ef] at h; exact h.elim
      | ex nm ρx =>
        rw [ef] at h
        intro S3 H3 t3 al3 tb3 C hC
        obtain ⟨t4, r4⟩ := backx_rp r2 dst hl' hlb' hp' [] [] hmore al3 tb3 (by rw [List.append_nil, List.append_nil]; exact t3)
        exact h S3 H3 (t2.trans t4) r4 C hC
      | ok pf =>
        obtain ⟨ev, outs⟩ := pf
        rw [ef] at h
        intro S3 H3 v t3 r3 re
        have bk := back_rp r2 dst hl' hlb' hp' [] [] hmore (by rw [List.append_nil, List.append_nil]; exact t3) (by rw [List.append_nil, List.append_nil]; exact r3)
        obtain ⟨t4, r4, sub⟩ := bk
        cases ev with
        | sl i => exact h.elim
        | val d => exact h S3 H3 v (t2.trans t4) r4 re
        | fr d =>
          obtain ⟨a, e1, ⟨h0, h0'⟩, hs, ho, hc⟩ := re
          refine h S3 H3 v (t2.trans t4) r4 ⟨a, e1, ⟨t2.fresh h0, fun j hj => ?_⟩, hs, fun z => ?_, hc⟩
          · obtain ⟨o, eo⟩ := r2.aa j a hj
            rw [h0] at eo; cases eo
          · obtain ⟨i, q⟩ := sub a z
            obtain ⟨_, ⟨o, eo, _⟩⟩ := r2.own q
            rw [h0] at eo; cases eo
theorem cv1_len : ∀ {ms : List Bool} {vs : List V} {es es' : List Ev} {ρ ρ' : List B}, Paired (fun _ _ => True) vs es → cv1 ms es ρ = some (es', ρ') → vs.length = ms.length
  | [], vs, [], _, _, _, h, _ => by cases h; rfl
  | m :: ms, vs, e :: es, es', ρ, ρ', h, q => by
    cases h with
    | cons _ t =>
      unfold cv1 at q
      cases m with
      | true =>
        simp only [if_true] at q
        cases q1 : cv1 ms es ρ with
        | none => rw [q1] at q; cases q
        | some p => obtain ⟨a, b⟩ := p; simp only [List.length_cons]; rw [cv1_len t q1]
      | false =>
        simp only [Bool.false_eq_true, if_false] at q
        cases q1 : shr ρ e with
        | none => rw [q1] at q; cases q
        | some p =>
          rw [q1, Option.bind_some] at q
          cases q2 : cv1 ms es p.2 with
          | none => rw [q2] at q; cases q
          | some p2 => obtain ⟨a, b⟩ := p2; simp only [List.length_cons]; rw [cv1_len t q2]
  | [], _, _ :: _, _, _, _, _, q => by cases q
  | _ :: _, _, [], _, _, _, _, q => by cases q
/-- f(..), f a def of the text; ms: the arguments' modes; the further parameters by their defaults -/
theorem gcallf (ms : List Bool) {dvs : List V} {ds : List Value} {dbs : List B} (gg : FnG X.prog X.w X.K X.mg X.base A0.g k f fd ps F) (hr : Room k X.A) (gx : GX X) (tk : Takes X W) (hm : X.mg x = some (.ref f)) (hk : PySem.W.keepIn X.K (.ref f) = true) (hb : Binds X.K fd ps ds) (hd : Vals dvs ds) (hdf : Dfl X.K dvs dbs)
    (ha : PA X (e :: es) (tA (gc X A0 W) fa)) (hn : (ms.length + dvs.length == ps.length) = true := by rfl) (hg : Gl X x := by rfl) (hdb : (x == ("__debug__" : Str)) = false := by decide) (he : starEach (e :: es) X.env = (false, eval e X.env) :: starEach es X.env := by rfl) (hpl : (backTo pos (starEach es X.env)).any (·.1) = false := by rfl) :
    PE X (.Call (.Name x p) (e :: es) [] pos) (tE (gc X A0 W) (callF ms F dbs fa)) :=
  PE_imp (pe_callG gg hr gx tk hg hm hk hb hd ha hdb he hpl) (callG_ok hdf fun vs es h ρ es' ρ' q => by rw [List.length_append, cv1_len h q]; exact eq_of_beq hn)
end
end G
namespace G
open PySem PySem.Spec PyProof.Rows L2
/-! ### a list that a slot alone holds is changed -/
def ownD : B → Option PyData
  | .own d => some d
  | .prm d => some d
  | _ => none
def reD : B → PyData → B
  | .own _, d => .own d
  | .prm _, d => .prm d
  | b, _ => b
section
variable {K : PySem.W.Frag} {A0 : Ax} {S S0 : Addr → Prop} {H H0 : Hp} {σ : St} {ρ : List B} {O0 : Addr → Prop} {i : Nat}
theorem Ex.upd {a : Addr} {o o' : HO} {d : PyData} (hs : ¬ S a) (e : H a = some o) (c : Ct K S H o d) : Ex S H S (upd H a o') := by
  have ne : ∀ b u, H b = some u → (∀ xs, u ≠ .lst xs) → (∀ xs, u ≠ .dK xs) → (∀ xs, u ≠ .dT xs) → (∀ φ, u ≠ .ext φ) → b ≠ a := fun b u hb n1 n2 n3 n4 z => by
    subst z; rw [e] at hb; cases hb
    cases c with
    | lst _ => exact n1 _ rfl
    | dK _ => exact n2 _ rfl
    | dX _ _ _ => exact n4 _ rfl
  exact ⟨fun _ h => h, fun b u hb _ h => by
    have hne : b ≠ a := fun z => hs (by rw [← z]; exact hb)
    exact h.imp (fun q => by rw [upd_ne hne]; exact q) (fun ⟨q, od, z⟩ => ⟨q, od, by rw [upd_ne hne]; exact z⟩), fun b xs h => by rw [upd_ne (ne b _ h nofun nofun nofun nofun)]; exact h, fun b ob u h => by rw [upd_ne (ne b _ h nofun nofun nofun nofun)]; exact h, fun b fs h => by rw [upd_ne (ne b _ h nofun nofun nofun nofun)]; exact h⟩
end
/-! ### xs.append(e) -/
def appD (d y : PyData) : Option PyData := match d with
  | .list ds => if ds.length < sizeLine then some (.list (ds ++ [y])) else none
  | _ => none
/-- the slot's list after a method with the given data -/
def mutE1 (i : Nat) (mt : PyData → List PyData → Option (PyData × PyData)) (fa : SA) : SE := fun ρ => (fa ρ).bind fun p => match shrs p.2 p.1 with
  | some (ys, ρ1) => (match ρ1[i]? with
    | some b => (match ownD b with
      | some d => (match mt d ys with
        | some (d', v) => .ok (.val v, ρ1.set i (reD b d'))
        | none => .bad)
      | none => .bad)
    | none => .bad)
  | none => .bad
def isLst : PyData → Bool
  | .list _ => true
  | _ => false
def mutE (i : Nat) (mt : PyData → List PyData → Option (PyData × PyData)) (fa : SA) : SE := fun ρ => match (ρ[i]?).bind ownD with
  | some d => if isLst d = true then mutE1 i mt fa ρ else .bad
  | none => .bad
section
variable {X : Cx} {A0 : Ax} {W : WX} {e : Expr} {es : List Expr} {fa : SA} {apos cpos pos : Pos}
def mtApp (d : PyData) (ys : List PyData) : Option (PyData × PyData) := match ys with
  | [y] => (appD d y).map fun d' => (d', PyData.none)
  | _ => none
theorem DrAll.one {K : PySem.W.Frag} {S : Addr → Prop} {H : Hp} {vs : List V} {y : PyData} (h : DrAll K S H vs [y]) : ∃ v, vs = [v] ∧ Dr K S H v y := by
  cases h with
  | cons a b => cases b; exact ⟨_, rfl, a⟩
end
/-! ### xs[k] = e -/
def setD (d k y : PyData) : Option PyData := match d, k with
  | .list ds, .int i => (ixN ds.length i).map fun j => .list (ds.set j y)
  | .dict kvs, k => (keyOf k).bind fun q => if keyed kvs = true ∧ kvs.length < 1000000 then some (.dict (dput kvs q y)) else none
  | _, _ => none
def setS (i : Nat) (fk fe : SE) : SS := fun ρ => (fe ρ).bind fun p => match shr p.2 (settle p.1) with
  | some (y, ρ1) => (match (ρ1[i]?).bind ownD with
    | some _ => (fk ρ1).bind fun q => (match peek q.2 q.1 with
      | some k => (match q.2[i]? with
        | some b => (match ownD b with
          | some d => (match setD d k y with
            | some d' => .ok (.nx (q.2.set i (reD b d')))
            | none => .bad)
          | none => .bad)
        | none => .bad)
      | none => .bad)
    | none => .bad)
  | none => .bad
/-! ### a, b = e1, e2 -/
def resv (ρ : List B) : Ev → Option (Ev × List B)
  | .sl j => (shr ρ (.sl j)).map fun p => (.val p.1, p.2)
  | e => some (e, ρ)
def parS (i j : Nat) (fa fb : SE) : SS := fun ρ => (fa ρ).bind fun p => (fb p.2).bind fun q => match resv q.2 p.1 with
  | some (e1, ρ1) => (match resv ρ1 q.1 with
    | some (e2, ρ2) => (match bindV i e1 ρ2 with
      | .ok ρ3 => (match bindV j e2 ρ3 with
        | .ok ρ4 => .ok (.nx ρ4)
        | _ => .bad)
      | _ => .bad)
    | none => .bad)
  | none => .bad
end G
namespace G
open PySem PySem.Spec PyProof.Rows L2
def wipeB (ρ : List B) : List Nat → List B
  | [] => ρ
  | v :: vs => (wipeB ρ vs).set v .un
def lcL (t : SG) (c : SB) (fe : SE) (vs : List Nat) : Nat → List PyData → List B → Option (List PyData × List B)
  | _, [], ρ => some ([], ρ)
  | n, d :: ds, ρ => match t d ρ with
    | .ok ρ1 => (match c ρ1 with
      | .ok (true, ρ2) => (match fe ρ2 with
        | .ok (e, ρ3) => (match shr ρ3 (settle e) with
          | some (y, ρ4) => if n < sizeLine then (lcL t c fe vs (n + 1) ds (wipeB ρ4 vs)).map fun p => (y :: p.1, p.2) else none
          | none => none)
        | _ => none)
      | .ok (false, ρ2) => lcL t c fe vs n ds (wipeB ρ2 vs)
      | _ => none)
    | _ => none
def lcE (it : SI) (t : SG) (c : SB) (fe : SE) (vs : List Nat) : SE := fun ρ => (it ρ).bind fun p => match lcL t c fe vs 0 p.1 (wipeB p.2 vs) with
  | some (all, ρe) => .ok (.fr (.list all), wipeB ρe vs)
  | none => .bad
def yesB : SB := fun ρ => .ok (true, ρ)
section
variable {K : PySem.W.Frag} {A0 : Ax} {S S0 : Addr → Prop} {H H0 : Hp} {σ σ' : St} {ρ : List B} {O0 O' : Addr → Prop} {vs : List Nat}
theorem wipeB_len : ∀ {vs : List Nat}, (wipeB ρ vs).length = ρ.length
  | [] => rfl
  | v :: vs => by unfold wipeB; rw [List.length_set, wipeB_len]
theorem wipeB_get {k : Nat} : ∀ {vs : List Nat}, (wipeB ρ vs)[k]? = if k ∈ vs then (ρ[k]?).map fun _ => B.un else ρ[k]?
  | [] => by simp [wipeB]
  | v :: vs => by
    unfold wipeB
    by_cases hk : v = k
    · subst hk
      rw [if_pos (List.mem_cons_self ..)]
      by_cases hl : v < ρ.length
      · rw [List.getElem?_set_self (by rw [wipeB_len]; exact hl), List.getElem?_eq_getElem hl]; rfl
      · rw [List.getElem?_eq_none (by rw [List.length_set, wipeB_len]; omega), List.getElem?_eq_none (by omega)]; rfl
    · rw [List.getElem?_set_ne hk, wipeB_get]
      by_cases hm : k ∈ vs
      · rw [if_pos hm, if_pos (List.mem_cons_of_mem _ hm)]
      · rw [if_neg hm, if_neg]
        intro z
        rcases List.mem_cons.mp z with z | z
        · exact hk z.symm
        · exact hm z
/-- slots forgotten; the frame may be another one that agrees on the rest -/
theorem Rp.wiped (r : Rp K A0 S H σ ρ) (hw : wipe σ' vs = wipe σ vs) : Rp K A0 S H σ' (wipeB ρ vs) ∧ ∀ a, Ow σ' (wipeB ρ vs) a → Ow σ ρ a := by
  have same : ∀ k, k ∉ vs → σ'[k]? = σ[k]? := fun k hk => by
    have := congrArg (fun l : St => l[k]?) hw
    simp only [wipe_get, if_neg hk] at this
    exact this
  have own : ∀ k a, OwI σ' (wipeB ρ vs) k a → OwI σ ρ k a := fun k a ⟨h1, h2⟩ => by
    rw [wipeB_get] at h1
    split at h1
    · cases e : ρ[k]? with
      | none => rw [e] at h1; cases h1
      | some b => rw [e] at h1; cases h1
    · rename_i hk
      exact ⟨h1, by rw [← same k hk]; exact h2⟩
  refine ⟨⟨?_, fun k b hb => ?_, fun i j a h1 h2 => r.dis i j a (own i a h1) (own j a h2), r.al, fun k d a h1 h2 => ?_, r.aa, r.tb⟩, fun a ⟨k, h⟩ => ⟨k, own k a h⟩⟩
  · have := congrArg List.length hw
    rw [wipe_length, wipe_length] at this
    rw [wipeB_len, this]; exact r.len
  · rw [wipeB_get] at hb
    split at hb
    · cases e : ρ[k]? with
      | none => rw [e] at hb; cases hb
      | some b0 => rw [e] at hb; cases hb; trivial
    · rename_i hk
      have q := r.bd k b hb
      have sk := same k hk
      cases b with
      | un => trivial
      | exc n => exact ⟨q.1, by rw [sk]; exact q.2⟩
      | val d => obtain ⟨v, e1, e2⟩ := q; exact ⟨v, by rw [sk]; exact e1, e2⟩
      | own d => obtain ⟨v, e1, e2⟩ := q; exact ⟨v, by rw [sk]; exact e1, e2⟩
      | prm d => obtain ⟨v, e1, e2⟩ := q; exact ⟨v, by rw [sk]; exact e1, e2⟩
      | ob c fs => obtain ⟨v, e1, e2⟩ := q; exact ⟨v, by rw [sk]; exact e1, e2⟩
  · rw [wipeB_get] at h1
    split at h1
    · cases e : ρ[k]? with
      | none => rw [e] at h1; cases h1
      | some b => rw [e] at h1; cases h1
    · rename_i hk
      exact r.np k d a h1 (by rw [← same k hk]; exact h2)
theorem wipe_wipe : wipe (wipe σ vs) vs = wipe σ vs := by
  apply List.ext_getElem?
  intro k
  rw [wipe_get, wipe_get]
  by_cases hk : k ∈ vs
  · rw [if_pos hk, if_pos hk]
    cases σ[k]? <;> rfl
  · rw [if_neg hk, if_neg hk]
theorem Ex.free {a : Addr} {xs : List V} {o' : HO} (hs : ¬ S a) (e : H a = some (.lst xs)) : Ex S H S (L2.upd H a o') := by
  refine ⟨fun _ h => h, fun b u hb _ h => ?_, fun b ys h => ?_, fun b ob u h => ?_, fun b fs h => ?_⟩
  · have hne : b ≠ a := fun z => hs (by rw [← z]; exact hb)
    exact h.imp (fun q => by rw [upd_ne hne]; exact q) fun ⟨q, od, z⟩ => ⟨q, od, by rw [upd_ne hne]; exact z⟩
  · have hne : b ≠ a := fun z => by subst z; rw [e] at h; cases h
    rw [upd_ne hne]; exact h
  · have hne : b ≠ a := fun z => by subst z; rw [e] at h; cases h
    rw [upd_ne hne]; exact h
  · have hne : b ≠ a := fun z => by subst z; rw [e] at h; cases h
    rw [upd_ne hne]; exact h
theorem Rp.updFree (r : Rp K A0 S H σ ρ) {a : Addr} {xs : List V} {o' : HO} (hs : ¬ S a) (ho : ¬ Ow σ ρ a) (e : H a = some (.lst xs)) : Rp K A0 S (upd H a o') σ ρ := by
  have x : Ex S H S (upd H a o') := Ex.free hs e
  have keep : ∀ k c, OwI σ ρ k c → ∀ u, H c = some u → (upd H a o') c = some u := fun k c h u hc => by
    have hne : c ≠ a := fun z => ho ⟨k, by rw [← z]; exact h⟩
    rw [upd_ne hne]; exact hc
  have some_ : ∀ c, (∃ u, H c = some u) → ∃ u, (upd H a o') c = some u := fun c ⟨u, hc⟩ => by
    by_cases z : c = a
    · subst z; exact ⟨o', upd_same⟩
    · exact ⟨u, by rw [upd_ne z]; exact hc⟩
  refine ⟨r.len, fun k b hb => ?_, r.dis, fun c h => some_ c (r.al c h), r.np, fun j c h => some_ c (r.aa j c h), tabs_upd r.tb e (fun z => z) (fun _ _ z => nomatch z)⟩
  have q := r.bd k b hb
  cases b with
  | un => trivial
  | exc _ => exact bd_exc x q
  | val d => obtain ⟨v, e1, e2⟩ := q; exact ⟨v, e1, e2.ex x⟩
  | own d => obtain ⟨c, e1, e2, e3⟩ := q; exact ⟨c, e1, e2, e3.ex x (keep k c ⟨by rw [hb]; rfl, e1⟩)⟩
  | prm d => obtain ⟨c, e1, e0, e2, e3⟩ := q; exact ⟨c, e1, e0, e2, e3.ex x (keep k c ⟨by rw [hb]; rfl, e1⟩)⟩
  | ob c fs => exact bd_ob x q fun c e1 => ⟨e1, (r.own ⟨by rw [hb]; rfl, e1⟩).1, keep k c ⟨by rw [hb]; rfl, e1⟩⟩
theorem Tr.updFree (t : Tr S0 H0 O0 S H O') {a : Addr} {o o' : HO} (h0 : H0 a = none) (e : H a = some o) : Tr S0 H0 O0 S (upd H a o') O' := by
  refine ⟨t.s, fun b u h n => ?_, fun b u h => ?_, t.o, t.g⟩
  · have hne : b ≠ a := fun z => by subst z; rw [h0] at h; cases h
    rcases t.keep b u h n with q | ⟨q1, q2, od, q3⟩ | ⟨q1, u', q2, q3⟩
    · exact .inl (by rw [upd_ne hne]; exact q)
    · exact .inr (.inl ⟨q1, q2, od, by rw [upd_ne hne]; exact q3⟩)
    · exact .inr (.inr ⟨q1, u', q2, by rw [upd_ne hne]; exact q3⟩)
  · obtain ⟨u', e'⟩ := t.dom b u h
    by_cases z : b = a
    · subst z; exact ⟨o', upd_same⟩
    · exact ⟨u', by rw [upd_ne z]; exact e'⟩
end
section
variable {X : Cx} {A0 : Ax} {W : WX} {elt tg iter : Expr} {ifs : List Expr} {scope : Scope} {own : List (Str × Nat)} {pos : Pos} {fi : SI} {ft : SG} {fc : SB} {fe : SE}
abbrev W0 : WX := fun _ _ _ _ => False
abbrev gb (K : PySem.W.Frag) (mg : Str → Option Value) (A0 : Ax) : Gc := ⟨K, mg, A0, W0⟩
theorem lc_ok {g : Gc} {vs : List Nat} : ∀ σ H Q, tE g (lcE fi ft fc fe vs) σ H Q → tLc (tI g fi) (tG (gb g.K g.mg g.A0) vs ft) (tT (gb g.K g.mg g.A0) fc) (tE (gb g.K g.mg g.A0) fe) vs σ H Q := by
  rintro σ H Q ⟨S, ρ, r, h⟩
  refine tI_bind (P := fun z => PostE g S H σ ρ z Q) exE PostE.bad r h fun p S1 H1 J t1 r1 ok h1 => ?_
  obtain ⟨ds, ρ1⟩ := p
  simp only at h1
  cases eq : lcL ft fc fe vs 0 ds (wipeB ρ1 vs) with
  | none => rw [eq] at h1; exact h1.elim
  | some pr =>
    obtain ⟨all, ρe⟩ := pr
    rw [eq] at h1
    simp only at h1
    intro D hD
    have hD0 : H D = none := t1.fresh hD
    obtain ⟨rw1, ow1⟩ := r1.wiped (σ' := wipe σ vs) (vs := vs) wipe_wipe
    have noA : ∀ j, g.A0 j ≠ some D := fun j hj => by obtain ⟨o, e⟩ := r1.aa j D hj; rw [hD] at e; cases e
    refine ⟨fun i m H' => ∃ S' ρ' acc accV rest, i + m = ds.length ∧ Rp g.K g.A0 S' H' (wipe σ vs) ρ' ∧ ItOk g.K J S' H' ds ∧ Tr S H (Ow σ ρ) S' H' (Ow (wipe σ vs) ρ') ∧ H' D = some (.lst accV) ∧ DrAll g.K S' H' accV acc ∧ ¬ S' D ∧ ¬ Ow (wipe σ vs) ρ' D ∧
        lcL ft fc fe vs accV.length (ds.drop i) ρ' = some (rest, ρe) ∧ acc ++ rest = all, ⟨ds.length, ?_⟩, ?_⟩
    · have sm : L2.Same H1 (upd H1 D (.lst [])) := same_alloc hD
      have nS : ¬ S1 D := fun z => by obtain ⟨o, e⟩ := r1.al D z; rw [hD] at e; cases e
      refine ⟨S1, wipeB ρ1 vs, [], [], all, by omega, rw1.same sm, ok.mono (Ex.same sm), ?_, upd_same, .nil, nS, fun z => ?_, eq, rfl⟩
      · have tt := t1.same sm
        exact ⟨tt.s, tt.keep, tt.dom, fun a z => tt.o a (ow1 a z), tt.g⟩
      · obtain ⟨o, e⟩ := r1.alive (ow1 D z); rw [hD] at e; cases e
    · rintro i m H' ⟨S', ρ', acc, accV, rest, hm, rp, ok', t', hl, dacc, nS, nO, hL, hall⟩
      cases m with
      | zero =>
        have hi : i = ds.length := by omega
        subst hi
        rw [List.drop_length] at hL
        have hL' : some (([] : List PyData), ρ') = some (rest, ρe) := hL
        cases hL'
        rw [List.append_nil] at hall
        subst hall
        obtain ⟨rf, of⟩ := rp.wiped (σ' := σ) (vs := vs) (by rw [wipe_wipe])
        refine .inl ⟨ok'.end_ S' H' (Ex.same fun _ _ e => e), h1 S' H' (.ref D) ⟨t'.s, t'.keep, t'.dom, fun a z => t'.o a (of a z), t'.g⟩ rf ⟨D, rfl, ⟨hD0, noA⟩, nS, fun z => nO (of D z), _, hl, .lst dacc⟩⟩
      | succ n =>
        have hlt : i < ds.length := by omega
        have e : ds[i]? = some ds[i] := List.getElem?_eq_getElem hlt
        obtain ⟨hgo, hy⟩ := ok'.at_ S' H' i _ (Ex.same fun _ _ e => e) e
        rw [drop_cons e] at hL
        refine .inr ⟨hgo, fun H'' => ∃ S' ρ' acc accV rest, i + 1 + n = ds.length ∧ Rp g.K g.A0 S' H'' (wipe σ vs) ρ' ∧ ItOk g.K J S' H'' ds ∧ Tr S H (Ow σ ρ) S' H'' (Ow (wipe σ vs) ρ') ∧ H'' D = some (.lst accV) ∧ DrAll g.K S' H'' accV acc ∧ ¬ S' D ∧ ¬ Ow (wipe σ vs) ρ' D ∧
          lcL ft fc fe vs accV.length (ds.drop (i + 1)) ρ' = some (rest, ρe) ∧ acc ++ rest = all, fun H'' q => ⟨n, Nat.lt_succ_self n, q⟩, fun x H2 y => ?_⟩
        obtain ⟨sm, dx⟩ := hy x H2 y
        have tg0 : Tr S' H' (Ow (wipe σ vs) ρ') S' H2 (Ow (wipe σ vs) ρ') := Tr.grow sm
        refine ⟨S', ρ', ds[i], rp.same sm, dx, ?_⟩
        unfold lcL at hL
        cases e1 : ft ds[i] ρ' with
        | bad => rw [e1] at hL; cases hL
        | ex k ρ2 => rw [e1] at hL; cases hL
        | ok ρ2 =>
          rw [e1] at hL
          simp only at hL
          intro S2 H3 σ2 t2 r2 w2
          have w2' : wipe σ2 vs = wipe σ vs := by rw [w2, wipe_wipe]
          refine ⟨w2', S2, ρ2, r2, ?_⟩
          have t02 := tg0.trans t2
          cases e2 : fc ρ2 with
          | bad => rw [e2] at hL; cases hL
          | ex k ρ3 => rw [e2] at hL; cases hL
          | ok pb =>
            obtain ⟨b, ρ3⟩ := pb
            rw [e2] at hL
            intro S3 H4 t3 r3
            have t03 := t02.trans t3
            -- the new list is as it was
            have keepD : ∀ {S4 : Addr → Prop} {H5 : Hp} {O5 : Addr → Prop}, Tr S' H' (Ow (wipe σ vs) ρ') S4 H5 O5 → H5 D = some (.lst accV) ∧ ¬ S4 D ∧ ¬ O5 D := fun t => by
              refine ⟨t.keepN hl nO fun z => z, fun z => ?_, fun z => ?_⟩
              · rcases t.g D z with z | z | z
                · exact nS z
                · exact nO z
                · rw [hl] at z; cases z
              · rcases t.o D z with z | z
                · exact nO z
                · rw [hl] at z; cases z
            cases b with
            | false =>
              simp only at hL
              refine iteF ?_
              obtain ⟨r4, o4⟩ := r3.wiped (σ' := wipe σ vs) (vs := vs) (by rw [wipe_wipe, w2'])
              obtain ⟨k1, k2, k3⟩ := keepD t03
              have tt := t'.trans t03
              exact ⟨S3, wipeB ρ3 vs, acc, accV, rest, by omega, r4, ok'.mono (rp.ex t03), ⟨tt.s, tt.keep, tt.dom, fun a z => tt.o a (o4 a z), tt.g⟩, k1, dacc.ex (rp.ex t03), k2, fun z => k3 (o4 D z), hL, hall⟩
            | true =>
              simp only at hL
              refine iteT ⟨S3, ρ3, r3, ?_⟩
              cases e3 : fe ρ3 with
              | bad => rw [e3] at hL; cases hL
              | ex k ρ4 => rw [e3] at hL; cases hL
              | ok pe =>
                obtain ⟨ev, ρ4⟩ := pe
                rw [e3] at hL
                simp only at hL
                intro S4 H5 v t4 r4 re
                obtain ⟨S4', t4', r4', re', x4⟩ := settle_ok t4 r4 re
                cases e4 : shr ρ4 (settle ev) with
                | none => rw [e4] at hL; cases hL
                | some ps =>
                  obtain ⟨yd, ρ5⟩ := ps
                  rw [e4] at hL
                  simp only at hL
                  obtain ⟨S5, t5, r5, dy, x5⟩ := shr_ok t4' r4' re' e4
                  have t05 := t03.trans t5
                  obtain ⟨k1, k2, k3⟩ := keepD t05
                  split at hL
                  rotate_left
                  · cases hL
                  rename_i hz
                  cases e5 : lcL ft fc fe vs (accV.length + 1) (ds.drop (i + 1)) (wipeB ρ5 vs) with
                  | none => rw [e5] at hL; cases hL
                  | some pr =>
                    obtain ⟨rest', ρe'⟩ := pr
                    rw [e5] at hL
                    cases hL
                    obtain ⟨r6, o6⟩ := r5.wiped (σ' := wipe σ vs) (vs := vs) (by rw [wipe_wipe, w2'])
                    have tt := t'.trans t05
                    have tt6 : Tr S H (Ow σ ρ) S5 H5 (Ow (wipe σ vs) (wipeB ρ5 vs)) := ⟨tt.s, tt.keep, tt.dom, fun a z => tt.o a (o6 a z), tt.g⟩
                    have nO6 : ¬ Ow (wipe σ vs) (wipeB ρ5 vs) D := fun z => k3 (o6 D z)
                    have xu : Ex S5 H5 S5 (upd H5 D (.lst (accV ++ [v]))) := Ex.free k2 k1
                    refine ⟨accV, k1, hz, S5, wipeB ρ5 vs, acc ++ [yd], accV ++ [v], rest', by omega, r6.updFree k2 nO6 k1, ok'.mono ((rp.ex t05).trans xu), tt6.updFree hD0 k1, upd_same, ((dacc.ex (rp.ex t05)).ex xu).append (.cons (dy.ex xu) .nil), k2, nO6, ?_, ?_⟩
                    · rw [List.length_append]; exact e5
                    · rw [List.append_assoc]; exact hall
theorem glc (vs : List Nat) (hvs : vs = own.map (·.2)) (hc : X.calm = true) (hN : X.N.Nodup) (hi : PI X tg iter (tI (gc X A0 W) fi)) (ok : BlkOk X.N X.env.scope scope own)
    (hg : ∀ (s : Shared) (H : Hp) (C : Addr) (cl : List (Str × Addr)) (fp : List Addr), PG (X.blk s H scope (compEnvC scope cl C X.env) fp) tg (tG (gb X.K X.mg A0) vs ft)) (ht : ∀ (s : Shared) (H : Hp) (C : Addr) (cl : List (Str × Addr)) (fp : List Addr), PTs (X.blk s H scope (compEnvC scope cl C X.env) fp) ifs (tT (gb X.K X.mg A0) fc))
    (he : ∀ (s : Shared) (H : Hp) (C : Addr) (cl : List (Str × Addr)) (fp : List Addr), PE (X.blk s H scope (compEnvC scope cl C X.env) fp) elt (tE (gb X.K X.mg A0) fe)) (hs : ∀ x, foldedSetIterable iter X.env x = pure x := by intro _; rfl) :
    PE X (.ListComp elt [⟨tg, iter, ifs, 0⟩] scope pos) (tE (gc X A0 W) (lcE fi ft fc fe vs)) := by
  subst hvs
  exact PE_imp (pe_lc hc hN hi ok hg ht he hs) (lc_ok (g := gc X A0 W))
theorem gts_nil {Y : Cx} {g : Gc} : PTs Y [] (tT g yesB) := by
  refine ⟨fun pins s σ H Q I h => pts_nil.run pins s σ H Q I ?_⟩
  obtain ⟨S, ρ, r, h⟩ := h
  exact h S H Tr.refl r
theorem gts_one {Y : Cx} {g : Gc} {c : Expr} {f : SB} (h : PT Y c (tT g f)) : PTs Y [c] (tT g f) := pts_one h
end
end G
namespace G
open PySem PySem.Spec PyProof.Rows L2
theorem dr_ints {K : PySem.W.Frag} {S : Addr → Prop} {H : Hp} : ∀ (ns : List Int), DrAll K S H (ns.map V.int) (ns.map PyData.int)
  | [] => .nil
  | n :: ns => .cons (.int n) (dr_ints ns)
theorem rp_script {K : PySem.W.Frag} {H : Hp} {a : Addr} {ns : List Int} {Γ : Gx} (h : LstR K H a (ns.map V.int)) (tb : LamX.Tabs Γ.T H) :
    Rp K (A0p Γ [V.ref a] [B.val (.list (ns.map PyData.int))]) (fun _ => False) H (pst [V.ref a]) [B.val (.list (ns.map PyData.int))] := by
  have no : ∀ i : Nat, isOw ([B.val (.list (ns.map PyData.int))][i]?) = true → False := fun i h => by
    cases i with
    | zero => cases h
    | succ i => cases h
  refine ⟨rfl, fun i b hb => ?_, fun i j x h1 _ => (no i h1.1).elim, fun _ h => h.elim, fun i d x h1 _ => ?_, fun i x h => ?_, tb⟩
  · match i, hb with
    | 0, hb =>
      cases hb
      exact ⟨V.ref a, rfl, .lstR h (dr_ints ns)⟩
    | i + 1, hb => cases hb
  · match i, h1 with
    | 0, h1 => cases h1
    | i + 1, h1 => cases h1
  · obtain ⟨⟨d, e⟩ | ⟨d, d', e⟩, _⟩ := A0p_ok h
    · match i, e with
      | 0, e => cases e
      | i + 1, e => cases e
    · match i, e with
      | 0, e => cases e
      | i + 1, e => cases e
/-- the end: a law's contract at the heap behind the top; cs: the code objects that make lambdas, and their tables -/
theorem end_call {P : Program} {w : World} {K : PySem.W.Frag} {mg mb : Str → Option Value} {k : Nat} {fa a : Addr} {fd : FuncData} {x : Str} {F : SE} {s₁ : Shared} {vs : List Value} {ns : List Int} {Γ : Gx} {cs : List (Addr × Addr)}
    (KX : K.In s₁.heap) (hns : s₁.heap.Ns mainGlobals mg) (hb : s₁.heap.Ns builtinsNs mb) (hbb : ∀ x : Str, x ≠ "__name__" → mb x = bootBuiltins x) (hlim : s₁.heap.NoLimit) (hsy : ∃ mm, s₁.heap.Ns sysModules mm) (hg : s₁.gens = #[])
    (hT : ∀ p ∈ cs, s₁.heap.get? p.2 = some { cls := .none, data := .fields #[] }) (nT : ∀ p ∈ cs, K.lookup p.2 = none) (C : ∀ p ∈ cs, PySem.W.CodeHd s₁.heap p.1 p.2)
    (hbm : ∃ (bm : Addr) (ob : Obj), mg "__builtins__" = some (.ref bm) ∧ bm ≠ builtinsNs ∧ s₁.heap.get? bm = some ob ∧ ob.cls = .type "module" ∧ ob.dict = some builtinsNs ∧ ob.data = .plain)
    (hΓ : ∀ q ∈ Γ.T, q.1 ∈ cs.map (·.2))
    (ha : s₁.heap.get? a = some { cls := .type "list", data := .seq vs.toArray }) (hi : IntsAre vs ns) (hl : ns.length ≤ sizeLine) (hr : Room k callerA)
    (hF : ∀ base : Heap, K.In base → base.Ns mainGlobals mg → SysOk base → (∀ p ∈ cs, LamX.TabB base mg p.1 p.2) → FnG P w K mg base Γ k fa fd [x] F) (hbind : ∀ (s : Shared) (u : Value), BindsTo s fd ⟨[u], []⟩ [(x, u)])
    (hlaw : ∃ ρ, F [B.val (.list (ns.map PyData.int))] = .ok (.val (.bool true), ρ)) :
    codeAny (model P w) callerA (.call (.ref fa) ⟨[.ref a], []⟩) (fun r s' => r = .ok (.ret (.bool true)) ∧ OldK s₁.heap s'.heap ∧ s'.os = s₁.os ∧ AllBare s'.gens) s₁ := by
  have rv := vals_ints hi
  have hlen := hi.length
  obtain ⟨ρ, hlaw⟩ := hlaw
  have isT : ∀ b : Addr, b ∈ cs.map (·.2) → s₁.heap.get? b = some { cls := .none, data := .fields #[] } := fun b hb => by
    obtain ⟨p, hp, e⟩ := List.mem_map.mp hb
    rw [← e]
    exact hT p hp
  have aT : a ∉ cs.map (·.2) := fun z => by
    have q := isT a z
    rw [ha] at q
    have z' : Data.seq vs.toArray _ = Data.fields #[] := congrArg Obj.data (Option.some.inj q)
    cases z'
  have memT : ∀ p ∈ cs, p.2 ∈ cs.map (·.2) := fun p hp => List.mem_map.mpr ⟨p, hp, rfl⟩
  -- nothing is told but the tables and, it may be, the script
  have core : ∀ H : Hp, (∀ b ∈ cs.map (·.2), H b = some (.tbl #[])) → (∀ b, H b = none ∨ b ∈ cs.map (·.2) ∨ (b = a ∧ K.lookup a = none ∧ ∃ o xs, H b = some (.frz o (.lst xs)))) → LstR K H a (ns.map V.int) → HOk P w H s₁.heap →
      codeAny (model P w) callerA (.call (.ref fa) ⟨[.ref a], []⟩) (fun r s' => r = .ok (.ret (.bool true)) ∧ OldK s₁.heap s'.heap ∧ s'.os = s₁.os ∧ AllBare s'.gens) s₁ := by
    intro H hH hO hR hok
    have noD : ∀ {b : Addr} {o : Obj}, s₁.heap.get? b = some o → (∀ vs n, o.data ≠ .seq vs n) → o.data ≠ .fields #[] → H b = none := fun {b o} e h1 h2 => by
      rcases hO b with q | q | ⟨rfl, _⟩
      · exact q
      · rw [isT b q] at e
        cases e
        exact (h2 rfl).elim
      · rw [ha] at e
        cases e
        exact (h1 _ _ rfl).elim
    have stay : ∀ {b : Addr} {o : Obj} {es : Array DictEntry} {ep : Nat}, s₁.heap.get? b = some o → o.data = .dict es ep → (hidT s₁.heap H).get? b = some o := fun {b o es ep} e d => hidT_get e (noD e (fun vs n z => by rw [d] at z; cases z) fun z => by rw [d] at z; cases z)
    have nsS : ∀ {b : Addr} {m : Str → Option Value}, s₁.heap.Ns b m → (hidT s₁.heap H).Ns b m := fun ⟨o, es, ep, e, d, r⟩ => ⟨o, es, ep, stay e d, d, r⟩
    have inK : K.In (hidT s₁.heap H) := fun b o e => hidT_get (KX b o e) (by
      rcases hO b with q | q | ⟨rfl, q, _⟩
      · exact q
      · obtain ⟨p, hp, ep⟩ := List.mem_map.mp q
        rw [← ep, nT p hp] at e
        cases e
      · rw [q] at e
        cases e)
    have e0 : Env0 P w K mg (hidT s₁.heap H) callerA [] s₁ H := ⟨rfl, ⟨inK, nsS hns, ⟨mb, nsS hb, hbb⟩, let ⟨mc, h1, h2⟩ := hlim; ⟨mc, nsS h1, h2⟩⟩, fun b o e => of_hidT e, Nat.le_of_eq (hidT_size _ _), trivial, fun b hb => absurd (show b ∈ ([] : List Addr) from hb) (by simp), hok, .of_eq hg⟩
    have sys : SysOk (hidT s₁.heap H) := let ⟨mm, h⟩ := hsy; let ⟨o, es, ep, e, d, _⟩ := nsS h; ⟨o, es, ep, e, d⟩
    have TB : ∀ p ∈ cs, LamX.TabB (hidT s₁.heap H) mg p.1 p.2 := fun p hp => by
      have hTp := hT p hp
      refine ⟨?_, ?_, fun z => ?_⟩
      · obtain ⟨o, us, file, tf, flags, tg, inF, text, tt, e1, r1, r2, r3, r4, r5, r6, r7, r8, hne⟩ := C p hp
        refine ⟨o, us, file, tf, flags, tg, inF, text, tt, hidT_get e1 (noD e1 (fun vs n z => ?_) fun z => ?_), r1, r2, r3, r4, r5, r6, r7, r8, hne⟩
        · rw [r2] at z
          cases z
        · rw [r2] at z
          cases z
          simp at r3
      · obtain ⟨bm, ob, b1, b2, b3, b4, b5, b6⟩ := hbm
        have nG : bm ≠ mainGlobals := fun q => by
          obtain ⟨o, es, ep, e, hd, _⟩ := hns
          rw [q, e] at b3
          cases b3
          rw [hd] at b6
          cases b6
        have nP : bm ≠ p.2 := fun q => by
          rw [q, hTp] at b3
          cases b3
          cases b6
        refine ⟨bm, ob, b1, b2, nG, nP, hidT_get b3 (noD b3 (fun vs n z => ?_) fun z => ?_), b4, b5, b6⟩
        · rw [b6] at z
          cases z
        · rw [b6] at z
          cases z
      · obtain ⟨o, es, ep, e, hd, _⟩ := hns
        rw [z, hTp] at e
        cases e
        cases hd
    have tbs : LamX.Tabs Γ.T H := fun q hq => LamX.TabS.nil (hH _ (hΓ q hq))
    refine codeAny_mono ((hF _ inK (nsS hns) sys TB).run callerA [] s₁ H ⟨[.ref a], []⟩ [.ref a] [.ref a] (fun v _ => v = .bl true) (fun _ _ _ => False) (fun _ => False) [B.val (.list (ns.map PyData.int))] hr rfl e0 (hbind s₁ (.ref a)) (.cons rfl .nil) rfl (fun i d h => ?_) (rp_script hR tbs) ?_) fun r s' h => ?_
    · match i, h with
      | 0, h => cases h
      | i + 1, h => cases h
    · rw [hlaw]
      intro S' H' v t r' re
      have re : Dr K S' H' v (.bool true) := re
      cases re with
      | bl => rfl
      | obj _ _ c => cases c
    · cases r with
      | error e =>
        obtain ⟨_, _, _, _, _, _, _, _, _, _, _, _, q⟩ := (show CX P w [] H s₁ (fun _ _ _ => False) e s' from h)
        exact q.elim
      | ok fl =>
        cases fl with
        | next => exact False.elim h
        | brk => exact False.elim h
        | cont => exact False.elim h
        | ret u =>
          obtain ⟨v, H', os, bare, un, hok', r', q⟩ := h
          have q' : v = .bl true := q
          subst q'
          obtain rfl : u = Value.bool true := r'
          have key : ∀ b o, b ∉ cs.map (·.2) → s₁.heap.get? b = some o → s'.heap.get? b = some o := fun b o nb e => by
            rcases hO b with q | q | ⟨_, _, ob, xs, z⟩
            · exact un.keep b o e q (fun z => absurd (show b ∈ ([] : List Addr) from z) (by simp)) (by simp)
            · exact absurd q nb
            · obtain ⟨e1, _⟩ := hok b _ z
              obtain ⟨e2, _⟩ := hok' b _ (un.frzs b ob _ z)
              rw [e] at e1
              cases e1
              exact e2
          have grown : ∀ p ∈ cs, ∃ more : Array Value, s'.heap.get? p.2 = some { cls := .none, data := .fields more } := fun p hp => by
            obtain ⟨more, z⟩ := un.tbls p.2 #[] (hH _ (memT p hp))
            exact ⟨_, hok' p.2 _ z⟩
          refine ⟨rfl, ⟨fun b o e => ?_, fun b o e => ?_⟩, os, bare⟩
          · by_cases hb : b ∈ cs.map (·.2)
            · obtain ⟨p, hp, ep⟩ := List.mem_map.mp hb
              obtain ⟨more, hm⟩ := grown p hp
              rw [← ep] at e ⊢
              rw [hT p hp] at e
              cases e
              exact .inr (.inl ⟨((C p hp).tab (hT p hp)).isCodeTable, rfl, #[], more, rfl, by rw [Array.empty_append]; exact hm⟩)
            · exact .inl (key b o hb e)
          · by_cases hb : b ∈ cs.map (·.2)
            · obtain ⟨p, hp, ep⟩ := List.mem_map.mp hb
              obtain ⟨more, hm⟩ := grown p hp
              rw [← ep]
              exact ⟨_, hm⟩
            · exact ⟨o, key b o hb e⟩
  cases hk : K.lookup a with
  | some o =>
    have e := KX a o hk
    rw [ha] at e
    cases e
    refine core (fun b => if b ∈ cs.map (·.2) then some (.tbl #[]) else none) (fun b hb => if_pos hb) (fun b => ?_) (.inr ⟨vs, _, hk, by omega, rv⟩) fun b u z => ?_
    · by_cases hb : b ∈ cs.map (·.2)
      · exact .inr (.inl hb)
      · exact .inl (if_neg hb)
    · by_cases hb : b ∈ cs.map (·.2)
      · have z' := (if_pos hb).symm.trans z
        cases z'
        exact isT b hb
      · have z' := (if_neg hb).symm.trans z
        cases z'
  | none =>
    refine core (fun b => if b = a then some (.frz { cls := .type "list", data := .seq vs.toArray } (.lst (ns.map V.int))) else if b ∈ cs.map (·.2) then some (.tbl #[]) else none) (fun b hb => (if_neg (show ¬ b = a from fun z => aT (by rw [← z]; exact hb))).trans (if_pos hb)) (fun b => ?_) (.inl ⟨{ cls := .type "list", data := .seq vs.toArray }, if_pos rfl⟩) fun b u z => ?_
    · by_cases hb : b = a
      · exact .inr (.inr ⟨hb, hk, _, _, if_pos hb⟩)
      · by_cases hb2 : b ∈ cs.map (·.2)
        · exact .inr (.inl hb2)
        · exact .inl ((if_neg hb).trans (if_neg hb2))
    · by_cases hb : b = a
      · have z' := (if_pos hb).symm.trans z
        cases z'
        subst hb
        exact ⟨ha, by rw [List.length_map]; exact hl, vs, _, rv, ha⟩
      · have z1 := (if_neg hb).symm.trans z
        by_cases hb2 : b ∈ cs.map (·.2)
        · have z' := (if_pos hb2).symm.trans z1
          cases z'
          exact isT b hb2
        · have z' := (if_neg hb2).symm.trans z1
          cases z'
/-- from k_head's goal to the mirror -/
theorem end_walk {l : PySem.W.OpenLaw} {n k : Nat} {q : Program} {loose : List Str} {XP : (Str → Option Value) → Heap → Prop} {YP : World → Heap → Prop} {d : DefRec} {K : Params → PySem.W.Frag} {x : Str} {F : Params → SE}
    (hn : l.most = some n) (hn2 : n ≤ sizeLine) (hdf : d.params.defaults = []) (hr : Room k callerA) (him : importsNone q = true)
    (hY : ∀ (w : World) (h : Heap), YP w h → (K w.params).In h)
    (hF : ∀ (w : World) (mg : Str → Option Value) (fa : Addr) (h : Heap), YP w h → (K w.params).In h → h.Ns mainGlobals mg → mg d.name = some (.ref fa) →
      ∃ (fd : FuncData) (cs : List (Addr × Addr)) (Γ : Gx), ((∀ p ∈ cs, h.get? p.2 = some { cls := .none, data := .fields #[] }) ∧ (∀ p ∈ cs, (K w.params).lookup p.2 = none) ∧ (∀ p ∈ cs, PySem.W.CodeHd h p.1 p.2) ∧ ∀ q ∈ Γ.T, q.1 ∈ cs.map (·.2)) ∧ (∀ (s : Shared) (u : Value), BindsTo s fd ⟨[u], []⟩ [(x, u)]) ∧
        ∀ base : Heap, (K w.params).In base → base.Ns mainGlobals mg → SysOk base → (∀ p ∈ cs, LamX.TabB base mg p.1 p.2) → FnG l.prog w (K w.params) mg base Γ k fa fd [x] (F w.params))
    (hlaw : ∀ (p : Params) (ns : List Int), ns.length ≤ n → ∃ ρ, F p [B.val (.list (ns.map PyData.int))] = .ok (.val (.bool true), ρ)) :
    PySem.W.WalkO q loose XP YP l.row.toRowW d [] (fun f vs => PySem.call f vs) := by
  refine Att.attach_call hn hdf fun w s₀ s₁ mg mb fa o pm cd doc a vs ns G Y ho hd hcd hmg hobj hints hlen hg => ?_
  have KX := hY w _ Y
  obtain ⟨fd, cs, Γ, ⟨hT, nT, C, hΓ⟩, hb, hF⟩ := hF w mg fa _ Y KX G.T.g hmg
  obtain ⟨mm, hs, _⟩ := (G.T.seer him).mods
  exact end_call KX G.T.g G.T.b G.T.builtins G.T.nolimit ⟨mm, hs⟩ hg hT nT C G.T.bmain hΓ hobj hints (Nat.le_trans hlen hn2) hr hF hb (hlaw w.params ns hlen)
/-- no lambda is made -/
theorem noTabs {K : PySem.W.Frag} {h : Heap} {es : List (Str × Addr)} : (∀ p ∈ ([] : List (Addr × Addr)), h.get? p.2 = some { cls := .none, data := .fields #[] }) ∧ (∀ p ∈ ([] : List (Addr × Addr)), K.lookup p.2 = none) ∧ (∀ p ∈ ([] : List (Addr × Addr)), PySem.W.CodeHd h p.1 p.2) ∧ ∀ q ∈ ({ T := [], es := es } : Gx).T, q.1 ∈ ([] : List (Addr × Addr)).map (·.2) :=
  ⟨fun _ h => (nomatch h), fun _ h => (nomatch h), fun _ h => (nomatch h), fun _ h => (nomatch h)⟩
end G
namespace G
open PySem PySem.Spec PyProof.Rows L2
/-! ### the defs of the text -/
/-- a def of the module's top -/
structure FnK (K : PySem.W.Frag) (mg : Str → Option Value) (dV : Value) (x : Str) (st : Stmt) (ps : List Str) (f : Addr) (fd : FuncData) : Prop where
  at_ : mg x = some (.ref f)
  kp : PySem.W.keepIn K (.ref f) = true
  ex : FnEx K dV x x st f fd
structure CalledG (P : Program) (w : World) (K : PySem.W.Frag) (mg : Str → Option Value) (base : Heap) (Γ : Gx) (k : Nat) (x : Str) (ps : List Str) (F : SE) (dbs : List B) : Prop where
  ex : ∃ (f : Addr) (fd : FuncData) (dvs : List V) (ds : List Value), mg x = some (.ref f) ∧ PySem.W.keepIn K (.ref f) = true ∧ FnG P w K mg base Γ k f fd ps F ∧ Binds K fd ps ds ∧ Vals dvs ds ∧ Dfl K dvs dbs
section
variable {P : Program} {w : World} {K : PySem.W.Frag} {mg : Str → Option Value} {base : Heap} {Γ : Gx} {k : Nat} {dV : Value} {x : Str} {ps : List Str} {F : SE} {st : Stmt} {f : Addr} {fd : FuncData}
theorem fnK_mk {h : Heap} {oc : Value} {od an : Option Addr} {osl : Array (Option Value)} {kV doc pm cdv ct : Value} (X : K.In h) (G : h.Ns mainGlobals mg) (a : PySem.W.nsIn K mainGlobals x = some (some (.ref f)))
    (l : K.lookup f = some ⟨oc, od, .func (PySem.W.fnOf x x (defArgs st) (defBody st) (defScope st) dV kV doc pm an cdv ct), osl⟩) (c : PySem.W.codeIn K cdv x = true) (kp : PySem.W.keepIn K (.ref f) = true) :
    FnK K mg dV x st ps f (PySem.W.fnOf x x (defArgs st) (defBody st) (defScope st) dV kV doc pm an cdv ct) := ⟨PySem.W.mg_of X G a, kp, ⟨oc, od, kV, doc, pm, an, cdv, ct, osl, rfl, l, c⟩⟩
theorem called_of (h : FnK K mg dV x st ps f fd) (b : Binds K fd ps []) (g : FnG P w K mg base Γ k f fd ps F) : CalledG P w K mg base Γ k x ps F [] := ⟨⟨f, fd, [], [], h.at_, h.kp, g, b, .nil, .nil⟩⟩
/-- every parameter is given -/
theorem FnK.binds (h : FnK K mg dV x st ps f fd) (hb : ∀ (kV doc pm : Value) (an : Option Addr) (cdv ct : Value) (us : List Value), us.length = ps.length → bindArgs (PySem.W.fnOf x x (defArgs st) (defBody st) (defScope st) dV kV doc pm an cdv ct) ⟨us, []⟩ = pure (ps.zip us)) : Binds K fd ps [] := by
  obtain ⟨oc, od, kV, doc, pm, an, cdv, ct, osl, rfl, _⟩ := h.ex
  exact .all (hb kV doc pm an cdv ct)
end
section
variable {X : Cx} {A0 : Ax} {W : WX} {k j : Nat} {ps : List Str} {F : SE} {dbs : List B} {x : Str} {p pos : Pos} {e : Expr} {es : List Expr} {fa : SA}
theorem gcallC (ms : List Bool) (c : CalledG X.prog X.w X.K X.mg X.base A0.g k x ps F dbs) (hr : Room j X.A) (gx : GX X) (tk : Takes X W) (ha : PA X (e :: es) (tA (gc X A0 W) fa)) (hj : k ≤ j := by decide) (hn : (ms.length + dbs.length == ps.length) = true := by rfl) (hg : Gl X x := by rfl)
    (hdb : (x == ("__debug__" : Str)) = false := by decide) (he : starEach (e :: es) X.env = (false, eval e X.env) :: starEach es X.env := by rfl) (hpl : (backTo pos (starEach es X.env)).any (·.1) = false := by rfl) :
    PE X (.Call (.Name x p) (e :: es) [] pos) (tE (gc X A0 W) (callF ms F dbs fa)) := by
  obtain ⟨f, fd, dvs, ds, hm, hk, gg, hb, hd, hdf⟩ := c.ex
  exact gcallf ms gg (hr.mono hj) gx tk hm hk hb hd hdf ha (by rw [hdf.len]; exact hn) hg hdb he hpl
end
/-! ### raise X('..'), X an own class -/
structure ExcK (K : PySem.W.Frag) (mg : Str → Option Value) (x : Str) (C : Addr) (newId : String) (bm : List Value) : Prop where
  at_ : mg x = some (.ref C)
  exc : PySem.W.excIn K C bm newId = true
  kp : PySem.W.keepIn K (.ref C) = true
  sub : PySem.W.subIn K (.ref C) (.type "BaseException") = some true
  ty : PySem.W.typeIn K (.ref C) = some (.type "type")
theorem excK_mk {K : PySem.W.Frag} {mg : Str → Option Value} {h : Heap} {x : Str} {C : Addr} {newId : String} {bm : List Value} (X : K.In h) (G : h.Ns mainGlobals mg) (a : PySem.W.nsIn K mainGlobals x = some (some (.ref C))) (q : PySem.W.excIn K C bm newId = true) (kp : PySem.W.keepIn K (.ref C) = true)
    (sub : PySem.W.subIn K (.ref C) (.type "BaseException") = some true) (ty : PySem.W.typeIn K (.ref C) = some (.type "type")) : ExcK K mg x C newId bm := ⟨PySem.W.mg_of X G a, q, kp, sub, ty⟩
def exS_ (x : Str) : SS := fun ρ => .ex x ρ
theorem gs_raise {X : Cx} {A0 : Ax} {W : WX} {C : Addr} {bm : List Value} {B_ newId initId : String} {x m : Str} {j : Nat} {p p2 pos pos' : Pos} (F : ExcBaseFacts B_ newId initId bm) (q : ExcK X.K X.mg x C newId bm) (hc : X.calm = true) (tk : Takes X W) (hg : Gl X x := by rfl)
    (hdb : (x == ("__debug__" : Str)) = false := by decide) : PS X (.Raise (some (.Call (.Name x p) [.Constant (.str m) j p2] [] pos)) none pos') (tSt (gc X A0 W) (exS_ x)) :=
  PS_imp (ps_raise hc tk (pmk_own F q.exc q.at_ q.kp (raises_own q.sub q.ty) hg hdb)) fun D σ H ⟨S, ρ, r, h⟩ => h S H σ Tr.refl r C none q.at_ rfl
/-! ### e[lo:hi] -/
abbrev SP := Option SE
def ptP : SP → List B → Rs (Option Int × List B)
  | none => fun ρ => .ok (none, ρ)
  | some f => fun ρ => (f ρ).bind fun p => match peek p.2 p.1 with
    | some (.int i) => .ok (some i, p.2)
    | _ => .bad
def tOp_ (g : Gc) : SP → TO
  | none => tNoPart
  | some f => tPart (tE g f)
theorem gpn {X : Cx} {A0 : Ax} {W : WX} : PO X none (tOp_ (gc X A0 W) none) := po_none
theorem gps {X : Cx} {A0 : Ax} {W : WX} {e : Expr} {f : SE} (h : PE X e (tE (gc X A0 W) f)) : PO X (some e) (tOp_ (gc X A0 W) (some f)) := po_some h
def cutL {α : Type} (xs : List α) (lo hi : Option Int) : List α := (xs.drop (HT.sIx xs.length 0 lo)).take (HT.sIx xs.length xs.length hi - HT.sIx xs.length 0 lo)
def cutD (d : PyData) (lo hi : Option Int) : Option Ev := match d with
  | .list ds => some (.fr (.list (cutL ds lo hi)))
  | .tuple ds => some (.val (.tuple (cutL ds lo hi)))
  | .str z => if z.length ≤ sizeLine then some (.val (.str (cutS z lo hi))) else none
  | _ => none
def slE (fe : SE) (pl ph : SP) : SE := fun ρ => (fe ρ).bind fun p => (ptP pl p.2).bind fun l => (ptP ph l.2).bind fun u => resE u.2 ((peek u.2 p.1).bind fun d => cutD d l.1 u.1)
theorem tO_bind {g : Gc} {S : Addr → Prop} {H : Hp} {σ : St} {ρ : List B} {pl : SP} {R : Option Int → Hp → Prop} {α : Type} {k : Option Int × List B → Rs α} {P : Rs α → Prop} (hex : ∀ n ρ', P (.ex n ρ') → ∀ S' H', Tr S H (Ow σ ρ) S' H' (Ow σ ρ') → Rp g.K g.A0 S' H' σ ρ' → g.wx n σ H') (hbad : ¬ P .bad)
    (r : Rp g.K g.A0 S H σ ρ) (h : P ((ptP pl ρ).bind k)) (hk : ∀ p S' H', Tr S H (Ow σ ρ) S' H' (Ow σ p.2) → Rp g.K g.A0 S' H' σ p.2 → P (k p) → R p.1 H') : tOp_ g pl σ H R := by
  cases pl with
  | none => exact hk (none, ρ) S H Tr.refl r h
  | some f =>
    unfold ptP at h
    have h2 : P ((f ρ).bind fun p => (match peek p.2 p.1 with
      | some (.int i) => Rs.ok (some i, p.2)
      | _ => .bad : Rs (Option Int × List B)).bind k) := by
      cases e : f ρ with
      | ok p => simp only [e] at h; exact h
      | ex n ρ' => simp only [e] at h; exact h
      | bad => simp only [e] at h; exact h
    refine tE_bind (R := fun x H1 => ∃ i, x = .int i ∧ R (some i) H1) hex hbad r h2 fun p S' H' v t r' e1 q => ?_
    cases pk : peek p.2 p.1 with
    | none => rw [pk] at q; exact (hbad q).elim
    | some d =>
      rw [pk] at q
      cases d with
      | int i => exact ⟨i, (peek_ok r' e1 pk).int, hk (some i, p.2) S' H' t r' q⟩
      | _ => exact (hbad q).elim
def rSlG (K : PySem.W.Frag) : V → Option Int → Option Int → Hp → VK → Prop := fun x lo hi H Q => (rSlL K x lo hi H Q ∨ rSlA K x lo hi H Q) ∨ rSlS x lo hi H Q
theorem cutL_dr {K : PySem.W.Frag} {S : Addr → Prop} {H : Hp} {xs : List V} {ds : List PyData} (r : DrAll K S H xs ds) (lo hi : Option Int) : DrAll K S H (cutV xs lo hi) (cutL ds lo hi) := by
  unfold cutV cutL
  rw [r.length]
  exact (r.drop _).take _
theorem cutL_all {α : Type} (xs : List α) {lo hi : Option Int} (h : HT.sIx xs.length 0 lo = 0 ∧ HT.sIx xs.length xs.length hi = xs.length) : cutL xs lo hi = xs := by
  unfold cutL
  rw [h.1, h.2]
  simp
theorem cutD_ok {K : PySem.W.Frag} {S : Addr → Prop} {H : Hp} {x : V} {d : PyData} {lo hi : Option Int} {e : Ev} {Q : VK} (h1 : Dw K S H x d) (he : cutD d lo hi = some e) (out : Out K S H e Q) : rSlG K x lo hi H Q := by
  cases d <;> simp only [cutD, reduceCtorEq] at he
  · split at he
    · rename_i z hz
      cases he
      exact .inr ⟨z, h1.str, hz, outStr out⟩
    · cases he
  · cases he
    obtain ⟨a, xs, rfl, q, r⟩ := h1.lst
    exact .inl (.inl ⟨a, xs, rfl, q.sq, outLst (cutL_dr r lo hi) out⟩)
  · cases he
    obtain ⟨a, xs, rfl, q, r⟩ := h1.tup
    refine .inl (.inr ⟨a, xs, rfl, q, fun z => out _ H (fun _ _ e => e) (.tup q ?_), fun _ => outTup (cutL_dr r lo hi) out⟩)
    rw [r.length] at z
    rw [cutL_all _ z]
    exact r
theorem gslice {X : Cx} {A0 : Ax} {W : WX} {e : Expr} {lo hi : Option Expr} {fe : SE} {pl ph : SP} {p2 pos : Pos} (he : PE X e (tE (gc X A0 W) fe)) (hl : PO X lo (tOp_ (gc X A0 W) pl)) (hu : PO X hi (tOp_ (gc X A0 W) ph)) :
    PE X (.Subscript e (.Slice lo hi none p2) pos) (tE (gc X A0 W) (slE fe pl ph)) := by
  refine PE_imp (pe_slice (r := rSlG X.K) ((sl_list.or sl_tupA).or sl_str) he hl hu) ?_
  rintro σ H Q ⟨S, ρ, rp, h⟩
  refine tE_bind (P := fun z => PostE (gc X A0 W) S H σ ρ z Q) exE PostE.bad rp h fun p S1 H1 v1 t1 r1 e1 h => ?_
  refine tO_bind (P := fun z => PostE (gc X A0 W) S1 H1 σ p.2 z Q) exE PostE.bad r1 (h.from t1) fun l S2 H2 t2 r2 h => ?_
  refine tO_bind (P := fun z => PostE (gc X A0 W) S2 H2 σ l.2 z Q) exE PostE.bad r2 (h.from t2) fun u S3 H3 t3 r3 h => ?_
  obtain ⟨ev, hev, out⟩ := resE_out t3 r3 h
  have e3 := (e1.mono r1 t2).mono r2 t3
  cases pk : peek u.2 p.1 with
  | none => rw [pk] at hev; cases hev
  | some d =>
    rw [pk] at hev
    exact cutD_ok (peek_ok r3 e3 pk) hev out
/-! ### small words for the walk -/
theorem hu65 {k : Nat} {A : Around} (hr : Room k A) : A.units + 65 < cLine := by have := hr.un; omega
theorem hu1 {k : Nat} {A : Around} (hr : Room k A) : A.units + 1 < cLine := by have := hr.un; omega
theorem hu64 {k : Nat} {A : Around} (hr : Room k A) : A.units + 64 < cLine := by have := hr.un; omega
/-- a constant of the module -/
structure ConK (K : PySem.W.Frag) (mg : Str → Option Value) (x : Str) (d : PyData) : Prop where
  ex : ∃ u, mg x = some u ∧ KD K u d
section
variable {X : Cx} {A0 : Ax} {W : WX}
theorem gcon {x : Str} {d : PyData} {pos : Pos} (c : ConK X.K X.mg x d) (hg : Gl X x := by rfl) (hd : (x == ("__debug__" : Str)) = false := by decide) : PE X (.Name x pos) (tE (gc X A0 W) (fC d)) := by
  obtain ⟨u, h1, h2⟩ := c.ex
  exact gglob h1 h2 hg hd
def negD : PyData → Option Ev
  | .int i => some (.val (.int (-i)))
  | _ => none
theorem gnegD {a : Expr} {fa : SE} {pos : Pos} (ha : PE X a (tE (gc X A0 W) fa)) : PE X (.UnaryOp .USub a pos) (tE (gc X A0 W) (op1 negD fa)) :=
  PE_imp (pe_un un_neg ha) (op1_ok fun S H x d e Q h he out => by
    cases d <;> simp only [negD, reduceCtorEq] at he
    cases he
    exact ⟨_, h.int, outInt out⟩)
theorem gx_blk (s : Shared) (H : Hp) (scope : Scope) (cenv : Env) (fp : List Addr) (gx : GX X) : GX (X.blk s H scope cenv fp) := ⟨gx.gd, gx.sys, gx.un⟩
theorem takes0 {Y : Cx} : Takes Y W0 := fun u s' ⟨a, B, sI, pins, σ, H, cls, d, e, I, nb, up, sky, na, os, ag, w⟩ => w.elim
end
/-! ### constants of the module -/
section
variable {K : PySem.W.Frag} {mg : Str → Option Value} {h : Heap} {x : Str}
theorem kd_int {i : Int} {t : Nat} : KD K (.int i t) (.int i) := ⟨.int i, ⟨t, rfl⟩, fun _ _ => .int i⟩
theorem kdAll_ok {us : List Value} {ds : List PyData} (h : Paired (KD K) us ds) : ∃ vs, Vals vs us ∧ ∀ S H, DrAll K S H vs ds := by
  induction h with
  | nil => exact ⟨[], .nil, fun _ _ => .nil⟩
  | cons a _ ih =>
    obtain ⟨v, r, q⟩ := a
    obtain ⟨vs, rs, qs⟩ := ih
    exact ⟨v :: vs, .cons r rs, fun S H => .cons (q S H) (qs S H)⟩
theorem kd_tup {a : Addr} {oc : Option Addr} {its : Array Value} {n : Nat} {sl : Array (Option Value)} {ds : List PyData} (l : K.lookup a = some ⟨.type "tuple", oc, .seq its n, sl⟩) (hz : its.size ≤ sizeLine) (hs : Paired (KD K) its.toList ds) : KD K (.ref a) (.tuple ds) := by
  obtain ⟨vs, rs, qs⟩ := kdAll_ok hs
  exact ⟨.ref a, rfl, fun S H => .tup (.inr ⟨_, its, n, l, rfl, rfl, hz, rs⟩) (qs S H)⟩
theorem conK_mk {u : Value} {d : PyData} (X : K.In h) (G : h.Ns mainGlobals mg) (a : PySem.W.nsIn K mainGlobals x = some (some u)) (k : KD K u d) : ConK K mg x d := ⟨⟨u, PySem.W.mg_of X G a, k⟩⟩
end
/-- the law's def, called with the script -/
theorem binds_at {K : PySem.W.Frag} {mg : Str → Option Value} {dV : Value} {x y : Str} {st : Stmt} {f : Addr} {fd : FuncData} (h : FnK K mg dV x st [y] f fd)
    (hb : ∀ (kV doc pm : Value) (an : Option Addr) (cdv ct u : Value), bindArgs (PySem.W.fnOf x x (defArgs st) (defBody st) (defScope st) dV kV doc pm an cdv ct) ⟨[u], []⟩ = pure [(y, u)]) (s : Shared) (u : Value) : BindsTo s fd ⟨[u], []⟩ [(y, u)] := by
  obtain ⟨oc, od, kV, doc, pm, an, cdv, ct, osl, rfl, _⟩ := h.ex
  exact .of_eq (hb kV doc pm an cdv ct u)
/-! ### defaults -/
/-- the tuple of a def's defaults, data of the module -/
def DflK (K : PySem.W.Frag) (T : Addr) (ds : List PyData) : Prop := ∃ (o : Obj) (its : List Value) (n : Nat), K.lookup T = some o ∧ o.data = .seq its.toArray n ∧ Paired (KD K) its ds
theorem dflK_mk {K : PySem.W.Frag} {mg : Str → Option Value} {T : Addr} {x : Str} {st : Stmt} {ps : List Str} {f : Addr} {fd : FuncData} (h : FnK K mg (.ref T) x st ps f fd) {c : Value} {od : Option Addr} {its : Array Value} {n : Nat} {sl : Array (Option Value)} {ds : List PyData}
    (l : K.lookup T = some ⟨c, od, .seq its n, sl⟩) (hs : Paired (KD K) its.toList ds) : DflK K T ds := ⟨_, its.toList, n, l, by simp, hs⟩
theorem paired_drop {α β : Type} {r : α → β → Prop} : ∀ (j : Nat) {xs : List α} {ys : List β}, Paired r xs ys → Paired r (xs.drop j) (ys.drop j)
  | 0, _, _, h => h
  | _ + 1, _, _, .nil => .nil
  | j + 1, _, _, .cons _ t => paired_drop j t
theorem kdAll_dfl {K : PySem.W.Frag} {us : List Value} {ds : List PyData} (h : Paired (KD K) us ds) : ∃ vs, Vals vs us ∧ Dfl K vs (ds.map B.val) := by
  induction h with
  | nil => exact ⟨[], .nil, .nil⟩
  | cons a _ ih =>
    obtain ⟨v, r, q⟩ := a
    obtain ⟨vs, rs, qs⟩ := ih
    exact ⟨v :: vs, .cons r rs, .cons ⟨_, rfl, q⟩ qs⟩
theorem binds_dfl {K : PySem.W.Frag} {mg : Str → Option Value} {T : Addr} {x : Str} {st : Stmt} {ps : List Str} {f : Addr} {fd : FuncData} {ds : List PyData} (h : FnK K mg (.ref T) x st ps f fd) (e : DflK K T ds) (j : Nat) {n : Nat} (hn : n + (ds.length - j) = ps.length)
    (hb : ∀ (kV doc pm : Value) (an : Option Addr) (cdv ct : Value) (us its : List Value), us.length = n → its.length = ds.length →
      ∃ k, bindArgs (PySem.W.fnOf x x (defArgs st) (defBody st) (defScope st) (.ref T) kV doc pm an cdv ct) ⟨us, []⟩ = seqItems? (.ref T) >>= k ∧ k (some its.toArray) = pure (ps.zip (us ++ its.drop j))) :
    ∃ us vs, Binds K fd ps us ∧ Vals vs us ∧ Dfl K vs ((ds.drop j).map B.val) := by
  obtain ⟨oc, od, kV, doc, pm, an, cdv, ct, osl, rfl, _⟩ := h.ex
  obtain ⟨o, its, m, l, hd, hs⟩ := e
  obtain ⟨vs, rv, dv⟩ := kdAll_dfl (paired_drop j hs)
  refine ⟨its.drop j, vs, fun s us KX hl => ?_, rv, dv⟩
  have hi : its.length = ds.length := hs.length
  have hu : us.length = n := by rw [List.length_append, List.length_drop, hi] at hl; omega
  obtain ⟨k, e1, e2⟩ := hb kV doc pm an cdv ct us its hu hi
  refine BindsTo.of_looks fun M => ?_
  rw [e1]
  exact looks_items KX l hd (PySem.W.Looks.of_pure e2)
theorem called_d {P : Program} {w : World} {K : PySem.W.Frag} {mg : Str → Option Value} {base : Heap} {Γ : Gx} {k : Nat} {dV : Value} {x : Str} {ps : List Str} {F : SE} {st : Stmt} {f : Addr} {fd : FuncData} {dbs : List B} (h : FnK K mg dV x st ps f fd)
    (b : ∃ us vs, Binds K fd ps us ∧ Vals vs us ∧ Dfl K vs dbs) (g : FnG P w K mg base Γ k f fd ps F) : CalledG P w K mg base Γ k x ps F dbs := by
  obtain ⟨us, vs, h1, h2, h3⟩ := b
  exact ⟨⟨f, fd, vs, us, h.at_, h.kp, g, h1, h2, h3⟩⟩
end G
namespace G
open PySem PySem.Spec PyProof.Rows L2
/-! ### t.index(x), data of any depth -/
def rTupIx (K : PySem.W.Frag) : V → List V → Hp → VK → Prop := fun x xs H Q => ∃ (a : Addr) (y : V) (d : PyData) (ds : List PyData) (j : Nat) (z : PyData), x = V.ref a ∧ xs = [y] ∧ Dp K H (V.ref a) (.tuple ds) ∧ Dp K H y d ∧ SeqAt.shaped (.tuple ds) = true ∧ SeqAt.shaped d = true ∧
  ds[j]? = some z ∧ PyData.eqv z d = true ∧ (∀ (m : Nat) (z' : PyData), m < j → ds[m]? = some z' → PyData.eqv z' d = false) ∧ Q (.int (j : Nat)) H
theorem mt_tupIx {X : Cx} (hu : X.A.units + 65 < cLine) : MtR X "tuple.index" (rTupIx X.K) := by
  intro pins s σ H x xs v us Q I rx rxs h
  obtain ⟨a, y, d, ds, j, z, ex, exs, hl, hy, sl, sd, hz, hzj, hno, q⟩ := h
  subst ex exs
  cases rx
  obtain ⟨uy, eu, ry⟩ := vals1 rxs
  subst eu
  obtain ⟨bs, r1⟩ := Dp.reads I d y uy hy ry
  have lay : PyData.canLayAll0 ds = true := SeqAt.canLay_of_shaped sl
  have room : X.A.units + 1 + min (PyData.depthAll ds) d.depth < cLine := room_in_shaped sd hu
  cases hl with
  | tup hs ha =>
    obtain ⟨its, rv, pl, hlen⟩ := I.tuple hs
    obtain ⟨⟨cls, dd, dt, sls⟩, ho, hc, n, hd⟩ := pl
    simp only at hc hd
    subst hc hd
    obtain ⟨as, hr⟩ := Dp.readsAll I ds _ its ha rv
    have cnt : its.length = ds.length := SeqAt.ReadsAll.length ds its as hr
    have back : its.map (SeqAt.readOf s.heap) = ds := SeqAt.readsAll_map ds its as lay hr
    have jd : j < ds.length := (List.getElem?_eq_some_iff.mp hz).1
    have jt : j < its.toArray.size := by rw [List.size_toArray]; omega
    have look : ∀ (m : Nat) (hm : m < its.toArray.size) (z' : PyData), ds[m]? = some z' → SeqAt.readOf s.heap its.toArray[m] = z' := fun m hm z' e => by
      have hm' : m < its.length := by rw [List.size_toArray] at hm; exact hm
      rw [← back, List.getElem?_map, List.getElem?_eq_getElem hm'] at e
      have e1 : SeqAt.readOf s.heap its[m] = z' := Option.some.inj e
      rw [← e1]
      rfl
    refine call_meets PySem.F.slot_tuple_index ⟨_, ho, rfl⟩ PySem.F.entry_tuple_index (PySem.F.args_tuple_index_2 _ _) (TI.tuple_indexAt a its.toArray n dd sls uy (fun u => PyData.eqv (SeqAt.readOf s.heap u) d) j jt ?_ ?_)
      ⟨ho, SeqAt.items_eqAt (vs := its.toArray) (show ReadsAll s.heap its.toArray.toList ds as from hr) r1 lay (SeqAt.canLay_of_shaped sd) room, ⟨.int (j : Nat), H, I.tok _, ⟨_, rfl⟩, q⟩⟩
    · show PyData.eqv (SeqAt.readOf s.heap its.toArray[j]) d = true
      rw [look j jt z hz]
      exact hzj
    · intro m hm hmj
      have e : ds[m]? = some ds[m] := List.getElem?_eq_getElem (by omega)
      show PyData.eqv (SeqAt.readOf s.heap its.toArray[m]) d = false
      rw [look m hm _ e]
      exact hno m _ hmj e
/-- the first place of an equal one -/
def placeD (d : PyData) : List PyData → Nat → Option Nat
  | [], _ => none
  | z :: zs, n => if PyData.eqv z d = true then some n else placeD d zs (n + 1)
theorem placeD_ok {d : PyData} : ∀ {ds : List PyData} {n j : Nat}, placeD d ds n = some j → ∃ i z, j = n + i ∧ ds[i]? = some z ∧ PyData.eqv z d = true ∧ ∀ (m : Nat) (z' : PyData), m < i → ds[m]? = some z' → PyData.eqv z' d = false
  | [], n, j, h => by cases h
  | z :: zs, n, j, h => by
    unfold placeD at h
    split at h
    · rename_i hz
      cases h
      exact ⟨0, z, rfl, rfl, hz, fun m _ hm => absurd hm (Nat.not_lt_zero m)⟩
    · rename_i hz
      obtain ⟨i, y, e, e2, e3, e4⟩ := placeD_ok h
      refine ⟨i + 1, y, by omega, by simpa using e2, e3, fun m z' hm ez => ?_⟩
      cases m with
      | zero =>
        have ez' : z = z' := Option.some.inj ez
        rw [← ez']
        exact Bool.eq_false_iff.mpr hz
      | succ m => exact e4 m z' (by omega) (by simpa using ez)
def indexD (d x : PyData) : Option Ev := match d with
  | .tuple ds => if (SeqAt.shaped (.tuple ds) && SeqAt.shaped x) = true then (placeD x ds 0).map fun j => .val (.int j) else none
  | _ => none
/-- a tuple of the module, by its object too -/
structure ConT (K : PySem.W.Frag) (mg : Str → Option Value) (x : Str) (d : PyData) : Prop where
  ex : ∃ (a : Addr) (o : Obj), mg x = some (.ref a) ∧ K.lookup a = some o ∧ o.cls = .type "tuple" ∧ o.dict = none ∧ KD K (.ref a) d
theorem conT_mk {K : PySem.W.Frag} {mg : Str → Option Value} {h : Heap} {x : Str} {a : Addr} {its : Array Value} {n : Nat} {sl : Array (Option Value)} {d : PyData} (X : K.In h) (G : h.Ns mainGlobals mg) (e : PySem.W.nsIn K mainGlobals x = some (some (.ref a)))
    (l : K.lookup a = some ⟨.type "tuple", none, .seq its n, sl⟩) (k : KD K (.ref a) d) : ConT K mg x d := ⟨⟨a, _, PySem.W.mg_of X G e, l, rfl, rfl, k⟩⟩
def idxK (d : PyData) (fa : SA) : SE := fun ρ => (fa ρ).bind fun q => resE q.2 ((peeks q.2 q.1).bind fun ys => match ys with
  | [y] => indexD d y
  | _ => none)
theorem g_index {X : Cx} {A0 : Ax} {W : WX} {x : Str} {p : Pos} {e : Expr} {d : PyData} {fa : SA} {apos cpos : Pos} (hu : X.A.units + 65 < cLine) (c : ConT X.K X.mg x d) (ha : PA X [e] (tA (gc X A0 W) fa)) (hg : Gl X x := by rfl) (hdb : (x == ("__debug__" : Str)) = false := by decide)
    (hbase : attributeBase (.Name x p) "index" X.env (eval (.Name x p) X.env) = eval (.Name x p) X.env := by rfl)
    (hfew : ((backTo cpos (starEach [e] X.env)).all (fun x => !x.1) && (backToKw cpos (keywordEach [] X.env)).all (fun x => x.1.isSome)
      && decide (([e] : List Expr).length + ([] : List Keyword).length + (if ([] : List Keyword).isEmpty then 0 else 1) < 30)) = true := by rfl)
    (hline : (apos.endLine == cpos.line) = true := by rfl) (hs : starEach [e] X.env = (false, eval e X.env) :: starEach [] X.env := by rfl) (hplain : (backTo cpos (starEach [] X.env)).any (·.1) = false := by rfl) :
    PE X (.Call (.Attribute (.Name x p) "index" apos) [e] [] cpos) (tE (gc X A0 W) (idxK d fa)) := by
  obtain ⟨a, o, hm, hl, hc, hd, v, rv, kd⟩ := c.ex
  have ho : PE X (.Name x p) (tC v) := pe_glob hg hm rv hdb
  refine PE_imp (pe_bm PySem.F.plainAttrs_tuple PySem.F.slot_tuple_index PySem.F.type_tuple_index (mt_tupIx hu) ho ha hbase hfew hline hs hplain) ?_
  rintro σ H Q ⟨S, ρ, rp, h⟩
  have ev : v = .ref a := by
    cases v with
    | ref b =>
      have e : Value.ref a = Value.ref b := rv
      cases e
      rfl
    | _ => first | (obtain ⟨t, e⟩ := rv; exact nomatch e) | exact nomatch rv | (cases rv; done)
  subst ev
  refine ⟨.inr (.inl ⟨rfl, o, hl, hc, hd⟩), ?_⟩
  refine tA_bind (P := fun z => PostE (gc X A0 W) S H σ ρ z Q) exE PostE.bad rp h fun q S2 H2 vs t2 r2 e2 h => ?_
  obtain ⟨ev, hev, out⟩ := resE_out t2 r2 h
  cases p2 : peeks q.2 q.1 with
  | none => rw [p2] at hev; cases hev
  | some ys =>
    rw [p2] at hev
    match ys, hev, peeks_ok r2 e2 p2 with
    | [y], hev, dw =>
      have hev : indexD d y = some ev := hev
      obtain ⟨v, rfl, hy⟩ := dw1 dw
      have hx : Dw X.K S2 H2 (.ref a) d := .inl (kd S2 H2)
      unfold indexD at hev
      cases d with
      | tuple ds1 =>
        simp only at hev
        split at hev
        · rename_i hc
          simp only [Bool.and_eq_true] at hc
          cases pl : placeD y ds1 0 with
          | none => rw [pl] at hev; cases hev
          | some j =>
            rw [pl] at hev
            cases hev
            obtain ⟨i, z, ej, g1, g2, g3⟩ := placeD_ok pl
            rw [Nat.zero_add] at ej
            subst ej
            exact ⟨a, v, y, ds1, j, z, rfl, rfl, hx.dp (shaped_lay hc.1), hy.dp (shaped_lay hc.2), hc.1, hc.2, g1, g2, g3, outInt out⟩
        · cases hev
      | _ => cases hev
end G
namespace G
open PySem PySem.Spec PyProof.Rows L2
/-! ### f(k = v, ..): every parameter by its name, in the parameters' order -/
structure CalledK (P : Program) (w : World) (K : PySem.W.Frag) (mg : Str → Option Value) (base : Heap) (Γ : Gx) (k : Nat) (x : Str) (ps : List Str) (F : SE) : Prop where
  ex : ∃ (f : Addr) (fd : FuncData), mg x = some (.ref f) ∧ PySem.W.keepIn K (.ref f) = true ∧ FnG P w K mg base Γ k f fd ps F ∧ ∀ (s : Shared) (ws : List Value), ws.length = ps.length → BindsTo s fd ⟨[], ps.zip ws⟩ (ps.zip ws)
theorem calledK_of {P : Program} {w : World} {K : PySem.W.Frag} {mg : Str → Option Value} {base : Heap} {Γ : Gx} {k : Nat} {dV : Value} {x : Str} {ps : List Str} {F : SE} {st : Stmt} {f : Addr} {fd : FuncData} (h : FnK K mg dV x st ps f fd) (g : FnG P w K mg base Γ k f fd ps F)
    (hb : ∀ (kV doc pm : Value) (an : Option Addr) (cdv ct : Value) (ws : List Value), ws.length = ps.length → bindArgs (PySem.W.fnOf x x (defArgs st) (defBody st) (defScope st) dV kV doc pm an cdv ct) ⟨[], ps.zip ws⟩ = pure (ps.zip ws)) : CalledK P w K mg base Γ k x ps F := by
  obtain ⟨oc, od, kV, doc, pm, an, cdv, ct, osl, rfl, _⟩ := h.ex
  exact ⟨⟨f, _, h.at_, h.kp, g, fun s ws hl => .of_eq (hb kV doc pm an cdv ct ws hl)⟩⟩
section
variable {X : Cx} {A0 : Ax} {W : WX} {k j : Nat} {ps : List Str} {F : SE} {x : Str} {p pos kpos : Pos} {e : Expr} {kws : List Keyword} {f : SE} {fs fa : SA} {nm : Option Str}
theorem cons_imp {g : Gc} : ∀ σ H Q, tA g (aCons f fs) σ H Q → tCons (tE g f) (tA g fs) σ H Q := by
  rintro σ H Q ⟨S, ρ, rp, h⟩
  refine tE_bind (P := fun z => PostA g S H σ ρ z Q) exA PostA.bad rp h fun p S1 H1 v1 t1 r1 e1 h => ?_
  obtain ⟨S1', t1', r1', e1', _⟩ := settle_ok t1 r1 e1
  refine tA_bind (P := fun z => PostA g S1' H1 σ p.2 z Q) exA PostA.bad r1' (h.from t1') fun q S2 H2 vs t2 r2 e2 h => ?_
  exact h S2 H2 (v1 :: vs) t2 r2 (.cons (e1'.ex (r1'.ex t2)) e2)
theorem gknil : PK X [] (tA (gc X A0 W) aNil) := ⟨fun pos pins s σ H Q I h => pk_nil.run pos pins s σ H Q I (let ⟨S, ρ, r, h⟩ := h; h S H [] Tr.refl r .nil)⟩
theorem gkcons (ha : PE X e (tE (gc X A0 W) f)) (hr : PK X kws (tA (gc X A0 W) fs)) : PK X (⟨nm, e, kpos⟩ :: kws) (tA (gc X A0 W) (aCons f fs)) := ⟨fun pos pins s σ H Q I h => (pk_cons ha hr).run pos pins s σ H Q I (cons_imp σ H Q h)⟩
theorem gcallK (ms : List Bool) (c : CalledK X.prog X.w X.K X.mg X.base A0.g k x ps F) (hr : Room j X.A) (gx : GX X) (tk : Takes X W) (hkw : PK X kws (tA (gc X A0 W) fa)) (hj : k ≤ j := by decide) (hn : (ms.length == ps.length) = true := by rfl) (hg : Gl X x := by rfl)
    (hall : (backToKw pos (keywordEach kws X.env)).all (·.1.isSome) = true := by rfl) (hks : (backToKw pos (keywordEach kws X.env)).filterMap (·.1) = ps := by rfl) (hdb : (x == ("__debug__" : Str)) = false := by decide)
    (hpl : ((backTo pos (starEach [] X.env)).any (·.1) || (backToKw pos (keywordEach kws X.env)).any (·.1.isNone)) = false := by rfl) :
    PE X (.Call (.Name x p) [] kws pos) (tE (gc X A0 W) (callF ms F [] fa)) := by
  obtain ⟨f, fd, hm, hk, gg, hb⟩ := c.ex
  have base : PE X (.Call (.Name x p) [] kws pos) (tCallG (spG A0.g X.K X.mg ps.length [] F) (WE W) (tA (gc X A0 W) fa)) := by
    refine ⟨fun pins s σ H Q I h => ?_⟩
    refine wpAny_Call_Name_kw (ld_glob I hg hm ?_ hdb)
    refine PySem.W.callWith_KW0 (h₀ := X.base) I.ok.mod.kin hk hall ?_ hpl
    refine thn (hkw.run pos pins s σ H _ I h) fun ws s2 ⟨zs, H2, I2, rz, hl, S, bs, hbs, rp, q⟩ => ⟨I2.kIn, ?_⟩
    rw [hks]
    have e0 : zs ++ [] = zs := List.append_nil zs
    rw [e0] at hl rp q
    refine wpAny_call (codeAny_mono (gg.run X.A X.stack s2 H2 ⟨[], ps.zip ws⟩ ws zs Q (WE W σ) S bs (hr.mono hj) gx.gd I2.env0 (hb s2 ws (by rw [← rz.length]; exact hl)) rz hl hbs rp q) fun r s' hq => ?_)
    cases r with
    | error e => exact passAt tk σ pins H2 s2 e s' I2 hq
    | ok fl =>
      cases fl with
      | ret u => exact I2.after hq
      | next => exact False.elim hq
      | brk => exact False.elim hq
      | cont => exact False.elim hq
  exact PE_imp base (callG_ok .nil fun vs es h ρ es' ρ' q => by rw [List.append_nil, cv1_len h q]; exact eq_of_beq hn)
end
theorem takes_gx {Y : Cx} (_ : GX Y) : Takes Y W0 := G.takes0
/-! ### a, b, c = x, y, z: plain local names, values that are shared -/
def par3S (i j l : Nat) (fs : SA) : SS := fun ρ => (fs ρ).bind fun p => match shrs p.2 p.1 with
  | some ([d1, d2, d3], ρ1) => .ok (.nx (((ρ1.set i (.val d1)).set j (.val d2)).set l (.val d3)))
  | _ => .bad
end G
namespace G
open PySem PySem.Spec PyProof.Rows L2
/-! ### f(k = v, ..): every parameter by its name, in any order: parameter i has the keyword at place π i -/
def permL {α : Type} (π : List Nat) (xs : List α) : List α := π.filterMap (xs[·]?)
theorem permL_rel {α β : Type} {R : α → β → Prop} : ∀ (π : List Nat) {xs : List α} {ys : List β}, Paired R xs ys → Paired R (permL π xs) (permL π ys)
  | [], _, _, _ => .nil
  | i :: π, xs, ys, h => by
    have ih := permL_rel π h
    have get : ∀ {xs : List α} {ys : List β} (i : Nat), Paired R xs ys → (xs[i]? = none ∧ ys[i]? = none) ∨ ∃ x y, xs[i]? = some x ∧ ys[i]? = some y ∧ R x y := by
      intro xs ys i h
      induction h generalizing i with
      | nil => exact .inl ⟨rfl, rfl⟩
      | cons a t ih =>
        cases i with
        | zero => exact .inr ⟨_, _, rfl, rfl, a⟩
        | succ i => exact ih i
    unfold permL at ih ⊢
    rcases get i h with ⟨e1, e2⟩ | ⟨x, y, e1, e2, r⟩
    · rw [List.filterMap_cons_none e1, List.filterMap_cons_none e2]; exact ih
    · rw [List.filterMap_cons_some e1, List.filterMap_cons_some e2]; exact .cons r ih
def permK (n : Nat) (π : List Nat) : List Ev × List B → Rs (List Ev × List B) := fun p => if p.1.length = n then .ok (permL π p.1, p.2) else .bad
def permA (n : Nat) (π : List Nat) (fa : SA) : SA := fun ρ => (fa ρ).bind (permK n π)
theorem r_permA {n : Nat} {π : List Nat} {fa : SA} {ρ : List B} : permA n π fa ρ = Rs.bind (fa ρ) (permK n π) := id rfl
theorem k_perm1 {e1 : Ev} {ρ : List B} : permK 1 [0] ([e1], ρ) = .ok ([e1], ρ) := id rfl
theorem k_perm2 {e1 e2 : Ev} {ρ : List B} : permK 2 [1, 0] ([e1, e2], ρ) = .ok ([e2, e1], ρ) := id rfl
theorem k_perm3a {e1 e2 e3 : Ev} {ρ : List B} : permK 3 [0, 2, 1] ([e1, e2, e3], ρ) = .ok ([e1, e3, e2], ρ) := id rfl
theorem k_perm3b {e1 e2 e3 : Ev} {ρ : List B} : permK 3 [1, 0, 2] ([e1, e2, e3], ρ) = .ok ([e2, e1, e3], ρ) := id rfl
theorem k_perm3c {e1 e2 e3 : Ev} {ρ : List B} : permK 3 [1, 2, 0] ([e1, e2, e3], ρ) = .ok ([e2, e3, e1], ρ) := id rfl
theorem k_perm3d {e1 e2 e3 : Ev} {ρ : List B} : permK 3 [2, 0, 1] ([e1, e2, e3], ρ) = .ok ([e3, e1, e2], ρ) := id rfl
theorem k_perm3e {e1 e2 e3 : Ev} {ρ : List B} : permK 3 [2, 1, 0] ([e1, e2, e3], ρ) = .ok ([e3, e2, e1], ρ) := id rfl
theorem permA_ok {g : Gc} {n : Nat} {π : List Nat} {fa : SA} : ∀ σ H Q, tA g (permA n π fa) σ H Q → tA g fa σ H fun vs H1 => vs.length = n ∧ Q (permL π vs) H1 := by
  rintro σ H Q ⟨S, ρ, rp, h⟩
  refine tA_bind (P := fun z => PostA g S H σ ρ z Q) exA PostA.bad rp h fun p S1 H1 vs t1 r1 e1 h => ?_
  unfold permK at h
  split at h
  · rename_i hl
    exact ⟨e1.length.trans hl, h S1 H1 _ t1 r1 (permL_rel π e1)⟩
  · exact h.elim
structure CalledP (P : Program) (w : World) (K : PySem.W.Frag) (mg : Str → Option Value) (base : Heap) (Γ : Gx) (k : Nat) (x : Str) (qs ps : List Str) (π : List Nat) (F : SE) : Prop where
  ex : ∃ (f : Addr) (fd : FuncData), mg x = some (.ref f) ∧ PySem.W.keepIn K (.ref f) = true ∧ FnG P w K mg base Γ k f fd ps F ∧ ∀ (s : Shared) (ws : List Value), ws.length = qs.length → BindsTo s fd ⟨[], qs.zip ws⟩ (ps.zip (permL π ws))
theorem calledP_of {P : Program} {w : World} {K : PySem.W.Frag} {mg : Str → Option Value} {base : Heap} {Γ : Gx} {k : Nat} {dV : Value} {x : Str} {qs ps : List Str} {π : List Nat} {F : SE} {st : Stmt} {f : Addr} {fd : FuncData} (h : FnK K mg dV x st ps f fd) (g : FnG P w K mg base Γ k f fd ps F)
    (hb : ∀ (kV doc pm : Value) (an : Option Addr) (cdv ct : Value) (ws : List Value), ws.length = qs.length → bindArgs (PySem.W.fnOf x x (defArgs st) (defBody st) (defScope st) dV kV doc pm an cdv ct) ⟨[], qs.zip ws⟩ = pure (ps.zip (permL π ws))) : CalledP P w K mg base Γ k x qs ps π F := by
  obtain ⟨oc, od, kV, doc, pm, an, cdv, ct, osl, rfl, _⟩ := h.ex
  exact ⟨⟨f, _, h.at_, h.kp, g, fun s ws hl => .of_eq (hb kV doc pm an cdv ct ws hl)⟩⟩
section
variable {X : Cx} {A0 : Ax} {W : WX} {k j : Nat} {qs ps : List Str} {π : List Nat} {F : SE} {x : Str} {p pos : Pos} {kws : List Keyword} {fa : SA}
theorem gcallP (ms : List Bool) (c : CalledP X.prog X.w X.K X.mg X.base A0.g k x qs ps π F) (hr : Room j X.A) (gx : GX X) (tk : Takes X W) (hkw : PK X kws (tA (gc X A0 W) fa)) (hj : k ≤ j := by decide) (hn : (ms.length == ps.length) = true := by rfl) (hg : Gl X x := by rfl)
    (hall : (backToKw pos (keywordEach kws X.env)).all (·.1.isSome) = true := by rfl) (hks : (backToKw pos (keywordEach kws X.env)).filterMap (·.1) = qs := by rfl) (hdb : (x == ("__debug__" : Str)) = false := by decide)
    (hpl : ((backTo pos (starEach [] X.env)).any (·.1) || (backToKw pos (keywordEach kws X.env)).any (·.1.isNone)) = false := by rfl) :
    PE X (.Call (.Name x p) [] kws pos) (tE (gc X A0 W) (callF ms F [] (permA qs.length π fa))) := by
  obtain ⟨f, fd, hm, hk, gg, hb⟩ := c.ex
  have base : PE X (.Call (.Name x p) [] kws pos) (tCallG (spG A0.g X.K X.mg ps.length [] F) (WE W) (fun σ H Q => tA (gc X A0 W) fa σ H fun vs H1 => vs.length = qs.length ∧ Q (permL π vs) H1)) := by
    refine ⟨fun pins s σ H Q I h => ?_⟩
    refine wpAny_Call_Name_kw (ld_glob I hg hm ?_ hdb)
    refine PySem.W.callWith_KW0 (h₀ := X.base) I.ok.mod.kin hk hall ?_ hpl
    refine thn (hkw.run pos pins s σ H _ I h) fun ws s2 ⟨zs, H2, I2, rz, hlq, hl, S, bs, hbs, rp, q⟩ => ⟨I2.kIn, ?_⟩
    rw [hks]
    have e0 : permL π zs ++ [] = permL π zs := List.append_nil _
    rw [e0] at hl rp q
    refine wpAny_call (codeAny_mono (gg.run X.A X.stack s2 H2 ⟨[], qs.zip ws⟩ (permL π ws) (permL π zs) Q (WE W σ) S bs (hr.mono hj) gx.gd I2.env0 (hb s2 ws (by rw [← rz.length]; exact hlq)) (permL_rel π rz) hl hbs rp q) fun r s' hq => ?_)
    cases r with
    | error e => exact passAt tk σ pins H2 s2 e s' I2 hq
    | ok fl =>
      cases fl with
      | ret u => exact I2.after hq
      | next => exact False.elim hq
      | brk => exact False.elim hq
      | cont => exact False.elim hq
  refine PE_imp base fun σ H Q h => ?_
  have h2 := callG_ok (X := X) (A0 := A0) (W := W) (ms := ms) (n := ps.length) (F := F) (fa := permA qs.length π fa) .nil (fun vs es h ρ es' ρ' q => by rw [List.append_nil, cv1_len h q]; exact eq_of_beq hn) σ H Q h
  exact permA_ok σ H _ h2
end
end G
namespace G
open PySem PySem.Spec PyProof.Rows L2
/-! ### isinstance(e, T), e a caught exception -/
/-- the exception that is handled stands in the context -/
def HotX (X : Cx) (Γ : Gx) : Prop := ∃ oe, (Γ.pa, oe) ∈ X.pn ∧ Zc (.ref Γ.pc) Γ.pd oe ∧ ∃ vs, oe.data = .fields vs
/-- what is known of the caught exception's dict -/
def XdK (H : Hp) (pd : Option Addr) : Prop := pd = none ∨ ∃ d fs, pd = some d ∧ H d = some (.xd fs)
theorem XdAt.k {H : Hp} {pd : Option Addr} {pl : Option (Int × Int)} (h : XdAt H pd pl) : XdK H pd := by
  cases pl with
  | none => exact .inl h
  | some p => obtain ⟨d, e, q⟩ := h; exact .inr ⟨d, _, e, q⟩
def rIsX (K : PySem.W.Frag) (Γ : Gx) : List V → Hp → VK → Prop := fun xs H Q => XdK H Γ.pd ∧ ∃ (c : V) (cv : Value) (b : Bool), xs = [.ref Γ.pa, c] ∧ (∀ u, RelV c u → u = cv) ∧ ExcC K Γ.pc ∧ PySem.W.kitOne K (.ref Γ.pc) cv = some b ∧ Q (.bl b) H
theorem call_isX {X : Cx} {Γ : Gx} (hx : HotX X Γ) : CallR X (.builtin "isinstance") (rIsX X.K Γ) := by
  intro pins s σ H xs us Q I r h
  obtain ⟨hpd, c, cv, b, rfl, hcv, C, e, q⟩ := h
  obtain ⟨oe, hp, hz, vs, hv⟩ := hx
  cases r with
  | cons rx rr =>
    cases rr with
    | cons rt rr =>
      cases rr
      cases rx
      have ec := hcv _ rt
      subst ec
      have J : ∃ od, PySem.W.InstAt s.heap Γ.pa oe Γ.pc od := by
        have hget := (I.pin _ (List.mem_append_left _ hp)).1
        obtain ⟨h1, h2⟩ := hz
        rcases hpd with hpd | ⟨d, fs, hpd, hd⟩
        · exact ⟨none, hget, h1, by unfold PySem.W.notCls; rw [hv] <;> rfl, by rw [h2, hpd]; trivial⟩
        · have hxd : ObjOk X.prog X.w H s.heap d (.xd fs) := I.hok d _ hd
          obtain ⟨mA, hns, hr⟩ := hxd
          obtain ⟨od, ho, hl⟩ := lookIn_ns hns
          exact ⟨some od, hget, h1, by unfold PySem.W.notCls; rw [hv] <;> rfl, by rw [h2, hpd]; exact ho⟩
      obtain ⟨od, J⟩ := J
      have hcl : (PySem.W.clsIn X.K Γ.pc).isSome = true := by obtain ⟨cd, hc, _⟩ := PySem.W.any_some C.hd; rw [hc]; rfl
      exact PySem.W.kia_one (PySem.W.kitx_exc (od := od) hcl C.hg C.hk C.hs C.ha C.hn C.ht C.hm) I.kIn J e (fun z => nomatch z) fun tk => ⟨.bl b, H, I.kept (t' := tk) fun _ _ z => z, rfl, q⟩
/-- of every known class the answer is known -/
def IsxOk (K : PySem.W.Frag) (es : List (Str × Addr)) (cv : Value) (b : Str → Bool) : Prop := ∀ p ∈ es, ExcC K p.2 ∧ PySem.W.kitOne K (.ref p.2) cv = some (b p.1)
def isN (T n : Str) : Bool := n == T
def isAll (n : Str) : Bool := true
def isxK (b : Str → Bool) (ρ : List B) : Option B → Rs (Ev × List B)
  | some (.exc n) => .ok (.val (.bool (b n.cls)), ρ)
  | _ => .bad
def isxE (i : Nat) (b : Str → Bool) : SE := fun ρ => isxK b ρ ρ[i]?
section
variable {X : Cx} {A0 : Ax} {W : WX} {p p1 p2 pos : Pos}
theorem isx_of (hx : HotX X A0.g) {i : Nat} {x y : Str} {u : V} {uv : Value} {b : Str → Bool} (hN : X.N[i]? = some x) (hv : Vis X.env.scope x) (hd : (x == ("__debug__" : Str)) = false) (hcd : (x == ("__classdict__" : Str)) = false) (hy : PE X (.Name y p2) (tC u)) (hu : ∀ w, RelV u w → w = uv) (ok : IsxOk X.K A0.g.es uv b)
    (hm : X.mg "isinstance" = none) (hg : Gl X "isinstance")
    (he : starEach [.Name x p1, .Name y p2] X.env = (false, eval (.Name x p1) X.env) :: starEach [.Name y p2] X.env) (he2 : starEach [.Name y p2] X.env = (false, eval (.Name y p2) X.env) :: starEach [] X.env)
    (hpl : (backTo pos (starEach [.Name y p2] X.env)).any (·.1) = false) :
    PE X (.Call (.Name "isinstance" p) [.Name x p1, .Name y p2] [] pos) (tE (gc X A0 W) (isxE i b)) := by
  refine PE_imp (pe_callB (call_isX hx) hg hm (by decide +kernel) (pa_cons (pe_var (i := i) hN hv hd hcd) (pa_cons hy pa_nil he2) he) (by decide) (by decide) he hpl) fun σ H Q h => ?_
  obtain ⟨S, ρ, rp, h⟩ := h
  unfold isxE at h
  cases e : ρ[i]? with
  | none => rw [e] at h; exact h.elim
  | some bd =>
    rw [e] at h
    have q := rp.bd i bd e
    cases bd with
    | exc n =>
      obtain ⟨c1, c2⟩ := ok _ q.1
      exact ⟨.ref A0.g.pa, q.2.1, q.2.2.k, u, uv, b n.cls, rfl, hu, c1, c2, h S H (.bl (b n.cls)) Tr.refl rp (.bl _)⟩
    | _ => exact h.elim
/-- T an own class -/
theorem gisx (hx : HotX X A0.g) (i : Nat) {x y : Str} {D : Addr} {b : Str → Bool} (hmy : X.mg y = some (.ref D)) (ok : IsxOk X.K A0.g.es (.ref D) b) (hm : X.mg "isinstance" = none) (hN : X.N[i]? = some x := by rfl) (hv : Vis X.env.scope x := by first | exact Or.inl rfl | exact Or.inr (Or.inl rfl) | exact Or.inr (Or.inr rfl)) (hd : (x == ("__debug__" : Str)) = false := by decide) (hcd : (x == ("__classdict__" : Str)) = false := by decide)
    (hg : Gl X "isinstance" := by rfl) (hg2 : Gl X y := by rfl) (hd2 : (y == ("__debug__" : Str)) = false := by decide)
    (he : starEach [.Name x p1, .Name y p2] X.env = (false, eval (.Name x p1) X.env) :: starEach [.Name y p2] X.env := by rfl) (he2 : starEach [.Name y p2] X.env = (false, eval (.Name y p2) X.env) :: starEach [] X.env := by rfl)
    (hpl : (backTo pos (starEach [.Name y p2] X.env)).any (·.1) = false := by rfl) :
    PE X (.Call (.Name "isinstance" p) [.Name x p1, .Name y p2] [] pos) (tE (gc X A0 W) (isxE i b)) :=
  isx_of hx hN hv hd hcd (pe_glob (v := .ref D) hg2 hmy rfl hd2) (fun w h => h) ok hm hg he he2 hpl
/-- T a built-in class -/
theorem gisxB (hx : HotX X A0.g) (i : Nat) {x y : Str} {T : String} {b : Str → Bool} (hmy : X.mg y = none) (hv2 : bootBuiltins y = some (.type T)) (ok : IsxOk X.K A0.g.es (.type T) b) (hm : X.mg "isinstance" = none) (hN : X.N[i]? = some x := by rfl) (hv : Vis X.env.scope x := by first | exact Or.inl rfl | exact Or.inr (Or.inl rfl) | exact Or.inr (Or.inr rfl)) (hd : (x == ("__debug__" : Str)) = false := by decide) (hcd : (x == ("__classdict__" : Str)) = false := by decide)
    (hg : Gl X "isinstance" := by rfl) (hg2 : Gl X y := by rfl) (hn2 : y ≠ "__name__" := by decide) (hd2 : (y == ("__debug__" : Str)) = false := by decide)
    (he : starEach [.Name x p1, .Name y p2] X.env = (false, eval (.Name x p1) X.env) :: starEach [.Name y p2] X.env := by rfl) (he2 : starEach [.Name y p2] X.env = (false, eval (.Name y p2) X.env) :: starEach [] X.env := by rfl)
    (hpl : (backTo pos (starEach [.Name y p2] X.env)).any (·.1) = false := by rfl) :
    PE X (.Call (.Name "isinstance" p) [.Name x p1, .Name y p2] [] pos) (tE (gc X A0 W) (isxE i b)) :=
  isx_of hx hN hv hd hcd (pe_bltn (v := .ty T) hg2 hmy hv2 rfl hn2 hd2) (fun w h => h) ok hm hg he he2 hpl
end
/-! ### xs.count(d), xs.index(d) of a list of data -/
def rCountD (K : PySem.W.Frag) : V → List V → Hp → VK → Prop := fun x xs H Q => ∃ (a : Addr) (y : V) (d : PyData) (ds : List PyData), x = V.ref a ∧ xs = [y] ∧ Dp K H (V.ref a) (.list ds) ∧ Dp K H y d ∧
  SeqAt.shaped (.list ds) = true ∧ SeqAt.shaped d = true ∧ Q (.int (ds.countP fun z => PyData.eqv z d : Nat)) H
theorem mt_countD {X : Cx} (hu : X.A.units + 65 < cLine) : MtR X "list.count" (rCountD X.K) := by
  intro pins s σ H x xs v us Q I rx rxs h
  obtain ⟨a, y, d, ds, rfl, rfl, hl, hy, sl, sd, q⟩ := h
  cases rx
  cases rxs with
  | cons ry rt =>
    rename_i uy ut
    cases rt
    obtain ⟨bs, r1⟩ := Dp.reads I d y uy hy ry
    have hxs : PyData.canLayAll0 ds = true := SeqAt.canLay_of_shaped sl
    have hroom : X.A.units + 1 + min (PyData.depthAll ds) d.depth < cLine := room_in_shaped sd hu
    cases hl with
    | lst hs ha =>
      obtain ⟨its, rv, ⟨⟨cls, dd, data, sls⟩, n, ho, hc, hdn, hdt⟩, hlen⟩ := I.list hs
      simp only at hc hdt
      subst hc hdt
      obtain ⟨as, h4⟩ := Dp.readsAll I ds _ its ha rv
      have hmap : its.map (SeqAt.readOf s.heap) = ds := SeqAt.readsAll_map ds its as hxs h4
      refine call_meets PySem.F.slot_list_count ⟨_, ho, rfl⟩ PySem.F.entry_list_count (PySem.F.args_list_count_2 _ _)
        (SeqAt.list_countAt a its.toArray n dd sls uy (fun u => PyData.eqv (SeqAt.readOf s.heap u) d)) ⟨ho, SeqAt.items_eqAt (vs := its.toArray) (show ReadsAll s.heap its.toArray.toList ds as from h4) r1 hxs (SeqAt.canLay_of_shaped sd) hroom, ?_⟩
      have ec : its.toArray.toList.countP (fun u => PyData.eqv (SeqAt.readOf s.heap u) d) = ds.countP fun z => PyData.eqv z d := by
        have e2 : ds.countP (fun z => PyData.eqv z d) = (its.map (SeqAt.readOf s.heap)).countP fun z => PyData.eqv z d := by rw [hmap]
        rw [e2, List.countP_map]
        rfl
      rw [ec]
      exact ⟨.int _, H, I.tok _, ⟨_, rfl⟩, q⟩
def countD (d x : PyData) : Option Ev := match d with
  | .list ds => if (SeqAt.shaped (.list ds) && SeqAt.shaped x) = true then some (.val (.int (ds.countP fun z => PyData.eqv z x : Nat))) else none
  | _ => none
def indexLD (d x : PyData) : Option Ev := match d with
  | .list ds => if (SeqAt.shaped (.list ds) && SeqAt.shaped x) = true then (placeD x ds 0).map fun j => .val (.int j) else none
  | _ => none
/-- a method of a list with one argument, by data -/
def isLs8 : Option PyData → Bool
  | some (.list _) => true
  | _ => false
def lmK2 (b : PyData → PyData → Option Ev) (e : Ev) : Ev × List B → Rs (Ev × List B) := fun q => resE q.2 ((peek q.2 e).bind fun d1 => (peek q.2 q.1).bind fun d2 => b d1 d2)
def lmK (b : PyData → PyData → Option Ev) (fa : SE) : Ev × List B → Rs (Ev × List B) := fun p => if isLs8 (peek p.2 p.1) = true then (fa p.2).bind (lmK2 b p.1) else .bad
def lmE (b : PyData → PyData → Option Ev) (fe fa : SE) : SE := fun ρ => (fe ρ).bind (lmK b fa)
theorem lm_ok {g : Gc} {r : V → List V → Hp → VK → Prop} {b : PyData → PyData → Option Ev} {fe fa : SE} (ho : ∀ S H x y d1 d2 e Q, Dw g.K S H x d1 → Dw g.K S H y d2 → b d1 d2 = some e → Out g.K S H e Q → r x [y] H Q) :
    ∀ σ H Q, tE g (lmE b fe fa) σ H Q → tBM g.K "list" r (tE g fe) (tCons (tE g fa) tNil) σ H Q := by
  rintro σ H Q ⟨S, ρ, rp, h⟩
  refine tE_bind (P := fun z => PostE g S H σ ρ z Q) exE PostE.bad rp h fun p S1 H1 v1 t1 r1 e1 h => ?_
  unfold lmK at h
  split at h
  rotate_left
  · exact h.elim
  rename_i hl
  refine ⟨?_, ?_⟩
  · cases p0 : peek p.2 p.1 with
    | none => rw [p0] at hl; cases hl
    | some d0 =>
      rw [p0] at hl
      cases d0 with
      | list ds =>
        obtain ⟨a, xs, rfl, q, _⟩ := (peek_ok r1 e1 p0).lst
        exact .inl ⟨rfl, xs, q.sq⟩
      | _ => cases hl
  · refine tE_bind (P := fun z => PostE g S1 H1 σ p.2 z Q) exE PostE.bad r1 (h.from t1) fun q S2 H2 v2 t2 r2 e2 h => ?_
    obtain ⟨e, he, out⟩ := resE_out t2 r2 h
    have e1' := e1.mono r1 t2
    cases p1 : peek q.2 p.1 with
    | none => rw [p1] at he; cases he
    | some d1 =>
      rw [p1] at he
      cases p2 : peek q.2 q.1 with
      | none => rw [p2] at he; cases he
      | some d2 =>
        rw [p2] at he
        exact ho S2 H2 v1 v2 d1 d2 e Q (peek_ok r2 e1' p1) (peek_ok r2 e2 p2) he out
section
variable {X : Cx} {A0 : Ax} {W : WX} {o e : Expr} {fe fa : SE} {apos cpos : Pos}
theorem g_count (hu : X.A.units + 65 < cLine) (ho : PE X o (tE (gc X A0 W) fe)) (ha : PE X e (tE (gc X A0 W) fa)) (hbase : attributeBase o "count" X.env (eval o X.env) = eval o X.env := by rfl)
    (hfew : ((backTo cpos (starEach [e] X.env)).all (fun x => !x.1) && (backToKw cpos (keywordEach [] X.env)).all (fun x => x.1.isSome)
      && decide (([e] : List Expr).length + ([] : List Keyword).length + (if ([] : List Keyword).isEmpty then 0 else 1) < 30)) = true := by rfl)
    (hline : (apos.endLine == cpos.line) = true := by rfl) (hs : starEach [e] X.env = (false, eval e X.env) :: starEach [] X.env := by rfl) (hplain : (backTo cpos (starEach [] X.env)).any (·.1) = false := by rfl) :
    PE X (.Call (.Attribute o "count" apos) [e] [] cpos) (tE (gc X A0 W) (lmE countD fe fa)) := by
  refine PE_imp (pe_bm PySem.F.plainAttrs_list PySem.F.slot_list_count PySem.F.type_list_count (mt_countD hu) ho (pa_cons ha pa_nil hs) hbase hfew hline hs hplain) (lm_ok fun S H x y d1 d2 e Q h1 h2 he out => ?_)
  unfold countD at he
  cases d1 with
  | list ds =>
    simp only at he
    split at he
    · rename_i hc
      simp only [Bool.and_eq_true] at hc
      cases he
      obtain ⟨a, xs, rfl, _⟩ := h1.lst
      exact ⟨a, y, d2, ds, rfl, rfl, h1.dp (shaped_lay hc.1), h2.dp (shaped_lay hc.2), hc.1, hc.2, outInt out⟩
    · cases he
  | _ => cases he
theorem g_indexL (hu : X.A.units + 65 < cLine) (ho : PE X o (tE (gc X A0 W) fe)) (ha : PE X e (tE (gc X A0 W) fa)) (hbase : attributeBase o "index" X.env (eval o X.env) = eval o X.env := by rfl)
    (hfew : ((backTo cpos (starEach [e] X.env)).all (fun x => !x.1) && (backToKw cpos (keywordEach [] X.env)).all (fun x => x.1.isSome)
      && decide (([e] : List Expr).length + ([] : List Keyword).length + (if ([] : List Keyword).isEmpty then 0 else 1) < 30)) = true := by rfl)
    (hline : (apos.endLine == cpos.line) = true := by rfl) (hs : starEach [e] X.env = (false, eval e X.env) :: starEach [] X.env := by rfl) (hplain : (backTo cpos (starEach [] X.env)).any (·.1) = false := by rfl) :
    PE X (.Call (.Attribute o "index" apos) [e] [] cpos) (tE (gc X A0 W) (lmE indexLD fe fa)) := by
  refine PE_imp (pe_bm PySem.F.plainAttrs_list PySem.F.slot_list_index PySem.F.type_list_index (mt_indexD hu) ho (pa_cons ha pa_nil hs) hbase hfew hline hs hplain) (lm_ok fun S H x y d1 d2 e Q h1 h2 he out => ?_)
  unfold indexLD at he
  cases d1 with
  | list ds =>
    simp only at he
    split at he
    · rename_i hc
      simp only [Bool.and_eq_true] at hc
      cases pl : placeD d2 ds 0 with
      | none => rw [pl] at he; cases he
      | some j =>
        rw [pl] at he
        cases he
        obtain ⟨i, z, ej, g1, g2, g3⟩ := placeD_ok pl
        rw [Nat.zero_add] at ej
        subst ej
        obtain ⟨a, xs, rfl, _⟩ := h1.lst
        exact ⟨a, y, d2, ds, j, z, rfl, rfl, h1.dp (shaped_lay hc.1), h2.dp (shaped_lay hc.2), hc.1, hc.2, g1, g2, g3, outInt out⟩
    · cases he
  | _ => cases he
end
end G
set_option maxHeartbeats 2000000
namespace G
open PySem PySem.Spec PyProof.Rows L2
/-! ### a lambda is made: the tables grow, all else stays -/
def GrowT (H H' : Hp) : Prop := ∀ b o, H b = some o → H' b = some o ∨ (isTb o ∧ ∃ o', isTb o' ∧ H' b = some o')
theorem GrowT.keep {H H' : Hp} (g : GrowT H H') {b : Addr} {o : HO} (h : H b = some o) (n : ¬ isTb o) : H' b = some o := by
  rcases g b o h with q | ⟨q, _⟩
  · exact q
  · exact (n q).elim
theorem GrowT.some {H H' : Hp} (g : GrowT H H') {b : Addr} (h : ∃ o, H b = some o) : ∃ o, H' b = some o := by
  obtain ⟨o, h⟩ := h
  rcases g b o h with q | ⟨_, o', _, q⟩
  · exact ⟨o, q⟩
  · exact ⟨o', q⟩
end G
set_option maxHeartbeats 2000000
namespace G
open PySem PySem.Spec PyProof.Rows L2
/-! ### the lambda is called, by the def that was handed it: the maker's slots are read -/
/-! ### defs that are called while an exception is handled -/
section
variable {P : Program} {w : World} {K : PySem.W.Frag} {mg : Str → Option Value} {base : Heap} {Γ : Gx}
/-- what the frames of an except suite know besides -/
def Gx.hot (Γ : Gx) (a C : Addr) (pd : Option Addr) : Gx := { Γ with pa := a, pc := C, pd := pd }
abbrev cxHot (P : Program) (w : World) (K : PySem.W.Frag) (mg : Str → Option Value) (base : Heap) (N : List Str) (qual : Str) (scope : Scope) (f : Addr) (cd : Value) (A : Around) (outer : List Env) (s : Shared) (H : Hp) (p : Addr × Obj) : Cx :=
  L2H.cxH C8.CX0 P w K mg base N qual scope f cd A outer s H C8.E0 p
structure FnGH (P : Program) (w : World) (K : PySem.W.Frag) (mg : Str → Option Value) (base : Heap) (Γ : Gx) (k : Nat) (f : Addr) (fd : FuncData) (ps : List Str) (F : SE) : Prop where
  run : ∀ (A : Around) (outer : List Env) (s : Shared) (H : Hp) (args : Args) (us : List Value) (vs : List V) (Q : VK) (S : Addr → Prop) (bs : List B) (p : Addr × Obj) (C : Addr) (pd : Option Addr), L2H.RoomH k A → A.guards = some [] → L2H.PinOk outer H s p → Zc (.ref C) pd p.2 → (∃ vs, p.2.data = .fields vs) →
    Env0 P w K mg base A outer s H → BindsTo s fd args (ps.zip us) → Vals vs us → vs.length = ps.length → (∀ (i : Nat) (d : PyData), bs[i]? ≠ some (B.own d)) → Rp K (A0p (Γ.hot p.1 C pd) vs bs) S H (pst vs) bs → PostF (Γ.hot p.1 C pd) K mg S H vs bs (F bs) Q (fun _ _ _ => False) →
    codeAny (model P w) A (.call (.ref f) args) (CR C8.CX0 outer P w H s Q C8.E0) s
theorem fnGH_of {dV : Value} {x qual : Str} {st : Stmt} {f : Addr} {fd : FuncData} {N ps : List Str} {k : Nat} {body : SS} (F : FnEx K dV x qual st f fd) (S : FnScope N ps (defScope st)) (sys : SysOk base)
    (hbody : ∀ (cdv : Value), CodeAt K f cdv → ∀ (A : Around) (outer : List Env) (s : Shared) (H : Hp) (p : Addr × Obj) (C : Addr) (pd : Option Addr) (A0 : Nat → Option Addr), L2H.RoomH k (cxHot P w K mg base N qual (defScope st) f cdv A outer s H p).A → GX (cxHot P w K mg base N qual (defScope st) f cdv A outer s H p) →
      HotX (cxHot P w K mg base N qual (defScope st) f cdv A outer s H p) (Γ.hot p.1 C pd) →
      PSs (cxHot P w K mg base N qual (defScope st) f cdv A outer s H p) (defBody st) (tSt (gc (cxHot P w K mg base N qual (defScope st) f cdv A outer s H p) ⟨A0, Γ.hot p.1 C pd⟩ W0) body)) :
    FnGH P w K mg base Γ (k + 1) f fd ps (defF N.length body) := by
  obtain ⟨oc, od, kV, doc, pm, an, cdv, ct, osl, rfl, lk, hcd⟩ := F
  refine ⟨fun A outer s H args us vs Q S0 bs p C pd hr hgd hp hz hf e0 hb r hl hbs rp hF => ?_⟩
  have KX : K.In s.heap := e0.mod.kin.keeps fun b o e => (e0.bs b o e).1
  have lim : s.heap.NoLimit := e0.mod.nolimit.keeps fun b o e => (e0.bs b o e).1
  have hpl : ps.length ≤ N.length := by have := congrArg List.length S.pre; rw [List.length_take] at this; omega
  have hkind : ∀ y ∈ ps.zip us, (defScope st).names.lookup y.1 = some .local ∨ ((defScope st).names.lookup y.1 = some .cell ∧ ((cellsFrom (s.heap.objs.size + 1) (defScope st).names []).lookup y.1).isSome = true) := fun ⟨n, v⟩ hy => by
    rcases S.par n (List.of_mem_zip hy).1 with q | q
    · exact .inl q
    · exact .inr ⟨q, PySem.W.cellsFrom_some _ _ _ (.inl q)⟩
  refine codeAny_call_function hr.depth (KX _ _ lk) rfl S.co S.gen rfl (PySem.W.codeRec_of KX hcd) (hb _ _ _ _ ?_)
  refine wpAny_newFunctionEnv_cells S.kind hkind fun env he s1 x => ?_
  subst he
  refine ⟨lim.keeps x.toInCall.keep, codeAny_func ?_⟩
  have hrd : L2H.RoomH k (A.deeper (envOfC qual (defScope st) s.heap.objs.size f cdv)) := hr.deeper _
  have ht := hbody cdv ⟨oc, od, _, osl, lk, rfl⟩ A outer s H p C pd (A0f vs bs) hrd ⟨hgd, sys, by have := hrd.un; show (A.deeper (envOfC qual (defScope st) s.heap.objs.size f cdv)).units + 150 < _; omega⟩ ⟨p.2, List.mem_singleton.mpr rfl, hz, hf⟩
  have I := L2H.inv_startH S hp e0 hl r x (CX := C8.CX0) (P := P) (E := C8.E0)
  obtain ⟨rp', _⟩ := rp.begin_ (N := N) (by omega)
  refine wpAny_mono (ht.run [] s1 (L2.start N vs) H { nx := fun _ H' => Q .non H', rt := Q } I ⟨S0, _, rp', body_reads (by omega) hbs rp hF⟩) (fun fl s' hs => ?_) fun e s' hs => hs
  have fin : ∀ {σ' : St} {H' : Hp} {v : V} {u : Value} {s' : Shared}, Inv (cxHot P w K mg base N qual (defScope st) f cdv A outer s H p) [] σ' H' s' → RelV v u → Q v H' → CE outer P w H s Q u s' :=
    fun {σ' H' v u s'} J rv q => ⟨v, H', J.os, J.bare, J.base, J.hok, rv, q⟩
  cases fl with
  | ret u =>
    obtain ⟨v, σ', H', J, rv, q⟩ := hs
    exact fin J rv q
  | next =>
    obtain ⟨σ', H', J, q⟩ := hs
    exact fin (v := V.non) (u := Value.none) J rfl q
  | brk =>
    obtain ⟨_, _, _, q⟩ := hs
    exact False.elim q
  | cont =>
    obtain ⟨_, _, _, q⟩ := hs
    exact False.elim q
structure CalledH (P : Program) (w : World) (K : PySem.W.Frag) (mg : Str → Option Value) (base : Heap) (Γ : Gx) (k : Nat) (x : Str) (ps : List Str) (F : SE) : Prop where
  ex : ∃ (f : Addr) (fd : FuncData), FnGH P w K mg base Γ k f fd ps F ∧ mg x = some (.ref f) ∧ PySem.W.keepIn K (.ref f) = true ∧ Binds K fd ps []
theorem calledH_of {k : Nat} {dV : Value} {x : Str} {ps : List Str} {F : SE} {st : Stmt} {f : Addr} {fd : FuncData} (h : FnK K mg dV x st ps f fd) (b : Binds K fd ps []) (g : FnGH P w K mg base Γ k f fd ps F) : CalledH P w K mg base Γ k x ps F := ⟨⟨f, fd, g, h.at_, h.kp, b⟩⟩
end
section
variable {X : Cx} {f0 : Nat → Option Addr} {Γ : Gx} {a C : Addr} {pd : Option Addr} {k j : Nat} {ps : List Str} {F : SE} {x : Str} {p pos : Pos} {e : Expr} {es : List Expr} {fa : SA}
theorem gcallH (ms : List Bool) (c : CalledH X.prog X.w X.K X.mg X.base Γ k x ps F) (hr : L2H.RoomH j X.A) (gx : GX X) (hx : HotX X (Γ.hot a C pd)) (ha : PA X (e :: es) (tA (gc X ⟨f0, Γ.hot a C pd⟩ W0) fa)) (hj : k ≤ j := by decide) (hn : (ms.length == ps.length) = true := by rfl) (hg : Gl X x := by rfl) (hdb : (x == ("__debug__" : Str)) = false := by decide)
    (he : starEach (e :: es) X.env = (false, eval e X.env) :: starEach es X.env := by rfl) (hpl : (backTo pos (starEach es X.env)).any (·.1) = false := by rfl) :
    PE X (.Call (.Name x p) (e :: es) [] pos) (tE (gc X ⟨f0, Γ.hot a C pd⟩ W0) (callF ms F [] fa)) := by
  obtain ⟨f, fd, gg, hm, hk, hb⟩ := c.ex
  obtain ⟨oe, hp, hz, hf⟩ := hx
  have run : PE X (.Call (.Name x p) (e :: es) [] pos) (tCallG (spG (Γ.hot a C pd) X.K X.mg ps.length [] F) (WE W0) (tA (gc X ⟨f0, Γ.hot a C pd⟩ W0) fa)) := by
    refine ⟨fun pins s σ H Q I h => ?_⟩
    refine wpAny_Call_Name_kw (ld_glob I hg hm ?_ hdb)
    refine PySem.W.callWith_K (h₀ := X.base) I.ok.mod.kin hk (thn (ha.run pos pins s σ H _ I h) fun us s1 ⟨vs, H1, I1, r, hl, S, bs, hbs, rp, q⟩ => ⟨I1.kIn, ?_⟩) he hpl
    rw [List.append_nil] at hl rp q
    obtain ⟨p1, p2, p3, p4, p5⟩ := I1.pin _ (List.mem_append_left _ hp)
    have nofs : a ∉ frs X.stack := fun z => by
      rcases List.mem_cons.mp (I1.stkSub _ z) with y | y
      · exact p3 y
      · exact p4 y
    refine wpAny_call (codeAny_mono (gg.run X.A X.stack s1 H1 ⟨us, []⟩ us vs Q S bs (a, oe) C pd (hr.mono hj) gx.gd ⟨p1, p2, nofs, p5⟩ hz hf I1.env0 (by
      have := hb s1 us I1.kIn (by rw [List.append_nil, ← r.length]; exact hl)
      rw [List.append_nil] at this
      exact this) r hl hbs rp q) fun r s' hq => ?_)
    cases r with
    | error e => exact (show False from hq).elim
    | ok fl =>
      cases fl with
      | ret u => exact I1.after hq
      | _ => exact False.elim hq
  exact PE_imp run (callG_ok (A0 := ⟨f0, Γ.hot a C pd⟩) .nil fun vs es h ρ es' ρ' q => by rw [List.append_nil, cv1_len h q]; exact eq_of_beq hn)
end
end G
set_option maxHeartbeats 2000000
namespace G
open PySem PySem.Spec PyProof.Rows L2
/-! ### said(lambda: e): repr of e, or what the except suite makes of the exception's name -/
def saidH (HS : SS) (n : Xn) (ρ1 : List B) : Rs (Ev × List B) := match HS [.un, .exc n, .un] with
  | .ok (.rt (.val (.str m)) _) => .ok (.val (.str m), ρ1)
  | _ => .bad
def saidK (ns : List Str) (HS : SS) : Rs (Ev × List B) → Rs (Ev × List B)
  | .ok (ev, ρ1) => resE ρ1 ((peek ρ1 ev).bind fun d => reprD [d])
  | .ex n ρ1 => if ns.contains n.cls = true then saidH HS n ρ1 else .bad
  | .bad => .bad
def saidE (ns : List Str) (HS : SS) (fe : SE) : SE := fun ρ => saidK ns HS (fe ρ)
/-- what must be known of the def that is handed the lambda -/
structure SaidDef (P : Program) (w : World) (K : PySem.W.Frag) (mg : Str → Option Value) (base : Heap) (Γ : Gx) (k : Nat) (x : Str) (HS : SS) : Prop where
  ex : ∃ (g CG : Addr) (pg : Arguments) (bg : List Stmt) (sg : Scope) (dV kV doc pm cdv ct oc : Value) (an od : Option Addr) (osl : Array (Option Value)) (b0 : Stmt) (suite : List Stmt) (N : List Str) (p1 p2 p3 p4 p5 p6 p7 p8 : Pos),
    mg x = some (.ref g) ∧ PySem.W.keepIn K (.ref g) = true ∧ K.lookup g = some ⟨oc, od, .func (PySem.W.fnOf x x pg bg sg dV kV doc pm an cdv ct), osl⟩ ∧ PySem.W.codeIn K cdv x = true ∧ Binds K (PySem.W.fnOf x x pg bg sg dV kV doc pm an cdv ct) ["_law_call"] [] ∧
    FnScope N ["_law_call"] sg ∧ N = (["_law_call", "_law_error", "_law_name"] : List Str) ∧ Vis sg "_law_call" ∧ sg.names.lookup ("_law_error" : Str) = some NameKind.local ∧ sg.names.lookup ("GridsymError" : Str) = some NameKind.globalImplicit ∧ sg.names.lookup ("repr" : Str) = some NameKind.globalImplicit ∧
    bg = [.Try [.Return (some (.Call (.Name "repr" p1) [.Call (.Name "_law_call" p2) [] [] p3] [] p4)) p5] [.ExceptHandler (some (.Name "GridsymError" p6)) (some "_law_error") (b0 :: suite) p7] [] [] p8] ∧
    mg "GridsymError" = some (.ref CG) ∧ mg "repr" = none ∧ (∀ q ∈ Γ.es, PySem.W.exmOne K (.ref q.2) (.ref CG) = some true) ∧
    ∀ (A : Around) (outer : List Env) (s : Shared) (H : Hp) (a C : Addr) (pd : Option Addr) (oe : Obj) (pn : List (Addr × Obj)), Room k (cxOf C8.CX0 P w K mg base N x sg g cdv A outer s H C8.E0).A → GX (cxOf C8.CX0 P w K mg base N x sg g cdv A outer s H C8.E0) → Zc (.ref C) pd oe → (∃ vs, oe.data = .fields vs) →
      PSs ((cxOf C8.CX0 P w K mg base N x sg g cdv A outer s H C8.E0).suite a ((a, oe) :: pn)) (b0 :: suite) (tSt ⟨K, mg, ⟨fun _ => none, Γ.hot a C pd⟩, W0⟩ HS)
/-- what must be known of the def that makes lambdas -/
structure Maker (K : PySem.W.Frag) (mg : Str → Option Value) (base : Heap) (Γ : Gx) (f : Addr) (q : Str) : Prop where
  ex : ∃ (c P : Addr), CodeAt K f (.ref c) ∧ LamX.TabB base mg c P ∧ (P, q) ∈ Γ.T ∧ ∀ p ∈ Γ.T, p.1 = P → p.2 = q
theorem Maker.code {K : PySem.W.Frag} {mg : Str → Option Value} {base : Heap} {Γ : Gx} {f : Addr} {q : Str} {cdv : Value} (m : Maker K mg base Γ f q) (h : CodeAt K f cdv) : ∃ (c P : Addr), cdv = .ref c ∧ LamX.TabB base mg c P ∧ (P, q) ∈ Γ.T ∧ ∀ p ∈ Γ.T, p.1 = P → p.2 = q := by
  obtain ⟨c, P, ⟨oc, od, fd, osl, e1, e2⟩, r⟩ := m.ex
  obtain ⟨oc', od', fd', osl', e3, e4⟩ := h
  rw [e1] at e3
  cases e3
  exact ⟨c, P, by rw [← e4, e2], r⟩
end G
set_option maxHeartbeats 2000000
namespace G
open PySem PySem.Spec PyProof.Rows L2
theorem huh65 {k : Nat} {A : Around} (hr : L2H.RoomH k A) : A.units + 65 < cLine := by have := hr.un; omega
theorem huh1 {k : Nat} {A : Around} (hr : L2H.RoomH k A) : A.units + 1 < cLine := by have := hr.un; omega
theorem huh64 {k : Nat} {A : Around} (hr : L2H.RoomH k A) : A.units + 64 < cLine := by have := hr.un; omega
theorem SaidDef.mono {P : Program} {w : World} {K : PySem.W.Frag} {mg : Str → Option Value} {base : Heap} {Γ : Gx} {j k : Nat} {x : Str} {HS : SS} (d : SaidDef P w K mg base Γ j x HS) (h : j ≤ k) : SaidDef P w K mg base Γ k x HS := by
  obtain ⟨g, CG, pg, bg, sg, dV, kV, doc, pm, cg, ct, oc, an, od, osl, b0, suite, N, p1, p2, p3, p4, p5, p6, p7, p8, q1, q2, q3, q4, q5, q6, q7, q8, q9, q10, q11, q12, q13, q14, q15, q16⟩ := d.ex
  exact ⟨g, CG, pg, bg, sg, dV, kV, doc, pm, cg, ct, oc, an, od, osl, b0, suite, N, p1, p2, p3, p4, p5, p6, p7, p8, q1, q2, q3, q4, q5, q6, q7, q8, q9, q10, q11, q12, q13, q14, q15, fun A outer s H a C pd oe pn hr => q16 A outer s H a C pd oe pn (hr.mono h)⟩
/-! ### the end: tables, classes -/
section
variable {K : PySem.W.Frag} {h base : Heap} {fs : List (Addr × Str)} {ts : List Addr} {es : List (Str × Addr)} {mg : Str → Option Value}
/-- the classes of exceptions -/
def excCB (K : PySem.W.Frag) (D : Addr) : Bool :=
  PySem.W.findIn K (.ref D) "__getattribute__" == some (some (.builtin "BaseException.__getattribute__")) && PySem.W.findIn K (.ref D) "__getattr__" == some none && PySem.W.subIn K (.ref D) (.type "BaseException") == some true && PySem.W.hasDictIn K D &&
    PySem.W.findIn K (.ref D) "__class__" == some (some (.builtin "object.__class__")) && PySem.W.specialIn K (.builtin "object.__class__") "__get__" == some (some (.builtin "getset_descriptor.__get__")) && PySem.W.takesIn K (.builtin "object.__class__") == some true && PySem.W.mroIn K D (.type "object") == some true
theorem excC_of {D : Addr} (h : excCB K D = true) : ExcC K D := by
  unfold excCB at h
  simp only [Bool.and_eq_true, beq_iff_eq] at h
  obtain ⟨⟨⟨⟨⟨⟨⟨h1, h2⟩, h3⟩, h4⟩, h5⟩, h6⟩, h7⟩, h8⟩ := h
  exact ⟨h1, h2, h3, h4, h5, h6, h7, h8⟩
def isxB (K : PySem.W.Frag) (es : List (Str × Addr)) (cv : Value) (b : Str → Bool) : Bool := es.all fun p => PySem.W.kitOne K (.ref p.2) cv == some (b p.1)
theorem isx_end {cv : Value} {b : Str → Bool} (h0 : (es.all fun p => excCB K p.2) = true) (h : isxB K es cv b = true) : IsxOk K es cv b := fun p hp =>
  ⟨excC_of (List.all_eq_true.mp h0 p hp), beq_iff_eq.mp (List.all_eq_true.mp h p hp)⟩
theorem exm_end {CG : Addr} (h : (es.all fun p => PySem.W.exmOne K (.ref p.2) (.ref CG) == some true) = true) : ∀ q ∈ es, PySem.W.exmOne K (.ref q.2) (.ref CG) = some true := fun p hp => beq_iff_eq.mp (List.all_eq_true.mp h p hp)
theorem es_end (h : ∀ p ∈ es, mg p.1 = some (.ref p.2)) {ns : List Str} (hn : ns = es.map (·.1)) : ∀ n ∈ ns, ∀ C, mg n = some (.ref C) → (n, C) ∈ es := fun n hn' C e => by
  subst hn
  obtain ⟨p, hp, rfl⟩ := List.mem_map.mp hn'
  rw [h p hp] at e
  cases e
  exact hp
end
def refA {mg : Str → Option Value} {x : Str} {C : Addr} (_ : mg x = some (.ref C)) : Addr := C
abbrev frOf {K : PySem.W.Frag} {h : Heap} (_ : K.In h) : PySem.W.Frag := K
end G
/-! a, b, .. = x, y, ..: new lists and dicts stay the frame's own -/
namespace G
open PySem PySem.Spec PyProof.Rows L2
def evN : List SE → List B → Rs (List Ev × List B)
  | [], ρ => .ok ([], ρ)
  | f :: fs, ρ => (f ρ).bind fun p => (evN fs p.2).bind fun q => .ok (p.1 :: q.1, q.2)
def resN : List B → List Ev → Option (List Ev × List B)
  | ρ, [] => some ([], ρ)
  | ρ, e :: es => (resv ρ e).bind fun p => (resN p.2 es).map fun q => (p.1 :: q.1, q.2)
def bindN : List Nat → List Ev → List B → Rs (List B)
  | [], [], ρ => .ok ρ
  | i :: is, e :: es, ρ => (bindV i e ρ).bind fun ρ' => bindN is es ρ'
  | _, _, _ => .bad
def parN (is : List Nat) (fs : List SE) : SS := fun ρ => (evN fs ρ).bind fun p => match resN p.2 p.1 with
  | some (es, ρ1) => (bindN is es ρ1).bind fun ρ' => .ok (.nx ρ')
  | none => .bad
/-! ### [..] * k, of a new list -/
def repR (ρ : List B) : Ev → Option PyData → Rs (Ev × List B)
  | .fr (.list ds), some (.int k) => if ds.length ≤ 1000 ∧ k < 10000 ∧ -10000 < k then .ok (.fr (.list (List.replicate k.toNat ds).flatten), ρ) else .bad
  | _, _ => .bad
def repE (fa fb : SE) : SE := fun ρ => (fa ρ).bind fun p => (fb p.2).bind fun q => repR q.2 p.1 (peek q.2 q.1)
/-! ### a list or a tuple walked -/
def iAny (K : PySem.W.Frag) (tl : TE) : TI := fun σ H R => tl σ H fun v H1 => ∃ a, v = .ref a ∧ (((∃ xs, SqL K H1 a xs) ∧ R (Itl K a) H1) ∨ ((∃ xs, SqT K H1 a xs) ∧ R (Itt K a) H1))
theorem pi_any {X : Cx} {tg l : Expr} {tl : TE} (hl : PE X l tl) : PI X tg l (iAny X.K tl) := by
  refine ⟨fun pins s σ H R I h => ?_⟩
  refine thn (hl.run pins s σ H _ I h) fun v s1 ⟨x, H1, I1, r1, q1⟩ => ?_
  obtain ⟨a, e, q⟩ := q1
  subst e
  cases r1
  rcases q with ⟨⟨xs, hq⟩, q⟩ | ⟨⟨xs, hq⟩, q⟩
  · obtain ⟨its, rv, p, hz⟩ := I1.list hq
    refine wpAny_pyIter_list p.isList ?_
    refine ⟨s1.heap.objs.size, [s1.heap.objs.size], _, _, H1, rfl, I1.kept (t' := s1.toks) fun b o e => Heap.get?_push_of_some _ e, turn_list a _, ⟨_, Heap.get?_push_size _ rfl, rfl, rfl⟩, fun b hb => ?_, q⟩
    have e : b = s1.heap.objs.size := by simpa using hb
    subst e
    exact I1.fpOk (Nat.le_refl _) (I1.hok.fresh (Nat.le_refl _))
  · obtain ⟨its, rv, p, hz⟩ := I1.tuple hq
    refine wpAny_pyIter_tuple (show s1.heap.IsTuple a its.toArray from p) ?_
    refine ⟨s1.heap.objs.size, [s1.heap.objs.size], _, _, H1, rfl, I1.kept (t' := s1.toks) fun b o e => Heap.get?_push_of_some _ e, turn_tuple a _, ⟨_, Heap.get?_push_size _ rfl, rfl, rfl⟩, fun b hb => ?_, q⟩
    have e : b = s1.heap.objs.size := by simpa using hb
    subst e
    exact I1.fpOk (Nat.le_refl _) (I1.hok.fresh (Nat.le_refl _))
def bothK : PyData → Option (List PyData)
  | .list ds => some ds
  | .tuple ds => some ds
  | _ => none
theorem gi_any {X : Cx} {A0 : Ax} {W : WX} {tg l : Expr} {fe : SE} (hl : PE X l (tE (gc X A0 W) fe)) : PI X tg l (tI (gc X A0 W) (seqI bothK fe)) := PI_imp (pi_any hl) fun σ H R h => seqI_bind h fun S' H' v d ds hd hk q => by
  cases d with
  | list ds' => cases hk; obtain ⟨a, rfl, hx, ok⟩ := itl_ok hd; exact ⟨a, rfl, .inl ⟨hx, q _ ok⟩⟩
  | tuple ds' => cases hk; obtain ⟨a, rfl, hx, ok⟩ := itt_ok hd; exact ⟨a, rfl, .inr ⟨hx, q _ ok⟩⟩
  | _ => cases hk
end G
/-! dicts: in, display, stores, walks -/
namespace G
open PySem PySem.Spec PyProof.Rows L2
/-! ### in -/
def inG : PyData → PyData → Option Ev := fun x y => match y with
  | .dict kvs => (keyOf x).bind fun q => if keyed kvs = true then some (.val (.bool (dget kvs q).isSome)) else none
  | _ => inD x y
def ninG : PyData → PyData → Option Ev := fun x y => match y with
  | .dict kvs => (keyOf x).bind fun q => if keyed kvs = true then some (.val (.bool (!(dget kvs q).isSome))) else none
  | _ => ninD x y
def rInG : R2 := fun y x H Q => ∃ a o, x = .ref a ∧ DGet H a y o ∧ Q (.bl o.isSome) H
theorem Dw.has {K : PySem.W.Frag} {S : Addr → Prop} {H : Hp} {x y : V} {kvs : List (PyData × PyData)} {k : PyData} {q : Key} (h : Dw K S H x (.dict kvs)) (hk : Dw K S H y k) (hq : keyOf k = some q) (hd : keyed kvs = true) : ∃ a o, x = .ref a ∧ DGet H a y o ∧ (dget kvs q).isSome = o.isSome := by
  obtain ⟨a, o, rfl, ho, c⟩ := h.dic
  obtain ⟨ks, ds, rfl, dr, rfl⟩ := c.key hd
  refine ⟨a, valV ks q, rfl, .inl ⟨_, q, ho.rd, hk.key hq, rfl⟩, ?_⟩
  obtain ⟨h1, h2⟩ := dget_val q dr
  cases e : dget ((ks.map fun p => kD p.1).zip ds) q with
  | none => rw [h2 e]; rfl
  | some d => obtain ⟨v, e1, _⟩ := h1 d e; rw [e1]; rfl
section
variable {X : Cx} {A0 : Ax} {W : WX} {a b : Expr} {fa fb : SE} {pos : Pos}
theorem op_inG (hu : X.A.units + 1 < cLine) : OpR X (compareOp .In) rInG := by
  intro pins s σ H y x v u Q I ry rx h
  obtain ⟨a, o, rfl, g, q⟩ := h
  obtain rfl : u = Value.ref a := rx
  exact d_in hu I g ry fun s' I' => ⟨.bl o.isSome, H, I', rfl, q⟩
theorem op_inX (hu : X.A.units + 65 < cLine) : OpR X (compareOp .In) (fun x y H Q => (rInD X.K x y H Q ∨ rInT X.K x y H Q) ∨ rInG x y H Q) := ((op_inD hu).or (op_inT hu)).or (op_inG (by omega))
theorem inG_ok {K : PySem.W.Frag} : OpD K (fun x y H Q => (rInD K x y H Q ∨ rInT K x y H Q) ∨ rInG x y H Q) inG := by
  intro S H x y d1 d2 e Q h1 h2 he out
  unfold inG at he
  cases d2 with
  | dict kvs =>
    simp only at he
    cases hq : keyOf d1 with
    | none => rw [hq] at he; cases he
    | some q =>
      rw [hq] at he
      simp only [Option.bind] at he
      split at he
      · rename_i hk
        cases he
        obtain ⟨a, o, rfl, g, eo⟩ := h2.has h1 hq hk
        rw [eo] at out
        exact .inr ⟨a, o, rfl, g, outBl out⟩
      · cases he
  | _ => exact .inl (inD_ok S H x y d1 _ e Q h1 h2 he out)
end
/-! ### the walks: values, items; the dict is locked from then on -/
def valsK : PyData → Option (List PyData)
  | .dict kvs => if keyed kvs = true then some (kvs.map (·.2)) else none
  | _ => none
def itemsK : PyData → Option (List PyData)
  | .dict kvs => if keyed kvs = true then some (kvs.map fun p => .tuple [p.1, p.2]) else none
  | _ => none
/-! ### {k: v, ..} -/
def flatA : List (SE × SE) → SA
  | [] => aNil
  | (k, v) :: r => aCons k (aCons v (flatA r))
def pairsD : List PyData → Option (List (Key × PyData))
  | [] => some []
  | k :: v :: r => (keyOf k).bind fun q => (pairsD r).map fun m => (q, v) :: m
  | _ => none
def mergeD : List (PyData × PyData) → List (Key × PyData) → List (PyData × PyData)
  | acc, [] => acc
  | acc, (q, d) :: r => mergeD (dput acc q d) r
def dicE (prs : List (SE × SE)) : SE := fun ρ => (flatA prs ρ).bind fun p => match shrs p.2 p.1 with
  | some (ds, ρ') => (match pairsD ds with
    | some m => if m.length ≤ 15 then .ok (.fr (.dict (mergeD [] m)), ρ') else .bad
    | none => .bad)
  | none => .bad
section
variable {X : Cx} {A0 : Ax} {W : WX}
/-- {} -/
def dic0E : SE := fun ρ => .ok (.fr (.dict []), ρ)
end
end G
/-! sorted: tuples of ints of one length, any number of them -/
namespace G
open PySem PySem.Spec PyProof.Rows L2
/-! ### the one sorted list -/
/-! ### the rule -/
/-! ### by data -/
end G
namespace G
open PySem PySem.Spec PyProof.Rows L2
/-! ### enumerate(list), enumerate(tuple) -/
def enD (ds : List PyData) : List PyData := ds.zipIdx.map fun p => .tuple [.int p.2, p.1]
def enumK : PyData → Option (List PyData)
  | .list ds => some (enD ds)
  | .tuple ds => some (enD ds)
  | _ => none
end G
/-! pop, extend, int, str, sum, list(d), list(d.items()) -/
namespace G
open PySem PySem.Spec PyProof.Rows L2
def mtPop (d : PyData) (ys : List PyData) : Option (PyData × PyData) := match d, ys with
  | .list ds, [] => (ds.getLast?).map fun y => (.list ds.dropLast, y)
  | _, _ => none
def mtPopA (d : PyData) (ys : List PyData) : Option (PyData × PyData) := match d, ys with
  | .list (y :: r), [.int 0] => some (.list r, y)
  | _, _ => none
/-! ### xs.extend([..]) of a new list -/
def extG (i : Nat) (ρ : List B) : Ev → Rs (Ev × List B)
  | .fr (.list es) => (match (ρ[i]?) with
    | some b => (match ownD b with
      | some (.list ds) => if ds.length + es.length ≤ 1000000 then .ok (.val .none, ρ.set i (reD b (.list (ds ++ es)))) else .bad
      | _ => .bad)
    | none => .bad)
  | _ => .bad
def extE1 (i : Nat) (fe : SE) : SE := fun ρ => (fe ρ).bind fun p => extG i p.2 p.1
def extE (i : Nat) (fe : SE) : SE := fun ρ => match (ρ[i]?).bind ownD with
  | some d => if isLst d = true then extE1 i fe ρ else .bad
  | none => .bad
/-! ### int, str, sum -/
def toIntD : List PyData → Option Ev
  | [.int i] => some (.val (.int i))
  | [.bool b] => some (.val (.int (if b = true then 1 else 0)))
  | _ => none
def toStrD : List PyData → Option Ev
  | [.int i] => if i.natAbs.log2 < 1920 then some (.val (.str (toString i))) else none
  | _ => none
end G
namespace G
open PySem PySem.Spec PyProof.Rows L2
/-! ### list(x.items()) of a slot's own dict -/
def itemsJ (ρ : List B) : Option PyData → Rs (Ev × List B)
  | some (.dict kvs) => if keyed kvs = true then .ok (.fr (.list (kvs.map fun p => .tuple [p.1, p.2])), ρ) else .bad
  | _ => .bad
def itemsE (i : Nat) : SE := fun ρ => itemsJ ρ ((ρ[i]?).bind ownD)
end G
namespace G
open PySem PySem.Spec PyProof.Rows L2
/-! ### xs[k] as one of several targets -/
def subH (i : Nat) (y : PyData) (p : Ev × List B) : Rs (List B) := match peek p.2 p.1 with
  | some k => (match p.2[i]? with
    | some b => (match ownD b with
      | some d => (match setD d k y with
        | some d' => .ok (p.2.set i (reD b d'))
        | none => .bad)
      | none => .bad)
    | none => .bad)
  | none => .bad
def subG (i : Nat) (fk : SE) : SG := fun y ρ => match (ρ[i]?).bind ownD with
  | some _ => (fk ρ).bind (subH i y)
  | none => .bad
end G
/-! sorted(set(xs)), xs a list of ints -/
namespace G
open PySem PySem.Spec PyProof.Rows L2
/-! ### the data: ints in order, each once -/
/-! ### set(xs) -/
end G
/-! sorted(set(xs)): tuples of ints of one length, fewer than 64 -/
namespace G
open PySem PySem.Spec PyProof.Rows L2
/-! ### the data: no row twice -/
end G
/-! xs[::-1] of a list or a tuple -/
namespace G
open PySem PySem.Spec PyProof.Rows L2
section
variable {X : Cx}
def revD : PyData → Option Ev
  | .list ds => some (.fr (.list ds.reverse))
  | .tuple ds => some (.val (.tuple ds.reverse))
  | _ => none
end
end G
/-! ### a mirror run by simp -/
namespace G
open PySem PySem.Spec PyProof.Rows L2
section
variable {α β : Type} {a : α} {f : α → Rs β} {p : Prop} [Decidable p] {x y : Rs α} {n : Str} {ρ ρ' : List B} {f1 f2 : SS} {fe fa fb fc fk : SE} {fs : SA} {c ca cb : SB} {e e1 e2 : Ev} {es : List Ev} {d d1 d2 d3 : PyData} {ds : List PyData} {i j l m : Nat} {b b0 b1 b2 b3 b4 b5 b6 b7 : B} {bo : Bool} {fl : Fl} {r : Rs Fl} {it : SI} {t : SG}
theorem rb_ok : Rs.bind (.ok a) f = f a := id rfl
theorem rb_ex : Rs.bind (.ex n ρ) f = .ex n ρ := id rfl
theorem rb_bad : Rs.bind .bad f = .bad := id rfl
theorem rb_ite : Rs.bind (if p then x else y) f = if p then Rs.bind x f else Rs.bind y f := by split <;> rfl
theorem lz : (a :: (l' : List α))[0]? = some a := id rfl
theorem ls {l' : List α} : (a :: l')[i + 1]? = l'[i]? := id rfl
theorem sz {a' : α} {l' : List α} : (a :: l').set 0 a' = a' :: l' := id rfl
theorem ss {a' : α} {l' : List α} : (a :: l').set (i + 1) a' = a :: l'.set i a' := id rfl
/-- statements -/
def seqK (f2 : SS) : Fl → Rs Fl
  | .nx ρ => f2 ρ
  | r => .ok r
theorem r_seq : seqS f1 f2 ρ = Rs.bind (f1 ρ) (seqK f2) := by unfold seqS; congr 1
theorem k_seq1 : seqK f2 (.nx ρ) = f2 ρ := id rfl
theorem k_seq2 : seqK f2 (.rt e ρ) = .ok (.rt e ρ) := id rfl
theorem k_seq3 : seqK f2 (.bk ρ) = .ok (.bk ρ) := id rfl
theorem k_seq4 : seqK f2 (.ct ρ) = .ok (.ct ρ) := id rfl
theorem r_nx : nxS ρ = .ok (.nx ρ) := id rfl
theorem r_bk : bkS ρ = .ok (.bk ρ) := id rfl
theorem r_ct : ctS ρ = .ok (.ct ρ) := id rfl
theorem r_retN : retNS ρ = .ok (.rt (.val .none) ρ) := id rfl
def retK : Ev × List B → Rs Fl := fun p => .ok (.rt p.1 p.2)
theorem r_ret : retS fe ρ = Rs.bind (fe ρ) retK := id rfl
theorem k_ret : retK (e, ρ) = .ok (.rt e ρ) := id rfl
def dropK : Ev × List B → Rs Fl := fun p => .ok (.nx p.2)
theorem r_drop : dropS fe ρ = Rs.bind (fe ρ) dropK := id rfl
theorem k_drop : dropK (e, ρ) = .ok (.nx ρ) := id rfl
def ifK {γ : Type} (f1 f2 : List B → Rs γ) : Bool × List B → Rs γ := fun p => if p.1 = true then f1 p.2 else f2 p.2
theorem r_if : ifS c f1 f2 ρ = Rs.bind (c ρ) (ifK f1 f2) := id rfl
theorem r_ife : ifE c fa fb ρ = Rs.bind (c ρ) (ifK fa fb) := id rfl
theorem k_if {γ : Type} {f1 f2 : List B → Rs γ} : ifK f1 f2 (bo, ρ) = if bo = true then f1 ρ else f2 ρ := id rfl
def asgK (i : Nat) : Ev × List B → Rs Fl := fun p => Rs.bind (bindV i p.1 p.2) fun ρ' => .ok (.nx ρ')
theorem r_asg : asgS i fe ρ = Rs.bind (fe ρ) (asgK i) := id rfl
theorem k_asg1 : asgK i (.val d, ρ) = .ok (.nx (ρ.set i (.val d))) := id rfl
theorem k_asg2 : asgK i (.fr d, ρ) = .ok (.nx (ρ.set i (.own d))) := id rfl
def slK (i j : Nat) (ρ : List B) : Option B → Rs Fl
  | some (.own d) => .ok (.nx ((ρ.set j (.val d)).set i (.val d)))
  | some (.val d) => .ok (.nx (ρ.set i (.val d)))
  | _ => .bad
theorem k_asg3 : asgK i (.sl j, ρ) = slK i j ρ ρ[j]? := by
  unfold asgK bindV slK shr
  dsimp only
  cases ρ[j]? with
  | none => rfl
  | some b => cases b <;> rfl
theorem k_sl1 : slK i j ρ (some (.own d)) = .ok (.nx ((ρ.set j (.val d)).set i (.val d))) := id rfl
theorem k_sl2 : slK i j ρ (some (.val d)) = .ok (.nx (ρ.set i (.val d))) := id rfl
/-- what an expression's value is when it is shared -/
def shK {γ : Type} (k : PyData → List B → Rs γ) (ρ : List B) (e : Ev) : Rs γ := match shr ρ (settle e) with
  | some (d, ρ1) => k d ρ1
  | none => .bad
def shJ {γ : Type} (k : PyData → List B → Rs γ) (ρ : List B) (j : Nat) : Option B → Rs γ
  | some (.own d) => k d (ρ.set j (.val d))
  | some (.val d) => k d ρ
  | _ => .bad
theorem k_sh1 {γ : Type} {k : PyData → List B → Rs γ} : shK k ρ (.val d) = k d ρ := id rfl
theorem k_sh2 {γ : Type} {k : PyData → List B → Rs γ} : shK k ρ (.fr d) = k d ρ := id rfl
theorem k_sh3 {γ : Type} {k : PyData → List B → Rs γ} : shK k ρ (.sl j) = shJ k ρ j ρ[j]? := by
  unfold shK settle shr shJ
  dsimp only
  cases ρ[j]? with
  | none => rfl
  | some b => cases b <;> rfl
theorem k_sh4 {γ : Type} {k : PyData → List B → Rs γ} : shJ k ρ j (some (.own d)) = k d (ρ.set j (.val d)) := id rfl
theorem k_sh5 {γ : Type} {k : PyData → List B → Rs γ} : shJ k ρ j (some (.val d)) = k d ρ := id rfl
def asgGK (t : SG) (p : Ev × List B) : Rs Fl := shK (fun d ρ1 => match t d ρ1 with
    | .ok ρ' => .ok (.nx ρ')
    | _ => .bad) p.2 p.1
theorem r_asgG : asgG t fe ρ = Rs.bind (fe ρ) (asgGK t) := id rfl
def tgK : Rs (List B) → Rs Fl
  | .ok ρ' => .ok (.nx ρ')
  | _ => .bad
def asgGL (t : SG) (d : PyData) (ρ1 : List B) : Rs Fl := tgK (t d ρ1)
theorem k_asgG : asgGK t (e, ρ) = shK (asgGL t) ρ e := by
  unfold asgGK
  rfl
theorem k_asgL : asgGL t d ρ = tgK (t d ρ) := id rfl
theorem k_tg : tgK (.ok ρ) = .ok (.nx ρ) := id rfl
theorem r_nm : nmG i d ρ = .ok (ρ.set i (.val d)) := id rfl
theorem r_tup {u : List PyData → List B → Rs (List B)} : tupG 2 u (.tuple [d1, d2]) ρ = u [d1, d2] ρ := id rfl
theorem r_tup1 {u : List PyData → List B → Rs (List B)} : tupG 1 u (.tuple [d1]) ρ = u [d1] ρ := id rfl
theorem r_tup3 {u : List PyData → List B → Rs (List B)} : tupG 3 u (.tuple [d1, d2, d3]) ρ = u [d1, d2, d3] ρ := id rfl
theorem r_tup4 {u : List PyData → List B → Rs (List B)} {d4 : PyData} : tupG 4 u (.tuple [d1, d2, d3, d4]) ρ = u [d1, d2, d3, d4] ρ := id rfl
theorem r_nil : nilG [] ρ = .ok ρ := id rfl
theorem r_cons {u : List PyData → List B → Rs (List B)} : consG t u (d :: ds) ρ = Rs.bind (t d ρ) (u ds) := by
  unfold consG
  rfl
/-- expressions -/
def vK (i : Nat) (ρ : List B) : Option B → Rs (Ev × List B)
  | some (.val d) => .ok (.val d, ρ)
  | some (.own _) => .ok (.sl i, ρ)
  | some (.prm _) => .ok (.sl i, ρ)
  | some (.exc _) => .ok (.sl i, ρ)
  | _ => .bad
theorem r_V : fV i ρ = vK i ρ ρ[i]? := by
  unfold fV vK
  cases ρ[i]? with
  | none => rfl
  | some b => cases b <;> rfl
theorem k_V1 : vK i ρ (some (.val d)) = .ok (.val d, ρ) := id rfl
theorem k_V2 : vK i ρ (some (.own d)) = .ok (.sl i, ρ) := id rfl
theorem k_V4 {n : Xn} : vK i ρ (some (.exc n)) = .ok (.sl i, ρ) := id rfl
theorem k_V3 : vK i ρ (some (.prm d)) = .ok (.sl i, ρ) := id rfl
theorem r_C : fC d ρ = .ok (.val d, ρ) := id rfl
theorem p_val : peek ρ (.val d) = some d := id rfl
theorem p_fr : peek ρ (.fr d) = some d := id rfl
theorem p_sl : peek ρ (.sl i) = Option.bind ρ[i]? peekB := id rfl
theorem pb_1 : peekB (B.val d) = some d := id rfl
theorem pb_2 : peekB (B.own d) = some d := id rfl
theorem pb_3 : peekB (B.prm d) = some d := id rfl
theorem od_1 : ownD (B.own d) = some d := id rfl
theorem od_2 : ownD (B.prm d) = some d := id rfl
theorem p_1 : Option.bind (some (B.val d)) peekB = some d := id rfl
theorem p_2 : Option.bind (some (B.own d)) peekB = some d := id rfl
theorem p_3 : Option.bind (some (B.prm d)) peekB = some d := id rfl
theorem q_1 : Option.bind (some (B.val d)) ownD = none := id rfl
theorem q_2 : Option.bind (some (B.own d)) ownD = some d := id rfl
theorem q_3 : Option.bind (some (B.prm d)) ownD = some d := id rfl
theorem re_1 : resE ρ (some (.val d)) = .ok (.val d, ρ) := id rfl
theorem re_2 : resE ρ (some (.fr d)) = .ok (.fr d, ρ) := id rfl
theorem re_ite {u v : Option Ev} : resE ρ (if p then u else v) = if p then resE ρ u else resE ρ v := by split <;> rfl
theorem st_1 : G.settle (.val d) = .val d := id rfl
theorem st_2 : G.settle (.fr d) = .val d := id rfl
theorem st_3 : G.settle (.sl i) = .sl i := id rfl
def o2K2 (bd : PyData → PyData → Option Ev) (e : Ev) (q : Ev × List B) : Rs (Ev × List B) := resE q.2 ((peek q.2 e).bind fun d1 => (peek q.2 q.1).bind fun d2 => bd d1 d2)
def o2K (bd : PyData → PyData → Option Ev) (fb : SE) (p : Ev × List B) : Rs (Ev × List B) := Rs.bind (fb p.2) (o2K2 bd p.1)
def o2L2 (bd : PyData → PyData → Option Ev) : Option PyData → Option PyData → Option Ev
  | some d1, some d2 => bd d1 d2
  | _, _ => none
theorem r_op2 {bd : PyData → PyData → Option Ev} : op2 bd fa fb ρ = Rs.bind (fa ρ) (o2K bd fb) := id rfl
theorem k_op2a {bd : PyData → PyData → Option Ev} : o2K bd fb (e, ρ) = Rs.bind (fb ρ) (o2K2 bd e) := id rfl
theorem k_op2b {bd : PyData → PyData → Option Ev} : o2K2 bd e (e1, ρ) = resE ρ (o2L2 bd (peek ρ e) (peek ρ e1)) := by
  unfold o2K2 o2L2
  dsimp only
  cases peek ρ e with
  | none => cases peek ρ e1 <;> rfl
  | some d => cases peek ρ e1 <;> rfl
theorem k_op2c {bd : PyData → PyData → Option Ev} : o2L2 bd (some d1) (some d2) = bd d1 d2 := id rfl
def o1K (bd : PyData → Option Ev) (p : Ev × List B) : Rs (Ev × List B) := resE p.2 ((peek p.2 p.1).bind bd)
theorem r_op1 {bd : PyData → Option Ev} : op1 bd fa ρ = Rs.bind (fa ρ) (o1K bd) := id rfl
theorem k_op1 {bd : PyData → Option Ev} : o1K bd (e, ρ) = resE ρ ((peek ρ e).bind bd) := id rfl
theorem ob_some {u : α → Option β} : Option.bind (some a) u = u a := id rfl
def oNK (bd : List PyData → Option Ev) (p : List Ev × List B) : Rs (Ev × List B) := resE p.2 ((peeks p.2 p.1).bind bd)
theorem r_said {ns : List Str} {HS : SS} : saidE ns HS fe ρ = saidK ns HS (fe ρ) := id rfl
theorem k_said1 {ns : List Str} {HS : SS} : saidK ns HS (.ok (e, ρ)) = resE ρ ((peek ρ e).bind fun d => reprD [d]) := id rfl
theorem r_opN {bd : List PyData → Option Ev} : opN bd fs ρ = Rs.bind (fs ρ) (oNK bd) := id rfl
theorem k_opN {bd : List PyData → Option Ev} : oNK bd (es, ρ) = resE ρ ((peeks ρ es).bind bd) := id rfl
theorem r_pk0 : peeks ρ [] = some [] := id rfl
def pkK : Option PyData → Option (List PyData) → Option (List PyData)
  | some d, some ds => some (d :: ds)
  | _, _ => none
theorem r_pk1 : peeks ρ (e :: es) = pkK (peek ρ e) (peeks ρ es) := by
  show ((peek ρ e).bind fun d => (peeks ρ es).map (d :: ·)) = _
  cases peek ρ e with
  | none => rfl
  | some d => cases peeks ρ es <;> rfl
theorem k_pk : pkK (some d) (some ds) = some (d :: ds) := id rfl
theorem r_anil : aNil ρ = .ok ([], ρ) := id rfl
def aK (fs : SA) (p : Ev × List B) : Rs (List Ev × List B) := Rs.bind (fs p.2) fun q => .ok (G.settle p.1 :: q.1, q.2)
def aK2 (e : Ev) (q : List Ev × List B) : Rs (List Ev × List B) := .ok (G.settle e :: q.1, q.2)
theorem r_acons : aCons fe fs ρ = Rs.bind (fe ρ) (aK fs) := id rfl
theorem k_acons : aK fs (e, ρ) = Rs.bind (fs ρ) (aK2 e) := id rfl
theorem k_acons2 : aK2 e (es, ρ) = .ok (G.settle e :: es, ρ) := id rfl
theorem shs_v0 : shrs ρ [] = some ([], ρ) := id rfl
theorem shs_v1 : shrs ρ (.val d :: es) = (shrs ρ es).map fun q => (d :: q.1, q.2) := id rfl
def shS (ρ : List B) (j : Nat) (es : List Ev) : Option B → Option (List PyData × List B)
  | some (.own d) => (shrs (ρ.set j (.val d)) es).map fun q => (d :: q.1, q.2)
  | some (.val d) => (shrs ρ es).map fun q => (d :: q.1, q.2)
  | _ => none
theorem shs_v2 : shrs ρ (.sl j :: es) = shS ρ j es ρ[j]? := by
  show ((shr ρ (.sl j)).bind fun p => (shrs p.2 es).map fun q => (p.1 :: q.1, q.2)) = _
  unfold shr shS
  dsimp only
  cases ρ[j]? with
  | none => rfl
  | some b => cases b <;> rfl
theorem shs_v3 : shS ρ j es (some (.own d)) = (shrs (ρ.set j (.val d)) es).map fun q => (d :: q.1, q.2) := id rfl
theorem shs_v4 : shS ρ j es (some (.val d)) = (shrs ρ es).map fun q => (d :: q.1, q.2) := id rfl
theorem om_some {γ : Type} {u : α → γ} : Option.map u (some a) = some (u a) := id rfl
def dK1 (mk : List PyData → Ev) : Option (List PyData × List B) → Rs (Ev × List B)
  | some (ds, ρ') => if ds.length ≤ sizeLine then resE ρ' (some (mk ds)) else .bad
  | none => .bad
theorem r_disp {mk : List PyData → Ev} : dispE mk fs ρ = Rs.bind (fs ρ) fun p => dK1 mk (shrs p.2 p.1) := by
  unfold dispE dK1
  congr 1
def dtK (p : List Ev × List B) : Rs (Ev × List B) := dK1 (fun ds => .val (.tuple ds)) (shrs p.2 p.1)
def dlK (p : List Ev × List B) : Rs (Ev × List B) := dK1 (fun ds => .fr (.list ds)) (shrs p.2 p.1)
theorem r_tupT : tupE fs ρ = Rs.bind (fs ρ) dtK := r_disp
theorem r_lstT : lstE fs ρ = Rs.bind (fs ρ) dlK := r_disp
def smallLen {α : Type} : List α → Nat → Bool
  | [], _ => true
  | _ :: _, 0 => false
  | _ :: l, n + 1 => smallLen l n
theorem sl_nil {n : Nat} : smallLen ([] : List α) n = true := by cases n <;> rfl
theorem sl_cons {n : Nat} {l' : List α} : smallLen (a :: l') (n + 1) = smallLen l' n := id rfl
theorem smallLen_ok {l' : List α} : ∀ {n : Nat}, smallLen l' n = true → l'.length ≤ n := by
  induction l' with
  | nil => intro n _; simp
  | cons a l' ih =>
    intro n h
    cases n with
    | zero => cases h
    | succ n => simp only [List.length_cons]; have := ih (n := n) h; omega
theorem len_ok {l' : List α} (h : smallLen l' 100 = true) : l'.length ≤ sizeLine := Nat.le_trans (smallLen_ok h) (by decide)
theorem k_dt : dtK (es, ρ) = dK1 (fun ds => .val (.tuple ds)) (shrs ρ es) := id rfl
theorem k_dl : dlK (es, ρ) = dK1 (fun ds => .fr (.list ds)) (shrs ρ es) := id rfl
theorem k_d1 (h : ds.length ≤ sizeLine) : dK1 (fun ds => .val (.tuple ds)) (some (ds, ρ)) = .ok (.val (.tuple ds), ρ) := if_pos h
theorem k_d2 (h : ds.length ≤ sizeLine) : dK1 (fun ds => .fr (.list ds)) (some (ds, ρ)) = .ok (.fr (.list ds), ρ) := if_pos h
/-- tests -/
def fBK (p : Ev × List B) : Rs (Bool × List B) := match peek p.2 p.1 with
  | some (.bool k) => .ok (k, p.2)
  | _ => .bad
theorem r_fB : fB fe ρ = Rs.bind (fe ρ) fBK := id rfl
theorem k_fB : fBK (.val (.bool bo), ρ) = .ok (bo, ρ) := id rfl
theorem r_and : andB ca cb ρ = Rs.bind (ca ρ) (ifK cb fun ρ => .ok (false, ρ)) := id rfl
theorem r_or : orB ca cb ρ = Rs.bind (ca ρ) (ifK (fun ρ => .ok (true, ρ)) cb) := id rfl
theorem r_andV : andV fa fb ρ = Rs.bind (fB fa ρ) (ifK fb fun ρ => .ok (.val (.bool false), ρ)) := id rfl
theorem r_orV : orV fa fb ρ = Rs.bind (fB fa ρ) (ifK (fun ρ => .ok (.val (.bool true), ρ)) fb) := id rfl
def notK (p : Bool × List B) : Rs (Bool × List B) := .ok (!p.1, p.2)
def notVK (p : Bool × List B) : Rs (Ev × List B) := .ok (.val (.bool (!p.1)), p.2)
theorem r_not : notB ca ρ = Rs.bind (ca ρ) notK := id rfl
theorem r_notV : notV fa ρ = Rs.bind (fB fa ρ) notVK := id rfl
theorem k_not : notK (bo, ρ) = .ok (!bo, ρ) := id rfl
theorem k_notV : notVK (bo, ρ) = .ok (.val (.bool (!bo)), ρ) := id rfl
theorem r_yes : yesB ρ = .ok (true, ρ) := id rfl
/-- x op y op z -/
def chK3 (b2 : PyData → PyData → Option Ev) (e : Ev) (r : Ev × List B) : Rs (Ev × List B) := resE r.2 (o2L2 b2 (peek r.2 e) (peek r.2 r.1))
def chB (b2 : PyData → PyData → Option Ev) (fc : SE) (e : Ev) (ρ : List B) : Option Bool → Rs (Ev × List B)
  | some false => .ok (.val (.bool false), ρ)
  | some true => Rs.bind (fc ρ) (chK3 b2 e)
  | none => .bad
def chK2 (b1 b2 : PyData → PyData → Option Ev) (fc : SE) (e : Ev) (q : Ev × List B) : Rs (Ev × List B) := chB b2 fc q.1 q.2 (boolD (o2L2 b1 (peek q.2 e) (peek q.2 q.1)))
def chK (b1 b2 : PyData → PyData → Option Ev) (fb fc : SE) (p : Ev × List B) : Rs (Ev × List B) := Rs.bind (fb p.2) (chK2 b1 b2 fc p.1)
theorem o2L2_eq {bd : PyData → PyData → Option Ev} {u v : Option PyData} : (u.bind fun d1 => v.bind fun d2 => bd d1 d2) = o2L2 bd u v := by
  cases u with
  | none => cases v <;> rfl
  | some d => cases v <;> rfl
theorem r_ch {b1 b2 : PyData → PyData → Option Ev} : ch3 b1 b2 fa fb fc ρ = Rs.bind (fa ρ) (chK b1 b2 fb fc) := by
  unfold ch3 chK
  congr 1
  funext p
  congr 1
  funext q
  unfold chK2 chB
  rw [o2L2_eq]
  cases boolD (o2L2 b1 (peek q.2 p.1) (peek q.2 q.1)) with
  | none => rfl
  | some k =>
    cases k with
    | false => rfl
    | true =>
      simp only []
      congr 1
      funext r
      unfold chK3
      rw [o2L2_eq]
theorem k_ch1 {b1 b2 : PyData → PyData → Option Ev} : chK b1 b2 fb fc (e, ρ) = Rs.bind (fb ρ) (chK2 b1 b2 fc e) := id rfl
theorem k_ch2 {b1 b2 : PyData → PyData → Option Ev} : chK2 b1 b2 fc e (e1, ρ) = chB b2 fc e1 ρ (boolD (o2L2 b1 (peek ρ e) (peek ρ e1))) := id rfl
theorem k_ch3 {b2 : PyData → PyData → Option Ev} : chB b2 fc e ρ (some bo) = if bo = true then Rs.bind (fc ρ) (chK3 b2 e) else .ok (.val (.bool false), ρ) := by cases bo <;> rfl
theorem k_ch4 {b2 : PyData → PyData → Option Ev} : chK3 b2 e (e1, ρ) = resE ρ (o2L2 b2 (peek ρ e) (peek ρ e1)) := id rfl
theorem k_ch5 : boolD (some (.val (.bool bo))) = some bo := id rfl
/-- calls -/
def caK (ms : List Bool) (F : SE) (dbs : List B) (p : List Ev × List B) : Rs (Ev × List B) := match cv1 ms p.1 p.2 with
  | some (es, ρ1) => (match cv2 ρ1 es with
    | some (bs, ls) => callR F (bs ++ dbs) (ls ++ dbs.map fun _ => none) ρ1
    | none => .bad)
  | none => .bad
theorem r_call {ms : List Bool} {F : SE} {dbs : List B} : callF ms F dbs fs ρ = Rs.bind (fs ρ) (caK ms F dbs) := id rfl
theorem c1_nil : cv1 [] [] ρ = some ([], ρ) := id rfl
theorem c1_t {ms : List Bool} : cv1 (true :: ms) (e :: es) ρ = (cv1 ms es ρ).map fun q => (e :: q.1, q.2) := id rfl
theorem c1_f {ms : List Bool} : cv1 (false :: ms) (.val d :: es) ρ = (cv1 ms es ρ).map fun q => (.val d :: q.1, q.2) := id rfl
def c1S (ρ : List B) (j : Nat) (ms : List Bool) (es : List Ev) : Option B → Option (List Ev × List B)
  | some (.own d) => (cv1 ms es (ρ.set j (.val d))).map fun q => (.val d :: q.1, q.2)
  | some (.val d) => (cv1 ms es ρ).map fun q => (.val d :: q.1, q.2)
  | _ => none
theorem c1_s {ms : List Bool} : cv1 (false :: ms) (.sl j :: es) ρ = c1S ρ j ms es ρ[j]? := by
  show ((shr ρ (.sl j)).bind fun p => (cv1 ms es p.2).map fun q => (Ev.val p.1 :: q.1, q.2)) = _
  unfold shr c1S
  dsimp only
  cases ρ[j]? with
  | none => rfl
  | some b => cases b <;> rfl
theorem c1_s1 {ms : List Bool} : c1S ρ j ms es (some (.own d)) = (cv1 ms es (ρ.set j (.val d))).map fun q => (.val d :: q.1, q.2) := id rfl
theorem c1_s2 {ms : List Bool} : c1S ρ j ms es (some (.val d)) = (cv1 ms es ρ).map fun q => (.val d :: q.1, q.2) := id rfl
def cc1 (F : SE) (dbs : List B) : Option (List Ev × List B) → Rs (Ev × List B)
  | some (es, ρ1) => (match cv2 ρ1 es with
    | some (bs, ls) => callR F (bs ++ dbs) (ls ++ dbs.map fun _ => none) ρ1
    | none => .bad)
  | none => .bad
def cc2 (F : SE) (dbs : List B) (ρ1 : List B) : Option (List B × List (Option Nat)) → Rs (Ev × List B)
  | some (bs, ls) => callR F (bs ++ dbs) (ls ++ dbs.map fun _ => none) ρ1
  | none => .bad
theorem k_ca {ms : List Bool} {F : SE} {dbs : List B} : caK ms F dbs (es, ρ) = cc1 F dbs (cv1 ms es ρ) := id rfl
theorem k_c1 {F : SE} {dbs : List B} : cc1 F dbs (some (es, ρ)) = cc2 F dbs ρ (cv2 ρ es) := id rfl
theorem k_c2 {F : SE} {dbs bs : List B} {ls' : List (Option Nat)} : cc2 F dbs ρ (some (bs, ls')) = callR F (bs ++ dbs) (ls' ++ dbs.map fun _ => none) ρ := id rfl
theorem c2_nil : cv2 ρ [] = some ([], []) := id rfl
theorem c2_v : cv2 ρ (.val d :: es) = (cv2 ρ es).map fun q => (.val d :: q.1, none :: q.2) := id rfl
def c2S (ρ : List B) (j : Nat) (es : List Ev) : Option B → Option (List B × List (Option Nat))
  | some (.own d) => (cv2 ρ es).map fun q => (.prm d :: q.1, some j :: q.2)
  | some (.prm d) => (cv2 ρ es).map fun q => (.prm d :: q.1, some j :: q.2)
  | some (.exc n) => (cv2 ρ es).map fun q => (.exc n :: q.1, none :: q.2)
  | _ => none
theorem c2_s : cv2 ρ (.sl j :: es) = c2S ρ j es ρ[j]? := by
  show ((cvB ρ (.sl j)).bind fun b => (cv2 ρ es).map fun q => (b.1 :: q.1, b.2 :: q.2)) = _
  unfold cvB c2S
  dsimp only
  cases ρ[j]? with
  | none => rfl
  | some b => cases b <;> rfl
theorem c2_s1 : c2S ρ j es (some (.own d)) = (cv2 ρ es).map fun q => (.prm d :: q.1, some j :: q.2) := id rfl
theorem c2_s3 {n : Xn} : c2S ρ j es (some (.exc n)) = (cv2 ρ es).map fun q => (.exc n :: q.1, none :: q.2) := id rfl
theorem c2_s2 : c2S ρ j es (some (.prm d)) = (cv2 ρ es).map fun q => (.prm d :: q.1, some j :: q.2) := id rfl
def caW (ls : List (Option Nat)) (ρ : List B) : Rs (Ev × List B) → Rs (Ev × List B)
  | .ok (.val d, outs) => .ok (.val d, wb ls outs ρ)
  | .ok (.fr d, outs) => .ok (.fr d, wb ls outs ρ)
  | .ok (.sl _, _) => .bad
  | .ex n _ => .ex n (wbx ls ρ)
  | .bad => .bad
theorem k_call {F : SE} {bs : List B} {ls' : List (Option Nat)} : callR F bs ls' ρ = if dstL ls' = true then caW ls' ρ (F bs) else .bad := by
  unfold callR caW
  rfl
theorem k_w1 {ls' : List (Option Nat)} {outs : List B} : caW ls' ρ (.ok (.val d, outs)) = .ok (.val d, wb ls' outs ρ) := id rfl
theorem k_w2 {ls' : List (Option Nat)} {outs : List B} : caW ls' ρ (.ok (.fr d, outs)) = .ok (.fr d, wb ls' outs ρ) := id rfl
theorem k_w3 {ls' : List (Option Nat)} : caW ls' ρ (.ex n ρ') = .ex n (wbx ls' ρ) := id rfl
theorem k_wite {ls' : List (Option Nat)} {x y : Rs (Ev × List B)} : caW ls' ρ (if p then x else y) = if p then caW ls' ρ x else caW ls' ρ y := by split <;> rfl
theorem wb_nil {outs : List B} : wb [] outs ρ = ρ := by unfold wb; rfl
theorem wb_none {ls' : List (Option Nat)} {outs : List B} : wb (none :: ls') (b :: outs) ρ = wb ls' outs ρ := id rfl
def wbK (j : Nat) (ls : List (Option Nat)) (o : B) (outs : List B) (ρ : List B) : Option B → List B
  | some b => wb ls outs (ρ.set j (reB b o))
  | none => wb ls outs (ρ.set j .un)
theorem wb_some {ls' : List (Option Nat)} {outs : List B} : wb (some j :: ls') (b :: outs) ρ = wbK j ls' b outs ρ ρ[j]? := by
  unfold wbK
  show wb ls' outs _ = _
  cases ρ[j]? <;> rfl
theorem k_wb1 {ls' : List (Option Nat)} {outs : List B} {o : PyData} : wbK j ls' (.prm o) outs ρ (some (.own d)) = wb ls' outs (ρ.set j (.own o)) := id rfl
theorem k_wb2 {ls' : List (Option Nat)} {outs : List B} {o : PyData} : wbK j ls' (.prm o) outs ρ (some (.prm d)) = wb ls' outs (ρ.set j (.prm o)) := id rfl
theorem wbx_nil : wbx [] ρ = ρ := id rfl
theorem wbx_none {ls' : List (Option Nat)} : wbx (none :: ls') ρ = wbx ls' ρ := id rfl
theorem ap_nil {l' : List α} : l' ++ [] = l' := List.append_nil l'
theorem ap_nil2 {l' : List α} : [] ++ l' = l' := id rfl
theorem ap_cons {l' l2 : List α} : (a :: l') ++ l2 = a :: (l' ++ l2) := id rfl
theorem ma_nil {u : α → β} : List.map u [] = [] := id rfl
theorem ma_cons {u : α → β} {l' : List α} : List.map u (a :: l') = u a :: List.map u l' := id rfl
theorem ds_nil : dstL [] = true := id rfl
theorem ds_none {ls' : List (Option Nat)} : dstL (none :: ls') = dstL ls' := id rfl
theorem ds_some {ls' : List (Option Nat)} : dstL (some j :: ls') = (!memL j ls' && dstL ls') := id rfl
theorem me_nil : memL j [] = false := id rfl
theorem me_none {ls' : List (Option Nat)} : memL j (none :: ls') = memL j ls' := id rfl
theorem me_some {ls' : List (Option Nat)} : memL j (some i :: ls') = ((i == j) || memL j ls') := id rfl
/-- the end of a def -/
def outs : Nat → List B → List B := fun n ρ => (ρ.take n).map outB
theorem ou_0 : outs 0 ρ = [] := by unfold outs; rfl
theorem ou_s : outs (i + 1) (b :: ρ) = outB b :: outs i ρ := id rfl
theorem ob_val : outB (.val d) = .un := id rfl
theorem ob_own : outB (.own d) = .un := id rfl
theorem ob_un : outB .un = .un := id rfl
theorem ob_exc {n : Xn} : outB (.exc n) = .un := id rfl
theorem ob_prm : outB (.prm d) = .prm d := id rfl
def retSl (outs : List B) : Option B → Rs (Ev × List B)
  | some (.val d) => .ok (.val d, outs)
  | some (.own d) => .ok (.fr d, outs)
  | _ => .bad
def leL : Nat → List B → Bool
  | 0, _ => true
  | _ + 1, [] => false
  | n + 1, _ :: l => leL n l
theorem leL_ok : ∀ {n : Nat} {ρ : List B}, leL n ρ = true → n ≤ ρ.length
  | 0, _, _ => Nat.zero_le _
  | n + 1, [], h => by cases h
  | n + 1, b :: l, h => Nat.succ_le_succ (leL_ok (n := n) (ρ := l) h)
theorem leL_of : ∀ {n : Nat} {ρ : List B}, n ≤ ρ.length → leL n ρ = true
  | 0, _, _ => by unfold leL; rfl
  | n + 1, [], h => by cases h
  | n + 1, b :: l, h => leL_of (n := n) (ρ := l) (Nat.le_of_succ_le_succ h)
theorem le_0 : leL 0 ρ = true := by unfold leL; rfl
theorem le_s : leL (i + 1) (b :: ρ) = leL i ρ := id rfl
theorem k_rf1 : retF m (.rt (.val d) ρ) = if leL m ρ = true then .ok (.val d, outs m ρ) else .bad := by
  by_cases h : leL m ρ = true
  · rw [if_pos h]; exact if_pos (leL_ok h)
  · rw [if_neg h]; exact if_neg fun q => h (leL_of q)
theorem k_rf2 : retF m (.rt (.fr d) ρ) = if leL m ρ = true then .ok (.fr d, outs m ρ) else .bad := by
  by_cases h : leL m ρ = true
  · rw [if_pos h]; exact if_pos (leL_ok h)
  · rw [if_neg h]; exact if_neg fun q => h (leL_of q)
theorem k_rf3 : retF m (.rt (.sl i) ρ) = if leL m ρ = true then retSl (outs m ρ) ρ[i]? else .bad := by
  by_cases h : leL m ρ = true
  case neg => rw [if_neg h]; exact if_neg fun q => h (leL_of q)
  rw [if_pos h]
  refine (if_pos (leL_ok h)).trans ?_
  show retF0 _ (.rt (.sl i) ρ) = _
  unfold retF0 retSl
  dsimp only
  cases ρ[i]? with
  | none => rfl
  | some b => cases b <;> rfl
theorem k_rf4 : retF m (.nx ρ) = if leL m ρ = true then .ok (.val .none, outs m ρ) else .bad := by
  by_cases h : leL m ρ = true
  · rw [if_pos h]; exact if_pos (leL_ok h)
  · rw [if_neg h]; exact if_neg fun q => h (leL_of q)
theorem k_rs1 {outs : List B} : retSl outs (some (.val d)) = .ok (.val d, outs) := id rfl
theorem k_rs2 {outs : List B} : retSl outs (some (.own d)) = .ok (.fr d, outs) := id rfl
/-- stores -/
def setG (i : Nat) (y k : PyData) (ρ : List B) : Option B → Rs Fl
  | some b => (match ownD b with
    | some d => (match setD d k y with
      | some d' => .ok (.nx (ρ.set i (reD b d')))
      | none => .bad)
    | none => .bad)
  | none => .bad
def setH (i : Nat) (y : PyData) (ρ : List B) : Option PyData → Rs Fl
  | some k => setG i y k ρ ρ[i]?
  | none => .bad
def setJ (i : Nat) (y : PyData) (q : Ev × List B) : Rs Fl := setH i y q.2 (peek q.2 q.1)
def setK (i : Nat) (fk : SE) (y : PyData) (ρ1 : List B) : Rs Fl := match (ρ1[i]?).bind ownD with
  | some _ => Rs.bind (fk ρ1) (setJ i y)
  | none => .bad
def setL (i : Nat) (fk : SE) (p : Ev × List B) : Rs Fl := shK (setK i fk) p.2 p.1
theorem r_set : setS i fk fe ρ = Rs.bind (fe ρ) (setL i fk) := by
  unfold setS setL shK
  congr 1
theorem k_set1 : setL i fk (e, ρ) = shK (setK i fk) ρ e := id rfl
def setM (fk : SE) (i : Nat) (y : PyData) (ρ1 : List B) : Option PyData → Rs Fl
  | some _ => Rs.bind (fk ρ1) (setJ i y)
  | none => .bad
theorem k_set2 {y : PyData} : setK i fk y ρ = setM fk i y ρ ((ρ[i]?).bind ownD) := by
  unfold setK setM
  rfl
theorem k_set3 {y : PyData} : setM fk i y ρ (some d) = Rs.bind (fk ρ) (setJ i y) := id rfl
theorem k_set4 {y : PyData} : setJ i y (e, ρ) = setH i y ρ (peek ρ e) := id rfl
theorem k_set5 {y k : PyData} : setH i y ρ (some k) = setG i y k ρ ρ[i]? := id rfl
def setO (i : Nat) (b : B) (ρ : List B) : Option PyData → Rs Fl
  | some d' => .ok (.nx (ρ.set i (reD b d')))
  | none => .bad
theorem k_set6 {y k : PyData} : setG i y k ρ (some (.own d)) = setO i (.own d) ρ (setD d k y) := by
  unfold setG setO
  rfl
theorem k_set7 {y k : PyData} : setG i y k ρ (some (.prm d)) = setO i (.prm d) ρ (setD d k y) := by
  unfold setG setO
  rfl
theorem k_set8 {d' : PyData} : setO i (.own d) ρ (some d') = .ok (.nx (ρ.set i (.own d'))) := id rfl
theorem k_set9 {d' : PyData} : setO i (.prm d) ρ (some d') = .ok (.nx (ρ.set i (.prm d'))) := id rfl
/-- a method that writes a list -/
def muA (i : Nat) (mt : PyData → List PyData → Option (PyData × PyData)) (ys : List PyData) (ρ1 : List B) : Option B → Rs (Ev × List B)
  | some b => (match ownD b with
      | some d => (match mt d ys with
        | some (d', v) => .ok (.val v, ρ1.set i (reD b d'))
        | none => .bad)
      | none => .bad)
  | none => .bad
def muB (i : Nat) (mt : PyData → List PyData → Option (PyData × PyData)) : Option (List PyData × List B) → Rs (Ev × List B)
  | some (ys, ρ1) => muA i mt ys ρ1 ρ1[i]?
  | none => .bad
def muC (i : Nat) (mt : PyData → List PyData → Option (PyData × PyData)) (p : List Ev × List B) : Rs (Ev × List B) := muB i mt (shrs p.2 p.1)
def muD (i : Nat) (mt : PyData → List PyData → Option (PyData × PyData)) (fa : SA) (ρ : List B) : Option PyData → Rs (Ev × List B)
  | some d => if isLst d = true then Rs.bind (fa ρ) (muC i mt) else .bad
  | none => .bad
theorem r_mut {mt : PyData → List PyData → Option (PyData × PyData)} : mutE i mt fs ρ = muD i mt fs ρ ((ρ[i]?).bind ownD) := by
  unfold mutE muD
  cases (ρ[i]?).bind ownD <;> rfl
theorem k_mu1 {mt : PyData → List PyData → Option (PyData × PyData)} : muD i mt fs ρ (some (.list ds)) = Rs.bind (fs ρ) (muC i mt) := id rfl
theorem k_mu2 {mt : PyData → List PyData → Option (PyData × PyData)} : muC i mt (es, ρ) = muB i mt (shrs ρ es) := id rfl
theorem k_mu3 {mt : PyData → List PyData → Option (PyData × PyData)} : muB i mt (some (ds, ρ)) = muA i mt ds ρ ρ[i]? := id rfl
def muE (i : Nat) (b : B) (ρ : List B) : Option (PyData × PyData) → Rs (Ev × List B)
  | some (d', v) => .ok (.val v, ρ.set i (reD b d'))
  | none => .bad
theorem k_mu4 {mt : PyData → List PyData → Option (PyData × PyData)} : muA i mt ds ρ (some (.own d)) = muE i (.own d) ρ (mt d ds) := by
  unfold muA muE
  rfl
theorem k_mu5 {mt : PyData → List PyData → Option (PyData × PyData)} : muA i mt ds ρ (some (.prm d)) = muE i (.prm d) ρ (mt d ds) := by
  unfold muA muE
  rfl
theorem k_mu6 {d' v : PyData} : muE i (.own d) ρ (some (d', v)) = .ok (.val v, ρ.set i (.own d')) := id rfl
theorem k_mu7 {d' v : PyData} : muE i (.prm d) ρ (some (d', v)) = .ok (.val v, ρ.set i (.prm d')) := id rfl
theorem k_app {y : PyData} (h : ds.length < sizeLine) : mtApp (.list ds) [y] = some (.list (ds ++ [y]), .none) := by
  unfold mtApp appD
  simp only [if_pos h, Option.map]
theorem k_apps {y : PyData} (h : smallLen ds 100 = true) : mtApp (.list ds) [y] = some (.list (ds ++ [y]), .none) := k_app (Nat.lt_of_le_of_lt (smallLen_ok h) (by decide))
/-- two names at once -/
def paK2 (i j : Nat) (e1 : Ev) (q : Ev × List B) : Rs Fl := match resv q.2 e1 with
  | some (e1, ρ1) => (match resv ρ1 q.1 with
    | some (e2, ρ2) => (match bindV i e1 ρ2 with
      | .ok ρ3 => (match bindV j e2 ρ3 with
        | .ok ρ4 => .ok (.nx ρ4)
        | _ => .bad)
      | _ => .bad)
    | none => .bad)
  | none => .bad
def paK (i j : Nat) (fb : SE) (p : Ev × List B) : Rs Fl := Rs.bind (fb p.2) (paK2 i j p.1)
theorem r_par : parS i j fa fb ρ = Rs.bind (fa ρ) (paK i j fb) := id rfl
theorem k_par1 : paK i j fb (e, ρ) = Rs.bind (fb ρ) (paK2 i j e) := id rfl
theorem k_par2 : paK2 i j (.val d1) (.val d2, ρ) = .ok (.nx ((ρ.set i (.val d1)).set j (.val d2))) := id rfl
theorem k_par3 : paK2 i j (.val d1) (.fr d2, ρ) = .ok (.nx ((ρ.set i (.val d1)).set j (.own d2))) := id rfl
theorem k_par4 : paK2 i j (.fr d1) (.val d2, ρ) = .ok (.nx ((ρ.set i (.own d1)).set j (.val d2))) := id rfl
theorem k_par5 : paK2 i j (.fr d1) (.fr d2, ρ) = .ok (.nx ((ρ.set i (.own d1)).set j (.own d2))) := id rfl
def p3K (i j l : Nat) : Option (List PyData × List B) → Rs Fl
  | some ([d1, d2, d3], ρ1) => .ok (.nx (((ρ1.set i (.val d1)).set j (.val d2)).set l (.val d3)))
  | _ => .bad
def p3L (i j l : Nat) (p : List Ev × List B) : Rs Fl := p3K i j l (shrs p.2 p.1)
theorem r_par3 : par3S i j l fs ρ = Rs.bind (fs ρ) (p3L i j l) := by
  unfold par3S p3L p3K
  congr 1
theorem k_p3a : p3L i j l (es, ρ) = p3K i j l (shrs ρ es) := id rfl
theorem k_p3b : p3K i j l (some ([d1, d2, d3], ρ)) = .ok (.nx (((ρ.set i (.val d1)).set j (.val d2)).set l (.val d3))) := id rfl
/-- several names at once -/
def pnL (is : List Nat) : Option (List Ev × List B) → Rs Fl
  | some (es, ρ1) => Rs.bind (bindN is es ρ1) fun ρ' => .ok (.nx ρ')
  | none => .bad
def pnK (is : List Nat) (p : List Ev × List B) : Rs Fl := pnL is (resN p.2 p.1)
theorem r_parN {is : List Nat} {fs : List SE} : parN is fs ρ = Rs.bind (evN fs ρ) (pnK is) := by
  unfold parN pnK pnL
  congr 1
theorem k_pn1 {is : List Nat} : pnK is (es, ρ) = pnL is (resN ρ es) := id rfl
def nxK (ρ : List B) : Rs Fl := .ok (.nx ρ)
theorem k_pn2 {is : List Nat} : pnL is (some (es, ρ)) = Rs.bind (bindN is es ρ) nxK := id rfl
theorem k_nx : nxK ρ = .ok (.nx ρ) := id rfl
def evK2 (e : Ev) (q : List Ev × List B) : Rs (List Ev × List B) := .ok (e :: q.1, q.2)
def evK (fs : List SE) (p : Ev × List B) : Rs (List Ev × List B) := Rs.bind (evN fs p.2) (evK2 p.1)
theorem ev_nil : evN [] ρ = .ok ([], ρ) := id rfl
theorem ev_cons {fs : List SE} : evN (fe :: fs) ρ = Rs.bind (fe ρ) (evK fs) := id rfl
theorem k_ev1 {fs : List SE} : evK fs (e, ρ) = Rs.bind (evN fs ρ) (evK2 e) := id rfl
theorem k_ev2 : evK2 e (es, ρ) = .ok (e :: es, ρ) := id rfl
theorem rs_nil : resN ρ [] = some ([], ρ) := id rfl
theorem rs_val : resN ρ (.val d :: es) = (resN ρ es).map fun q => (.val d :: q.1, q.2) := id rfl
theorem rs_fr : resN ρ (.fr d :: es) = (resN ρ es).map fun q => (.fr d :: q.1, q.2) := id rfl
def rsS (ρ : List B) (j : Nat) (es : List Ev) : Option B → Option (List Ev × List B)
  | some (.own d) => (resN (ρ.set j (.val d)) es).map fun q => (.val d :: q.1, q.2)
  | some (.val d) => (resN ρ es).map fun q => (.val d :: q.1, q.2)
  | _ => none
theorem rs_sl : resN ρ (.sl j :: es) = rsS ρ j es ρ[j]? := by
  show ((resv ρ (.sl j)).bind fun p => (resN p.2 es).map fun q => (p.1 :: q.1, q.2)) = _
  unfold resv shr rsS
  dsimp only
  cases ρ[j]? with
  | none => rfl
  | some b => cases b <;> rfl
theorem k_rsS1 : rsS ρ j es (some (.own d)) = (resN (ρ.set j (.val d)) es).map fun q => (.val d :: q.1, q.2) := id rfl
theorem k_rsS2 : rsS ρ j es (some (.val d)) = (resN ρ es).map fun q => (.val d :: q.1, q.2) := id rfl
theorem bn_nil : bindN [] [] ρ = .ok ρ := id rfl
theorem bn_val {is : List Nat} : bindN (i :: is) (.val d :: es) ρ = bindN is es (ρ.set i (.val d)) := id rfl
theorem bn_fr {is : List Nat} : bindN (i :: is) (.fr d :: es) ρ = bindN is es (ρ.set i (.own d)) := id rfl
/-- [..] * k -/
def rpK2 (e : Ev) (q : Ev × List B) : Rs (Ev × List B) := repR q.2 e (peek q.2 q.1)
def rpK (fb : SE) (p : Ev × List B) : Rs (Ev × List B) := Rs.bind (fb p.2) (rpK2 p.1)
theorem r_rep : repE fa fb ρ = Rs.bind (fa ρ) (rpK fb) := id rfl
theorem k_rp1 : rpK fb (e, ρ) = Rs.bind (fb ρ) (rpK2 e) := id rfl
theorem k_rp2 : rpK2 e (e1, ρ) = repR ρ e (peek ρ e1) := id rfl
theorem k_rp3 {k : Int} (h : ds.length ≤ 1000 ∧ k < 10000 ∧ -10000 < k) : repR ρ (.fr (.list ds)) (some (.int k)) = .ok (.fr (.list (List.replicate k.toNat ds).flatten), ρ) := if_pos h
theorem ixN_last {n : Nat} : ixN (n + 1) (-1) = some n := by
  unfold ixN
  rw [if_neg (by omega)]
  split
  · congr 1
    omega
  · omega
theorem set_last {y z : PyData} : setD (.list (ds ++ [z])) (.int (-1)) y = some (.list (ds ++ [y])) := by
  unfold setD
  dsimp only
  rw [List.length_append, show ds.length + [z].length = ds.length + 1 from rfl, ixN_last]
  simp
theorem ix_last {l' : List α} : atI (l' ++ [a]) (-1 : Int) = some a := by
  unfold atI
  rw [List.length_append, show l'.length + [a].length = l'.length + 1 from rfl, ixN_last]
  simp
/-- loops -/
def foK (t : SG) (b : SS) (p : List PyData × List B) : Rs Fl := forL t b p.1 p.2
theorem r_for {b : SS} : forS it t b ρ = Rs.bind (it ρ) (foK t b) := id rfl
theorem k_for {b : SS} : foK t b (ds, ρ) = forL t b ds ρ := id rfl
theorem fo_nil {b : SS} : forL t b [] ρ = .ok (.nx ρ) := by unfold forL; rfl
def foN (t : SG) (b : SS) (ds : List PyData) : Fl → Rs Fl
  | .nx ρ2 => forL t b ds ρ2
  | .ct ρ2 => forL t b ds ρ2
  | .bk ρ2 => .ok (.nx ρ2)
  | .rt e ρ2 => .ok (.rt e ρ2)
def foT (t : SG) (b : SS) (ds : List PyData) : Rs (List B) → Rs Fl
  | .ok ρ1 => Rs.bind (b ρ1) (foN t b ds)
  | _ => .bad
theorem fo_cons {b : SS} : forL t b (d :: ds) ρ = foT t b ds (t d ρ) := by
  conv => lhs; unfold forL
  unfold foT
  cases t d ρ <;> rfl
theorem k_fo0 {b : SS} : foT t b ds (.ok ρ) = Rs.bind (b ρ) (foN t b ds) := id rfl
theorem k_fo1 {b : SS} : foN t b ds (.nx ρ) = forL t b ds ρ := id rfl
theorem k_fo2 {b : SS} : foN t b ds (.ct ρ) = forL t b ds ρ := id rfl
theorem k_fo3 {b : SS} : foN t b ds (.bk ρ) = .ok (.nx ρ) := id rfl
theorem k_fo4 {b : SS} : foN t b ds (.rt e ρ) = .ok (.rt e ρ) := id rfl
/-- one turn of a loop; continue is as the end of the body -/
def tuK : Fl → Rs Fl
  | .ct ρ => .ok (.nx ρ)
  | r => .ok r
def tuT (b : SS) : Rs (List B) → Rs Fl
  | .ok ρ1 => Rs.bind (b ρ1) tuK
  | _ => .bad
def turn (t : SG) (b : SS) (d : PyData) (ρ : List B) : Rs Fl := tuT b (t d ρ)
theorem r_turn {b : SS} : turn t b d ρ = tuT b (t d ρ) := id rfl
theorem k_tu0 {b : SS} : tuT b (.ok ρ) = Rs.bind (b ρ) tuK := id rfl
theorem k_tu1 : tuK (.nx ρ) = .ok (.nx ρ) := id rfl
theorem k_tu2 : tuK (.ct ρ) = .ok (.nx ρ) := id rfl
theorem k_tu3 : tuK (.bk ρ) = .ok (.bk ρ) := id rfl
theorem k_tu4 : tuK (.rt e ρ) = .ok (.rt e ρ) := id rfl
theorem turn_nx {t : SG} {b : SS} {d : PyData} {ρ ρ' : List B} {ds : List PyData} (h : turn t b d ρ = .ok (.nx ρ')) : forL t b (d :: ds) ρ = forL t b ds ρ' := by
  rw [fo_cons]
  unfold turn at h
  cases ht : t d ρ with
  | ex m r => rw [ht] at h; cases h
  | bad => rw [ht] at h; cases h
  | ok ρ3 =>
    rw [ht, k_tu0] at h
    rw [k_fo0]
    cases hb : b ρ3 with
    | ex m r => rw [hb] at h; cases h
    | bad => rw [hb] at h; cases h
    | ok fl =>
      rw [hb, rb_ok] at h
      rw [rb_ok]
      cases fl with
      | nx ρ4 => rw [k_tu1] at h; cases h; rfl
      | ct ρ4 => rw [k_tu2] at h; cases h; rfl
      | bk ρ4 => rw [k_tu3] at h; cases h
      | rt e ρ4 => rw [k_tu4] at h; cases h
/-- loops over mapped lists -/
theorem fo_fold {α σ : Type} {enc : α → PyData} {t : SG} {b : SS} (I : σ → List B → Prop) (step : σ → α → σ) : ∀ {xs : List α} {s : σ} {ρ : List B}, I s ρ → (∀ x ∈ xs, ∀ s ρ, I s ρ → ∃ ρ', turn t b (enc x) ρ = .ok (.nx ρ') ∧ I (step s x) ρ') → ∃ ρ', forL t b (xs.map enc) ρ = .ok (.nx ρ') ∧ I (xs.foldl step s) ρ'
  | [], s, ρ, h, _ => ⟨ρ, fo_nil, h⟩
  | x :: xs, s, ρ, h, st => by
    obtain ⟨ρ1, e1, h1⟩ := st x (List.mem_cons_self ..) s ρ h
    obtain ⟨ρ2, e2, h2⟩ := fo_fold I step h1 fun z hz => st z (List.mem_cons_of_mem _ hz)
    exact ⟨ρ2, by rw [List.map_cons, turn_nx e1]; exact e2, h2⟩
/-- a loop with an invariant of the turn's place -/
theorem fo_inv {α : Type} {enc : α → PyData} {t : SG} {b : SS} (I : List B → Prop) {xs : List α} {ρ : List B} (h0 : I ρ) (st : ∀ x ∈ xs, ∀ ρ, I ρ → ∃ ρ', turn t b (enc x) ρ = .ok (.nx ρ') ∧ I ρ') : ∃ ρ', forL t b (xs.map enc) ρ = .ok (.nx ρ') ∧ I ρ' :=
  fo_fold (σ := Unit) (fun _ => I) (fun s _ => s) (s := ()) h0 fun x hx _ ρ h => st x hx ρ h
def seqIK (k : PyData → Option (List PyData)) (d : PyData) (ρ1 : List B) : Rs (List PyData × List B) := match k d with
    | some ds => .ok (ds, ρ1)
    | none => .bad
def seqIL (k : PyData → Option (List PyData)) (p : Ev × List B) : Rs (List PyData × List B) := shK (seqIK k) p.2 p.1
theorem r_seqI {k : PyData → Option (List PyData)} : seqI k fe ρ = Rs.bind (fe ρ) (seqIL k) := by
  unfold seqI seqIL shK seqIK
  congr 1
theorem k_seqI {k : PyData → Option (List PyData)} : seqIL k (e, ρ) = shK (seqIK k) ρ e := id rfl
theorem k_seqI1 : seqIK lstK (.list ds) ρ = .ok (ds, ρ) := id rfl
theorem k_seqI3 : seqIK bothK (.list ds) ρ = .ok (ds, ρ) := id rfl
theorem k_seqI5 : seqIK enumK (.list ds) ρ = .ok (enD ds, ρ) := id rfl
theorem k_seqI6 : seqIK enumK (.tuple ds) ρ = .ok (enD ds, ρ) := id rfl
theorem k_seqI4 : seqIK bothK (.tuple ds) ρ = .ok (ds, ρ) := id rfl
theorem k_seqI2 : seqIK tupK (.tuple ds) ρ = .ok (ds, ρ) := id rfl
def rg1 (ρ : List B) : Option (List PyData) → Rs (List PyData × List B)
  | some [.int j] => if rngOk j = true then .ok ((List.range j.toNat).map fun i : Nat => PyData.int (0 + i), ρ) else .bad
  | _ => .bad
def rg1K (p : List Ev × List B) : Rs (List PyData × List B) := rg1 p.2 (peeks p.2 p.1)
theorem r_rng1 : rng1I fs ρ = Rs.bind (fs ρ) rg1K := id rfl
theorem k_rng1 : rg1K (es, ρ) = rg1 ρ (peeks ρ es) := id rfl
theorem k_rng1b {j : Int} (h : rngOk j = true) : rg1 ρ (some [.int j]) = .ok ((List.range j.toNat).map fun i : Nat => PyData.int (0 + i), ρ) := if_pos h
def rg2 (ρ : List B) : Option (List PyData) → Rs (List PyData × List B)
  | some [.int i, .int j] => if (rngOk i && rngOk j) = true then .ok ((List.range (j - i).toNat).map fun k : Nat => PyData.int (i + k), ρ) else .bad
  | _ => .bad
def rg2K (p : List Ev × List B) : Rs (List PyData × List B) := rg2 p.2 (peeks p.2 p.1)
theorem r_rng2 : rng2I fs ρ = Rs.bind (fs ρ) rg2K := id rfl
theorem k_rng2 : rg2K (es, ρ) = rg2 ρ (peeks ρ es) := id rfl
theorem k_rng2b {i j : Int} (h : (rngOk i && rngOk j) = true) : rg2 ρ (some [.int i, .int j]) = .ok ((List.range (j - i).toNat).map fun k : Nat => PyData.int (i + k), ρ) := if_pos h
theorem rgl_0 : (List.range (Int.toNat 0)).map (fun i : Nat => PyData.int (0 + i)) = [] := id rfl
theorem rgl_1 : (List.range (Int.toNat 1)).map (fun i : Nat => PyData.int (0 + i)) = [.int 0] := id rfl
theorem rgl_2 : (List.range (Int.toNat 2)).map (fun i : Nat => PyData.int (0 + i)) = [.int 0, .int 1] := id rfl
theorem rgl_3 : (List.range (Int.toNat 3)).map (fun i : Nat => PyData.int (0 + i)) = [.int 0, .int 1, .int 2] := id rfl
theorem rgl_4 : (List.range (Int.toNat 4)).map (fun i : Nat => PyData.int (0 + i)) = [.int 0, .int 1, .int 2, .int 3] := id rfl
theorem rgl_5 : (List.range (Int.toNat 5)).map (fun i : Nat => PyData.int (0 + i)) = [.int 0, .int 1, .int 2, .int 3, .int 4] := id rfl
theorem rgl_6 : (List.range (Int.toNat 6)).map (fun i : Nat => PyData.int (0 + i)) = [.int 0, .int 1, .int 2, .int 3, .int 4, .int 5] := id rfl
theorem rgl_7 : (List.range (Int.toNat 7)).map (fun i : Nat => PyData.int (0 + i)) = [.int 0, .int 1, .int 2, .int 3, .int 4, .int 5, .int 6] := id rfl
theorem rgl_8 : (List.range (Int.toNat 8)).map (fun i : Nat => PyData.int (0 + i)) = [.int 0, .int 1, .int 2, .int 3, .int 4, .int 5, .int 6, .int 7] := id rfl
theorem rgl_9 : (List.range (Int.toNat 9)).map (fun i : Nat => PyData.int (0 + i)) = [.int 0, .int 1, .int 2, .int 3, .int 4, .int 5, .int 6, .int 7, .int 8] := id rfl
theorem rgl_10 : (List.range (Int.toNat 10)).map (fun i : Nat => PyData.int (0 + i)) = [.int 0, .int 1, .int 2, .int 3, .int 4, .int 5, .int 6, .int 7, .int 8, .int 9] := id rfl
theorem rgl_12 : (List.range (Int.toNat 12)).map (fun i : Nat => PyData.int (0 + i)) = [.int 0, .int 1, .int 2, .int 3, .int 4, .int 5, .int 6, .int 7, .int 8, .int 9, .int 10, .int 11] := id rfl
theorem rgl_16 : (List.range (Int.toNat 16)).map (fun i : Nat => PyData.int (0 + i)) = [.int 0, .int 1, .int 2, .int 3, .int 4, .int 5, .int 6, .int 7, .int 8, .int 9, .int 10, .int 11, .int 12, .int 13, .int 14, .int 15] := id rfl
theorem r1l_1 : (List.range (Int.toNat 1)).map (fun i : Nat => PyData.int (1 + i)) = [.int 1] := id rfl
theorem r1l_2 : (List.range (Int.toNat 2)).map (fun i : Nat => PyData.int (1 + i)) = [.int 1, .int 2] := id rfl
theorem r1l_3 : (List.range (Int.toNat 3)).map (fun i : Nat => PyData.int (1 + i)) = [.int 1, .int 2, .int 3] := id rfl
theorem r1l_4 : (List.range (Int.toNat 4)).map (fun i : Nat => PyData.int (1 + i)) = [.int 1, .int 2, .int 3, .int 4] := id rfl
theorem r1l_5 : (List.range (Int.toNat 5)).map (fun i : Nat => PyData.int (1 + i)) = [.int 1, .int 2, .int 3, .int 4, .int 5] := id rfl
theorem r1l_6 : (List.range (Int.toNat 6)).map (fun i : Nat => PyData.int (1 + i)) = [.int 1, .int 2, .int 3, .int 4, .int 5, .int 6] := id rfl
theorem r1l_8 : (List.range (Int.toNat 8)).map (fun i : Nat => PyData.int (1 + i)) = [.int 1, .int 2, .int 3, .int 4, .int 5, .int 6, .int 7, .int 8] := id rfl
theorem rpl_0 : (List.replicate (Int.toNat 0) [d]).flatten = [] := id rfl
theorem rpl_1 : (List.replicate (Int.toNat 1) [d]).flatten = [d] := id rfl
theorem rpl_2 : (List.replicate (Int.toNat 2) [d]).flatten = [d, d] := id rfl
theorem rpl_3 : (List.replicate (Int.toNat 3) [d]).flatten = [d, d, d] := id rfl
theorem rpl_4 : (List.replicate (Int.toNat 4) [d]).flatten = [d, d, d, d] := id rfl
theorem rpl_5 : (List.replicate (Int.toNat 5) [d]).flatten = [d, d, d, d, d] := id rfl
theorem rpl_6 : (List.replicate (Int.toNat 6) [d]).flatten = [d, d, d, d, d, d] := id rfl
theorem rpl_7 : (List.replicate (Int.toNat 7) [d]).flatten = [d, d, d, d, d, d, d] := id rfl
theorem rpl_8 : (List.replicate (Int.toNat 8) [d]).flatten = [d, d, d, d, d, d, d, d] := id rfl
/-- comprehensions -/
def lcK1 (ρv : List Nat) : Option (List PyData × List B) → Rs (Ev × List B)
  | some (all, ρe) => .ok (.fr (.list all), wipeB ρe ρv)
  | none => .bad
def lcK (t : SG) (c : SB) (fe : SE) (vs : List Nat) (p : List PyData × List B) : Rs (Ev × List B) := lcK1 vs (lcL t c fe vs 0 p.1 (wipeB p.2 vs))
theorem r_lc {vs : List Nat} : lcE it t c fe vs ρ = Rs.bind (it ρ) (lcK t c fe vs) := by
  unfold lcE lcK lcK1
  congr 1
theorem k_lc {vs : List Nat} : lcK t c fe vs (ds, ρ) = lcK1 vs (lcL t c fe vs 0 ds (wipeB ρ vs)) := id rfl
def lcD (t : SG) (c : SB) (fe : SE) (vs : List Nat) (n : Nat) (ds : List PyData) (y : PyData) (ρ4 : List B) : Option (List PyData × List B) := if n < sizeLine then (lcL t c fe vs (n + 1) ds (wipeB ρ4 vs)).map fun p => (y :: p.1, p.2) else none
def lcO (k : PyData → List B → Option (List PyData × List B)) : Option (PyData × List B) → Option (List PyData × List B)
  | some (y, ρ4) => k y ρ4
  | none => none
def lcC (t : SG) (c : SB) (fe : SE) (vs : List Nat) (n : Nat) (ds : List PyData) : Rs (Ev × List B) → Option (List PyData × List B)
  | .ok (e, ρ3) => lcO (lcD t c fe vs n ds) (shr ρ3 (G.settle e))
  | _ => none
def lcB (t : SG) (c : SB) (fe : SE) (vs : List Nat) (n : Nat) (ds : List PyData) : Rs (Bool × List B) → Option (List PyData × List B)
  | .ok (bo, ρ2) => if bo = true then lcC t c fe vs n ds (fe ρ2) else lcL t c fe vs n ds (wipeB ρ2 vs)
  | _ => none
def lcA (t : SG) (c : SB) (fe : SE) (vs : List Nat) (n : Nat) (ds : List PyData) : Rs (List B) → Option (List PyData × List B)
  | .ok ρ1 => lcB t c fe vs n ds (c ρ1)
  | _ => none
theorem l_nil {vs : List Nat} : lcL t c fe vs i [] ρ = some ([], ρ) := by unfold lcL; rfl
theorem l_cons {vs : List Nat} : lcL t c fe vs i (d :: ds) ρ = lcA t c fe vs i ds (t d ρ) := by
  conv => lhs; unfold lcL
  unfold lcA
  cases t d ρ with
  | ex n ρ => rfl
  | bad => rfl
  | ok ρ1 =>
    dsimp only
    unfold lcB
    cases c ρ1 with
    | ex n ρ => rfl
    | bad => rfl
    | ok q =>
      obtain ⟨b, ρ2⟩ := q
      cases b with
      | false => rfl
      | true =>
        dsimp only
        rw [if_pos rfl]
        unfold lcC
        cases fe ρ2 with
        | ex n ρ => rfl
        | bad => rfl
        | ok q =>
          obtain ⟨e, ρ3⟩ := q
          dsimp only
          unfold lcO lcD
          cases shr ρ3 (G.settle e) <;> rfl
theorem l_A {vs : List Nat} : lcA t c fe vs i ds (.ok ρ) = lcB t c fe vs i ds (c ρ) := id rfl
theorem l_B {vs : List Nat} : lcB t c fe vs i ds (.ok (bo, ρ)) = if bo = true then lcC t c fe vs i ds (fe ρ) else lcL t c fe vs i ds (wipeB ρ vs) := id rfl
theorem l_C {vs : List Nat} : lcC t c fe vs i ds (.ok (.val d, ρ)) = lcD t c fe vs i ds d ρ := id rfl
theorem l_C2 {vs : List Nat} : lcC t c fe vs i ds (.ok (.fr d, ρ)) = lcD t c fe vs i ds d ρ := id rfl
def lcS (k : PyData → List B → Option (List PyData × List B)) (j : Nat) (ρ : List B) : Option B → Option (List PyData × List B)
  | some (.own d) => k d (ρ.set j (.val d))
  | some (.val d) => k d ρ
  | _ => none
theorem l_C3 {vs : List Nat} : lcC t c fe vs i ds (.ok (.sl j, ρ)) = lcS (lcD t c fe vs i ds) j ρ ρ[j]? := by
  unfold lcC settle shr lcS lcO
  dsimp only
  cases ρ[j]? with
  | none => rfl
  | some b => cases b <;> rfl
theorem l_S1 {k : PyData → List B → Option (List PyData × List B)} : lcS k j ρ (some (.own d)) = k d (ρ.set j (.val d)) := id rfl
theorem l_S2 {k : PyData → List B → Option (List PyData × List B)} : lcS k j ρ (some (.val d)) = k d ρ := id rfl
theorem l_D {vs : List Nat} (h : i < sizeLine) : lcD t c fe vs i ds d ρ = (lcL t c fe vs (i + 1) ds (wipeB ρ vs)).map fun p => (d :: p.1, p.2) := if_pos h
theorem k_lc1 {vs : List Nat} : lcK1 vs (some (ds, ρ)) = .ok (.fr (.list ds), wipeB ρ vs) := id rfl
theorem wi_nil : wipeB ρ [] = ρ := id rfl
theorem wi_cons {vs : List Nat} : wipeB ρ (i :: vs) = (wipeB ρ vs).set i .un := id rfl
theorem mulOk_l {x y : Int} (h : smallI x = true) : mulOk x y = true := by unfold mulOk; rw [h]; rfl
theorem mulOk_r {x y : Int} (h : smallI y = true) : mulOk x y = true := by unfold mulOk; rw [h]; simp
/-- slices -/
def slO (o o2 : Option Int) : Option PyData → Option Ev
  | some d => cutD d o o2
  | none => none
def slK3 (e : Ev) (o : Option Int) (q : Option Int × List B) : Rs (Ev × List B) := resE q.2 (slO o q.1 (peek q.2 e))
def slK2 (ph : SP) (e : Ev) (q : Option Int × List B) : Rs (Ev × List B) := Rs.bind (ptP ph q.2) (slK3 e q.1)
def slK1 (pl ph : SP) (p : Ev × List B) : Rs (Ev × List B) := Rs.bind (ptP pl p.2) (slK2 ph p.1)
theorem r_sl {pl ph : SP} : slE fe pl ph ρ = Rs.bind (fe ρ) (slK1 pl ph) := by
  unfold slE slK1
  congr 1
  funext p
  congr 1
  funext l
  unfold slK2
  congr 1
  funext u
  unfold slK3 slO
  cases peek u.2 p.1 <;> rfl
theorem k_sla {pl ph : SP} : slK1 pl ph (e, ρ) = Rs.bind (ptP pl ρ) (slK2 ph e) := id rfl
theorem k_slb {ph : SP} {o : Option Int} : slK2 ph e (o, ρ) = Rs.bind (ptP ph ρ) (slK3 e o) := id rfl
theorem k_slc {o o2 : Option Int} : slK3 e o (o2, ρ) = resE ρ (slO o o2 (peek ρ e)) := id rfl
theorem k_sld {o o2 : Option Int} : slO o o2 (some d) = cutD d o o2 := id rfl
theorem pt_n : ptP none ρ = .ok (none, ρ) := id rfl
def ptK (p : Ev × List B) : Rs (Option Int × List B) := match peek p.2 p.1 with
    | some (.int i) => .ok (some i, p.2)
    | _ => .bad
theorem pt_s : ptP (some fe) ρ = Rs.bind (fe ρ) ptK := id rfl
theorem k_pt {x : Int} : ptK (.val (.int x), ρ) = .ok (some x, ρ) := id rfl
theorem cu_t {o o2 : Option Int} : cutD (.tuple ds) o o2 = some (.val (.tuple (cutL ds o o2))) := id rfl
theorem cu_l {o o2 : Option Int} : cutD (.list ds) o o2 = some (.fr (.list (cutL ds o o2))) := id rfl
theorem cu_1n {l' : List α} : cutL (a :: l') (some 1) none = l' := by
  unfold cutL
  have h1 : HT.sIx (a :: l').length 0 (some 1) = 1 := by unfold HT.sIx; simp
  have h2 : HT.sIx (a :: l').length (a :: l').length none = (a :: l').length := by unfold HT.sIx; rfl
  rw [h1, h2]
  simp
theorem cu_2n {a2 : α} {l' : List α} : cutL (a :: a2 :: l') (some 2) none = l' := by
  unfold cutL
  have h1 : HT.sIx (a :: a2 :: l').length 0 (some 2) = 2 := by unfold HT.sIx; simp
  have h2 : HT.sIx (a :: a2 :: l').length (a :: a2 :: l').length none = (a :: a2 :: l').length := by unfold HT.sIx; rfl
  rw [h1, h2]
  simp
theorem cu_n1 {l' : List α} : cutL (a :: l') none (some 1) = [a] := by
  unfold cutL
  have h1 : HT.sIx (a :: l').length 0 none = 0 := by unfold HT.sIx; rfl
  have h2 : HT.sIx (a :: l').length (a :: l').length (some 1) = 1 := by unfold HT.sIx; simp
  rw [h1, h2]
  simp
/-- data -/
theorem d_add {x y : Int} : addD (.int x) (.int y) = some (.val (.int (x + y))) := id rfl
theorem d_addT {xs ys : List PyData} (h : xs.length + ys.length ≤ sizeLine) : addD (.tuple xs) (.tuple ys) = some (.val (.tuple (xs ++ ys))) := if_pos h
theorem d_addTs {xs ys : List PyData} (h : smallLen (xs ++ ys) 100 = true) : addD (.tuple xs) (.tuple ys) = some (.val (.tuple (xs ++ ys))) := d_addT (by have := len_ok h; simpa using this)
theorem d_addL {xs ys : List PyData} (h : xs.length + ys.length ≤ sizeLine) : addD (.list xs) (.list ys) = some (.fr (.list (xs ++ ys))) := if_pos h
theorem d_addLs {xs ys : List PyData} (h : smallLen (xs ++ ys) 100 = true) : addD (.list xs) (.list ys) = some (.fr (.list (xs ++ ys))) := d_addL (by have := len_ok h; simpa using this)
theorem d_sub {x y : Int} : subD (.int x) (.int y) = some (.val (.int (x - y))) := id rfl
theorem d_mul {x y : Int} (h : mulOk x y = true) : mulD (.int x) (.int y) = some (.val (.int (x * y))) := if_pos h
theorem d_fdiv {x y : Int} (h : divOk y = true) : fdivD (.int x) (.int y) = some (.val (.int (x.fdiv y))) := if_pos h
theorem d_mod {x y : Int} (h : y ≠ 0) : modD (.int x) (.int y) = some (.val (.int (x.fmod y))) := if_neg h
theorem d_neg {x : Int} : negD (.int x) = some (.val (.int (-x))) := id rfl
theorem d_cmp {x y : Int} {k : Int → Int → Bool} : cmpI k (.int x) (.int y) = some (.val (.bool (k x y))) := id rfl
theorem d_ixT {k : Int} : ixD (.tuple ds) (.int k) = (atI ds k).map .val := id rfl
theorem d_ixL {k : Int} : ixD (.list ds) (.int k) = (atI ds k).map .val := id rfl
theorem at_0 {l' : List α} : atI (a :: l') (0 : Int) = some a := atI_nat (j := 0) rfl
theorem at_1 {a0 : α} {l' : List α} : atI (a0 :: a :: l') (1 : Int) = some a := atI_nat (j := 1) rfl
theorem at_2 {a0 a1 : α} {l' : List α} : atI (a0 :: a1 :: a :: l') (2 : Int) = some a := atI_nat (j := 2) rfl
theorem at_3 {a0 a1 a2 : α} {l' : List α} : atI (a0 :: a1 :: a2 :: a :: l') (3 : Int) = some a := atI_nat (j := 3) rfl
theorem d_lenL : lenD [.list ds] = some (.val (.int ds.length)) := id rfl
theorem d_lenT : lenD [.tuple ds] = some (.val (.int ds.length)) := id rfl
theorem d_tupL : tupleD [.list ds] = some (.val (.tuple ds)) := id rfl
theorem d_tupT : tupleD [.tuple ds] = some (.val (.tuple ds)) := id rfl
def allK (o : Option (List Bool)) : Option Ev := o.map fun bs => .val (.bool (bs.all id))
theorem d_all : allD [.list ds] = allK (boolsD ds) := id rfl
theorem k_all {bs : List Bool} : allK (some bs) = some (.val (.bool (bs.all id))) := id rfl
def anyK (o : Option (List Bool)) : Option Ev := o.map fun bs => .val (.bool (bs.any id))
theorem d_any : anyD [.list ds] = anyK (boolsD ds) := id rfl
theorem k_any {bs : List Bool} : anyK (some bs) = some (.val (.bool (bs.any id))) := id rfl
theorem bo_nil : boolsD [] = some [] := id rfl
theorem bo_cons : boolsD (.bool bo :: ds) = (boolsD ds).map (bo :: ·) := id rfl
theorem al_nil {u : α → Bool} : List.all [] u = true := id rfl
theorem al_cons {u : α → Bool} {l' : List α} : List.all (a :: l') u = (u a && List.all l' u) := id rfl
theorem al_map {u : α → Bool} : ∀ {l' : List α}, (l'.map u).all id = l'.all u
  | [] => rfl
  | a :: l' => by simp only [List.map_cons, List.all_cons, id, al_map (l' := l')]
theorem an_nil {u : α → Bool} : List.any [] u = false := id rfl
theorem an_cons {u : α → Bool} {l' : List α} : List.any (a :: l') u = (u a || List.any l' u) := id rfl
theorem an_map {u : α → Bool} : ∀ {l' : List α}, (l'.map u).any id = l'.any u
  | [] => rfl
  | a :: l' => by simp only [List.map_cons, List.any_cons, id, an_map (l' := l')]
theorem id_b {b : Bool} : id b = b := id rfl
theorem bo_map {u : α → Bool} {l' : List α} : boolsD (l'.map fun z => PyData.bool (u z)) = some (l'.map u) := by
  induction l' with
  | nil => rfl
  | cons z l' ih =>
    show (boolsD (l'.map fun z => PyData.bool (u z))).map (u z :: ·) = _
    rw [ih]
    rfl
theorem d_max {x y : Int} : max2D [.int x, .int y] = some (.val (.int (if y > x then y else x))) := id rfl
theorem d_min {x y : Int} : min2D [.int x, .int y] = some (.val (.int (if y < x then y else x))) := id rfl
theorem d_listL : listD [.list ds] = some (.fr (.list ds)) := id rfl
theorem d_listT : listD [.tuple ds] = some (.fr (.list ds)) := id rfl
theorem d_p18 : powD (.int 10) (.int 18) = some (.val (.int 1000000000000000000)) := id rfl
theorem d_p13 : powD (.int 10) (.int 13) = some (.val (.int 10000000000000)) := id rfl
theorem d_p12 : powD (.int 10) (.int 12) = some (.val (.int 1000000000000)) := id rfl
theorem d_is {x : PyData} : isD x .none = some (.val (.bool (isNoneD x))) := by unfold isD; cases x <;> rfl
theorem d_abs {x : Int} : absD [.int x] = some (.val (.int (if x < 0 then -x else x))) := id rfl
theorem d_repr (h : reprOk d = true) : reprD [d] = some (.val (.str d.shown)) := if_pos h
theorem d_eqS {x y : Str} : eqD (.str x) (.str y) = some (.val (.bool (x == y))) := by
  unfold eqD
  rw [if_pos (by rfl : (str2 (PyData.str x) (PyData.str y) || _) = true)]
  rfl
theorem d_neS {x y : Str} : neD (.str x) (.str y) = some (.val (.bool (!(x == y)))) := by
  unfold neD
  rw [if_pos (by rfl : (str2 (PyData.str x) (PyData.str y) || _) = true)]
  rfl
theorem d_eqI {x y : Int} : eqD (.int x) (.int y) = some (.val (.bool (decide (x = y)))) := by
  unfold eqD
  rw [if_pos (by rfl : (str2 (PyData.int x) (PyData.int y) || _) = true)]
  simp only [PyData.eqv]
  congr 3
theorem d_neI {x y : Int} : neD (.int x) (.int y) = some (.val (.bool (!decide (x = y)))) := by
  unfold neD
  rw [if_pos (by rfl : (str2 (PyData.int x) (PyData.int y) || _) = true)]
  simp only [PyData.eqv]
  congr 3
theorem d_isi {T : String} : isiD T d = some (.val (.bool (isiB T d))) := id rfl
theorem isy_int_none : isiB "int" .none = false := id rfl
theorem isy_int_bool {bo : Bool} : isiB "int" (.bool bo) = true := id rfl
theorem isy_int_int {x : Int} : isiB "int" (.int x) = true := id rfl
theorem isy_int_str {x : Str} : isiB "int" (.str x) = false := id rfl
theorem isy_int_list : isiB "int" (.list ds) = false := id rfl
theorem isy_int_tuple : isiB "int" (.tuple ds) = false := id rfl
theorem isy_int_dict {kv : List (PyData × PyData)} : isiB "int" (.dict kv) = false := id rfl
theorem isy_bool_none : isiB "bool" .none = false := id rfl
theorem isy_bool_bool {bo : Bool} : isiB "bool" (.bool bo) = true := id rfl
theorem isy_bool_int {x : Int} : isiB "bool" (.int x) = false := id rfl
theorem isy_bool_str {x : Str} : isiB "bool" (.str x) = false := id rfl
theorem isy_bool_list : isiB "bool" (.list ds) = false := id rfl
theorem isy_bool_tuple : isiB "bool" (.tuple ds) = false := id rfl
theorem isy_bool_dict {kv : List (PyData × PyData)} : isiB "bool" (.dict kv) = false := id rfl
theorem isy_tuple_none : isiB "tuple" .none = false := id rfl
theorem isy_tuple_bool {bo : Bool} : isiB "tuple" (.bool bo) = false := id rfl
theorem isy_tuple_int {x : Int} : isiB "tuple" (.int x) = false := id rfl
theorem isy_tuple_str {x : Str} : isiB "tuple" (.str x) = false := id rfl
theorem isy_tuple_list : isiB "tuple" (.list ds) = false := id rfl
theorem isy_tuple_tuple : isiB "tuple" (.tuple ds) = true := id rfl
theorem isy_tuple_dict {kv : List (PyData × PyData)} : isiB "tuple" (.dict kv) = false := id rfl
theorem isy_list_none : isiB "list" .none = false := id rfl
theorem isy_list_bool {bo : Bool} : isiB "list" (.bool bo) = false := id rfl
theorem isy_list_int {x : Int} : isiB "list" (.int x) = false := id rfl
theorem isy_list_str {x : Str} : isiB "list" (.str x) = false := id rfl
theorem isy_list_list : isiB "list" (.list ds) = true := id rfl
theorem isy_list_tuple : isiB "list" (.tuple ds) = false := id rfl
theorem isy_list_dict {kv : List (PyData × PyData)} : isiB "list" (.dict kv) = false := id rfl
theorem isy_str_none : isiB "str" .none = false := id rfl
theorem isy_str_bool {bo : Bool} : isiB "str" (.bool bo) = false := id rfl
theorem isy_str_int {x : Int} : isiB "str" (.int x) = false := id rfl
theorem isy_str_str {x : Str} : isiB "str" (.str x) = true := id rfl
theorem isy_str_list : isiB "str" (.list ds) = false := id rfl
theorem isy_str_tuple : isiB "str" (.tuple ds) = false := id rfl
theorem isy_str_dict {kv : List (PyData × PyData)} : isiB "str" (.dict kv) = false := id rfl
theorem isy_dict_none : isiB "dict" .none = false := id rfl
theorem isy_dict_bool {bo : Bool} : isiB "dict" (.bool bo) = false := id rfl
theorem isy_dict_int {x : Int} : isiB "dict" (.int x) = false := id rfl
theorem isy_dict_str {x : Str} : isiB "dict" (.str x) = false := id rfl
theorem isy_dict_list : isiB "dict" (.list ds) = false := id rfl
theorem isy_dict_tuple : isiB "dict" (.tuple ds) = false := id rfl
theorem isy_dict_dict {kv : List (PyData × PyData)} : isiB "dict" (.dict kv) = true := id rfl
theorem it_t {x y : α} : (if True then x else y) = x := if_pos trivial
theorem it_f {x y : α} : (if False then x else y) = y := if_neg fun h => h
theorem b_tt : (true = true) = True := by simp
theorem b_ft : (false = true) = False := by simp
theorem b_nt : (!true) = false := id rfl
theorem b_nf : (!false) = true := id rfl
theorem b_ta {b : Bool} : (true && b) = b := by simp
theorem b_fa {b : Bool} : (false && b) = false := by simp
theorem b_at {b : Bool} : (b && true) = b := by simp
theorem b_to {b : Bool} : (true || b) = true := by simp
theorem b_fo {b : Bool} : (false || b) = b := by simp
theorem lI_0 : (([] : List α).length : Int) = 0 := id rfl
theorem lI_1 {a1 : α} : (([a1] : List α).length : Int) = 1 := id rfl
theorem lI_2 {a1 a2 : α} : (([a1, a2] : List α).length : Int) = 2 := id rfl
theorem lI_3 {a1 a2 a3 : α} : (([a1, a2, a3] : List α).length : Int) = 3 := id rfl
theorem lI_4 {a1 a2 a3 a4 : α} : (([a1, a2, a3, a4] : List α).length : Int) = 4 := id rfl
theorem lI_5 {a1 a2 a3 a4 a5 : α} : (([a1, a2, a3, a4, a5] : List α).length : Int) = 5 := id rfl
theorem lI_m {l' : List α} {u : α → β} : ((l'.map u).length : Int) = l'.length := by rw [List.length_map]
theorem bs_f {x y : Str} (h : decide (x = y) = false) : (x == y) = false := beq_eq_false_iff_ne.mpr (of_decide_eq_false h)
theorem es_f {x y : Str} (h : decide (x = y) = false) : (x = y) = False := eq_false (of_decide_eq_false h)
theorem bb_tt : (true == true) = true := id rfl
theorem bb_tf : (true == false) = false := id rfl
theorem bb_ft : (false == true) = false := id rfl
theorem bb_ff : (false == false) = true := id rfl
theorem bq_s {x : Str} : (x == x) = true := beq_self_eq_true x
/-- dicts -/
def dicM (ρ : List B) : Option (List (Key × PyData)) → Rs (Ev × List B)
  | some m => if m.length ≤ 15 then .ok (.fr (.dict (mergeD [] m)), ρ) else .bad
  | none => .bad
def dicL : Option (List PyData × List B) → Rs (Ev × List B)
  | some (ds, ρ') => dicM ρ' (pairsD ds)
  | none => .bad
def dicK (p : List Ev × List B) : Rs (Ev × List B) := dicL (shrs p.2 p.1)
theorem r_dic {prs : List (SE × SE)} : dicE prs ρ = Rs.bind (flatA prs ρ) dicK := by
  unfold dicE dicK dicL dicM
  congr 1
theorem k_dic1 : dicK (es, ρ) = dicL (shrs ρ es) := id rfl
theorem k_dic2 : dicL (some (ds, ρ)) = dicM ρ (pairsD ds) := id rfl
theorem k_dic3 {mm : List (Key × PyData)} (h : mm.length ≤ 15) : dicM ρ (some mm) = .ok (.fr (.dict (mergeD [] mm)), ρ) := if_pos h
theorem k_dic4 {q : Key} : dicM ρ (some [(q, d)]) = .ok (.fr (.dict [(kD q, d)]), ρ) := id rfl
theorem k_kD1 {x : Int} : kD (.inl x) = .int x := id rfl
theorem k_kD2 {x : Str} : kD (.inr x) = .str x := id rfl
theorem k_fl0 : flatA [] = aNil := id rfl
theorem k_fl1 {prs : List (SE × SE)} : flatA ((fk, fe) :: prs) = aCons fk (aCons fe (flatA prs)) := id rfl
theorem k_pr0 : pairsD [] = some [] := id rfl
theorem k_pr1 {x : Int} : pairsD (.int x :: d :: ds) = (pairsD ds).map fun m => (.inl x, d) :: m := id rfl
theorem k_pr2 {x : Str} : pairsD (.str x :: d :: ds) = (pairsD ds).map fun m => (.inr x, d) :: m := id rfl
theorem r_dic0 : dic0E ρ = .ok (.fr (.dict []), ρ) := id rfl
theorem d_ixDi {kvs : List (PyData × PyData)} {x : Int} : ixD (.dict kvs) (.int x) = (dget kvs (.inl x)).map .val := id rfl
theorem d_ixDs {kvs : List (PyData × PyData)} {x : Str} : ixD (.dict kvs) (.str x) = (dget kvs (.inr x)).map .val := id rfl
theorem d_inGT {x : PyData} : inG x (.tuple ds) = inD x (.tuple ds) := id rfl
theorem d_inGL {x : PyData} : inG x (.list ds) = inD x (.list ds) := id rfl
theorem d_ninGT {x : PyData} : ninG x (.tuple ds) = ninD x (.tuple ds) := id rfl
theorem d_ninGL {x : PyData} : ninG x (.list ds) = ninD x (.list ds) := id rfl
theorem d_inGi {kvs : List (PyData × PyData)} {x : Int} (h : keyed kvs = true) : inG (.int x) (.dict kvs) = some (.val (.bool (dget kvs (.inl x)).isSome)) := by
  unfold inG
  simp only [keyOf, Option.bind, if_pos h]
theorem d_ninGi {kvs : List (PyData × PyData)} {x : Int} (h : keyed kvs = true) : ninG (.int x) (.dict kvs) = some (.val (.bool (!(dget kvs (.inl x)).isSome))) := by
  unfold ninG
  simp only [keyOf, Option.bind, if_pos h]
theorem k_vals {kvs : List (PyData × PyData)} (h : keyed kvs = true) : seqIK valsK (.dict kvs) ρ = .ok (kvs.map (·.2), ρ) := by
  unfold seqIK valsK
  simp only [if_pos h]
theorem k_items {kvs : List (PyData × PyData)} (h : keyed kvs = true) : seqIK itemsK (.dict kvs) ρ = .ok (kvs.map fun p => .tuple [p.1, p.2], ρ) := by
  unfold seqIK itemsK
  simp only [if_pos h]
theorem d_setDi {kvs : List (PyData × PyData)} {x : Int} {y : PyData} (h : keyed kvs = true) (h2 : kvs.length < 1000000) : setD (.dict kvs) (.int x) y = some (.dict (dput kvs (.inl x) y)) := by
  unfold setD
  simp only [keyOf, Option.bind, h, h2, and_self, if_true]
theorem dg_nil {q : Key} : dget [] q = none := id rfl
theorem dg_i {kvs : List (PyData × PyData)} {x y : Int} : dget ((.int x, d) :: kvs) (.inl y) = if x = y then some d else dget kvs (.inl y) := by
  show (if keyOf (.int x) = some (.inl y) then some d else dget kvs (.inl y)) = _
  by_cases h : x = y
  · rw [if_pos h, if_pos (by rw [h]; rfl)]
  · rw [if_neg h, if_neg (fun z => h (by cases z; rfl))]
theorem dg_s {kvs : List (PyData × PyData)} {x y : Str} : dget ((.str x, d) :: kvs) (.inr y) = if x = y then some d else dget kvs (.inr y) := by
  show (if keyOf (.str x) = some (.inr y) then some d else dget kvs (.inr y)) = _
  by_cases h : x = y
  · rw [if_pos h, if_pos (by rw [h]; rfl)]
  · rw [if_neg h, if_neg (fun z => h (by cases z; rfl))]
def dputK : Option PyData → List (PyData × PyData) → Key → PyData → List (PyData × PyData)
  | none, kvs, q, d => kvs ++ [(kD q, d)]
  | some _, kvs, q, d => kvs.map (fun p => if keyOf p.1 = some q then (p.1, d) else p)
theorem dput_K {kvs : List (PyData × PyData)} {q : Key} : dput kvs q d = dputK (dget kvs q) kvs q d := by
  unfold dput dputK
  cases dget kvs q <;> rfl
theorem mg_0 {kvs : List (PyData × PyData)} : mergeD kvs [] = kvs := by unfold mergeD; rfl
theorem mg_s {kvs : List (PyData × PyData)} {q : Key} {r' : List (Key × PyData)} : mergeD kvs ((q, d) :: r') = mergeD (dputK (dget kvs q) kvs q d) r' := by
  conv => lhs; unfold mergeD
  rw [dput_K]
theorem dpk_n {kvs : List (PyData × PyData)} {q : Key} : dputK none kvs q d = kvs ++ [(kD q, d)] := id rfl
theorem ky_i {kvs : List (PyData × PyData)} {x : Int} : keyed ((.int x, d) :: kvs) = true := id rfl
theorem ky_s {kvs : List (PyData × PyData)} {x : Str} : keyed ((.str x, d) :: kvs) = true := id rfl
/-- equality of data -/
def shN (n : Nat) (d : PyData) : Bool := d.canLay0 && decide (d.depth ≤ n)
def shA (n : Nat) (ds : List PyData) : Bool := ds.all (shN n)
theorem shA_nil {n : Nat} : shA n [] = true := id rfl
theorem shA_cons {n : Nat} : shA n (d :: ds) = (shN n d && shA n ds) := id rfl
theorem shN_int {n : Nat} {x : Int} : shN n (.int x) = true := by unfold shN PyData.canLay0 PyData.depth; simp
theorem shN_bool {n : Nat} {x : Bool} : shN n (.bool x) = true := by unfold shN PyData.canLay0 PyData.depth; simp
theorem shN_none {n : Nat} : shN n .none = true := by unfold shN PyData.canLay0 PyData.depth; simp
theorem shN_str {n : Nat} {x : Str} (h : PyData.strOk x = true) : shN n (.str x) = true := by unfold shN PyData.canLay0 PyData.depth; simp [h]
theorem shA_ok {n : Nat} {ds : List PyData} : (PyData.canLayAll0 ds && decide (PyData.depthAll ds ≤ n)) = shA n ds := by
  induction ds with
  | nil => unfold shA PyData.canLayAll0 PyData.depthAll; simp
  | cons d ds ih =>
    rw [shA_cons, ← ih]
    unfold shN
    rw [show PyData.canLayAll0 (d :: ds) = (d.canLay0 && PyData.canLayAll0 ds) by simp [PyData.canLayAll0], show PyData.depthAll (d :: ds) = max d.depth (PyData.depthAll ds) by simp [PyData.depthAll]]
    cases d.canLay0 <;> cases PyData.canLayAll0 ds <;> simp [Nat.max_le]
theorem shN_tup {n : Nat} {ds : List PyData} : shN (n + 1) (.tuple ds) = shA n ds := by
  rw [← shA_ok]
  unfold shN
  rw [show PyData.canLay0 (.tuple ds) = PyData.canLayAll0 ds by simp [PyData.canLay0], show PyData.depth (.tuple ds) = PyData.depthAll ds + 1 by simp [PyData.depth]]
  simp
theorem shN_lst {n : Nat} {ds : List PyData} : shN (n + 1) (.list ds) = shA n ds := by
  rw [← shA_ok]
  unfold shN
  rw [show PyData.canLay0 (.list ds) = PyData.canLayAll0 ds by simp [PyData.canLay0], show PyData.depth (.list ds) = PyData.depthAll ds + 1 by simp [PyData.depth]]
  simp
theorem sh_of {x : PyData} (h : shN 64 x = true) : SeqAt.shaped x = true := h
theorem d_eqX {x y : PyData} (hx : shN 64 x = true) (hy : shN 64 y = true) : eqD x y = some (.val (.bool (PyData.eqv x y))) := by
  unfold eqD
  rw [sh_of hx, sh_of hy]
  simp
theorem d_neX {x y : PyData} (hx : shN 64 x = true) (hy : shN 64 y = true) : neD x y = some (.val (.bool (!PyData.eqv x y))) := by
  unfold neD
  rw [sh_of hx, sh_of hy]
  simp
theorem d_inT {x : PyData} (hx : shN 64 x = true) (hy : shN 64 (.tuple ds) = true) : inD x (.tuple ds) = some (.val (.bool (ds.any fun z => PyData.eqv z x))) := by
  unfold inD itemsD
  simp only [Option.bind, sh_of hx, sh_of hy, Bool.and_self, if_true]
theorem d_inL {x : PyData} (hx : shN 64 x = true) (hy : shN 64 (.list ds) = true) : inD x (.list ds) = some (.val (.bool (ds.any fun z => PyData.eqv z x))) := by
  unfold inD itemsD
  simp only [Option.bind, sh_of hx, sh_of hy, Bool.and_self, if_true]
theorem d_ninT {x : PyData} (hx : shN 64 x = true) (hy : shN 64 (.tuple ds) = true) : ninD x (.tuple ds) = some (.val (.bool (!ds.any fun z => PyData.eqv z x))) := by
  unfold ninD itemsD
  simp only [Option.bind, sh_of hx, sh_of hy, Bool.and_self, if_true]
theorem d_ninL {x : PyData} (hx : shN 64 x = true) (hy : shN 64 (.list ds) = true) : ninD x (.list ds) = some (.val (.bool (!ds.any fun z => PyData.eqv z x))) := by
  unfold ninD itemsD
  simp only [Option.bind, sh_of hx, sh_of hy, Bool.and_self, if_true]
theorem ev_ii {x y : Int} : PyData.eqv (.int x) (.int y) = decide (x = y) := by simp only [PyData.eqv]; rfl
theorem ev_bb {x y : Bool} : PyData.eqv (.bool x) (.bool y) = (x == y) := id rfl
theorem ev_ss {x y : Str} : PyData.eqv (.str x) (.str y) = (x == y) := id rfl
theorem ev_nn : PyData.eqv .none .none = true := id rfl
theorem ev_tt {xs ys : List PyData} : PyData.eqv (.tuple xs) (.tuple ys) = PyData.eqvAll xs ys := by simp only [PyData.eqv]
theorem ev_ll {xs ys : List PyData} : PyData.eqv (.list xs) (.list ys) = PyData.eqvAll xs ys := by simp only [PyData.eqv]
theorem ev_0 : PyData.eqvAll [] [] = true := by simp only [PyData.eqvAll]
theorem ev_c {x y : PyData} {xs ys : List PyData} : PyData.eqvAll (x :: xs) (y :: ys) = (PyData.eqv x y && PyData.eqvAll xs ys) := by simp only [PyData.eqvAll]
theorem ev_c0 {x : PyData} {xs : List PyData} : PyData.eqvAll (x :: xs) [] = false := by simp only [PyData.eqvAll]
theorem ev_0c {x : PyData} {xs : List PyData} : PyData.eqvAll [] (x :: xs) = false := by simp only [PyData.eqvAll]
theorem ev_none_bool {b1_ : Bool} : PyData.eqv .none (.bool b1_) = false := id rfl
theorem ev_none_int {i1_ : Int} : PyData.eqv .none (.int i1_) = false := id rfl
theorem ev_none_str {x1_ : Str} : PyData.eqv .none (.str x1_) = false := id rfl
theorem ev_none_list {l1_ : List PyData} : PyData.eqv .none (.list l1_) = false := id rfl
theorem ev_none_tuple {t1_ : List PyData} : PyData.eqv .none (.tuple t1_) = false := id rfl
theorem ev_bool_none {b1_ : Bool} : PyData.eqv (.bool b1_) .none = false := id rfl
theorem ev_bool_str {b1_ : Bool} {x1_ : Str} : PyData.eqv (.bool b1_) (.str x1_) = false := id rfl
theorem ev_bool_list {b1_ : Bool} {l1_ : List PyData} : PyData.eqv (.bool b1_) (.list l1_) = false := id rfl
theorem ev_bool_tuple {b1_ : Bool} {t1_ : List PyData} : PyData.eqv (.bool b1_) (.tuple t1_) = false := id rfl
theorem ev_int_none {i1_ : Int} : PyData.eqv (.int i1_) .none = false := id rfl
theorem ev_int_str {i1_ : Int} {x1_ : Str} : PyData.eqv (.int i1_) (.str x1_) = false := id rfl
theorem ev_int_list {i1_ : Int} {l1_ : List PyData} : PyData.eqv (.int i1_) (.list l1_) = false := id rfl
theorem ev_int_tuple {i1_ : Int} {t1_ : List PyData} : PyData.eqv (.int i1_) (.tuple t1_) = false := id rfl
theorem ev_str_none {x1_ : Str} : PyData.eqv (.str x1_) .none = false := id rfl
theorem ev_str_bool {x1_ : Str} {b1_ : Bool} : PyData.eqv (.str x1_) (.bool b1_) = false := id rfl
theorem ev_str_int {x1_ : Str} {i1_ : Int} : PyData.eqv (.str x1_) (.int i1_) = false := id rfl
theorem ev_str_list {x1_ : Str} {l1_ : List PyData} : PyData.eqv (.str x1_) (.list l1_) = false := id rfl
theorem ev_str_tuple {x1_ : Str} {t1_ : List PyData} : PyData.eqv (.str x1_) (.tuple t1_) = false := id rfl
theorem ev_list_none {l1_ : List PyData} : PyData.eqv (.list l1_) .none = false := id rfl
theorem ev_list_bool {l1_ : List PyData} {b1_ : Bool} : PyData.eqv (.list l1_) (.bool b1_) = false := id rfl
theorem ev_list_int {l1_ : List PyData} {i1_ : Int} : PyData.eqv (.list l1_) (.int i1_) = false := id rfl
theorem ev_list_str {l1_ : List PyData} {x1_ : Str} : PyData.eqv (.list l1_) (.str x1_) = false := id rfl
theorem ev_list_tuple {l1_ : List PyData} {t1_ : List PyData} : PyData.eqv (.list l1_) (.tuple t1_) = false := id rfl
theorem ev_tuple_none {t1_ : List PyData} : PyData.eqv (.tuple t1_) .none = false := id rfl
theorem ev_tuple_bool {t1_ : List PyData} {b1_ : Bool} : PyData.eqv (.tuple t1_) (.bool b1_) = false := id rfl
theorem ev_tuple_int {t1_ : List PyData} {i1_ : Int} : PyData.eqv (.tuple t1_) (.int i1_) = false := id rfl
theorem ev_tuple_str {t1_ : List PyData} {x1_ : Str} : PyData.eqv (.tuple t1_) (.str x1_) = false := id rfl
theorem ev_tuple_list {t1_ : List PyData} {l1_ : List PyData} : PyData.eqv (.tuple t1_) (.list l1_) = false := id rfl
theorem dec_t : (decide p = true) = p := by simp
theorem not_dec : ((!decide p) = true) = ¬ p := by simp
/-- pop, extend, items -/
theorem k_popA : mtPopA (.list (d :: ds)) [.int 0] = some (.list ds, d) := id rfl
theorem k_popZ : mtPop (.list (ds ++ [d])) [] = some (.list ds, d) := by
  show ((ds ++ [d]).getLast?).map _ = _
  rw [List.getLast?_append, List.dropLast_concat]
  rfl
theorem k_pop1 : mtPop (.list [d]) [] = some (.list [], d) := id rfl
def extF (i : Nat) (fe : SE) (ρ : List B) : Option PyData → Rs (Ev × List B)
  | some d => if isLst d = true then extE1 i fe ρ else .bad
  | none => .bad
theorem r_ext : extE i fe ρ = extF i fe ρ ((ρ[i]?).bind ownD) := by
  unfold extE extF
  cases (ρ[i]?).bind ownD <;> rfl
def extK (i : Nat) (p : Ev × List B) : Rs (Ev × List B) := extG i p.2 p.1
theorem k_ext1 : extF i fe ρ (some (.list ds)) = Rs.bind (fe ρ) (extK i) := id rfl
def extJ (i : Nat) (es : List PyData) (ρ : List B) (b : B) : Option PyData → Rs (Ev × List B)
  | some (.list ds) => if ds.length + es.length ≤ 1000000 then .ok (.val .none, ρ.set i (reD b (.list (ds ++ es)))) else .bad
  | _ => .bad
def extH (i : Nat) (es : List PyData) (ρ : List B) : Option B → Rs (Ev × List B)
  | some b => extJ i es ρ b (ownD b)
  | none => .bad
theorem k_ext2 : extK i (.fr (.list ds), ρ) = extH i ds ρ ρ[i]? := by
  unfold extK extG extH
  dsimp only
  cases ρ[i]? with
  | none => rfl
  | some b =>
    dsimp only
    unfold extJ
    cases ownD b with
    | none => rfl
    | some d => cases d <;> rfl
theorem k_ext3 {ds' : List PyData} (h : ds.length + ds'.length ≤ 1000000) : extH i ds' ρ (some (.own (.list ds))) = .ok (.val .none, ρ.set i (.own (.list (ds ++ ds')))) := if_pos h
theorem k_ext4 {ds' : List PyData} (h : ds.length + ds'.length ≤ 1000000) : extH i ds' ρ (some (.prm (.list ds))) = .ok (.val .none, ρ.set i (.prm (.list (ds ++ ds')))) := if_pos h
theorem r_items : itemsE i ρ = itemsJ ρ ((ρ[i]?).bind ownD) := id rfl
theorem k_itemsJ {kvs : List (PyData × PyData)} (h : keyed kvs = true) : itemsJ ρ (some (.dict kvs)) = .ok (.fr (.list (kvs.map fun p => .tuple [p.1, p.2])), ρ) := if_pos h
theorem d_listD {kvs : List (PyData × PyData)} (h : keyed kvs = true) : listD [.dict kvs] = some (.fr (.list (kvs.map (·.1)))) := if_pos h
theorem d_intI {x : Int} : toIntD [.int x] = some (.val (.int x)) := id rfl
theorem d_intB : toIntD [.bool bo] = some (.val (.int (if bo = true then 1 else 0))) := id rfl
theorem d_strI {x : Int} (h : x.natAbs.log2 < 1920) : toStrD [.int x] = some (.val (.str (toString x))) := if_pos h
/-- xs[k] as one of several targets -/
def subK (i : Nat) (fk : SE) (y : PyData) (ρ : List B) : Option PyData → Rs (List B)
  | some _ => Rs.bind (fk ρ) (subH i y)
  | none => .bad
theorem r_subG {y : PyData} : subG i fk y ρ = subK i fk y ρ ((ρ[i]?).bind ownD) := by
  unfold subG subK
  cases (ρ[i]?).bind ownD <;> rfl
theorem k_sub1 {y : PyData} : subK i fk y ρ (some d) = Rs.bind (fk ρ) (subH i y) := id rfl
def subO (i : Nat) (b : B) (ρ : List B) : Option PyData → Rs (List B)
  | some d' => .ok (ρ.set i (reD b d'))
  | none => .bad
def subM (i : Nat) (y k : PyData) (ρ : List B) : Option B → Rs (List B)
  | some b => (match ownD b with
    | some d => subO i b ρ (setD d k y)
    | none => .bad)
  | none => .bad
def subL (i : Nat) (y : PyData) (ρ : List B) : Option PyData → Rs (List B)
  | some k => subM i y k ρ ρ[i]?
  | none => .bad
theorem k_sub2 {y : PyData} : subH i y (e, ρ) = subL i y ρ (peek ρ e) := by
  unfold subH subL
  dsimp only
  cases peek ρ e with
  | none => rfl
  | some k =>
    dsimp only
    unfold subM
    cases ρ[i]? with
    | none => rfl
    | some b =>
      dsimp only
      cases ownD b with
      | none => rfl
      | some d => dsimp only; unfold subO; cases setD d k y <;> rfl
theorem k_sub3 {y k : PyData} : subL i y ρ (some k) = subM i y k ρ ρ[i]? := id rfl
theorem k_sub4 {y k : PyData} : subM i y k ρ (some (.own d)) = subO i (.own d) ρ (setD d k y) := id rfl
theorem k_sub5 {y k : PyData} : subM i y k ρ (some (.prm d)) = subO i (.prm d) ρ (setD d k y) := id rfl
theorem k_sub6 {d' : PyData} : subO i (.own d) ρ (some d') = .ok (ρ.set i (.own d')) := id rfl
theorem k_sub7 {d' : PyData} : subO i (.prm d) ρ (some d') = .ok (ρ.set i (.prm d')) := id rfl
theorem r_tupL1 {u : List PyData → List B → Rs (List B)} : tupG 1 u (.list [d1]) ρ = u [d1] ρ := id rfl
theorem r_tupL2 {u : List PyData → List B → Rs (List B)} : tupG 2 u (.list [d1, d2]) ρ = u [d1, d2] ρ := id rfl
theorem r_tupL3 {u : List PyData → List B → Rs (List B)} : tupG 3 u (.list [d1, d2, d3]) ρ = u [d1, d2, d3] ρ := id rfl
theorem r_tupL4 {u : List PyData → List B → Rs (List B)} {d4 : PyData} : tupG 4 u (.list [d1, d2, d3, d4]) ρ = u [d1, d2, d3, d4] ρ := id rfl
theorem d_isB {x y : Bool} : isD (.bool x) (.bool y) = some (.val (.bool (decide (x = y)))) := id rfl
theorem d_isnB {x y : Bool} : isnD (.bool x) (.bool y) = some (.val (.bool (!decide (x = y)))) := id rfl
theorem d_isnN {x : PyData} : isnD x .none = some (.val (.bool (!isNoneD x))) := by unfold isnD; cases x <;> rfl
theorem d_revL {ds : List PyData} : revD (.list ds) = some (.fr (.list ds.reverse)) := id rfl
theorem d_revT {ds : List PyData} : revD (.tuple ds) = some (.val (.tuple ds.reverse)) := id rfl
end
end G
namespace M
open PySem PySem.Spec PyProof.Rows L2 G
abbrev c_IDENTITY : PyData := .tuple [.int (0), .int (0), .int (0)]
abbrev c_KINDS : PyData := .int (8)
abbrev c_LINEAR : PyData := .tuple [.tuple [.int (1), .int (0), .int (0), .int (1)], .tuple [.int (0), .int (-1), .int (1), .int (0)], .tuple [.int (-1), .int (0), .int (0), .int (-1)], .tuple [.int (0), .int (1), .int (-1), .int (0)], .tuple [.int (-1), .int (0), .int (0), .int (1)], .tuple [.int (0), .int (-1), .int (-1), .int (0)], .tuple [.int (1), .int (0), .int (0), .int (-1)], .tuple [.int (0), .int (1), .int (1), .int (0)]]
abbrev c_SHIFT : PyData := .int (0)
abbrev c_TURNS : PyData := .tuple [.int (1), .int (3)]
def B_is_integer : SS := (retS (andV (op1 (isiD "int") (fV 0)) (notV (op1 (isiD "bool") (fV 0)))))
def F_is_integer : SE := defF 1 B_is_integer
def B_is_between : SS := (retS (andV (callF [false] F_is_integer [] (aCons (fV 0) aNil)) (ch3 (cmpI fun i j => decide (i ≤ j)) (cmpI fun i j => decide (i ≤ j)) (fV 1) (fV 0) (fV 2))))
def F_is_between : SE := defF 3 B_is_between
theorem r_is_between {x0_ x1_ x2_ : B} : F_is_between [x0_, x1_, x2_] = Rs.bind (B_is_between [x0_, x1_, x2_]) (retF 3) := rfl
def B_is_symmetry : SS := (seqS (ifS (orB (notB (fB (op1 (isiD "tuple") (fV 0)))) (orB (fB (op2 neD (opN lenD (aCons (fV 0) aNil)) (fC (.int 3)))) (notB (fB (opN allD (aCons (lcE (seqI bothK (fV 0)) (nmG 1) yesB (callF [false] F_is_integer [] (aCons (fV 1) aNil)) [1]) aNil)))))) (retS (fC (.bool false))) nxS) (retS (callF [false, false, false] F_is_between [] (aCons (op2 ixD (fV 0) (fC (.int 0))) (aCons (fC (.int 0)) (aCons (op2 subD (fC c_KINDS) (fC (.int 1))) aNil))))))
def F_is_symmetry : SE := defF 2 B_is_symmetry
theorem r_is_symmetry {x0_ : B} : F_is_symmetry [x0_] = Rs.bind (B_is_symmetry [x0_, .un]) (retF 1) := rfl
def B_need_symmetry : SS := (ifS (notB (fB (callF [false] F_is_symmetry [] (aCons (fV 0) aNil)))) (exS_ "SymmetryError") nxS)
def F_need_symmetry : SE := defF 1 B_need_symmetry
theorem r_need_symmetry {x0_ : B} : F_need_symmetry [x0_] = Rs.bind (B_need_symmetry [x0_]) (retF 1) := rfl
def B_is_square : SS := (retS (andV (op1 (isiD "tuple") (fV 0)) (andV (op2 eqD (opN lenD (aCons (fV 0) aNil)) (fC (.int 2))) (opN allD (aCons (lcE (seqI bothK (fV 0)) (nmG 1) yesB (callF [false] F_is_integer [] (aCons (fV 1) aNil)) [1]) aNil)))))
def F_is_square : SE := defF 2 B_is_square
theorem r_is_square {x0_ : B} : F_is_square [x0_] = Rs.bind (B_is_square [x0_, .un]) (retF 1) := rfl
def B_need_square : SS := (ifS (notB (fB (callF [false] F_is_square [] (aCons (fV 0) aNil)))) (exS_ "SquareError") nxS)
def F_need_square : SE := defF 1 B_need_square
theorem r_need_square {x0_ : B} : F_need_square [x0_] = Rs.bind (B_need_square [x0_]) (retF 1) := rfl
def B_added : SS := (retS (tupE (aCons (op2 addD (op2 ixD (fV 0) (fC (.int 0))) (op2 mulD (fV 2) (op2 ixD (fV 1) (fC (.int 0))))) (aCons (op2 addD (op2 ixD (fV 0) (fC (.int 1))) (op2 mulD (fV 2) (op2 ixD (fV 1) (fC (.int 1))))) aNil))))
def F_added : SE := defF 3 B_added
theorem r_added {x0_ x1_ x2_ : B} : F_added [x0_, x1_, x2_] = Rs.bind (B_added [x0_, x1_, x2_]) (retF 3) := rfl
def B_turned : SS := (seqS (asgG (tupG 4 (consG (nmG 2) (consG (nmG 3) (consG (nmG 4) (consG (nmG 5) nilG))))) (op2 ixD (fC c_LINEAR) (fV 0))) (retS (tupE (aCons (op2 addD (op2 mulD (fV 2) (op2 ixD (fV 1) (fC (.int 0)))) (op2 mulD (fV 3) (op2 ixD (fV 1) (fC (.int 1))))) (aCons (op2 addD (op2 mulD (fV 4) (op2 ixD (fV 1) (fC (.int 0)))) (op2 mulD (fV 5) (op2 ixD (fV 1) (fC (.int 1))))) aNil)))))
def F_turned : SE := defF 6 B_turned
def B_offset : SS := (retS (slE (fV 0) (some (fC (.int 1))) none))
def F_offset : SE := defF 1 B_offset
def B_image_of : SS := (retS (callF [false, false] F_added [B.val (.int (1))] (aCons (callF [false, false] F_turned [] (aCons (op2 ixD (fV 0) (fC (.int 0))) (aCons (fV 1) aNil))) (aCons (callF [false] F_offset [] (aCons (fV 0) aNil)) aNil))))
def F_image_of : SE := defF 2 B_image_of
theorem r_image_of {x0_ x1_ : B} : F_image_of [x0_, x1_] = Rs.bind (B_image_of [x0_, x1_]) (retF 2) := rfl
def B_image : SS := (seqS (dropS (callF [false] F_need_symmetry [] (aCons (fV 0) aNil))) (seqS (dropS (callF [false] F_need_square [] (aCons (fV 1) aNil))) (retS (callF [false, false] F_image_of [] (aCons (fV 0) (aCons (fV 1) aNil))))))
def F_image : SE := defF 2 B_image
theorem r_image {x0_ x1_ : B} : F_image [x0_, x1_] = Rs.bind (B_image [x0_, x1_]) (retF 2) := rfl
def B_kind_after : SS := (seqS (asgG (tupG 2 (consG (nmG 2) (consG (nmG 3) nilG))) (callF [false, false] F_turned [] (aCons (fV 1) (aCons (callF [false, false] F_turned [] (aCons (fV 0) (aCons (tupE (aCons (fC (.int 1)) (aCons (fC (.int 0)) aNil))) aNil))) aNil)))) (seqS (asgG (tupG 2 (consG (nmG 4) (consG (nmG 5) nilG))) (callF [false, false] F_turned [] (aCons (fV 1) (aCons (callF [false, false] F_turned [] (aCons (fV 0) (aCons (tupE (aCons (fC (.int 0)) (aCons (fC (.int 1)) aNil))) aNil))) aNil)))) (retS (idxK c_LINEAR (aCons (tupE (aCons (fV 2) (aCons (fV 4) (aCons (fV 3) (aCons (fV 5) aNil))))) aNil)))))
def F_kind_after : SE := defF 6 B_kind_after
def B_product_of : SS := (retS (op2 addD (tupE (aCons (callF [false, false] F_kind_after [] (aCons (op2 ixD (fV 0) (fC (.int 0))) (aCons (op2 ixD (fV 1) (fC (.int 0))) aNil))) aNil)) (callF [false, false] F_image_of [] (aCons (fV 1) (aCons (callF [false] F_offset [] (aCons (fV 0) aNil)) aNil)))))
def F_product_of : SE := defF 2 B_product_of
theorem r_product_of {x0_ x1_ : B} : F_product_of [x0_, x1_] = Rs.bind (B_product_of [x0_, x1_]) (retF 2) := rfl
def B_product : SS := (seqS (dropS (callF [false] F_need_symmetry [] (aCons (fV 0) aNil))) (seqS (dropS (callF [false] F_need_symmetry [] (aCons (fV 1) aNil))) (retS (callF [false, false] F_product_of [] (aCons (fV 0) (aCons (fV 1) aNil))))))
def F_product : SE := defF 2 B_product
theorem r_product {x0_ x1_ : B} : F_product [x0_, x1_] = Rs.bind (B_product [x0_, x1_]) (retF 2) := rfl
def B_inverse_of : SS := (seqS (asgS 1 (op2 ixD (lcE (rng1I (aCons (fC c_KINDS) aNil)) (nmG 1) (fB (op2 eqD (callF [false, false] F_kind_after [] (aCons (op2 ixD (fV 0) (fC (.int 0))) (aCons (fV 1) aNil))) (fC c_SHIFT))) (fV 1) [1]) (fC (.int 0)))) (seqS (asgG (tupG 2 (consG (nmG 2) (consG (nmG 3) nilG))) (callF [false, false] F_turned [] (aCons (fV 1) (aCons (callF [false] F_offset [] (aCons (fV 0) aNil)) aNil)))) (retS (tupE (aCons (fV 1) (aCons (op2 subD (fC (.int 0)) (fV 2)) (aCons (op2 subD (fC (.int 0)) (fV 3)) aNil)))))))
def F_inverse_of : SE := defF 4 B_inverse_of
def B_inverse : SS := (seqS (dropS (callF [false] F_need_symmetry [] (aCons (fV 0) aNil))) (retS (callF [false] F_inverse_of [] (aCons (fV 0) aNil))))
def F_inverse : SE := defF 1 B_inverse
theorem r_inverse {x0_ : B} : F_inverse [x0_] = Rs.bind (B_inverse [x0_]) (retF 1) := rfl
def L1_repeated : SS := (asgS 2 (callF [false, false] F_product_of [] (aCons (fV 2) (aCons (fV 0) aNil))))
def B_repeated : SS := (seqS (asgS 2 (fC c_IDENTITY)) (seqS (forS (rng1I (aCons (fV 1) aNil)) (nmG 3) L1_repeated) (retS (fV 2))))
def F_repeated : SE := defF 4 B_repeated
theorem r_repeated {x0_ x1_ : B} : F_repeated [x0_, x1_] = Rs.bind (B_repeated [x0_, x1_, .un, .un]) (retF 2) := rfl
def B_power_of : SS := (seqS (ifS (fB (op2 inG (op2 ixD (fV 0) (fC (.int 0))) (fC c_TURNS))) (retS (callF [false, false] F_repeated [] (aCons (fV 0) (aCons (op2 modD (fV 1) (fC (.int 4))) aNil)))) nxS) (seqS (asgS 2 (callF [false] F_offset [] (aCons (callF [false, false] F_repeated [] (aCons (fV 0) (aCons (fC (.int 2)) aNil))) aNil))) (seqS (asgS 3 (op2 addD (tupE (aCons (fC c_SHIFT) aNil)) (callF [false, false, false] F_added [] (aCons (tupE (aCons (fC (.int 0)) (aCons (fC (.int 0)) aNil))) (aCons (fV 2) (aCons (op2 fdivD (fV 1) (fC (.int 2))) aNil)))))) (retS (ifE (fB (op2 eqD (op2 modD (fV 1) (fC (.int 2))) (fC (.int 1)))) (callF [false, false] F_product_of [] (aCons (fV 3) (aCons (fV 0) aNil))) (fV 3))))))
def F_power_of : SE := defF 4 B_power_of
theorem r_power_of {x0_ x1_ : B} : F_power_of [x0_, x1_] = Rs.bind (B_power_of [x0_, x1_, .un, .un]) (retF 2) := rfl
def B_power : SS := (seqS (dropS (callF [false] F_need_symmetry [] (aCons (fV 0) aNil))) (seqS (ifS (notB (fB (callF [false] F_is_integer [] (aCons (fV 1) aNil)))) (exS_ "NumberError") nxS) (retS (callF [false, false] F_power_of [] (aCons (fV 0) (aCons (fV 1) aNil))))))
def F_power : SE := defF 2 B_power
theorem r_power {x0_ x1_ : B} : F_power [x0_, x1_] = Rs.bind (B_power [x0_, x1_]) (retF 2) := rfl
end M
namespace M
open PySem PySem.Spec PyProof.Rows L2 G
end M
namespace M
open PySem PySem.Spec PyProof.Rows L2 G
end M
/-! a def that calls itself: the bottom; x == () of any tuple -/
namespace G
open PySem PySem.Spec PyProof.Rows L2
/-! ### x == () -/
/-! ### t * k of a tuple -/
end G
namespace G
open PySem PySem.Spec PyProof.Rows L2
/-! a comprehension over a slot's own list, which stays the slot's own -/
end G
namespace M
open PySem PySem.Spec PyProof.Rows L2 G
end M
namespace M
open PySem PySem.Spec PyProof.Rows L2 G
end M
namespace M
open PySem PySem.Spec PyProof.Rows L2 G
end M
namespace M
open PySem PySem.Spec PyProof.Rows L2 G
def B__law_error_marks : SS := (seqS (asgS 1 (lstE (aCons (isxE 0 (isN "SquareError")) (aCons (isxE 0 (isN "SymmetryError")) (aCons (isxE 0 (isN "GeneratorsError")) aNil))))) (seqS (asgS 1 (op2 addD (fV 1) (lstE (aCons (isxE 0 (isN "NumberError")) (aCons (isxE 0 (isN "ProgramError")) aNil))))) (seqS (asgS 1 (op2 addD (fV 1) (lstE (aCons (isxE 0 (isN "DescriptionError")) (aCons (isxE 0 (isN "ContainmentError")) aNil))))) (seqS (asgS 1 (op2 addD (fV 1) (lstE (aCons (isxE 0 (isN "PatternError")) (aCons (isxE 0 (isN "CompatibilityError")) aNil))))) (seqS (asgS 1 (op2 addD (fV 1) (lstE (aCons (isxE 0 (isN "UndoError")) (aCons (isxE 0 (isN "ParseError")) (aCons (isxE 0 (isN "CommandError")) aNil)))))) (retS (op2 addD (fV 1) (lstE (aCons (isxE 0 (isN "LimitError")) aNil)))))))))
def F__law_error_marks : SE := defF 2 B__law_error_marks
def B__law_error_name : SS := (seqS (asgS 1 (callF [true] F__law_error_marks [] (aCons (fV 0) aNil))) (seqS (ifS (orB (fB (op2 neD (lmE countD (fV 1) (fC (.bool true))) (fC (.int 1)))) (notB (fB (isxE 0 isAll)))) (retS (fC (.str "other"))) nxS) (seqS (asgS 2 (lstE (aCons (fC (.str "square")) (aCons (fC (.str "symmetry")) (aCons (fC (.str "generators")) (aCons (fC (.str "number")) (aCons (fC (.str "program")) (aCons (fC (.str "description")) (aCons (fC (.str "containment")) (aCons (fC (.str "pattern")) aNil)))))))))) (retS (op2 ixD (op2 addD (fV 2) (lstE (aCons (fC (.str "compatibility")) (aCons (fC (.str "undo")) (aCons (fC (.str "parse")) (aCons (fC (.str "command")) (aCons (fC (.str "limit")) aNil))))))) (lmE indexLD (fV 1) (fC (.bool true))))))))
def F__law_error_name : SE := defF 3 B__law_error_name
end M
namespace G
open PySem PySem.Spec PyProof.Rows L2
/-! ### try: .. except ..: a body that nothing leaves as an exception -/
/-! ### xs.pop(i) -/
end G
namespace M
open PySem PySem.Spec PyProof.Rows L2 G
end M
/-! == and != where a dict stands against an int, and of any items against () and [] -/
namespace G
open PySem PySem.Spec PyProof.Rows L2
open AutoSeq1 (wpAny_loadPart')
/-! ### a dict and an int -/
/-! ### a dict against an int, within tuples -/
/-! ### the operators -/
end G
namespace M
open PySem PySem.Spec PyProof.Rows L2 G
end M
set_option maxHeartbeats 2000000
namespace G
open PySem PySem.Spec PyProof.Rows L2
/-! ### f'..' of texts and ints -/
/-! ### methods of a text with one argument -/
end G
namespace M
open PySem PySem.Spec PyProof.Rows L2 G
end M
namespace M
open PySem PySem.Spec PyProof.Rows L2 G
end M
set_option maxHeartbeats 2000000
/-! an exception class with an own __init__: X(amount, limit); err.amount in an except suite -/
namespace G
open PySem PySem.Spec PyProof.Rows L2
section
variable {X : Cx} {o o2 e a b : Expr} {es : List Expr} {to to2 : TE} {ta : TA} {f f1 f2 : Str} {p p' p1 p2 pos pt pt2 : Pos}
/-- Base.__init__(self, ..), Base an own class that has ValueError's -/
theorem pe_ownveinit {y : Str} {D : Addr} {pl : Sem Bool} (hg : Gl X y) (hm : X.mg y = some (.ref D)) (hsp : PySem.W.specialIn X.K (.ref D) "__getattribute__" = some (some (.builtin "type.__getattribute__")))
    (hr : PySem.W.readsIn X.K D (.type "type") = true) (vV : PySem.W.findCls X.K (.ref D) (.type "type") "__init__" = some (.val (.builtin "ValueError.__init__"))) (ha : PA X (e :: es) ta)
    (hc : eval (.Call (.Attribute (.Name y p1) "__init__" p2) (e :: es) [] pos) X.env = (do
      let ov ← eval (.Name y p1) X.env
      standAt p2.atName
      let (f, first) ← holding [ov] (getMethod ov "__init__" pl)
      callWith pos f first (backTo pos (starEach (e :: es) X.env)) (backToKw pos (keywordEach [] X.env))) := by rfl)
    (hdb : (y == ("__debug__" : Str)) = false := by decide) (he : starEach (e :: es) X.env = (false, eval e X.env) :: starEach es X.env := by rfl) (hpl : (backTo pos (starEach es X.env)).any (·.1) = false := by rfl) :
    PE X (.Call (.Attribute (.Name y p1) "__init__" p2) (e :: es) [] pos) (tVeI X.K ta) := by
  refine ⟨fun pins s σ H Q I h => ?_⟩
  refine PySem.W.methodCall_KW (ld_glob I hg hm ?_ hdb) hc
  refine PySem.W.method_cls I.kIn hsp (PySem.W.cls_value I.kIn hr vV (by decide +kernel) ?_)
  show wpAny _ _ (callWith pos (Value.builtin "ValueError.__init__") [] (backTo pos (starEach (e :: es) X.env)) []) _ _ _
  refine PyProof.Rows.callWith_method1 (thn (ha.run pos pins _ σ H _ (I.tok _) h) fun us s1 ⟨vs, H1, I1, r1, a, C, ws, ev, hl, T, ea, q⟩ => ?_) he hpl
  subst ev
  cases r1 with
  | @cons _ u0 _ ur ra rw' =>
    obtain rfl : u0 = Value.ref a := ra
    have hlen : ur.length ≤ sizeLine := by
      rw [← Paired.length rw', sizeLine_eq]
      omega
    exact oinit_ok T I1 ea hlen fun s' J => ⟨.non, H1, J, rfl, q⟩
theorem wpAny_asAttr {M : Model} {A : Around} {E : Value → Shared → Prop} {s : Shared} {env : Env} {attr : Str} {v : Value} {Q : Unit → Shared → Prop}
    (h : wpAny M A (eval o env) (fun ov s₂ => wpAny M A (setAttr ov attr v) (fun _ => Q ()) E s₂) E s) : wpAny M A (assign (.Attribute o attr p') env v) Q E s := fun Γ q hΓ => by
  simp only [assign_Attribute, Sem.wp_bind', Sem.wp_holding, Sem.wp_cmd_standAt, Sem.wp_release, Sem.wp_pure']
  exact Sem.wp_mono M Γ _ (fun ov _ s₂ h₂ => h₂ Γ _ hΓ) (fun _ _ _ h' => h') _ _ (h Γ _ hΓ)
/-- x.f = y -/
def StR (K : PySem.W.Frag) (f : Str) (y x : V) (H : Hp) (Qn : Hp → Prop) : Prop := ∃ a C : Addr, x = .ref a ∧ OexC K C ∧ PySem.W.findIn K (.ref C) f = some none ∧
  ((H a = some (exo a C none) ∧ ∀ dx, H dx = none → dx ≠ a → Qn (upd (upd H dx (exd dx [(f, y)])) a (exo a C (some dx)))) ∨
    ∃ (dx : Addr) (fs : List (Str × V)), H a = some (exo a C (some dx)) ∧ H dx = some (exd dx fs) ∧ fs.length ≤ 900 ∧ Qn (upd H dx (exd dx ((f, y) :: fs))))
theorem as_attr {pins : List (Addr × Obj)} {s : Shared} {σ : St} {H : Hp} {Q : Unit → Shared → Prop} {Qn : Hp → Prop} {y : V} {u : Value} (ho : PE X o to) (I : Inv X pins σ H s) (ry : RelV y u) (h : to σ H fun x H2 => StR X.K f y x H2 Qn)
    (hQ : ∀ H' s', Inv X pins σ H' s' → Qn H' → Q () s') : wpAny (model X.prog X.w) X.A (assign (.Attribute o f p') X.env u) Q X.xe s := by
  refine wpAny_asAttr (thn (ho.run pins s σ H _ I h) fun v s2 ⟨x, H2, I2, r2, a, C, ex, T, hno, q⟩ => ?_)
  subst ex
  obtain rfl : v = Value.ref a := r2
  rcases q with ⟨ea, q⟩ | ⟨dx, fs, ea, ed, hl, q⟩
  · exact ost_new T I2 ea hno ry fun dx s' n ne J => hQ _ _ J (q dx n ne)
  · exact ost_old T I2 ea ed hl hno ry fun s' J => hQ _ _ J q
def tAt2 (K : PySem.W.Frag) (f1 f2 : Str) (to to2 : TE) (ta : TA) : TS := fun D σ H => ta σ H fun vs H1 => ∃ v w, vs = [v, w] ∧ to σ H1 fun x H2 => StR K f1 v x H2 fun H3 => to2 σ H3 fun x' H4 => StR K f2 w x' H4 fun H5 => D.nx σ H5
/-- o.f1, o2.f2 = a, b -/
theorem ps_attr2 {kt k2} (hc : X.calm = true) (ha : PA X [a, b] ta) (h1 : PE X o to) (h2 : PE X o2 to2)
    (hs : swapsWithSole [.Tuple [.Attribute o f1 p1, .Attribute o2 f2 p2] kt pt] (.Tuple [a, b] k2 pt2) pos.line X.env = pure false := by rfl)
    (hw : swappedStores [.Tuple [.Attribute o f1 p1, .Attribute o2 f2 p2] kt pt] (.Tuple [a, b] k2 pt2) X.env = pure none := by rfl) :
    PS X (.Assign [.Tuple [.Attribute o f1 p1, .Attribute o2 f2 p2] kt pt] (.Tuple [a, b] k2 pt2) pos) (tAt2 X.K f1 f2 to to2 ta) := by
  refine ⟨fun pins s σ H D I h => ?_⟩
  refine PyProof.Rows.Assign_Tuple (Tuple_ (thn (ha.run _ pins s σ H _ I h) fun us s1 ⟨vs, H1, I1, r1, q1⟩ => ?_)) hs hw
  obtain ⟨v, w, e1, q1⟩ := q1
  subst e1
  obtain ⟨u1, u2, rfl, rv, rw'⟩ : ∃ u1 u2, us = [u1, u2] ∧ RelV v u1 ∧ RelV w u2 := by
    cases r1 with
    | cons p q =>
      cases q with
      | cons p' q' =>
        cases q'
        exact ⟨_, _, rfl, p, p'⟩
  refine wpAny_newObj_type ?_ (by show 2 ≤ sizeLine; decide)
  have I2 : Inv X pins σ H1 { s1 with heap := s1.heap.push { cls := .type "tuple", data := .seq [u1, u2].toArray } } := I1.kept (t' := s1.toks) fun b o e => Heap.get?_push_of_some _ e
  refine PyProof.Rows.assign_Tuple_tuple (items := #[u1, u2]) (I.ok.hd hc) (IsTup.new s1.heap _) rfl rfl fun h' hx' => ?_
  have I3 := I2.kept (h' := h') (t' := s1.toks) fun b o e => hx' b o (Nat.ne_of_lt (Heap.lt_size e)) e
  show wpAny _ _ (assignInOrder [assign (.Attribute o f1 p1) X.env, assign (.Attribute o2 f2 p2) X.env] [u1, u2]) _ _ _
  refine assignInOrder_cons (as_attr h1 I3 rv q1 fun H3 s3 I4 q3 => ?_)
  refine assignInOrder_cons (as_attr h2 I4 rw' q3 fun H5 s5 I6 q5 => assignInOrder_nil ?_)
  exact ⟨_, H5, I6, q5⟩
theorem no_swap {kt k2} (env : Env) : swappedStores [.Tuple [.Attribute o f1 p1, .Attribute o2 f2 p2] kt pt] (.Tuple [a, b] k2 pt2) env = pure none := by
  unfold swappedStores
  simp only [List.length_cons, List.length_nil, List.filterMap_cons, List.filterMap_nil]
  split
  · rfl
  · split <;> rfl
end
/-- X(amount, limit) as X.__init__ keeps it -/
def spLim (K : PySem.W.Frag) : Sp := fun vs H Q _ => ∃ (a C : Addr) (v w : V), vs = [.ref a, v, w] ∧ OexC K C ∧ PySem.W.findIn K (.ref C) "amount" = some none ∧ PySem.W.findIn K (.ref C) "limit" = some none ∧ H a = some (exo a C none) ∧
  ∀ dx, H dx = none → dx ≠ a → Q .non (upd (upd (upd H dx (exd dx [("amount", v)])) a (exo a C (some dx))) dx (exd dx [("limit", w), ("amount", v)]))
/-- what must be known of the base class -/
structure BasC (K : PySem.W.Frag) (mg : Str → Option Value) (y : Str) (D : Addr) : Prop where
  at_ : mg y = some (.ref D)
  sp : PySem.W.specialIn K (.ref D) "__getattribute__" = some (some (.builtin "type.__getattribute__"))
  rd : PySem.W.readsIn K D (.type "type") = true
  fd : PySem.W.findCls K (.ref D) (.type "type") "__init__" = some (.val (.builtin "ValueError.__init__"))
section
variable {P : Program} {w : World} {K : PySem.W.Frag} {mg : Str → Option Value} {base : Heap}
theorem limF {dV : Value} {x qual y m : Str} {st : Stmt} {f D : Addr} {fd : FuncData} {k j : Nat} {kt k2} {p1 p2 p3 p4 p5 p6 q1 q2 q3 q4 q5 q6 pt pt2 pos : Pos} (F : FnEx K dV x qual st f fd) (S : FnScope ["self", "amount", "limit"] ["self", "amount", "limit"] (defScope st)) (B : BasC K mg y D)
    (eb : L2.defBody st = [.Expr (.Call (.Attribute (.Name y p1) "__init__" p2) [.Name "self" p3, .Constant (.str m) j p4] [] p5) p6,
      .Assign [.Tuple [.Attribute (.Name "self" q1) "amount" q2, .Attribute (.Name "self" q3) "limit" q4] kt pt] (.Tuple [.Name "amount" q5, .Name "limit" q6] k2 pt2) pos])
    {pl : Addr → Addr → Value → Sem Bool} (hc : ∀ (n f : Addr) (cdv : Value), eval (.Call (.Attribute (.Name y p1) "__init__" p2) [.Name "self" p3, .Constant (.str m) j p4] [] p5) (envOfC qual (defScope st) n f cdv) = (do
      let ov ← eval (.Name y p1) (envOfC qual (defScope st) n f cdv)
      standAt p2.atName
      let (f', first) ← holding [ov] (getMethod ov "__init__" (pl n f cdv))
      callWith p5 f' first (backTo p5 (starEach [.Name "self" p3, .Constant (.str m) j p4] (envOfC qual (defScope st) n f cdv))) (backToKw p5 (keywordEach [] (envOfC qual (defScope st) n f cdv)))))
    (v1 : Vis (defScope st) "self") (v2 : Vis (defScope st) "amount") (v3 : Vis (defScope st) "limit") (hg : (defScope st).names.lookup y = some NameKind.globalImplicit) (hdb : (y == ("__debug__" : Str)) = false) :
    FnOk P w K mg base (L2.CX P w) (k + 1) f fd ["self", "amount", "limit"] (spLim K) := by
  obtain ⟨oc, od, kV, doc, pm, an, cdv, ct, osl, rfl, lk, hcd⟩ := F
  refine fn_of lk hcd S (fun vs H Q E ⟨a, C, v, w, e, _⟩ => by rw [e]; rfl) fun A outer s H vs Q E hr hsp => ?_
  rw [eb]
  obtain ⟨a, C, v, w', rfl, T, n1, n2, ea, q⟩ := hsp
  have x0 := fun p => pe_var (X := cxOf (L2.CX P w) P w K mg base ["self", "amount", "limit"] qual (defScope st) f cdv A outer s H E) (i := 0) (x := "self") (pos := p) rfl v1
  have x1 := fun p => pe_var (X := cxOf (L2.CX P w) P w K mg base ["self", "amount", "limit"] qual (defScope st) f cdv A outer s H E) (i := 1) (x := "amount") (pos := p) rfl v2
  have x2 := fun p => pe_var (X := cxOf (L2.CX P w) P w K mg base ["self", "amount", "limit"] qual (defScope st) f cdv A outer s H E) (i := 2) (x := "limit") (pos := p) rfl v3
  refine ⟨_, pss_cons (ps_expr (pe_ownveinit hg B.at_ B.sp B.rd B.fd (pa_cons (x0 _) (pa_cons pe_str pa_nil)) (hc _ _ _) hdb)) (pss_one (ps_attr2 rfl (pa_cons (x1 _) (pa_cons (x2 _) pa_nil)) (x0 _) (x0 _) rfl (no_swap _))), ?_⟩
  refine ⟨_, rfl, a, C, [.str m], rfl, (by show 1 ≤ 1000; decide), T, ea, ?_⟩
  refine ⟨_, rfl, _, rfl, v, w', rfl, _, rfl, a, C, rfl, T, n1, .inl ⟨ea, fun dx hd ne => ?_⟩⟩
  refine ⟨_, rfl, a, C, rfl, T, n2, .inr ⟨dx, [("amount", v)], upd_same, ?_, (by show 1 ≤ 900; decide), q dx hd ne⟩⟩
  rw [upd_ne ne]
  exact upd_same
end
/-- the class at C, its __init__ -/
structure LimD (P : Program) (w : World) (K : PySem.W.Frag) (mg : Str → Option Value) (base : Heap) (k : Nat) (x : Str) : Prop where
  ex : ∃ (C fI : Addr) (fd : FuncData), FnOk P w K mg base (L2.CX P w) k fI fd ["self", "amount", "limit"] (spLim K) ∧ PySem.W.findIn K (.ref C) "__init__" = some (some (.ref fI)) ∧ PySem.W.typeIn K (.ref fI) = some (.type "function") ∧
    OexC K C ∧ PySem.W.findIn K (.ref C) "amount" = some none ∧ PySem.W.findIn K (.ref C) "limit" = some none ∧ mg x = some (.ref C) ∧ Binds K fd ["self", "amount", "limit"] []
/-! ### raise X(a, b) -/
/-! ### err.f -/
def XfOk (K : PySem.W.Frag) (es : List (Str × Addr)) (f : Str) : Prop := ∀ p ∈ es, XfC K p.2 ∧ PySem.W.findIn K (.ref p.2) f = some none
/-! ### the end -/
def oexB (K : PySem.W.Frag) (C : Addr) : Bool := match K.lookup C with
  | some ⟨.type "type", _, .cls cd, sl⟩ => (match cd.mro, sl.toList with
    | .ref C' :: bm, [_, _, _, _, some (.builtin n), _] => C' == C && n == "ValueError.__new__" && !cd.hasDel && cd.hasDict && PySem.HandSPX.refsVE bm
    | _, _ => false)
  | _ => false
theorem oexB_ok {K : PySem.W.Frag} {C : Addr} (q : oexB K C = true) : ∃ nm q N bs bm sn sub ab col dd k0 k1 k2 k3 k5, K.lookup C = some (excClassObj nm q C N bs bm true sn sub ab col dd k0 k1 k2 k3 k5 "ValueError.__new__") ∧ PySem.HandSPX.refsVE bm = true := by
  unfold oexB at q
  split at q
  · rename_i dd cd sl ho
    split at q
    · rename_i C' bm k0 k1 k2 k3 n k5 hm hs
      simp only [Bool.and_eq_true, beq_iff_eq, Bool.not_eq_true'] at q
      obtain ⟨⟨⟨⟨rfl, rfl⟩, hdel⟩, hd⟩, ht⟩ := q
      obtain ⟨nm, bs, mro, ns, qn, hd', sn, sub, ab, col, del⟩ := cd
      dsimp only at hm hdel hd
      subst hm hdel hd
      have hsl : sl = #[k0, k1, k2, k3, some (.builtin "ValueError.__new__"), k5] := by
        obtain ⟨l⟩ := sl
        simp only at hs
        rw [hs]
      subst hsl
      exact ⟨nm, qn, ns, bs, bm, sn, sub, ab, col, dd, k0, k1, k2, k3, k5, ho, ht⟩
    · cases q
  · cases q
def limCB (K : PySem.W.Frag) (C : Addr) : Bool := oexB K C && PySem.W.findIn K (.ref C) "__setattr__" == some (some (.builtin "object.__setattr__")) && PySem.W.subIn K (.ref C) (.type "BaseException") == some true && PySem.W.typeIn K (.ref C) == some (.type "type") && PySem.W.keepIn K (.ref C) &&
  PySem.W.findIn K (.ref C) "amount" == some none && PySem.W.findIn K (.ref C) "limit" == some none
theorem xf_end {K : PySem.W.Frag} {es : List (Str × Addr)} {f : Str} (h0 : (es.all fun p => excCB K p.2) = true) (h : (es.all fun p => PySem.W.findIn K (.ref p.2) f == some none) = true) : XfOk K es f := fun p hp => by
  have c := excC_of (List.all_eq_true.mp h0 p hp)
  exact ⟨⟨c.hg, c.hk, c.hs, c.hd⟩, beq_iff_eq.mp (List.all_eq_true.mp h p hp)⟩
end G
set_option maxHeartbeats 2000000
/-! [e for .. in .. if .. for .. in .. if ..] -/
namespace G
open PySem PySem.Spec PyProof.Rows L2
end G
namespace M
open PySem PySem.Spec PyProof.Rows L2 G
def said_nsL : List Str := ["SquareError", "SymmetryError", "GeneratorsError", "NumberError", "ProgramError", "DescriptionError", "ContainmentError", "PatternError", "CompatibilityError", "UndoError", "ParseError", "CommandError", "LimitError"]
def B__law_cell_2 : SS := (seqS (ifS (fB (op2 (cmpI fun i j => decide (i < j)) (fV 1) (opN lenD (aCons (fV 0) aNil)))) (retS (op2 ixD (fV 0) (fV 1))) nxS) (retS (fC (.int 0))))
def F__law_cell_2 : SE := defF 2 B__law_cell_2
theorem r__law_cell_2 {x0_ x1_ : B} : F__law_cell_2 [x0_, x1_] = Rs.bind (B__law_cell_2 [x0_, x1_]) (retF 2) := rfl
def B__law_images_are_right : SS := (seqS (asgS 1 (tupE (aCons (op2 addD (fV 0) (fC (.int 3))) (aCons (fC (.int 1)) aNil)))) (seqS (asgS 2 (lstE (aCons (tupE (aCons (op2 addD (fV 0) (fC (.int 3))) (aCons (fC (.int 1)) aNil))) (aCons (tupE (aCons (op1 negD (fC (.int 1))) (aCons (op2 addD (fV 0) (fC (.int 3))) aNil))) (aCons (tupE (aCons (op2 subD (op2 subD (fC (.int 0)) (fV 0)) (fC (.int 3))) (aCons (op1 negD (fC (.int 1))) aNil))) (aCons (tupE (aCons (fC (.int 1)) (aCons (op2 subD (op2 subD (fC (.int 0)) (fV 0)) (fC (.int 3))) aNil))) (aCons (tupE (aCons (op2 subD (op2 subD (fC (.int 0)) (fV 0)) (fC (.int 3))) (aCons (fC (.int 1)) aNil))) (aCons (tupE (aCons (op1 negD (fC (.int 1))) (aCons (op2 subD (op2 subD (fC (.int 0)) (fV 0)) (fC (.int 3))) aNil))) aNil)))))))) (seqS (asgS 2 (op2 addD (fV 2) (lstE (aCons (tupE (aCons (op2 addD (fV 0) (fC (.int 3))) (aCons (op1 negD (fC (.int 1))) aNil))) (aCons (tupE (aCons (fC (.int 1)) (aCons (op2 addD (fV 0) (fC (.int 3))) aNil))) aNil))))) (seqS (ifS (fB (op2 neD (lcE (rng1I (aCons (fC (.int 8)) aNil)) (nmG 3) yesB (callF [false, false] F_image [] (aCons (tupE (aCons (fV 3) (aCons (fC (.int 0)) (aCons (fC (.int 0)) aNil)))) (aCons (fV 1) aNil))) [3]) (fV 2))) (retS (fC (.bool false))) nxS) (retS (op2 eqD (callF [false, false] F_image [] (permA 2 [1, 0] (aCons (tupE (aCons (fC (.int 3)) (aCons (fC (.int 1)) aNil))) (aCons (tupE (aCons (fC (.int 1)) (aCons (fC (.int 2)) (aCons (fV 0) aNil)))) aNil)))) (tupE (aCons (fC (.int 1)) (aCons (op2 addD (fV 0) (fC (.int 3))) aNil)))))))))
def F__law_images_are_right : SE := defF 4 B__law_images_are_right
theorem r__law_images_are_right {x0_ : B} : F__law_images_are_right [x0_] = Rs.bind (B__law_images_are_right [x0_, .un, .un, .un]) (retF 1) := rfl
def B__law_products_are_right_2 : SS := (seqS (ifS (fB (op2 neD (callF [false, false] F_product [] (permA 2 [1, 0] (aCons (tupE (aCons (fC (.int 0)) (aCons (fC (.int 1)) (aCons (fV 0) aNil)))) (aCons (tupE (aCons (fC (.int 1)) (aCons (fC (.int 0)) (aCons (fC (.int 0)) aNil)))) aNil)))) (tupE (aCons (fC (.int 1)) (aCons (fC (.int 1)) (aCons (fV 0) aNil)))))) (retS (fC (.bool false))) nxS) (seqS (ifS (fB (op2 neD (callF [false, false] F_product [] (aCons (tupE (aCons (fC (.int 0)) (aCons (fC (.int 1)) (aCons (fV 0) aNil)))) (aCons (tupE (aCons (fC (.int 1)) (aCons (fC (.int 0)) (aCons (fC (.int 0)) aNil)))) aNil))) (tupE (aCons (fC (.int 1)) (aCons (op2 subD (fC (.int 0)) (fV 0)) (aCons (fC (.int 1)) aNil)))))) (retS (fC (.bool false))) nxS) (seqS (ifS (orB (fB (op2 neD (callF [false, false] F_product [] (aCons (tupE (aCons (fC (.int 4)) (aCons (fC (.int 3)) (aCons (fC (.int 0)) aNil)))) (aCons (tupE (aCons (fC (.int 7)) (aCons (fC (.int 0)) (aCons (fC (.int 1)) aNil)))) aNil))) (tupE (aCons (fC (.int 3)) (aCons (fC (.int 0)) (aCons (fC (.int 4)) aNil)))))) (fB (op2 neD (callF [false, false] F_product [] (aCons (tupE (aCons (fC (.int 7)) (aCons (fC (.int 0)) (aCons (fC (.int 1)) aNil)))) (aCons (tupE (aCons (fC (.int 4)) (aCons (fC (.int 3)) (aCons (fC (.int 0)) aNil)))) aNil))) (tupE (aCons (fC (.int 1)) (aCons (fC (.int 3)) (aCons (fC (.int 1)) aNil))))))) (retS (fC (.bool false))) nxS) (seqS (ifS (orB (fB (op2 neD (callF [false] F_inverse [] (aCons (tupE (aCons (fC (.int 1)) (aCons (fC (.int 2)) (aCons (fC (.int 0)) aNil)))) aNil)) (tupE (aCons (fC (.int 3)) (aCons (fC (.int 0)) (aCons (fC (.int 2)) aNil)))))) (fB (op2 neD (callF [false] F_inverse [] (aCons (tupE (aCons (fC (.int 7)) (aCons (fC (.int 1)) (aCons (fV 0) aNil)))) aNil)) (tupE (aCons (fC (.int 7)) (aCons (op2 subD (fC (.int 0)) (fV 0)) (aCons (op1 negD (fC (.int 1))) aNil))))))) (retS (fC (.bool false))) nxS) (retS (andV (op2 eqD (callF [false] F_inverse [] (aCons (tupE (aCons (fC (.int 2)) (aCons (fC (.int 5)) (aCons (fV 0) aNil)))) aNil)) (tupE (aCons (fC (.int 2)) (aCons (fC (.int 5)) (aCons (fV 0) aNil))))) (op2 eqD (callF [false] F_inverse [] (aCons (tupE (aCons (fC (.int 0)) (aCons (fC (.int 5)) (aCons (fV 0) aNil)))) aNil)) (tupE (aCons (fC (.int 0)) (aCons (op1 negD (fC (.int 5))) (aCons (op2 subD (fC (.int 0)) (fV 0)) aNil)))))))))))
def F__law_products_are_right_2 : SE := defF 1 B__law_products_are_right_2
theorem r__law_products_are_right_2 {x0_ : B} : F__law_products_are_right_2 [x0_] = Rs.bind (B__law_products_are_right_2 [x0_]) (retF 1) := rfl
def B__law_powers_are_right_2 : SS := (seqS (ifS (orB (fB (op2 neD (callF [false, false] F_power [] (aCons (tupE (aCons (fC (.int 7)) (aCons (fC (.int 1)) (aCons (fC (.int 0)) aNil)))) (aCons (fC (.int 3)) aNil))) (tupE (aCons (fC (.int 7)) (aCons (fC (.int 2)) (aCons (fC (.int 1)) aNil)))))) (fB (op2 neD (callF [false, false] F_power [] (aCons (tupE (aCons (fC (.int 7)) (aCons (fC (.int 1)) (aCons (fC (.int 0)) aNil)))) (aCons (op1 negD (fC (.int 1))) aNil))) (tupE (aCons (fC (.int 7)) (aCons (fC (.int 0)) (aCons (op1 negD (fC (.int 1))) aNil))))))) (retS (fC (.bool false))) nxS) (seqS (ifS (orB (fB (op2 neD (callF [false, false] F_power [] (aCons (tupE (aCons (fC (.int 7)) (aCons (fC (.int 1)) (aCons (fC (.int 0)) aNil)))) (aCons (op2 mulD (fC (.int 2)) (fV 0)) aNil))) (tupE (aCons (fC (.int 0)) (aCons (fV 0) (aCons (fV 0) aNil)))))) (fB (op2 neD (callF [false, false] F_power [] (aCons (tupE (aCons (fC (.int 2)) (aCons (fV 0) (aCons (fC (.int 1)) aNil)))) (aCons (fC (.int 0)) aNil))) (tupE (aCons (fC (.int 0)) (aCons (fC (.int 0)) (aCons (fC (.int 0)) aNil))))))) (retS (fC (.bool false))) nxS) (seqS (ifS (orB (fB (op2 neD (callF [false, false] F_power [] (permA 2 [1, 0] (aCons (op2 addD (op2 powD (fC (.int 10)) (fC (.int 12))) (fC (.int 1))) (aCons (tupE (aCons (fC (.int 1)) (aCons (fC (.int 2)) (aCons (fC (.int 0)) aNil)))) aNil)))) (tupE (aCons (fC (.int 1)) (aCons (fC (.int 2)) (aCons (fC (.int 0)) aNil)))))) (fB (op2 neD (callF [false, false] F_power [] (aCons (tupE (aCons (fC (.int 3)) (aCons (fV 0) (aCons (fC (.int 1)) aNil)))) (aCons (op1 negD (fC (.int 3))) aNil))) (tupE (aCons (fC (.int 3)) (aCons (fV 0) (aCons (fC (.int 1)) aNil))))))) (retS (fC (.bool false))) nxS) (retS (andV (op2 eqD (callF [false, false] F_power [] (aCons (tupE (aCons (fC (.int 0)) (aCons (fC (.int 3)) (aCons (op1 negD (fC (.int 2))) aNil)))) (aCons (op1 negD (fC (.int 4))) aNil))) (tupE (aCons (fC (.int 0)) (aCons (op1 negD (fC (.int 12))) (aCons (fC (.int 8)) aNil))))) (op2 eqD (callF [false, false] F_power [] (aCons (tupE (aCons (fC (.int 4)) (aCons (fC (.int 6)) (aCons (fC (.int 1)) aNil)))) (aCons (fC (.int 5)) aNil))) (tupE (aCons (fC (.int 4)) (aCons (fC (.int 6)) (aCons (fC (.int 5)) aNil))))))))))
def F__law_powers_are_right_2 : SE := defF 1 B__law_powers_are_right_2
theorem r__law_powers_are_right_2 {x0_ : B} : F__law_powers_are_right_2 [x0_] = Rs.bind (B__law_powers_are_right_2 [x0_]) (retF 1) := rfl
end M
set_option maxHeartbeats 2000000
/-! min(xs) and sorted(xs) of any data that are alike; [f, g][i](..) -/
namespace G
open PySem PySem.Spec PyProof.Rows L2
open PySem.W (alike minD dataLe AlikeAll AllAlike Sortable EachIs)
/-! ### min -/
/-! ### sorted -/
/-! ### [f, g][i](..) -/
end G
namespace M
open PySem PySem.Spec PyProof.Rows L2 G
end M
/-! dicts whose keys are tuples of ints, any tuples (constants of a module among them) -/
namespace G
open PySem PySem.Spec PyProof.Rows L2
section
variable {K : PySem.W.Frag} {S : Addr → Prop} {H : Hp}
def KeysX (K : PySem.W.Frag) (H : Hp) (xs : List KX) : Prop := ∀ x ∈ xs, SqT K H x.2.1 (x.1.map V.int)
/-- what is read -/
def RdX (K : PySem.W.Frag) (H : Hp) (a : Addr) (xs : List KX) : Prop := ((∃ c, HasO H a (TX c xs)) ∨ (xs = [] ∧ HasO H a (.dK []))) ∧ KeysX K H xs
/-- what is written -/
def WrX (K : PySem.W.Frag) (H : Hp) (a : Addr) (xs : List KX) : Prop := ((∃ c, H a = some (TX c xs)) ∨ (xs = [] ∧ H a = some (.dK []))) ∧ KeysX K H xs
theorem WrX.rd {a : Addr} {xs : List KX} (h : WrX K H a xs) : RdX K H a xs := by
  obtain ⟨h, k⟩ := h
  rcases h with ⟨c, h⟩ | ⟨e, h⟩
  · exact ⟨.inl ⟨c, .inl h⟩, k⟩
  · exact ⟨.inr ⟨e, .inl h⟩, k⟩
end
section
variable {X : Cx} {pins : List (Addr × Obj)} {σ : St} {H : Hp} {s : Shared} {a b : Addr} {xs : List KX}
abbrev TKX (X : Cx) := tupleKind (intKind X.prog X.w)
theorem txφ_heap (I : Inv X pins σ H s) (h : TXφ a xs s.heap) (k : KeysX X.K H xs) : (a == sysModules) = false ∧ xs.length ≤ sizeLine ∧ s.heap.DictOfH (TKX X) a xs := by
  obtain ⟨h1, h2, h3, o, es, ep, h4, h5, h6, h7⟩ := h
  exact ⟨h1, h2, o, es, ep, h4, h5, h6, h7, fun x hx => I.isT (k x hx), h3⟩
theorem RdX.heap (I : Inv X pins σ H s) (r : RdX X.K H a xs) : (a == sysModules) = false ∧ xs.length ≤ sizeLine ∧ s.heap.DictOfH (TKX X) a xs := by
  obtain ⟨r, k⟩ := r
  rcases r with ⟨c, r⟩ | ⟨rfl, r⟩
  · have ok := hokO I r
    obtain rfl := tx_addr ok
    exact txφ_heap I ok.1 k
  · obtain ⟨_, hs, vs, kv, o, es, ep, ho, hx, hd, _, hp, _⟩ := hokO I r
    cases kv
    have e : es.toList = [] := by
      generalize es.toList = l at hp
      cases hp
      rfl
    exact ⟨hs, Nat.zero_le _, o, es, ep, ho, hx, hd, e, (fun x hx => (nomatch hx)), List.nodup_nil⟩
/-! ### in, not in, d[k] -/
end
end G
namespace G
open PySem PySem.Spec PyProof.Rows L2
/-! ### d[k] = e -/
/-! ### a method of a dict -/
/-! ### len(d) -/
end G
namespace G
open PySem PySem.Spec PyProof.Rows L2
/-! ### {k: v} -/
end G
namespace M
open PySem PySem.Spec PyProof.Rows L2 G
end M
/-! x = [.. for .. for ..] -/
namespace G
open PySem PySem.Spec PyProof.Rows L2
end G
namespace G
open PySem PySem.Spec PyProof.Rows L2
open PySem.Sem (wp)
open PySem.Builtin
/-! ### texts of long ints -/
def DigH (h : Heap) : Prop := ∃ mc, h.Ns cStatics mc ∧ mc "sys.int_max_str_digits" = none
theorem DigH.keeps {h h' : Heap} (d : DigH h) (hk : ∀ b o, h.get? b = some o → h'.get? b = some o) : DigH h' :=
  ⟨d.choose, d.choose_spec.1.keeps hk, d.choose_spec.2⟩
/-! data of long ints -/
mutual
def bigS : PyData → Bool
  | .int i => decide (i.natAbs.log2 < 12900)
  | .list xs => bigSs xs
  | .tuple xs => bigSs xs
  | _ => false
def bigSs : List PyData → Bool
  | [] => true
  | x :: xs => bigS x && bigSs xs
end
mutual
def szB : PyData → Nat
  | .list xs => szBs xs + 4
  | .tuple xs => szBs xs + 4
  | _ => 12901
def szBs : List PyData → Nat
  | [] => 0
  | x :: xs => szB x + 2 + szBs xs
end
section
variable {prog : Program} {w : World} {hp : Heap}
structure OkB (d : PyData) : Prop where
  s : bigS d = true
  z : szB d ≤ sizeLine
structure OkBs (d : List PyData) : Prop where
  s : bigSs d = true
  z : szBs d ≤ sizeLine
theorem OkB.int {i : Int} (h : OkB (.int i)) : i.natAbs.log2 < 12900 := by simpa only [bigS, decide_eq_true_eq] using h.s
theorem OkB.list {xs : List PyData} (h : OkB (.list xs)) : OkBs xs := ⟨by simpa only [bigS] using h.s, by have := h.z; simp only [szB] at this; omega⟩
theorem OkB.tuple {xs : List PyData} (h : OkB (.tuple xs)) : OkBs xs := ⟨by simpa only [bigS] using h.s, by have := h.z; simp only [szB] at this; omega⟩
end
end G
namespace M
open PySem PySem.Spec PyProof.Rows L2 G
end M
/-! how a mirror runs: dicts whose keys are tuples of ints -/
namespace G
open PySem PySem.Spec PyProof.Rows L2
end G
/-! dicts whose keys are tuples of ints: items() walked, update, get of an expression; min of two alike data -/
namespace G
open PySem PySem.Spec PyProof.Rows L2
open PySem.W (AlikeAll minD dataLt alike)
/-! ### min(a, b) -/
/-! ### for .. in d.items() -/
def LkO (o : HO) : Prop := (∃ ks : List (Key × V), o = .dK ks) ∨ ∃ c xs, o = TX c xs
theorem LkO.tb {o : HO} (h : LkO o) : ¬ isTb o := by
  rcases h with ⟨_, rfl⟩ | ⟨_, _, rfl⟩ <;> exact fun z => z
theorem LkO.code {o : HO} (h : LkO o) : ∀ c q, o ≠ LamX.CodeO c q := by
  rcases h with ⟨_, rfl⟩ | ⟨_, _, rfl⟩
  · exact fun _ _ z => nomatch z
  · exact fun _ _ => tx_code
/-! ### d.update(d2) -/
/-! ### e.get(k, x) -/
/-! ### how these run -/
end G
namespace M
open PySem PySem.Spec PyProof.Rows L2 G
end M
/-! list(d) of a dict whose keys are tuples of ints -/
namespace G
open PySem PySem.Spec PyProof.Rows L2
end G
namespace M
open PySem PySem.Spec PyProof.Rows L2 G
end M
set_option maxHeartbeats 2000000
/-! list(e.values()), e a dict whose keys are tuples of ints -/
namespace G
open PySem PySem.Spec PyProof.Rows L2
end G
/-! the table of a set with fewer than 1200 members -/
namespace G
open PySem PySem.Spec PyProof.Rows L2
/-! ### i -> 5 i + 1 meets all -/
def lcgB (m : Nat) : Nat → Nat → Nat → Nat
  | 0, _, acc => acc
  | n + 1, x, acc => lcgB m n ((x * 5 + 1) % (m + 1)) (acc ||| 2 ^ x)
def Msk (m : Nat) : Prop := m = 7 ∨ m = 31 ∨ m = 127 ∨ m = 511 ∨ m = 2047
theorem b7 : lcgB 7 8 0 0 = 2 ^ 8 - 1 := by decide +kernel
/-- a table whose slots are found again from their hashes -/
structure TabN (t : SetTable) (hs : List Int) : Prop where
  ris : Ris t.place.toList
  dm : t.dummies = #[]
  sz : t.place.size = hs.length
  mok : Msk t.mask
  bd : ∀ x ∈ t.place.toList, x ≤ t.mask
  reach : ∀ (i : Nat) (h : Int) (j : Nat), hs[i]? = some h → t.place.toList[i]? = some j → ∃ k, way t.mask h k = j ∧ ∀ k', k' < k → way t.mask h k' ∈ t.place.toList
/-! ### laid anew -/
end G
set_option maxHeartbeats 2000000
/-! sets of tuples that hold ints, texts and such tuples: search, add -/
namespace G
open PySem PySem.Spec PyProof.Rows L2
/-- the tuple at a is the key k -/
def IsN (h : Heap) (k : NestedKey) (a : Addr) : Prop := NestedIs h k (.ref a) ∧ k.depth ≤ 8
section
variable {P : Program} {w : World} {A : Around} {E : Value → Shared → Prop} {s : Shared}
theorem IsN.at {h h' : Heap} {k : NestedKey} {b a : Addr} {o : Obj} {es : Array (Int × Value)} {ep : Nat} {t : SetTable} (hb : IsN h k b) (ho : h.get? a = some o) (hd : o.data = .set es ep t) (hs : Heap.SameBut a h h') : IsN h' k b := by
  refine ⟨NestedIs.at (fun c ob vs n hc hq => (hs.2 c fun e => ?_).trans hc) k _ hb.1, hb.2⟩
  subst e
  rw [ho] at hc
  cases hc
  rw [hd] at hq
  cases hq
theorem IsN.keep {h h' : Heap} {k : NestedKey} {b : Addr} (x : IsN h k b) (hk : ∀ c o, h.get? c = some o → h'.get? c = some o) : IsN h' k b := ⟨NestedIs.at (fun a o vs n e _ => hk a o e) k _ x.1, x.2⟩
theorem IsN.inj {h : Heap} {k k' : NestedKey} {b : Addr} (x : IsN h k b) (y : IsN h k' b) : k = k' := NestedIs.inj _ _ _ x.1 y.1
/-! ### small questions -/
def OfAt (P : Program) (w : World) (n : Nat) (s : Shared) (v : Value) : Prop := ∀ (A : Around) (E : Value → Shared → Prop) (Q : Bool → Shared → Prop), Q false s → wpAny (model P w) A (ofAClassStatement n v) Q E s
theorem OfAt.tuple {n : Nat} {b : Addr} {o : Obj} {vs : Array Value} {m : Nat} (ho : s.heap.get? b = some o) (hc : o.cls = .type "tuple") (hd : o.data = .seq vs m) (hq : ∀ v ∈ vs.toList, OfAt P w n s v) : OfAt P w (n + 1) s (.ref b) := fun A E Q h => by
  have hT : s.TypeIs (.ref b) "tuple" := ⟨o, ho, hc⟩
  unfold ofAClassStatement
  refine wpAny_bind (wpAny_typeOf hT ?_)
  dsimp only
  have e : (("tuple" : String) == "tuple") = true := by decide
  simp only [e, if_true, Bool.not_true, Bool.false_eq_true, if_false]
  try refine wpAny_bind (wpAny_pure ?_)
  try simp only [Bool.not_true, Bool.false_eq_true, if_false]
  show wpAny _ _ (seqItems? (.ref b) >>= _) _ _ s
  refine wpAny_bind (wpAny_seqItems ho hd ?_)
  dsimp only
  refine wpAny_bind ?_
  show wpAny _ _ (forIn vs _ _) _ _ s
  rw [← Array.forIn_toList]
  refine wpAny_forIn_list _ (fun rest r s' => r.1 = none ∧ s' = s ∧ ∀ v ∈ rest, OfAt P w n s v) _ ?_ ?_ _ _ ⟨rfl, rfl, hq⟩
  · rintro v rest r s' ⟨hr, rfl, hall⟩
    refine wpAny_bind (hall v List.mem_cons_self _ _ _ ?_)
    simp only [Bool.false_eq_true, if_false]
    exact wpAny_pure ⟨rfl, rfl, fun u hu' => hall u (List.mem_cons_of_mem _ hu')⟩
  · rintro ⟨r1, r2⟩ s' ⟨hr, rfl, _⟩
    simp only at hr
    subst hr
    exact wpAny_pure h
def HbAt (P : Program) (w : World) (n : Nat) (s : Shared) (v : Value) : Prop := ∀ (A : Around) (E : Value → Shared → Prop) (Q : Bool → Shared → Prop), (∀ b, Q b s) → wpAny (model P w) A (hashByValue n v) Q E s
theorem HbAt.tuple {n : Nat} {b : Addr} {o : Obj} {vs : Array Value} {m : Nat} (ho : s.heap.get? b = some o) (hc : o.cls = .type "tuple") (hd : o.data = .seq vs m) (hq : ∀ v ∈ vs.toList, HbAt P w n s v) : HbAt P w (n + 1) s (.ref b) := fun A E Q h => by
  have hT : s.TypeIs (.ref b) "tuple" := ⟨o, ho, hc⟩
  unfold hashByValue
  refine wpAny_bind (wpAny_specialOf hT F.slot_tuple_hash.lookup ?_)
  show wpAny _ _ (seqItems? (.ref b) >>= _) _ _ s
  refine wpAny_bind (wpAny_seqItems ho hd ?_)
  refine wpAny_bind ?_
  show wpAny _ _ (forIn vs _ _) _ _ s
  rw [← Array.forIn_toList]
  refine wpAny_forIn_list _ (fun rest r s' => r.1 = none ∧ s' = s ∧ ∀ v ∈ rest, HbAt P w n s v) _ ?_ ?_ _ _ ⟨rfl, rfl, hq⟩
  · rintro v rest r s' ⟨hr, rfl, hall⟩
    refine wpAny_bind (hall v List.mem_cons_self _ _ _ fun b => ?_)
    cases b with
    | true =>
      simp only [Bool.not_true, Bool.false_eq_true, if_false]
      exact wpAny_pure ⟨rfl, rfl, fun u hu' => hall u (List.mem_cons_of_mem _ hu')⟩
    | false =>
      simp only [Bool.not_false, if_true]
      exact wpAny_pure (wpAny_pure (h _))
  · rintro ⟨r1, r2⟩ s' ⟨hr, rfl, _⟩
    simp only at hr
    subst hr
    exact wpAny_pure (h _)
end
/-! ### the set -/
abbrev NL := List (Addr × NestedKey)
def rowsN (w : World) (L : NL) : List (Int × Value) := L.map fun p => (p.2.hash w, Value.ref p.1)
structure SetNR (w : World) (h : Heap) (a : Addr) (L : NL) (es : Array (Int × Value)) (ep : Nat) (t : SetTable) : Prop where
  ob : ∃ o, h.get? a = some o ∧ o.ExactSet ∧ o.data = .set es ep t
  rows : es.toList = rowsN w L
  tab : TabN t (L.map fun p => p.2.hash w)
  nd : (L.map (·.2)).Nodup
  tup : ∀ p ∈ L, IsN h p.2 p.1
  led : w.params.followText "set-order" = true ∨ t.led = true
  room : L.length * 5 < t.mask * 3
  few : L.length < 1200
section
variable {P : Program} {w : World} {A : Around} {E : Value → Shared → Prop} {s : Shared} {a : Addr} {L : NL} {es : Array (Int × Value)} {ep : Nat} {t : SetTable}
theorem SetNR.size (R : SetNR w s.heap a L es ep t) : es.size = L.length := by
  have h := congrArg List.length R.rows
  unfold rowsN at h
  rw [Array.length_toList, List.length_map] at h
  exact h
theorem SetNR.entry (R : SetNR w s.heap a L es ep t) {i : Nat} {p : Addr × NestedKey} (h : L[i]? = some p) : es[i]? = some (p.2.hash w, Value.ref p.1) := by
  rw [← Array.getElem?_toList, R.rows]
  unfold rowsN
  rw [List.getElem?_map, h] <;> rfl
end
end G
set_option maxHeartbeats 3200000
/-! set(xs), sorted(set(xs)), len(set(xs)): xs a list of tuples that hold ints, texts and such tuples -/
namespace G
open PySem PySem.Spec PyProof.Rows L2
open PySem.W (alike dataLe dataLt AlikeAll AllAlike Sortable EachIs keyToks)
/-- what the set has got from the first i items -/
structure GotN (ks : NL) (i : Nat) (L : NL) : Prop where
  sub : ∀ p ∈ L, p ∈ ks.take i
  all : ∀ p ∈ ks.take i, p.2 ∈ L.map (·.2)
theorem GotN.same {ks L : NL} {i : Nat} {x : Addr × NestedKey} (g : GotN ks i L) (h : ks[i]? = some x) (hm : x.2 ∈ L.map (·.2)) : GotN ks (i + 1) L := by
  refine ⟨fun p hp => ?_, fun p hp => ?_⟩
  · rw [take_next h]
    exact List.mem_append_left _ (g.sub p hp)
  · rw [take_next h] at hp
    rcases List.mem_append.mp hp with z | z
    · exact g.all p z
    · rw [List.mem_singleton.mp z]; exact hm
section
variable {P : Program} {w : World} {A : Around} {E : Value → Shared → Prop} {s : Shared}
theorem SetNR.keep {h h' : Heap} {a : Addr} {L : NL} {es : Array (Int × Value)} {ep : Nat} {t : SetTable} (R : SetNR w h a L es ep t) (ha : ∀ o, h.get? a = some o → h'.get? a = some o) (ht : ∀ p ∈ L, IsN h' p.2 p.1) : SetNR w h' a L es ep t := by
  obtain ⟨o, ho, r⟩ := R.ob
  exact ⟨⟨o, ha o ho, r⟩, R.rows, R.tab, R.nd, ht, R.led, R.room, R.few⟩
end
end G
set_option maxHeartbeats 2000000
/-! sorted(set(xs)), len(set(xs)) by data -/
namespace G
open PySem PySem.Spec PyProof.Rows L2
open PySem.W (alike dataLe dataLt AlikeAll AllAlike Sortable EachIs keyToks toks_eqv)
mutual
def isNk : PyData → Bool
  | .none => true
  | .int _ => true
  | .str x => PyData.strOk x
  | .tuple ds => isNkAll ds
  | .bool _ => false
  | .list _ => false
  | .dict _ => false
def isNkAll : List PyData → Bool
  | [] => true
  | d :: ds => isNk d && isNkAll ds
end
mutual
def keyD : PyData → NestedKey
  | .none => .none
  | .int i => .num i
  | .str x => .text x
  | .tuple ds => .tup (keyDs ds)
  | .bool _ => .none
  | .list _ => .none
  | .dict _ => .none
def keyDs : List PyData → List NestedKey
  | [] => []
  | d :: ds => keyD d :: keyDs ds
end
mutual
theorem key_depth : ∀ d : PyData, isNk d = true → d.depth = (keyD d).depth
  | .none, _ => by rw [PyData.depth, keyD, NestedKey.depth]
  | .int _, _ => by rw [PyData.depth, keyD, NestedKey.depth]
  | .str _, _ => by rw [PyData.depth, keyD, NestedKey.depth]
  | .tuple xs, h => by rw [isNk] at h; rw [PyData.depth, keyD, NestedKey.depth, keys_depth xs h]
  | .bool _, hd => by simp [isNk] at hd
  | .list _, hd => by simp [isNk] at hd
  | .dict _, hd => by simp [isNk] at hd
theorem keys_depth : ∀ ds : List PyData, isNkAll ds = true → PyData.depthAll ds = NestedKey.depthAll (keyDs ds)
  | [], _ => by rw [PyData.depthAll, keyDs, NestedKey.depthAll]
  | x :: xs, h => by
    rw [isNkAll, Bool.and_eq_true] at h
    rw [PyData.depthAll, keyDs, NestedKey.depthAll, key_depth x h.1, keys_depth xs h.2]
end
section
variable {X : Cx} {pins : List (Addr × Obj)} {σ : St} {H : Hp} {s : Shared}
mutual
theorem Dp.isN (I : Inv X pins σ H s) : ∀ (d : PyData) (v : V) (u : Value), isNk d = true → Dp X.K H v d → RelV v u → NestedIs s.heap (keyD d) u
  | .none, _, _, _, h, r => by cases h; cases r; exact .none
  | .int i, _, _, _, h, r => by cases h; obtain ⟨t, rfl⟩ := r; exact .int _ _
  | .str i, _, _, _, h, r => by cases h; obtain ⟨t, rfl⟩ := r; exact .text _ _
  | .tuple xs, _, _, k, h, r => by
    cases h with
    | tup h1 h2 =>
      cases r
      obtain ⟨its, rv, ⟨o, ho, hc, n, hd⟩, _⟩ := I.tuple h1
      rw [isNk] at k
      exact .tup ho hc hd (DpAll.isN I xs _ _ k h2 (by simpa using rv))
  | .bool _, _, _, hd, _, _ => by simp [isNk] at hd
  | .list _, _, _, hd, _, _ => by simp [isNk] at hd
  | .dict _, _, _, hd, _, _ => by simp [isNk] at hd
theorem DpAll.isN (I : Inv X pins σ H s) : ∀ (ds : List PyData) (vs : List V) (us : List Value), isNkAll ds = true → DpAll X.K H vs ds → Vals vs us → NestedAll s.heap (keyDs ds) us
  | [], _, _, _, h, r => by cases h; cases r; exact .nil
  | d :: ds, _, _, k, h, r => by
    rw [isNkAll, Bool.and_eq_true] at k
    cases h with
    | cons h1 h2 =>
      cases r with
      | cons r1 r2 => exact .cons (Dp.isN I d _ _ k.1 h1 r1) (DpAll.isN I ds _ _ k.2 h2 r2)
end
end
/-! ### no datum twice -/
/-! ### the set, without the tuples themselves -/
abbrev PL := List (Addr × PyData)
def kL (L : PL) : NL := L.map fun p => (p.1, keyD p.2)
section
variable {X : Cx}
def DpP (K : PySem.W.Frag) (H : Hp) (L : PL) : Prop := ∀ p ∈ L, Dp K H (.ref p.1) p.2 ∧ isNk p.2 = true ∧ p.2.depth ≤ 8 ∧ ∃ x r, p.2 = .tuple (x :: r)
theorem DpP.isN {pins : List (Addr × Obj)} {σ : St} {H : Hp} {s : Shared} {L : PL} (I : Inv X pins σ H s) (h : DpP X.K H L) : ∀ q ∈ kL L, IsN s.heap q.2 q.1 := fun q hq => by
  obtain ⟨p, hp, rfl⟩ := List.mem_map.mp hq
  obtain ⟨h1, h2, h3, _⟩ := h p hp
  exact ⟨Dp.isN I _ _ _ h2 h1 rfl, by rw [← key_depth _ h2]; exact h3⟩
end
end G
set_option maxHeartbeats 2000000
/-! sorted(set(xs)), len(set(xs)) as expressions -/
namespace G
open PySem PySem.Spec PyProof.Rows L2
open PySem.W (alike dataLe dataLt AlikeAll AllAlike Sortable EachIs keyToks toks_eqv)
theorem SqT.sm {K : PySem.W.Frag} {H H' : Hp} (sm : L2.Same H H') {a : Addr} {xs : List V} (h : SqT K H a xs) : SqT K H' a xs := SqT.ex (S := fun _ => False) (S' := fun _ => False) (Ex.same sm) h
mutual
theorem dp_sm {K : PySem.W.Frag} {H H' : Hp} (sm : L2.Same H H') : ∀ (d : PyData) (v : V), isNk d = true → Dp K H v d → Dp K H' v d
  | .none, _, _, h => by cases h; exact .non
  | .int _, _, _, h => by cases h; exact .int _
  | .str _, _, _, h => by cases h; exact .str _
  | .tuple xs, _, k, h => by
    cases h with
    | tup h1 h2 => rw [isNk] at k; exact .tup (SqT.sm sm h1) (dps_sm sm xs _ k h2)
  | .bool _, _, hd, _ => by simp [isNk] at hd
  | .list _, _, hd, _ => by simp [isNk] at hd
  | .dict _, _, hd, _ => by simp [isNk] at hd
theorem dps_sm {K : PySem.W.Frag} {H H' : Hp} (sm : L2.Same H H') : ∀ (ds : List PyData) (vs : List V), isNkAll ds = true → DpAll K H vs ds → DpAll K H' vs ds
  | [], _, _, h => by cases h; exact .nil
  | d :: ds, _, k, h => by
    rw [isNkAll, Bool.and_eq_true] at k
    cases h with
    | cons h1 h2 => exact .cons (dp_sm sm d _ k.1 h1) (dps_sm sm ds _ k.2 h2)
end
theorem DpP.same {K : PySem.W.Frag} {H H' : Hp} {L : PL} (sm : L2.Same H H') (h : DpP K H L) : DpP K H' L := fun p hp => by
  obtain ⟨h1, h2, h3⟩ := h p hp
  exact ⟨dp_sm sm _ _ h2 h1, h2, h3⟩
end G
namespace M
open PySem PySem.Spec PyProof.Rows L2 G
end M
namespace M
open PySem PySem.Spec PyProof.Rows L2 G
end M
namespace M
open PySem PySem.Spec PyProof.Rows L2 G
end M
set_option maxHeartbeats 2000000
/-! tuple(e.values()), e a dict whose keys are tuples of ints -/
namespace G
open PySem PySem.Spec PyProof.Rows L2
end G
set_option maxHeartbeats 2000000
namespace G
open PySem PySem.Spec PyProof.Rows L2
/-! ### try: .. except E as x: .. at the end of a def: the suite returns a bool -/
end G
set_option maxHeartbeats 2000000
namespace G
open PySem PySem.Spec PyProof.Rows L2
/-! ### the two try rules, told as the walks want them -/
end G
namespace M
open PySem PySem.Spec PyProof.Rows L2 G
end M
set_option maxHeartbeats 2000000
namespace G
open PySem PySem.Spec PyProof.Rows L2
/-! ### objects that the caller handed: fields are read, lists in fields are written, fields are stored -/
theorem FR.lookup {K : PySem.W.Frag} {A0 : Ax} {S : Addr → Prop} {H : Hp} {f : Str} {vs : List (Str × V)} {fs : List (Str × OF)} (h : FR K A0 S H vs fs) : ∀ x, fs.lookup f = some x → ∃ u, vs.lookup f = some u ∧ OFR K A0 S H u x := by
  induction h with
  | nil => intro x e; cases e
  | @cons a b l1 l2 h t ih =>
    intro x e
    obtain ⟨n, u⟩ := a
    obtain ⟨n', y⟩ := b
    obtain ⟨rfl, q⟩ : n = n' ∧ OFR K A0 S H u y := h
    rw [List.lookup_cons] at e ⊢
    split at e
    · rename_i hb
      cases e
      exact ⟨u, rfl, q⟩
    · exact ih x e
theorem FR.len {K : PySem.W.Frag} {A0 : Ax} {S : Addr → Prop} {H : Hp} {vs : List (Str × V)} {fs : List (Str × OF)} (h : FR K A0 S H vs fs) : vs.length = fs.length := Paired.length h
/-- what is known of an object in a slot -/
theorem ob_slot {K : PySem.W.Frag} {A0 : Ax} {S : Addr → Prop} {H : Hp} {σ : St} {ρ : List B} {i : Nat} {c : Str} {fs : List (Str × OF)} (r : Rp K A0 S H σ ρ) (e : ρ[i]? = some (.ob c fs)) :
    ∃ a, σ[i]? = some (some (.ref a)) ∧ A0 i = some a ∧ ¬ S a ∧ OwI σ ρ i a ∧ ∃ C dx vs, (c, C) ∈ A0.g.cl ∧ H a = some (.ins C dx vs) ∧ FR K A0 S H vs fs := by
  obtain ⟨a, e1, e2, e3, q⟩ := r.bd i _ e
  exact ⟨a, e1, e2, e3, ⟨by rw [e]; rfl, e1⟩, q⟩
end G
set_option maxHeartbeats 4000000
namespace G
open PySem PySem.Spec PyProof.Rows L2
/-! ### methods: the parameters, then nothing up to slot gp, then the lists of the object (ghosts) -/
/-- the values of a method's slots at its start -/
abbrev frO (gp : Nat) (vs gs : List V) : List V := vs ++ List.replicate (gp - vs.length) V.non ++ gs
structure FnO (P : Program) (w : World) (K : PySem.W.Frag) (mg : Str → Option Value) (base : Heap) (Γ : Gx) (k : Nat) (f : Addr) (fd : FuncData) (ps : List Str) (gp m : Nat) (F : SE) : Prop where
  run : ∀ (A : Around) (outer : List Env) (s : Shared) (H : Hp) (args : Args) (us : List Value) (vs gs : List V) (Q : VK) (E : XK) (S : Addr → Prop) (bs : List B), Room k A → A.guards = some [] → Env0 P w K mg base A outer s H → BindsTo s fd args (ps.zip us) → Vals vs us →
    vs.length = ps.length → vs.length ≤ gp → gs.length = m → (∀ (i : Nat) (d : PyData), bs[i]? ≠ some (B.own d)) → (∀ i, vs.length ≤ i → i < gp → bs[i]? = some .un) → Rp K (A0p Γ (frO gp vs gs) bs) S H (pst (frO gp vs gs)) bs → PostF Γ K mg S H (frO gp vs gs) bs (F bs) Q E →
    codeAny (model P w) A (.call (.ref f) args) (CR (CX P w) outer P w H s Q E) s
theorem FnO.mono {P : Program} {w : World} {K : PySem.W.Frag} {mg : Str → Option Value} {base : Heap} {Γ : Gx} {j k : Nat} {f : Addr} {fd : FuncData} {ps : List Str} {gp m : Nat} {F : SE} (G : FnO P w K mg base Γ j f fd ps gp m F) (h : j ≤ k) : FnO P w K mg base Γ k f fd ps gp m F :=
  ⟨fun A outer s H args us vs gs Q E S bs hr => G.run A outer s H args us vs gs Q E S bs (hr.mono h)⟩
end G
set_option maxHeartbeats 4000000
namespace G
open PySem PySem.Spec PyProof.Rows L2
/-! ### o.m(..), o an object that the caller handed -/
def setGh : Nat → List B → List B → List B
  | _, [], ρ => ρ
  | g, o :: os, ρ => setGh (g + 1) os (ρ.set g o)
def ghIn (gp m : Nat) (fs : List (Str × OF)) : Bool := fs.all fun p => match p.2 with
  | .gh g => decide (gp ≤ g) && decide (g < gp + m)
  | .inl _ => true
def isPrm : B → Bool
  | .prm _ => true
  | _ => false
def outM (gp m i : Nat) (ρ : List B) : List B → Option (List B)
  | .ob c fs :: r => if (ghIn gp m fs && ((.ob c fs :: r : List B).drop gp).all isPrm) = true then some (setGh gp ((.ob c fs :: r : List B).drop gp) (ρ.set i (.ob c fs))) else none
  | _ => none
def argsM (gp : Nat) (c : Str) (fs : List (Str × OF)) (ys gds : List PyData) : List B := (.ob c fs :: ys.map B.val) ++ List.replicate (gp - (ys.length + 1)) .un ++ gds.map B.prm
theorem setGh_len : ∀ {os ρ : List B} {g : Nat}, (setGh g os ρ).length = ρ.length
  | [], _, _ => rfl
  | o :: os, ρ, g => by unfold setGh; rw [setGh_len, List.length_set]
theorem setGh_get : ∀ {os ρ : List B} {g j : Nat}, g + os.length ≤ ρ.length → (setGh g os ρ)[j]? = if g ≤ j ∧ j < g + os.length then os[j - g]? else ρ[j]?
  | [], ρ, g, j, _ => by
    unfold setGh
    rw [if_neg (by simp only [List.length_nil]; omega)]
  | o :: os, ρ, g, j, h => by
    unfold setGh
    simp only [List.length_cons] at h ⊢
    rw [setGh_get (by rw [List.length_set]; omega)]
    by_cases h1 : g + 1 ≤ j ∧ j < g + 1 + os.length
    · rw [if_pos h1, if_pos (by omega)]
      obtain ⟨k, rfl⟩ : ∃ k, j = g + 1 + k := ⟨j - (g + 1), by omega⟩
      rw [show g + 1 + k - (g + 1) = k by omega, show g + 1 + k - g = k + 1 by omega, List.getElem?_cons_succ]
    · rw [if_neg h1]
      by_cases h2 : j = g
      · subst h2
        rw [if_pos (by omega), Nat.sub_self, List.getElem?_set_self (by omega)]
        rfl
      · rw [if_neg (by omega), List.getElem?_set_ne (Ne.symm h2)]
section
variable {K : PySem.W.Frag} {A0 : Ax} {S S3 : Addr → Prop} {H H3 : Hp} {σ : St} {ρ : List B}
/-- what the callee's slots are -/
def ArgK (gp : Nat) (c : Str) (fs : List (Str × OF)) (ys gds : List PyData) (a : Addr) (vs : List V) (ls : List Addr) (j : Nat) (b : B) : Prop :=
  (j = 0 ∧ b = .ob c fs ∧ (frO gp (.ref a :: vs) (ls.map V.ref))[j]? = some (.ref a)) ∨ (∃ d v, b = .val d ∧ j < gp ∧ ys[j - 1]? = some d ∧ vs[j - 1]? = some v ∧ (frO gp (.ref a :: vs) (ls.map V.ref))[j]? = some v) ∨ (b = .un ∧ j < gp) ∨
    ∃ k d l, j = gp + k ∧ b = .prm d ∧ gds[k]? = some d ∧ ls[k]? = some l ∧ (frO gp (.ref a :: vs) (ls.map V.ref))[j]? = some (.ref l)
theorem argsM_get {gp m : Nat} {c : Str} {fs : List (Str × OF)} {ys gds : List PyData} {a : Addr} {vs : List V} {ls : List Addr} (hv : vs.length = ys.length) (hg : ys.length + 1 ≤ gp) (hl : ls.length = gds.length) {j : Nat} {b : B} (e : (argsM gp c fs ys gds)[j]? = some b) : ArgK gp c fs ys gds a vs ls j b := by
  unfold ArgK
  unfold argsM at e
  have len1 : ((B.ob c fs :: ys.map B.val) ++ List.replicate (gp - (ys.length + 1)) B.un).length = gp := by simp; omega
  have len2 : ((V.ref a :: vs) ++ List.replicate (gp - (V.ref a :: vs).length) V.non).length = gp := by simp; omega
  by_cases h1 : j < gp
  · rw [List.getElem?_append_left (by omega)] at e
    by_cases h2 : j < ys.length + 1
    · rw [List.getElem?_append_left (by simp; omega)] at e
      have ev : (frO gp (.ref a :: vs) (ls.map V.ref))[j]? = (V.ref a :: vs)[j]? := by
        unfold frO
        rw [List.getElem?_append_left (by omega), List.getElem?_append_left (by simp; omega)]
      cases j with
      | zero => cases e; exact .inl ⟨rfl, rfl, ev⟩
      | succ j =>
        rw [List.getElem?_cons_succ, List.getElem?_map] at e
        cases ey : ys[j]? with
        | none => rw [ey] at e; cases e
        | some d =>
          rw [ey] at e; cases e
          have hj : j < vs.length := by omega
          exact .inr (.inl ⟨d, vs[j], rfl, h1, ey, List.getElem?_eq_getElem hj, by rw [ev, List.getElem?_cons_succ]; exact List.getElem?_eq_getElem hj⟩)
    · rw [List.getElem?_append_right (by simp; omega), List.getElem?_replicate] at e
      split at e
      · cases e; exact .inr (.inr (.inl ⟨rfl, h1⟩))
      · cases e
  · rw [List.getElem?_append_right (by omega), len1, List.getElem?_map] at e
    cases eg : gds[j - gp]? with
    | none => rw [eg] at e; cases e
    | some d =>
      rw [eg] at e; cases e
      have hj : j - gp < ls.length := by rw [hl]; exact (List.getElem?_eq_some_iff.mp eg).1
      refine .inr (.inr (.inr ⟨j - gp, d, ls[j - gp], by omega, rfl, eg, List.getElem?_eq_getElem hj, ?_⟩))
      unfold frO
      rw [List.getElem?_append_right (by omega), len2, List.getElem?_map, List.getElem?_eq_getElem hj]
      rfl
/-- what is known around a call of a method -/
structure MC (K : PySem.W.Frag) (A0 : Ax) (S : Addr → Prop) (H : Hp) (σ : St) (ρ : List B) (gp m i : Nat) (c : Str) (fs : List (Str × OF)) (ys gds : List PyData) (a : Addr) (vs : List V) (ls : List Addr) : Prop where
  r : Rp K A0 S H σ ρ
  ei : ρ[i]? = some (.ob c fs)
  ea : σ[i]? = some (some (.ref a))
  dv : DrAll K S H vs ys
  hg : ys.length + 1 ≤ gp
  gl : gp + m ≤ ρ.length
  ll : ls.length = m
  lg : gds.length = m
  gh : ∀ (k : Nat) (l : Addr), ls[k]? = some l → ∃ d, gds[k]? = some d ∧ ρ[gp + k]? = some (.prm d) ∧ σ[gp + k]? = some (some (.ref l)) ∧ A0 (gp + k) = some l
  gi : ghIn gp m fs = true
abbrev vsM (gp : Nat) (a : Addr) (vs : List V) (ls : List Addr) : List V := frO gp (.ref a :: vs) (ls.map V.ref)
section
variable {gp m i : Nat} {c : Str} {fs : List (Str × OF)} {ys gds : List PyData} {a : Addr} {vs : List V} {ls : List Addr}
theorem ghIn_ok {f : Str} {g : Nat} (h : ghIn gp m fs = true) (hm : (f, OF.gh g) ∈ fs) : gp ≤ g ∧ g < gp + m := by
  have := List.all_eq_true.mp h _ hm
  simpa using this
theorem MC.vl (M : MC K A0 S H σ ρ gp m i c fs ys gds a vs ls) : vs.length = ys.length := M.dv.length
theorem MC.get (M : MC K A0 S H σ ρ gp m i c fs ys gds a vs ls) {j : Nat} {b : B} (e : (argsM gp c fs ys gds)[j]? = some b) : ArgK gp c fs ys gds a vs ls j b := argsM_get (m := m) (a := a) M.vl M.hg (M.ll.trans M.lg.symm) e
/-- owned by the callee: owned by the caller, in slot i or a ghost's -/
theorem MC.own (M : MC K A0 S H σ ρ gp m i c fs ys gds a vs ls) {j : Nat} {b : Addr} (h : OwI (pst (vsM gp a vs ls)) (argsM gp c fs ys gds) j b) : (j = 0 ∧ b = a ∧ OwI σ ρ i b) ∨ ∃ k, j = gp + k ∧ k < m ∧ ls[k]? = some b ∧ OwI σ ρ j b := by
  obtain ⟨h1, h2⟩ := h
  cases e : (argsM gp c fs ys gds)[j]? with
  | none => rw [e] at h1; cases h1
  | some x =>
    rw [e] at h1
    have hv : ∀ v, (vsM gp a vs ls)[j]? = some v → v = .ref b := fun v q => by
      simp only [pst, List.getElem?_map, q, Option.map_some] at h2
      injection h2 with h2; injection h2
    rcases M.get e with ⟨rfl, rfl, q⟩ | ⟨d, v, rfl, _⟩ | ⟨rfl, _⟩ | ⟨k, d, l, rfl, rfl, q1, q2, q3⟩
    · have := hv _ q
      injection this with this
      subst this
      exact .inl ⟨rfl, rfl, by rw [M.ei]; rfl, M.ea⟩
    · cases h1
    · cases h1
    · have := hv _ q3
      injection this with this
      subst this
      obtain ⟨d', z1, z2, z3, z4⟩ := M.gh k l q2
      exact .inr ⟨k, rfl, by rw [← M.ll]; exact (List.getElem?_eq_some_iff.mp q2).1, q2, by rw [z2]; rfl, z3⟩
theorem MC.inn (M : MC K A0 S H σ ρ gp m i c fs ys gds a vs ls) {b : Addr} (h : Ow (pst (vsM gp a vs ls)) (argsM gp c fs ys gds) b) : Ow σ ρ b := by
  obtain ⟨j, h⟩ := h
  rcases M.own h with ⟨_, _, q⟩ | ⟨k, _, _, _, q⟩
  · exact ⟨_, q⟩
  · exact ⟨_, q⟩
theorem MC.fr (M : MC K A0 S H σ ρ gp m i c fs ys gds a vs ls) {g : Nat} {l : Addr} (h1 : gp ≤ g) (h2 : g < gp + m) : A0 g = some l ↔ A0f (vsM gp a vs ls) (argsM gp c fs ys gds) g = some l := by
  obtain ⟨k, rfl⟩ : ∃ k, g = gp + k := ⟨g - gp, by omega⟩
  have hk : k < ls.length := by rw [M.ll]; omega
  obtain ⟨d, z1, z2, z3, z4⟩ := M.gh k _ (List.getElem?_eq_getElem hk)
  have e : (argsM gp c fs ys gds)[gp + k]? = some (.prm d) := by
    unfold argsM
    have len1 : ((B.ob c fs :: ys.map B.val) ++ List.replicate (gp - (ys.length + 1)) B.un).length = gp := by have := M.hg; simp; omega
    rw [List.getElem?_append_right (by omega), len1, Nat.add_sub_cancel_left, List.getElem?_map, z1]
    rfl
  rcases M.get e with ⟨_, q, _⟩ | ⟨d', v, q, _⟩ | ⟨q, _⟩ | ⟨k', d', l', q0, q, q1, q2, q3⟩
  · cases q
  · cases q
  · cases q
  · obtain rfl : k = k' := by omega
    rw [List.getElem?_eq_getElem hk] at q2
    cases q2
    unfold A0f
    rw [e, q3, z4]
/-- slots of the caller that the callee does not reach -/
theorem MC.other (M : MC K A0 S H σ ρ gp m i c fs ys gds a vs ls) {S3 : Addr → Prop} {H3 : Hp} {O3 : Addr → Prop} (t : Tr S H (Ow (pst (vsM gp a vs ls)) (argsM gp c fs ys gds)) S3 H3 O3) {j : Nat} {b : Addr} (q : OwI σ ρ j b) (hi : j ≠ i) (hgj : ¬ (gp ≤ j ∧ j < gp + m)) : ¬ S3 b ∧ ∀ o, H b = some o → H3 b = some o := by
  have no : ¬ Ow (pst (vsM gp a vs ls)) (argsM gp c fs ys gds) b := fun ⟨j', h⟩ => by
    rcases M.own h with ⟨_, _, q'⟩ | ⟨k, rfl, hk, _, q'⟩
    · exact hi (M.r.dis _ _ _ q q')
    · have := M.r.dis _ _ _ q q'
      exact hgj (by omega)
  obtain ⟨n0, ⟨o', e', n, _⟩⟩ := M.r.own q
  have n' : ¬ S3 b := fun z => by
    rcases t.g b z with q | q | q
    · exact n0 q
    · exact no q
    · rw [e'] at q; cases q
  exact ⟨n', fun o ho => t.keepS ho no n' (by rw [ho] at e'; cases e'; exact n)⟩
theorem MC.exS (M : MC K A0 S H σ ρ gp m i c fs ys gds a vs ls) {S3 : Addr → Prop} {H3 : Hp} {O3 : Addr → Prop} (t : Tr S H (Ow (pst (vsM gp a vs ls)) (argsM gp c fs ys gds)) S3 H3 O3) : Ex S H S3 H3 :=
  Ex.of_tr t (fun b hs z => M.r.sep hs (M.inn z)) fun b z => by
    obtain ⟨j, q⟩ := M.inn z
    exact (M.r.own q).2
theorem MC.iG (M : MC K A0 S H σ ρ gp m i c fs ys gds a vs ls) : ¬ (gp ≤ i ∧ i < gp + m) := fun ⟨h1, h2⟩ => by
  obtain ⟨k, rfl⟩ : ∃ k, i = gp + k := ⟨i - gp, by omega⟩
  have hk : k < ls.length := by rw [M.ll]; omega
  obtain ⟨d, z1, z2, _⟩ := M.gh k _ (List.getElem?_eq_getElem hk)
  rw [M.ei] at z2; cases z2
/-- behind the call -/
theorem MC.back (M : MC K A0 S H σ ρ gp m i c fs ys gds a vs ls) {S3 : Addr → Prop} {H3 : Hp} {outs ρ2 : List B} (t : Tr S H (Ow (pst (vsM gp a vs ls)) (argsM gp c fs ys gds)) S3 H3 (Ow (pst (vsM gp a vs ls)) outs)) (ro : Rp K (A0p A0.g (vsM gp a vs ls) (argsM gp c fs ys gds)) S3 H3 (pst (vsM gp a vs ls)) outs)
    (ho : outM gp m i ρ outs = some ρ2) : Tr S H (Ow σ ρ) S3 H3 (Ow σ ρ2) ∧ Rp K A0 S3 H3 σ ρ2 ∧ ∀ b, Ow σ ρ2 b → Ow σ ρ b := by
  have r := M.r
  have x := M.exS t
  have lo : outs.length = gp + m := by
    rw [← ro.len]
    have := M.vl; have := M.hg; have := M.ll
    simp only [pst, vsM, frO, List.length_append, List.length_map, List.length_replicate, List.length_cons]; omega
  cases outs with
  | nil => cases ho
  | cons b0 rest =>
    cases b0 with
    | ob c' fs' =>
      have ho : (if (ghIn gp m fs' && ((B.ob c' fs' :: rest).drop gp).all isPrm) = true then some (setGh gp ((B.ob c' fs' :: rest).drop gp) (ρ.set i (.ob c' fs'))) else none) = some ρ2 := ho
      by_cases hc : (ghIn gp m fs' && ((B.ob c' fs' :: rest).drop gp).all isPrm) = true
      rotate_left
      · rw [if_neg hc] at ho; cases ho
      rw [if_pos hc] at ho
      cases ho
      rw [Bool.and_eq_true] at hc
      obtain ⟨gi', ap⟩ := hc
      generalize hO : (B.ob c' fs' :: rest : List B) = O at *
      have hO0 : O[0]? = some (.ob c' fs') := by rw [← hO]; rfl
      have ld : (O.drop gp).length = m := by rw [List.length_drop, lo]; omega
      have glen : gp + (O.drop gp).length ≤ (ρ.set i (.ob c' fs')).length := by
        rw [ld, List.length_set]
        exact M.gl
      have get : ∀ j, (setGh gp (O.drop gp) (ρ.set i (.ob c' fs')))[j]? = if gp ≤ j ∧ j < gp + m then O[j]? else (ρ.set i (.ob c' fs'))[j]? := fun j => by
        rw [setGh_get glen, ld]
        by_cases h : gp ≤ j ∧ j < gp + m
        · rw [if_pos h, if_pos h, List.getElem?_drop]
          congr 1
          omega
        · rw [if_neg h, if_neg h]
      have iG := M.iG
      have li : i < ρ.length := (List.getElem?_eq_some_iff.mp M.ei).1
      have cls : ∀ (j : Nat) (y : B), (setGh gp (O.drop gp) (ρ.set i (.ob c' fs')))[j]? = some y → ((gp ≤ j ∧ j < gp + m) ∧ O[j]? = some y) ∨ (j = i ∧ y = .ob c' fs') ∨ (j ≠ i ∧ ¬ (gp ≤ j ∧ j < gp + m) ∧ ρ[j]? = some y) := fun j y e => by
        rw [get j] at e
        by_cases h : gp ≤ j ∧ j < gp + m
        · rw [if_pos h] at e; exact .inl ⟨h, e⟩
        · rw [if_neg h] at e
          by_cases hj : i = j
          · subst hj; rw [List.getElem?_set_self li] at e; cases e; exact .inr (.inl ⟨rfl, rfl⟩)
          · rw [List.getElem?_set_ne hj] at e; exact .inr (.inr ⟨Ne.symm hj, h, e⟩)
      have gprm : ∀ (j : Nat) (y : B), gp ≤ j → O[j]? = some y → ∃ d, y = .prm d := fun j y h e => by
        have : y ∈ O.drop gp := List.mem_of_getElem? (i := j - gp) (by rw [List.getElem?_drop, show gp + (j - gp) = j by omega]; exact e)
        have := List.all_eq_true.mp ap y this
        cases y with
        | prm d => exact ⟨d, rfl⟩
        | _ => cases this
      have gslot : ∀ (j : Nat), gp ≤ j ∧ j < gp + m → ∃ l d, ρ[j]? = some (.prm d) ∧ σ[j]? = some (some (.ref l)) ∧ A0 j = some l := fun j h => by
        obtain ⟨k, rfl⟩ : ∃ k, j = gp + k := ⟨j - gp, by omega⟩
        have hk : k < ls.length := by rw [M.ll]; omega
        obtain ⟨d, z1, z2, z3, z4⟩ := M.gh k _ (List.getElem?_eq_getElem hk)
        exact ⟨_, d, z2, z3, z4⟩
      have own : ∀ (j : Nat) (b : Addr), OwI σ (setGh gp (O.drop gp) (ρ.set i (.ob c' fs'))) j b → OwI σ ρ j b := fun j b ⟨h1, h2⟩ => by
        cases e : (setGh gp (O.drop gp) (ρ.set i (.ob c' fs')))[j]? with
        | none => rw [e] at h1; cases h1
        | some y =>
          rcases cls j y e with ⟨h, _⟩ | ⟨rfl, rfl⟩ | ⟨_, _, q⟩
          · obtain ⟨l, d, z1, z2, _⟩ := gslot j h
            exact ⟨by rw [z1]; rfl, h2⟩
          · exact ⟨by rw [M.ei]; rfl, h2⟩
          · exact ⟨by rw [q]; rw [e] at h1; exact h1, h2⟩
      refine ⟨⟨t.s, fun b o e n => t.keep b o e fun z => n (M.inn z), t.dom, fun b ⟨j, h⟩ => .inl ⟨j, own j b h⟩, fun b z => (t.g b z).imp id (Or.imp M.inn id)⟩,
        ⟨by rw [setGh_len, List.length_set]; exact r.len, fun j y e => ?_, fun j k b h1 h2 => r.dis j k b (own j b h1) (own k b h2), ro.al, fun j d b e h2 => ?_, fun j b h => let ⟨o, e⟩ := r.aa j b h; t.dom b o e, ro.tb⟩, fun b ⟨j, h⟩ => ⟨j, own j b h⟩⟩
      · rcases cls j y e with ⟨h, q⟩ | ⟨rfl, rfl⟩ | ⟨hj, hgj, q⟩
        · obtain ⟨d, rfl⟩ := gprm j y h.1 q
          obtain ⟨l, d0, z1, z2, z3⟩ := gslot j h
          obtain ⟨a2, y1, y2, y3, y4⟩ := ro.bd j _ q
          have y2 : A0f (vsM gp a vs ls) (argsM gp c fs ys gds) j = some a2 := y2
          have y2 := (M.fr h.1 h.2).mpr y2
          rw [z3] at y2; cases y2
          exact ⟨l, z2, z3, y3, y4⟩
        · obtain ⟨a2, y1, y2, y3, C, dx, us, hcl, ha, fr⟩ := ro.bd 0 _ hO0
          have y1 : some (some (V.ref a)) = some (some (V.ref a2)) := y1
          cases y1
          obtain ⟨a3, w1, w2, _⟩ := ob_slot r M.ei
          rw [M.ea] at w1; cases w1
          refine ⟨a, M.ea, w2, y3, C, dx, us, hcl, ha, ?_⟩
          have key : ∀ {us : List (Str × V)} {fs' : List (Str × OF)}, FR K (A0p A0.g (vsM gp a vs ls) (argsM gp c fs ys gds)) S3 H3 us fs' → ghIn gp m fs' = true → FR K A0 S3 H3 us fs' := fun {us fs'} h => by
            induction h with
            | nil => exact fun _ => .nil
            | @cons x y l1 l2 h tt ih =>
              intro gi
              have gi2 : ghIn gp m l2 = true := by
                unfold ghIn at gi ⊢
                rw [List.all_cons, Bool.and_eq_true] at gi
                exact gi.2
              refine .cons ⟨h.1, ?_⟩ (ih gi2)
              obtain ⟨n, y⟩ := y
              cases y with
              | inl d => exact h.2
              | gh g =>
                obtain ⟨l, z1, z2⟩ := h.2
                obtain ⟨g1, g2⟩ := ghIn_ok gi (List.mem_cons_self ..)
                exact ⟨l, z1, (M.fr g1 g2).mpr z2⟩
          exact key fr gi'
        · have q' := r.bd j y q
          cases y with
          | un => trivial
          | exc _ => exact bd_exc x q'
          | val d => obtain ⟨v, e1, e2⟩ := q'; exact ⟨v, e1, e2.ex x⟩
          | own d =>
            obtain ⟨b, e1, e2, e3⟩ := q'
            obtain ⟨n1, n2⟩ := M.other t (j := j) (b := b) ⟨by rw [q]; rfl, e1⟩ hj hgj
            exact ⟨b, e1, n1, e3.ex x n2⟩
          | prm d =>
            obtain ⟨b, e1, e0, e2, e3⟩ := q'
            obtain ⟨n1, n2⟩ := M.other t (j := j) (b := b) ⟨by rw [q]; rfl, e1⟩ hj hgj
            exact ⟨b, e1, e0, n1, e3.ex x n2⟩
          | ob c2 f2 =>
            refine bd_ob x q' fun b e1 => ?_
            obtain ⟨n1, n2⟩ := M.other t (j := j) (b := b) ⟨by rw [q]; rfl, e1⟩ hj hgj
            exact ⟨e1, n1, n2⟩
      · rcases cls j _ e with ⟨h, q⟩ | ⟨_, q⟩ | ⟨_, _, q⟩
        · obtain ⟨d', q'⟩ := gprm j _ h.1 q
          cases q'
        · cases q
        · exact r.np j d b q h2
    | _ => cases ho
end
end
end G
set_option maxHeartbeats 4000000
namespace G
open PySem PySem.Spec PyProof.Rows L2
/-! ### __init__: o.f, o.g, o.h = e, a new list, a new list; then the rest with the lists as ghosts -/
end G
set_option maxHeartbeats 4000000
namespace G
open PySem PySem.Spec PyProof.Rows L2
end G
set_option maxHeartbeats 4000000
namespace G
open PySem PySem.Spec PyProof.Rows L2
/-! ### x = C(..), then the rest of the def with the object -/
end G
set_option maxHeartbeats 4000000
namespace G
open PySem PySem.Spec PyProof.Rows L2
/-! ### the end: classes of objects -/
structure MetK (K : PySem.W.Frag) (C : Addr) (nm qual : Str) (st : Stmt) (ps : List Str) (f : Addr) (fd : FuncData) : Prop where
  me : Meth K C nm f
  ex : FnEx K .none nm qual st f fd
section
variable {P : Program} {w : World} {K : PySem.W.Frag} {mg : Str → Option Value} {base : Heap} {Γ : Gx} {k : Nat} {x nm qual : Str} {ps : List Str} {st : Stmt} {f C : Addr} {fd : FuncData}
theorem MetK.binds (h : MetK K C nm qual st ps f fd) (hb : ∀ (kV doc pm : Value) (an : Option Addr) (cdv ct : Value) (us : List Value), us.length = ps.length → bindArgs (PySem.W.fnOf nm qual (defArgs st) (defBody st) (defScope st) .none kV doc pm an cdv ct) ⟨us, []⟩ = pure (ps.zip us)) : Binds K fd ps [] := by
  obtain ⟨oc, od, kV, doc, pm, an, cdv, ct, osl, rfl, _⟩ := h.ex
  exact .all (hb kV doc pm an cdv ct)
end
/-! ### objects' mirrors are run -/
/-! ### making objects -/
end G
namespace M
open PySem PySem.Spec PyProof.Rows L2 G
end M
namespace G
open PySem PySem.Spec PyProof.Rows L2
/-! ### f(g(..)): a new list that is handed over at once, to be written by the def alone -/
end G
namespace M
open PySem PySem.Spec PyProof.Rows L2 G
end M
namespace G
open PySem PySem.Spec PyProof.Rows L2
/-! ### x = f if c else g; if not x(..): return False -/
end G
namespace M
open PySem PySem.Spec PyProof.Rows L2 G
end M
namespace M
open PySem PySem.Spec PyProof.Rows L2 G
end M
namespace M
open PySem PySem.Spec PyProof.Rows L2 G
end M
namespace G
open PySem PySem.Spec PyProof.Rows L2
/-! ### zip of two lists or tuples, also of one of each -/
def ItB : Bool → Heap → Addr → Addr → Nat → Prop
  | true, h, it, a, i => h.IsTupleIter it a i
  | false, h, it, a, i => h.IsListIter it a i
theorem ItB.at {t : Bool} {h h' : Heap} {it a : Addr} {i : Nat} (x : ItB t h it a i) (k : ∀ o, h.get? it = some o → h'.get? it = some o) : ItB t h' it a i := by
  cases t
  · exact Heap.IsListIter.at x k
  · exact Heap.IsTupleIter.at x k
theorem ItB.obj {t : Bool} {h : Heap} {it a : Addr} {i : Nat} (x : ItB t h it a i) : ∃ o, h.get? it = some o ∧ ∃ vs, o.data = .fields vs := by
  cases t
  · obtain ⟨o, e, _, d⟩ := x; exact ⟨o, e, _, d⟩
  · obtain ⟨o, e, _, d⟩ := x; exact ⟨o, e, _, d⟩
/-! ### in the layer -/
end G
namespace G
open PySem PySem.Spec PyProof.Rows L2
/-! ### dict(l) of a list of pairs -/
end G
/-! sorted of ints: a list of ints, or a dict with few int keys -/
namespace G
open PySem PySem.Spec PyProof.Rows L2
end G
namespace M
open PySem PySem.Spec PyProof.Rows L2 G
end M
set_option maxHeartbeats 2000000
namespace G
open PySem PySem.Spec PyProof.Rows L2
/-! ### said(lambda: e) where ints may be long -/
end G
namespace M
open PySem PySem.Spec PyProof.Rows L2 G
end M
namespace M
open PySem PySem.Spec PyProof.Rows L2 G
def B__law_errors_are_right : SS := (retS (fC (.bool true)))
def F__law_errors_are_right : SE := defF 4 B__law_errors_are_right
def L1_law_k06 : SS := (seqS (asgS 2 (op2 modD (callF [false, false] F__law_cell_2 [] (aCons (fV 0) (aCons (fV 1) aNil))) (fC (.int 901)))) (ifS (orB (notB (fB (callF [false] F__law_images_are_right [] (aCons (fV 2) aNil)))) (orB (notB (fB (callF [false] F__law_products_are_right_2 [] (aCons (fV 2) aNil)))) (notB (fB (callF [false] F__law_powers_are_right_2 [] (aCons (fV 2) aNil)))))) (retS (fC (.bool false))) nxS))
def B_law_k06 : SS := (seqS (ifS (notB (fB (callF [] F__law_errors_are_right [] aNil))) (retS (fC (.bool false))) nxS) (seqS (forS (rng1I (aCons (opN max2D (aCons (fC (.int 1)) (aCons (opN min2D (aCons (opN lenD (aCons (fV 0) aNil)) (aCons (fC (.int 3)) aNil))) aNil))) aNil)) (nmG 1) L1_law_k06) (retS (op2 eqD (lstE (aCons (callF [false] F_is_square [] (aCons (tupE (aCons (fC (.int 0)) (aCons (fC (.int 0)) aNil))) aNil)) (aCons (callF [false] F_is_symmetry [] (aCons (tupE (aCons (fC (.int 7)) (aCons (fC (.int 0)) (aCons (fC (.int 0)) aNil)))) aNil)) (aCons (callF [false] F_is_symmetry [] (aCons (tupE (aCons (fC (.int 8)) (aCons (fC (.int 0)) (aCons (fC (.int 0)) aNil)))) aNil)) aNil)))) (lstE (aCons (fC (.bool true)) (aCons (fC (.bool true)) (aCons (fC (.bool false)) aNil))))))))
def F_law_k06 : SE := defF 3 B_law_k06
theorem r_law_k06 {x0_ : B} : F_law_k06 [x0_] = Rs.bind (B_law_k06 [x0_, .un, .un]) (retF 1) := rfl
end M
set_option maxHeartbeats 2000000
/-! Own exception classes with an own __init__, called with positional and named arguments, as values: GExcK -/
namespace PySem
namespace HandSPX
open Builtin Builtin.ObjectAttr
section
variable {M : Model} {A : Around} {E : Value → Shared → Prop} {h : Heap} {g : Array GenState} {d : Drawn} {t : Nat} {os : OsState}
variable {nm q : Str} {C N : Addr} {bs bm bmB : List Value} {hdct : Bool} {sn : List Str} {sub : List Value} {ab : Bool} {col : Option Bool} {dd : Option Addr} {k0 k1 k2 k3 k5 : Option Value} {B newId initId : String}
theorem k_new_checked (F : ExcBaseFacts B newId initId bmB) (hT : ∀ X : String, bm.contains (.type X) = bmB.contains (.type X)) {rest : List Value} {kw : List (Str × Value)} {Q : Unit → Shared → Prop}
    (hC : h.get? C = some (excClassObj nm q C N bs bm hdct sn sub ab col dd k0 k1 k2 k3 k5 newId)) (hq : Q () ⟨h, g, d, t, os⟩) : wpAny M A (checkBuiltinCall newId ⟨.ref C :: rest, kw⟩) Q E ⟨h, g, d, t, os⟩ := by
  have inB : (Value.ref C :: bm).contains (.type B) = true := by rw [List.contains_cons, hT, F.hasB, Bool.or_true]
  have star := F.noStar
  simp only [checkBuiltinCall, F.newKind, F.newSplit, F.newRow]
  repeat (first
    | refine wpAny_loadPart_at hC ?_
    | (refine wpAny_isSubtype_exc hC ?_; rw [inB])
    | refine wpAny_staticBase_exc hC ?_
    | refine wpAny_madeBy_exc hC ?_
    | simp only [bne_self_eq_false, Bool.false_eq_true, if_false]
    | wp_step)
  exact hq
end
section
variable {prog : Program} {w : World} {A : Around} {E : Value → Shared → Prop} {R : Result → Shared → Prop} {h : Heap} {g : Array GenState} {d : Drawn} {t : Nat} {os : OsState}
variable {nm q : Str} {C N : Addr} {bs bm bmB : List Value} {hdct : Bool} {sn : List Str} {sub : List Value} {ab : Bool} {col : Option Bool} {dd : Option Addr} {k0 k1 k2 k3 k5 : Option Value} {B newId initId : String}
theorem k_new (F : ExcBaseFacts B newId initId bmB) (hT : ∀ X : String, bm.contains (.type X) = bmB.contains (.type X)) {rest : List Value} {kw : List (Str × Value)}
    (hC : h.get? C = some (excClassObj nm q C N bs bm hdct sn sub ab col dd k0 k1 k2 k3 k5 newId)) (hrest : rest.length ≤ sizeLine)
    (hq : R (.ok (.ret (.ref (h.objs.size + 1)))) ⟨(h.push (W.kdv_tup rest)).push (excO C h.objs.size), g, d, t, os⟩) :
    codeAny (model prog w) A (.builtin newId ⟨.ref C :: rest, kw⟩) R ⟨h, g, d, t, os⟩ := by
  have ends := F.ends
  have inB : (Value.ref C :: bm).contains (.type B) = true := by rw [List.contains_cons, hT, F.hasB, Bool.or_true]
  have inA : (Value.ref C :: bm).contains (.type "AttributeError") = false := by rw [List.contains_cons, hT, F.noAttr]; rfl
  have inN : (Value.ref C :: bm).contains (.type "NameError") = false := by rw [List.contains_cons, hT, F.noName]; rfl
  refine codeAny_builtinAt F.entry ?_
  unfold Builtin.«BaseException.__new__»
  refine wpAt_bind ?_
  show wpAt _ _ _ (stack >>= _) _ _ _
  refine wpAt_bind (wpAt_stack fun p below => wpAt_of_wpAny ?_)
  wp_walk
  refine wpAt_of_wpAny ?_
  rw [F.owner]
  repeat (first
    | with_reducible refine wpAny_madeHere_exc F.canon hC ?_
    | with_reducible refine wpAny_loadPart_at hC ?_
    | (with_reducible refine wpAny_isSubtype_exc hC ?_; first | rw [inB] | rw [inA] | rw [inN])
    | wp_step)
  show R _ _
  rw [Heap.size_push]
  exact hq
theorem k_type_call (F : ExcBaseFacts B newId initId bmB) (hT : ∀ X : String, bm.contains (.type X) = bmB.contains (.type X)) {rest : List Value} {kw : List (Str × Value)} {fI : Addr} {Q : Fin → Shared → Prop}
    (hC : h.get? C = some (excClassObj nm q C N bs bm hdct sn sub ab col dd k0 k1 k2 k3 k5 newId)) (hi : W.Looks (model prog w) h (typeLookup (.ref C) "__init__") (some (.ref fI))) (hb : ∀ self, W.Looks (model prog w) h (bindSpecial (.ref fI) self) (.ref fI, [self])) (hrest : rest.length ≤ sizeLine)
    (hq : codeAny (model prog w) A (.call (.ref fI) ⟨.ref (h.objs.size + 1) :: rest, kw⟩)
      (fun r s' => match r with | .ok (.ret v) => v = .none ∧ Q (.done (.ret (.ref (h.objs.size + 1)))) s' | .ok _ => False | .error e => E e s')
      ⟨(h.push (W.kdv_tup rest)).push (excO C h.objs.size), g, d, t, os⟩) :
    wpAny (model prog w) A (Builtin.«type.__call__» ⟨.ref C :: rest, kw⟩) Q E ⟨h, g, d, t, os⟩ := by
  repeat (first | with_reducible refine wpAny_loadPart_at hC ?_ | with_reducible refine wpAny_madeBy_exc hC ?_ | wp_step)
  refine codeAny_call_builtin_code (Code.quiet_builtin _ F.quiet) (k_new_checked F hT hC (k_new F hT hC hrest ?_))
  show wpAny _ _ _ _ _ _
  have keep : ∀ b o, h.get? b = some o → ((h.push (W.kdv_tup rest)).push (excO C h.objs.size)).get? b = some o := fun b o e => Heap.get?_push_of_some _ (Heap.get?_push_of_some _ e)
  have hC1 := keep _ _ hC
  have made : ((h.push (W.kdv_tup rest)).push (excO C h.objs.size)).get? (h.objs.size + 1) = some (excO C h.objs.size) := by heap_get
  have inC : (Value.ref C :: bm).contains (.ref C) = true := by simp
  have i1 := hi.keeps keep
  have b1 := (hb (.ref (h.objs.size + 1))).keeps keep
  unfold isInstance
  repeat (first | with_reducible refine wpAny_loadPart_at made ?_ | (with_reducible refine wpAny_isSubtype_exc hC1 ?_; rw [inC]) | wp_step)
  show wpAny _ _ (typeLookup (.ref C) _) _ _ _
  refine i1.at (wpAny_holding (wpAny_bind (b1.at (wpAny_bind (wpAny_call (codeAny_mono hq fun r s' z => ?_))))))
  rcases r with e | (v | _ | _ | _) <;> first | exact z | exact z.elim | skip
  obtain ⟨rfl, z⟩ := z
  first
    | exact wpAny_pure (wpAny_pure z)
    | (wp_walk; exact z)
theorem k_call (F : ExcBaseFacts B newId initId bmB) (hT : ∀ X : String, bm.contains (.type X) = bmB.contains (.type X)) {rest : List Value} {kw : List (Str × Value)} {fI : Addr}
    (hC : h.get? C = some (excClassObj nm q C N bs bm hdct sn sub ab col dd k0 k1 k2 k3 k5 newId)) (hi : W.Looks (model prog w) h (typeLookup (.ref C) "__init__") (some (.ref fI))) (hb : ∀ self, W.Looks (model prog w) h (bindSpecial (.ref fI) self) (.ref fI, [self])) (hrest : rest.length ≤ sizeLine)
    (hq : codeAny (model prog w) (A.under (.builtin "type.__call__" ⟨.ref C :: rest, kw⟩)) (.call (.ref fI) ⟨.ref (h.objs.size + 1) :: rest, kw⟩) (W.InitBack (h.objs.size + 1) R)
      ⟨(h.push (W.kdv_tup rest)).push (excO C h.objs.size), g, d, t, os⟩) :
    codeAny (model prog w) A (.call (.ref C) ⟨rest, kw⟩) R ⟨h, g, d, t, os⟩ := by
  have f1 := tc_lookup
  have f2 := tc_bind (.ref C)
  have ty : (⟨h, g, d, t, os⟩ : Shared).TypeIs (.ref C) "type" := ⟨_, hC, rfl⟩
  refine codeAny_of_tree ?_
  show wpAny _ _ (callAny (.ref C) _) _ _ _
  repeat (any_goals (first | assumption | with_reducible refine wpAny_loadPart_at hC ?_ | wp_step))
  refine ⟨rfl, ?_⟩
  refine codeAny_call_builtin_at (Code.quiet_builtin _ (by decide +kernel)) entry_typeCall (wpAny_check_type_call_sub hC (k_type_call F hT hC hi hb hrest ?_))
  exact codeAny_mono hq fun r s' z => by rcases r with e | (v | _ | _ | _) <;> exact z
end
end HandSPX
end PySem
set_option maxHeartbeats 2000000
/-! LimitError(a, b) and LimitError(limit=b, amount=a) as values -/
namespace G
open PySem PySem.Spec PyProof.Rows L2
/-- the exception and its dict, laid and tracked -/
def limH (C : Addr) (v w : V) (a dx : Addr) (H : Hp) : Hp := upd (upd H a (exo a C (some dx))) dx (exd dx [("limit", w), ("amount", v)])
def limV (X : Cx) (x : Str) (v w : V) (H : Hp) (Q : VK) : Prop := ∀ C a dx : Addr, X.mg x = some (.ref C) → H a = none → H dx = none → dx ≠ a → Q (.ref a) (limH C v w a dx H)
/-- how the words are bound -/
def KwLim (fd : FuncData) : Prop := ∀ (s : Shared) (x u1 u2 : Value), BindsTo s fd ⟨[x], [("limit", u1), ("amount", u2)]⟩ ((["self", "amount", "limit"] : List Str).zip [x, u2, u1])
structure LimDK (P : Program) (w : World) (K : PySem.W.Frag) (mg : Str → Option Value) (base : Heap) (k : Nat) (x : Str) : Prop where
  ex : ∃ (C fI : Addr) (fd : FuncData), FnOk P w K mg base (L2.CX P w) k fI fd ["self", "amount", "limit"] (spLim K) ∧ PySem.W.findIn K (.ref C) "__init__" = some (some (.ref fI)) ∧ PySem.W.typeIn K (.ref fI) = some (.type "function") ∧
    OexC K C ∧ PySem.W.findIn K (.ref C) "amount" = some none ∧ PySem.W.findIn K (.ref C) "limit" = some none ∧ mg x = some (.ref C) ∧ Binds K fd ["self", "amount", "limit"] [] ∧ KwLim fd
theorem LimDK.d {P : Program} {w : World} {K : PySem.W.Frag} {mg : Str → Option Value} {base : Heap} {k : Nat} {x : Str} (L : LimDK P w K mg base k x) : LimD P w K mg base k x := by
  obtain ⟨C, fI, fd, a, b, c, d, e, f, g, h, _⟩ := L.ex
  exact ⟨⟨C, fI, fd, a, b, c, d, e, f, g, h⟩⟩
section
variable {X : Cx} {k j : Nat} {x : Str}
theorem run_lim {pins : List (Addr × Obj)} {σ : St} {H : Hp} {s : Shared} {Q : VK} {C fI : Addr} {fd : FuncData} {us : List Value} {kw : List (Str × Value)} {v w : V} {u1 u2 : Value} (T : OexC X.K C) (iC : PySem.W.findIn X.K (.ref C) "__init__" = some (some (.ref fI))) (tI : PySem.W.typeIn X.K (.ref fI) = some (.type "function"))
    (n1 : PySem.W.findIn X.K (.ref C) "amount" = some none) (n2 : PySem.W.findIn X.K (.ref C) "limit" = some none) (hm : X.mg x = some (.ref C)) (F1 : FnOk X.prog X.w X.K X.mg X.base (L2.CX X.prog X.w) k fI fd ["self", "amount", "limit"] (spLim X.K)) (hr : Room (k + 1) X.A)
    (hb : ∀ (s : Shared) (y : Value), X.K.In s.heap → BindsTo s fd ⟨y :: us, kw⟩ ((["self", "amount", "limit"] : List Str).zip [y, u1, u2])) (hl : us.length ≤ sizeLine) (r1 : RelV v u1) (r2 : RelV w u2) (I : Inv X pins σ H s) (h : limV X x v w H Q) :
    wpAny (model X.prog X.w) X.A (call (.ref C) us kw) (EP X pins σ Q) X.xe s := by
  obtain ⟨nm, q, N, bs, bm, sn, sub, ab, col, dd, k0, k1, k2, k3, k5, hC, hbm⟩ := T.cls
  obtain ⟨hp, g, dr, tk, os⟩ := s
  have hsz : hp.objs.size ≤ hp.objs.size + 1 := Nat.le_succ _
  have hn : H (hp.objs.size + 1) = none := I.hok.fresh hsz
  have kk : ∀ b o, hp.get? b = some o → ((hp.push (PySem.W.kdv_tup us)).push (PySem.HandSPX.excO C hp.objs.size)).get? b = some o := fun b o e => Heap.get?_push_of_some _ (Heap.get?_push_of_some _ e)
  have hget : ((hp.push (PySem.W.kdv_tup us)).push (PySem.HandSPX.excO C hp.objs.size)).get? (hp.objs.size + 1) = some (PySem.HandSPX.excO C hp.objs.size) := by heap_get
  have I2 : Inv X pins σ (upd H (hp.objs.size + 1) (exo (hp.objs.size + 1) C none)) ⟨(hp.push (PySem.W.kdv_tup us)).push (PySem.HandSPX.excO C hp.objs.size), g, dr, tk, os⟩ :=
    I.laid (t' := tk) (a := hp.objs.size + 1) (o := exo (hp.objs.size + 1) C none) (h' := (hp.push (PySem.W.kdv_tup us)).push (PySem.HandSPX.excO C hp.objs.size)) kk hsz (exo_ok hget)
  have rv : Vals [V.ref (hp.objs.size + 1), v, w] [Value.ref (hp.objs.size + 1), u1, u2] := .cons rfl (.cons r1 (.cons r2 .nil))
  have sp : spLim X.K [V.ref (hp.objs.size + 1), v, w] (upd H (hp.objs.size + 1) (exo (hp.objs.size + 1) C none)) (fun y H2 => y = .non ∧ Q (.ref (hp.objs.size + 1)) H2) (fun _ _ _ => False) := by
    refine ⟨_, C, v, w, rfl, T, n1, n2, upd_same, fun dx hd ne => ⟨rfl, ?_⟩⟩
    rw [upd_ne ne] at hd
    have := h C (hp.objs.size + 1) dx hm hn hd ne
    have e : upd (upd (upd (upd H (hp.objs.size + 1) (exo (hp.objs.size + 1) C none)) dx (exd dx [("amount", v)])) (hp.objs.size + 1) (exo (hp.objs.size + 1) C (some dx))) dx (exd dx [("limit", w), ("amount", v)]) = limH C v w (hp.objs.size + 1) dx H := by
      funext b
      unfold limH
      by_cases b1 : b = dx
      · rw [b1, upd_same, upd_same]
      · rw [upd_ne b1, upd_ne b1]
        by_cases b2 : b = hp.objs.size + 1
        · rw [b2, upd_same, upd_same]
        · rw [upd_ne b2, upd_ne b1, upd_ne b2, upd_ne b2]
    rw [e]; exact this
  refine wpAny_call (PySem.HandSPX.k_call F.excBase_ValueError (fun Y => PySem.HandSPX.refsVE_contains Y bm hbm) (I.kIn _ _ hC) (PySem.W.looks_findIn I.kIn iC) (fun self => PySem.W.bind_fn I.kIn self tI) hl
    (codeAny_mono (F1.run _ X.stack _ _ ⟨Value.ref (hp.objs.size + 1) :: us, kw⟩ [Value.ref (hp.objs.size + 1), u1, u2] _ _ (fun _ _ _ => False) (hr.make C us kw) (I2.env0.make C us kw) (hb _ (Value.ref (hp.objs.size + 1)) I2.kIn) rv sp) fun r s' hq' => ?_))
  cases r with
  | error er => exact passL pins σ _ _ er s' I2 hq'
  | ok fl =>
    cases fl with
    | ret u =>
      obtain ⟨y, H2, I3, ry, ey, q2⟩ := I2.after hq'
      subst ey
      exact ⟨ry, ⟨.ref (hp.objs.size + 1), H2, I3, rfl, q2⟩⟩
    | next => exact False.elim hq'
    | brk => exact False.elim hq'
    | cont => exact False.elim hq'
theorem pe_limV {ta : TA} {e : Expr} {es : List Expr} {p pos : Pos} (L : LimD X.prog X.w X.K X.mg X.base k x) (hr : Room j X.A) (hg : Gl X x) (ha : PA X (e :: es) ta) (hj : k + 1 ≤ j := by decide) (hdb : (x == ("__debug__" : Str)) = false := by decide)
    (he : starEach (e :: es) X.env = (false, eval e X.env) :: starEach es X.env := by rfl) (hpl : (backTo pos (starEach es X.env)).any (·.1) = false := by rfl) :
    PE X (.Call (.Name x p) (e :: es) [] pos) (fun σ H Q => ta σ H fun vs H1 => ∃ v w, vs = [v, w] ∧ limV X x v w H1 Q) := by
  obtain ⟨C, fI, fd, F1, iC, tI, T, n1, n2, hm, hb⟩ := L.ex
  refine ⟨fun pins s σ H Q I h => ?_⟩
  refine wpAny_Call_Name_kw (ld_glob I hg hm ?_ hdb)
  refine PySem.W.callWith_K (h₀ := X.base) I.ok.mod.kin T.kC (thn (ha.run pos pins s σ H _ I h) fun us s1 ⟨vs, H1, I1, r1, v, w, ev, q⟩ => ⟨I1.kIn, ?_⟩) he hpl
  subst ev
  cases r1 with
  | @cons _ u1 _ ur a1 r' => cases r' with
  | @cons _ u2 _ ur a2 r'' =>
  cases r''
  show wpAny _ _ (call (.ref C) [u1, u2]) _ _ _
  exact run_lim T iC tI n1 n2 hm F1 (hr.mono hj) (fun s y hk => by
    have := hb s [y, u1, u2] hk rfl
    simpa using this) (show 2 ≤ sizeLine by rw [sizeLine_eq]; decide) a1 a2 I1 q
theorem pe_limKw {tk : TA} {kws : List Keyword} {p pos : Pos} (L : LimDK X.prog X.w X.K X.mg X.base k x) (hr : Room j X.A) (hg : Gl X x) (hkw : PK X kws tk) (hj : k + 1 ≤ j := by decide)
    (hall : (backToKw pos (keywordEach kws X.env)).all (·.1.isSome) = true := by rfl) (hks : (backToKw pos (keywordEach kws X.env)).filterMap (·.1) = (["limit", "amount"] : List Str) := by rfl) (hdb : (x == ("__debug__" : Str)) = false := by decide)
    (hpl : ((backTo pos (starEach [] X.env)).any (·.1) || (backToKw pos (keywordEach kws X.env)).any (·.1.isNone)) = false := by rfl) :
    PE X (.Call (.Name x p) [] kws pos) (fun σ H Q => tk σ H fun zs H1 => ∃ v w, zs = [w, v] ∧ limV X x v w H1 Q) := by
  obtain ⟨C, fI, fd, F1, iC, tI, T, n1, n2, hm, hb, kb⟩ := L.ex
  refine ⟨fun pins s σ H Q I h => ?_⟩
  refine wpAny_Call_Name_kw (ld_glob I hg hm ?_ hdb)
  refine PySem.W.callWith_KW0 (h₀ := X.base) I.ok.mod.kin T.kC hall ?_ hpl
  refine thn (hkw.run pos pins s σ H _ I h) fun ws s2 ⟨zs, H2, I2, rz, v, w, ev, q⟩ => ⟨I2.kIn, ?_⟩
  rw [hks]
  subst ev
  cases rz with
  | @cons _ u1 _ ur a1 r' => cases r' with
  | @cons _ u2 _ ur a2 r'' =>
  cases r''
  exact run_lim (us := []) T iC tI n1 n2 hm F1 (hr.mono hj) (fun s y _ => kb s y u1 u2) (Nat.zero_le _) a2 a1 I2 q
end
end G
set_option maxHeartbeats 2000000
/-! an exception that was made here is let go from the abstract heap and pinned -/
namespace G
open PySem PySem.Spec PyProof.Rows L2
end G
set_option maxHeartbeats 2000000
/-! pinned exceptions: statements, calls, isinstance, fields -/
namespace G
open PySem PySem.Spec PyProof.Rows L2
section
variable {X : Cx} {pins : List (Addr × Obj)} {p : Addr × Obj} {D : Ends}
/-- a tracked object seen in another way -/
theorem Inv.seen {σ : L2.St} {H : Hp} {s : Shared} {d : Addr} {φ : Heap → Prop} {o : HO} (I : Inv X pins σ H s) (hd : H d = some (.ext φ)) (new : ObjOk X.prog X.w (upd H d o) s.heap d o) : Inv X pins σ (upd H d o) s := by
  have ne : ∀ b u, H b = some u → (∀ ψ, u ≠ .ext ψ) → b ≠ d := fun b u e n z => by rw [z, hd] at e; exact n φ (Option.some.inj e).symm
  have non : ∀ b, H b = none → b ≠ d := fun b e z => by rw [z, hd] at e; cases e
  have un : Un X.fs [] H (upd H d o) s.heap s.heap := ⟨fun _ _ e _ _ _ => e, fun _ u e _ _ _ => ⟨u.slots, e⟩, fun b _ _ n _ => by rw [upd_ne (non b n)]; exact n, fun _ u e _ => ⟨u, e⟩,
    fun b xs e => by rw [upd_ne (ne b _ e fun ψ z => by cases z)]; exact e, fun b ob u e => by rw [upd_ne (ne b _ e fun ψ z => by cases z)]; exact e, fun b ps e => ⟨#[], by rw [upd_ne (ne b _ e fun ψ z => by cases z), e]; simp⟩⟩
  have hok : HOk X.prog X.w (upd H d o) s.heap := fun b u e => by
    by_cases hb : b = d
    · subst hb
      rw [upd_same] at e
      cases e
      exact new
    · rw [upd_ne hb] at e
      exact (I.hok b u e).stay (fun _ _ _ q => q) (fun c q => by rw [upd_ne (ne c _ q fun ψ z => by cases z)]; exact q) fun c xs q => by rw [upd_ne (ne c _ q fun ψ z => by cases z)]; exact q
  exact I.un (t' := s.toks) un hok
end
/-- what a call leaves as it was -/
def Kp (H H' : Hp) : Prop := (∀ a o, H a = some o → ¬ isTb o → H' a = some o) ∧ ∀ a o, H a = some o → isTb o → ∃ o', isTb o' ∧ H' a = some o'
theorem Kp.refl (H : Hp) : Kp H H := ⟨fun _ _ e _ => e, fun _ o e t => ⟨o, t, e⟩⟩
theorem Kp.xd {H H' : Hp} (k : Kp H H') {d : Addr} {fs : List (Str × V)} (h : H d = some (.xd fs)) : H' d = some (.xd fs) := k.1 _ _ h (fun z => z)
theorem Kp.lst {H H' : Hp} (k : Kp H H') {a : Addr} {xs : List V} (h : H a = some (.lst xs)) : H' a = some (.lst xs) := k.1 _ _ h (fun z => z)
theorem Kp.ext {H H' : Hp} (k : Kp H H') {a : Addr} {φ : Heap → Prop} (h : H a = some (.ext φ)) : H' a = some (.ext φ) := k.1 _ _ h (fun z => z)
theorem Kp.dom {H H' : Hp} (k : Kp H H') {a : Addr} {o : HO} (h : H a = some o) : ∃ o', H' a = some o' := by
  by_cases t : isTb o
  · obtain ⟨o', _, e⟩ := k.2 a o h t; exact ⟨o', e⟩
  · exact ⟨o, k.1 a o h t⟩
theorem Kp.trans {H H' H2 : Hp} (k : Kp H H') (l : Kp H' H2) : Kp H H2 := ⟨fun a o e n => l.1 a o (k.1 a o e n) n, fun a o e t => by
  obtain ⟨o', t', e'⟩ := k.2 a o e t
  exact l.2 a o' e' t'⟩
theorem Kp.new {H H' : Hp} (k : Kp H H') {a : Addr} {o : HO} (h : H a = none) : Kp H (upd H' a o) := by
  have ne : ∀ b u, H b = some u → b ≠ a := fun b u e z => by rw [z, h] at e; cases e
  exact ⟨fun b u e n => by rw [upd_ne (ne b u e)]; exact k.1 b u e n, fun b u e t => by rw [upd_ne (ne b u e)]; exact k.2 b u e t⟩
/-- after a call with the exception at a taken out and put back -/
theorem Kp.back {H H' : Hp} {a : Addr} {o : HO} (k : Kp (delH H a) H') (h : H a = some o) : Kp H (upd H' a o) := by
  refine ⟨fun b u e n => ?_, fun b u e t => ?_⟩
  · by_cases hb : b = a
    · subst hb; rw [upd_same, ← h, e]
    · rw [upd_ne hb]; exact k.1 b u (by rw [delH_ne hb]; exact e) n
  · by_cases hb : b = a
    · subst hb; exact ⟨u, t, by rw [upd_same, ← h, e]⟩
    · obtain ⟨o', t', e'⟩ := k.2 b u (by rw [delH_ne hb]; exact e) t
      exact ⟨o', t', by rw [upd_ne hb]; exact e'⟩
theorem Tr.kp {S S' : Addr → Prop} {H H' : Hp} {O O' : Addr → Prop} (t : Tr S H O S' H' O') (hS : ∀ a, ¬ S a) (hO : ∀ a, ¬ O a) : Kp H H' := by
  have nS : ∀ a o, H a = some o → ¬ S' a := fun a o e z => by
    rcases t.g a z with z | z | z
    · exact hS a z
    · exact hO a z
    · rw [z] at e; cases e
  refine ⟨fun b o e nt => ?_, fun b o e tb => ?_⟩
  · rcases t.keep b o e (hO b) with z | ⟨_, z, _⟩ | ⟨z, _⟩
    · exact z
    · exact absurd z (nS b o e)
    · exact absurd z nt
  · rcases t.keep b o e (hO b) with z | ⟨z, z2, _⟩ | ⟨_, z⟩
    · exact ⟨o, tb, z⟩
    · exact absurd z2 (nS b o e)
    · exact z
end G
set_option maxHeartbeats 2000000
/-! exceptions made here, tracked: made, asked, named, read -/
namespace G
open PySem PySem.Spec PyProof.Rows L2
/-- at a: an exception of the class at C, its dict -/
def ExD (C a : Addr) (pd : Option Addr) : HO := .ext fun h => ∃ (oe : Obj) (vs : Array Value), h.get? a = some oe ∧ Zc (.ref C) pd oe ∧ oe.data = .fields vs
theorem exd_ok' {P : Program} {w : World} {H : Hp} {h : Heap} {a C : Addr} {pd : Option Addr} {oe : Obj} {vs : Array Value} (e : h.get? a = some oe) (z : Zc (.ref C) pd oe) (d : oe.data = .fields vs) : ObjOk P w H h a (ExD C a pd) :=
  ⟨⟨oe, vs, e, z, d⟩, ⟨oe, e⟩, fun _ _ ⟨o, v, q, r⟩ k => ⟨o, v, k o q, r⟩⟩
section
variable {X : Cx} {pins : List (Addr × Obj)} {σ : L2.St} {H : Hp} {s : Shared}
theorem exD_at {a C : Addr} {pd : Option Addr} (I : Inv X pins σ H s) (h : H a = some (ExD C a pd)) : ∃ (oe : Obj) (vs : Array Value), s.heap.get? a = some oe ∧ Zc (.ref C) pd oe ∧ oe.data = .fields vs := (I.hok a _ h).1
/-- an exception is no frame -/
theorem exc_nofs {a : Addr} {φ : Heap → Prop} {oe : Obj} {vs : Array Value} (I : Inv X pins σ H s) (ha : H a = some (.ext φ)) (he : s.heap.get? a = some oe) (hd : oe.data = .fields vs) : a ∉ X.fs := fun m => by
  obtain ⟨_, o, ho, nf⟩ := I.ok.funs.mem m
  have hx : a ∉ X.ex := fun z => I.ok.exfs a z m
  obtain ⟨sl, q⟩ := I.base.slot a o ho (I.ok.frf a m) m hx
  rw [he] at q
  have := Option.some.inj q
  rw [this] at hd
  exact nf vs hd
theorem del_inv {a : Addr} {φ : Heap → Prop} (I : Inv X pins σ H s) (ha : H a = some (.ext φ)) : Inv X pins σ (delH H a) s := by
  have non : ∀ b, H b = none → b ≠ a := fun b e z => by rw [z, ha] at e; cases e
  have tup : ∀ b xs, H b = some (.tup xs) → b ≠ a := fun b xs e z => by rw [z, ha] at e; cases e
  have frz : ∀ b o u, H b = some (.frz o u) → b ≠ a := fun b o u e z => by rw [z, ha] at e; cases e
  have tbl : ∀ b ps, H b = some (.tbl ps) → b ≠ a := fun b ps e z => by rw [z, ha] at e; cases e
  have own : ∀ b c, H b = some (.own c) → b ≠ a := fun b c e z => by rw [z, ha] at e; cases e
  refine ⟨I.ok, I.os, I.bare, ⟨I.base.keep, I.base.slot, fun b o e n hq => ?_, I.base.there, fun b xs e => ?_, fun b o u e => ?_, fun b ps e => ?_⟩, I.loc, I.cell, ?_, fun x c e => ?_, fun q m => ?_, fun b u e => ?_, I.len⟩
  · have := I.base.free b o e n hq
    rw [delH_ne (non b this)]; exact this
  · have q := I.base.tups b xs e
    rw [delH_ne (tup b xs q)]; exact q
  · have q := I.base.frzs b o u e
    rw [delH_ne (frz b o u q)]; exact q
  · obtain ⟨m, q⟩ := I.base.tbls b ps e
    exact ⟨m, by rw [delH_ne (tbl b _ q)]; exact q⟩
  · rw [delH_ne (non _ I.free)]; exact I.free
  · rw [delH_ne (non _ (I.freeC x c e))]; exact I.freeC x c e
  · obtain ⟨p1, p2, p3, p4, p5⟩ := I.pin q m
    exact ⟨p1, by rw [delH_ne (non _ p2)]; exact p2, p3, p4, p5⟩
  · have hb : b ≠ a := fun z => by rw [z, delH_same] at e; cases e
    rw [delH_ne hb] at e
    refine (I.hok b u e).stay (fun c v _ q => q) (fun c q => ?_) fun c xs q => ?_
    · rw [delH_ne (own c b q)]; exact q
    · rw [delH_ne (tup c xs q)]; exact q
/-- tracked again -/
theorem add_inv {a : Addr} {o : HO} {H' : Hp} {s' : Shared} (I : Inv X pins σ H s) (ha : ∃ u, H a = some u) (J : Inv X pins σ H' s') (hn : H' a = none) (new : ObjOk X.prog X.w (upd H' a o) s'.heap a o) : Inv X pins σ (upd H' a o) s' := by
  obtain ⟨u0, ha⟩ := ha
  have non : ∀ b, H b = none → b ≠ a := fun b e z => by rw [z, ha] at e; cases e
  have neN : ∀ b u, H' b = some u → b ≠ a := fun b u e z => by rw [z, hn] at e; cases e
  refine ⟨J.ok, J.os, J.bare, ⟨J.base.keep, J.base.slot, fun b o e n hq => ?_, J.base.there, fun b xs e => ?_, fun b o u e => ?_, fun b ps e => ?_⟩, J.loc, J.cell, ?_, fun x c e => ?_, fun q m => ?_, fun b u e => ?_, J.len⟩
  · rw [upd_ne (non b (I.base.free b o e n hq))]; exact J.base.free b o e n hq
  · have q := J.base.tups b xs e
    rw [upd_ne (neN b _ q)]; exact q
  · have q := J.base.frzs b o u e
    rw [upd_ne (neN b _ q)]; exact q
  · obtain ⟨m, q⟩ := J.base.tbls b ps e
    exact ⟨m, by rw [upd_ne (neN b _ q)]; exact q⟩
  · rw [upd_ne (non _ I.free)]; exact J.free
  · rw [upd_ne (non _ (I.freeC x c e))]; exact J.freeC x c e
  · obtain ⟨p1, p2, p3, p4, p5⟩ := J.pin q m
    exact ⟨p1, by rw [upd_ne (non _ (I.pin q m).2.1)]; exact p2, p3, p4, p5⟩
  · by_cases hb : b = a
    · subst hb
      rw [upd_same] at e
      cases e
      exact new
    · rw [upd_ne hb] at e
      exact (J.hok b u e).stay (fun _ _ _ q => q) (fun c q => by rw [upd_ne (neN c _ q)]; exact q) fun c xs q => by rw [upd_ne (neN c _ q)]; exact q
/-- isinstance(e, T) -/
def rIsT (K : PySem.W.Frag) : List V → Hp → VK → Prop := fun xs H Q => ∃ (a C : Addr) (pd : Option Addr) (c : V) (cv : Value) (b : Bool), xs = [.ref a, c] ∧ H a = some (ExD C a pd) ∧ XdK H pd ∧ (∀ u, RelV c u → u = cv) ∧ ExcC K C ∧ PySem.W.kitOne K (.ref C) cv = some b ∧ Q (.bl b) H
theorem call_isT : CallR X (.builtin "isinstance") (rIsT X.K) := by
  intro pins s σ H xs us Q I r h
  obtain ⟨a, C, pd, c, cv, b, rfl, ha, hxd, hcv, T, hk, q⟩ := h
  obtain ⟨oe, vs, hget, hz, hv⟩ := exD_at I ha
  cases r with
  | @cons _ u0 _ ur r0 r' => cases r' with
  | @cons _ u1 _ ur r1 r'' =>
  cases r''
  obtain rfl : u0 = Value.ref a := r0
  obtain rfl := hcv _ r1
  have J : ∃ od, PySem.W.InstAt s.heap a oe C od := by
    obtain ⟨h1, h2⟩ := hz
    rcases hxd with hpd | ⟨d, fs, hpd, hd⟩
    · exact ⟨none, hget, h1, by unfold PySem.W.notCls; rw [hv] <;> rfl, by rw [h2, hpd]; trivial⟩
    · have hxd : ObjOk X.prog X.w H s.heap d (.xd fs) := I.hok d _ hd
      obtain ⟨mA, hns, hr⟩ := hxd
      obtain ⟨od, ho, hl⟩ := lookIn_ns hns
      exact ⟨some od, hget, h1, by unfold PySem.W.notCls; rw [hv] <;> rfl, by rw [h2, hpd]; exact ho⟩
  obtain ⟨od, J⟩ := J
  have hcl : (PySem.W.clsIn X.K C).isSome = true := by obtain ⟨cd, hc, _⟩ := PySem.W.any_some T.hd; rw [hc]; rfl
  exact PySem.W.kia_one (PySem.W.kitx_exc (od := od) hcl T.hg T.hk T.hs T.ha T.hn T.ht T.hm) I.kIn J hk (fun z => nomatch z) fun tk => ⟨.bl b, H, I.kept (t' := tk) fun _ _ z => z, rfl, q⟩
end
section
variable {X : Cx} {Γ : Gx} {k j : Nat} {F : SE} {x q f : Str} {e : Expr} {ta : TA} {te : TE} {p p1 pos : Pos}
/-- f(e), e a tracked exception, f a def that is walked for caught ones -/
theorem pe_nameT (c : CalledH X.prog X.w X.K X.mg X.base Γ k x [q] F) (hT : Γ.T = []) (hr : Room j X.A) (gx : GX X) (ha : PA X [e] ta) (hj : k ≤ j := by decide) (hg : Gl X x := by rfl) (hdb : (x == ("__debug__" : Str)) = false := by decide)
    (hs : starEach [e] X.env = (false, eval e X.env) :: starEach [] X.env := by rfl) (hpl : (backTo pos (starEach [] X.env)).any (·.1) = false := by rfl) :
    PE X (.Call (.Name x p) [e] [] pos) (fun σ H Q => ta σ H fun vs H1 => ∃ (a C : Addr) (pd : Option Addr) (n : Xn) (m : Str), vs = [.ref a] ∧ H1 a = some (ExD C a pd) ∧ (n.cls, C) ∈ Γ.es ∧ pd ≠ some a ∧ XdAt H1 pd n.pl ∧ (∃ outs, F [.exc n] = .ok (.val (.str m), outs)) ∧ ∀ H', Kp H1 H' → Q (.str m) H') := by
  obtain ⟨f, fd, gg, hm, hk, hb⟩ := c.ex
  refine ⟨fun pins s σ H Q I h => ?_⟩
  refine wpAny_Call_Name_kw (ld_glob I hg hm ?_ hdb)
  refine PySem.W.callWith_K (h₀ := X.base) I.ok.mod.kin hk (thn (ha.run pos pins s σ H _ I h) fun us s1 ⟨vs, H1, I1, r, a, C, pd, n, m, ev, hx, hn, hpa, hxd, ⟨outs, hF⟩, hq⟩ => ⟨I1.kIn, ?_⟩) hs hpl
  subst ev
  obtain ⟨oe, fs, ho, hz, hf⟩ := exD_at I1 hx
  have J := del_inv I1 hx
  have nofs : a ∉ frs X.stack := fun z => by
    rcases List.mem_cons.mp (I1.stkSub _ z) with y | y
    · rw [y, I1.free] at hx; cases hx
    · exact exc_nofs I1 hx ho hf y
  have noOw : ∀ b, ¬ Ow (pst [V.ref a]) [.exc n] b := fun b ⟨i, z, _⟩ => by
    match i, z with
    | 0, z => cases z
    | i + 1, z => cases z
  have hxd' : XdAt (delH H1 a) pd n.pl := by
    cases hpl' : n.pl with
    | none => rw [hpl'] at hxd; exact hxd
    | some w =>
      rw [hpl'] at hxd
      obtain ⟨d, e1, e2⟩ := hxd
      refine ⟨d, e1, ?_⟩
      rw [delH_ne fun z => hpa (by rw [e1, z])]
      exact e2
  have rp : Rp X.K (A0p (Γ.hot a C pd) [V.ref a] [.exc n]) (fun _ => False) (delH H1 a) (pst [V.ref a]) [.exc n] := by
    refine ⟨rfl, fun i b hb => ?_, fun i j b z _ => (noOw b ⟨i, z⟩).elim, fun _ z => z.elim, fun i d b z _ => ?_, fun i b z => ?_, fun z hz => ?_⟩
    · match i, hb with
      | 0, hb => cases hb; exact ⟨hn, rfl, hxd'⟩
      | i + 1, hb => cases hb
    · match i, z with
      | 0, z => cases z
      | i + 1, z => cases z
    · match i, z with
      | 0, z => cases z
      | i + 1, z => cases z
    · have hz : z ∈ Γ.T := hz
      rw [hT] at hz
      cases hz
  refine wpAny_call (codeAny_mono (gg.run X.A X.stack s1 (delH H1 a) ⟨us, []⟩ us [V.ref a] (fun v H' => v = .str m ∧ Kp (delH H1 a) H') (fun _ => False) [.exc n] (a, oe) C pd ⟨(hr.mono hj).dp, (hr.mono hj).un⟩ gx.gd ⟨ho, delH_same, nofs, fun v z => by
    have z : oe.data = .cell v := z
    rw [hf] at z; cases z⟩ hz ⟨fs, hf⟩ J.env0 (by
    have := hb s1 us I1.kIn (by rw [List.append_nil, ← r.length]; rfl)
    rw [List.append_nil] at this
    exact this) r rfl (fun i d z => by
      match i, z with
      | 0, z => cases z
      | i + 1, z => cases z) rp (by
      rw [hF]
      intro S' H' v t _ re
      have re : Dr X.K S' H' v (.str m) := re
      exact ⟨(show Dw X.K S' H' v (.str m) from .inl re).str, t.kp (fun _ z => z) noOw⟩)) fun r s' hq' => ?_)
  cases r with
  | error e => exact (show False from hq').elim
  | ok fl =>
    cases fl with
    | ret u =>
      obtain ⟨v0, H0', b1, b2, un, b4, b5, b6⟩ := hq'
      have ha' : s'.heap.get? a = some oe := un.keep a oe ho delH_same nofs (fun z => nomatch z)
      have hn' : H0' a = none := un.free a oe ho delH_same (fun z => nomatch z)
      obtain ⟨v, H', I2, rv, ⟨ev, kp⟩, hna⟩ := J.after (Q := fun v H' => (v = .str m ∧ Kp (delH H1 a) H') ∧ H' a = none) ⟨v0, H0', b1, b2, un, b4, b5, b6, hn'⟩
      subst ev
      exact ⟨_, _, add_inv I1 ⟨_, hx⟩ I2 hna (exd_ok' ha' hz hf), rv, hq _ (kp.back hx)⟩
    | _ => exact False.elim hq'
/-- e.f, e a tracked exception with a dict -/
theorem pe_attrT {K : PySem.W.Frag} (he : PE X e te) (hK : X.K = K := by rfl) (hb : attributeBase e f X.env (eval e X.env) = eval e X.env := by rfl) :
    PE X (.Attribute e f pos) (fun σ H Q => te σ H fun y H1 => ∃ (a C d : Addr) (fs : List (Str × V)) (v : V), y = .ref a ∧ H1 a = some (ExD C a (some d)) ∧ XfC K C ∧ PySem.W.findIn K (.ref C) f = some none ∧ H1 d = some (.xd fs) ∧ fs.lookup f = some v ∧ Q v H1) := by
  subst hK
  refine ⟨fun pins s σ H Q I h => ?_⟩
  refine attr_of hb (thn (he.run pins s σ H _ I h) fun u s1 hh => ?_)
  obtain ⟨y, H1, I1, ry, a, C, d, fs, v, rfl, ha, T, hno, hdd, hl0, hq⟩ := hh
  obtain rfl : u = Value.ref a := ry
  obtain ⟨oe, vs, hget, hz, hdat⟩ := exD_at I1 ha
  have hxd : ObjOk X.prog X.w H1 s1.heap d (.xd fs) := I1.hok d _ hdd
  obtain ⟨mA, hns, hr⟩ := hxd
  obtain ⟨od, ho, hl⟩ := lookIn_ns hns
  obtain ⟨u, hu, ru⟩ := RelO.some_of (v := v) (o := mA f) (by rw [← hl0]; exact hr f)
  have J : PySem.W.InstAt s1.heap a oe C (some od) := ⟨hget, hz.1, by unfold PySem.W.notCls; rw [hdat] <;> rfl, by rw [hz.2]; exact ho⟩
  exact HandSPX.exc_get I1.kIn J T.ga T.gg T.exC (PySem.W.findObj_own T.hdC hno rfl (by rw [hl, hu])) (handed_of ru) ⟨_, H1, I1.tok _, ru, hq⟩
end
theorem pe_isT {X : Cx} {K : PySem.W.Frag} {e : Expr} {es : List Expr} {ta : TA} {p pos : Pos} (z : X.mg "isinstance" = none) (ha : PA X (e :: es) ta) (hK : X.K = K := by rfl) (hg : Gl X "isinstance" := by rfl) (he : starEach (e :: es) X.env = (false, eval e X.env) :: starEach es X.env := by rfl) (hpl : (backTo pos (starEach es X.env)).any (·.1) = false := by rfl) :
    PE X (.Call (.Name "isinstance" p) (e :: es) [] pos) (tCB (rIsT K) ta) := by
  subst hK
  exact pe_callB call_isT hg z PyProof.Rows.boot_isinstance ha (by decide) (by decide) he hpl
/-! ### made -/
section
variable {X : Cx} {pins : List (Addr × Obj)} {σ : L2.St} {H : Hp} {s : Shared} {k j : Nat} {x : Str} {p p1 p2 p3 p4 pos : Pos} {j1 j2 : Nat}
theorem upd_upd {H : Hp} {a : Addr} {o u : HO} : upd (upd H a o) a u = upd H a u := by
  funext b
  by_cases h : b = a
  · rw [h, upd_same, upd_same]
  · rw [upd_ne h, upd_ne h, upd_ne h]
theorem upd_comm {H : Hp} {a b : Addr} {o u : HO} (h : b ≠ a) : upd (upd H a o) b u = upd (upd H b u) a o := by
  funext c
  by_cases h1 : c = a
  · subst h1
    rw [upd_ne (Ne.symm h), upd_same, upd_same]
  · by_cases h2 : c = b
    · subst h2
      rw [upd_same, upd_ne h1, upd_same]
    · rw [upd_ne h2, upd_ne h1, upd_ne h1, upd_ne h2]
def tX (C : Addr) : TE := fun _ H Q => ∀ a, H a = none → Q (.ref a) (upd H a (ExD C a none))
theorem pe_excT {C : Addr} {bmB : List Value} {B newId initId : String} {m : Str} (F : ExcBaseFacts B newId initId bmB) (q : PySem.W.excIn X.K C bmB newId = true) (gC : X.mg x = some (.ref C)) (kC : PySem.W.keepIn X.K (.ref C) = true) (hg : Gl X x := by rfl) (hdb : (x == ("__debug__" : Str)) = false := by decide) :
    PE X (.Call (.Name x p) [.Constant (.str m) j1 p1] [] pos) (tX C) := by
  refine ⟨fun pins s σ H Q I h => ?_⟩
  refine thn ((pe_exc1 (p := p) (pos := pos) F q gC kC hg (pe_str (x := m) (j := j1) (pos := p1)) (by rfl) hdb).run pins s σ H (fun v H' => ∃ a, v = .ref a ∧ H' = upd H a (ExO (.ref C) a) ∧ Q (.ref a) (upd H a (ExD C a none))) I fun a ha => ⟨a, rfl, rfl, h a ha⟩) ?_
  rintro u s' ⟨v, H', I', r, a, rfl, rfl, hq⟩
  obtain ⟨⟨oe, vs, ho, hz, hd, _⟩, _, _⟩ := I'.hok a _ upd_same
  have J := Inv.seen (o := ExD C a none) I' upd_same (exd_ok' ho hz hd)
  rw [upd_upd] at J
  exact ⟨_, _, J, r, hq⟩
/-- what LimitError(a, b) lays -/
def limT (C : Addr) (a b : Int) (e d : Addr) (H : Hp) : Hp := upd (upd H e (ExD C e (some d))) d (.xd (limFs a b))
theorem lim_seen {C e d : Addr} {a b : Int} (I : Inv X pins σ (limH C (.int a) (.int b) e d H) s) (ne : d ≠ e) : Inv X pins σ (limT C a b e d H) s := by
  unfold limH at I
  have he : upd (upd H e (exo e C (some d))) d (exd d [("limit", V.int b), ("amount", V.int a)]) e = some (exo e C (some d)) := by rw [upd_ne (Ne.symm ne), upd_same]
  obtain ⟨t0, ho⟩ := exo_at I.hok he
  obtain ⟨mA, hns, rel⟩ := exd_at I.hok upd_same
  have J := Inv.seen (o := .xd (limFs a b)) I upd_same ⟨mA, hns, rel⟩
  rw [upd_upd] at J
  have he' : upd (upd H e (exo e C (some d))) d (.xd (limFs a b)) e = some (exo e C (some d)) := by rw [upd_ne (Ne.symm ne), upd_same]
  have J2 := Inv.seen (o := ExD C e (some d)) J he' (exd_ok' ho ⟨rfl, rfl⟩ rfl)
  rw [← upd_comm (Ne.symm ne), upd_upd] at J2
  unfold limT
  rw [upd_comm ne]
  exact J2
def tLm (X : Cx) (x : Str) (a b : Int) : TE := fun _ H Q => ∀ C e d, X.mg x = some (.ref C) → H e = none → H d = none → d ≠ e → Q (.ref e) (limT C a b e d H)
theorem pe_limT {a b : Int} (L : LimD X.prog X.w X.K X.mg X.base k x) (hr : Room j X.A) (hg : Gl X x := by rfl) (hj : k + 1 ≤ j := by decide) (hdb : (x == ("__debug__" : Str)) = false := by decide) :
    PE X (.Call (.Name x p) [.Constant (.int a) j1 p1, .Constant (.int b) j2 p2] [] pos) (tLm X x a b) := by
  refine ⟨fun pins s σ H Q I h => ?_⟩
  have pa : PA X [.Constant (.int a) j1 p1, .Constant (.int b) j2 p2] (tCons (tC (.int a)) (tCons (tC (.int b)) tNil)) := pa_cons pe_int (pa_cons pe_int pa_nil)
  refine thn ((pe_limV (p := p) (pos := pos) L hr hg pa hj hdb (by rfl) (by rfl)).run pins s σ H (fun v H' => ∃ C e d, v = .ref e ∧ H' = limH C (.int a) (.int b) e d H ∧ d ≠ e ∧ Q (.ref e) (limT C a b e d H)) I ⟨_, _, rfl, fun C e d hm h1 h2 ne => ⟨C, e, d, rfl, rfl, ne, h C e d hm h1 h2 ne⟩⟩) ?_
  rintro u s' ⟨v, H', I', r, C, e, d, rfl, rfl, ne, hq⟩
  exact ⟨_, _, lim_seen I' ne, r, hq⟩
theorem pe_limKwT {a b : Int} (L : LimDK X.prog X.w X.K X.mg X.base k x) (hr : Room j X.A) (hg : Gl X x := by rfl) (hj : k + 1 ≤ j := by decide) (hdb : (x == ("__debug__" : Str)) = false := by decide) :
    PE X (.Call (.Name x p) [] [⟨some "limit", .Constant (.int b) j1 p1, p3⟩, ⟨some "amount", .Constant (.int a) j2 p2, p4⟩] pos) (tLm X x a b) := by
  refine ⟨fun pins s σ H Q I h => ?_⟩
  have pk : PK X [⟨some "limit", .Constant (.int b) j1 p1, p3⟩, ⟨some "amount", .Constant (.int a) j2 p2, p4⟩] (tCons (tC (.int b)) (tCons (tC (.int a)) tNil)) := pk_cons pe_int (pk_cons pe_int pk_nil)
  refine thn ((pe_limKw (p := p) (pos := pos) L hr hg pk hj (by rfl) (by rfl) hdb (by rfl)).run pins s σ H (fun v H' => ∃ C e d, v = .ref e ∧ H' = limH C (.int a) (.int b) e d H ∧ d ≠ e ∧ Q (.ref e) (limT C a b e d H)) I ⟨_, _, rfl, fun C e d hm h1 h2 ne => ⟨C, e, d, rfl, rfl, ne, h C e d hm h1 h2 ne⟩⟩) ?_
  rintro u s' ⟨v, H', I', r, C, e, d, rfl, rfl, ne, hq⟩
  exact ⟨_, _, lim_seen I' ne, r, hq⟩
end
end G
set_option maxHeartbeats 2000000
/-! a def walked by hand that returns True; LimitError by its words at the end -/
namespace G
open PySem PySem.Spec PyProof.Rows L2
section
variable {P : Program} {w : World} {K : PySem.W.Frag} {mg : Str → Option Value} {base : Heap} {Γ : Gx}
theorem hand_true {dV : Value} {x qual : Str} {st : Stmt} {f : Addr} {fd : FuncData} {N : List Str} {k : Nat} {F : SE} (hF : F [] = .ok (.val (.bool true), [])) (hT0 : Γ.T = []) (FE : FnEx K dV x qual st f fd) (S : FnScope N [] (defScope st)) (sys : SysOk base)
    (hbody : ∀ (cdv : Value) (A : Around) (outer : List Env) (s : Shared) (H : Hp) (E : XK), Room k (cxOf (CX P w) P w K mg base N qual (defScope st) f cdv A outer s H E).A → GX (cxOf (CX P w) P w K mg base N qual (defScope st) f cdv A outer s H E) →
      ∃ T : TS, PSs (cxOf (CX P w) P w K mg base N qual (defScope st) f cdv A outer s H E) (defBody st) T ∧ ∀ D : Ends, (∀ H', Kp H H' → D.rt (.bl true) H') → T D (L2.start N []) H) :
    FnG P w K mg base Γ (k + 1) f fd [] F := by
  obtain ⟨oc, od, kV, doc, pm, an, cdv, ct, osl, rfl, lk, hcd⟩ := FE
  refine ⟨fun A outer s H args us vs Q E S0 bs hr hgd e0 hb r hl hbs rp hP => ?_⟩
  have KX : K.In s.heap := e0.mod.kin.keeps fun b o e => (e0.bs b o e).1
  have lim : s.heap.NoLimit := e0.mod.nolimit.keeps fun b o e => (e0.bs b o e).1
  obtain rfl : vs = [] := List.length_eq_zero_iff.mp hl
  cases r
  have hbl : bs = [] := List.length_eq_zero_iff.mp rp.len.symm
  subst hbl
  have hkind : ∀ y ∈ ([] : List Str).zip ([] : List Value), (defScope st).names.lookup y.1 = some .local ∨ ((defScope st).names.lookup y.1 = some .cell ∧ ((cellsFrom (s.heap.objs.size + 1) (defScope st).names []).lookup y.1).isSome = true) := fun y hy => by cases hy
  refine codeAny_call_function hr.depth (KX _ _ lk) rfl S.co S.gen rfl (PySem.W.codeRec_of KX hcd) (hb _ _ _ _ ?_)
  refine wpAny_newFunctionEnv_cells S.kind hkind fun env he s1 x => ?_
  subst he
  refine ⟨lim.keeps x.toInCall.keep, codeAny_func ?_⟩
  have hrd : Room k (A.deeper (envOfC qual (defScope st) s.heap.objs.size f cdv)) := hr.deeper _
  obtain ⟨T, ht, hT⟩ := hbody cdv A outer s H E hrd ⟨hgd, sys, by have := hrd.un; show (A.deeper (envOfC qual (defScope st) s.heap.objs.size f cdv)).units + 150 < _; omega⟩
  have I : Inv (cxOf (CX P w) P w K mg base N qual (defScope st) f cdv A outer s H E) [] (L2.start N []) H s1 := inv_start S hr.hd e0 rfl .nil x
  have fin : ∀ {σ' : St} {H' : Hp} {v : V} {u : Value} {s' : Shared}, Inv (cxOf (CX P w) P w K mg base N qual (defScope st) f cdv A outer s H E) [] σ' H' s' → RelV v u → Q v H' → CE outer P w H s Q u s' :=
    fun {σ' H' v u s'} J rv q => ⟨v, H', J.os, J.bare, J.base, J.hok, rv, q⟩
  rw [hF] at hP
  have noOw : ∀ b, ¬ Ow (pst []) [] b := fun b ⟨i, z, _⟩ => by cases i <;> cases z
  refine wpAny_mono (ht.run [] s1 (L2.start N []) H { nx := fun _ _ => False, rt := Q } I (hT _ fun H' kp => ?_)) (fun fl s' hs => ?_) fun e s' hs => hs
  · have hP : ∀ S' H' v, Tr S0 H (Ow (pst []) []) S' H' (Ow (pst []) []) → Rp K (A0p Γ [] []) S' H' (pst []) [] → RE K (A0p Γ [] []) H S' H' (pst []) [] v (.val (.bool true)) → Q v H' := hP
    refine hP S0 H' (.bl true) ⟨fun _ z => z, fun a o e _ => ?_, fun a o e => kp.dom e, fun a z => (noOw a z).elim, fun a z => .inl z⟩ ⟨rfl, (fun i b z => by cases i <;> cases z), fun i j a z _ => (noOw a ⟨i, z⟩).elim, fun a z => ?_, (fun i d a z => by cases i <;> cases z), fun j a z => ?_, fun z hz => ?_⟩ (.bl true)
    · by_cases t : isTb o
      · exact .inr (.inr ⟨t, kp.2 a o e t⟩)
      · exact .inl (kp.1 a o e t)
    · obtain ⟨o, e⟩ := rp.al a z
      exact kp.dom e
    · obtain ⟨o, e⟩ := rp.aa j a z
      exact kp.dom e
    · have hz : z ∈ Γ.T := hz
      rw [hT0] at hz
      cases hz
  · cases fl with
    | ret u =>
      obtain ⟨v, σ', H', J, rv, q⟩ := hs
      exact fin J rv q
    | next =>
      obtain ⟨σ', H', J, q⟩ := hs
      exact False.elim q
    | brk =>
      obtain ⟨_, _, _, q⟩ := hs
      exact False.elim q
    | cont =>
      obtain ⟨_, _, _, q⟩ := hs
      exact False.elim q
end
end G
set_option maxHeartbeats 2000000
/-! lists of exceptions: made, walked -/
namespace G
open PySem PySem.Spec PyProof.Rows L2
structure Ent where
  a : Addr
  C : Addr
  pd : Option Addr
  n : Xn
  m : Str
structure EntOk (Γ : Gx) (F : SE) (H : Hp) (e : Ent) : Prop where
  at_ : H e.a = some (ExD e.C e.a e.pd)
  es : (e.n.cls, e.C) ∈ Γ.es
  ne : e.pd ≠ some e.a
  xd : XdAt H e.pd e.n.pl
  nm : ∃ outs, F [.exc e.n] = .ok (.val (.str e.m), outs)
theorem EntOk.kp {Γ : Gx} {F : SE} {H H' : Hp} {e : Ent} (h : EntOk Γ F H e) (k : Kp H H') : EntOk Γ F H' e := ⟨k.ext h.at_, h.es, h.ne, XdAt.keep (fun _ _ q => k.xd q) h.xd, h.nm⟩
def tXs (t : TA) : List (Addr × Xn × Str) → TA
  | [] => t
  | c :: cs => tCons (tX c.1) (tXs t cs)
theorem tXs_ok {Γ : Gx} {F : SE} {t : TA} {σ : L2.St} : ∀ {cs : List (Addr × Xn × Str)} {H : Hp} {Q : List V → Hp → Prop}, (∀ c ∈ cs, (c.2.1.cls, c.1) ∈ Γ.es ∧ c.2.1.pl = none ∧ ∃ outs, F [.exc c.2.1] = .ok (.val (.str c.2.2), outs)) →
    (∀ (es : List Ent) (H' : Hp), Kp H H' → (∀ e ∈ es, EntOk Γ F H' e) → es.map (·.m) = cs.map (·.2.2) → t σ H' fun zs H2 => Q (es.map (fun e => V.ref e.a) ++ zs) H2) → tXs t cs σ H Q
  | [], H, Q, _, h => h [] H (Kp.refl H) nofun rfl
  | c :: cs, H, Q, hc, h => by
    intro a ha
    obtain ⟨c1, c2, c3⟩ := hc c (List.mem_cons_self ..)
    refine tXs_ok (Γ := Γ) (F := F) (fun d hd => hc d (List.mem_cons_of_mem _ hd)) fun es H' k ok e => ?_
    have k0 : Kp H H' := (Kp.new (Kp.refl H) ha).trans k
    exact h (⟨a, c.1, none, c.2.1, c.2.2⟩ :: es) H' k0 (fun x hx => by
      rcases List.mem_cons.mp hx with rfl | hx
      · exact ⟨k.ext upd_same, c1, nofun, by rw [c2]; rfl, c3⟩
      · exact ok x hx) (by rw [List.map_cons, List.map_cons, e])
theorem tXs_nil {Γ : Gx} {F : SE} {σ : L2.St} {cs : List (Addr × Xn × Str)} {H : Hp} {Q : List V → Hp → Prop} (hc : ∀ c ∈ cs, (c.2.1.cls, c.1) ∈ Γ.es ∧ c.2.1.pl = none ∧ ∃ outs, F [.exc c.2.1] = .ok (.val (.str c.2.2), outs))
    (h : ∀ (es : List Ent) (H' : Hp), Kp H H' → (∀ e ∈ es, EntOk Γ F H' e) → es.map (·.m) = cs.map (·.2.2) → Q (es.map fun e => V.ref e.a) H') : tXs tNil cs σ H Q :=
  tXs_ok hc fun es H' k ok e => by
    have := h es H' k ok e
    show Q (es.map (fun e => V.ref e.a) ++ []) H'
    rw [List.append_nil]; exact this
def nmF : Rs (Ev × List B) → Option Str
  | .ok (.val (.str m), _) => some m
  | _ => none
theorem nm_ex {r : Rs (Ev × List B)} {m : Str} (h : nmF r = some m) : ∃ outs, r = .ok (.val (.str m), outs) := by
  unfold nmF at h
  split at h
  · cases h; exact ⟨_, rfl⟩
  · cases h
theorem Kp.none {H H' : Hp} (k : Kp H H') {a : Addr} (h : H' a = Option.none) : H a = Option.none := by
  cases e : H a with
  | none => rfl
  | some o => obtain ⟨o', e'⟩ := k.dom e; rw [h] at e'; cases e'
/-- tuples stay -/
def Tk (H H' : Hp) : Prop := ∀ b xs, H b = some (.tup xs) → H' b = some (.tup xs)
theorem Kp.tk {H H' : Hp} (k : Kp H H') : Tk H H' := fun b xs e => k.1 b _ e (fun z => z)
theorem paired_app {α β : Type} {R : α → β → Prop} : ∀ {xs : List α} {ys : List β} {x : α} {y : β}, Paired R xs ys → R x y → Paired R (xs ++ [x]) (ys ++ [y])
  | _, _, _, _, .nil, h => .cons h .nil
  | _, _, _, _, .cons a b, h => .cons a (paired_app b h)
theorem lc_ents {K : PySem.W.Frag} {i : Nat} {te : TE} {σ : L2.St} {H1 : Hp} {Q : VK} {la : Addr} {es : List Ent} {s0 s1 s2 s3 : Option V} (R : Ent → V → Hp → Prop) (hσ : σ = [s0, s1, s2, s3]) (hi : σ[i]? = some (some (.ref la))) (hla : H1 la = some (.lst (es.map fun e => V.ref e.a))) (hn : es.length < 100)
    (hR : ∀ e v H H', Tk H H' → R e v H → R e v H')
    (hs : ∀ e ∈ es, ∀ (H : Hp) (Q : VK), Kp H1 H → (∀ y H', Kp H H' → R e y H' → Q y H') → te [s0, s1, s2, some (.ref e.a)] H Q)
    (hq : ∀ D ys H', Kp H1 H' → H1 D = none → H' D = some (.lst ys) → Paired (fun y e => R e y H') ys es → Q (.ref D) H') :
    tLc (iList K (tVar i)) (gName 3) tYes te [3] σ H1 Q := by
  subst hσ
  refine ⟨_, hi, la, rfl, ⟨_, .inl (.inl hla)⟩, fun D hD => ?_⟩
  have neD : la ≠ D := fun z => by rw [z, hD] at hla; cases hla
  refine lc_list (xs := es.map fun e => V.ref e.a) (fun i H => Kp H1 H ∧ ∃ ys, H D = some (.lst ys) ∧ Paired (fun y e => R e y H) ys (es.take i)) ⟨Kp.new (Kp.refl H1) hD, [], upd_same, .nil⟩ (fun j H _ p => .inl (.inl (p.1.lst hla))) (fun j x H hx p => ?_) (fun H p => ?_)
  · obtain ⟨k, ys, hy, pr⟩ := p
    rw [List.getElem?_map] at hx
    cases he : es[j]? with
    | none => rw [he] at hx; cases hx
    | some e =>
      rw [he] at hx
      cases hx
      refine ⟨rfl, ?_⟩
      unfold tYes
      dsimp only
      rw [if_pos rfl]
      refine hs e (List.mem_of_getElem? he) H _ k fun y H' k' r => ⟨ys, k'.lst hy, ?_, Kp.new (k.trans k') hD, _, upd_same, ?_⟩
      · rw [pr.length, List.length_take, sizeLine_eq]; omega
      · have tk : Tk H' (upd H' D (.lst (ys ++ [y]))) := fun b xs e => by
          have : b ≠ D := fun z => by rw [z, k'.lst hy] at e; cases e
          rw [upd_ne this]; exact e
        have tk0 : Tk H (upd H' D (.lst (ys ++ [y]))) := fun b xs e => tk b xs (k'.tk b xs e)
        rw [List.take_succ, he]
        exact paired_app (Paired.mapP pr fun v f q => hR _ _ _ _ tk0 q) (hR _ _ _ _ tk r)
  · obtain ⟨k, ys, hy, pr⟩ := p
    rw [List.length_map, List.take_length] at pr
    exact hq D ys H k hD hy pr
theorem st_lst {t : TA} {i : Nat} {u : TS} {D : Ends} {σ : L2.St} {H : Hp} (h : t σ H fun xs H1 => xs.length ≤ sizeLine ∧ ∀ p, H1 p = none → u D (σ.set i (some (.ref p))) (upd H1 p (.lst xs))) : tSeq (tAsg (tLst t) (gName i)) u D σ H := h
theorem st_cat {t : TA} {i j : Nat} {u : TS} {D : Ends} {σ : L2.St} {H : Hp} {v : V} (hv : σ[i]? = some (some v)) (h : t σ H fun zs H1 => zs.length ≤ sizeLine ∧ ∀ p, H1 p = none → rCat v (.ref p) (upd H1 p (.lst zs)) fun y H2 => u D (σ.set j (some y)) H2) :
    tSeq (tAsg (tOp rCat (tVar i) (tLst t)) (gName j)) u D σ H := ⟨v, hv, h⟩
theorem limT_new {C a d : Addr} {x y : Int} {H : Hp} (ha : H a = none) (hd : H d = none) (ne : d ≠ a) : Kp H (limT C x y a d H) := Kp.new (Kp.new (Kp.refl H) ha) hd
theorem limT_ent {Γ : Gx} {F : SE} {C a d : Addr} {x y : Int} {H : Hp} {n m : Str} (ne : d ≠ a) (es : (n, C) ∈ Γ.es) (nm : ∃ outs, F [.exc ⟨n, some (x, y)⟩] = .ok (.val (.str m), outs)) : EntOk Γ F (limT C x y a d H) ⟨a, C, some d, ⟨n, some (x, y)⟩, m⟩ :=
  ⟨by show limT C x y a d H a = _; unfold limT; rw [upd_ne (Ne.symm ne), upd_same], es, fun z => ne (Option.some.inj z), ⟨d, rfl, by unfold limT; exact upd_same⟩, nm⟩
theorem st_if {r : R2} {ta tb : TE} {t u : TS} {D : Ends} {σ : L2.St} {H : Hp} (h : ta σ H fun x H1 => tb σ H1 fun y H2 => r x y H2 fun z H3 => ∃ k, z = .bl k ∧ if k = true then t { D with nx := u D } σ H3 else u D σ H3) :
    tSeq (tIfS (tTest (tOp r ta tb)) t tNext) u D σ H := h
theorem paired_eq {f : Ent → V} : ∀ {ys : List V} {es : List Ent}, Paired (fun y e => y = f e) ys es → ys = es.map f
  | _, _, .nil => rfl
  | _, _, .cons h t => by rw [List.map_cons, h, paired_eq t]
theorem dp_strs {K : PySem.W.Frag} {H : Hp} : ∀ ms : List Str, DpAll K H (ms.map V.str) (ms.map PyData.str)
  | [] => .nil
  | m :: ms => .cons (.str m) (dp_strs ms)
theorem dp_pairs {K : PySem.W.Frag} {H : Hp} {x y : Int} : ∀ {ys : List V} {es : List Ent}, Paired (fun v _ => ∃ p, v = V.ref p ∧ H p = some (.tup [.int x, .int y])) ys es → DpAll K H ys (es.map fun _ => .tuple [.int x, .int y])
  | _, _, .nil => .nil
  | _, _, .cons ⟨p, e, h⟩ t => by
    subst e
    exact .cons (.tup (.inl (.inl h)) (.cons (.int x) (.cons (.int y) .nil))) (dp_pairs t)
theorem st_ret {r : List V → Hp → VK → Prop} {te : TE} {D : Ends} {σ : L2.St} {H : Hp} (h : te σ H fun v H1 => r [v] H1 D.rt) : tRet (tCB r (tCons te tNil)) D σ H := h
theorem limDK_mk {h : Heap} {K : PySem.W.Frag} {mg : Str → Option Value} {x y qual : Str} {C D fI : Addr} {st : Stmt} {oc dV : Value} {od an : Option Addr} {osl : Array (Option Value)} {kV doc pm cdv ct : Value} (X : K.In h) (G : h.Ns mainGlobals mg)
    (a : PySem.W.nsIn K mainGlobals x = some (some (.ref C))) (b : PySem.W.nsIn K mainGlobals y = some (some (.ref D))) (iC : PySem.W.findIn K (.ref C) "__init__" = some (some (.ref fI)))
    (l : K.lookup fI = some ⟨oc, od, .func (PySem.W.fnOf "__init__" qual (defArgs st) (L2.defBody st) (defScope st) dV kV doc pm an cdv ct), osl⟩) (c : PySem.W.codeIn K cdv qual = true) (tI : PySem.W.typeIn K (.ref fI) = some (.type "function"))
    (kp : PySem.W.keepIn K (.ref C) = true) (oe : limCB K C = true) (kp2 : PySem.W.keepIn K (.ref C) = true)
    (sp : PySem.W.specialIn K (.ref D) "__getattribute__" = some (some (.builtin "type.__getattribute__"))) (rd : PySem.W.readsIn K D (.type "type") = true) (fd : PySem.W.findCls K (.ref D) (.type "type") "__init__" = some (.val (.builtin "ValueError.__init__")))
    (F : ∀ (P : Program) (w : World) (base : Heap), FnEx K dV "__init__" qual st fI (PySem.W.fnOf "__init__" qual (defArgs st) (L2.defBody st) (defScope st) dV kV doc pm an cdv ct) → BasC K mg y D → FnOk P w K mg base (L2.CX P w) 1 fI (PySem.W.fnOf "__init__" qual (defArgs st) (L2.defBody st) (defScope st) dV kV doc pm an cdv ct) ["self", "amount", "limit"] (spLim K))
    (hb : Binds K (PySem.W.fnOf "__init__" qual (defArgs st) (L2.defBody st) (defScope st) dV kV doc pm an cdv ct) ["self", "amount", "limit"] []) (kb : KwLim (PySem.W.fnOf "__init__" qual (defArgs st) (L2.defBody st) (defScope st) dV kV doc pm an cdv ct)) : ∀ (P : Program) (w : World) (base : Heap), LimDK P w K mg base 1 x := fun P w base => by
  unfold limCB at oe
  simp only [Bool.and_eq_true, beq_iff_eq] at oe
  obtain ⟨⟨⟨⟨⟨⟨o1, o2⟩, o3⟩, o4⟩, o5⟩, o6⟩, o7⟩ := oe
  exact ⟨C, fI, _, F P w base ⟨oc, od, kV, doc, pm, an, cdv, ct, osl, rfl, l, c⟩ ⟨PySem.W.mg_of X G b, sp, rd, fd⟩, iC, tI, ⟨oexB_ok o1, o2, o3, o4, o5⟩, o6, o7, PySem.W.mg_of X G a, hb, kb⟩
end G
namespace L_k06
open PySem PySem.Spec PyProof.Rows L2 G M
def topS (i : Nat) : Stmt := PySem.Challenge.pw_gridsym_k06_symmetries_by_hand_and_by_na.main.body.getD i (.Pass ⟨0, 0, 0, 0⟩)
abbrev s_lim : Stmt := (C8.clsBody (topS 14)).getD 0 (.Pass ⟨0, 0, 0, 0⟩)
theorem sc_lim : FnScope ["self", "amount", "limit"] ["self", "amount", "limit"] (defScope s_lim) := ⟨rfl, rfl, rfl, by decide +kernel, rfl, by decide +kernel, by decide +kernel⟩
theorem lim_fn {P : Program} {w : World} {K : PySem.W.Frag} {mg : Str → Option Value} {base : Heap} {dV : Value} {f D : Addr} {fd : FuncData} (F : FnEx K dV "__init__" "LimitError.__init__" s_lim f fd) (B : BasC K mg "GridsymError" D) : FnOk P w K mg base (L2.CX P w) 1 f fd ["self", "amount", "limit"] (spLim K) :=
  limF F sc_lim B rfl (fun _ _ _ => rfl) (.inl rfl) (.inl rfl) (.inl rfl) rfl rfl
theorem lim_kw {kV doc pm cdv ct : Value} {an : Option Addr} : KwLim (PySem.W.fnOf "__init__" "LimitError.__init__" (defArgs s_lim) (defBody s_lim) (defScope s_lim) .none kV doc pm an cdv ct) := fun s x u1 u2 => .of_eq rfl
theorem lim_b {K : PySem.W.Frag} {kV doc pm cdv ct : Value} {an : Option Addr} : Binds K (PySem.W.fnOf "__init__" "LimitError.__init__" (defArgs s_lim) (defBody s_lim) (defScope s_lim) .none kV doc pm an cdv ct) ["self", "amount", "limit"] [] := .all fun us hl => match us, hl with | [_, _, _], _ => rfl
abbrev s__law_error_marks : Stmt := topS 43
theorem sc__law_error_marks : FnScope ["_law_error", "_law_found"] ["_law_error"] (defScope s__law_error_marks) := ⟨rfl, rfl, rfl, by decide +kernel, rfl, by decide +kernel, by decide +kernel⟩
abbrev s__law_error_name : Stmt := topS 44
theorem sc__law_error_name : FnScope ["_law_error", "_law_marks", "_law_names"] ["_law_error"] (defScope s__law_error_name) := ⟨rfl, rfl, rfl, by decide +kernel, rfl, by decide +kernel, by decide +kernel⟩
abbrev s__law_errors_are_right : Stmt := topS 48
theorem sc__law_errors_are_right : FnScope ["_law_errors", "_law_names", "_law_pair", "_law_error"] [] (defScope s__law_errors_are_right) := ⟨rfl, rfl, rfl, by decide +kernel, rfl, by decide +kernel, by decide +kernel⟩
abbrev s__law_cell : Stmt := topS 42
theorem sc__law_cell : FnScope ["_law_script", "_law_place"] ["_law_script", "_law_place"] (defScope s__law_cell) := ⟨rfl, rfl, rfl, by decide +kernel, rfl, by decide +kernel, by decide +kernel⟩
abbrev s_is_integer : Stmt := topS 16
theorem sc_is_integer : FnScope ["thing"] ["thing"] (defScope s_is_integer) := ⟨rfl, rfl, rfl, by decide +kernel, rfl, by decide +kernel, by decide +kernel⟩
abbrev s_is_square : Stmt := topS 25
theorem sc_is_square : FnScope ["thing", "one"] ["thing"] (defScope s_is_square) := ⟨rfl, rfl, rfl, by decide +kernel, rfl, by decide +kernel, by decide +kernel⟩
abbrev s_is_between : Stmt := topS 17
theorem sc_is_between : FnScope ["thing", "least", "most"] ["thing", "least", "most"] (defScope s_is_between) := ⟨rfl, rfl, rfl, by decide +kernel, rfl, by decide +kernel, by decide +kernel⟩
abbrev s_is_symmetry : Stmt := topS 26
theorem sc_is_symmetry : FnScope ["thing", "one"] ["thing"] (defScope s_is_symmetry) := ⟨rfl, rfl, rfl, by decide +kernel, rfl, by decide +kernel, by decide +kernel⟩
abbrev s_need_symmetry : Stmt := topS 28
theorem sc_need_symmetry : FnScope ["thing"] ["thing"] (defScope s_need_symmetry) := ⟨rfl, rfl, rfl, by decide +kernel, rfl, by decide +kernel, by decide +kernel⟩
abbrev s_need_square : Stmt := topS 27
theorem sc_need_square : FnScope ["thing"] ["thing"] (defScope s_need_square) := ⟨rfl, rfl, rfl, by decide +kernel, rfl, by decide +kernel, by decide +kernel⟩
abbrev s_added : Stmt := topS 18
theorem sc_added : FnScope ["vector", "step", "many"] ["vector", "step", "many"] (defScope s_added) := ⟨rfl, rfl, rfl, by decide +kernel, rfl, by decide +kernel, by decide +kernel⟩
abbrev s_turned : Stmt := topS 29
theorem sc_turned : FnScope ["kind", "vector", "a", "b", "c", "d"] ["kind", "vector"] (defScope s_turned) := ⟨rfl, rfl, rfl, by decide +kernel, rfl, by decide +kernel, by decide +kernel⟩
abbrev s_offset : Stmt := topS 31
theorem sc_offset : FnScope ["symmetry"] ["symmetry"] (defScope s_offset) := ⟨rfl, rfl, rfl, by decide +kernel, rfl, by decide +kernel, by decide +kernel⟩
abbrev s_image_of : Stmt := topS 32
theorem sc_image_of : FnScope ["symmetry", "square"] ["symmetry", "square"] (defScope s_image_of) := ⟨rfl, rfl, rfl, by decide +kernel, rfl, by decide +kernel, by decide +kernel⟩
abbrev s_image : Stmt := topS 33
theorem sc_image : FnScope ["symmetry", "square"] ["symmetry", "square"] (defScope s_image) := ⟨rfl, rfl, rfl, by decide +kernel, rfl, by decide +kernel, by decide +kernel⟩
abbrev s__law_images_are_right : Stmt := topS 45
theorem sc__law_images_are_right : FnScope ["_law_far", "_law_spot", "_law_expected", "_law_kind"] ["_law_far"] (defScope s__law_images_are_right) := ⟨rfl, rfl, rfl, by decide +kernel, rfl, by decide +kernel, by decide +kernel⟩
abbrev s_kind_after : Stmt := topS 30
theorem sc_kind_after : FnScope ["first", "second", "a", "c", "b", "d"] ["first", "second"] (defScope s_kind_after) := ⟨rfl, rfl, rfl, by decide +kernel, rfl, by decide +kernel, by decide +kernel⟩
abbrev s_product_of : Stmt := topS 34
theorem sc_product_of : FnScope ["first", "second"] ["first", "second"] (defScope s_product_of) := ⟨rfl, rfl, rfl, by decide +kernel, rfl, by decide +kernel, by decide +kernel⟩
abbrev s_product : Stmt := topS 35
theorem sc_product : FnScope ["first", "second"] ["first", "second"] (defScope s_product) := ⟨rfl, rfl, rfl, by decide +kernel, rfl, by decide +kernel, by decide +kernel⟩
abbrev s_inverse_of : Stmt := topS 36
theorem sc_inverse_of : FnScope ["symmetry", "kind", "x", "y"] ["symmetry"] (defScope s_inverse_of) := ⟨rfl, rfl, rfl, by decide +kernel, rfl, by decide +kernel, by decide +kernel⟩
abbrev s_inverse : Stmt := topS 37
theorem sc_inverse : FnScope ["symmetry"] ["symmetry"] (defScope s_inverse) := ⟨rfl, rfl, rfl, by decide +kernel, rfl, by decide +kernel, by decide +kernel⟩
abbrev s__law_products_are_right : Stmt := topS 46
theorem sc__law_products_are_right : FnScope ["_law_far"] ["_law_far"] (defScope s__law_products_are_right) := ⟨rfl, rfl, rfl, by decide +kernel, rfl, by decide +kernel, by decide +kernel⟩
abbrev s_repeated : Stmt := topS 38
theorem sc_repeated : FnScope ["symmetry", "times", "found", "lap"] ["symmetry", "times"] (defScope s_repeated) := ⟨rfl, rfl, rfl, by decide +kernel, rfl, by decide +kernel, by decide +kernel⟩
abbrev s_power_of : Stmt := topS 39
theorem sc_power_of : FnScope ["symmetry", "exponent", "step", "shift"] ["symmetry", "exponent"] (defScope s_power_of) := ⟨rfl, rfl, rfl, by decide +kernel, rfl, by decide +kernel, by decide +kernel⟩
abbrev s_power : Stmt := topS 40
theorem sc_power : FnScope ["symmetry", "exponent"] ["symmetry", "exponent"] (defScope s_power) := ⟨rfl, rfl, rfl, by decide +kernel, rfl, by decide +kernel, by decide +kernel⟩
abbrev s__law_powers_are_right : Stmt := topS 47
theorem sc__law_powers_are_right : FnScope ["_law_far"] ["_law_far"] (defScope s__law_powers_are_right) := ⟨rfl, rfl, rfl, by decide +kernel, rfl, by decide +kernel, by decide +kernel⟩
abbrev s_law : Stmt := topS 49
theorem sc_law : FnScope ["_law_script", "_law_k", "_law_far"] ["_law_script"] (defScope s_law) := ⟨rfl, rfl, rfl, by decide +kernel, rfl, by decide +kernel, by decide +kernel⟩
section
variable {P : Program} {w : World} {K : PySem.W.Frag} {mg : Str → Option Value} {base : Heap} {Γ : Gx} {f_ T_ : Addr} {fd_ : FuncData}
set_option maxHeartbeats 4000000 in
theorem g__law_error_marks (fk : FnK K mg .none "_law_error_marks" s__law_error_marks ["_law_error"] f_ fd_) (sys : SysOk base) (z_isinstance : mg "isinstance" = none) {D_CommandError : Addr} (ix_CommandError : mg "CommandError" = some (.ref D_CommandError)) (ok_CommandError : IsxOk K Γ.es (.ref D_CommandError) (isN "CommandError")) {D_CompatibilityError : Addr} (ix_CompatibilityError : mg "CompatibilityError" = some (.ref D_CompatibilityError)) (ok_CompatibilityError : IsxOk K Γ.es (.ref D_CompatibilityError) (isN "CompatibilityError")) {D_ContainmentError : Addr} (ix_ContainmentError : mg "ContainmentError" = some (.ref D_ContainmentError)) (ok_ContainmentError : IsxOk K Γ.es (.ref D_ContainmentError) (isN "ContainmentError")) {D_DescriptionError : Addr} (ix_DescriptionError : mg "DescriptionError" = some (.ref D_DescriptionError)) (ok_DescriptionError : IsxOk K Γ.es (.ref D_DescriptionError) (isN "DescriptionError")) {D_GeneratorsError : Addr} (ix_GeneratorsError : mg "GeneratorsError" = some (.ref D_GeneratorsError)) (ok_GeneratorsError : IsxOk K Γ.es (.ref D_GeneratorsError) (isN "GeneratorsError")) {D_LimitError : Addr} (ix_LimitError : mg "LimitError" = some (.ref D_LimitError)) (ok_LimitError : IsxOk K Γ.es (.ref D_LimitError) (isN "LimitError")) {D_NumberError : Addr} (ix_NumberError : mg "NumberError" = some (.ref D_NumberError)) (ok_NumberError : IsxOk K Γ.es (.ref D_NumberError) (isN "NumberError")) {D_ParseError : Addr} (ix_ParseError : mg "ParseError" = some (.ref D_ParseError)) (ok_ParseError : IsxOk K Γ.es (.ref D_ParseError) (isN "ParseError")) {D_PatternError : Addr} (ix_PatternError : mg "PatternError" = some (.ref D_PatternError)) (ok_PatternError : IsxOk K Γ.es (.ref D_PatternError) (isN "PatternError")) {D_ProgramError : Addr} (ix_ProgramError : mg "ProgramError" = some (.ref D_ProgramError)) (ok_ProgramError : IsxOk K Γ.es (.ref D_ProgramError) (isN "ProgramError")) {D_SquareError : Addr} (ix_SquareError : mg "SquareError" = some (.ref D_SquareError)) (ok_SquareError : IsxOk K Γ.es (.ref D_SquareError) (isN "SquareError")) {D_SymmetryError : Addr} (ix_SymmetryError : mg "SymmetryError" = some (.ref D_SymmetryError)) (ok_SymmetryError : IsxOk K Γ.es (.ref D_SymmetryError) (isN "SymmetryError")) {D_UndoError : Addr} (ix_UndoError : mg "UndoError" = some (.ref D_UndoError)) (ok_UndoError : IsxOk K Γ.es (.ref D_UndoError) (isN "UndoError")) : FnGH P w K mg base Γ 1 f_ fd_ ["_law_error"] F__law_error_marks :=
  fnGH_of (N := ["_law_error", "_law_found"]) (body := B__law_error_marks) fk.ex sc__law_error_marks sys fun cdv hcd A outer s H p C pd A0 hr gx hx => (gs_cons (gs_set 1 sc__law_error_marks.nd (glst (gcons (gisx hx 0 ix_SquareError ok_SquareError z_isinstance) (gcons (gisx hx 0 ix_SymmetryError ok_SymmetryError z_isinstance) (gcons (gisx hx 0 ix_GeneratorsError ok_GeneratorsError z_isinstance) gnil))))) (gs_cons (gs_set 1 sc__law_error_marks.nd (gadd (gv 1) (glst (gcons (gisx hx 0 ix_NumberError ok_NumberError z_isinstance) (gcons (gisx hx 0 ix_ProgramError ok_ProgramError z_isinstance) gnil))))) (gs_cons (gs_set 1 sc__law_error_marks.nd (gadd (gv 1) (glst (gcons (gisx hx 0 ix_DescriptionError ok_DescriptionError z_isinstance) (gcons (gisx hx 0 ix_ContainmentError ok_ContainmentError z_isinstance) gnil))))) (gs_cons (gs_set 1 sc__law_error_marks.nd (gadd (gv 1) (glst (gcons (gisx hx 0 ix_PatternError ok_PatternError z_isinstance) (gcons (gisx hx 0 ix_CompatibilityError ok_CompatibilityError z_isinstance) gnil))))) (gs_cons (gs_set 1 sc__law_error_marks.nd (gadd (gv 1) (glst (gcons (gisx hx 0 ix_UndoError ok_UndoError z_isinstance) (gcons (gisx hx 0 ix_ParseError ok_ParseError z_isinstance) (gcons (gisx hx 0 ix_CommandError ok_CommandError z_isinstance) gnil)))))) (gs_one (gs_ret (gadd (gv 1) (glst (gcons (gisx hx 0 ix_LimitError ok_LimitError z_isinstance) gnil))))))))))
theorem b__law_error_marks (fk : FnK K mg .none "_law_error_marks" s__law_error_marks ["_law_error"] f_ fd_) : Binds K fd_ ["_law_error"] [] := fk.binds fun _ _ _ _ _ _ us hl => match us, hl with | [_], _ => rfl
set_option maxHeartbeats 4000000 in
theorem g__law_error_name (fk : FnK K mg .none "_law_error_name" s__law_error_name ["_law_error"] f_ fd_) (sys : SysOk base) (z_ValueError : mg "ValueError" = none) (z_isinstance : mg "isinstance" = none) (ok_ValueError : IsxOk K Γ.es (.type "ValueError") isAll) (hf__law_error_marks : CalledH P w K mg base Γ 1 "_law_error_marks" ["_law_error"] F__law_error_marks) : FnGH P w K mg base Γ 2 f_ fd_ ["_law_error"] F__law_error_name :=
  fnGH_of (N := ["_law_error", "_law_marks", "_law_names"]) (body := B__law_error_name) fk.ex sc__law_error_name sys fun cdv hcd A outer s H p C pd A0 hr gx hx => (gs_cons (gs_set 1 sc__law_error_name.nd (gcallH [true] hf__law_error_marks hr gx hx (gcons (gv 0) gnil))) (gs_cons (gs_if (PW.pt (gor (gtcmp (op_neU (huh64 hr)) neD_ok (g_count (huh65 hr) (gv 1) gbl) gint (nomark _)) (gor1 (gnot (gtv (gisxB hx 0 z_ValueError (by decide +kernel) ok_ValueError z_isinstance)))))) (gs_one (gs_ret gstr)) gs_nil) (gs_cons (gs_set 2 sc__law_error_name.nd (glst (gcons gstr (gcons gstr (gcons gstr (gcons gstr (gcons gstr (gcons gstr (gcons gstr (gcons gstr gnil)))))))))) (gs_one (gs_ret (gix (huh1 hr) (gadd (gv 2) (glst (gcons gstr (gcons gstr (gcons gstr (gcons gstr (gcons gstr gnil))))))) (g_indexL (huh65 hr) (gv 1) gbl)))))))
theorem b__law_error_name (fk : FnK K mg .none "_law_error_name" s__law_error_name ["_law_error"] f_ fd_) : Binds K fd_ ["_law_error"] [] := fk.binds fun _ _ _ _ _ _ us hl => match us, hl with | [_], _ => rfl
abbrev veb : List Value := [.type "ValueError", .type "Exception", .type "BaseException", .type "object"]
theorem g__law_errors_are_right (fk : FnK K mg .none "_law_errors_are_right" s__law_errors_are_right [] f_ fd_) (sys : SysOk base) (z_all : mg "all" = none) (z_isinstance : mg "isinstance" = none)
    {C_CommandError : Addr} (x_CommandError : ExcK K mg "CommandError" C_CommandError "ValueError.__new__" veb) {C_CompatibilityError : Addr} (x_CompatibilityError : ExcK K mg "CompatibilityError" C_CompatibilityError "ValueError.__new__" veb)
    {C_ContainmentError : Addr} (x_ContainmentError : ExcK K mg "ContainmentError" C_ContainmentError "ValueError.__new__" veb) {C_DescriptionError : Addr} (x_DescriptionError : ExcK K mg "DescriptionError" C_DescriptionError "ValueError.__new__" veb)
    {C_GeneratorsError : Addr} (x_GeneratorsError : ExcK K mg "GeneratorsError" C_GeneratorsError "ValueError.__new__" veb) {C_NumberError : Addr} (x_NumberError : ExcK K mg "NumberError" C_NumberError "ValueError.__new__" veb)
    {C_ParseError : Addr} (x_ParseError : ExcK K mg "ParseError" C_ParseError "ValueError.__new__" veb) {C_PatternError : Addr} (x_PatternError : ExcK K mg "PatternError" C_PatternError "ValueError.__new__" veb)
    {C_ProgramError : Addr} (x_ProgramError : ExcK K mg "ProgramError" C_ProgramError "ValueError.__new__" veb) {C_SquareError : Addr} (x_SquareError : ExcK K mg "SquareError" C_SquareError "ValueError.__new__" veb)
    {C_SymmetryError : Addr} (x_SymmetryError : ExcK K mg "SymmetryError" C_SymmetryError "ValueError.__new__" veb) {C_UndoError : Addr} (x_UndoError : ExcK K mg "UndoError" C_UndoError "ValueError.__new__" veb)
    (lk_ : LimDK P w K mg base 1 "LimitError") (hT0 : Γ.T = []) (es0 : ∀ n ∈ M.said_nsL, ∀ C, mg n = some (.ref C) → (n, C) ∈ Γ.es) {D_ : Addr} (ix_ : mg "GridsymError" = some (.ref D_)) (ok_ : IsxOk K Γ.es (.ref D_) isAll) (xo_amount : XfOk K Γ.es "amount") (xo_limit : XfOk K Γ.es "limit")
    (hf_ : CalledH P w K mg base Γ 2 "_law_error_name" ["_law_error"] F__law_error_name) : FnG P w K mg base Γ 3 f_ fd_ [] F__law_errors_are_right := by
  refine hand_true (k := 2) rfl hT0 fk.ex sc__law_errors_are_right sys fun cdv A outer s H E hr gx => ⟨_, (pss_cons (ps_set (i := 0) sc__law_errors_are_right.nd rfl (.inl rfl) (pe_lst
    (pa_cons (pe_excT F.excBase_ValueError x_SquareError.exc x_SquareError.at_ x_SquareError.kp) (pa_cons (pe_excT F.excBase_ValueError x_SymmetryError.exc x_SymmetryError.at_ x_SymmetryError.kp) (pa_cons (pe_excT F.excBase_ValueError x_GeneratorsError.exc x_GeneratorsError.at_ x_GeneratorsError.kp)
     (pa_cons (pe_excT F.excBase_ValueError x_NumberError.exc x_NumberError.at_ x_NumberError.kp) (pa_cons (pe_excT F.excBase_ValueError x_ProgramError.exc x_ProgramError.at_ x_ProgramError.kp) pa_nil)))))))
   (pss_cons (ps_set (i := 0) sc__law_errors_are_right.nd rfl (.inl rfl) (pe_op op_cat (pe_var (i := 0) rfl (.inl rfl)) (pe_lst
    (pa_cons (pe_excT F.excBase_ValueError x_DescriptionError.exc x_DescriptionError.at_ x_DescriptionError.kp) (pa_cons (pe_excT F.excBase_ValueError x_ContainmentError.exc x_ContainmentError.at_ x_ContainmentError.kp)
     (pa_cons (pe_excT F.excBase_ValueError x_PatternError.exc x_PatternError.at_ x_PatternError.kp) (pa_cons (pe_excT F.excBase_ValueError x_CompatibilityError.exc x_CompatibilityError.at_ x_CompatibilityError.kp) pa_nil)))))))
   (pss_cons (ps_set (i := 0) sc__law_errors_are_right.nd rfl (.inl rfl) (pe_op op_cat (pe_var (i := 0) rfl (.inl rfl)) (pe_lst
    (pa_cons (pe_excT F.excBase_ValueError x_UndoError.exc x_UndoError.at_ x_UndoError.kp) (pa_cons (pe_excT F.excBase_ValueError x_ParseError.exc x_ParseError.at_ x_ParseError.kp)
     (pa_cons (pe_excT F.excBase_ValueError x_CommandError.exc x_CommandError.at_ x_CommandError.kp) (pa_cons (pe_limT lk_.d hr) pa_nil)))))))
   (pss_cons (ps_set (i := 1) sc__law_errors_are_right.nd rfl (.inl rfl) (pe_lst (pa_cons pe_str (pa_cons pe_str (pa_cons pe_str (pa_cons pe_str (pa_cons pe_str (pa_cons pe_str (pa_cons pe_str (pa_cons pe_str pa_nil))))))))))
   (pss_cons (ps_set (i := 1) sc__law_errors_are_right.nd rfl (.inl rfl) (pe_op op_cat (pe_var (i := 1) rfl (.inl rfl)) (pe_lst (pa_cons pe_str (pa_cons pe_str (pa_cons pe_str (pa_cons pe_str (pa_cons pe_str pa_nil))))))))
   (pss_cons (ps_if (pt_cmpR (op_neD (by have := gx.un; omega)) (pe_lc (own := [("_law_error", 3)]) rfl sc__law_errors_are_right.nd (pi_list (pe_var (i := 0) rfl (.inl rfl))) (blkOk_by rfl) (fun s H C cl fp => pg_name (i := 3) sc__law_errors_are_right.nd rfl (.inl rfl)) (fun s H C cl fp => pts_nil)
      (fun s H C cl fp => pe_nameT hf_ hT0 (j := 2) hr ⟨gx.gd, gx.sys, gx.un⟩ (pa_cons (pe_var (i := 3) rfl (.inl rfl)) pa_nil))) (pe_var (i := 1) rfl (.inl rfl)) rfl) (pss_one (ps_ret pe_bl)) pss_nil)
   (pss_cons (ps_set (i := 2) sc__law_errors_are_right.nd rfl (.inl rfl) (pe_lst (pa_cons (pe_limT lk_.d hr) (pa_cons (pe_limKwT lk_ hr) pa_nil))))
   (pss_cons (ps_if (pt_cmpR (op_neD (by have := gx.un; omega)) (pe_lc (own := [("_law_error", 3)]) rfl sc__law_errors_are_right.nd (pi_list (pe_var (i := 2) rfl (.inl rfl))) (blkOk_by rfl) (fun s H C cl fp => pg_name (i := 3) sc__law_errors_are_right.nd rfl (.inl rfl)) (fun s H C cl fp => pts_nil)
      (fun s H C cl fp => pe_tup (pa_cons (pe_attrT (K := K) (pe_var (i := 3) (x := "_law_error") rfl (.inl rfl))) (pa_cons (pe_attrT (K := K) (pe_var (i := 3) (x := "_law_error") rfl (.inl rfl))) pa_nil)))) (pe_op op_rep (pe_lst (pa_cons (pe_tup (pa_cons pe_int (pa_cons pe_int pa_nil))) pa_nil)) pe_int) rfl) (pss_one (ps_ret pe_bl)) pss_nil)
   (pss_one (ps_ret (pe_callB (r := rAll K) (cr_all rfl) rfl z_all PyProof.Rows.boot_all (pa_cons (pe_lc (own := [("_law_error", 3)]) rfl sc__law_errors_are_right.nd (pi_list (pe_var (i := 0) rfl (.inl rfl))) (blkOk_by rfl) (fun s H C cl fp => pg_name (i := 3) sc__law_errors_are_right.nd rfl (.inl rfl)) (fun s H C cl fp => pts_nil)
      (fun s H C cl fp => pe_isT (K := K) z_isinstance (pa_cons (pe_var (i := 3) rfl (.inl rfl)) (pa_cons (pe_glob (v := .ref D_) rfl ix_ rfl) pa_nil)))) pa_nil)))))))))))), fun D hD => ?_⟩
  have hc1 : ∀ c ∈ ([(C_SquareError, ⟨"SquareError", none⟩, "square"), (C_SymmetryError, ⟨"SymmetryError", none⟩, "symmetry"), (C_GeneratorsError, ⟨"GeneratorsError", none⟩, "generators"), (C_NumberError, ⟨"NumberError", none⟩, "number"), (C_ProgramError, ⟨"ProgramError", none⟩, "program")] : List (Addr × Xn × Str)), (c.2.1.cls, c.1) ∈ Γ.es ∧ c.2.1.pl = none ∧ ∃ outs, F__law_error_name [.exc c.2.1] = .ok (.val (.str c.2.2), outs) := List.forall_mem_cons.mpr ⟨⟨es0 "SquareError" (by decide) _ x_SquareError.at_, rfl, nm_ex (by kernel_rfl)⟩, List.forall_mem_cons.mpr ⟨⟨es0 "SymmetryError" (by decide) _ x_SymmetryError.at_, rfl, nm_ex (by kernel_rfl)⟩, List.forall_mem_cons.mpr ⟨⟨es0 "GeneratorsError" (by decide) _ x_GeneratorsError.at_, rfl, nm_ex (by kernel_rfl)⟩, List.forall_mem_cons.mpr ⟨⟨es0 "NumberError" (by decide) _ x_NumberError.at_, rfl, nm_ex (by kernel_rfl)⟩, List.forall_mem_cons.mpr ⟨⟨es0 "ProgramError" (by decide) _ x_ProgramError.at_, rfl, nm_ex (by kernel_rfl)⟩, (fun _ h => nomatch h)⟩⟩⟩⟩⟩
  have hc2 : ∀ c ∈ ([(C_DescriptionError, ⟨"DescriptionError", none⟩, "description"), (C_ContainmentError, ⟨"ContainmentError", none⟩, "containment"), (C_PatternError, ⟨"PatternError", none⟩, "pattern"), (C_CompatibilityError, ⟨"CompatibilityError", none⟩, "compatibility")] : List (Addr × Xn × Str)), (c.2.1.cls, c.1) ∈ Γ.es ∧ c.2.1.pl = none ∧ ∃ outs, F__law_error_name [.exc c.2.1] = .ok (.val (.str c.2.2), outs) := List.forall_mem_cons.mpr ⟨⟨es0 "DescriptionError" (by decide) _ x_DescriptionError.at_, rfl, nm_ex (by kernel_rfl)⟩, List.forall_mem_cons.mpr ⟨⟨es0 "ContainmentError" (by decide) _ x_ContainmentError.at_, rfl, nm_ex (by kernel_rfl)⟩, List.forall_mem_cons.mpr ⟨⟨es0 "PatternError" (by decide) _ x_PatternError.at_, rfl, nm_ex (by kernel_rfl)⟩, List.forall_mem_cons.mpr ⟨⟨es0 "CompatibilityError" (by decide) _ x_CompatibilityError.at_, rfl, nm_ex (by kernel_rfl)⟩, (fun _ h => nomatch h)⟩⟩⟩⟩
  have hc3 : ∀ c ∈ ([(C_UndoError, ⟨"UndoError", none⟩, "undo"), (C_ParseError, ⟨"ParseError", none⟩, "parse"), (C_CommandError, ⟨"CommandError", none⟩, "command")] : List (Addr × Xn × Str)), (c.2.1.cls, c.1) ∈ Γ.es ∧ c.2.1.pl = none ∧ ∃ outs, F__law_error_name [.exc c.2.1] = .ok (.val (.str c.2.2), outs) := List.forall_mem_cons.mpr ⟨⟨es0 "UndoError" (by decide) _ x_UndoError.at_, rfl, nm_ex (by kernel_rfl)⟩, List.forall_mem_cons.mpr ⟨⟨es0 "ParseError" (by decide) _ x_ParseError.at_, rfl, nm_ex (by kernel_rfl)⟩, List.forall_mem_cons.mpr ⟨⟨es0 "CommandError" (by decide) _ x_CommandError.at_, rfl, nm_ex (by kernel_rfl)⟩, (fun _ h => nomatch h)⟩⟩⟩
  have ln : ∀ {es : List Ent} {cs : List (Addr × Xn × Str)}, es.map (·.m) = cs.map (·.2.2) → es.length = cs.length := fun h => by have := congrArg List.length h; simpa using this
  refine st_lst (tXs_nil hc1 fun es1 H1 k1 ok1 em1 => ?_)
  have l1 : es1.length = 5 := ln em1
  refine ⟨by rw [List.length_map, l1, sizeLine_eq]; decide, fun p1 hp1 => ?_⟩
  have j1 : Kp H (upd H1 p1 (.lst (es1.map fun e => V.ref e.a))) := Kp.new k1 (k1.none hp1)
  have o1 : ∀ e ∈ es1, EntOk Γ F__law_error_name (upd H1 p1 (.lst (es1.map fun e => V.ref e.a))) e := fun e he => (ok1 e he).kp (Kp.new (Kp.refl H1) hp1)
  have q1 : upd H1 p1 (.lst (es1.map fun e => V.ref e.a)) p1 = some (.lst (es1.map fun e => V.ref e.a)) := upd_same
  generalize upd H1 p1 (.lst (es1.map fun e => V.ref e.a)) = G1 at j1 o1 q1 ⊢
  refine st_cat (v := .ref p1) rfl (tXs_nil hc2 fun es2 H2 k2 ok2 em2 => ?_)
  have l2 : es2.length = 4 := ln em2
  refine ⟨by rw [List.length_map, l2, sizeLine_eq]; decide, fun p2 hp2 => ⟨p1, p2, _, _, rfl, rfl, (Kp.new (Kp.refl H2) hp2).lst (k2.lst q1), upd_same, by rw [List.length_map, List.length_map, l1, l2, sizeLine_eq]; decide, fun p3 hp3 => ?_⟩⟩
  have kk2 : Kp G1 (upd H2 p2 (.lst (es2.map fun e => V.ref e.a))) := k2.trans (Kp.new (Kp.refl H2) hp2)
  have j2 : Kp G1 (upd (upd H2 p2 (.lst (es2.map fun e => V.ref e.a))) p3 (.lst (es1.map (fun e => V.ref e.a) ++ es2.map fun e => V.ref e.a))) := Kp.new kk2 (kk2.none hp3)
  have o2 : ∀ e ∈ es1 ++ es2, EntOk Γ F__law_error_name (upd (upd H2 p2 (.lst (es2.map fun e => V.ref e.a))) p3 (.lst (es1.map (fun e => V.ref e.a) ++ es2.map fun e => V.ref e.a))) e := fun e he => by
    rcases List.mem_append.mp he with he | he
    · exact (o1 e he).kp j2
    · exact (ok2 e he).kp (Kp.new (Kp.new (Kp.refl H2) hp2) (Kp.none (Kp.new (Kp.refl H2) hp2) hp3))
  have q2 : upd (upd H2 p2 (.lst (es2.map fun e => V.ref e.a))) p3 (.lst (es1.map (fun e => V.ref e.a) ++ es2.map fun e => V.ref e.a)) p3 = some (.lst ((es1 ++ es2).map fun e => V.ref e.a)) := by rw [upd_same, List.map_append]
  have j2' := j1.trans j2
  generalize upd (upd H2 p2 (.lst (es2.map fun e => V.ref e.a))) p3 (.lst (es1.map (fun e => V.ref e.a) ++ es2.map fun e => V.ref e.a)) = G2 at j2' o2 q2 ⊢
  refine st_cat (v := .ref p3) rfl (tXs_ok hc3 fun es3 H3 k3 ok3 em3 C a d hC ha hd ne => ?_)
  have l3 : es3.length = 3 := ln em3
  have hCe : (("LimitError" : Str), C) ∈ Γ.es := es0 "LimitError" (by decide) C hC
  have kL : Kp H3 (limT C 41 40 a d H3) := limT_new ha hd ne
  have eL := limT_ent (Γ := Γ) (F := F__law_error_name) (x := 41) (y := 40) (H := H3) (m := "limit") ne hCe (nm_ex (by kernel_rfl))
  generalize limT C 41 40 a d H3 = H4 at kL eL ⊢
  refine ⟨by rw [sizeLine_eq]; simp [l3], fun p4 hp4 => ⟨p3, p4, _, _, rfl, rfl, (Kp.new (Kp.refl H4) hp4).lst (kL.lst (k3.lst q2)), upd_same, by rw [sizeLine_eq]; simp [l1, l2, l3], fun p5 hp5 => ?_⟩⟩
  obtain ⟨zs, ez⟩ : ∃ zs, zs = es3.map (fun e => V.ref e.a) ++ [V.ref a] := ⟨_, rfl⟩
  rw [← ez] at hp5 ⊢
  have kk4 : Kp H4 (upd H4 p4 (.lst zs)) := Kp.new (Kp.refl H4) hp4
  have kk5 : Kp H4 (upd (upd H4 p4 (.lst zs)) p5 (.lst ((es1 ++ es2).map (fun e => V.ref e.a) ++ zs))) := Kp.new kk4 (kk4.none hp5)
  obtain ⟨es, hes⟩ : ∃ es, es = es1 ++ es2 ++ es3 ++ [⟨a, C, some d, ⟨"LimitError", some (41, 40)⟩, "limit"⟩] := ⟨_, rfl⟩
  have o3 : ∀ e ∈ es, EntOk Γ F__law_error_name (upd (upd H4 p4 (.lst zs)) p5 (.lst ((es1 ++ es2).map (fun e => V.ref e.a) ++ zs))) e := fun e he => by
    rw [hes] at he
    rcases List.mem_append.mp he with he | he
    · rcases List.mem_append.mp he with he | he
      · exact (o2 e he).kp ((k3.trans kL).trans kk5)
      · exact (ok3 e he).kp (kL.trans kk5)
    · rw [List.mem_singleton.mp he]; exact eL.kp kk5
  have q3 : upd (upd H4 p4 (.lst zs)) p5 (.lst ((es1 ++ es2).map (fun e => V.ref e.a) ++ zs)) p5 = some (.lst (es.map fun e => V.ref e.a)) := by rw [upd_same, hes, ez]; simp
  have j3 : Kp H (upd (upd H4 p4 (.lst zs)) p5 (.lst ((es1 ++ es2).map (fun e => V.ref e.a) ++ zs))) := j2'.trans ((k3.trans kL).trans kk5)
  have nms : es.map (·.m) = (["square", "symmetry", "generators", "number", "program", "description", "containment", "pattern", "compatibility", "undo", "parse", "command", "limit"] : List Str) := by
    rw [hes, List.map_append, List.map_append, List.map_append, em1, em2, em3]; rfl
  have les : es.length = 13 := by have := congrArg List.length nms; simpa using this
  generalize upd (upd H4 p4 (.lst zs)) p5 (.lst ((es1 ++ es2).map (fun e => V.ref e.a) ++ zs)) = G3 at o3 q3 j3 ⊢
  clear q2 o2 j2' q1 o1 j1 ok1 ok2 ok3 eL kk4 kk5 hp4 hp5 ez hes l1 l2 l3 em1 em2 em3
  refine st_lst ⟨by rw [sizeLine_eq]; decide, fun p6 hp6 => ?_⟩
  refine st_cat (v := .ref p6) rfl ⟨by rw [sizeLine_eq]; decide, fun p7 hp7 => ⟨p6, p7, _, _, rfl, rfl, (Kp.new (Kp.refl _) hp7).lst upd_same, upd_same, by rw [sizeLine_eq]; decide, fun p8 hp8 => ?_⟩⟩
  have kk6 := Kp.new (o := HO.lst [V.str "square", V.str "symmetry", V.str "generators", V.str "number", V.str "program", V.str "description", V.str "containment", V.str "pattern"]) (Kp.refl G3) hp6
  have kk7 := Kp.new (o := HO.lst [V.str "compatibility", V.str "undo", V.str "parse", V.str "command", V.str "limit"]) kk6 (kk6.none hp7)
  have kk8 := Kp.new (o := HO.lst ([V.str "square", V.str "symmetry", V.str "generators", V.str "number", V.str "program", V.str "description", V.str "containment", V.str "pattern"] ++ [V.str "compatibility", V.str "undo", V.str "parse", V.str "command", V.str "limit"])) kk7 (kk7.none hp8)
  have o4 := fun e he => (o3 e he).kp kk8
  have q4 := kk8.lst q3
  have j4 := j3.trans kk8
  obtain ⟨G4, hG4⟩ : ∃ G4, G4 = upd (upd (upd G3 p6 (HO.lst [V.str "square", V.str "symmetry", V.str "generators", V.str "number", V.str "program", V.str "description", V.str "containment", V.str "pattern"])) p7 (HO.lst [V.str "compatibility", V.str "undo", V.str "parse", V.str "command", V.str "limit"])) p8 (HO.lst ([V.str "square", V.str "symmetry", V.str "generators", V.str "number", V.str "program", V.str "description", V.str "containment", V.str "pattern"] ++ [V.str "compatibility", V.str "undo", V.str "parse", V.str "command", V.str "limit"])) := ⟨_, rfl⟩
  have n4 : G4 p8 = some (.lst (es.map fun e => V.str e.m)) := by
    rw [hG4, upd_same]
    have : (es.map fun e => V.str e.m) = (es.map (·.m)).map V.str := by rw [List.map_map]; rfl
    rw [this, nms]; rfl
  rw [← hG4] at o4 q4 j4
  rw [← hG4]
  clear hG4 kk6 kk7 kk8 hp6 hp7 hp8 q3 j3 o3
  -- the names
  refine st_if (lc_ents (es := es) (la := p5) (fun e v _ => v = .str e.m) rfl rfl q4 (by omega) (fun _ _ _ _ _ h => h) (fun e he H5 Q k5 hq => ?_) fun D5 ys H5 k5 hD5 hy5 pr => ?_)
  · have ok := (o4 e he).kp k5
    exact ⟨_, rfl, e.a, e.C, e.pd, e.n, e.m, rfl, ok.at_, ok.es, ok.ne, ok.xd, ok.nm, fun H' k' => hq _ H' k' rfl⟩
  have ey := paired_eq (f := fun e => V.str e.m) pr
  have nV : (es.map fun e => V.str e.m) = (["square", "symmetry", "generators", "number", "program", "description", "containment", "pattern", "compatibility", "undo", "parse", "command", "limit"] : List Str).map V.str := by
    rw [← nms, List.map_map]; rfl
  rw [ey, nV] at hy5
  have n5 := k5.lst n4
  rw [nV] at n5
  refine ⟨.ref p8, rfl, _, _, .lst (.inl (.inl hy5)) (dp_strs _), .lst (.inl (.inl n5)) (dp_strs _), by decide +kernel, by decide +kernel, false, by decide +kernel, ?_⟩
  rw [if_neg (by decide)]
  have o5 := fun e he => (o4 e he).kp k5
  have q5 := k5.lst q4
  have j5 := j4.trans k5
  clear k5 n4 n5 hy5 hD5 pr ey q4 o4 j4
  -- the pair
  refine st_lst fun C1 a1 d1 hC1 ha1 hd1 ne1 C2 a2 d2 hC2 ha2 hd2 ne2 => ⟨by rw [sizeLine_eq]; simp, fun p9 hp9 => ?_⟩
  have m1 := limT_new (C := C1) (x := 41) (y := 40) ha1 hd1 ne1
  have e1 := limT_ent (Γ := Γ) (F := F__law_error_name) (x := 41) (y := 40) (H := H5) (m := "limit") ne1 (es0 "LimitError" (by decide) C1 hC1) (nm_ex (by kernel_rfl))
  have m2 := limT_new (C := C2) (x := 41) (y := 40) ha2 hd2 ne2
  have e2 := (limT_ent (Γ := Γ) (F := F__law_error_name) (x := 41) (y := 40) (H := limT C1 41 40 a1 d1 H5) (m := "limit") ne2 (es0 "LimitError" (by decide) C2 hC2) (nm_ex (by kernel_rfl)))
  have e1' := e1.kp m2
  generalize limT C2 41 40 a2 d2 (limT C1 41 40 a1 d1 H5) = H6 at hp9 m2 e1' e2 ⊢
  have m3 := Kp.new (o := HO.lst [V.ref a1, V.ref a2]) (Kp.refl H6) hp9
  have e1'' := e1'.kp m3
  have e2'' := e2.kp m3
  have k6 := (m1.trans m2).trans m3
  have o6 := fun e he => (o5 e he).kp k6
  have q6 := k6.lst q5
  have j6 := j5.trans k6
  have q9 : upd H6 p9 (HO.lst [V.ref a1, V.ref a2]) p9 = some (.lst (([⟨a1, C1, some d1, ⟨"LimitError", some (41, 40)⟩, "limit"⟩, ⟨a2, C2, some d2, ⟨"LimitError", some (41, 40)⟩, "limit"⟩] : List Ent).map fun e => V.ref e.a)) := upd_same
  generalize upd H6 p9 (HO.lst [V.ref a1, V.ref a2]) = G6 at e1'' e2'' o6 q6 j6 q9 ⊢
  clear m1 m2 m3 k6 e1 e2 e1' hp9 o5 q5 j5
  refine st_if (lc_ents (es := [⟨a1, C1, some d1, ⟨"LimitError", some (41, 40)⟩, "limit"⟩, ⟨a2, C2, some d2, ⟨"LimitError", some (41, 40)⟩, "limit"⟩]) (la := p9) (fun _ v H => ∃ p, v = V.ref p ∧ H p = some (.tup [.int 41, .int 40])) rfl rfl q9 (by simp) (fun _ _ _ _ tk ⟨p, h1, h2⟩ => ⟨p, h1, tk p _ h2⟩) (fun e he H7 Q k7 hq => ?_) fun D7 ys H7 k7 hD7 hy7 pr7 => ?_)
  · have ok : EntOk Γ F__law_error_name H7 e ∧ e.n.pl = some (41, 40) := by
      rcases List.mem_cons.mp he with rfl | he
      · exact ⟨e1''.kp k7, rfl⟩
      · rw [List.mem_singleton.mp he]; exact ⟨e2''.kp k7, rfl⟩
    obtain ⟨ok, hpl⟩ := ok
    have xd := ok.xd
    rw [hpl] at xd
    obtain ⟨d, hd, hxd⟩ := xd
    have at1 := ok.at_
    rw [hd] at at1
    exact ⟨_, rfl, e.a, e.C, d, limFs 41 40, .int 41, rfl, at1, (xo_amount _ ok.es).1, (xo_amount _ ok.es).2, hxd, rfl, _, rfl, e.a, e.C, d, limFs 41 40, .int 40, rfl, at1, (xo_limit _ ok.es).1, (xo_limit _ ok.es).2, hxd, rfl,
      by rw [sizeLine_eq]; simp, fun p hp => hq _ _ (Kp.new (Kp.refl H7) hp) ⟨p, rfl, upd_same⟩⟩
  refine ⟨by rw [sizeLine_eq]; simp, fun p10 hp10 => ⟨by rw [sizeLine_eq]; simp, fun p11 hp11 => ⟨p11, 2, [V.ref p10], rfl, rfl, upd_same, by decide, by decide, (show 1 * 2 ≤ sizeLine by rw [sizeLine_eq]; decide), fun p12 hp12 => ?_⟩⟩⟩
  have r1 := Kp.new (o := HO.tup [V.int 41, V.int 40]) (Kp.refl H7) hp10
  have t1 : upd H7 p10 (HO.tup [V.int 41, V.int 40]) p10 = some (.tup [V.int 41, V.int 40]) := upd_same
  generalize upd H7 p10 (HO.tup [V.int 41, V.int 40]) = H8 at r1 t1 hp11 hp12 ⊢
  have r2 := Kp.new (o := HO.lst [V.ref p10]) (Kp.refl H8) hp11
  generalize upd H8 p11 (HO.lst [V.ref p10]) = H9 at r2 hp12 ⊢
  have r3 := Kp.new (o := HO.lst (List.replicate (2 : Int).toNat [V.ref p10]).flatten) (Kp.refl H9) hp12
  have r23 := r2.trans r3
  have rr := r1.trans r23
  have pr8 := Paired.mapP pr7 fun v _ ⟨p, h1, h2⟩ => (⟨p, h1, rr.tk p _ h2⟩ : ∃ p, v = V.ref p ∧ upd H9 p12 (HO.lst (List.replicate (2 : Int).toNat [V.ref p10]).flatten) p = some (HO.tup [V.int 41, V.int 40]))
  have t2 := r23.tk p10 _ t1
  have t3 : upd H9 p12 (HO.lst (List.replicate (2 : Int).toNat [V.ref p10]).flatten) p12 = some (.lst [V.ref p10, V.ref p10]) := upd_same
  have hy8 := rr.lst hy7
  have k8 := k7.trans rr
  generalize upd H9 p12 (HO.lst (List.replicate (2 : Int).toNat [V.ref p10]).flatten) = G8 at k8 hy8 t2 t3 pr8 ⊢
  refine ⟨.list [.tuple [.int 41, .int 40], .tuple [.int 41, .int 40]], .list [.tuple [.int 41, .int 40], .tuple [.int 41, .int 40]], .lst (.inl (.inl hy8)) (dp_pairs pr8), .lst (ds := [.tuple [.int 41, .int 40], .tuple [.int 41, .int 40]]) (.inl (.inl t3)) (.cons (.tup (.inl (.inl t2)) (.cons (.int _) (.cons (.int _) .nil))) (.cons (.tup (.inl (.inl t2)) (.cons (.int _) (.cons (.int _) .nil))) .nil)), by rfl, by rfl, false, by rfl, ?_⟩
  rw [if_neg (by decide)]
  have o8 := fun e he => (o6 e he).kp k8
  have q8 := k8.lst q6
  have j8 := j6.trans k8
  -- all of them are exceptions of the package
  refine st_ret (lc_ents (es := es) (la := p5) (fun _ v _ => v = .bl true) rfl rfl q8 (by omega) (fun _ _ _ _ _ h => h) (fun e he H10 Q k10 hq => ?_) fun D11 ys H11 k11 hD11 hy11 pr11 => ?_)
  · have ok := (o8 e he).kp k10
    obtain ⟨c1, c2⟩ := ok_ _ ok.es
    exact ⟨_, rfl, e.a, e.C, e.pd, _, _, true, rfl, ok.at_, ok.xd.k, fun u (r : u = Value.ref D_) => r, c1, c2, hq _ _ (Kp.refl _) rfl⟩
  · have ey := paired_eq (f := fun _ => V.bl true) pr11
    refine ⟨D11, es.map fun _ => true, rfl, ?_, ?_⟩
    · rw [List.map_map]
      rw [ey] at hy11
      exact .inl (.inl hy11)
    · have : (es.map fun _ => true).all id = true := by simp
      rw [this]
      exact hD _ (j8.trans k11)
set_option maxHeartbeats 4000000 in
theorem g__law_cell (fk : FnK K mg .none "_law_cell" s__law_cell ["_law_script", "_law_place"] f_ fd_) (sys : SysOk base) (z_len : mg "len" = none) : FnG P w K mg base Γ 1 f_ fd_ ["_law_script", "_law_place"] F__law_cell_2 :=
  fnG_of (N := ["_law_script", "_law_place"]) (body := B__law_cell_2) fk.ex sc__law_cell sys fun cdv hcd A outer s H E A0 hr gx tk => (gs_cons (gs_if (gtcmp op_lt cmpI_ok (gv 1) (g_len z_len (gcons (gv 0) gnil)) (nomark _)) (gs_one (gs_ret (gix (hu1 hr) (gv 0) (gv 1)))) gs_nil) (gs_one (gs_ret gint)))
theorem b__law_cell (fk : FnK K mg .none "_law_cell" s__law_cell ["_law_script", "_law_place"] f_ fd_) : Binds K fd_ ["_law_script", "_law_place"] [] := fk.binds fun _ _ _ _ _ _ us hl => match us, hl with | [_, _], _ => rfl
set_option maxHeartbeats 4000000 in
theorem g_is_integer (fk : FnK K mg .none "is_integer" s_is_integer ["thing"] f_ fd_) (sys : SysOk base) (z_bool : mg "bool" = none) (z_int : mg "int" = none) (z_isinstance : mg "isinstance" = none) : FnG P w K mg base Γ 1 f_ fd_ ["thing"] F_is_integer :=
  fnG_of (N := ["thing"]) (body := B_is_integer) fk.ex sc_is_integer sys fun cdv hcd A outer s H E A0 hr gx tk => (gs_one (gs_ret (gandV (g_isi kit_int z_isinstance z_int (by decide +kernel) (gv 0)) (gone (gnotV (g_isi kit_bool z_isinstance z_bool (by decide +kernel) (gv 0)))))))
theorem b_is_integer (fk : FnK K mg .none "is_integer" s_is_integer ["thing"] f_ fd_) : Binds K fd_ ["thing"] [] := fk.binds fun _ _ _ _ _ _ us hl => match us, hl with | [_], _ => rfl
set_option maxHeartbeats 4000000 in
theorem g_is_square (fk : FnK K mg .none "is_square" s_is_square ["thing"] f_ fd_) (sys : SysOk base) (z_all : mg "all" = none) (z_isinstance : mg "isinstance" = none) (z_len : mg "len" = none) (z_tuple : mg "tuple" = none) (f_is_integer : CalledG P w K mg base Γ 1 "is_integer" ["thing"] F_is_integer []) : FnG P w K mg base Γ 2 f_ fd_ ["thing"] F_is_square :=
  fnG_of (N := ["thing", "one"]) (body := B_is_square) fk.ex sc_is_square sys fun cdv hcd A outer s H E A0 hr gx tk => (gs_one (gs_ret (gandV (g_isi kit_tuple z_isinstance z_tuple (by decide +kernel) (gv 0)) (gandV (geq (hu64 hr) (g_len z_len (gcons (gv 0) gnil)) gint) (gone (g_all rfl z_all (gcons (glc [1] rfl rfl sc_is_square.nd (gi_any (gv 0)) (blkOk_by (own := [("one", 1)]) (by kernel_rfl)) (fun s_ H_ C_ cl_ fp_ => (gg_name 1 sc_is_square.nd)) (fun s_ H_ C_ cl_ fp_ => gts_nil) (fun s_ H_ C_ cl_ fp_ => have gx := gx_blk s_ H_ _ _ fp_ gx; have tk := takes_gx gx; (gcallC [false] f_is_integer hr gx tk (gcons (gv 1) gnil)))) gnil)))))))
theorem b_is_square (fk : FnK K mg .none "is_square" s_is_square ["thing"] f_ fd_) : Binds K fd_ ["thing"] [] := fk.binds fun _ _ _ _ _ _ us hl => match us, hl with | [_], _ => rfl
set_option maxHeartbeats 4000000 in
theorem g_is_between (fk : FnK K mg .none "is_between" s_is_between ["thing", "least", "most"] f_ fd_) (sys : SysOk base) (f_is_integer : CalledG P w K mg base Γ 1 "is_integer" ["thing"] F_is_integer []) : FnG P w K mg base Γ 2 f_ fd_ ["thing", "least", "most"] F_is_between :=
  fnG_of (N := ["thing", "least", "most"]) (body := B_is_between) fk.ex sc_is_between sys fun cdv hcd A outer s H E A0 hr gx tk => (gs_one (gs_ret (gandV (gcallC [false] f_is_integer hr gx tk (gcons (gv 0) gnil)) (gone (gchain op_le op_le cmpI_ok cmpI_ok (gv 1) (gv 0) (gv 2))))))
theorem b_is_between (fk : FnK K mg .none "is_between" s_is_between ["thing", "least", "most"] f_ fd_) : Binds K fd_ ["thing", "least", "most"] [] := fk.binds fun _ _ _ _ _ _ us hl => match us, hl with | [_, _, _], _ => rfl
set_option maxHeartbeats 4000000 in
theorem g_is_symmetry (fk : FnK K mg .none "is_symmetry" s_is_symmetry ["thing"] f_ fd_) (sys : SysOk base) (z_all : mg "all" = none) (z_isinstance : mg "isinstance" = none) (z_len : mg "len" = none) (z_tuple : mg "tuple" = none) (k_KINDS : ConK K mg "KINDS" c_KINDS) (f_is_between : CalledG P w K mg base Γ 2 "is_between" ["thing", "least", "most"] F_is_between []) (f_is_integer : CalledG P w K mg base Γ 1 "is_integer" ["thing"] F_is_integer []) : FnG P w K mg base Γ 3 f_ fd_ ["thing"] F_is_symmetry :=
  fnG_of (N := ["thing", "one"]) (body := B_is_symmetry) fk.ex sc_is_symmetry sys fun cdv hcd A outer s H E A0 hr gx tk => (gs_cons (gs_if (PW.pt (gor (gnot (gtv (g_isi kit_tuple z_isinstance z_tuple (by decide +kernel) (gv 0)))) (gor (gtcmp (op_neU (hu64 hr)) neD_ok (g_len z_len (gcons (gv 0) gnil)) gint (nomark _)) (gor1 (gnot (gtv (g_all rfl z_all (gcons (glc [1] rfl rfl sc_is_symmetry.nd (gi_any (gv 0)) (blkOk_by (own := [("one", 1)]) (by kernel_rfl)) (fun s_ H_ C_ cl_ fp_ => (gg_name 1 sc_is_symmetry.nd)) (fun s_ H_ C_ cl_ fp_ => gts_nil) (fun s_ H_ C_ cl_ fp_ => have gx := gx_blk s_ H_ _ _ fp_ gx; have tk := takes_gx gx; (gcallC [false] f_is_integer hr gx tk (gcons (gv 1) gnil)))) gnil)))))))) (gs_one (gs_ret gbl)) gs_nil) (gs_one (gs_ret (gcallC [false, false, false] f_is_between hr gx tk (gcons (gix (hu1 hr) (gv 0) gint) (gcons gint (gcons (gsub (gcon k_KINDS) gint) gnil)))))))
theorem b_is_symmetry (fk : FnK K mg .none "is_symmetry" s_is_symmetry ["thing"] f_ fd_) : Binds K fd_ ["thing"] [] := fk.binds fun _ _ _ _ _ _ us hl => match us, hl with | [_], _ => rfl
set_option maxHeartbeats 4000000 in
theorem g_need_symmetry (fk : FnK K mg .none "need_symmetry" s_need_symmetry ["thing"] f_ fd_) (sys : SysOk base) {C_SymmetryError : Addr} (x_SymmetryError : ExcK K mg "SymmetryError" C_SymmetryError "ValueError.__new__" [.type "ValueError", .type "Exception", .type "BaseException", .type "object"]) (f_is_symmetry : CalledG P w K mg base Γ 3 "is_symmetry" ["thing"] F_is_symmetry []) : FnG P w K mg base Γ 4 f_ fd_ ["thing"] F_need_symmetry :=
  fnG_of (N := ["thing"]) (body := B_need_symmetry) fk.ex sc_need_symmetry sys fun cdv hcd A outer s H E A0 hr gx tk => (gs_one (gs_if (gnot (gtv (gcallC [false] f_is_symmetry hr gx tk (gcons (gv 0) gnil)))) (gs_one (gs_raise PySem.F.excBase_ValueError x_SymmetryError rfl tk)) gs_nil))
theorem b_need_symmetry (fk : FnK K mg .none "need_symmetry" s_need_symmetry ["thing"] f_ fd_) : Binds K fd_ ["thing"] [] := fk.binds fun _ _ _ _ _ _ us hl => match us, hl with | [_], _ => rfl
set_option maxHeartbeats 4000000 in
theorem g_need_square (fk : FnK K mg .none "need_square" s_need_square ["thing"] f_ fd_) (sys : SysOk base) {C_SquareError : Addr} (x_SquareError : ExcK K mg "SquareError" C_SquareError "ValueError.__new__" [.type "ValueError", .type "Exception", .type "BaseException", .type "object"]) (f_is_square : CalledG P w K mg base Γ 2 "is_square" ["thing"] F_is_square []) : FnG P w K mg base Γ 3 f_ fd_ ["thing"] F_need_square :=
  fnG_of (N := ["thing"]) (body := B_need_square) fk.ex sc_need_square sys fun cdv hcd A outer s H E A0 hr gx tk => (gs_one (gs_if (gnot (gtv (gcallC [false] f_is_square hr gx tk (gcons (gv 0) gnil)))) (gs_one (gs_raise PySem.F.excBase_ValueError x_SquareError rfl tk)) gs_nil))
theorem b_need_square (fk : FnK K mg .none "need_square" s_need_square ["thing"] f_ fd_) : Binds K fd_ ["thing"] [] := fk.binds fun _ _ _ _ _ _ us hl => match us, hl with | [_], _ => rfl
set_option maxHeartbeats 4000000 in
theorem g_added (fk : FnK K mg (.ref T_) "added" s_added ["vector", "step", "many"] f_ fd_) (sys : SysOk base) : FnG P w K mg base Γ 1 f_ fd_ ["vector", "step", "many"] F_added :=
  fnG_of (N := ["vector", "step", "many"]) (body := B_added) fk.ex sc_added sys fun cdv hcd A outer s H E A0 hr gx tk => (gs_one (gs_ret (gtup (gcons (gadd (gix (hu1 hr) (gv 0) gint) (gmul (gv 2) (gix (hu1 hr) (gv 1) gint))) (gcons (gadd (gix (hu1 hr) (gv 0) gint) (gmul (gv 2) (gix (hu1 hr) (gv 1) gint))) gnil)))))
theorem bd_added_0 {T : Addr} (fk : FnK K mg (.ref T) "added" s_added ["vector", "step", "many"] f_ fd_) (e : DflK K T [.int (1)]) : ∃ ds dvs, Binds K fd_ ["vector", "step", "many"] ds ∧ Vals dvs ds ∧ Dfl K dvs ([].map B.val) := binds_dfl (n := 3) fk e 1 (by decide) fun _ _ _ _ _ _ us its hl hi => match us, hl, its, hi with | [_, _, _], _, [_], _ => ⟨_, rfl, rfl⟩
theorem bd_added_1 {T : Addr} (fk : FnK K mg (.ref T) "added" s_added ["vector", "step", "many"] f_ fd_) (e : DflK K T [.int (1)]) : ∃ ds dvs, Binds K fd_ ["vector", "step", "many"] ds ∧ Vals dvs ds ∧ Dfl K dvs ([.int (1)].map B.val) := binds_dfl (n := 2) fk e 0 (by decide) fun _ _ _ _ _ _ us its hl hi => match us, hl, its, hi with | [_, _], _, [_], _ => ⟨_, rfl, rfl⟩
set_option maxHeartbeats 4000000 in
theorem g_turned (fk : FnK K mg .none "turned" s_turned ["kind", "vector"] f_ fd_) (sys : SysOk base) (k_LINEAR : ConK K mg "LINEAR" c_LINEAR) : FnG P w K mg base Γ 1 f_ fd_ ["kind", "vector"] F_turned :=
  fnG_of (N := ["kind", "vector", "a", "b", "c", "d"]) (body := B_turned) fk.ex sc_turned sys fun cdv hcd A outer s H E A0 hr gx tk => (gs_cons (gs_asg (tv := [2, 3, 4, 5]) (gix (hu1 hr) (gcon k_LINEAR) (gv 0)) (gg_tup rfl (ggs_cons (gg_name 2 sc_turned.nd) (ggs_cons (gg_name 3 sc_turned.nd) (ggs_cons (gg_name 4 sc_turned.nd) (ggs_cons (gg_name 5 sc_turned.nd) ggs_nil)))))) (gs_one (gs_ret (gtup (gcons (gadd (gmul (gv 2) (gix (hu1 hr) (gv 1) gint)) (gmul (gv 3) (gix (hu1 hr) (gv 1) gint))) (gcons (gadd (gmul (gv 4) (gix (hu1 hr) (gv 1) gint)) (gmul (gv 5) (gix (hu1 hr) (gv 1) gint))) gnil))))))
theorem b_turned (fk : FnK K mg .none "turned" s_turned ["kind", "vector"] f_ fd_) : Binds K fd_ ["kind", "vector"] [] := fk.binds fun _ _ _ _ _ _ us hl => match us, hl with | [_, _], _ => rfl
set_option maxHeartbeats 4000000 in
theorem g_offset (fk : FnK K mg .none "offset" s_offset ["symmetry"] f_ fd_) (sys : SysOk base) : FnG P w K mg base Γ 1 f_ fd_ ["symmetry"] F_offset :=
  fnG_of (N := ["symmetry"]) (body := B_offset) fk.ex sc_offset sys fun cdv hcd A outer s H E A0 hr gx tk => (gs_one (gs_ret (gslice (gv 0) (gps gint) gpn)))
theorem b_offset (fk : FnK K mg .none "offset" s_offset ["symmetry"] f_ fd_) : Binds K fd_ ["symmetry"] [] := fk.binds fun _ _ _ _ _ _ us hl => match us, hl with | [_], _ => rfl
set_option maxHeartbeats 4000000 in
theorem g_image_of (fk : FnK K mg .none "image_of" s_image_of ["symmetry", "square"] f_ fd_) (sys : SysOk base) (f_added_1 : CalledG P w K mg base Γ 1 "added" ["vector", "step", "many"] F_added [B.val (.int (1))]) (f_offset : CalledG P w K mg base Γ 1 "offset" ["symmetry"] F_offset []) (f_turned : CalledG P w K mg base Γ 1 "turned" ["kind", "vector"] F_turned []) : FnG P w K mg base Γ 2 f_ fd_ ["symmetry", "square"] F_image_of :=
  fnG_of (N := ["symmetry", "square"]) (body := B_image_of) fk.ex sc_image_of sys fun cdv hcd A outer s H E A0 hr gx tk => (gs_one (gs_ret (gcallC [false, false] f_added_1 hr gx tk (gcons (gcallC [false, false] f_turned hr gx tk (gcons (gix (hu1 hr) (gv 0) gint) (gcons (gv 1) gnil))) (gcons (gcallC [false] f_offset hr gx tk (gcons (gv 0) gnil)) gnil)))))
theorem b_image_of (fk : FnK K mg .none "image_of" s_image_of ["symmetry", "square"] f_ fd_) : Binds K fd_ ["symmetry", "square"] [] := fk.binds fun _ _ _ _ _ _ us hl => match us, hl with | [_, _], _ => rfl
set_option maxHeartbeats 4000000 in
theorem g_image (fk : FnK K mg .none "image" s_image ["symmetry", "square"] f_ fd_) (sys : SysOk base) (f_image_of : CalledG P w K mg base Γ 2 "image_of" ["symmetry", "square"] F_image_of []) (f_need_square : CalledG P w K mg base Γ 3 "need_square" ["thing"] F_need_square []) (f_need_symmetry : CalledG P w K mg base Γ 4 "need_symmetry" ["thing"] F_need_symmetry []) : FnG P w K mg base Γ 5 f_ fd_ ["symmetry", "square"] F_image :=
  fnG_of (N := ["symmetry", "square"]) (body := B_image) fk.ex sc_image sys fun cdv hcd A outer s H E A0 hr gx tk => (gs_cons (gs_expr (gcallC [false] f_need_symmetry hr gx tk (gcons (gv 0) gnil))) (gs_cons (gs_expr (gcallC [false] f_need_square hr gx tk (gcons (gv 1) gnil))) (gs_one (gs_ret (gcallC [false, false] f_image_of hr gx tk (gcons (gv 0) (gcons (gv 1) gnil)))))))
set_option maxHeartbeats 4000000 in
theorem g__law_images_are_right (fk : FnK K mg .none "_law_images_are_right" s__law_images_are_right ["_law_far"] f_ fd_) (sys : SysOk base) (z_range : mg "range" = none) (kp_image_10 : CalledP P w K mg base Γ 5 "image" ["square", "symmetry"] ["symmetry", "square"] [1, 0] F_image) (kf_image : CalledK P w K mg base Γ 5 "image" ["symmetry", "square"] F_image) : FnG P w K mg base Γ 6 f_ fd_ ["_law_far"] F__law_images_are_right :=
  fnG_of (N := ["_law_far", "_law_spot", "_law_expected", "_law_kind"]) (body := B__law_images_are_right) fk.ex sc__law_images_are_right sys fun cdv hcd A outer s H E A0 hr gx tk => (gs_cons (gs_set 1 sc__law_images_are_right.nd (gtup (gcons (gadd (gv 0) gint) (gcons gint gnil)))) (gs_cons (gs_set 2 sc__law_images_are_right.nd (glst (gcons (gtup (gcons (gadd (gv 0) gint) (gcons gint gnil))) (gcons (gtup (gcons (gnegD gint) (gcons (gadd (gv 0) gint) gnil))) (gcons (gtup (gcons (gsub (gsub gint (gv 0)) gint) (gcons (gnegD gint) gnil))) (gcons (gtup (gcons gint (gcons (gsub (gsub gint (gv 0)) gint) gnil))) (gcons (gtup (gcons (gsub (gsub gint (gv 0)) gint) (gcons gint gnil))) (gcons (gtup (gcons (gnegD gint) (gcons (gsub (gsub gint (gv 0)) gint) gnil))) gnil)))))))) (gs_cons (gs_set 2 sc__law_images_are_right.nd (gadd (gv 2) (glst (gcons (gtup (gcons (gadd (gv 0) gint) (gcons (gnegD gint) gnil))) (gcons (gtup (gcons gint (gcons (gadd (gv 0) gint) gnil))) gnil))))) (gs_cons (gs_if (gtcmp (op_neU (hu64 hr)) neD_ok (glc [3] rfl rfl sc__law_images_are_right.nd (gi_range1 z_range (gcons gint gnil)) (blkOk_by (own := [("_law_kind", 3)]) (by kernel_rfl)) (fun s_ H_ C_ cl_ fp_ => (gg_name 3 sc__law_images_are_right.nd)) (fun s_ H_ C_ cl_ fp_ => gts_nil) (fun s_ H_ C_ cl_ fp_ => have gx := gx_blk s_ H_ _ _ fp_ gx; have tk := takes_gx gx; (gcallK [false, false] kf_image hr gx tk (gkcons (gtup (gcons (gv 3) (gcons gint (gcons gint gnil)))) (gkcons (gv 1) gknil))))) (gv 2) (nomark _)) (gs_one (gs_ret gbl)) gs_nil) (gs_one (gs_ret (geq (hu64 hr) (gcallP (qs := ["square", "symmetry"]) [false, false] kp_image_10 hr gx tk (gkcons (gtup (gcons gint (gcons gint gnil))) (gkcons (gtup (gcons gint (gcons gint (gcons (gv 0) gnil)))) gknil))) (gtup (gcons gint (gcons (gadd (gv 0) gint) gnil))))))))))
theorem b__law_images_are_right (fk : FnK K mg .none "_law_images_are_right" s__law_images_are_right ["_law_far"] f_ fd_) : Binds K fd_ ["_law_far"] [] := fk.binds fun _ _ _ _ _ _ us hl => match us, hl with | [_], _ => rfl
set_option maxHeartbeats 4000000 in
theorem g_kind_after (fk : FnK K mg .none "kind_after" s_kind_after ["first", "second"] f_ fd_) (sys : SysOk base) (t_LINEAR : ConT K mg "LINEAR" c_LINEAR) (f_turned : CalledG P w K mg base Γ 1 "turned" ["kind", "vector"] F_turned []) : FnG P w K mg base Γ 2 f_ fd_ ["first", "second"] F_kind_after :=
  fnG_of (N := ["first", "second", "a", "c", "b", "d"]) (body := B_kind_after) fk.ex sc_kind_after sys fun cdv hcd A outer s H E A0 hr gx tk => (gs_cons (gs_asg (tv := [2, 3]) (gcallC [false, false] f_turned hr gx tk (gcons (gv 1) (gcons (gcallC [false, false] f_turned hr gx tk (gcons (gv 0) (gcons (gtup (gcons gint (gcons gint gnil))) gnil))) gnil))) (gg_tup rfl (ggs_cons (gg_name 2 sc_kind_after.nd) (ggs_cons (gg_name 3 sc_kind_after.nd) ggs_nil)))) (gs_cons (gs_asg (tv := [4, 5]) (gcallC [false, false] f_turned hr gx tk (gcons (gv 1) (gcons (gcallC [false, false] f_turned hr gx tk (gcons (gv 0) (gcons (gtup (gcons gint (gcons gint gnil))) gnil))) gnil))) (gg_tup rfl (ggs_cons (gg_name 4 sc_kind_after.nd) (ggs_cons (gg_name 5 sc_kind_after.nd) ggs_nil)))) (gs_one (gs_ret (g_index (hu65 hr) t_LINEAR (gcons (gtup (gcons (gv 2) (gcons (gv 4) (gcons (gv 3) (gcons (gv 5) gnil))))) gnil))))))
theorem b_kind_after (fk : FnK K mg .none "kind_after" s_kind_after ["first", "second"] f_ fd_) : Binds K fd_ ["first", "second"] [] := fk.binds fun _ _ _ _ _ _ us hl => match us, hl with | [_, _], _ => rfl
set_option maxHeartbeats 4000000 in
theorem g_product_of (fk : FnK K mg .none "product_of" s_product_of ["first", "second"] f_ fd_) (sys : SysOk base) (f_image_of : CalledG P w K mg base Γ 2 "image_of" ["symmetry", "square"] F_image_of []) (f_kind_after : CalledG P w K mg base Γ 2 "kind_after" ["first", "second"] F_kind_after []) (f_offset : CalledG P w K mg base Γ 1 "offset" ["symmetry"] F_offset []) : FnG P w K mg base Γ 3 f_ fd_ ["first", "second"] F_product_of :=
  fnG_of (N := ["first", "second"]) (body := B_product_of) fk.ex sc_product_of sys fun cdv hcd A outer s H E A0 hr gx tk => (gs_one (gs_ret (gadd (gtup (gcons (gcallC [false, false] f_kind_after hr gx tk (gcons (gix (hu1 hr) (gv 0) gint) (gcons (gix (hu1 hr) (gv 1) gint) gnil))) gnil)) (gcallC [false, false] f_image_of hr gx tk (gcons (gv 1) (gcons (gcallC [false] f_offset hr gx tk (gcons (gv 0) gnil)) gnil))))))
theorem b_product_of (fk : FnK K mg .none "product_of" s_product_of ["first", "second"] f_ fd_) : Binds K fd_ ["first", "second"] [] := fk.binds fun _ _ _ _ _ _ us hl => match us, hl with | [_, _], _ => rfl
set_option maxHeartbeats 4000000 in
theorem g_product (fk : FnK K mg .none "product" s_product ["first", "second"] f_ fd_) (sys : SysOk base) (f_need_symmetry : CalledG P w K mg base Γ 4 "need_symmetry" ["thing"] F_need_symmetry []) (f_product_of : CalledG P w K mg base Γ 3 "product_of" ["first", "second"] F_product_of []) : FnG P w K mg base Γ 5 f_ fd_ ["first", "second"] F_product :=
  fnG_of (N := ["first", "second"]) (body := B_product) fk.ex sc_product sys fun cdv hcd A outer s H E A0 hr gx tk => (gs_cons (gs_expr (gcallC [false] f_need_symmetry hr gx tk (gcons (gv 0) gnil))) (gs_cons (gs_expr (gcallC [false] f_need_symmetry hr gx tk (gcons (gv 1) gnil))) (gs_one (gs_ret (gcallC [false, false] f_product_of hr gx tk (gcons (gv 0) (gcons (gv 1) gnil)))))))
theorem b_product (fk : FnK K mg .none "product" s_product ["first", "second"] f_ fd_) : Binds K fd_ ["first", "second"] [] := fk.binds fun _ _ _ _ _ _ us hl => match us, hl with | [_, _], _ => rfl
set_option maxHeartbeats 4000000 in
theorem g_inverse_of (fk : FnK K mg .none "inverse_of" s_inverse_of ["symmetry"] f_ fd_) (sys : SysOk base) (z_range : mg "range" = none) (k_KINDS : ConK K mg "KINDS" c_KINDS) (k_SHIFT : ConK K mg "SHIFT" c_SHIFT) (f_kind_after : CalledG P w K mg base Γ 2 "kind_after" ["first", "second"] F_kind_after []) (f_offset : CalledG P w K mg base Γ 1 "offset" ["symmetry"] F_offset []) (f_turned : CalledG P w K mg base Γ 1 "turned" ["kind", "vector"] F_turned []) : FnG P w K mg base Γ 3 f_ fd_ ["symmetry"] F_inverse_of :=
  fnG_of (N := ["symmetry", "kind", "x", "y"]) (body := B_inverse_of) fk.ex sc_inverse_of sys fun cdv hcd A outer s H E A0 hr gx tk => (gs_cons (gs_set 1 sc_inverse_of.nd (gix (hu1 hr) (glc [1] rfl rfl sc_inverse_of.nd (gi_range1 z_range (gcons (gcon k_KINDS) gnil)) (blkOk_by (own := [("kind", 1)]) (by kernel_rfl)) (fun s_ H_ C_ cl_ fp_ => (gg_name 1 sc_inverse_of.nd)) (fun s_ H_ C_ cl_ fp_ => have gx := gx_blk s_ H_ _ _ fp_ gx; have tk := takes_gx gx; (gts_one (gtcmp (op_eqU (hu64 hr)) eqD_ok (gcallC [false, false] f_kind_after hr gx tk (gcons (gix (hu1 hr) (gv 0) gint) (gcons (gv 1) gnil))) (gcon k_SHIFT) (nomark _)))) (fun s_ H_ C_ cl_ fp_ => (gv 1))) gint)) (gs_cons (gs_asg (tv := [2, 3]) (gcallC [false, false] f_turned hr gx tk (gcons (gv 1) (gcons (gcallC [false] f_offset hr gx tk (gcons (gv 0) gnil)) gnil))) (gg_tup rfl (ggs_cons (gg_name 2 sc_inverse_of.nd) (ggs_cons (gg_name 3 sc_inverse_of.nd) ggs_nil)))) (gs_one (gs_ret (gtup (gcons (gv 1) (gcons (gsub gint (gv 2)) (gcons (gsub gint (gv 3)) gnil))))))))
theorem b_inverse_of (fk : FnK K mg .none "inverse_of" s_inverse_of ["symmetry"] f_ fd_) : Binds K fd_ ["symmetry"] [] := fk.binds fun _ _ _ _ _ _ us hl => match us, hl with | [_], _ => rfl
set_option maxHeartbeats 4000000 in
theorem g_inverse (fk : FnK K mg .none "inverse" s_inverse ["symmetry"] f_ fd_) (sys : SysOk base) (f_inverse_of : CalledG P w K mg base Γ 3 "inverse_of" ["symmetry"] F_inverse_of []) (f_need_symmetry : CalledG P w K mg base Γ 4 "need_symmetry" ["thing"] F_need_symmetry []) : FnG P w K mg base Γ 5 f_ fd_ ["symmetry"] F_inverse :=
  fnG_of (N := ["symmetry"]) (body := B_inverse) fk.ex sc_inverse sys fun cdv hcd A outer s H E A0 hr gx tk => (gs_cons (gs_expr (gcallC [false] f_need_symmetry hr gx tk (gcons (gv 0) gnil))) (gs_one (gs_ret (gcallC [false] f_inverse_of hr gx tk (gcons (gv 0) gnil)))))
theorem b_inverse (fk : FnK K mg .none "inverse" s_inverse ["symmetry"] f_ fd_) : Binds K fd_ ["symmetry"] [] := fk.binds fun _ _ _ _ _ _ us hl => match us, hl with | [_], _ => rfl
set_option maxHeartbeats 4000000 in
theorem g__law_products_are_right (fk : FnK K mg .none "_law_products_are_right" s__law_products_are_right ["_law_far"] f_ fd_) (sys : SysOk base) (f_inverse : CalledG P w K mg base Γ 5 "inverse" ["symmetry"] F_inverse []) (f_product : CalledG P w K mg base Γ 5 "product" ["first", "second"] F_product []) (kp_product_10 : CalledP P w K mg base Γ 5 "product" ["second", "first"] ["first", "second"] [1, 0] F_product) (kf_inverse : CalledK P w K mg base Γ 5 "inverse" ["symmetry"] F_inverse) (kf_product : CalledK P w K mg base Γ 5 "product" ["first", "second"] F_product) : FnG P w K mg base Γ 6 f_ fd_ ["_law_far"] F__law_products_are_right_2 :=
  fnG_of (N := ["_law_far"]) (body := B__law_products_are_right_2) fk.ex sc__law_products_are_right sys fun cdv hcd A outer s H E A0 hr gx tk => (gs_cons (gs_if (gtcmp (op_neU (hu64 hr)) neD_ok (gcallP (qs := ["second", "first"]) [false, false] kp_product_10 hr gx tk (gkcons (gtup (gcons gint (gcons gint (gcons (gv 0) gnil)))) (gkcons (gtup (gcons gint (gcons gint (gcons gint gnil)))) gknil))) (gtup (gcons gint (gcons gint (gcons (gv 0) gnil)))) (nomark _)) (gs_one (gs_ret gbl)) gs_nil) (gs_cons (gs_if (gtcmp (op_neU (hu64 hr)) neD_ok (gcallC [false, false] f_product hr gx tk (gcons (gtup (gcons gint (gcons gint (gcons (gv 0) gnil)))) (gcons (gtup (gcons gint (gcons gint (gcons gint gnil)))) gnil))) (gtup (gcons gint (gcons (gsub gint (gv 0)) (gcons gint gnil)))) (nomark _)) (gs_one (gs_ret gbl)) gs_nil) (gs_cons (gs_if (PW.pt (gor (gtcmp (op_neU (hu64 hr)) neD_ok (gcallC [false, false] f_product hr gx tk (gcons (gtup (gcons gint (gcons gint (gcons gint gnil)))) (gcons (gtup (gcons gint (gcons gint (gcons gint gnil)))) gnil))) (gtup (gcons gint (gcons gint (gcons gint gnil)))) (nomark _)) (gor1 (gtcmp (op_neU (hu64 hr)) neD_ok (gcallK [false, false] kf_product hr gx tk (gkcons (gtup (gcons gint (gcons gint (gcons gint gnil)))) (gkcons (gtup (gcons gint (gcons gint (gcons gint gnil)))) gknil))) (gtup (gcons gint (gcons gint (gcons gint gnil)))) (nomark _))))) (gs_one (gs_ret gbl)) gs_nil) (gs_cons (gs_if (PW.pt (gor (gtcmp (op_neU (hu64 hr)) neD_ok (gcallK [false] kf_inverse hr gx tk (gkcons (gtup (gcons gint (gcons gint (gcons gint gnil)))) gknil)) (gtup (gcons gint (gcons gint (gcons gint gnil)))) (nomark _)) (gor1 (gtcmp (op_neU (hu64 hr)) neD_ok (gcallC [false] f_inverse hr gx tk (gcons (gtup (gcons gint (gcons gint (gcons (gv 0) gnil)))) gnil)) (gtup (gcons gint (gcons (gsub gint (gv 0)) (gcons (gnegD gint) gnil)))) (nomark _))))) (gs_one (gs_ret gbl)) gs_nil) (gs_one (gs_ret (gandV (geq (hu64 hr) (gcallC [false] f_inverse hr gx tk (gcons (gtup (gcons gint (gcons gint (gcons (gv 0) gnil)))) gnil)) (gtup (gcons gint (gcons gint (gcons (gv 0) gnil))))) (gone (geq (hu64 hr) (gcallC [false] f_inverse hr gx tk (gcons (gtup (gcons gint (gcons gint (gcons (gv 0) gnil)))) gnil)) (gtup (gcons gint (gcons (gnegD gint) (gcons (gsub gint (gv 0)) gnil)))))))))))))
theorem b__law_products_are_right (fk : FnK K mg .none "_law_products_are_right" s__law_products_are_right ["_law_far"] f_ fd_) : Binds K fd_ ["_law_far"] [] := fk.binds fun _ _ _ _ _ _ us hl => match us, hl with | [_], _ => rfl
set_option maxHeartbeats 4000000 in
theorem g_repeated (fk : FnK K mg .none "repeated" s_repeated ["symmetry", "times"] f_ fd_) (sys : SysOk base) (z_range : mg "range" = none) (k_IDENTITY : ConK K mg "IDENTITY" c_IDENTITY) (f_product_of : CalledG P w K mg base Γ 3 "product_of" ["first", "second"] F_product_of []) : FnG P w K mg base Γ 4 f_ fd_ ["symmetry", "times"] F_repeated :=
  fnG_of (N := ["symmetry", "times", "found", "lap"]) (body := B_repeated) fk.ex sc_repeated sys fun cdv hcd A outer s H E A0 hr gx tk => (gs_cons (gs_set 2 sc_repeated.nd (gcon k_IDENTITY)) (gs_cons (gs_for (tv := [3]) (passes_of rfl) rfl (gi_range1 z_range (gcons (gv 1) gnil)) (gg_name 3 sc_repeated.nd) (gs_one (gs_set 2 sc_repeated.nd (gcallC [false, false] f_product_of hr gx tk (gcons (gv 2) (gcons (gv 0) gnil)))))) (gs_one (gs_ret (gv 2)))))
theorem b_repeated (fk : FnK K mg .none "repeated" s_repeated ["symmetry", "times"] f_ fd_) : Binds K fd_ ["symmetry", "times"] [] := fk.binds fun _ _ _ _ _ _ us hl => match us, hl with | [_, _], _ => rfl
set_option maxHeartbeats 4000000 in
theorem g_power_of (fk : FnK K mg .none "power_of" s_power_of ["symmetry", "exponent"] f_ fd_) (sys : SysOk base) (k_SHIFT : ConK K mg "SHIFT" c_SHIFT) (k_TURNS : ConK K mg "TURNS" c_TURNS) (f_added : CalledG P w K mg base Γ 1 "added" ["vector", "step", "many"] F_added []) (f_offset : CalledG P w K mg base Γ 1 "offset" ["symmetry"] F_offset []) (f_product_of : CalledG P w K mg base Γ 3 "product_of" ["first", "second"] F_product_of []) (f_repeated : CalledG P w K mg base Γ 4 "repeated" ["symmetry", "times"] F_repeated []) : FnG P w K mg base Γ 5 f_ fd_ ["symmetry", "exponent"] F_power_of :=
  fnG_of (N := ["symmetry", "exponent", "step", "shift"]) (body := B_power_of) fk.ex sc_power_of sys fun cdv hcd A outer s H E A0 hr gx tk => (gs_cons (gs_if (gtcmp (op_inX (hu65 hr)) inG_ok (gix (hu1 hr) (gv 0) gint) (gcon k_TURNS) (by with_unfolding_all rfl)) (gs_one (gs_ret (gcallC [false, false] f_repeated hr gx tk (gcons (gv 0) (gcons (gmod (gv 1) gint) gnil))))) gs_nil) (gs_cons (gs_set 2 sc_power_of.nd (gcallC [false] f_offset hr gx tk (gcons (gcallC [false, false] f_repeated hr gx tk (gcons (gv 0) (gcons gint gnil))) gnil))) (gs_cons (gs_set 3 sc_power_of.nd (gadd (gtup (gcons (gcon k_SHIFT) gnil)) (gcallC [false, false, false] f_added hr gx tk (gcons (gtup (gcons gint (gcons gint gnil))) (gcons (gv 2) (gcons (gfdiv (gv 1) gint) gnil)))))) (gs_one (gs_ret (gif (gtcmp (op_eqU (hu64 hr)) eqD_ok (gmod (gv 1) gint) gint (nomark _)) (gcallC [false, false] f_product_of hr gx tk (gcons (gv 3) (gcons (gv 0) gnil))) (gv 3)))))))
theorem b_power_of (fk : FnK K mg .none "power_of" s_power_of ["symmetry", "exponent"] f_ fd_) : Binds K fd_ ["symmetry", "exponent"] [] := fk.binds fun _ _ _ _ _ _ us hl => match us, hl with | [_, _], _ => rfl
set_option maxHeartbeats 4000000 in
theorem g_power (fk : FnK K mg .none "power" s_power ["symmetry", "exponent"] f_ fd_) (sys : SysOk base) {C_NumberError : Addr} (x_NumberError : ExcK K mg "NumberError" C_NumberError "ValueError.__new__" [.type "ValueError", .type "Exception", .type "BaseException", .type "object"]) (f_is_integer : CalledG P w K mg base Γ 1 "is_integer" ["thing"] F_is_integer []) (f_need_symmetry : CalledG P w K mg base Γ 4 "need_symmetry" ["thing"] F_need_symmetry []) (f_power_of : CalledG P w K mg base Γ 5 "power_of" ["symmetry", "exponent"] F_power_of []) : FnG P w K mg base Γ 6 f_ fd_ ["symmetry", "exponent"] F_power :=
  fnG_of (N := ["symmetry", "exponent"]) (body := B_power) fk.ex sc_power sys fun cdv hcd A outer s H E A0 hr gx tk => (gs_cons (gs_expr (gcallC [false] f_need_symmetry hr gx tk (gcons (gv 0) gnil))) (gs_cons (gs_if (gnot (gtv (gcallC [false] f_is_integer hr gx tk (gcons (gv 1) gnil)))) (gs_one (gs_raise PySem.F.excBase_ValueError x_NumberError rfl tk)) gs_nil) (gs_one (gs_ret (gcallC [false, false] f_power_of hr gx tk (gcons (gv 0) (gcons (gv 1) gnil)))))))
theorem b_power (fk : FnK K mg .none "power" s_power ["symmetry", "exponent"] f_ fd_) : Binds K fd_ ["symmetry", "exponent"] [] := fk.binds fun _ _ _ _ _ _ us hl => match us, hl with | [_, _], _ => rfl
set_option maxHeartbeats 4000000 in
theorem g__law_powers_are_right (fk : FnK K mg .none "_law_powers_are_right" s__law_powers_are_right ["_law_far"] f_ fd_) (sys : SysOk base) (f_power : CalledG P w K mg base Γ 6 "power" ["symmetry", "exponent"] F_power []) (kp_power_10 : CalledP P w K mg base Γ 6 "power" ["exponent", "symmetry"] ["symmetry", "exponent"] [1, 0] F_power) : FnG P w K mg base Γ 7 f_ fd_ ["_law_far"] F__law_powers_are_right_2 :=
  fnG_of (N := ["_law_far"]) (body := B__law_powers_are_right_2) fk.ex sc__law_powers_are_right sys fun cdv hcd A outer s H E A0 hr gx tk => (gs_cons (gs_if (PW.pt (gor (gtcmp (op_neU (hu64 hr)) neD_ok (gcallC [false, false] f_power hr gx tk (gcons (gtup (gcons gint (gcons gint (gcons gint gnil)))) (gcons gint gnil))) (gtup (gcons gint (gcons gint (gcons gint gnil)))) (nomark _)) (gor1 (gtcmp (op_neU (hu64 hr)) neD_ok (gcallC [false, false] f_power hr gx tk (gcons (gtup (gcons gint (gcons gint (gcons gint gnil)))) (gcons (gnegD gint) gnil))) (gtup (gcons gint (gcons gint (gcons (gnegD gint) gnil)))) (nomark _))))) (gs_one (gs_ret gbl)) gs_nil) (gs_cons (gs_if (PW.pt (gor (gtcmp (op_neU (hu64 hr)) neD_ok (gcallC [false, false] f_power hr gx tk (gcons (gtup (gcons gint (gcons gint (gcons gint gnil)))) (gcons (gmul gint (gv 0)) gnil))) (gtup (gcons gint (gcons (gv 0) (gcons (gv 0) gnil)))) (nomark _)) (gor1 (gtcmp (op_neU (hu64 hr)) neD_ok (gcallC [false, false] f_power hr gx tk (gcons (gtup (gcons gint (gcons (gv 0) (gcons gint gnil)))) (gcons gint gnil))) (gtup (gcons gint (gcons gint (gcons gint gnil)))) (nomark _))))) (gs_one (gs_ret gbl)) gs_nil) (gs_cons (gs_if (PW.pt (gor (gtcmp (op_neU (hu64 hr)) neD_ok (gcallP (qs := ["exponent", "symmetry"]) [false, false] kp_power_10 hr gx tk (gkcons (gadd (gpow gint gint) gint) (gkcons (gtup (gcons gint (gcons gint (gcons gint gnil)))) gknil))) (gtup (gcons gint (gcons gint (gcons gint gnil)))) (nomark _)) (gor1 (gtcmp (op_neU (hu64 hr)) neD_ok (gcallC [false, false] f_power hr gx tk (gcons (gtup (gcons gint (gcons (gv 0) (gcons gint gnil)))) (gcons (gnegD gint) gnil))) (gtup (gcons gint (gcons (gv 0) (gcons gint gnil)))) (nomark _))))) (gs_one (gs_ret gbl)) gs_nil) (gs_one (gs_ret (gandV (geq (hu64 hr) (gcallC [false, false] f_power hr gx tk (gcons (gtup (gcons gint (gcons gint (gcons (gnegD gint) gnil)))) (gcons (gnegD gint) gnil))) (gtup (gcons gint (gcons (gnegD gint) (gcons gint gnil))))) (gone (geq (hu64 hr) (gcallC [false, false] f_power hr gx tk (gcons (gtup (gcons gint (gcons gint (gcons gint gnil)))) (gcons gint gnil))) (gtup (gcons gint (gcons gint (gcons gint gnil))))))))))))
theorem b__law_powers_are_right (fk : FnK K mg .none "_law_powers_are_right" s__law_powers_are_right ["_law_far"] f_ fd_) : Binds K fd_ ["_law_far"] [] := fk.binds fun _ _ _ _ _ _ us hl => match us, hl with | [_], _ => rfl
set_option maxHeartbeats 4000000 in
theorem g_law (fk : FnK K mg .none "law" s_law ["_law_script"] f_ fd_) (sys : SysOk base) (z_len : mg "len" = none) (z_max : mg "max" = none) (z_min : mg "min" = none) (z_range : mg "range" = none) (f__law_cell : CalledG P w K mg base Γ 1 "_law_cell" ["_law_script", "_law_place"] F__law_cell_2 []) (f__law_images_are_right : CalledG P w K mg base Γ 6 "_law_images_are_right" ["_law_far"] F__law_images_are_right []) (f__law_powers_are_right : CalledG P w K mg base Γ 7 "_law_powers_are_right" ["_law_far"] F__law_powers_are_right_2 []) (f__law_products_are_right : CalledG P w K mg base Γ 6 "_law_products_are_right" ["_law_far"] F__law_products_are_right_2 []) (kf__law_errors_are_right : CalledK P w K mg base Γ 3 "_law_errors_are_right" [] F__law_errors_are_right) (kf_is_square : CalledK P w K mg base Γ 2 "is_square" ["thing"] F_is_square) (kf_is_symmetry : CalledK P w K mg base Γ 3 "is_symmetry" ["thing"] F_is_symmetry) : FnG P w K mg base Γ 8 f_ fd_ ["_law_script"] F_law_k06 :=
  fnG_of (N := ["_law_script", "_law_k", "_law_far"]) (body := B_law_k06) fk.ex sc_law sys fun cdv hcd A outer s H E A0 hr gx tk => (gs_cons (gs_if (gnot (gtv (gcallK [] kf__law_errors_are_right hr gx tk gknil))) (gs_one (gs_ret gbl)) gs_nil) (gs_cons (gs_for (tv := [1]) (passes_of rfl) rfl (gi_range1 z_range (gcons (g_max2 rfl z_max (gcons gint (gcons (g_min2 rfl z_min (gcons (g_len z_len (gcons (gv 0) gnil)) (gcons gint gnil))) gnil))) gnil)) (gg_name 1 sc_law.nd) (gs_cons (gs_set 2 sc_law.nd (gmod (gcallC [false, false] f__law_cell hr gx tk (gcons (gv 0) (gcons (gv 1) gnil))) gint)) (gs_one (gs_if (PW.pt (gor (gnot (gtv (gcallC [false] f__law_images_are_right hr gx tk (gcons (gv 2) gnil)))) (gor (gnot (gtv (gcallC [false] f__law_products_are_right hr gx tk (gcons (gv 2) gnil)))) (gor1 (gnot (gtv (gcallC [false] f__law_powers_are_right hr gx tk (gcons (gv 2) gnil)))))))) (gs_one (gs_ret gbl)) gs_nil)))) (gs_one (gs_ret (geq (hu64 hr) (glst (gcons (gcallK [false] kf_is_square hr gx tk (gkcons (gtup (gcons gint (gcons gint gnil))) gknil)) (gcons (gcallK [false] kf_is_symmetry hr gx tk (gkcons (gtup (gcons gint (gcons gint (gcons gint gnil)))) gknil)) (gcons (gcallK [false] kf_is_symmetry hr gx tk (gkcons (gtup (gcons gint (gcons gint (gcons gint gnil)))) gknil)) gnil)))) (glst (gcons gbl (gcons gbl (gcons gbl gnil)))))))))
end
end L_k06
section
open PySem PySem.Spec PyProof.Rows L2 G
local macro_rules
  | `(tactic| simp? [$ls,*]) => `(tactic| simp (maxSteps := 1000000) (disch := first | assumption | (simp (disch := decide +kernel) only [G.sl_nil, G.sl_cons, List.cons_append, List.nil_append, G.shN_str, G.shN_tup, G.shN_lst, G.shN_int, G.shN_bool, G.shN_none, G.shA_nil, G.shA_cons, G.b_ta, G.ky_i, G.ky_s]; done) | exact G.len_ok (by simp only [G.sl_nil, G.sl_cons]) | decide | decide +kernel | exact G.mulOk_l (by decide) | exact G.mulOk_r (by decide) | omega) only [G.rb_ok, G.rb_ex, G.rb_bad, G.rb_ite, G.lz, G.ls, G.sz, G.ss, G.r_seq, G.k_seq1, G.k_seq2, G.k_seq3, G.k_seq4, G.r_nx, G.r_bk, G.r_ct, G.r_retN, G.r_ret, G.k_ret, G.r_drop, G.k_drop, G.r_if, G.r_ife, G.k_if, G.r_asg, G.k_asg1, G.k_asg2, G.k_asg3, G.k_sl1, G.k_sl2, G.k_sh1, G.k_sh2, G.k_sh3, G.k_sh4, G.k_sh5, G.r_asgG, G.k_asgG, G.k_asgL, G.k_tg, G.r_nm, G.r_tup, G.r_tup1, G.r_tup3, G.r_tup4, G.r_nil, G.r_cons, G.r_V, G.k_V1, G.k_V2, G.k_V4, G.k_V3, G.r_C, G.p_val, G.p_fr, G.p_sl, G.pb_1, G.pb_2, G.pb_3, G.od_1, G.od_2, G.p_1, G.p_2, G.p_3, G.q_1, G.q_2, G.q_3, G.re_1, G.re_2, G.re_ite, G.st_1, G.st_2, G.st_3, G.r_op2, G.k_op2a, G.k_op2b, G.k_op2c, G.r_op1, G.k_op1, G.ob_some, G.r_said, G.k_said1, G.r_opN, G.k_opN, G.r_pk0, G.r_pk1, G.k_pk, G.r_anil, G.r_acons, G.k_acons, G.k_acons2, G.shs_v0, G.shs_v1, G.shs_v2, G.shs_v3, G.shs_v4, G.om_some, G.r_tupT, G.r_lstT, G.k_dt, G.k_dl, G.k_d1, G.k_d2, G.r_fB, G.k_fB, G.r_and, G.r_or, G.r_andV, G.r_orV, G.r_not, G.r_notV, G.k_not, G.k_notV, G.r_yes, G.r_ch, G.k_ch1, G.k_ch2, G.k_ch3, G.k_ch4, G.k_ch5, G.r_call, G.c1_nil, G.c1_t, G.c1_f, G.c1_s, G.c1_s1, G.c1_s2, G.k_ca, G.k_c1, G.k_c2, G.c2_nil, G.c2_v, G.c2_s, G.c2_s1, G.c2_s3, G.c2_s2, G.k_call, G.k_w1, G.k_w2, G.k_w3, G.k_wite, G.wb_nil, G.wb_none, G.wb_some, G.k_wb1, G.k_wb2, G.wbx_nil, G.wbx_none, G.ap_nil, G.ap_nil2, G.ap_cons, G.ma_nil, G.ma_cons, G.ds_nil, G.ds_none, G.ds_some, G.me_nil, G.me_none, G.me_some, G.ou_0, G.ou_s, G.ob_val, G.ob_own, G.ob_un, G.ob_exc, G.ob_prm, G.le_0, G.le_s, G.k_rf1, G.k_rf2, G.k_rf3, G.k_rf4, G.k_rs1, G.k_rs2, G.r_set, G.k_set1, G.k_set2, G.k_set3, G.k_set4, G.k_set5, G.k_set6, G.k_set7, G.k_set8, G.k_set9, G.r_mut, G.k_mu1, G.k_mu2, G.k_mu3, G.k_mu4, G.k_mu5, G.k_mu6, G.k_mu7, G.k_app, G.k_apps, G.r_par, G.k_par1, G.k_par2, G.k_par3, G.k_par4, G.k_par5, G.r_par3, G.k_p3a, G.k_p3b, G.r_parN, G.k_pn1, G.k_pn2, G.k_nx, G.ev_nil, G.ev_cons, G.k_ev1, G.k_ev2, G.rs_nil, G.rs_val, G.rs_fr, G.rs_sl, G.k_rsS1, G.k_rsS2, G.bn_nil, G.bn_val, G.bn_fr, G.r_rep, G.k_rp1, G.k_rp2, G.k_rp3, G.ixN_last, G.set_last, G.ix_last, G.r_for, G.k_for, G.fo_nil, G.fo_cons, G.k_fo0, G.k_fo1, G.k_fo2, G.k_fo3, G.k_fo4, G.r_turn, G.k_tu0, G.k_tu1, G.k_tu2, G.k_tu3, G.k_tu4, G.r_seqI, G.k_seqI, G.k_seqI1, G.k_seqI3, G.k_seqI5, G.k_seqI6, G.k_seqI4, G.k_seqI2, G.r_rng1, G.k_rng1, G.k_rng1b, G.r_rng2, G.k_rng2, G.k_rng2b, G.rgl_0, G.rgl_1, G.rgl_2, G.rgl_3, G.rgl_4, G.rgl_5, G.rgl_6, G.rgl_7, G.rgl_8, G.rgl_9, G.rgl_10, G.rgl_12, G.rgl_16, G.r1l_1, G.r1l_2, G.r1l_3, G.r1l_4, G.r1l_5, G.r1l_6, G.r1l_8, G.rpl_0, G.rpl_1, G.rpl_2, G.rpl_3, G.rpl_4, G.rpl_5, G.rpl_6, G.rpl_7, G.rpl_8, G.r_lc, G.k_lc, G.l_nil, G.l_cons, G.l_A, G.l_B, G.l_C, G.l_C2, G.l_C3, G.l_S1, G.l_S2, G.l_D, G.k_lc1, G.wi_nil, G.wi_cons, G.mulOk_l, G.mulOk_r, G.r_sl, G.k_sla, G.k_slb, G.k_slc, G.k_sld, G.pt_n, G.pt_s, G.k_pt, G.cu_t, G.cu_l, G.cu_1n, G.cu_2n, G.cu_n1, G.d_add, G.d_addT, G.d_addTs, G.d_addL, G.d_addLs, G.d_sub, G.d_mul, G.d_fdiv, G.d_mod, G.d_neg, G.d_cmp, G.d_ixT, G.d_ixL, G.at_0, G.at_1, G.at_2, G.at_3, G.d_lenL, G.d_lenT, G.d_tupL, G.d_tupT, G.d_all, G.k_all, G.d_any, G.k_any, G.bo_nil, G.bo_cons, G.al_nil, G.al_cons, G.al_map, G.an_nil, G.an_cons, G.an_map, G.id_b, G.bo_map, G.d_max, G.d_min, G.d_listL, G.d_listT, G.d_p18, G.d_p13, G.d_p12, G.d_is, G.d_abs, G.d_repr, G.d_eqS, G.d_neS, G.d_eqI, G.d_neI, G.d_isi, G.isy_int_none, G.isy_int_bool, G.isy_int_int, G.isy_int_str, G.isy_int_list, G.isy_int_tuple, G.isy_int_dict, G.isy_bool_none, G.isy_bool_bool, G.isy_bool_int, G.isy_bool_str, G.isy_bool_list, G.isy_bool_tuple, G.isy_bool_dict, G.isy_tuple_none, G.isy_tuple_bool, G.isy_tuple_int, G.isy_tuple_str, G.isy_tuple_list, G.isy_tuple_tuple, G.isy_tuple_dict, G.isy_list_none, G.isy_list_bool, G.isy_list_int, G.isy_list_str, G.isy_list_list, G.isy_list_tuple, G.isy_list_dict, G.isy_str_none, G.isy_str_bool, G.isy_str_int, G.isy_str_str, G.isy_str_list, G.isy_str_tuple, G.isy_str_dict, G.isy_dict_none, G.isy_dict_bool, G.isy_dict_int, G.isy_dict_str, G.isy_dict_list, G.isy_dict_tuple, G.isy_dict_dict, G.it_t, G.it_f, G.b_tt, G.b_ft, G.b_nt, G.b_nf, G.b_ta, G.b_fa, G.b_at, G.b_to, G.b_fo, G.lI_0, G.lI_1, G.lI_2, G.lI_3, G.lI_4, G.lI_5, G.lI_m, G.bs_f, G.es_f, G.bb_tt, G.bb_tf, G.bb_ft, G.bb_ff, G.bq_s, G.r_dic, G.k_dic1, G.k_dic2, G.k_dic3, G.k_dic4, G.k_kD1, G.k_kD2, G.k_fl0, G.k_fl1, G.k_pr0, G.k_pr1, G.k_pr2, G.r_dic0, G.d_ixDi, G.d_ixDs, G.d_inGT, G.d_inGL, G.d_ninGT, G.d_ninGL, G.d_inGi, G.d_ninGi, G.k_vals, G.k_items, G.d_setDi, G.dg_nil, G.dg_i, G.dg_s, G.mg_0, G.mg_s, G.dpk_n, G.ky_i, G.ky_s, G.d_eqX, G.d_neX, G.d_inT, G.d_inL, G.d_ninT, G.d_ninL, G.ev_ii, G.ev_bb, G.ev_ss, G.ev_nn, G.ev_tt, G.ev_ll, G.ev_0, G.ev_c, G.ev_c0, G.ev_0c, G.ev_none_bool, G.ev_none_int, G.ev_none_str, G.ev_none_list, G.ev_none_tuple, G.ev_bool_none, G.ev_bool_str, G.ev_bool_list, G.ev_bool_tuple, G.ev_int_none, G.ev_int_str, G.ev_int_list, G.ev_int_tuple, G.ev_str_none, G.ev_str_bool, G.ev_str_int, G.ev_str_list, G.ev_str_tuple, G.ev_list_none, G.ev_list_bool, G.ev_list_int, G.ev_list_str, G.ev_list_tuple, G.ev_tuple_none, G.ev_tuple_bool, G.ev_tuple_int, G.ev_tuple_str, G.ev_tuple_list, G.dec_t, G.not_dec, G.k_popA, G.k_popZ, G.k_pop1, G.r_ext, G.k_ext1, G.k_ext2, G.k_ext3, G.k_ext4, G.r_items, G.k_itemsJ, G.d_listD, G.d_intI, G.d_intB, G.d_strI, G.r_subG, G.k_sub1, G.k_sub2, G.k_sub3, G.k_sub4, G.k_sub5, G.k_sub6, G.k_sub7, G.r_tupL1, G.r_tupL2, G.r_tupL3, G.r_tupL4, G.d_isB, G.d_isnB, G.d_isnN, G.d_revL, G.d_revT, G.r_permA, G.k_perm1, G.k_perm2, G.k_perm3a, G.k_perm3b, G.k_perm3c, G.k_perm3d, G.k_perm3e, Int.reduceEq, Int.reduceLE, Int.reduceLT, Int.reduceAdd, Int.reduceSub, Int.reduceMul, Int.reduceNeg, Nat.reduceAdd, List.nil_append, not_true_eq_false, not_false_eq_true, and_true, true_and, and_false, false_and, or_true, true_or, or_false, false_or, decide_true, decide_false, eq_self, Bool.and_true, Bool.and_false, $ls,*])
  | `(tactic| simp? [$ls,*] at $h:ident) => `(tactic| simp (maxSteps := 1000000) (disch := first | assumption | (simp (disch := decide +kernel) only [G.sl_nil, G.sl_cons, List.cons_append, List.nil_append, G.shN_str, G.shN_tup, G.shN_lst, G.shN_int, G.shN_bool, G.shN_none, G.shA_nil, G.shA_cons, G.b_ta, G.ky_i, G.ky_s]; done) | exact G.len_ok (by simp only [G.sl_nil, G.sl_cons]) | decide | decide +kernel | exact G.mulOk_l (by decide) | exact G.mulOk_r (by decide) | omega) only [G.rb_ok, G.rb_ex, G.rb_bad, G.rb_ite, G.lz, G.ls, G.sz, G.ss, G.r_seq, G.k_seq1, G.k_seq2, G.k_seq3, G.k_seq4, G.r_nx, G.r_bk, G.r_ct, G.r_retN, G.r_ret, G.k_ret, G.r_drop, G.k_drop, G.r_if, G.r_ife, G.k_if, G.r_asg, G.k_asg1, G.k_asg2, G.k_asg3, G.k_sl1, G.k_sl2, G.k_sh1, G.k_sh2, G.k_sh3, G.k_sh4, G.k_sh5, G.r_asgG, G.k_asgG, G.k_asgL, G.k_tg, G.r_nm, G.r_tup, G.r_tup1, G.r_tup3, G.r_tup4, G.r_nil, G.r_cons, G.r_V, G.k_V1, G.k_V2, G.k_V4, G.k_V3, G.r_C, G.p_val, G.p_fr, G.p_sl, G.pb_1, G.pb_2, G.pb_3, G.od_1, G.od_2, G.p_1, G.p_2, G.p_3, G.q_1, G.q_2, G.q_3, G.re_1, G.re_2, G.re_ite, G.st_1, G.st_2, G.st_3, G.r_op2, G.k_op2a, G.k_op2b, G.k_op2c, G.r_op1, G.k_op1, G.ob_some, G.r_said, G.k_said1, G.r_opN, G.k_opN, G.r_pk0, G.r_pk1, G.k_pk, G.r_anil, G.r_acons, G.k_acons, G.k_acons2, G.shs_v0, G.shs_v1, G.shs_v2, G.shs_v3, G.shs_v4, G.om_some, G.r_tupT, G.r_lstT, G.k_dt, G.k_dl, G.k_d1, G.k_d2, G.r_fB, G.k_fB, G.r_and, G.r_or, G.r_andV, G.r_orV, G.r_not, G.r_notV, G.k_not, G.k_notV, G.r_yes, G.r_ch, G.k_ch1, G.k_ch2, G.k_ch3, G.k_ch4, G.k_ch5, G.r_call, G.c1_nil, G.c1_t, G.c1_f, G.c1_s, G.c1_s1, G.c1_s2, G.k_ca, G.k_c1, G.k_c2, G.c2_nil, G.c2_v, G.c2_s, G.c2_s1, G.c2_s3, G.c2_s2, G.k_call, G.k_w1, G.k_w2, G.k_w3, G.k_wite, G.wb_nil, G.wb_none, G.wb_some, G.k_wb1, G.k_wb2, G.wbx_nil, G.wbx_none, G.ap_nil, G.ap_nil2, G.ap_cons, G.ma_nil, G.ma_cons, G.ds_nil, G.ds_none, G.ds_some, G.me_nil, G.me_none, G.me_some, G.ou_0, G.ou_s, G.ob_val, G.ob_own, G.ob_un, G.ob_exc, G.ob_prm, G.le_0, G.le_s, G.k_rf1, G.k_rf2, G.k_rf3, G.k_rf4, G.k_rs1, G.k_rs2, G.r_set, G.k_set1, G.k_set2, G.k_set3, G.k_set4, G.k_set5, G.k_set6, G.k_set7, G.k_set8, G.k_set9, G.r_mut, G.k_mu1, G.k_mu2, G.k_mu3, G.k_mu4, G.k_mu5, G.k_mu6, G.k_mu7, G.k_app, G.k_apps, G.r_par, G.k_par1, G.k_par2, G.k_par3, G.k_par4, G.k_par5, G.r_par3, G.k_p3a, G.k_p3b, G.r_parN, G.k_pn1, G.k_pn2, G.k_nx, G.ev_nil, G.ev_cons, G.k_ev1, G.k_ev2, G.rs_nil, G.rs_val, G.rs_fr, G.rs_sl, G.k_rsS1, G.k_rsS2, G.bn_nil, G.bn_val, G.bn_fr, G.r_rep, G.k_rp1, G.k_rp2, G.k_rp3, G.ixN_last, G.set_last, G.ix_last, G.r_for, G.k_for, G.fo_nil, G.fo_cons, G.k_fo0, G.k_fo1, G.k_fo2, G.k_fo3, G.k_fo4, G.r_turn, G.k_tu0, G.k_tu1, G.k_tu2, G.k_tu3, G.k_tu4, G.r_seqI, G.k_seqI, G.k_seqI1, G.k_seqI3, G.k_seqI5, G.k_seqI6, G.k_seqI4, G.k_seqI2, G.r_rng1, G.k_rng1, G.k_rng1b, G.r_rng2, G.k_rng2, G.k_rng2b, G.rgl_0, G.rgl_1, G.rgl_2, G.rgl_3, G.rgl_4, G.rgl_5, G.rgl_6, G.rgl_7, G.rgl_8, G.rgl_9, G.rgl_10, G.rgl_12, G.rgl_16, G.r1l_1, G.r1l_2, G.r1l_3, G.r1l_4, G.r1l_5, G.r1l_6, G.r1l_8, G.rpl_0, G.rpl_1, G.rpl_2, G.rpl_3, G.rpl_4, G.rpl_5, G.rpl_6, G.rpl_7, G.rpl_8, G.r_lc, G.k_lc, G.l_nil, G.l_cons, G.l_A, G.l_B, G.l_C, G.l_C2, G.l_C3, G.l_S1, G.l_S2, G.l_D, G.k_lc1, G.wi_nil, G.wi_cons, G.mulOk_l, G.mulOk_r, G.r_sl, G.k_sla, G.k_slb, G.k_slc, G.k_sld, G.pt_n, G.pt_s, G.k_pt, G.cu_t, G.cu_l, G.cu_1n, G.cu_2n, G.cu_n1, G.d_add, G.d_addT, G.d_addTs, G.d_addL, G.d_addLs, G.d_sub, G.d_mul, G.d_fdiv, G.d_mod, G.d_neg, G.d_cmp, G.d_ixT, G.d_ixL, G.at_0, G.at_1, G.at_2, G.at_3, G.d_lenL, G.d_lenT, G.d_tupL, G.d_tupT, G.d_all, G.k_all, G.d_any, G.k_any, G.bo_nil, G.bo_cons, G.al_nil, G.al_cons, G.al_map, G.an_nil, G.an_cons, G.an_map, G.id_b, G.bo_map, G.d_max, G.d_min, G.d_listL, G.d_listT, G.d_p18, G.d_p13, G.d_p12, G.d_is, G.d_abs, G.d_repr, G.d_eqS, G.d_neS, G.d_eqI, G.d_neI, G.d_isi, G.isy_int_none, G.isy_int_bool, G.isy_int_int, G.isy_int_str, G.isy_int_list, G.isy_int_tuple, G.isy_int_dict, G.isy_bool_none, G.isy_bool_bool, G.isy_bool_int, G.isy_bool_str, G.isy_bool_list, G.isy_bool_tuple, G.isy_bool_dict, G.isy_tuple_none, G.isy_tuple_bool, G.isy_tuple_int, G.isy_tuple_str, G.isy_tuple_list, G.isy_tuple_tuple, G.isy_tuple_dict, G.isy_list_none, G.isy_list_bool, G.isy_list_int, G.isy_list_str, G.isy_list_list, G.isy_list_tuple, G.isy_list_dict, G.isy_str_none, G.isy_str_bool, G.isy_str_int, G.isy_str_str, G.isy_str_list, G.isy_str_tuple, G.isy_str_dict, G.isy_dict_none, G.isy_dict_bool, G.isy_dict_int, G.isy_dict_str, G.isy_dict_list, G.isy_dict_tuple, G.isy_dict_dict, G.it_t, G.it_f, G.b_tt, G.b_ft, G.b_nt, G.b_nf, G.b_ta, G.b_fa, G.b_at, G.b_to, G.b_fo, G.lI_0, G.lI_1, G.lI_2, G.lI_3, G.lI_4, G.lI_5, G.lI_m, G.bs_f, G.es_f, G.bb_tt, G.bb_tf, G.bb_ft, G.bb_ff, G.bq_s, G.r_dic, G.k_dic1, G.k_dic2, G.k_dic3, G.k_dic4, G.k_kD1, G.k_kD2, G.k_fl0, G.k_fl1, G.k_pr0, G.k_pr1, G.k_pr2, G.r_dic0, G.d_ixDi, G.d_ixDs, G.d_inGT, G.d_inGL, G.d_ninGT, G.d_ninGL, G.d_inGi, G.d_ninGi, G.k_vals, G.k_items, G.d_setDi, G.dg_nil, G.dg_i, G.dg_s, G.mg_0, G.mg_s, G.dpk_n, G.ky_i, G.ky_s, G.d_eqX, G.d_neX, G.d_inT, G.d_inL, G.d_ninT, G.d_ninL, G.ev_ii, G.ev_bb, G.ev_ss, G.ev_nn, G.ev_tt, G.ev_ll, G.ev_0, G.ev_c, G.ev_c0, G.ev_0c, G.ev_none_bool, G.ev_none_int, G.ev_none_str, G.ev_none_list, G.ev_none_tuple, G.ev_bool_none, G.ev_bool_str, G.ev_bool_list, G.ev_bool_tuple, G.ev_int_none, G.ev_int_str, G.ev_int_list, G.ev_int_tuple, G.ev_str_none, G.ev_str_bool, G.ev_str_int, G.ev_str_list, G.ev_str_tuple, G.ev_list_none, G.ev_list_bool, G.ev_list_int, G.ev_list_str, G.ev_list_tuple, G.ev_tuple_none, G.ev_tuple_bool, G.ev_tuple_int, G.ev_tuple_str, G.ev_tuple_list, G.dec_t, G.not_dec, G.k_popA, G.k_popZ, G.k_pop1, G.r_ext, G.k_ext1, G.k_ext2, G.k_ext3, G.k_ext4, G.r_items, G.k_itemsJ, G.d_listD, G.d_intI, G.d_intB, G.d_strI, G.r_subG, G.k_sub1, G.k_sub2, G.k_sub3, G.k_sub4, G.k_sub5, G.k_sub6, G.k_sub7, G.r_tupL1, G.r_tupL2, G.r_tupL3, G.r_tupL4, G.d_isB, G.d_isnB, G.d_isnN, G.d_revL, G.d_revT, G.r_permA, G.k_perm1, G.k_perm2, G.k_perm3a, G.k_perm3b, G.k_perm3c, G.k_perm3d, G.k_perm3e, Int.reduceEq, Int.reduceLE, Int.reduceLT, Int.reduceAdd, Int.reduceSub, Int.reduceMul, Int.reduceNeg, Nat.reduceAdd, List.nil_append, not_true_eq_false, not_false_eq_true, and_true, true_and, and_false, false_and, or_true, true_or, or_false, false_or, decide_true, decide_false, eq_self, Bool.and_true, Bool.and_false, $ls,*] at $h:ident)
namespace M
open PySem PySem.Spec PyProof.Rows L2 G
/-! ### kinds, symmetries -/
inductive Kd where
  | k0 | k1 | k2 | k3 | k4 | k5 | k6 | k7
deriving DecidableEq
def Kd.n : Kd → Nat
  | k0 => 0 | k1 => 1 | k2 => 2 | k3 => 3 | k4 => 4 | k5 => 5 | k6 => 6 | k7 => 7
def Kd.i : Kd → Int
  | k0 => 0 | k1 => 1 | k2 => 2 | k3 => 3 | k4 => 4 | k5 => 5 | k6 => 6 | k7 => 7
def Kd.of : Nat → Kd
  | 0 => k0 | 1 => k1 | 2 => k2 | 3 => k3 | 4 => k4 | 5 => k5 | 6 => k6 | _ => k7
def Kd.u : Kd → Int → Int → Int
  | k0, a, _ => a | k1, _, b => -b | k2, a, _ => -a | k3, _, b => b | k4, a, _ => -a | k5, _, b => -b | k6, a, _ => a | k7, _, b => b
def Kd.v : Kd → Int → Int → Int
  | k0, _, b => b | k1, a, _ => a | k2, _, b => -b | k3, a, _ => -a | k4, _, b => b | k5, a, _ => -a | k6, _, b => -b | k7, a, _ => a
/-- first p, then q -/
def Kd.mul (p q : Kd) : Kd := .of (if q.n < 4 then (if p.n < 4 then (p.n + q.n) % 4 else 4 + (p.n + q.n) % 4) else (if p.n < 4 then 4 + (q.n + 4 - p.n) % 4 else (q.n + 8 - p.n) % 4))
def Kd.inv : Kd → Kd
  | k1 => k3 | k3 => k1 | k => k
theorem Kd.mul_u (p q : Kd) (a b : Int) : (p.mul q).u a b = q.u (p.u a b) (p.v a b) := by
  cases p <;> cases q <;> simp [Kd.mul, Kd.n, Kd.of, Kd.u, Kd.v]
theorem Kd.mul_v (p q : Kd) (a b : Int) : (p.mul q).v a b = q.v (p.u a b) (p.v a b) := by
  cases p <;> cases q <;> simp [Kd.mul, Kd.n, Kd.of, Kd.u, Kd.v]
theorem Kd.mul_assoc (p q r : Kd) : (p.mul q).mul r = p.mul (q.mul r) := by
  cases p <;> cases q <;> cases r <;> rfl
theorem Kd.mul_k0 (p : Kd) : p.mul .k0 = p := by cases p <;> rfl
theorem Kd.k0_mul (p : Kd) : Kd.mul .k0 p = p := by cases p <;> rfl
theorem Kd.mul_inv (p : Kd) : p.mul p.inv = .k0 := by cases p <;> rfl
theorem Kd.inv_mul (p : Kd) : p.inv.mul p = .k0 := by cases p <;> rfl
theorem Kd.u_add (p : Kd) (a b c d : Int) : p.u (a + c) (b + d) = p.u a b + p.u c d := by cases p <;> simp only [Kd.u] <;> omega
theorem Kd.v_add (p : Kd) (a b c d : Int) : p.v (a + c) (b + d) = p.v a b + p.v c d := by cases p <;> simp only [Kd.v] <;> omega
theorem Kd.u_neg (p : Kd) (a b : Int) : p.u (-a) (-b) = -p.u a b := by cases p <;> simp only [Kd.u] <;> omega
theorem Kd.v_neg (p : Kd) (a b : Int) : p.v (-a) (-b) = -p.v a b := by cases p <;> simp only [Kd.v] <;> omega
theorem Kd.i_nonneg (p : Kd) : 0 ≤ p.i := by cases p <;> decide
theorem Kd.i_le (p : Kd) : p.i ≤ 7 := by cases p <;> decide
abbrev SQ (a b : Int) : PyData := .tuple [.int a, .int b]
abbrev SY (k : Kd) (x y : Int) : PyData := .tuple [.int k.i, .int x, .int y]
structure Sym where
  k : Kd
  x : Int
  y : Int
deriving DecidableEq
abbrev Sym.d (s : Sym) : PyData := .tuple [.int s.k.i, .int s.x, .int s.y]
def Sym.one : Sym := ⟨.k0, 0, 0⟩
/-- first s, then t -/
def Sym.mul (s t : Sym) : Sym := ⟨s.k.mul t.k, t.k.u s.x s.y + t.x, t.k.v s.x s.y + t.y⟩
def Sym.inv (s : Sym) : Sym := ⟨s.k.inv, -s.k.inv.u s.x s.y, -s.k.inv.v s.x s.y⟩
theorem Sym.ext' {s t : Sym} (hk : s.k = t.k) (hx : s.x = t.x) (hy : s.y = t.y) : s = t := by
  cases s; cases t; cases hk; cases hx; cases hy; rfl
theorem Sym.mul_assoc (s t r : Sym) : (s.mul t).mul r = s.mul (t.mul r) := by
  unfold Sym.mul
  refine Sym.ext' (Kd.mul_assoc ..) ?_ ?_
  · dsimp only; rw [Kd.mul_u, Kd.u_add, Int.add_assoc]
  · dsimp only; rw [Kd.mul_v, Kd.v_add, Int.add_assoc]
theorem Sym.mul_one (s : Sym) : s.mul .one = s := by
  unfold Sym.mul Sym.one
  exact Sym.ext' (Kd.mul_k0 _) (by simp [Kd.u]) (by simp [Kd.v])
theorem Sym.one_mul (s : Sym) : Sym.one.mul s = s := by
  unfold Sym.mul Sym.one
  refine Sym.ext' (Kd.k0_mul _) ?_ ?_
  · cases h : s.k <;> simp [Kd.u, h]
  · cases h : s.k <;> simp [Kd.v, h]
theorem Sym.mul_inv (s : Sym) : s.mul s.inv = .one := by
  unfold Sym.mul Sym.inv Sym.one
  exact Sym.ext' (Kd.mul_inv _) (by dsimp only; omega) (by dsimp only; omega)
theorem Sym.inv_mul (s : Sym) : s.inv.mul s = .one := by
  unfold Sym.mul Sym.inv Sym.one
  refine Sym.ext' (Kd.inv_mul _) ?_ ?_
  · dsimp only
    rw [Kd.u_neg, ← Kd.mul_u, Kd.inv_mul]
    simp only [Kd.u]
    omega
  · dsimp only
    rw [Kd.v_neg, ← Kd.mul_v, Kd.inv_mul]
    simp only [Kd.v]
    omega
theorem Sym.mul_left_inj {s t r : Sym} (h : r.mul s = r.mul t) : s = t := by
  have := congrArg r.inv.mul h
  rwa [← Sym.mul_assoc, ← Sym.mul_assoc, Sym.inv_mul, Sym.one_mul, Sym.one_mul] at this
theorem Sym.inv_of {s t : Sym} (h : s.mul t = .one) : t = s.inv := by
  apply Sym.mul_left_inj (r := s)
  rw [h, Sym.mul_inv]
def Sym.npow (s : Sym) : Nat → Sym
  | 0 => .one
  | n + 1 => (s.npow n).mul s
/-! ### numbers, squares, symmetries checked -/
theorem is_integer_ok {z : Int} : F_is_integer [.val (.int z)] = .ok (.val (.bool true), [.un]) := by kernel_rfl
theorem is_between_ok {z a b : Int} : F_is_between [.val (.int z), .val (.int a), .val (.int b)] = .ok (.val (.bool (decide (a ≤ z ∧ z ≤ b))), [.un, .un, .un]) := by
  rw [r_is_between]
  unfold B_is_between
  simp? [is_integer_ok]
  by_cases h : a ≤ z <;> simp [h]
theorem is_symmetry_ok {k : Kd} {x y : Int} : F_is_symmetry [.val (SY k x y)] = .ok (.val (.bool true), [.un]) := by
  rw [r_is_symmetry]
  unfold B_is_symmetry
  simp? [is_integer_ok, is_between_ok]
  simp [Kd.i_nonneg, Kd.i_le]
theorem is_square_ok {x y : Int} : F_is_square [.val (SQ x y)] = .ok (.val (.bool true), [.un]) := by
  rw [r_is_square]
  unfold B_is_square
  simp? [is_integer_ok]
theorem need_symmetry_ok {k : Kd} {x y : Int} : F_need_symmetry [.val (SY k x y)] = .ok (.val .none, [.un]) := by
  rw [r_need_symmetry]
  unfold B_need_symmetry
  simp? [is_symmetry_ok]
theorem need_square_ok {x y : Int} : F_need_square [.val (SQ x y)] = .ok (.val .none, [.un]) := by
  rw [r_need_square]
  unfold B_need_square
  simp? [is_square_ok]
/-! ### the linear part, images, products -/
theorem turned_ok {k : Kd} {x y : Int} : F_turned [.val (.int k.i), .val (SQ x y)] = .ok (.val (SQ (k.u x y) (k.v x y)), [.un, .un]) := by
  cases k
  · rw [show Kd.k0.u x y = 1 * x + 0 * y by simp only [Kd.u]; omega, show Kd.k0.v x y = 0 * x + 1 * y by simp only [Kd.v]; omega]; kernel_rfl
  · rw [show Kd.k1.u x y = 0 * x + -1 * y by simp only [Kd.u]; omega, show Kd.k1.v x y = 1 * x + 0 * y by simp only [Kd.v]; omega]; kernel_rfl
  · rw [show Kd.k2.u x y = -1 * x + 0 * y by simp only [Kd.u]; omega, show Kd.k2.v x y = 0 * x + -1 * y by simp only [Kd.v]; omega]; kernel_rfl
  · rw [show Kd.k3.u x y = 0 * x + 1 * y by simp only [Kd.u]; omega, show Kd.k3.v x y = -1 * x + 0 * y by simp only [Kd.v]; omega]; kernel_rfl
  · rw [show Kd.k4.u x y = -1 * x + 0 * y by simp only [Kd.u]; omega, show Kd.k4.v x y = 0 * x + 1 * y by simp only [Kd.v]; omega]; kernel_rfl
  · rw [show Kd.k5.u x y = 0 * x + -1 * y by simp only [Kd.u]; omega, show Kd.k5.v x y = -1 * x + 0 * y by simp only [Kd.v]; omega]; kernel_rfl
  · rw [show Kd.k6.u x y = 1 * x + 0 * y by simp only [Kd.u]; omega, show Kd.k6.v x y = 0 * x + -1 * y by simp only [Kd.v]; omega]; kernel_rfl
  · rw [show Kd.k7.u x y = 0 * x + 1 * y by simp only [Kd.u]; omega, show Kd.k7.v x y = 1 * x + 0 * y by simp only [Kd.v]; omega]; kernel_rfl
def kaB (p q : Kd) : Bool := match F_kind_after [.val (.int p.i), .val (.int q.i)] with
  | .ok (.val (.int i), [.un, .un]) => i == (p.mul q).i
  | _ => false
def kd8 : List Kd := [.k0, .k1, .k2, .k3, .k4, .k5, .k6, .k7]
theorem kd8_all (p : Kd) : p ∈ kd8 := by cases p <;> decide
theorem kaB_all : (kd8.all fun p => kd8.all fun q => kaB p q) = true := by kernel_rfl
theorem kind_after_ok {p q : Kd} : F_kind_after [.val (.int p.i), .val (.int q.i)] = .ok (.val (.int (p.mul q).i), [.un, .un]) := by
  have h := List.all_eq_true.mp (List.all_eq_true.mp kaB_all p (kd8_all p)) q (kd8_all q)
  unfold kaB at h
  split at h
  · rename_i i e
    rw [e, eq_of_beq h]
  · cases h
theorem offset_ok {k : Kd} {x y : Int} : F_offset [.val (SY k x y)] = .ok (.val (SQ x y), [.un]) := by kernel_rfl
theorem added_ok {x y a b m : Int} (h1 : mulOk m a = true) (h2 : mulOk m b = true) : F_added [.val (SQ x y), .val (SQ a b), .val (.int m)] = .ok (.val (SQ (x + m * a) (y + m * b)), [.un, .un, .un]) := by
  rw [r_added]
  unfold B_added
  simp? []
theorem mulOk_1 {a : Int} : mulOk 1 a = true := by unfold mulOk; rfl
theorem added1_ok {x y a b : Int} : F_added [.val (SQ x y), .val (SQ a b), .val (.int 1)] = .ok (.val (SQ (x + a) (y + b)), [.un, .un, .un]) := by
  rw [added_ok mulOk_1 mulOk_1, Int.one_mul, Int.one_mul]
theorem image_of_ok {k : Kd} {x y a b : Int} : F_image_of [.val (SY k x y), .val (SQ a b)] = .ok (.val (SQ (k.u a b + x) (k.v a b + y)), [.un, .un]) := by
  rw [r_image_of]
  unfold B_image_of
  simp? [turned_ok, offset_ok, added1_ok]
theorem image_ok {k : Kd} {x y a b : Int} : F_image [.val (SY k x y), .val (SQ a b)] = .ok (.val (SQ (k.u a b + x) (k.v a b + y)), [.un, .un]) := by
  rw [r_image]
  unfold B_image
  simp? [need_symmetry_ok, need_square_ok, image_of_ok]
theorem product_of_ok {k l : Kd} {x y a b : Int} : F_product_of [.val (SY k x y), .val (SY l a b)] = .ok (.val (SY (k.mul l) (l.u x y + a) (l.v x y + b)), [.un, .un]) := by
  rw [r_product_of]
  unfold B_product_of
  simp? [kind_after_ok, offset_ok, image_of_ok]
theorem product_ok {k l : Kd} {x y a b : Int} : F_product [.val (SY k x y), .val (SY l a b)] = .ok (.val (SY (k.mul l) (l.u x y + a) (l.v x y + b)), [.un, .un]) := by
  rw [r_product]
  unfold B_product
  simp? [need_symmetry_ok, product_of_ok]
theorem inverse_of_ok {k : Kd} {x y : Int} : F_inverse_of [.val (SY k x y)] = .ok (.val (SY k.inv (-k.inv.u x y) (-k.inv.v x y)), [.un]) := by
  cases k
  · rw [show -Kd.k0.inv.u x y = 0 - (1 * x + 0 * y) by simp only [Kd.inv, Kd.u]; omega, show -Kd.k0.inv.v x y = 0 - (0 * x + 1 * y) by simp only [Kd.inv, Kd.v]; omega]; kernel_rfl
  · rw [show -Kd.k1.inv.u x y = 0 - (0 * x + 1 * y) by simp only [Kd.inv, Kd.u]; omega, show -Kd.k1.inv.v x y = 0 - (-1 * x + 0 * y) by simp only [Kd.inv, Kd.v]; omega]; kernel_rfl
  · rw [show -Kd.k2.inv.u x y = 0 - (-1 * x + 0 * y) by simp only [Kd.inv, Kd.u]; omega, show -Kd.k2.inv.v x y = 0 - (0 * x + -1 * y) by simp only [Kd.inv, Kd.v]; omega]; kernel_rfl
  · rw [show -Kd.k3.inv.u x y = 0 - (0 * x + -1 * y) by simp only [Kd.inv, Kd.u]; omega, show -Kd.k3.inv.v x y = 0 - (1 * x + 0 * y) by simp only [Kd.inv, Kd.v]; omega]; kernel_rfl
  · rw [show -Kd.k4.inv.u x y = 0 - (-1 * x + 0 * y) by simp only [Kd.inv, Kd.u]; omega, show -Kd.k4.inv.v x y = 0 - (0 * x + 1 * y) by simp only [Kd.inv, Kd.v]; omega]; kernel_rfl
  · rw [show -Kd.k5.inv.u x y = 0 - (0 * x + -1 * y) by simp only [Kd.inv, Kd.u]; omega, show -Kd.k5.inv.v x y = 0 - (-1 * x + 0 * y) by simp only [Kd.inv, Kd.v]; omega]; kernel_rfl
  · rw [show -Kd.k6.inv.u x y = 0 - (1 * x + 0 * y) by simp only [Kd.inv, Kd.u]; omega, show -Kd.k6.inv.v x y = 0 - (0 * x + -1 * y) by simp only [Kd.inv, Kd.v]; omega]; kernel_rfl
  · rw [show -Kd.k7.inv.u x y = 0 - (0 * x + 1 * y) by simp only [Kd.inv, Kd.u]; omega, show -Kd.k7.inv.v x y = 0 - (1 * x + 0 * y) by simp only [Kd.inv, Kd.v]; omega]; kernel_rfl
theorem inverse_ok {k : Kd} {x y : Int} : F_inverse [.val (SY k x y)] = .ok (.val (SY k.inv (-k.inv.u x y) (-k.inv.v x y)), [.un]) := by
  rw [r_inverse]
  unfold B_inverse
  simp? [need_symmetry_ok, inverse_of_ok]
theorem foldl_npow (s : Sym) (n : Nat) : (List.range n).foldl (fun t _ => t.mul s) .one = s.npow n := by
  induction n with
  | zero => rfl
  | succ n ih => rw [List.range_succ, List.foldl_append, ih]; rfl
theorem repeated_ok (s : Sym) {j : Int} {n : Nat} (hj : j = n) (hn : rngOk j = true) : F_repeated [.val s.d, .val (.int j)] = .ok (.val (s.npow n).d, [.un, .un]) := by
  subst hj
  obtain ⟨ρ', e, b, rfl⟩ := fo_fold (enc := fun i : Nat => PyData.int (0 + i)) (t := nmG 3) (b := L1_repeated) (fun (t : Sym) ρ => ∃ b, ρ = [.val s.d, .val (.int n), .val t.d, b]) (fun t _ => t.mul s) (xs := List.range n) (s := .one) (ρ := [.val s.d, .val (.int n), .val c_IDENTITY, .un]) ⟨_, rfl⟩ (by
    rintro i _ t ρ ⟨b, rfl⟩
    refine ⟨_, ?_, .val (.int (0 + i)), rfl⟩
    unfold L1_repeated
    simp? [product_of_ok]
    rfl)
  rw [r_repeated]
  unfold B_repeated
  simp? [Int.toNat_natCast, e]
  rw [foldl_npow]
/-- what two of a symmetry that is no quarter turn are: a shift -/
def Sym.pow (s : Sym) (e : Int) : Sym := if s.k = .k1 ∨ s.k = .k3 then s.npow (e.fmod 4).toNat else
  if e.fmod 2 = 1 then Sym.mul ⟨.k0, e.fdiv 2 * (s.npow 2).x, e.fdiv 2 * (s.npow 2).y⟩ s else ⟨.k0, e.fdiv 2 * (s.npow 2).x, e.fdiv 2 * (s.npow 2).y⟩
theorem product_of_ok0 {l : Kd} {x y a b : Int} : F_product_of [.val (.tuple [.int 0, .int x, .int y]), .val (SY l a b)] = .ok (.val (SY l (l.u x y + a) (l.v x y + b)), [.un, .un]) := by
  have h := product_of_ok (k := .k0) (l := l) (x := x) (y := y) (a := a) (b := b)
  rwa [Kd.k0_mul] at h
theorem in_turns (k : Kd) : (decide (1 = k.i) || (decide (3 = k.i) || false)) = decide (k = .k1 ∨ k = .k3) := by
  cases k <;> rfl
theorem rngOk_nat {n : Nat} (h : n < 1000000) : rngOk (n : Int) = true := by
  unfold rngOk
  simp only [Bool.and_eq_true, decide_eq_true_eq]
  omega
theorem power_of_ok (s : Sym) {e : Int} (h1 : mulOk (e.fdiv 2) (s.npow 2).x = true) (h2 : mulOk (e.fdiv 2) (s.npow 2).y = true) : F_power_of [.val s.d, .val (.int e)] = .ok (.val (s.pow e).d, [.un, .un]) := by
  have f0 := Int.fmod_nonneg_of_pos e (show (0 : Int) < 4 by decide)
  have f1 := Int.fmod_lt_of_pos e (show (0 : Int) < 4 by decide)
  have e4 := repeated_ok s (j := e.fmod 4) (n := (e.fmod 4).toNat) (by omega) (by
    rw [show e.fmod 4 = ((e.fmod 4).toNat : Int) by omega]
    exact rngOk_nat (by omega))
  have e2 := repeated_ok s (j := 2) (n := 2) rfl (id rfl)
  rw [r_power_of]
  unfold B_power_of Sym.pow
  simp? [e4, e2, in_turns, offset_ok, added_ok, product_of_ok0, d_eqI]
  by_cases h : s.k = .k1 ∨ s.k = .k3
  · rw [if_pos h, if_pos h]
  rw [if_neg h, if_neg h]
  by_cases h2 : e.fmod 2 = 1
  · rw [if_pos h2, if_pos h2]
    simp only [Int.zero_add]
    congr 3
    simp only [Sym.mul, Kd.k0_mul]
  · rw [if_neg h2, if_neg h2]
    simp only [Int.zero_add]
    rfl
theorem power_ok (s : Sym) {e : Int} (h1 : mulOk (e.fdiv 2) (s.npow 2).x = true) (h2 : mulOk (e.fdiv 2) (s.npow 2).y = true) : F_power [.val s.d, .val (.int e)] = .ok (.val (s.pow e).d, [.un, .un]) := by
  rw [r_power]
  unfold B_power
  simp? [need_symmetry_ok, is_integer_ok, power_of_ok s h1 h2]
/-! ### the laws' own images and products -/
/-! ### drawing -/
structure Src where
  a : Int
  b : Int
  c : Int
  h0 : 0 ≤ b
  h1 : b ≤ 2147483647
abbrev Src.d (s : Src) : PyData := .list [.int s.a, .int s.b, .int s.c]
def m1 (b c : Int) : Int := (b * 48271 + 1009 * (c + 1) + 7).fmod 2147483647
def m2 (b : Int) : Int := (b * b + 69621 * b + 11).fmod 2147483629
def m3 (x : Int) : Int := (x * x + 40014 * x).fmod 2147483587
theorem m1_nn (b c : Int) : 0 ≤ m1 b c := Int.fmod_nonneg_of_pos _ (by decide)
theorem m1_lt (b c : Int) : m1 b c < 2147483647 := Int.fmod_lt_of_pos _ (by decide)
/-- the next number below m -/
def Src.v (s : Src) (m : Int) : Int := if 0 < s.a then s.a.fmod m else ((m3 (m2 (m1 s.b s.c))).fdiv 16).fmod m
def Src.nx (s : Src) (m : Int) : Src := if 0 < s.a then ⟨s.a.fdiv m, s.b, s.c, s.h0, s.h1⟩ else ⟨s.a, m1 s.b s.c, s.c + 1, m1_nn _ _, by have := m1_lt s.b s.c; omega⟩
def Src.sq (s : Src) (far : Int) : Int × Int := (s.v (2 * far + 1) - far, (s.nx (2 * far + 1)).v (2 * far + 1) - far)
theorem mul2Ok {a : Int} : mulOk 2 a = true := G.mulOk_l (by decide)
/-! ### repr -/
end M
namespace M
open PySem PySem.Spec PyProof.Rows L2 G
def sqd (p : Int × Int) : PyData := .tuple [.int p.1, .int p.2]
theorem Sym.mul_abs (s t : Sym) {a b : Nat} (hs : s.x.natAbs + s.y.natAbs ≤ a) (ht : t.x.natAbs + t.y.natAbs ≤ b) : (s.mul t).x.natAbs + (s.mul t).y.natAbs ≤ a + b := by
  unfold Sym.mul
  dsimp only
  have : (t.k.u s.x s.y).natAbs + (t.k.v s.x s.y).natAbs = s.x.natAbs + s.y.natAbs := by cases t.k <;> simp only [Kd.u, Kd.v] <;> omega
  omega
/-! ### the frame of a law -/
def outerI (most : Int) : SI := rng1I (aCons (opN max2D (aCons (fC (.int 1)) (aCons (opN min2D (aCons (opN lenD (aCons (fV 0) aNil)) (aCons (fC (.int most)) aNil))) aNil))) aNil)
theorem outerI_ok {ns : List Int} {bs : List B} (most : Nat) (h1 : 1 ≤ most) (h2 : most ≤ 100) : ∃ m : Nat, m ≤ most ∧ outerI most (.val (.list (ns.map PyData.int)) :: bs) = .ok ((List.range m).map fun i : Nat => PyData.int (0 + i), .val (.list (ns.map PyData.int)) :: bs) := by
  have key : ∃ m : Nat, m ≤ most ∧ (if (if (most : Int) < (ns.length : Int) then (most : Int) else (ns.length : Int)) > 1 then (if (most : Int) < (ns.length : Int) then (most : Int) else (ns.length : Int)) else 1) = (m : Int) := by
    by_cases h : (most : Int) < (ns.length : Int)
    · by_cases h2 : (most : Int) > 1
      · exact ⟨most, Nat.le_refl _, by rw [if_pos h, if_pos h2]⟩
      · exact ⟨1, h1, by rw [if_pos h, if_neg h2]; rfl⟩
    · by_cases h2 : (ns.length : Int) > 1
      · exact ⟨ns.length, by omega, by rw [if_neg h, if_pos h2]⟩
      · exact ⟨1, h1, by rw [if_neg h, if_neg h2]; rfl⟩
  obtain ⟨m, hm, em⟩ := key
  refine ⟨m, hm, ?_⟩
  have hr : rngOk (m : Int) = true := rngOk_nat (by omega)
  unfold outerI
  simp? [em, Int.toNat_natCast]
theorem law_outerI {b : SS} {ns : List Int} {J : List B → Prop} (most : Nat) (h1 : 1 ≤ most) (h2 : most ≤ 100)
    (st : ∀ (i : Nat) (bs : List B), i < most → J bs → ∃ bs', J bs' ∧ turn (nmG 1) b (.int (0 + i)) (.val (.list (ns.map PyData.int)) :: bs) = .ok (.nx (.val (.list (ns.map PyData.int)) :: bs'))) (bs : List B) (hb : J bs) :
    ∃ bs', J bs' ∧ forS (outerI most) (nmG 1) b (.val (.list (ns.map PyData.int)) :: bs) = .ok (.nx (.val (.list (ns.map PyData.int)) :: bs')) := by
  obtain ⟨m, hm, e⟩ := outerI_ok (ns := ns) (bs := bs) most h1 h2
  obtain ⟨ρ', e', bs', hb', rfl⟩ := fo_inv (enc := fun i : Nat => PyData.int (0 + i)) (t := nmG 1) (b := b) (fun ρ => ∃ bs : List B, J bs ∧ ρ = .val (.list (ns.map PyData.int)) :: bs) (xs := List.range m) ⟨bs, hb, rfl⟩ (by
    rintro i hi ρ ⟨bs, hb, rfl⟩
    obtain ⟨bs', hb', e⟩ := st i bs (by have := List.mem_range.mp hi; omega) hb
    exact ⟨_, e, bs', hb', rfl⟩)
  exact ⟨bs', hb', by rw [r_for, e, rb_ok, k_for, e']⟩
/-! ### repr -/
theorem rep_cons {x : PyData} {xs : List PyData} : PyData.showableAll (x :: xs) = (PyData.showable x && PyData.showableAll xs) := rfl
theorem rep_int {i : Int} (h : i.natAbs < 2 ^ 64) : PyData.showable (.int i) = true := by
  have l1 : ∀ n : Nat, n < 2 ^ 64 → n.log2 < 64 := fun n h => by
    by_cases h0 : n = 0
    · subst h0; decide
    · exact (Nat.log2_lt h0).mpr h
  have := l1 _ h
  unfold PyData.showable
  exact decide_eq_true (by omega)
end M
namespace M
open PySem PySem.Spec PyProof.Rows L2 G
/-! ### lists drawn by turns -/
/-! ### generators drawn -/
def Sym.Far (far : Int) (s : Sym) : Prop := s.x.natAbs ≤ far.natAbs ∧ s.y.natAbs ≤ far.natAbs
/-! ### generators checked, carried -/
end M
namespace M
open PySem PySem.Spec PyProof.Rows L2 G
/-! ### data that repr shows -/
structure RP (n z : Nat) (d : PyData) : Prop where
  sh : d.showable = true
  dp : d.depth ≤ n
  sz : szD d ≤ z
theorem RP.mono {n z n' z' : Nat} {d : PyData} (h : RP n z d) (hn : n ≤ n') (hz : z ≤ z') : RP n' z' d := ⟨h.sh, Nat.le_trans h.dp hn, Nat.le_trans h.sz hz⟩
theorem RP.int {i : Int} (h : i.natAbs < 2 ^ 64) : RP 0 1921 (.int i) := ⟨rep_int h, by simp [PyData.depth], by simp [szD]⟩
theorem RP.bool {b : Bool} : RP 0 1921 (.bool b) := ⟨rfl, by simp [PyData.depth], by simp [szD]⟩
theorem RP.none : RP 0 1921 .none := ⟨rfl, by simp [PyData.depth], by simp [szD]⟩
theorem RP.all {n z : Nat} : ∀ {xs : List PyData}, (∀ x ∈ xs, RP n z x) → PyData.showableAll xs = true ∧ PyData.depthAll xs ≤ n ∧ szAll xs ≤ xs.length * (z + 2)
  | [], _ => ⟨rfl, by simp [PyData.depthAll], by simp [szAll]⟩
  | x :: xs, h => by
    obtain ⟨a, b, c⟩ := h x (List.mem_cons_self ..)
    obtain ⟨a', b', c'⟩ := RP.all (xs := xs) fun y hy => h y (List.mem_cons_of_mem _ hy)
    refine ⟨by rw [rep_cons, a, a']; rfl, ?_, ?_⟩
    · rw [show PyData.depthAll (x :: xs) = max x.depth (PyData.depthAll xs) by simp [PyData.depthAll]]
      omega
    · rw [show szAll (x :: xs) = szD x + 2 + szAll xs by simp [szAll], List.length_cons, Nat.succ_mul]
      omega
theorem RP.tup {n z : Nat} {xs : List PyData} (h : ∀ x ∈ xs, RP n z x) : RP (n + 1) (xs.length * (z + 2) + 4) (.tuple xs) := by
  obtain ⟨a, b, c⟩ := RP.all h
  refine ⟨a, ?_, ?_⟩
  · rw [show PyData.depth (.tuple xs) = PyData.depthAll xs + 1 by simp [PyData.depth]]; omega
  · rw [show szD (.tuple xs) = szAll xs + 4 by simp [szD]]; omega
theorem RP.lst {n z : Nat} {xs : List PyData} (h : ∀ x ∈ xs, RP n z x) : RP (n + 1) (xs.length * (z + 2) + 4) (.list xs) := by
  obtain ⟨a, b, c⟩ := RP.all h
  refine ⟨a, ?_, ?_⟩
  · rw [show PyData.depth (.list xs) = PyData.depthAll xs + 1 by simp [PyData.depth]]; omega
  · rw [show szD (.list xs) = szAll xs + 4 by simp [szD]]; omega
theorem RP.ok {n z : Nat} {d : PyData} (h : RP n z d) (hn : n ≤ 64) (hz : z ≤ 16000000) : reprOk d = true := by
  unfold reprOk
  rw [h.sh, decide_eq_true (Nat.le_trans h.sz hz), decide_eq_true (Nat.le_trans h.dp hn)]
  rfl
theorem mem2 {P : PyData → Prop} {a b : PyData} (ha : P a) (hb : P b) : ∀ x ∈ [a, b], P x := by
  intro x hx
  simp only [List.mem_cons, List.not_mem_nil, or_false] at hx
  rcases hx with rfl | rfl <;> assumption
theorem RP.sq {x y : Int} (hx : x.natAbs < 2 ^ 64) (hy : y.natAbs < 2 ^ 64) : RP 1 6000 (SQ x y) := (RP.tup (mem2 (RP.int hx) (RP.int hy))).mono (by decide) (by simp)
theorem Sym.Far.sum {far : Int} {s : Sym} (h : s.Far far) : s.x.natAbs + s.y.natAbs ≤ 2 * far.natAbs := by
  obtain ⟨a, b⟩ := h
  omega
/-- the sum of the two coordinates' sizes -/
def Sym.s1 (s : Sym) : Nat := s.x.natAbs + s.y.natAbs
theorem Sym.s1_lt {s : Sym} {n : Nat} (h : s.s1 ≤ n) (hn : n < 2 ^ 64) : s.x.natAbs < 2 ^ 64 ∧ s.y.natAbs < 2 ^ 64 := by
  unfold Sym.s1 at h
  generalize s.x.natAbs = a at *
  generalize s.y.natAbs = b at *
  omega
theorem Sym.Far.s1 {far : Int} {s : Sym} (h : s.Far far) : s.s1 ≤ 2 * far.natAbs := h.sum
end M
namespace M
open PySem PySem.Spec PyProof.Rows L2 G
/-! ### powers -/
theorem Sym.npow_succ (s : Sym) (n : Nat) : s.npow (n + 1) = (s.npow n).mul s := rfl
def Sym.zpow (s : Sym) : Int → Sym
  | .ofNat n => s.npow n
  | .negSucc n => s.inv.npow (n + 1)
theorem Sym.zpow_zero (s : Sym) : s.zpow 0 = .one := rfl
theorem Sym.zpow_one (s : Sym) : s.zpow 1 = s := s.one_mul
theorem Sym.zpow_succ (s : Sym) (e : Int) : s.zpow (e + 1) = (s.zpow e).mul s := by
  cases e with
  | ofNat n => rfl
  | negSucc n =>
    cases n with
    | zero =>
      show Sym.one = (Sym.one.mul s.inv).mul s
      rw [Sym.mul_assoc, Sym.inv_mul, Sym.mul_one]
    | succ n =>
      show s.inv.npow (n + 1) = ((s.inv.npow (n + 1)).mul s.inv).mul s
      rw [Sym.mul_assoc, Sym.inv_mul, Sym.mul_one]
theorem Sym.mul_right_inj {s t r : Sym} (h : s.mul r = t.mul r) : s = t := by
  have := congrArg (fun z => Sym.mul z r.inv) h
  rwa [Sym.mul_assoc, Sym.mul_assoc, Sym.mul_inv, Sym.mul_one, Sym.mul_one] at this
theorem Sym.zpow_pred (s : Sym) (e : Int) : s.zpow (e - 1) = (s.zpow e).mul s.inv := by
  apply Sym.mul_right_inj (r := s)
  rw [← Sym.zpow_succ, Sym.mul_assoc, Sym.inv_mul, Sym.mul_one]
  congr 1
  omega
theorem int_ind {P : Int → Prop} (h0 : P 0) (h1 : ∀ e, P e → P (e + 1)) (h2 : ∀ e, P e → P (e - 1)) : ∀ e, P e := by
  have a : ∀ n : Nat, P n := fun n => by
    induction n with
    | zero => exact h0
    | succ n ih => exact h1 _ ih
  have b : ∀ n : Nat, P (-(n : Int)) := fun n => by
    induction n with
    | zero => exact h0
    | succ n ih =>
      have := h2 _ ih
      rwa [show -(n : Int) - 1 = -((n + 1 : Nat) : Int) by omega] at this
  intro e
  by_cases h : 0 ≤ e
  · have := a e.toNat
    rwa [show (e.toNat : Int) = e by omega] at this
  · have := b (-e).toNat
    rwa [show -((-e).toNat : Int) = e by omega] at this
theorem Sym.zpow_add (s : Sym) (e f : Int) : s.zpow (e + f) = (s.zpow e).mul (s.zpow f) := by
  refine int_ind (P := fun f => s.zpow (e + f) = (s.zpow e).mul (s.zpow f)) ?_ ?_ ?_ f
  · rw [Int.add_zero, Sym.zpow_zero, Sym.mul_one]
  · intro f ih
    rw [← Int.add_assoc, Sym.zpow_succ, ih, Sym.zpow_succ, Sym.mul_assoc]
  · intro f ih
    rw [show e + (f - 1) = e + f - 1 by omega, Sym.zpow_pred, ih, Sym.zpow_pred, Sym.mul_assoc]
theorem Sym.zpow_mul (s : Sym) (e f : Int) : s.zpow (e * f) = (s.zpow e).zpow f := by
  refine int_ind (P := fun f => s.zpow (e * f) = (s.zpow e).zpow f) ?_ ?_ ?_ f
  · rw [Int.mul_zero]; rfl
  · intro f ih
    rw [Int.mul_add, Int.mul_one, Sym.zpow_add, ih, Sym.zpow_succ]
  · intro f ih
    have h : (s.zpow (e * (f - 1))).mul (s.zpow e) = ((s.zpow e).zpow (f - 1)).mul (s.zpow e) := by
      rw [← Sym.zpow_add, ← Sym.zpow_succ, show f - 1 + 1 = f by omega, ← ih]
      congr 1
      rw [Int.mul_sub, Int.mul_one]
      omega
    exact Sym.mul_right_inj h
theorem Sym.zpow_neg (s : Sym) (e : Int) : s.zpow (-e) = (s.zpow e).inv := by
  apply Sym.inv_of
  rw [← Sym.zpow_add, show e + -e = 0 by omega]
  rfl
theorem Sym.one_inv : Sym.one.inv = .one := by decide
theorem Sym.one_npow (n : Nat) : Sym.one.npow n = .one := by
  induction n with
  | zero => rfl
  | succ n ih => rw [Sym.npow_succ, ih, Sym.mul_one]
theorem Sym.one_zpow (e : Int) : Sym.one.zpow e = .one := by
  cases e with
  | ofNat n => exact Sym.one_npow n
  | negSucc n => show Sym.one.inv.npow _ = _; rw [Sym.one_inv, Sym.one_npow]
theorem shift_mul (a b c d : Int) : Sym.mul ⟨.k0, a, b⟩ ⟨.k0, c, d⟩ = ⟨.k0, a + c, b + d⟩ := rfl
theorem shift_zpow (a b e : Int) : Sym.zpow ⟨.k0, a, b⟩ e = ⟨.k0, e * a, e * b⟩ := by
  refine int_ind (P := fun e => Sym.zpow ⟨.k0, a, b⟩ e = ⟨.k0, e * a, e * b⟩) ?_ ?_ ?_ e
  · rw [Int.zero_mul, Int.zero_mul]; rfl
  · intro e ih
    rw [Sym.zpow_succ, ih, shift_mul, Int.add_mul, Int.add_mul, Int.one_mul, Int.one_mul]
  · intro e ih
    rw [Sym.zpow_pred, ih, Int.sub_mul, Int.sub_mul, Int.one_mul, Int.one_mul]
    rfl
theorem Sym.npow4_k (s : Sym) : (s.npow 4).k = .k0 := by
  have : ∀ k : Kd, (((Kd.k0.mul k).mul k).mul k).mul k = .k0 := by intro k; cases k <;> rfl
  exact this s.k
theorem Sym.npow4 (s : Sym) (h : s.k = .k1 ∨ s.k = .k3) : s.npow 4 = .one := by
  refine Sym.ext' s.npow4_k ?_ ?_
  · rcases h with h | h <;> simp only [Sym.npow, Sym.mul, Sym.one, Kd.u, Kd.v, h] <;> omega
  · rcases h with h | h <;> simp only [Sym.npow, Sym.mul, Sym.one, Kd.u, Kd.v, h] <;> omega
theorem Sym.npow2_k (s : Sym) (h : ¬ (s.k = .k1 ∨ s.k = .k3)) : (s.npow 2).k = .k0 := by
  have : ∀ k : Kd, ¬ (k = .k1 ∨ k = .k3) → (Kd.k0.mul k).mul k = .k0 := by intro k; cases k <;> simp <;> rfl
  exact this s.k h
theorem Sym.pow_eq (s : Sym) (e : Int) : s.pow e = s.zpow e := by
  unfold Sym.pow
  split
  · rename_i h
    have f0 := Int.fmod_nonneg_of_pos e (show (0 : Int) < 4 by decide)
    have h4 : s.zpow 4 = .one := s.npow4 h
    have := Int.mul_fdiv_add_fmod e 4
    conv => rhs; rw [← this, Sym.zpow_add, Sym.zpow_mul, h4, Sym.one_zpow, Sym.one_mul]
    conv => rhs; rw [show e.fmod 4 = ((e.fmod 4).toNat : Int) by omega]
    rfl
  · rename_i h
    have hk := s.npow2_k h
    have h2 : s.zpow 2 = ⟨.k0, (s.npow 2).x, (s.npow 2).y⟩ := Sym.ext' hk rfl rfl
    have := Int.mul_fdiv_add_fmod e 2
    have f0 := Int.fmod_nonneg_of_pos e (show (0 : Int) < 2 by decide)
    have f1 := Int.fmod_lt_of_pos e (show (0 : Int) < 2 by decide)
    conv => rhs; rw [← this, Sym.zpow_add, Sym.zpow_mul, h2, shift_zpow]
    split
    · rename_i h1
      rw [h1, Sym.zpow_one]
    · rename_i h1
      rw [show e.fmod 2 = 0 by omega, Sym.zpow_zero, Sym.mul_one]
/-! ### bounds -/
theorem Sym.npow_abs (s : Sym) {a : Nat} (hs : s.x.natAbs + s.y.natAbs ≤ a) (n : Nat) : (s.npow n).x.natAbs + (s.npow n).y.natAbs ≤ n * a := by
  induction n with
  | zero => simp [Sym.npow, Sym.one]
  | succ n ih =>
    rw [Sym.npow_succ, Nat.succ_mul]
    exact Sym.mul_abs _ _ ih hs
/-! ### the laws' own powers -/
end M
namespace M
open PySem PySem.Spec PyProof.Rows L2 G
/-! ### features -/
def Sym.axis (s : Sym) : PyData := match s.k with
  | .k4 => SQ0 "vertical" s.x
  | .k5 => SQ0 "falling" (s.x + s.y)
  | .k6 => SQ0 "horizontal" s.y
  | _ => SQ0 "rising" (s.y - s.x)
where SQ0 (n : Str) (z : Int) : PyData := .tuple [.str n, .int z]
def Sym.way (s : Sym) : Int × Int := match s.k with
  | .k4 => (0, 2 * s.y)
  | .k5 => (s.x - s.y, s.y - s.x)
  | .k6 => (2 * s.x, 0)
  | _ => (s.x + s.y, s.x + s.y)
def Sym.centre (s : Sym) : Int × Int := match s.k with
  | .k2 => (s.x, s.y)
  | .k1 => (s.x - s.y, s.x + s.y)
  | _ => (s.x + s.y, s.y - s.x)
def Sym.cls (s : Sym) : PyData := match s.k with
  | .k0 => if s.x = 0 ∧ s.y = 0 then .tuple [.str "identity"] else .tuple [.str "shift", SQ s.x s.y]
  | .k2 => .tuple [.str "half turn", sqd s.centre]
  | .k1 => .tuple [.str "quarter turn", sqd s.centre, .int 1]
  | .k3 => .tuple [.str "quarter turn", sqd s.centre, .int 3]
  | _ => if s.way = (0, 0) then .tuple [.str "mirror", s.axis] else .tuple [.str "glide", s.axis, sqd s.way]
def hd (n : Str) : PyData := if n = "shift" ∨ n = "glide" then .none else if n = "identity" then .int 1 else if n = "quarter turn" then .int 4 else .int 2
end M
namespace M
open PySem PySem.Spec PyProof.Rows L2 G
theorem smallI_n {i : Int} (h : i.natAbs < 2 ^ 64) : smallI i = true := by
  unfold smallI
  simp only [Bool.and_eq_true, decide_eq_true_eq]
  omega
theorem Sym.s1_npow (s : Sym) (n : Nat) : (s.npow n).s1 ≤ n * s.s1 := s.npow_abs (Nat.le_refl _) n
theorem powS {s : Sym} (h : s.s1 < 2 ^ 62) (e : Int) : F_power [.val s.d, .val (.int e)] = .ok (.val (s.zpow e).d, [.un, .un]) := by
  have h2 := Sym.s1_lt (s := s.npow 2) (n := 2 * s.s1) (Sym.s1_npow s 2) (by generalize s.s1 = a at *; omega)
  rw [power_ok s (G.mulOk_r (smallI_n h2.1)) (G.mulOk_r (smallI_n h2.2)), Sym.pow_eq]
/-! ### orders -/
end M
namespace L_k06
open PySem PySem.Spec PyProof.Rows L2 G M
theorem cell_ok2 (ns : List Int) (k : Nat) : ∃ z : Int, F__law_cell_2 [.val (.list (ns.map PyData.int)), .val (.int k)] = .ok (.val (.int z), [.un, .un]) := by
  rw [r__law_cell_2]
  unfold B__law_cell_2
  by_cases h : k < ns.length
  · have h2 : atI (ns.map PyData.int) (k : Int) = some (.int ns[k]) := atI_nat (by rw [List.getElem?_map, List.getElem?_eq_getElem h]; rfl)
    have h3 : (k : Int) < (ns.length : Int) := by omega
    exact ⟨ns[k], by simp? [h2, h3, if_pos]⟩
  · have h3 : ¬ (k : Int) < (ns.length : Int) := by omega
    exact ⟨0, by simp? [h3, if_neg]⟩
theorem img (k : Kd) {x y a b c d : Int} (h1 : k.u a b + x = c) (h2 : k.v a b + y = d) : F_image [.val (.tuple [.int k.i, .int x, .int y]), .val (.tuple [.int a, .int b])] = .ok (.val (.tuple [.int c, .int d]), [.un, .un]) := by
  rw [← h1, ← h2]; exact image_ok
theorem pro (k l m : Kd) {x y a b c d : Int} (h0 : k.mul l = m) (h1 : l.u x y + a = c) (h2 : l.v x y + b = d) : F_product [.val (.tuple [.int k.i, .int x, .int y]), .val (.tuple [.int l.i, .int a, .int b])] = .ok (.val (.tuple [.int m.i, .int c, .int d]), [.un, .un]) := by
  rw [← h0, ← h1, ← h2]; exact product_ok
theorem ivs (k m : Kd) {x y c d : Int} (h0 : k.inv = m) (h1 : -m.u x y = c) (h2 : -m.v x y = d) : F_inverse [.val (.tuple [.int k.i, .int x, .int y])] = .ok (.val (.tuple [.int m.i, .int c, .int d]), [.un]) := by
  subst h0; rw [← h1, ← h2]; exact inverse_ok
theorem pw (k m : Kd) {x y c d : Int} (e : Int) (hx : x.natAbs + y.natAbs < 2 ^ 62) (h : Sym.zpow ⟨k, x, y⟩ e = ⟨m, c, d⟩) : F_power [.val (.tuple [.int k.i, .int x, .int y]), .val (.int e)] = .ok (.val (.tuple [.int m.i, .int c, .int d]), [.un, .un]) := by
  have q := powS (s := ⟨k, x, y⟩) hx e
  rw [h] at q; exact q
theorem images {f : Int} : F__law_images_are_right [.val (.int f)] = .ok (.val (.bool true), [.un]) := by
  have n1 : 0 - f - 3 = -(f + 3) := by omega
  have i0 := img .k0 (x := 0) (y := 0) (a := f + 3) (b := 1) (c := f + 3) (d := 1) (by simp [Kd.u]) (by simp [Kd.v])
  have i1 := img .k1 (x := 0) (y := 0) (a := f + 3) (b := 1) (c := -1) (d := f + 3) (by simp [Kd.u]) (by simp [Kd.v])
  have i2 := img .k2 (x := 0) (y := 0) (a := f + 3) (b := 1) (c := -(f + 3)) (d := -1) (by simp only [Kd.u]; omega) (by simp only [Kd.v]; omega)
  have i3 := img .k3 (x := 0) (y := 0) (a := f + 3) (b := 1) (c := 1) (d := -(f + 3)) (by simp only [Kd.u]; omega) (by simp only [Kd.v]; omega)
  have i4 := img .k4 (x := 0) (y := 0) (a := f + 3) (b := 1) (c := -(f + 3)) (d := 1) (by simp only [Kd.u]; omega) (by simp only [Kd.v]; omega)
  have i5 := img .k5 (x := 0) (y := 0) (a := f + 3) (b := 1) (c := -1) (d := -(f + 3)) (by simp only [Kd.u]; omega) (by simp only [Kd.v]; omega)
  have i6 := img .k6 (x := 0) (y := 0) (a := f + 3) (b := 1) (c := f + 3) (d := -1) (by simp only [Kd.u]; omega) (by simp only [Kd.v]; omega)
  have i7 := img .k7 (x := 0) (y := 0) (a := f + 3) (b := 1) (c := 1) (d := f + 3) (by simp only [Kd.u]; omega) (by simp only [Kd.v]; omega)
  have j := img .k1 (x := 2) (y := f) (a := 3) (b := 1) (c := 1) (d := f + 3) (by simp only [Kd.u]; omega) (by simp only [Kd.v]; omega)
  simp only [Kd.i] at i0 i1 i2 i3 i4 i5 i6 i7 j
  rw [r__law_images_are_right]
  unfold B__law_images_are_right
  simp? [n1, i0, i1, i2, i3, i4, i5, i6, i7, j]
theorem products {f : Int} : F__law_products_are_right_2 [.val (.int f)] = .ok (.val (.bool true), [.un]) := by
  have n1 : 0 - f = -f := by omega
  have p1 := pro .k1 .k0 .k1 (x := 0) (y := 0) (a := 1) (b := f) (c := 1) (d := f) rfl (by simp only [Kd.u]; omega) (by simp only [Kd.v]; omega)
  have p2 := pro .k0 .k1 .k1 (x := 1) (y := f) (a := 0) (b := 0) (c := -f) (d := 1) rfl (by simp only [Kd.u]; omega) (by simp only [Kd.v]; omega)
  have p3 := pro .k4 .k7 .k3 (x := 3) (y := 0) (a := 0) (b := 1) (c := 0) (d := 4) rfl (by simp only [Kd.u]; omega) (by simp only [Kd.v]; omega)
  have p4 := pro .k7 .k4 .k1 (x := 0) (y := 1) (a := 3) (b := 0) (c := 3) (d := 1) rfl (by simp only [Kd.u]; omega) (by simp only [Kd.v]; omega)
  have v1 := ivs .k1 .k3 (x := 2) (y := 0) (c := 0) (d := 2) rfl (by simp only [Kd.u]; omega) (by simp only [Kd.v]; omega)
  have v2 := ivs .k7 .k7 (x := 1) (y := f) (c := -f) (d := -1) rfl (by simp only [Kd.u]) (by simp only [Kd.v])
  have v3 := ivs .k2 .k2 (x := 5) (y := f) (c := 5) (d := f) rfl (by simp only [Kd.u]; omega) (by simp only [Kd.v]; omega)
  have v4 := ivs .k0 .k0 (x := 5) (y := f) (c := -5) (d := -f) rfl (by simp only [Kd.u]) (by simp only [Kd.v])
  simp only [Kd.i] at p1 p2 p3 p4 v1 v2 v3 v4
  rw [r__law_products_are_right_2]
  unfold B__law_products_are_right_2
  simp? [n1, p1, p2, p3, p4, v1, v2, v3, v4]
theorem zp1 (f : Int) : Sym.zpow ⟨.k7, 1, 0⟩ (2 * f) = ⟨.k0, f, f⟩ := by
  rw [Sym.zpow_mul, show Sym.zpow ⟨.k7, 1, 0⟩ 2 = ⟨.k0, 1, 1⟩ by decide, shift_zpow, Int.mul_one]
theorem zp2 : Sym.zpow ⟨.k1, 2, 0⟩ 1000000000001 = ⟨.k1, 2, 0⟩ := by
  rw [show (1000000000001 : Int) = 4 * 250000000000 + 1 by decide, Sym.zpow_add, Sym.zpow_mul, show Sym.zpow ⟨.k1, 2, 0⟩ 4 = .one by decide, Sym.one_zpow, Sym.zpow_one, Sym.one_mul]
theorem zp3 (f : Int) : Sym.zpow ⟨.k3, f, 1⟩ (-3) = ⟨.k3, f, 1⟩ := by
  have h4 : Sym.zpow ⟨.k3, f, 1⟩ 4 = .one := Sym.npow4 _ (.inr rfl)
  rw [show (-3 : Int) = -4 + 1 by decide, Sym.zpow_add, Sym.zpow_neg, h4, Sym.one_inv, Sym.zpow_one, Sym.one_mul]
theorem zp4 : Sym.zpow ⟨.k0, 3, -2⟩ (-4) = ⟨.k0, -12, 8⟩ := by rw [shift_zpow]; rfl
theorem powers {f : Int} (h0 : 0 ≤ f) (h1 : f < 901) : F__law_powers_are_right_2 [.val (.int f)] = .ok (.val (.bool true), [.un]) := by
  have p1 := pw .k7 .k7 (x := 1) (y := 0) (c := 2) (d := 1) 3 (by decide) (by decide)
  have p2 := pw .k7 .k7 (x := 1) (y := 0) (c := 0) (d := -1) (-1) (by decide) (by decide)
  have p3 := pw .k7 .k0 (x := 1) (y := 0) (c := f) (d := f) (2 * f) (by decide) (zp1 f)
  have p4 := pw .k2 .k0 (x := f) (y := 1) (c := 0) (d := 0) 0 (by omega) (Sym.zpow_zero _)
  have p5 := pw .k1 .k1 (x := 2) (y := 0) (c := 2) (d := 0) 1000000000001 (by decide) zp2
  have p6 := pw .k3 .k3 (x := f) (y := 1) (c := f) (d := 1) (-3) (by omega) (zp3 f)
  have p7 := pw .k0 .k0 (x := 3) (y := -2) (c := -12) (d := 8) (-4) (by decide) zp4
  have p8 := pw .k4 .k4 (x := 6) (y := 1) (c := 6) (d := 5) 5 (by decide) (by decide)
  simp only [Kd.i] at p1 p2 p3 p4 p5 p6 p7 p8
  have hm : mulOk 2 f = true := by
    exact mul2Ok
  rw [r__law_powers_are_right_2]
  unfold B__law_powers_are_right_2
  simp? [hm, p1, p2, p3, p4, p5, p6, p7, p8]
set_option maxHeartbeats 1000000 in
theorem turn1 (ns : List Int) (i : Nat) (b c : B) : ∃ c', turn (nmG 1) L1_law_k06 (.int (0 + i)) [.val (.list (ns.map PyData.int)), b, c] = .ok (.nx [.val (.list (ns.map PyData.int)), .val (.int i), c']) := by
  obtain ⟨z, ez⟩ := cell_ok2 ns i
  have h0 : (0 : Int) + (i : Int) = i := by omega
  have f0 : 0 ≤ z.fmod 901 := Int.fmod_nonneg_of_pos _ (by decide)
  have f1 : z.fmod 901 < 901 := Int.fmod_lt_of_pos _ (by decide)
  generalize hf : z.fmod 901 = f at f0 f1
  have e1 := images (f := f)
  have e2 := products (f := f)
  have e3 := powers f0 f1
  unfold L1_law_k06
  refine ⟨.val (.int f), ?eq⟩
  case eq =>
   simp? [h0, ez, hf, e1, e2, e3]
theorem errs : F__law_errors_are_right [] = .ok (.val (.bool true), []) := by kernel_rfl
theorem no8 : F_is_symmetry [.val (.tuple [.int 8, .int 0, .int 0])] = .ok (.val (.bool false), [.un]) := by kernel_rfl
theorem yes7 : F_is_symmetry [.val (.tuple [.int 7, .int 0, .int 0])] = .ok (.val (.bool true), [.un]) := is_symmetry_ok (k := .k7)
theorem law_ok (ns : List Int) (hl : ns.length ≤ 63) : ∃ ρ, F_law_k06 [.val (.list (ns.map PyData.int))] = .ok (.val (.bool true), ρ) := by
  rw [r_law_k06]
  obtain ⟨bs', ⟨b1, b2, rfl⟩, e⟩ := law_outerI (b := L1_law_k06) (ns := ns) (J := fun bs => ∃ b1 b2 : B, bs = [b1, b2]) 3 (by decide) (by decide) (by
    rintro i bs hi ⟨b1, b2, rfl⟩
    obtain ⟨c2, e⟩ := turn1 ns i b1 b2
    exact ⟨_, ⟨_, _, rfl⟩, e⟩) (List.replicate 2 .un) ⟨_, _, rfl⟩
  have e : forS (outerI 3) (nmG 1) L1_law_k06 [.val (.list (ns.map PyData.int)), .un, .un] = _ := e
  refine ⟨[.un], ?_⟩
  have er := errs
  have n8 := no8
  have y7 := yes7
  have y0 := is_square_ok (x := 0) (y := 0)
  generalize (PyData.list (ns.map PyData.int)) = sc at e
  have e' : seqS (forS (outerI 3) (nmG 1) L1_law_k06) (retS (op2 eqD (lstE (aCons (callF [false] F_is_square [] (aCons (tupE (aCons (fC (.int 0)) (aCons (fC (.int 0)) aNil))) aNil)) (aCons (callF [false] F_is_symmetry [] (aCons (tupE (aCons (fC (.int 7)) (aCons (fC (.int 0)) (aCons (fC (.int 0)) aNil)))) aNil)) (aCons (callF [false] F_is_symmetry [] (aCons (tupE (aCons (fC (.int 8)) (aCons (fC (.int 0)) (aCons (fC (.int 0)) aNil)))) aNil)) aNil)))) (lstE (aCons (fC (.bool true)) (aCons (fC (.bool true)) (aCons (fC (.bool false)) aNil)))))) [.val sc, .un, .un] = .ok (.rt (.val (.bool true)) [.val sc, b1, b2]) := by
    rw [r_seq, e]
    simp? [n8, y7, y0]
  unfold B_law_k06
  refine (congrArg (fun z => Rs.bind z (retF 1)) (r_seq (ρ := [.val sc, .un, .un]))).trans ?_
  have e1 : (ifS (notB (fB (callF [] F__law_errors_are_right [] aNil))) (retS (fC (.bool false))) nxS) [.val sc, .un, .un] = .ok (.nx [.val sc, .un, .un]) := by
    simp? [er]
  rw [e1]
  refine (congrArg (fun z => Rs.bind z (retF 1)) e').trans ?_
  rfl
end L_k06
end
open PySem PySem.W PyProof.Rows in
set_option maxHeartbeats 0 in
theorem PySem.Challenge.cw_gridsym_k06_symmetries_by_hand_and_by_na_holds : PySem.Challenge.rw_gridsym_k06_symmetries_by_hand_and_by_na.Holds := by
  w_on; o_law; k_head; (case hw => w_witness2)
  k_fill
  refine G.end_walk (l := PySem.Challenge.rw_gridsym_k06_symmetries_by_hand_and_by_na) (n := 63) (k := 8) (x := "_law_script") (F := fun _ => M.F_law_k06) rfl (by decide) rfl ⟨rfl, by decide, by decide⟩ (by decide +kernel) (fun w h Y => PySem.W.kIn_of Y) ?F (fun _ ns hl => L_k06.law_ok ns hl)
  case F =>
    intro w mg fa h Y KX NG hmg
    have z_ValueError : mg "ValueError" = none := PySem.W.mg_none_of KX NG (by k_is)
    have z_all : mg "all" = none := PySem.W.mg_none_of KX NG (by k_is)
    have z_bool : mg "bool" = none := PySem.W.mg_none_of KX NG (by k_is)
    have z_int : mg "int" = none := PySem.W.mg_none_of KX NG (by k_is)
    have z_isinstance : mg "isinstance" = none := PySem.W.mg_none_of KX NG (by k_is)
    have z_len : mg "len" = none := PySem.W.mg_none_of KX NG (by k_is)
    have z_max : mg "max" = none := PySem.W.mg_none_of KX NG (by k_is)
    have z_min : mg "min" = none := PySem.W.mg_none_of KX NG (by k_is)
    have z_range : mg "range" = none := PySem.W.mg_none_of KX NG (by k_is)
    have z_tuple : mg "tuple" = none := PySem.W.mg_none_of KX NG (by k_is)
    have k_IDENTITY := G.conK_mk (mg := mg) (x := "IDENTITY") (d := M.c_IDENTITY) KX NG (by k_is) (G.kd_tup (by k_is) (by decide +kernel) (.cons G.kd_int (.cons G.kd_int (.cons G.kd_int .nil))))
    have k_KINDS := G.conK_mk (mg := mg) (x := "KINDS") (d := M.c_KINDS) KX NG (by k_is) G.kd_int
    have k_LINEAR := G.conK_mk (mg := mg) (x := "LINEAR") (d := M.c_LINEAR) KX NG (by k_is) (G.kd_tup (by k_is) (by decide +kernel) (.cons (G.kd_tup (by k_is) (by decide +kernel) (.cons G.kd_int (.cons G.kd_int (.cons G.kd_int (.cons G.kd_int .nil))))) (.cons (G.kd_tup (by k_is) (by decide +kernel) (.cons G.kd_int (.cons G.kd_int (.cons G.kd_int (.cons G.kd_int .nil))))) (.cons (G.kd_tup (by k_is) (by decide +kernel) (.cons G.kd_int (.cons G.kd_int (.cons G.kd_int (.cons G.kd_int .nil))))) (.cons (G.kd_tup (by k_is) (by decide +kernel) (.cons G.kd_int (.cons G.kd_int (.cons G.kd_int (.cons G.kd_int .nil))))) (.cons (G.kd_tup (by k_is) (by decide +kernel) (.cons G.kd_int (.cons G.kd_int (.cons G.kd_int (.cons G.kd_int .nil))))) (.cons (G.kd_tup (by k_is) (by decide +kernel) (.cons G.kd_int (.cons G.kd_int (.cons G.kd_int (.cons G.kd_int .nil))))) (.cons (G.kd_tup (by k_is) (by decide +kernel) (.cons G.kd_int (.cons G.kd_int (.cons G.kd_int (.cons G.kd_int .nil))))) (.cons (G.kd_tup (by k_is) (by decide +kernel) (.cons G.kd_int (.cons G.kd_int (.cons G.kd_int (.cons G.kd_int .nil))))) .nil)))))))))
    have k_SHIFT := G.conK_mk (mg := mg) (x := "SHIFT") (d := M.c_SHIFT) KX NG (by k_is) G.kd_int
    have k_TURNS := G.conK_mk (mg := mg) (x := "TURNS") (d := M.c_TURNS) KX NG (by k_is) (G.kd_tup (by k_is) (by decide +kernel) (.cons G.kd_int (.cons G.kd_int .nil)))
    have t_LINEAR := G.conT_mk (mg := mg) (x := "LINEAR") (d := M.c_LINEAR) KX NG (by k_is) (by k_is) (G.kd_tup (by k_is) (by decide +kernel) (.cons (G.kd_tup (by k_is) (by decide +kernel) (.cons G.kd_int (.cons G.kd_int (.cons G.kd_int (.cons G.kd_int .nil))))) (.cons (G.kd_tup (by k_is) (by decide +kernel) (.cons G.kd_int (.cons G.kd_int (.cons G.kd_int (.cons G.kd_int .nil))))) (.cons (G.kd_tup (by k_is) (by decide +kernel) (.cons G.kd_int (.cons G.kd_int (.cons G.kd_int (.cons G.kd_int .nil))))) (.cons (G.kd_tup (by k_is) (by decide +kernel) (.cons G.kd_int (.cons G.kd_int (.cons G.kd_int (.cons G.kd_int .nil))))) (.cons (G.kd_tup (by k_is) (by decide +kernel) (.cons G.kd_int (.cons G.kd_int (.cons G.kd_int (.cons G.kd_int .nil))))) (.cons (G.kd_tup (by k_is) (by decide +kernel) (.cons G.kd_int (.cons G.kd_int (.cons G.kd_int (.cons G.kd_int .nil))))) (.cons (G.kd_tup (by k_is) (by decide +kernel) (.cons G.kd_int (.cons G.kd_int (.cons G.kd_int (.cons G.kd_int .nil))))) (.cons (G.kd_tup (by k_is) (by decide +kernel) (.cons G.kd_int (.cons G.kd_int (.cons G.kd_int (.cons G.kd_int .nil))))) .nil)))))))))
    have x_CommandError := G.excK_mk (mg := mg) (x := "CommandError") (newId := "ValueError.__new__") (bm := [.type "ValueError", .type "Exception", .type "BaseException", .type "object"]) KX NG (by k_is) (by k_exc) (by k_is) (by k_is) (by k_is)
    have x_CompatibilityError := G.excK_mk (mg := mg) (x := "CompatibilityError") (newId := "ValueError.__new__") (bm := [.type "ValueError", .type "Exception", .type "BaseException", .type "object"]) KX NG (by k_is) (by k_exc) (by k_is) (by k_is) (by k_is)
    have x_ContainmentError := G.excK_mk (mg := mg) (x := "ContainmentError") (newId := "ValueError.__new__") (bm := [.type "ValueError", .type "Exception", .type "BaseException", .type "object"]) KX NG (by k_is) (by k_exc) (by k_is) (by k_is) (by k_is)
    have x_DescriptionError := G.excK_mk (mg := mg) (x := "DescriptionError") (newId := "ValueError.__new__") (bm := [.type "ValueError", .type "Exception", .type "BaseException", .type "object"]) KX NG (by k_is) (by k_exc) (by k_is) (by k_is) (by k_is)
    have x_GeneratorsError := G.excK_mk (mg := mg) (x := "GeneratorsError") (newId := "ValueError.__new__") (bm := [.type "ValueError", .type "Exception", .type "BaseException", .type "object"]) KX NG (by k_is) (by k_exc) (by k_is) (by k_is) (by k_is)
    have x_NumberError := G.excK_mk (mg := mg) (x := "NumberError") (newId := "ValueError.__new__") (bm := [.type "ValueError", .type "Exception", .type "BaseException", .type "object"]) KX NG (by k_is) (by k_exc) (by k_is) (by k_is) (by k_is)
    have x_ParseError := G.excK_mk (mg := mg) (x := "ParseError") (newId := "ValueError.__new__") (bm := [.type "ValueError", .type "Exception", .type "BaseException", .type "object"]) KX NG (by k_is) (by k_exc) (by k_is) (by k_is) (by k_is)
    have x_PatternError := G.excK_mk (mg := mg) (x := "PatternError") (newId := "ValueError.__new__") (bm := [.type "ValueError", .type "Exception", .type "BaseException", .type "object"]) KX NG (by k_is) (by k_exc) (by k_is) (by k_is) (by k_is)
    have x_ProgramError := G.excK_mk (mg := mg) (x := "ProgramError") (newId := "ValueError.__new__") (bm := [.type "ValueError", .type "Exception", .type "BaseException", .type "object"]) KX NG (by k_is) (by k_exc) (by k_is) (by k_is) (by k_is)
    have x_SquareError := G.excK_mk (mg := mg) (x := "SquareError") (newId := "ValueError.__new__") (bm := [.type "ValueError", .type "Exception", .type "BaseException", .type "object"]) KX NG (by k_is) (by k_exc) (by k_is) (by k_is) (by k_is)
    have x_SymmetryError := G.excK_mk (mg := mg) (x := "SymmetryError") (newId := "ValueError.__new__") (bm := [.type "ValueError", .type "Exception", .type "BaseException", .type "object"]) KX NG (by k_is) (by k_exc) (by k_is) (by k_is) (by k_is)
    have x_UndoError := G.excK_mk (mg := mg) (x := "UndoError") (newId := "ValueError.__new__") (bm := [.type "ValueError", .type "Exception", .type "BaseException", .type "object"]) KX NG (by k_is) (by k_exc) (by k_is) (by k_is) (by k_is)
    have h__law_error_marks := G.fnK_mk (mg := mg) (dV := .none) (x := "_law_error_marks") (st := L_k06.s__law_error_marks) (ps := ["_law_error"]) KX NG (by k_is) (by k_is) (by k_is) (by k_is)
    have h__law_error_name := G.fnK_mk (mg := mg) (dV := .none) (x := "_law_error_name") (st := L_k06.s__law_error_name) (ps := ["_law_error"]) KX NG (by k_is) (by k_is) (by k_is) (by k_is)
    have h__law_errors_are_right := G.fnK_mk (mg := mg) (dV := .none) (x := "_law_errors_are_right") (st := L_k06.s__law_errors_are_right) (ps := []) KX NG (by k_is) (by k_is) (by k_is) (by k_is)
    have h__law_cell := G.fnK_mk (mg := mg) (dV := .none) (x := "_law_cell") (st := L_k06.s__law_cell) (ps := ["_law_script", "_law_place"]) KX NG (by k_is) (by k_is) (by k_is) (by k_is)
    have h_is_integer := G.fnK_mk (mg := mg) (dV := .none) (x := "is_integer") (st := L_k06.s_is_integer) (ps := ["thing"]) KX NG (by k_is) (by k_is) (by k_is) (by k_is)
    have h_is_square := G.fnK_mk (mg := mg) (dV := .none) (x := "is_square") (st := L_k06.s_is_square) (ps := ["thing"]) KX NG (by k_is) (by k_is) (by k_is) (by k_is)
    have h_is_between := G.fnK_mk (mg := mg) (dV := .none) (x := "is_between") (st := L_k06.s_is_between) (ps := ["thing", "least", "most"]) KX NG (by k_is) (by k_is) (by k_is) (by k_is)
    have h_is_symmetry := G.fnK_mk (mg := mg) (dV := .none) (x := "is_symmetry") (st := L_k06.s_is_symmetry) (ps := ["thing"]) KX NG (by k_is) (by k_is) (by k_is) (by k_is)
    have h_need_symmetry := G.fnK_mk (mg := mg) (dV := .none) (x := "need_symmetry") (st := L_k06.s_need_symmetry) (ps := ["thing"]) KX NG (by k_is) (by k_is) (by k_is) (by k_is)
    have h_need_square := G.fnK_mk (mg := mg) (dV := .none) (x := "need_square") (st := L_k06.s_need_square) (ps := ["thing"]) KX NG (by k_is) (by k_is) (by k_is) (by k_is)
    have h_added := G.fnK_mk (mg := mg) (dV := .ref _) (x := "added") (st := L_k06.s_added) (ps := ["vector", "step", "many"]) KX NG (by k_is) (by k_is) (by k_is) (by k_is)
    have e_added := G.dflK_mk h_added (by k_is) (ds := [.int (1)]) (.cons G.kd_int .nil)
    have h_turned := G.fnK_mk (mg := mg) (dV := .none) (x := "turned") (st := L_k06.s_turned) (ps := ["kind", "vector"]) KX NG (by k_is) (by k_is) (by k_is) (by k_is)
    have h_offset := G.fnK_mk (mg := mg) (dV := .none) (x := "offset") (st := L_k06.s_offset) (ps := ["symmetry"]) KX NG (by k_is) (by k_is) (by k_is) (by k_is)
    have h_image_of := G.fnK_mk (mg := mg) (dV := .none) (x := "image_of") (st := L_k06.s_image_of) (ps := ["symmetry", "square"]) KX NG (by k_is) (by k_is) (by k_is) (by k_is)
    have h_image := G.fnK_mk (mg := mg) (dV := .none) (x := "image") (st := L_k06.s_image) (ps := ["symmetry", "square"]) KX NG (by k_is) (by k_is) (by k_is) (by k_is)
    have h__law_images_are_right := G.fnK_mk (mg := mg) (dV := .none) (x := "_law_images_are_right") (st := L_k06.s__law_images_are_right) (ps := ["_law_far"]) KX NG (by k_is) (by k_is) (by k_is) (by k_is)
    have h_kind_after := G.fnK_mk (mg := mg) (dV := .none) (x := "kind_after") (st := L_k06.s_kind_after) (ps := ["first", "second"]) KX NG (by k_is) (by k_is) (by k_is) (by k_is)
    have h_product_of := G.fnK_mk (mg := mg) (dV := .none) (x := "product_of") (st := L_k06.s_product_of) (ps := ["first", "second"]) KX NG (by k_is) (by k_is) (by k_is) (by k_is)
    have h_product := G.fnK_mk (mg := mg) (dV := .none) (x := "product") (st := L_k06.s_product) (ps := ["first", "second"]) KX NG (by k_is) (by k_is) (by k_is) (by k_is)
    have h_inverse_of := G.fnK_mk (mg := mg) (dV := .none) (x := "inverse_of") (st := L_k06.s_inverse_of) (ps := ["symmetry"]) KX NG (by k_is) (by k_is) (by k_is) (by k_is)
    have h_inverse := G.fnK_mk (mg := mg) (dV := .none) (x := "inverse") (st := L_k06.s_inverse) (ps := ["symmetry"]) KX NG (by k_is) (by k_is) (by k_is) (by k_is)
    have h__law_products_are_right := G.fnK_mk (mg := mg) (dV := .none) (x := "_law_products_are_right") (st := L_k06.s__law_products_are_right) (ps := ["_law_far"]) KX NG (by k_is) (by k_is) (by k_is) (by k_is)
    have h_repeated := G.fnK_mk (mg := mg) (dV := .none) (x := "repeated") (st := L_k06.s_repeated) (ps := ["symmetry", "times"]) KX NG (by k_is) (by k_is) (by k_is) (by k_is)
    have h_power_of := G.fnK_mk (mg := mg) (dV := .none) (x := "power_of") (st := L_k06.s_power_of) (ps := ["symmetry", "exponent"]) KX NG (by k_is) (by k_is) (by k_is) (by k_is)
    have h_power := G.fnK_mk (mg := mg) (dV := .none) (x := "power") (st := L_k06.s_power) (ps := ["symmetry", "exponent"]) KX NG (by k_is) (by k_is) (by k_is) (by k_is)
    have h__law_powers_are_right := G.fnK_mk (mg := mg) (dV := .none) (x := "_law_powers_are_right") (st := L_k06.s__law_powers_are_right) (ps := ["_law_far"]) KX NG (by k_is) (by k_is) (by k_is) (by k_is)
    have h_law := G.fnK_mk (mg := mg) (dV := .none) (x := "law") (st := L_k06.s_law) (ps := ["_law_script"]) KX NG (by k_is) (by k_is) (by k_is) (by k_is)
    have lm0 := G.limDK_mk (mg := mg) (x := "LimitError") (y := "GridsymError") (st := L_k06.s_lim) KX NG (by k_is) (by k_is) (by k_is) (by k_is) (by k_is) (by k_is) (by k_is) (by kernel_rfl) (by k_is) (by k_is) (by k_is) (by k_is) (fun P w base => L_k06.lim_fn) L_k06.lim_b L_k06.lim_kw
    have e := hmg.symm.trans h_law.at_
    cases e
    have ix_CommandError : mg "CommandError" = some (.ref _) := PySem.W.mg_of KX NG (by k_is)
    have ix_CompatibilityError : mg "CompatibilityError" = some (.ref _) := PySem.W.mg_of KX NG (by k_is)
    have ix_ContainmentError : mg "ContainmentError" = some (.ref _) := PySem.W.mg_of KX NG (by k_is)
    have ix_DescriptionError : mg "DescriptionError" = some (.ref _) := PySem.W.mg_of KX NG (by k_is)
    have ix_GeneratorsError : mg "GeneratorsError" = some (.ref _) := PySem.W.mg_of KX NG (by k_is)
    have ix_GridsymError : mg "GridsymError" = some (.ref _) := PySem.W.mg_of KX NG (by k_is)
    have ix_LimitError : mg "LimitError" = some (.ref _) := PySem.W.mg_of KX NG (by k_is)
    have ix_NumberError : mg "NumberError" = some (.ref _) := PySem.W.mg_of KX NG (by k_is)
    have ix_ParseError : mg "ParseError" = some (.ref _) := PySem.W.mg_of KX NG (by k_is)
    have ix_PatternError : mg "PatternError" = some (.ref _) := PySem.W.mg_of KX NG (by k_is)
    have ix_ProgramError : mg "ProgramError" = some (.ref _) := PySem.W.mg_of KX NG (by k_is)
    have ix_SquareError : mg "SquareError" = some (.ref _) := PySem.W.mg_of KX NG (by k_is)
    have ix_SymmetryError : mg "SymmetryError" = some (.ref _) := PySem.W.mg_of KX NG (by k_is)
    have ix_UndoError : mg "UndoError" = some (.ref _) := PySem.W.mg_of KX NG (by k_is)
    obtain ⟨es, es0, em0, ok_CommandError, ok_CompatibilityError, ok_ContainmentError, ok_DescriptionError, ok_GeneratorsError, ok_GridsymError, ok_LimitError, ok_NumberError, ok_ParseError, ok_PatternError, ok_ProgramError, ok_SquareError, ok_SymmetryError, ok_UndoError, ok_ValueError, xo_amount, xo_limit⟩ : ∃ es : List (Str × Addr), (∀ n ∈ M.said_nsL, ∀ C, mg n = some (.ref C) → (n, C) ∈ es) ∧ (∀ q ∈ es, PySem.W.exmOne (G.frOf KX) (.ref q.2) (.ref (G.refA ix_GridsymError)) = some true) ∧ G.IsxOk (G.frOf KX) es (.ref (G.refA ix_CommandError)) (G.isN "CommandError") ∧ G.IsxOk (G.frOf KX) es (.ref (G.refA ix_CompatibilityError)) (G.isN "CompatibilityError") ∧ G.IsxOk (G.frOf KX) es (.ref (G.refA ix_ContainmentError)) (G.isN "ContainmentError") ∧ G.IsxOk (G.frOf KX) es (.ref (G.refA ix_DescriptionError)) (G.isN "DescriptionError") ∧ G.IsxOk (G.frOf KX) es (.ref (G.refA ix_GeneratorsError)) (G.isN "GeneratorsError") ∧ G.IsxOk (G.frOf KX) es (.ref (G.refA ix_GridsymError)) G.isAll ∧ G.IsxOk (G.frOf KX) es (.ref (G.refA ix_LimitError)) (G.isN "LimitError") ∧ G.IsxOk (G.frOf KX) es (.ref (G.refA ix_NumberError)) (G.isN "NumberError") ∧ G.IsxOk (G.frOf KX) es (.ref (G.refA ix_ParseError)) (G.isN "ParseError") ∧ G.IsxOk (G.frOf KX) es (.ref (G.refA ix_PatternError)) (G.isN "PatternError") ∧ G.IsxOk (G.frOf KX) es (.ref (G.refA ix_ProgramError)) (G.isN "ProgramError") ∧ G.IsxOk (G.frOf KX) es (.ref (G.refA ix_SquareError)) (G.isN "SquareError") ∧ G.IsxOk (G.frOf KX) es (.ref (G.refA ix_SymmetryError)) (G.isN "SymmetryError") ∧ G.IsxOk (G.frOf KX) es (.ref (G.refA ix_UndoError)) (G.isN "UndoError") ∧ G.IsxOk (G.frOf KX) es (.type "ValueError") G.isAll ∧ G.XfOk (G.frOf KX) es "amount" ∧ G.XfOk (G.frOf KX) es "limit" := by
      have ec : (List.all ([("SquareError", G.refA ix_SquareError), ("SymmetryError", G.refA ix_SymmetryError), ("GeneratorsError", G.refA ix_GeneratorsError), ("NumberError", G.refA ix_NumberError), ("ProgramError", G.refA ix_ProgramError), ("DescriptionError", G.refA ix_DescriptionError), ("ContainmentError", G.refA ix_ContainmentError), ("PatternError", G.refA ix_PatternError), ("CompatibilityError", G.refA ix_CompatibilityError), ("UndoError", G.refA ix_UndoError), ("ParseError", G.refA ix_ParseError), ("CommandError", G.refA ix_CommandError), ("LimitError", G.refA ix_LimitError)] : List (Str × Addr)) fun p => G.excCB (G.frOf KX) p.2) = true := by kernel_rfl
      exact ⟨[("SquareError", G.refA ix_SquareError), ("SymmetryError", G.refA ix_SymmetryError), ("GeneratorsError", G.refA ix_GeneratorsError), ("NumberError", G.refA ix_NumberError), ("ProgramError", G.refA ix_ProgramError), ("DescriptionError", G.refA ix_DescriptionError), ("ContainmentError", G.refA ix_ContainmentError), ("PatternError", G.refA ix_PatternError), ("CompatibilityError", G.refA ix_CompatibilityError), ("UndoError", G.refA ix_UndoError), ("ParseError", G.refA ix_ParseError), ("CommandError", G.refA ix_CommandError), ("LimitError", G.refA ix_LimitError)], G.es_end (es := [("SquareError", G.refA ix_SquareError), ("SymmetryError", G.refA ix_SymmetryError), ("GeneratorsError", G.refA ix_GeneratorsError), ("NumberError", G.refA ix_NumberError), ("ProgramError", G.refA ix_ProgramError), ("DescriptionError", G.refA ix_DescriptionError), ("ContainmentError", G.refA ix_ContainmentError), ("PatternError", G.refA ix_PatternError), ("CompatibilityError", G.refA ix_CompatibilityError), ("UndoError", G.refA ix_UndoError), ("ParseError", G.refA ix_ParseError), ("CommandError", G.refA ix_CommandError), ("LimitError", G.refA ix_LimitError)]) (List.forall_mem_cons.mpr ⟨ix_SquareError, List.forall_mem_cons.mpr ⟨ix_SymmetryError, List.forall_mem_cons.mpr ⟨ix_GeneratorsError, List.forall_mem_cons.mpr ⟨ix_NumberError, List.forall_mem_cons.mpr ⟨ix_ProgramError, List.forall_mem_cons.mpr ⟨ix_DescriptionError, List.forall_mem_cons.mpr ⟨ix_ContainmentError, List.forall_mem_cons.mpr ⟨ix_PatternError, List.forall_mem_cons.mpr ⟨ix_CompatibilityError, List.forall_mem_cons.mpr ⟨ix_UndoError, List.forall_mem_cons.mpr ⟨ix_ParseError, List.forall_mem_cons.mpr ⟨ix_CommandError, List.forall_mem_cons.mpr ⟨ix_LimitError, (fun _ h => (nomatch h))⟩⟩⟩⟩⟩⟩⟩⟩⟩⟩⟩⟩⟩) rfl, G.exm_end (by kernel_rfl), G.isx_end ec (by kernel_rfl), G.isx_end ec (by kernel_rfl), G.isx_end ec (by kernel_rfl), G.isx_end ec (by kernel_rfl), G.isx_end ec (by kernel_rfl), G.isx_end ec (by kernel_rfl), G.isx_end ec (by kernel_rfl), G.isx_end ec (by kernel_rfl), G.isx_end ec (by kernel_rfl), G.isx_end ec (by kernel_rfl), G.isx_end ec (by kernel_rfl), G.isx_end ec (by kernel_rfl), G.isx_end ec (by kernel_rfl), G.isx_end ec (by kernel_rfl), G.isx_end ec (by kernel_rfl), G.xf_end ec (by kernel_rfl), G.xf_end ec (by kernel_rfl)⟩
    refine ⟨_, [], { T := [], es := es }, G.noTabs, fun s u => G.binds_at h_law (fun _ _ _ _ _ _ _ => rfl) s u, fun base _ _ sys TB => ?_⟩
    have lm_ := lm0 PySem.Challenge.pw_gridsym_k06_symmetries_by_hand_and_by_na w base
    have g__law_error_marks := L_k06.g__law_error_marks (P := PySem.Challenge.pw_gridsym_k06_symmetries_by_hand_and_by_na) (w := w) (base := base) (Γ := { T := [], es := es }) h__law_error_marks sys z_isinstance ix_CommandError ok_CommandError ix_CompatibilityError ok_CompatibilityError ix_ContainmentError ok_ContainmentError ix_DescriptionError ok_DescriptionError ix_GeneratorsError ok_GeneratorsError ix_LimitError ok_LimitError ix_NumberError ok_NumberError ix_ParseError ok_ParseError ix_PatternError ok_PatternError ix_ProgramError ok_ProgramError ix_SquareError ok_SquareError ix_SymmetryError ok_SymmetryError ix_UndoError ok_UndoError
    have hf__law_error_marks := G.calledH_of h__law_error_marks (L_k06.b__law_error_marks h__law_error_marks) g__law_error_marks
    have g__law_error_name := L_k06.g__law_error_name (P := PySem.Challenge.pw_gridsym_k06_symmetries_by_hand_and_by_na) (w := w) (base := base) (Γ := { T := [], es := es }) h__law_error_name sys z_ValueError z_isinstance ok_ValueError hf__law_error_marks
    have hf__law_error_name := G.calledH_of h__law_error_name (L_k06.b__law_error_name h__law_error_name) g__law_error_name
    have g__law_errors_are_right := L_k06.g__law_errors_are_right (P := PySem.Challenge.pw_gridsym_k06_symmetries_by_hand_and_by_na) (w := w) (Γ := { T := [], es := es }) h__law_errors_are_right sys z_all z_isinstance x_CommandError x_CompatibilityError x_ContainmentError x_DescriptionError x_GeneratorsError x_NumberError x_ParseError x_PatternError x_ProgramError x_SquareError x_SymmetryError x_UndoError lm_ rfl es0 ix_GridsymError ok_GridsymError xo_amount xo_limit hf__law_error_name
    have kf__law_errors_are_right := G.calledK_of h__law_errors_are_right g__law_errors_are_right fun _ _ _ _ _ _ ws hl => match ws, hl with | [], _ => rfl
    have g__law_cell := L_k06.g__law_cell (P := PySem.Challenge.pw_gridsym_k06_symmetries_by_hand_and_by_na) (w := w) (Γ := { T := [], es := es }) h__law_cell sys z_len
    have f__law_cell := G.called_of h__law_cell (L_k06.b__law_cell h__law_cell) g__law_cell
    have g_is_integer := L_k06.g_is_integer (P := PySem.Challenge.pw_gridsym_k06_symmetries_by_hand_and_by_na) (w := w) (Γ := { T := [], es := es }) h_is_integer sys z_bool z_int z_isinstance
    have f_is_integer := G.called_of h_is_integer (L_k06.b_is_integer h_is_integer) g_is_integer
    have g_is_square := L_k06.g_is_square (P := PySem.Challenge.pw_gridsym_k06_symmetries_by_hand_and_by_na) (w := w) (Γ := { T := [], es := es }) h_is_square sys z_all z_isinstance z_len z_tuple f_is_integer
    have kf_is_square := G.calledK_of h_is_square g_is_square fun _ _ _ _ _ _ ws hl => match ws, hl with | [_], _ => rfl
    have f_is_square := G.called_of h_is_square (L_k06.b_is_square h_is_square) g_is_square
    have g_is_between := L_k06.g_is_between (P := PySem.Challenge.pw_gridsym_k06_symmetries_by_hand_and_by_na) (w := w) (Γ := { T := [], es := es }) h_is_between sys f_is_integer
    have f_is_between := G.called_of h_is_between (L_k06.b_is_between h_is_between) g_is_between
    have g_is_symmetry := L_k06.g_is_symmetry (P := PySem.Challenge.pw_gridsym_k06_symmetries_by_hand_and_by_na) (w := w) (Γ := { T := [], es := es }) h_is_symmetry sys z_all z_isinstance z_len z_tuple k_KINDS f_is_between f_is_integer
    have kf_is_symmetry := G.calledK_of h_is_symmetry g_is_symmetry fun _ _ _ _ _ _ ws hl => match ws, hl with | [_], _ => rfl
    have f_is_symmetry := G.called_of h_is_symmetry (L_k06.b_is_symmetry h_is_symmetry) g_is_symmetry
    have g_need_symmetry := L_k06.g_need_symmetry (P := PySem.Challenge.pw_gridsym_k06_symmetries_by_hand_and_by_na) (w := w) (Γ := { T := [], es := es }) h_need_symmetry sys x_SymmetryError f_is_symmetry
    have f_need_symmetry := G.called_of h_need_symmetry (L_k06.b_need_symmetry h_need_symmetry) g_need_symmetry
    have g_need_square := L_k06.g_need_square (P := PySem.Challenge.pw_gridsym_k06_symmetries_by_hand_and_by_na) (w := w) (Γ := { T := [], es := es }) h_need_square sys x_SquareError f_is_square
    have f_need_square := G.called_of h_need_square (L_k06.b_need_square h_need_square) g_need_square
    have g_added := L_k06.g_added (P := PySem.Challenge.pw_gridsym_k06_symmetries_by_hand_and_by_na) (w := w) (Γ := { T := [], es := es }) h_added sys
    have f_added := G.called_d h_added (L_k06.bd_added_0 h_added e_added) g_added
    have f_added_1 := G.called_d h_added (L_k06.bd_added_1 h_added e_added) g_added
    have g_turned := L_k06.g_turned (P := PySem.Challenge.pw_gridsym_k06_symmetries_by_hand_and_by_na) (w := w) (Γ := { T := [], es := es }) h_turned sys k_LINEAR
    have f_turned := G.called_of h_turned (L_k06.b_turned h_turned) g_turned
    have g_offset := L_k06.g_offset (P := PySem.Challenge.pw_gridsym_k06_symmetries_by_hand_and_by_na) (w := w) (Γ := { T := [], es := es }) h_offset sys
    have f_offset := G.called_of h_offset (L_k06.b_offset h_offset) g_offset
    have g_image_of := L_k06.g_image_of (P := PySem.Challenge.pw_gridsym_k06_symmetries_by_hand_and_by_na) (w := w) (Γ := { T := [], es := es }) h_image_of sys f_added_1 f_offset f_turned
    have f_image_of := G.called_of h_image_of (L_k06.b_image_of h_image_of) g_image_of
    have g_image := L_k06.g_image (P := PySem.Challenge.pw_gridsym_k06_symmetries_by_hand_and_by_na) (w := w) (Γ := { T := [], es := es }) h_image sys f_image_of f_need_square f_need_symmetry
    have kf_image := G.calledK_of h_image g_image fun _ _ _ _ _ _ ws hl => match ws, hl with | [_, _], _ => rfl
    have kp_image_10 := G.calledP_of (qs := ["square", "symmetry"]) (π := [1, 0]) h_image g_image fun _ _ _ _ _ _ ws hl => match ws, hl with | [_, _], _ => rfl
    have g__law_images_are_right := L_k06.g__law_images_are_right (P := PySem.Challenge.pw_gridsym_k06_symmetries_by_hand_and_by_na) (w := w) (Γ := { T := [], es := es }) h__law_images_are_right sys z_range kp_image_10 kf_image
    have f__law_images_are_right := G.called_of h__law_images_are_right (L_k06.b__law_images_are_right h__law_images_are_right) g__law_images_are_right
    have g_kind_after := L_k06.g_kind_after (P := PySem.Challenge.pw_gridsym_k06_symmetries_by_hand_and_by_na) (w := w) (Γ := { T := [], es := es }) h_kind_after sys t_LINEAR f_turned
    have f_kind_after := G.called_of h_kind_after (L_k06.b_kind_after h_kind_after) g_kind_after
    have g_product_of := L_k06.g_product_of (P := PySem.Challenge.pw_gridsym_k06_symmetries_by_hand_and_by_na) (w := w) (Γ := { T := [], es := es }) h_product_of sys f_image_of f_kind_after f_offset
    have f_product_of := G.called_of h_product_of (L_k06.b_product_of h_product_of) g_product_of
    have g_product := L_k06.g_product (P := PySem.Challenge.pw_gridsym_k06_symmetries_by_hand_and_by_na) (w := w) (Γ := { T := [], es := es }) h_product sys f_need_symmetry f_product_of
    have kf_product := G.calledK_of h_product g_product fun _ _ _ _ _ _ ws hl => match ws, hl with | [_, _], _ => rfl
    have kp_product_10 := G.calledP_of (qs := ["second", "first"]) (π := [1, 0]) h_product g_product fun _ _ _ _ _ _ ws hl => match ws, hl with | [_, _], _ => rfl
    have f_product := G.called_of h_product (L_k06.b_product h_product) g_product
    have g_inverse_of := L_k06.g_inverse_of (P := PySem.Challenge.pw_gridsym_k06_symmetries_by_hand_and_by_na) (w := w) (Γ := { T := [], es := es }) h_inverse_of sys z_range k_KINDS k_SHIFT f_kind_after f_offset f_turned
    have f_inverse_of := G.called_of h_inverse_of (L_k06.b_inverse_of h_inverse_of) g_inverse_of
    have g_inverse := L_k06.g_inverse (P := PySem.Challenge.pw_gridsym_k06_symmetries_by_hand_and_by_na) (w := w) (Γ := { T := [], es := es }) h_inverse sys f_inverse_of f_need_symmetry
    have kf_inverse := G.calledK_of h_inverse g_inverse fun _ _ _ _ _ _ ws hl => match ws, hl with | [_], _ => rfl
    have f_inverse := G.called_of h_inverse (L_k06.b_inverse h_inverse) g_inverse
    have g__law_products_are_right := L_k06.g__law_products_are_right (P := PySem.Challenge.pw_gridsym_k06_symmetries_by_hand_and_by_na) (w := w) (Γ := { T := [], es := es }) h__law_products_are_right sys f_inverse f_product kp_product_10 kf_inverse kf_product
    have f__law_products_are_right := G.called_of h__law_products_are_right (L_k06.b__law_products_are_right h__law_products_are_right) g__law_products_are_right
    have g_repeated := L_k06.g_repeated (P := PySem.Challenge.pw_gridsym_k06_symmetries_by_hand_and_by_na) (w := w) (Γ := { T := [], es := es }) h_repeated sys z_range k_IDENTITY f_product_of
    have f_repeated := G.called_of h_repeated (L_k06.b_repeated h_repeated) g_repeated
    have g_power_of := L_k06.g_power_of (P := PySem.Challenge.pw_gridsym_k06_symmetries_by_hand_and_by_na) (w := w) (Γ := { T := [], es := es }) h_power_of sys k_SHIFT k_TURNS f_added f_offset f_product_of f_repeated
    have f_power_of := G.called_of h_power_of (L_k06.b_power_of h_power_of) g_power_of
    have g_power := L_k06.g_power (P := PySem.Challenge.pw_gridsym_k06_symmetries_by_hand_and_by_na) (w := w) (Γ := { T := [], es := es }) h_power sys x_NumberError f_is_integer f_need_symmetry f_power_of
    have kp_power_10 := G.calledP_of (qs := ["exponent", "symmetry"]) (π := [1, 0]) h_power g_power fun _ _ _ _ _ _ ws hl => match ws, hl with | [_, _], _ => rfl
    have f_power := G.called_of h_power (L_k06.b_power h_power) g_power
    have g__law_powers_are_right := L_k06.g__law_powers_are_right (P := PySem.Challenge.pw_gridsym_k06_symmetries_by_hand_and_by_na) (w := w) (Γ := { T := [], es := es }) h__law_powers_are_right sys f_power kp_power_10
    have f__law_powers_are_right := G.called_of h__law_powers_are_right (L_k06.b__law_powers_are_right h__law_powers_are_right) g__law_powers_are_right
    exact L_k06.g_law h_law sys z_len z_max z_min z_range f__law_cell f__law_images_are_right f__law_powers_are_right f__law_products_are_right kf__law_errors_are_right kf_is_square kf_is_symmetry
