import PyProof.Rows.All
import Wide.All
import OpenK.AllK
import Wide.FinOn
import HandS.ForMost
import HandS.ForExc
import HandS.CallSlots
import HandS.Slots
import HandS.Lambda
import HandS.HeadHook4
import HandS.Wide
import HandS.TupAny
import HandS.TupMul
import HandS.Text
import HandS.Dict
import HandS.Defaults
import HandS.Walk
import KE.GoesNew
import KE.GoesDict
import HandS.Zip
import HandS.DictComp
import HandS.TupLen
import HandS.Call
import HandS.IsInst
import HandS.SlotsOwn
import HandS.SortOrd
import HandS.SortRule
import HandS.SortInts
import KE.KDictCopyH
import HandS.SortKw
import KE.KSortKey
import HandS.TryMany
import HandS.ExcField
import PyProof.CallFns
import HandS.ExcInit
import HandS.ExcSuper
import HandS.Nested
import KE.KExcSuper
import KE.KSuper
import HandS.FStr
import PyProof.FString2
import HandS.NestedK
import HandS.HeadWalk
import HandS.Head0
import HandS.Head1
import HandS.Head2
import KE.KStateDown
import PySem.Challenge.RW_roundsalike_k76_errors_of_texts
section
set_option Elab.async false
set_option linter.all false
set_option maxRecDepth 100000
/-! T1: abstract values D, cells, their likeness to the hand layer's values and heap. -/
namespace T
open PySem PySem.Spec PyProof.Rows L2

/-- built-in types that are asked for -/
inductive BT where
  | non | bl | int | str | tup | lst | dct
  deriving DecidableEq, Inhabited
def BT.name : BT → String
  | .non => "NoneType" | .bl => "bool" | .int => "int" | .str => "str" | .tup => "tuple" | .lst => "list" | .dct => "dict"
/-- the program's classes -/
inductive CN where
  | book | desk | shell
  deriving DecidableEq, Inhabited
def CN.name : CN → Str
  | .book => "Book" | .desk => "Desk" | .shell => "Shell"
/-- the program's errors -/
inductive EN where
  | row | lot | table | book | round | operation | command | parse | unknown | count | many | refused | undo
  deriving DecidableEq, Inhabited
def EN.name : EN → Str
  | .row => "InvalidRow" | .lot => "InvalidLot" | .table => "InvalidTable" | .book => "InvalidBook" | .round => "InvalidRound" | .operation => "InvalidOperation" | .command => "InvalidCommand"
  | .parse => "ParseError" | .unknown => "UnknownName" | .count => "InvalidCount" | .many => "TooMany" | .refused => "Refused" | .undo => "NothingToUndo"
/-- what an error keeps -/
def EN.field : EN → Str
  | .parse => "line" | .unknown => "wanted" | .count => "given" | .many => "limit" | .refused => "reason" | .undo => "wanted" | _ => "args"
inductive D where
  | non | bl (b : Bool) | int (i : Int) | str (s : Str) | tup (ds : List D)
  | obj (n : Nat)
  | glo (x : Str)
  | cls (c : CN)
  | ty (t : BT)
  | clo (f c : Addr) (q : Str) (σ : List (Option V)) (js : List Nat) (ds : List D)
  | frl (ds : List D)
  | frt (ds : List D)
  deriving Inhabited

/-- a tuple of the module's text -/
def SqK (K : PySem.W.Frag) (a : Addr) (xs : List V) : Prop :=
  ∃ (o : Obj) (its : Array Value) (n : Nat), K.lookup a = some o ∧ o.cls = .type "tuple" ∧ o.data = .seq its n ∧ its.size ≤ sizeLine ∧ Vals xs its.toList
theorem SqK.sq {K : PySem.W.Frag} {H : Hp} {a : Addr} {xs : List V} (h : SqK K a xs) : SqT K H a xs := .inr h
/-- a list that is never written -/
def SqF (K : PySem.W.Frag) (H : Hp) (a : Addr) (xs : List V) : Prop :=
  (∃ o, H a = some (.frz o (.lst xs))) ∨
    ∃ (o : Obj) (its : Array Value) (n : Nat), K.lookup a = some o ∧ o.cls = .type "list" ∧ o.dict = none ∧ o.data = .seq its n ∧ its.size ≤ sizeLine ∧ Vals xs its.toList
theorem SqF.sq {K : PySem.W.Frag} {H : Hp} {a : Addr} {xs : List V} (h : SqF K H a xs) : SqL K H a xs := by
  rcases h with ⟨o, h⟩ | h
  · exact .inl (.inr ⟨o, h⟩)
  · exact .inr h

inductive Cell where
  | lst (ds : List D)
  | dct (kvs : List (D × D))
  | lk (c : Cell)
  | ins (c : CN) (vs : List (Option D))
  | tab (d : Str × Option Str) (q : Str)
  deriving Inhabited

abbrev Mem := List Cell

/-- what a run of a piece of code comes to -/
inductive Res (α : Type) where
  | ok (a : α) (m : Mem)
  | exc (c : EN) (p : Option D) (m : Mem)
  | stuck

def Res.bind {α β : Type} : Res α → (α → Mem → Res β) → Res β
  | .ok a m, f => f a m
  | .exc c p m, _ => .exc c p m
  | .stuck, _ => .stuck
def Res.map {α β : Type} (f : α → β) : Res α → Res β
  | .ok a m => .ok (f a) m
  | .exc c p m => .exc c p m
  | .stuck => .stuck
@[simp] theorem Res.bind_ok {α β : Type} (a : α) (m : Mem) (f : α → Mem → Res β) : (Res.ok a m).bind f = f a m := rfl
@[simp] theorem Res.bind_exc {α β : Type} (c : EN) (p : Option D) (m : Mem) (f : α → Mem → Res β) : (Res.exc c p m : Res α).bind f = .exc c p m := rfl
@[simp] theorem Res.bind_stuck {α β : Type} (f : α → Mem → Res β) : (Res.stuck : Res α).bind f = .stuck := rfl
@[simp] theorem Res.map_ok {α β : Type} (a : α) (m : Mem) (f : α → β) : (Res.ok a m).map f = .ok (f a) m := rfl
@[simp] theorem Res.map_exc {α β : Type} (c : EN) (p : Option D) (m : Mem) (f : α → β) : (Res.exc c p m : Res α).map f = .exc c p m := rfl
@[simp] theorem Res.map_stuck {α β : Type} (f : α → β) : (Res.stuck : Res α).map f = .stuck := rfl

/-! ### likeness -/
section
variable (K : PySem.W.Frag) (u : List Addr) (H : Hp)
mutual
def Rep : D → V → Prop
  | .non, v => v = .non
  | .bl b, v => v = .bl b
  | .int i, v => v = .int i
  | .str s, v => v = .str s
  | .tup ds, v => ∃ a xs, v = .ref a ∧ H a = some (.tup xs) ∧ RepL ds xs
  | .obj n, v => ∃ a, v = .ref a ∧ u[n]? = some a
  | .glo x, v => v = .ref (He.ga K x)
  | .cls c, v => v = .ref (He.ga K c.name)
  | .ty t, v => v = .ty t.name
  | .clo f c q σ js ds, v => v = .ref f ∧ H c = some (LamX.CodeO c q) ∧ ∃ xs, RepL ds xs ∧ ∀ (j i : Nat) (x : V), js[j]? = some i → xs[j]? = some x → σ[i]? = some (some x)
  | .frl ds, v => ∃ a xs, v = .ref a ∧ SqF K H a xs ∧ RepL ds xs
  | .frt ds, v => ∃ a xs, v = .ref a ∧ SqK K a xs ∧ RepL ds xs
def RepL : List D → List V → Prop
  | [], xs => xs = []
  | d :: ds, xs => ∃ x r, xs = x :: r ∧ Rep d x ∧ RepL ds r
end
def RepO : Option D → Option V → Prop
  | none, _ => True
  | some d, o => ∃ v, o = some v ∧ Rep K u H d v

def keyD : D → Option Key
  | .int i => some (.inl i)
  | .str s => some (.inr s)
  | _ => none
def keyDs : List D → Option (List Key)
  | [] => some []
  | d :: ds => match keyD d, keyDs ds with
    | some k, some ks => some (k :: ks)
    | _, _ => none
def keyT : D → Option (List Key)
  | .tup ds => keyDs ds
  | _ => none
def PairK : List (D × D) → List (Key × V) → Prop
  | [], ys => ys = []
  | p :: ps, ys => ∃ k v r, ys = (k, v) :: r ∧ keyD p.1 = some k ∧ Rep K u H p.2 v ∧ PairK ps r
def PairT : List (D × D) → List (List Key × V) → Prop
  | [], ys => ys = []
  | p :: ps, ys => ∃ k v r, ys = (k, v) :: r ∧ keyT p.1 = some k ∧ Rep K u H p.2 v ∧ PairT ps r

/-- a dict's content -/
def DctO (kvs : List (D × D)) : HO → Prop
  | .dK ys => PairK K u H kvs ys
  | .dT ys => PairT K u H kvs ys
  | _ => False
/-- a list's content -/
def LstO (ds : List D) : HO → Prop
  | .lst xs => RepL K u H ds xs
  | _ => False
/-- the slots of an instance -/
def RepS (vs : List (Option D)) (xs : List (Option V)) : Prop := ∀ (i : Nat) (d : D), vs[i]? = some (some d) → ∃ v, xs[i]? = some (some v) ∧ Rep K u H d v
def CRep (a : Addr) : Cell → Prop
  | .lst ds => ∃ o, H a = some o ∧ LstO K u H ds o
  | .dct kvs => ∃ o, H a = some o ∧ DctO K u H kvs o
  | .lk (.lst ds) => ∃ ob o, H a = some (.frz ob o) ∧ LstO K u H ds o
  | .lk (.dct kvs) => ∃ ob o, H a = some (.frz ob o) ∧ DctO K u H kvs o
  | .lk _ => False
  | .tab d q => a = (He.cT K d).2 ∧ LamX.TabS H a q
  | .ins c vs => ∃ dx xs, SlX.Slt H a (He.ga K c.name) dx xs ∧ RepS K u H vs xs
structure HRep (m : Mem) : Prop where
  len : u.length = m.length
  nd : u.Nodup
  there : ∀ a ∈ u, H a ≠ none
  cell : ∀ (n : Nat) (c : Cell) (a : Addr), m[n]? = some c → u[n]? = some a → CRep K u H a c
end

/-- what stays for ever -/
structure Ext (H H' : Hp) : Prop where
  tups : ∀ b xs, H b = some (.tup xs) → H' b = some (.tup xs)
  frzs : ∀ b o x, H b = some (.frz o x) → H' b = some (.frz o x)
  exts : ∀ b q, H b = some (LamX.CodeO b q) → H' b = some (LamX.CodeO b q)
theorem Ext.refl (H : Hp) : Ext H H := ⟨fun _ _ h => h, fun _ _ _ h => h, fun _ _ h => h⟩
theorem Ext.trans {H H1 H2 : Hp} (a : Ext H H1) (b : Ext H1 H2) : Ext H H2 := ⟨fun c xs h => b.tups c xs (a.tups c xs h), fun c o x h => b.frzs c o x (a.frzs c o x h), fun c φ h => b.exts c φ (a.exts c φ h)⟩
theorem Ext.new {H : Hp} {p : Addr} {o : HO} (h : H p = none) : Ext H (upd H p o) :=
  ⟨fun b xs e => by rw [upd_ne (ne_of_none e h)]; exact e, fun b ob x e => by rw [upd_ne (ne_of_none e h)]; exact e, fun b φ e => by rw [upd_ne (ne_of_none e h)]; exact e⟩
theorem ext_wr {H : Hp} {p : Addr} {o q : HO} (hp : H p = some q) (h1 : ∀ xs, q ≠ .tup xs) (h2 : ∀ ob x, q ≠ .frz ob x) (h3 : ∀ φ, q ≠ .ext φ) : Ext H (upd H p o) :=
  ⟨fun b xs e => by rw [upd_ne (ne_of e hp fun z => h1 xs z.symm)]; exact e, fun b ob x e => by rw [upd_ne (ne_of e hp fun z => h2 ob x z.symm)]; exact e, fun b φ e => by rw [upd_ne (ne_of e hp fun z => h3 _ z.symm)]; exact e⟩
/-- what Rep looks at -/
structure Ext0 (H H' : Hp) : Prop where
  tups : ∀ b xs, H b = some (.tup xs) → H' b = some (.tup xs)
  lsts : ∀ b o xs, H b = some (.frz o (.lst xs)) → H' b = some (.frz o (.lst xs))
  exts : ∀ b q, H b = some (LamX.CodeO b q) → H' b = some (LamX.CodeO b q)
theorem Ext.to0 {H H' : Hp} (e : Ext H H') : Ext0 H H' := ⟨e.tups, fun b o xs h => e.frzs b o _ h, e.exts⟩
theorem Ext0.sqF {K : PySem.W.Frag} {H H' : Hp} (e : Ext0 H H') {a : Addr} {xs : List V} (h : SqF K H a xs) : SqF K H' a xs := by
  rcases h with ⟨o, h⟩ | h
  · exact .inl ⟨o, e.lsts _ _ _ h⟩
  · exact .inr h
theorem Ext.sqT {K : PySem.W.Frag} {H H' : Hp} (e : Ext H H') {a : Addr} {xs : List V} (h : SqT K H a xs) : SqT K H' a xs := by
  rcases h with (h | ⟨o, h⟩) | h
  · exact .inl (.inl (e.tups _ _ h))
  · exact .inl (.inr ⟨o, e.frzs _ _ _ h⟩)
  · exact .inr h

theorem Ext.sqF {K : PySem.W.Frag} {H H' : Hp} (e : Ext H H') {a : Addr} {xs : List V} (h : SqF K H a xs) : SqF K H' a xs := by
  rcases h with ⟨o, h⟩ | h
  · exact .inl ⟨o, e.frzs _ _ _ h⟩
  · exact .inr h

/-- the addresses known grow -/
def Grow (u u' : List Addr) : Prop := ∃ t, u' = u ++ t
theorem Grow.refl (u : List Addr) : Grow u u := ⟨[], by simp⟩
theorem Grow.trans {u v w : List Addr} (a : Grow u v) (b : Grow v w) : Grow u w := by
  obtain ⟨s, rfl⟩ := a
  obtain ⟨t, rfl⟩ := b
  exact ⟨s ++ t, by simp⟩
theorem Grow.get {u v : List Addr} (g : Grow u v) {n : Nat} {a : Addr} (h : u[n]? = some a) : v[n]? = some a := by
  obtain ⟨t, rfl⟩ := g
  rw [List.getElem?_append_left (List.getElem?_eq_some_iff.mp h).1]
  exact h
section
variable {K : PySem.W.Frag} {u u' : List Addr} {H H' : Hp}
mutual
theorem Rep.mono0 (g : Grow u u') (e : Ext0 H H') : ∀ (d : D) {v : V}, Rep K u H d v → Rep K u' H' d v
  | .non, _, h => h
  | .bl _, _, h => h
  | .int _, _, h => h
  | .str _, _, h => h
  | .tup ds, _, h => by
    obtain ⟨a, xs, h1, h2, h3⟩ := h
    exact ⟨a, xs, h1, e.tups _ _ h2, RepL.mono0 g e ds h3⟩
  | .obj n, _, h => by
    obtain ⟨a, h1, h2⟩ := h
    exact ⟨a, h1, g.get h2⟩
  | .glo _, _, h => h
  | .cls _, _, h => h
  | .ty _, _, h => h
  | .clo f c q σ js ds, _, ⟨h1, h2, xs, h3, h4⟩ => ⟨h1, e.exts _ _ h2, xs, RepL.mono0 g e ds h3, h4⟩
  | .frl ds, _, h => by
    obtain ⟨a, xs, h1, h2, h3⟩ := h
    exact ⟨a, xs, h1, e.sqF h2, RepL.mono0 g e ds h3⟩
  | .frt ds, _, h => by
    obtain ⟨a, xs, h1, h2, h3⟩ := h
    exact ⟨a, xs, h1, h2, RepL.mono0 g e ds h3⟩
theorem RepL.mono0 (g : Grow u u') (e : Ext0 H H') : ∀ (ds : List D) {xs : List V}, RepL K u H ds xs → RepL K u' H' ds xs
  | [], _, h => h
  | d :: ds, _, h => by
    obtain ⟨x, r, h1, h2, h3⟩ := h
    exact ⟨x, r, h1, Rep.mono0 g e d h2, RepL.mono0 g e ds h3⟩
end
theorem RepO.mono0 (g : Grow u u') (e : Ext0 H H') : ∀ {d : Option D} {v : Option V}, RepO K u H d v → RepO K u' H' d v
  | none, _, _ => trivial
  | some d, _, ⟨v, h1, h2⟩ => ⟨v, h1, Rep.mono0 g e d h2⟩
theorem PairK.mono0 (g : Grow u u') (e : Ext0 H H') : ∀ {ps : List (D × D)} {ys : List (Key × V)}, PairK K u H ps ys → PairK K u' H' ps ys
  | [], _, h => h
  | p :: ps, _, ⟨k, v, r, h1, h2, h3, h4⟩ => ⟨k, v, r, h1, h2, Rep.mono0 g e p.2 h3, PairK.mono0 g e h4⟩
theorem PairT.mono0 (g : Grow u u') (e : Ext0 H H') : ∀ {ps : List (D × D)} {ys : List (List Key × V)}, PairT K u H ps ys → PairT K u' H' ps ys
  | [], _, h => h
  | p :: ps, _, ⟨k, v, r, h1, h2, h3, h4⟩ => ⟨k, v, r, h1, h2, Rep.mono0 g e p.2 h3, PairT.mono0 g e h4⟩
theorem DctO.mono0 (g : Grow u u') (e : Ext0 H H') {ps : List (D × D)} {o : HO} (h : DctO K u H ps o) : DctO K u' H' ps o := by
  cases o with
  | dK ys => exact PairK.mono0 g e h
  | dT ys => exact PairT.mono0 g e h
  | _ => exact h.elim
theorem LstO.mono0 (g : Grow u u') (e : Ext0 H H') {ds : List D} {o : HO} (h : LstO K u H ds o) : LstO K u' H' ds o := by
  cases o with
  | lst ys => exact RepL.mono0 g e ds h
  | _ => exact h.elim
theorem RepS.mono0 (g : Grow u u') (e : Ext0 H H') {vs : List (Option D)} {xs : List (Option V)} (h : RepS K u H vs xs) : RepS K u' H' vs xs := fun i d q =>
  let ⟨v, h1, h2⟩ := h i d q
  ⟨v, h1, Rep.mono0 g e d h2⟩
/-- the object at a, and what may be its own dict, as they were -/
def Kept (H H' : Hp) (a : Addr) : Prop := H' a = H a ∧ ∀ dx, H dx = some (.own a) ∨ H dx = some (.xd []) → H' dx = H dx
theorem Kept.new {p a : Addr} {o : HO} (hp : H p = none) (ha : H a ≠ none) : Kept H (upd H p o) a := by
  have ne : ∀ b, H b ≠ none → b ≠ p := fun b q z => q (z ▸ hp)
  refine ⟨upd_ne (ne a ha), fun dx q => upd_ne (ne dx fun z => ?_)⟩
  rw [z] at q
  rcases q with q | q <;> cases q
/-- another list or dict is written -/
theorem Kept.put {p a : Addr} {o q : HO} (hp : H p = some q) (hne : a ≠ p) (h1 : ∀ b, q ≠ .own b) (h2 : ∀ fs, q ≠ .xd fs) : Kept H (upd H p o) a := by
  refine ⟨upd_ne hne, fun dx z => upd_ne fun e => ?_⟩
  rw [e, hp] at z
  rcases z with z | z
  · exact h1 a (Option.some.inj z)
  · exact h2 [] (Option.some.inj z)
theorem CRep.mono0 (g : Grow u u') (e : Ext0 H H') {a : Addr} (s : Kept H H' a) : ∀ {c : Cell}, CRep K u H a c → CRep K u' H' a c
  | .lst _, ⟨o, h1, h2⟩ => ⟨o, s.1.trans h1, LstO.mono0 g e h2⟩
  | .dct _, ⟨o, h1, h2⟩ => ⟨o, s.1.trans h1, DctO.mono0 g e h2⟩
  | .lk (.lst _), ⟨ob, o, h1, h2⟩ => ⟨ob, o, s.1.trans h1, LstO.mono0 g e h2⟩
  | .lk (.dct _), ⟨ob, o, h1, h2⟩ => ⟨ob, o, s.1.trans h1, DctO.mono0 g e h2⟩
  | .tab P q, ⟨h1, ps, h2, h3, h4⟩ => ⟨h1, ps, s.1.trans h2, h3, fun pos cv hc => let ⟨c, e1, e2⟩ := h4 pos cv hc; ⟨c, e1, e.exts _ _ e2⟩⟩
  | .ins C vs, ⟨dx, xs, h1, h2⟩ => by
    refine ⟨dx, xs, ?_, h2.mono0 g e⟩
    rcases h1 with ⟨q1, q2⟩ | ⟨q1, q2⟩
    · exact .inl ⟨s.1.trans q1, q2⟩
    · exact .inr ⟨s.1.trans q1, (s.2 dx (.inr q2)).trans q2⟩

theorem Rep.mono (g : Grow u u') (e : Ext H H') (d : D) {v : V} (h : Rep K u H d v) : Rep K u' H' d v := Rep.mono0 g e.to0 d h
theorem RepL.mono (g : Grow u u') (e : Ext H H') (ds : List D) {xs : List V} (h : RepL K u H ds xs) : RepL K u' H' ds xs := RepL.mono0 g e.to0 ds h
theorem RepO.mono (g : Grow u u') (e : Ext H H') {d : Option D} {v : Option V} (h : RepO K u H d v) : RepO K u' H' d v := RepO.mono0 g e.to0 h
theorem PairK.mono (g : Grow u u') (e : Ext H H') {ps : List (D × D)} {ys : List (Key × V)} (h : PairK K u H ps ys) : PairK K u' H' ps ys := PairK.mono0 g e.to0 h
theorem PairT.mono (g : Grow u u') (e : Ext H H') {ps : List (D × D)} {ys : List (List Key × V)} (h : PairT K u H ps ys) : PairT K u' H' ps ys := PairT.mono0 g e.to0 h
theorem DctO.mono (g : Grow u u') (e : Ext H H') {ps : List (D × D)} {o : HO} (h : DctO K u H ps o) : DctO K u' H' ps o := DctO.mono0 g e.to0 h
theorem LstO.mono (g : Grow u u') (e : Ext H H') {ds : List D} {o : HO} (h : LstO K u H ds o) : LstO K u' H' ds o := LstO.mono0 g e.to0 h
theorem RepS.mono (g : Grow u u') (e : Ext H H') {vs : List (Option D)} {xs : List (Option V)} (h : RepS K u H vs xs) : RepS K u' H' vs xs := RepS.mono0 g e.to0 h
theorem CRep.mono (g : Grow u u') (e : Ext H H') {a : Addr} (s : Kept H H' a) {c : Cell} (h : CRep K u H a c) : CRep K u' H' a c := CRep.mono0 g e.to0 s h
theorem RepL.length : ∀ {ds : List D} {xs : List V}, RepL K u H ds xs → xs.length = ds.length
  | [], _, h => by rw [show _ = [] from h]; rfl
  | d :: ds, _, ⟨x, r, h1, _, h3⟩ => by rw [h1, List.length_cons, RepL.length h3, List.length_cons]
theorem RepL.get : ∀ {ds : List D} {xs : List V} {i : Nat} {d : D}, RepL K u H ds xs → ds[i]? = some d → ∃ v, xs[i]? = some v ∧ Rep K u H d v
  | [], _, _, _, _, e => by simp at e
  | d :: ds, _, 0, _, ⟨x, r, h1, h2, h3⟩, e => by
    simp at e
    subst e
    exact ⟨x, by rw [h1]; rfl, h2⟩
  | d :: ds, _, i + 1, d', ⟨x, r, h1, h2, h3⟩, e => by
    obtain ⟨v, a, b⟩ := RepL.get (i := i) (d := d') h3 (by simpa using e)
    exact ⟨v, by rw [h1]; simpa using a, b⟩
theorem RepL.append : ∀ {ds es : List D} {xs ys : List V}, RepL K u H ds xs → RepL K u H es ys → RepL K u H (ds ++ es) (xs ++ ys)
  | [], _, _, _, h, h' => by rw [show _ = [] from h]; exact h'
  | d :: ds, _, _, _, ⟨x, r, h1, h2, h3⟩, h' => ⟨x, r ++ _, by rw [h1]; rfl, h2, RepL.append h3 h'⟩
theorem RepL.set : ∀ {ds : List D} {xs : List V} {i : Nat} {d : D} {v : V}, RepL K u H ds xs → Rep K u H d v → RepL K u H (ds.set i d) (xs.set i v)
  | [], _, _, _, _, h, _ => by rw [show _ = [] from h]; exact rfl
  | d :: ds, _, 0, _, _, ⟨x, r, h1, h2, h3⟩, h => ⟨_, r, by rw [h1]; rfl, h, h3⟩
  | d :: ds, _, i + 1, _, _, ⟨x, r, h1, h2, h3⟩, h => ⟨x, r.set i _, by rw [h1]; rfl, h2, RepL.set h3 h⟩
theorem RepL.one {d : D} {v : V} (h : Rep K u H d v) : RepL K u H [d] [v] := ⟨v, [], rfl, h, rfl⟩

/-- a list that stands there, untracked so far, becomes a cell -/
theorem HRep.adopt {m : Mem} {p : Addr} {c : Cell} (h : HRep K u H m) (hu : p ∉ u) (hp : H p ≠ none) (hc : CRep K (u ++ [p]) H p c) : HRep K (u ++ [p]) H (m ++ [c]) := by
  refine ⟨by simp [h.len], ?_, fun a ha => ?_, fun n c' a e1 e2 => ?_⟩
  · rw [List.nodup_append]
    exact ⟨h.nd, by simp, fun x hx y hy => by
      rw [List.mem_singleton.mp hy]
      exact fun z => hu (z ▸ hx)⟩
  · rcases List.mem_append.mp ha with z | z
    · exact h.there a z
    · rw [List.mem_singleton.mp z]
      exact hp
  · by_cases hn : n < m.length
    · rw [List.getElem?_append_left hn] at e1
      rw [List.getElem?_append_left (by rw [h.len]; exact hn)] at e2
      exact (h.cell n c' a e1 e2).mono ⟨[p], rfl⟩ (Ext.refl H) ⟨rfl, fun _ _ => rfl⟩
    · rw [List.getElem?_append_right (by omega)] at e1
      rw [List.getElem?_append_right (by rw [h.len]; omega), h.len] at e2
      cases hk : n - m.length with
      | zero =>
        rw [hk] at e1 e2
        simp at e1 e2
        subst e1 e2
        exact hc
      | succ k =>
        rw [hk] at e1
        simp at e1
theorem HRep.nu {m : Mem} {p : Addr} (h : HRep K u H m) (hp : H p = none) : p ∉ u := fun z => h.there p z hp
/-- behind a new object that no cell tells of -/
theorem HRep.new {m : Mem} {p : Addr} {o : HO} (h : HRep K u H m) (hp : H p = none) : HRep K u (upd H p o) m := by
  refine ⟨h.len, h.nd, fun a ha => ?_, fun n c a e1 e2 => (h.cell n c a e1 e2).mono (Grow.refl u) (Ext.new hp) (Kept.new hp (h.there a (List.mem_of_getElem? e2)))⟩
  rw [upd_ne (show a ≠ p from fun z => h.there a ha (by rw [z]; exact hp))]
  exact h.there a ha
/-- a new cell -/
theorem HRep.push {m : Mem} {p : Addr} {o : HO} {c : Cell} (h : HRep K u H m) (hp : H p = none) (hc : CRep K (u ++ [p]) (upd H p o) p c) : HRep K (u ++ [p]) (upd H p o) (m ++ [c]) := by
  have hu := h.nu hp
  refine ⟨by simp [h.len], ?_, fun a ha => ?_, fun n c' a e1 e2 => ?_⟩
  · rw [List.nodup_append]
    exact ⟨h.nd, by simp, fun x hx y hy => by
      rw [List.mem_singleton.mp hy]
      exact fun z => hu (z ▸ hx)⟩
  · rcases List.mem_append.mp ha with z | z
    · rw [upd_ne (show a ≠ p from fun q => h.there a z (by rw [q]; exact hp))]
      exact h.there a z
    · rw [List.mem_singleton.mp z, upd_same]
      exact fun q => nomatch q
  · by_cases hn : n < m.length
    · rw [List.getElem?_append_left hn] at e1
      rw [List.getElem?_append_left (by rw [h.len]; exact hn)] at e2
      exact (h.cell n c' a e1 e2).mono ⟨[p], rfl⟩ (Ext.new hp) (Kept.new hp (h.there a (List.mem_of_getElem? e2)))
    · rw [List.getElem?_append_right (by omega)] at e1
      rw [List.getElem?_append_right (by rw [h.len]; omega), h.len] at e2
      cases hk : n - m.length with
      | zero =>
        rw [hk] at e1 e2
        simp at e1 e2
        subst e1 e2
        exact hc
      | succ k =>
        rw [hk] at e1
        simp at e1
/-- a cell is written, by a change of the heap that keeps all others -/
theorem HRep.write0 {m : Mem} {n : Nat} {p : Addr} {c : Cell} (h : HRep K u H m) (e : Ext0 H H') (kp : ∀ a, H a ≠ none → a ≠ p → a ∈ u → Kept H H' a) (hn : u[n]? = some p) (hc : CRep K u H' p c) (hp : H' p ≠ none) : HRep K u H' (m.set n c) := by
  refine ⟨by simp [h.len], h.nd, fun a ha => ?_, fun k c' a e1 e2 => ?_⟩
  · by_cases z : a = p
    · rw [z]; exact hp
    · rw [(kp a (h.there a ha) z ha).1]
      exact h.there a ha
  by_cases hk : n = k
  · subst hk
    rw [hn] at e2
    cases e2
    have hl : n < m.length := by rw [← h.len]; exact (List.getElem?_eq_some_iff.mp hn).1
    rw [List.getElem?_set_self hl] at e1
    cases e1
    exact hc
  · rw [List.getElem?_set_ne hk] at e1
    have ha := List.mem_of_getElem? e2
    refine CRep.mono0 (Grow.refl u) e (kp a (h.there a ha) (fun z => hk ?_) ha) (h.cell k c' a e1 e2)
    subst z
    obtain ⟨l1, q1⟩ := List.getElem?_eq_some_iff.mp hn
    obtain ⟨l2, q2⟩ := List.getElem?_eq_some_iff.mp e2
    exact (List.getElem_inj h.nd).mp (q1.trans q2.symm)
theorem HRep.write {m : Mem} {n : Nat} {p : Addr} {c : Cell} (h : HRep K u H m) (e : Ext H H') (kp : ∀ a, H a ≠ none → a ≠ p → a ∈ u → Kept H H' a) (hn : u[n]? = some p) (hc : CRep K u H' p c) (hp : H' p ≠ none) : HRep K u H' (m.set n c) := h.write0 e.to0 kp hn hc hp
end
end T
end
section
set_option Elab.async false
set_option linter.all false
set_option maxRecDepth 100000
/-! T2: judgements: a piece of code does what a function of values, slots and cells says. -/
namespace T
open PySem PySem.Spec PyProof.Rows L2

abbrev Slots := List (Option D)
abbrev EM := Slots → Mem → Res D
abbrev LM := Slots → Mem → Res (List D)
abbrev TM := Slots → Mem → Res Bool

def ERep (K : PySem.W.Frag) (u : List Addr) (H : Hp) (r : Slots) (σ : L2.St) : Prop :=
  r.length = σ.length ∧ ∀ (i : Nat) (d : D), r[i]? = some (some d) → ∃ v, σ[i]? = some (some v) ∧ Rep K u H d v
theorem ERep.mono {K : PySem.W.Frag} {u u' : List Addr} {H H' : Hp} {r : Slots} {σ : L2.St} (g : Grow u u') (e : Ext H H') (h : ERep K u H r σ) : ERep K u' H' r σ :=
  ⟨h.1, fun i d q => let ⟨v, a, b⟩ := h.2 i d q; ⟨v, a, Rep.mono g e d b⟩⟩
theorem ERep.set {K : PySem.W.Frag} {u : List Addr} {H : Hp} {r : Slots} {σ : L2.St} {d : D} {v : V} (h : ERep K u H r σ) (i : Nat) (q : Rep K u H d v) : ERep K u H (r.set i (some d)) (σ.set i (some v)) := by
  refine ⟨by simp [h.1], fun j d' e => ?_⟩
  by_cases hj : i = j
  · subst hj
    have hl : i < r.length := by
      have z := (List.getElem?_eq_some_iff.mp e).1
      rw [List.length_set] at z
      exact z
    rw [List.getElem?_set_self hl] at e
    cases e
    exact ⟨v, List.getElem?_set_self (by rw [← h.1]; exact hl), q⟩
  · rw [List.getElem?_set_ne hj] at e
    obtain ⟨v', a, b⟩ := h.2 j d' e
    exact ⟨v', by rw [List.getElem?_set_ne hj]; exact a, b⟩
theorem ERep.unset {K : PySem.W.Frag} {u : List Addr} {H : Hp} {r : Slots} {σ : L2.St} (h : ERep K u H r σ) (i : Nat) (x : Option V) : ERep K u H (r.set i none) (σ.set i x) := by
  refine ⟨by simp [h.1], fun j d' e => ?_⟩
  by_cases hj : i = j
  · subst hj
    have hl : i < r.length := by
      have z := (List.getElem?_eq_some_iff.mp e).1
      rw [List.length_set] at z
      exact z
    rw [List.getElem?_set_self hl] at e
    cases e
  · rw [List.getElem?_set_ne hj] at e
    obtain ⟨v', a, b⟩ := h.2 j d' e
    exact ⟨v', by rw [List.getElem?_set_ne hj]; exact a, b⟩

/-- an exception's class, its own dict -/
def XRep (K : PySem.W.Frag) (mg : Str → Option Value) (u : List Addr) (H : Hp) (c : EN) (p : Option D) (cls : Value) (dd : Option Addr) : Prop :=
  cls = .ref (He.ga K c.name) ∧ match p with
    | none => dd = none
    | some d => ∃ a v, dd = some a ∧ H a = some (.xd [(c.field, v)]) ∧ Rep K u H d v
section
variable (K : PySem.W.Frag) (mg : Str → Option Value)
def PostE (u : List Addr) (H : Hp) (σ : L2.St) (W : WX) (Q : VK) : Res D → Prop
  | .ok d m => ∀ u' H' v, Grow u u' → Ext H H' → HRep K u' H' m → Rep K u' H' d v → Q v H'
  | .exc c p m => ∀ u' H' cls dd, Grow u u' → Ext H H' → HRep K u' H' m → XRep K mg u' H' c p cls dd → W cls dd σ H'
  | .stuck => False
def PostA (u : List Addr) (H : Hp) (σ : L2.St) (W : WX) (Q : List V → Hp → Prop) : Res (List D) → Prop
  | .ok ds m => ∀ u' H' vs, Grow u u' → Ext H H' → HRep K u' H' m → RepL K u' H' ds vs → Q vs H'
  | .exc c p m => ∀ u' H' cls dd, Grow u u' → Ext H H' → HRep K u' H' m → XRep K mg u' H' c p cls dd → W cls dd σ H'
  | .stuck => False
def PostL (u : List Addr) (H : Hp) (σ : L2.St) (W : WX) (Q : VK) : Res (List D) → Prop
  | .ok ds m => ∀ u' H' a xs, Grow u u' → Ext H H' → HRep K u' H' m → H' a = some (.lst xs) → a ∉ u' → RepL K u' H' ds xs → Q (.ref a) H'
  | .exc c p m => ∀ u' H' cls dd, Grow u u' → Ext H H' → HRep K u' H' m → XRep K mg u' H' c p cls dd → W cls dd σ H'
  | .stuck => False
def PostB (u : List Addr) (H : Hp) (σ : L2.St) (W : WX) (Q : Bool → Hp → Prop) : Res Bool → Prop
  | .ok b m => ∀ u' H', Grow u u' → Ext H H' → HRep K u' H' m → Q b H'
  | .exc c p m => ∀ u' H' cls dd, Grow u u' → Ext H H' → HRep K u' H' m → XRep K mg u' H' c p cls dd → W cls dd σ H'
  | .stuck => False
def tE (W : WX) (m : EM) : TE := fun σ H Q => ∃ u r μ, HRep K u H μ ∧ ERep K u H r σ ∧ PostE K mg u H σ W Q (m r μ)
def tA (W : WX) (m : LM) : TA := fun σ H Q => ∃ u r μ, HRep K u H μ ∧ ERep K u H r σ ∧ PostA K mg u H σ W Q (m r μ)
def tL (W : WX) (m : LM) : TE := fun σ H Q => ∃ u r μ, HRep K u H μ ∧ ERep K u H r σ ∧ PostL K mg u H σ W Q (m r μ)
def tT (W : WX) (m : TM) : TT := fun σ H Q => ∃ u r μ, HRep K u H μ ∧ ERep K u H r σ ∧ PostB K mg u H σ W Q (m r μ)
end
section
variable {K : PySem.W.Frag} {mg : Str → Option Value} {u u1 : List Addr} {H H1 : Hp} {σ : L2.St} {W : WX}
theorem PostE.later {Q : VK} {x : Res D} (g : Grow u u1) (e : Ext H H1) (h : PostE K mg u H σ W Q x) : PostE K mg u1 H1 σ W Q x := by
  cases x with
  | ok d m => exact fun u' H' v a b c q => h u' H' v (g.trans a) (e.trans b) c q
  | exc c p m => exact fun u' H' cls dd a b c q => h u' H' cls dd (g.trans a) (e.trans b) c q
  | stuck => exact h
theorem PostA.later {Q : List V → Hp → Prop} {x : Res (List D)} (g : Grow u u1) (e : Ext H H1) (h : PostA K mg u H σ W Q x) : PostA K mg u1 H1 σ W Q x := by
  cases x with
  | ok d m => exact fun u' H' v a b c q => h u' H' v (g.trans a) (e.trans b) c q
  | exc c p m => exact fun u' H' cls dd a b c q => h u' H' cls dd (g.trans a) (e.trans b) c q
  | stuck => exact h
theorem PostL.later {Q : VK} {x : Res (List D)} (g : Grow u u1) (e : Ext H H1) (h : PostL K mg u H σ W Q x) : PostL K mg u1 H1 σ W Q x := by
  cases x with
  | ok d m => exact fun u' H' v xs a b c q => h u' H' v xs (g.trans a) (e.trans b) c q
  | exc c p m => exact fun u' H' cls dd a b c q => h u' H' cls dd (g.trans a) (e.trans b) c q
  | stuck => exact h
theorem PostB.later {Q : Bool → Hp → Prop} {x : Res Bool} (g : Grow u u1) (e : Ext H H1) (h : PostB K mg u H σ W Q x) : PostB K mg u1 H1 σ W Q x := by
  cases x with
  | ok d m => exact fun u' H' a b c => h u' H' (g.trans a) (e.trans b) c
  | exc c p m => exact fun u' H' cls dd a b c q => h u' H' cls dd (g.trans a) (e.trans b) c q
  | stuck => exact h
/-- the wish's class of results: what all four kinds of ends share -/
class End (α β : Type) where
  post : PySem.W.Frag → (Str → Option Value) → List Addr → Hp → L2.St → WX → (β → Hp → Prop) → Res α → Prop
  exc : ∀ {K mg u H σ W Q} {c p m}, post K mg u H σ W Q (.exc c p m) ↔ ∀ u' H' cls dd, Grow u u' → Ext H H' → HRep K u' H' m → XRep K mg u' H' c p cls dd → W cls dd σ H'
  stuck : ∀ {K mg u H σ W Q}, ¬ post K mg u H σ W Q .stuck
  later : ∀ {K mg u u1 H H1 σ W Q} {x : Res α}, Grow u u1 → Ext H H1 → post K mg u H σ W Q x → post K mg u1 H1 σ W Q x
instance : End D V := ⟨PostE, Iff.rfl, fun h => h, PostE.later⟩
instance endA : End (List D) (List V) := ⟨PostA, Iff.rfl, fun h => h, PostA.later⟩
instance endB : End Bool Bool := ⟨PostB, Iff.rfl, fun h => h, PostB.later⟩
/-- first m, then k -/
theorem PostE.bind {α β : Type} [End α β] {Q : β → Hp → Prop} {x : Res D} {k : D → Mem → Res α} (h : End.post K mg u H σ W Q (x.bind k)) :
    PostE K mg u H σ W (fun v H1 => ∃ u1 μ1 d, Grow u u1 ∧ Ext H H1 ∧ HRep K u1 H1 μ1 ∧ Rep K u1 H1 d v ∧ x = .ok d μ1 ∧ End.post K mg u1 H1 σ W Q (k d μ1)) x := by
  cases x with
  | ok d m => exact fun u' H' v a b c q => ⟨u', m, d, a, b, c, q, rfl, End.later a b h⟩
  | exc c p m => exact End.exc.mp h
  | stuck => exact (End.stuck h).elim
theorem PostL.bind {α β : Type} [End α β] {Q : β → Hp → Prop} {x : Res (List D)} {k : List D → Mem → Res α} (h : End.post K mg u H σ W Q (x.bind k)) :
    PostL K mg u H σ W (fun v H1 => ∃ u1 μ1 ds a xs, Grow u u1 ∧ Ext H H1 ∧ HRep K u1 H1 μ1 ∧ v = .ref a ∧ H1 a = some (.lst xs) ∧ a ∉ u1 ∧ RepL K u1 H1 ds xs ∧ x = .ok ds μ1 ∧ End.post K mg u1 H1 σ W Q (k ds μ1)) x := by
  cases x with
  | ok d m => exact fun u' H' a xs g b c z1 z2 z3 => ⟨u', m, d, a, xs, g, b, c, rfl, z1, z2, z3, rfl, End.later g b h⟩
  | exc c p m => exact End.exc.mp h
  | stuck => exact (End.stuck h).elim
theorem PostA.bind {α β : Type} [End α β] {Q : β → Hp → Prop} {x : Res (List D)} {k : List D → Mem → Res α} (h : End.post K mg u H σ W Q (x.bind k)) :
    PostA K mg u H σ W (fun vs H1 => ∃ u1 μ1 ds, Grow u u1 ∧ Ext H H1 ∧ HRep K u1 H1 μ1 ∧ RepL K u1 H1 ds vs ∧ x = .ok ds μ1 ∧ End.post K mg u1 H1 σ W Q (k ds μ1)) x := by
  cases x with
  | ok d m => exact fun u' H' v a b c q => ⟨u', m, d, a, b, c, q, rfl, End.later a b h⟩
  | exc c p m => exact End.exc.mp h
  | stuck => exact (End.stuck h).elim
theorem PostB.bind {α β : Type} [End α β] {Q : β → Hp → Prop} {x : Res Bool} {k : Bool → Mem → Res α} (h : End.post K mg u H σ W Q (x.bind k)) :
    PostB K mg u H σ W (fun b H1 => ∃ u1 μ1, Grow u u1 ∧ Ext H H1 ∧ HRep K u1 H1 μ1 ∧ x = .ok b μ1 ∧ End.post K mg u1 H1 σ W Q (k b μ1)) x := by
  cases x with
  | ok d m => exact fun u' H' a b c => ⟨u', m, a, b, c, rfl, End.later a b h⟩
  | exc c p m => exact End.exc.mp h
  | stuck => exact (End.stuck h).elim
theorem PostE.bindE {Q : VK} {x : Res D} {k : D → Mem → Res D} (h : PostE K mg u H σ W Q (x.bind k)) :
    PostE K mg u H σ W (fun v H1 => ∃ u1 μ1 d, Grow u u1 ∧ Ext H H1 ∧ HRep K u1 H1 μ1 ∧ Rep K u1 H1 d v ∧ x = .ok d μ1 ∧ PostE K mg u1 H1 σ W Q (k d μ1)) x := PostE.bind (α := D) (β := V) (k := k) h
theorem PostE.bindA {Q : List V → Hp → Prop} {x : Res D} {k : D → Mem → Res (List D)} (h : PostA K mg u H σ W Q (x.bind k)) :
    PostE K mg u H σ W (fun v H1 => ∃ u1 μ1 d, Grow u u1 ∧ Ext H H1 ∧ HRep K u1 H1 μ1 ∧ Rep K u1 H1 d v ∧ x = .ok d μ1 ∧ PostA K mg u1 H1 σ W Q (k d μ1)) x := PostE.bind (α := (List D)) (β := (List V)) (k := k) h
theorem PostE.bindB {Q : Bool → Hp → Prop} {x : Res D} {k : D → Mem → Res Bool} (h : PostB K mg u H σ W Q (x.bind k)) :
    PostE K mg u H σ W (fun v H1 => ∃ u1 μ1 d, Grow u u1 ∧ Ext H H1 ∧ HRep K u1 H1 μ1 ∧ Rep K u1 H1 d v ∧ x = .ok d μ1 ∧ PostB K mg u1 H1 σ W Q (k d μ1)) x := PostE.bind (α := Bool) (β := Bool) (k := k) h
theorem PostA.bindE {Q : VK} {x : Res (List D)} {k : (List D) → Mem → Res D} (h : PostE K mg u H σ W Q (x.bind k)) :
    PostA K mg u H σ W (fun vs H1 => ∃ u1 μ1 ds, Grow u u1 ∧ Ext H H1 ∧ HRep K u1 H1 μ1 ∧ RepL K u1 H1 ds vs ∧ x = .ok ds μ1 ∧ PostE K mg u1 H1 σ W Q (k ds μ1)) x := PostA.bind (α := D) (β := V) (k := k) h
theorem PostA.bindA {Q : List V → Hp → Prop} {x : Res (List D)} {k : (List D) → Mem → Res (List D)} (h : PostA K mg u H σ W Q (x.bind k)) :
    PostA K mg u H σ W (fun vs H1 => ∃ u1 μ1 ds, Grow u u1 ∧ Ext H H1 ∧ HRep K u1 H1 μ1 ∧ RepL K u1 H1 ds vs ∧ x = .ok ds μ1 ∧ PostA K mg u1 H1 σ W Q (k ds μ1)) x := PostA.bind (α := (List D)) (β := (List V)) (k := k) h
theorem PostA.bindB {Q : Bool → Hp → Prop} {x : Res (List D)} {k : (List D) → Mem → Res Bool} (h : PostB K mg u H σ W Q (x.bind k)) :
    PostA K mg u H σ W (fun vs H1 => ∃ u1 μ1 ds, Grow u u1 ∧ Ext H H1 ∧ HRep K u1 H1 μ1 ∧ RepL K u1 H1 ds vs ∧ x = .ok ds μ1 ∧ PostB K mg u1 H1 σ W Q (k ds μ1)) x := PostA.bind (α := Bool) (β := Bool) (k := k) h
theorem PostL.bindE {Q : VK} {x : Res (List D)} {k : (List D) → Mem → Res D} (h : PostE K mg u H σ W Q (x.bind k)) :
    PostL K mg u H σ W (fun v H1 => ∃ u1 μ1 ds a xs, Grow u u1 ∧ Ext H H1 ∧ HRep K u1 H1 μ1 ∧ v = .ref a ∧ H1 a = some (.lst xs) ∧ a ∉ u1 ∧ RepL K u1 H1 ds xs ∧ x = .ok ds μ1 ∧ PostE K mg u1 H1 σ W Q (k ds μ1)) x := PostL.bind (α := D) (β := V) (k := k) h
theorem PostL.bindA {Q : List V → Hp → Prop} {x : Res (List D)} {k : (List D) → Mem → Res (List D)} (h : PostA K mg u H σ W Q (x.bind k)) :
    PostL K mg u H σ W (fun v H1 => ∃ u1 μ1 ds a xs, Grow u u1 ∧ Ext H H1 ∧ HRep K u1 H1 μ1 ∧ v = .ref a ∧ H1 a = some (.lst xs) ∧ a ∉ u1 ∧ RepL K u1 H1 ds xs ∧ x = .ok ds μ1 ∧ PostA K mg u1 H1 σ W Q (k ds μ1)) x := PostL.bind (α := (List D)) (β := (List V)) (k := k) h
theorem PostL.bindB {Q : Bool → Hp → Prop} {x : Res (List D)} {k : (List D) → Mem → Res Bool} (h : PostB K mg u H σ W Q (x.bind k)) :
    PostL K mg u H σ W (fun v H1 => ∃ u1 μ1 ds a xs, Grow u u1 ∧ Ext H H1 ∧ HRep K u1 H1 μ1 ∧ v = .ref a ∧ H1 a = some (.lst xs) ∧ a ∉ u1 ∧ RepL K u1 H1 ds xs ∧ x = .ok ds μ1 ∧ PostB K mg u1 H1 σ W Q (k ds μ1)) x := PostL.bind (α := Bool) (β := Bool) (k := k) h
theorem PostB.bindE {Q : VK} {x : Res Bool} {k : Bool → Mem → Res D} (h : PostE K mg u H σ W Q (x.bind k)) :
    PostB K mg u H σ W (fun b H1 => ∃ u1 μ1, Grow u u1 ∧ Ext H H1 ∧ HRep K u1 H1 μ1 ∧ x = .ok b μ1 ∧ PostE K mg u1 H1 σ W Q (k b μ1)) x := PostB.bind (α := D) (β := V) (k := k) h
theorem PostB.bindA {Q : List V → Hp → Prop} {x : Res Bool} {k : Bool → Mem → Res (List D)} (h : PostA K mg u H σ W Q (x.bind k)) :
    PostB K mg u H σ W (fun b H1 => ∃ u1 μ1, Grow u u1 ∧ Ext H H1 ∧ HRep K u1 H1 μ1 ∧ x = .ok b μ1 ∧ PostA K mg u1 H1 σ W Q (k b μ1)) x := PostB.bind (α := (List D)) (β := (List V)) (k := k) h
theorem PostB.bindB {Q : Bool → Hp → Prop} {x : Res Bool} {k : Bool → Mem → Res Bool} (h : PostB K mg u H σ W Q (x.bind k)) :
    PostB K mg u H σ W (fun b H1 => ∃ u1 μ1, Grow u u1 ∧ Ext H H1 ∧ HRep K u1 H1 μ1 ∧ x = .ok b μ1 ∧ PostB K mg u1 H1 σ W Q (k b μ1)) x := PostB.bind (α := Bool) (β := Bool) (k := k) h
end

/-! ### the judgements -/
structure ME (X : Cx) (e : Expr) (m : EM) : Prop where
  run : ∀ W, Takes X W → PE X e (tE X.K X.mg W m)
structure LE (X : Cx) (e : Expr) (m : LM) : Prop where
  run : ∀ W, Takes X W → PE X e (tL X.K X.mg W m)
structure MT (X : Cx) (e : Expr) (m : TM) : Prop where
  run : ∀ W, Takes X W → PT X e (tT X.K X.mg W m)
structure MW (X : Cx) (e : Expr) (m : TM) : Prop where
  run : ∀ W, Takes X W → PW X e (tT X.K X.mg W m)
structure MA (X : Cx) (es : List Expr) (m : LM) : Prop where
  run : ∀ W, Takes X W → PA X es (tA X.K X.mg W m)
theorem PE.weak {X : Cx} {e : Expr} {t t' : TE} (h : PE X e t) (w : ∀ σ H Q, t' σ H Q → t σ H Q) : PE X e t' := ⟨fun pins s σ H Q I q => h.run pins s σ H Q I (w σ H Q q)⟩
theorem PT.weak {X : Cx} {e : Expr} {t t' : TT} (h : PT X e t) (w : ∀ σ H Q, t' σ H Q → t σ H Q) : PT X e t' := ⟨fun pins s σ H Q I q => h.run pins s σ H Q I (w σ H Q q)⟩
theorem PW.weak {X : Cx} {e : Expr} {t t' : TT} (h : PW X e t) (w : ∀ σ H Q, t' σ H Q → t σ H Q) : PW X e t' := ⟨fun wh pins s σ H Q I q => h.run wh pins s σ H Q I (w σ H Q q)⟩
theorem PA.weak {X : Cx} {e : List Expr} {t t' : TA} (h : PA X e t) (w : ∀ σ H Q, t' σ H Q → t σ H Q) : PA X e t' := ⟨fun pos pins s σ H Q I q => h.run pos pins s σ H Q I (w σ H Q q)⟩
theorem PS.weak {X : Cx} {e : Stmt} {t t' : TS} (h : PS X e t) (w : ∀ D σ H, t' D σ H → t D σ H) : PS X e t' := ⟨fun pins s σ H D I q => h.run pins s σ H D I (w D σ H q)⟩
theorem PSs.weak {X : Cx} {e : List Stmt} {t t' : TS} (h : PSs X e t) (w : ∀ D σ H, t' D σ H → t D σ H) : PSs X e t' := ⟨fun pins s σ H D I q => h.run pins s σ H D I (w D σ H q)⟩

/-- a value -/
def PostE.now {K : PySem.W.Frag} {mg : Str → Option Value} {u : List Addr} {H : Hp} {σ : L2.St} {W : WX} {Q : VK} {d : D} {m : Mem} {v : V} (h : PostE K mg u H σ W Q (.ok d m)) (hm : HRep K u H m) (r : Rep K u H d v) : Q v H :=
  h u H v (Grow.refl u) (Ext.refl H) hm r

section
variable {X : Cx} {a b c : Expr} {ma mb mc : EM} {pos : Pos}
/-! ### names, constants -/
def mVar (i : Nat) : EM := fun r μ => match r[i]? with
  | some (some d) => .ok d μ
  | _ => .stuck
theorem me_var {i : Nat} {x : Str} (hN : X.N[i]? = some x) (hv : Vis X.env.scope x) (hd : (x == ("__debug__" : Str)) = false := by decide) (hcd : (x == ("__classdict__" : Str)) = false := by decide) : ME X (.Name x pos) (mVar i) := by
  refine ⟨fun W tk => PE.weak (pe_var hN hv hd hcd) fun σ H Q h => ?_⟩
  obtain ⟨u, r, μ, h1, h2, h3⟩ := h
  unfold mVar at h3
  cases e : r[i]? with
  | none => rw [e] at h3; exact h3.elim
  | some o =>
    cases o with
    | none => rw [e] at h3; exact h3.elim
    | some d =>
      rw [e] at h3
      obtain ⟨v, q1, q2⟩ := h2.2 i d e
      exact ⟨v, q1, h3.now h1 q2⟩
def mC (d : D) : EM := fun _ μ => .ok d μ
theorem me_const {e : Expr} {d : D} {v : V} (h : PE X e (tC v)) (q : ∀ u H, Rep X.K u H d v) : ME X e (mC d) := by
  refine ⟨fun W tk => PE.weak h fun σ H Q h => ?_⟩
  obtain ⟨u, r, μ, h1, h2, h3⟩ := h
  exact h3.now h1 (q _ _)
theorem me_int {i j} : ME X (.Constant (.int i) j pos) (mC (.int i)) := me_const pe_int fun _ _ => rfl
theorem me_bl {i j} : ME X (.Constant (.bool i) j pos) (mC (.bl i)) := me_const pe_bl fun _ _ => rfl
theorem me_non {j} : ME X (.Constant .none j pos) (mC .non) := me_const pe_non fun _ _ => rfl
theorem me_str {i j} : ME X (.Constant (.str i) j pos) (mC (.str i)) := me_const pe_str fun _ _ => rfl
theorem me_glob {x : Str} {d : D} {v : V} {w : Value} (hg : Gl X x) (hm : X.mg x = some w) (r : RelV v w) (q : ∀ u H, Rep X.K u H d v) (hd : (x == ("__debug__" : Str)) = false := by decide) : ME X (.Name x pos) (mC d) :=
  me_const (pe_glob hg hm r hd) q
theorem me_globI {x : Str} {i : Int} (hg : Gl X x) (hm : ∃ t, X.mg x = some (.int i t)) (hd : (x == ("__debug__" : Str)) = false := by decide) : ME X (.Name x pos) (mC (.int i)) := by
  obtain ⟨t, e⟩ := hm
  exact me_glob (v := .int i) hg e ⟨t, rfl⟩ (fun _ _ => rfl) hd
theorem me_globS {x : Str} {i : Str} (hg : Gl X x) (hm : ∃ t, X.mg x = some (.str i t)) (hd : (x == ("__debug__" : Str)) = false := by decide) : ME X (.Name x pos) (mC (.str i)) := by
  obtain ⟨t, e⟩ := hm
  exact me_glob (v := .str i) hg e ⟨t, rfl⟩ (fun _ _ => rfl) hd

/-! ### operations on values -/
def OpM (X : Cx) (f : Value → Value → Sem Value) (g : D → D → Mem → Res D) : Prop :=
  ∀ (W : WX) (pins : List (Addr × Obj)) (s : Shared) (σ : L2.St) (H : Hp) (x y : V) (v w : Value) (Q : VK) (u : List Addr) (dx dy : D) (m : Mem), Takes X W → Inv X pins σ H s → RelV x v → RelV y w → HRep X.K u H m → Rep X.K u H dx x → Rep X.K u H dy y →
    PostE X.K X.mg u H σ W Q (g dx dy m) → wpAny (model X.prog X.w) X.A (f v w) (EP X pins σ Q) X.xe s
def UnM (X : Cx) (f : Value → Sem Value) (g : D → Mem → Res D) : Prop :=
  ∀ (W : WX) (pins : List (Addr × Obj)) (s : Shared) (σ : L2.St) (H : Hp) (x : V) (v : Value) (Q : VK) (u : List Addr) (dx : D) (m : Mem), Takes X W → Inv X pins σ H s → RelV x v → HRep X.K u H m → Rep X.K u H dx x →
    PostE X.K X.mg u H σ W Q (g dx m) → wpAny (model X.prog X.w) X.A (f v) (EP X pins σ Q) X.xe s
def CallM (X : Cx) (f : Value) (g : List D → Mem → Res D) : Prop :=
  ∀ (W : WX) (pins : List (Addr × Obj)) (s : Shared) (σ : L2.St) (H : Hp) (xs : List V) (vs : List Value) (Q : VK) (u : List Addr) (ds : List D) (m : Mem), Takes X W → Inv X pins σ H s → Vals xs vs → HRep X.K u H m → RepL X.K u H ds xs →
    PostE X.K X.mg u H σ W Q (g ds m) → wpAny (model X.prog X.w) X.A (call f vs) (EP X pins σ Q) X.xe s
def m1 (g : D → Mem → Res D) (ma : EM) : EM := fun r μ => (ma r μ).bind g
def m2 (g : D → D → Mem → Res D) (ma mb : EM) : EM := fun r μ => (ma r μ).bind fun x μ1 => (mb r μ1).bind fun y μ2 => g x y μ2
/-- two expressions in a row -/
theorem run2 {W : WX} {pins : List (Addr × Obj)} {s : Shared} {H : Hp} {g : D → D → Mem → Res D} {σ : L2.St} {Q : VK} (tk : Takes X W) (ha : ME X a ma) (hb : ME X b mb) (I : Inv X pins σ H s) (h : tE X.K X.mg W (m2 g ma mb) σ H Q)
    {R : Value → Shared → Prop} {f : Value → Value → Sem Value}
    (hf : ∀ v w s2 x y H2 u2 dx dy μ2, Inv X pins σ H2 s2 → RelV x v → RelV y w → HRep X.K u2 H2 μ2 → Rep X.K u2 H2 dx x → Rep X.K u2 H2 dy y → PostE X.K X.mg u2 H2 σ W Q (g dx dy μ2) → wpAny (model X.prog X.w) X.A (f v w) R X.xe s2) :
    wpAny (model X.prog X.w) X.A (eval a X.env) (fun v s₁ => wpAny (model X.prog X.w) X.A (eval b X.env) (fun u s₂ => wpAny (model X.prog X.w) X.A (f v u) R X.xe s₂) X.xe s₁) X.xe s := by
  obtain ⟨u, r, μ, h1, h2, h3⟩ := h
  have h3' : PostE X.K X.mg u H σ W Q ((ma r μ).bind fun x μ1 => (mb r μ1).bind fun y μ2 => g x y μ2) := h3
  refine thn ((ha.run W tk).run pins s σ H _ I ⟨u, r, μ, h1, h2, PostE.bindE h3'⟩) fun v s1 ⟨x, H1, I1, r1, u1, μ1, dx, g1, e1, k1, p1, _, q1⟩ => ?_
  have q1' : PostE X.K X.mg u1 H1 σ W Q ((mb r μ1).bind fun y μ2 => g dx y μ2) := q1
  refine thn ((hb.run W tk).run pins s1 σ H1 _ I1 ⟨u1, r, μ1, k1, h2.mono g1 e1, PostE.bindE q1'⟩) fun w s2 ⟨y, H2, I2, r2, u2, μ2, dy, g2, e2, k2, p2, _, q2⟩ => ?_
  exact hf v w s2 x y H2 u2 dx dy μ2 I2 r1 r2 k2 (Rep.mono g2 e2 dx p1) p2 q2
theorem me_op {op : Operator} {g : D → D → Mem → Res D} (ho : OpM X (binaryOp op) g) (ha : ME X a ma) (hb : ME X b mb) : ME X (.BinOp a op b pos) (m2 g ma mb) := by
  refine ⟨fun W tk => ⟨fun pins s σ H Q I h => ?_⟩⟩
  exact wpAny_BinOp (run2 tk ha hb I h fun v w s2 x y H2 u2 dx dy μ2 I2 rx ry k px py q => ho W pins s2 σ H2 x y v w Q u2 dx dy μ2 tk I2 rx ry k px py q)
theorem me_un {op : UnaryOp} {g : D → Mem → Res D} (ho : UnM X (unaryOp op) g) (ha : ME X a ma) : ME X (.UnaryOp op a pos) (m1 g ma) := by
  refine ⟨fun W tk => ⟨fun pins s σ H Q I h => ?_⟩⟩
  obtain ⟨u, r, μ, h1, h2, h3⟩ := h
  have h3' : PostE X.K X.mg u H σ W Q ((ma r μ).bind g) := h3
  exact UnaryOp_ (thn ((ha.run W tk).run pins s σ H _ I ⟨u, r, μ, h1, h2, PostE.bindE h3'⟩) fun v s1 ⟨x, H1, I1, r1, u1, μ1, dx, g1, e1, k1, p1, _, q1⟩ => ho W pins s1 σ H1 x v Q u1 dx μ1 tk I1 r1 k1 p1 q1)
theorem me_cmp {op : CmpOp} {g : D → D → Mem → Res D} (ho : OpM X (compareOp op) g) (ha : ME X a ma) (hb : ME X b mb) (hm : behindInMarks op b = false) : ME X (.Compare a [op] [b] pos) (m2 g ma mb) := by
  refine ⟨fun W tk => ⟨fun pins s σ H Q I h => ?_⟩⟩
  exact wpAny_Compare1 (run2 tk ha hb I h fun v w s2 x y H2 u2 dx dy μ2 I2 rx ry k px py q => ho W pins s2 σ H2 x y v w Q u2 dx dy μ2 tk I2 rx ry k px py q) hm

/-! ### tests -/
/-- a value as a truth, where it is one of the two -/
def asB (x : D) (μ : Mem) : Res Bool := match x with
  | .bl b => .ok b μ
  | _ => .stuck
def tOf (ma : EM) : TM := fun r μ => (ma r μ).bind asB
theorem mt_val {e : Expr} {m : EM} (h : ME X e m) (he : ∀ whole, isTrue e X.env whole = (do let v ← whole; standAt e.pos; holding [v] (truthy v)) := by intro _; rfl) : MT X e (tOf m) := by
  refine ⟨fun W tk => PT.weak (pt_val (h.run W tk) he) fun σ H Q q => ?_⟩
  obtain ⟨u, r, μ, h1, h2, h3⟩ := q
  have h3' : PostB X.K X.mg u H σ W Q ((m r μ).bind asB) := h3
  refine ⟨u, r, μ, h1, h2, ?_⟩
  have z := PostE.bindB h3'
  cases e : m r μ with
  | stuck => rw [e] at z; exact z
  | exc c p m => rw [e] at z; exact z
  | ok d m =>
    rw [e] at z
    intro u' H' v a b c q
    obtain ⟨u1, μ1, d1, g1, e1, k1, p1, eq, q1⟩ := z u' H' v a b c q
    cases eq
    cases d with
    | bl k =>
      have pv : v = V.bl k := q
      exact ⟨k, pv, q1 u1 H' (Grow.refl _) (Ext.refl _) k1⟩
    | _ => exact q1.elim
theorem mt_cmp {op : CmpOp} {g : D → D → Mem → Res D} (ho : OpM X (compareOp op) g) (ha : ME X a ma) (hb : ME X b mb) (hm : behindInMarks op b = false) : MT X (.Compare a [op] [b] pos) (tOf (m2 g ma mb)) := by
  refine ⟨fun W tk => ⟨fun pins s σ H Q I h => ?_⟩⟩
  obtain ⟨u, r, μ, h1, h2, h3⟩ := h
  have h3' : PostB X.K X.mg u H σ W Q ((m2 g ma mb r μ).bind asB) := h3
  refine wpAny_isTrue_Compare1 (run2 (Q := fun x H' => ∃ k, x = V.bl k ∧ Q k H') tk ha hb I ⟨u, r, μ, h1, h2, ?_⟩ fun v w s2 x y H2 u2 dx dy μ2 I2 rx ry k px py q =>
    thn (ho W pins s2 σ H2 x y v w _ u2 dx dy μ2 tk I2 rx ry k px py q) fun z s3 ⟨zv, H3, I3, rz, kk, ez, q3⟩ => ?_) hm
  · have z := PostE.bindB h3'
    cases e : m2 g ma mb r μ with
    | stuck => rw [e] at z; exact z
    | exc c p m => rw [e] at z; exact z
    | ok d m =>
      rw [e] at z
      intro u' H' v a b c q
      obtain ⟨u1, μ1, d1, g1, e1, k1, p1, eq, q1⟩ := z u' H' v a b c q
      cases eq
      cases d with
      | bl k => exact ⟨k, q, q1 u1 H' (Grow.refl _) (Ext.refl _) k1⟩
      | _ => exact q1.elim
  · subst ez
    have e : z = Value.bool kk := rz
    subst e
    exact wpAny_truthy_bool ⟨H3, I3, q3⟩
def tAndM (ta tb : TM) : TM := fun r μ => (ta r μ).bind fun k μ1 => if k then tb r μ1 else .ok false μ1
def tOrM (ta tb : TM) : TM := fun r μ => (ta r μ).bind fun k μ1 => if k then .ok true μ1 else tb r μ1
def tNotM (ta : TM) : TM := fun r μ => (ta r μ).map (!·)
theorem MW.mt {e : Expr} {t : TM} (h : MW X e t) : MT X e t := ⟨fun W tk => (h.run W tk).pt⟩
theorem mw_and1 {t : TM} (h : MT X a t) : MW X (.BoolOp .And [a] pos) t := ⟨fun W tk => pw_and1 (h.run W tk)⟩
theorem mw_or1 {t : TM} (h : MT X a t) : MW X (.BoolOp .Or [a] pos) t := ⟨fun W tk => pw_or1 (h.run W tk)⟩
theorem mw_and {ta tb : TM} {rest : List Expr} (ha : MT X a ta) (hb : MW X (.BoolOp .And (b :: rest) pos) tb) : MW X (.BoolOp .And (a :: b :: rest) pos) (tAndM ta tb) := by
  refine ⟨fun W tk => PW.weak (pw_and (ha.run W tk) (hb.run W tk)) fun σ H Q h => ?_⟩
  obtain ⟨u, r, μ, h1, h2, h3⟩ := h
  have h3' : PostB X.K X.mg u H σ W Q ((ta r μ).bind fun k μ1 => if k then tb r μ1 else .ok false μ1) := h3
  refine ⟨u, r, μ, h1, h2, ?_⟩
  have z := PostB.bindB h3'
  cases e : ta r μ with
  | stuck => rw [e] at z; exact z
  | exc c p m => rw [e] at z; exact z
  | ok k m =>
    rw [e] at z
    intro u' H' a b c
    obtain ⟨u1, μ1, g1, e1, k1, eq, q1⟩ := z u' H' a b c
    cases eq
    cases k with
    | true => exact ⟨u1, r, m, k1, h2.mono g1 e1, q1⟩
    | false => exact q1 u1 H' (Grow.refl _) (Ext.refl _) k1
theorem mw_or {ta tb : TM} {rest : List Expr} (ha : MT X a ta) (hb : MW X (.BoolOp .Or (b :: rest) pos) tb) : MW X (.BoolOp .Or (a :: b :: rest) pos) (tOrM ta tb) := by
  refine ⟨fun W tk => PW.weak (pw_or (ha.run W tk) (hb.run W tk)) fun σ H Q h => ?_⟩
  obtain ⟨u, r, μ, h1, h2, h3⟩ := h
  have h3' : PostB X.K X.mg u H σ W Q ((ta r μ).bind fun k μ1 => if k then .ok true μ1 else tb r μ1) := h3
  refine ⟨u, r, μ, h1, h2, ?_⟩
  have z := PostB.bindB h3'
  cases e : ta r μ with
  | stuck => rw [e] at z; exact z
  | exc c p m => rw [e] at z; exact z
  | ok k m =>
    rw [e] at z
    intro u' H' a b c
    obtain ⟨u1, μ1, g1, e1, k1, eq, q1⟩ := z u' H' a b c
    cases eq
    cases k with
    | false => exact ⟨u1, r, m, k1, h2.mono g1 e1, q1⟩
    | true => exact q1 u1 H' (Grow.refl _) (Ext.refl _) k1
theorem mt_not {ta : TM} (ha : MT X a ta) : MT X (.UnaryOp .Not a pos) (tNotM ta) := by
  refine ⟨fun W tk => PT.weak (pt_not (ha.run W tk)) fun σ H Q h => ?_⟩
  obtain ⟨u, r, μ, h1, h2, h3⟩ := h
  refine ⟨u, r, μ, h1, h2, ?_⟩
  unfold tNotM at h3
  cases e : ta r μ with
  | stuck => rw [e] at h3; exact h3
  | exc c p m => rw [e] at h3; exact h3
  | ok k m => rw [e] at h3; exact h3
/-! ### and, or, not, the conditional as values -/
def mAndM (ma mb : EM) : EM := fun r μ => (ma r μ).bind fun x μ1 => match x with
  | .bl true => mb r μ1
  | .bl false => .ok (.bl false) μ1
  | _ => .stuck
def mOrM (ma mb : EM) : EM := fun r μ => (ma r μ).bind fun x μ1 => match x with
  | .bl false => mb r μ1
  | .bl true => .ok (.bl true) μ1
  | _ => .stuck
def gNot : D → Mem → Res D := fun x μ => match x with
  | .bl b => .ok (.bl (!b)) μ
  | _ => .stuck
theorem me_one {op} (h : ME X a ma) : ME X (.BoolOp op [a] pos) ma := ⟨fun W tk => pe_one (h.run W tk)⟩
theorem me_and {rest : List Expr} (ha : ME X a ma) (hb : ME X (.BoolOp .And (b :: rest) pos) mb) : ME X (.BoolOp .And (a :: b :: rest) pos) (mAndM ma mb) := by
  refine ⟨fun W tk => PE.weak (pe_and (ha.run W tk) (hb.run W tk)) fun σ H Q h => ?_⟩
  obtain ⟨u, r, μ, h1, h2, h3⟩ := h
  have h3' : PostE X.K X.mg u H σ W Q ((ma r μ).bind fun x μ1 => match x with | .bl true => mb r μ1 | .bl false => .ok (.bl false) μ1 | _ => .stuck) := h3
  refine ⟨u, r, μ, h1, h2, ?_⟩
  have z := PostE.bindE h3'
  cases e : ma r μ with
  | stuck => rw [e] at z; exact z
  | exc c p m => rw [e] at z; exact z
  | ok d m =>
    rw [e] at z
    intro u' H' v a b c q
    obtain ⟨u1, μ1, d1, g1, e1, k1, p1, eq, q1⟩ := z u' H' v a b c q
    cases eq
    cases d with
    | bl k =>
      refine ⟨k, q, ?_⟩
      cases k with
      | true => exact ⟨u1, r, m, k1, h2.mono g1 e1, q1⟩
      | false => exact q1 u1 H' _ (Grow.refl _) (Ext.refl _) k1 rfl
    | _ => exact q1.elim
theorem me_or {rest : List Expr} (ha : ME X a ma) (hb : ME X (.BoolOp .Or (b :: rest) pos) mb) : ME X (.BoolOp .Or (a :: b :: rest) pos) (mOrM ma mb) := by
  refine ⟨fun W tk => PE.weak (pe_or (ha.run W tk) (hb.run W tk)) fun σ H Q h => ?_⟩
  obtain ⟨u, r, μ, h1, h2, h3⟩ := h
  have h3' : PostE X.K X.mg u H σ W Q ((ma r μ).bind fun x μ1 => match x with | .bl false => mb r μ1 | .bl true => .ok (.bl true) μ1 | _ => .stuck) := h3
  refine ⟨u, r, μ, h1, h2, ?_⟩
  have z := PostE.bindE h3'
  cases e : ma r μ with
  | stuck => rw [e] at z; exact z
  | exc c p m => rw [e] at z; exact z
  | ok d m =>
    rw [e] at z
    intro u' H' v a b c q
    obtain ⟨u1, μ1, d1, g1, e1, k1, p1, eq, q1⟩ := z u' H' v a b c q
    cases eq
    cases d with
    | bl k =>
      refine ⟨k, q, ?_⟩
      cases k with
      | false => exact ⟨u1, r, m, k1, h2.mono g1 e1, q1⟩
      | true => exact q1 u1 H' _ (Grow.refl _) (Ext.refl _) k1 rfl
    | _ => exact q1.elim
theorem me_not (ha : ME X a ma) : ME X (.UnaryOp .Not a pos) (m1 gNot ma) := by
  refine ⟨fun W tk => PE.weak (pe_not (ha.run W tk)) fun σ H Q h => ?_⟩
  obtain ⟨u, r, μ, h1, h2, h3⟩ := h
  have h3' : PostE X.K X.mg u H σ W Q ((ma r μ).bind gNot) := h3
  refine ⟨u, r, μ, h1, h2, ?_⟩
  have z := PostE.bindE h3'
  cases e : ma r μ with
  | stuck => rw [e] at z; exact z
  | exc c p m => rw [e] at z; exact z
  | ok d m =>
    rw [e] at z
    intro u' H' v a b c q
    obtain ⟨u1, μ1, d1, g1, e1, k1, p1, eq, q1⟩ := z u' H' v a b c q
    cases eq
    cases d with
    | bl k => exact ⟨k, q, q1 u1 H' _ (Grow.refl _) (Ext.refl _) k1 rfl⟩
    | _ => exact q1.elim
def mIf (t : TM) (ma mb : EM) : EM := fun r μ => (t r μ).bind fun k μ1 => if k then ma r μ1 else mb r μ1
theorem me_if {t : TM} (hc : MT X c t) (ha : ME X a ma) (hb : ME X b mb) : ME X (.IfExp c a b pos) (mIf t ma mb) := by
  refine ⟨fun W tk => PE.weak (pe_ifExp (hc.run W tk) (ha.run W tk) (hb.run W tk)) fun σ H Q h => ?_⟩
  obtain ⟨u, r, μ, h1, h2, h3⟩ := h
  have h3' : PostE X.K X.mg u H σ W Q ((t r μ).bind fun k μ1 => if k then ma r μ1 else mb r μ1) := h3
  refine ⟨u, r, μ, h1, h2, ?_⟩
  have z := PostB.bindE h3'
  cases e : t r μ with
  | stuck => rw [e] at z; exact z
  | exc c p m => rw [e] at z; exact z
  | ok k m =>
    rw [e] at z
    intro u' H' a b c
    obtain ⟨u1, μ1, g1, e1, k1, eq, q1⟩ := z u' H' a b c
    cases eq
    cases k with
    | true => exact ⟨u1, r, m, k1, h2.mono g1 e1, q1⟩
    | false => exact ⟨u1, r, m, k1, h2.mono g1 e1, q1⟩

/-! ### arguments, displays -/
def aNil : LM := fun _ μ => .ok [] μ
def aCons (m : EM) (ms : LM) : LM := fun r μ => (m r μ).bind fun d μ1 => (ms r μ1).bind fun ds μ2 => .ok (d :: ds) μ2
theorem ma_nil : MA X [] aNil := by
  refine ⟨fun W tk => PA.weak pa_nil fun σ H Q h => ?_⟩
  obtain ⟨u, r, μ, h1, h2, h3⟩ := h
  exact h3 u H [] (Grow.refl _) (Ext.refl _) h1 rfl
theorem ma_cons {e : Expr} {es : List Expr} {m : EM} {ms : LM} (ha : ME X e m) (hr : MA X es ms) (hs : starEach (e :: es) X.env = (false, eval e X.env) :: starEach es X.env := by rfl) : MA X (e :: es) (aCons m ms) := by
  refine ⟨fun W tk => PA.weak (pa_cons (ha.run W tk) (hr.run W tk) hs) fun σ H Q h => ?_⟩
  obtain ⟨u, r, μ, h1, h2, h3⟩ := h
  have h3' : PostA X.K X.mg u H σ W Q ((m r μ).bind fun d μ1 => (ms r μ1).bind fun ds μ2 => .ok (d :: ds) μ2) := h3
  refine ⟨u, r, μ, h1, h2, ?_⟩
  have z := PostE.bindA h3'
  cases e : m r μ with
  | stuck => rw [e] at z; exact z
  | exc c p m => rw [e] at z; exact z
  | ok d m =>
    rw [e] at z
    intro u' H' v a b c q
    obtain ⟨u1, μ1, d1, g1, e1, k1, p1, eq, q1⟩ := z u' H' v a b c q
    cases eq
    refine ⟨u1, r, m, k1, h2.mono g1 e1, ?_⟩
    have z2 := PostA.bindA q1
    cases e2 : ms r m with
    | stuck => rw [e2] at z2; exact z2
    | exc c p m => rw [e2] at z2; exact z2
    | ok ds m2 =>
      rw [e2] at z2
      intro u2 H2 vs a2 b2 c2 q2
      obtain ⟨u3, μ3, ds3, g3, e3, k3, p3, eq3, q3⟩ := z2 u2 H2 vs a2 b2 c2 q2
      cases eq3
      exact q3 u3 H2 (v :: vs) (Grow.refl _) (Ext.refl _) k3 ⟨v, vs, rfl, Rep.mono g3 e3 _ p1, p3⟩
def mTup (ms : LM) : EM := fun r μ => (ms r μ).bind fun ds μ1 => if ds.length ≤ sizeLine then .ok (.tup ds) μ1 else .stuck
theorem me_tup {es : List Expr} {ms : LM} {x1} (h : MA X es ms) : ME X (.Tuple es x1 pos) (mTup ms) := by
  refine ⟨fun W tk => PE.weak (pe_tup (h.run W tk)) fun σ H Q h => ?_⟩
  obtain ⟨u, r, μ, h1, h2, h3⟩ := h
  have h3' : PostE X.K X.mg u H σ W Q ((ms r μ).bind fun ds μ1 => if ds.length ≤ sizeLine then .ok (.tup ds) μ1 else .stuck) := h3
  refine ⟨u, r, μ, h1, h2, ?_⟩
  have z := PostA.bindE h3'
  cases e : ms r μ with
  | stuck => rw [e] at z; exact z
  | exc c p m => rw [e] at z; exact z
  | ok ds m =>
    rw [e] at z
    intro u' H' vs a b c q
    obtain ⟨u1, μ1, d1, g1, e1, k1, p1, eq, q1⟩ := z u' H' vs a b c q
    cases eq
    by_cases hl : ds.length ≤ sizeLine
    · rw [if_pos hl] at q1
      refine ⟨by rw [p1.length]; exact hl, fun p hp => ?_⟩
      exact q1 u1 _ _ (Grow.refl _) (Ext.new hp) (k1.new hp) ⟨p, vs, rfl, upd_same, RepL.mono (Grow.refl _) (Ext.new hp) ds p1⟩
    · rw [if_neg hl] at q1
      exact q1.elim
/-- a written list -/
def mLst (ms : LM) : LM := fun r μ => (ms r μ).bind fun ds μ1 => if ds.length ≤ sizeLine then .ok ds μ1 else .stuck
theorem le_lst {es : List Expr} {ms : LM} (h : MA X es ms) : LE X (.List es pos) (mLst ms) := by
  refine ⟨fun W tk => PE.weak (pe_lst (h.run W tk)) fun σ H Q h => ?_⟩
  obtain ⟨u, r, μ, h1, h2, h3⟩ := h
  refine ⟨u, r, μ, h1, h2, ?_⟩
  unfold mLst at h3
  cases e : ms r μ with
  | stuck => rw [e] at h3; exact h3
  | exc c p m => rw [e] at h3; exact h3
  | ok ds m =>
    rw [e, Res.bind_ok] at h3
    intro u' H' vs a b c q
    by_cases hl : ds.length ≤ sizeLine
    · rw [if_pos hl] at h3
      refine ⟨by rw [q.length]; exact hl, fun p hp => ?_⟩
      exact h3 u' _ p vs a (b.trans (Ext.new hp)) (c.new hp) upd_same (c.nu hp) (RepL.mono (Grow.refl _) (Ext.new hp) ds q)
    · rw [if_neg hl] at h3
      exact h3.elim
/-- a new list as a cell -/
def mAlloc (ms : LM) : EM := fun r μ => (ms r μ).bind fun ds μ1 => .ok (.obj μ1.length) (μ1 ++ [.lst ds])
theorem me_of_le {e : Expr} {ms : LM} (h : LE X e ms) : ME X e (mAlloc ms) := by
  refine ⟨fun W tk => PE.weak (h.run W tk) fun σ H Q h => ?_⟩
  obtain ⟨u, r, μ, h1, h2, h3⟩ := h
  refine ⟨u, r, μ, h1, h2, ?_⟩
  unfold mAlloc at h3
  cases e : ms r μ with
  | stuck => rw [e] at h3; exact h3
  | exc c p m => rw [e] at h3; exact h3
  | ok ds m =>
    rw [e, Res.bind_ok] at h3
    intro u' H' a xs g b c z1 z2 z3
    have hg : Grow u' (u' ++ [a]) := ⟨[a], rfl⟩
    refine h3 (u' ++ [a]) H' (.ref a) (g.trans hg) b (c.adopt z2 (by rw [z1]; exact fun q => nomatch q) ⟨_, z1, ?_⟩) ⟨a, rfl, ?_⟩
    · exact RepL.mono hg (Ext.refl _) ds z3
    · rw [← c.len, List.getElem?_append_right (Nat.le_refl _)]
      simp
end
end T
end
section
set_option Elab.async false
set_option linter.all false
set_option maxRecDepth 100000
/-! T3: operators and comparisons. -/
namespace T
open PySem PySem.Spec PyProof.Rows L2

section
variable {X : Cx}
theorem opM_of {f : Value → Value → Sem Value} {g : D → D → Mem → Res D} {r : R2} (ho : OpR X f r)
    (h : ∀ W σ H x y u dx dy m Q, HRep X.K u H m → Rep X.K u H dx x → Rep X.K u H dy y → PostE X.K X.mg u H σ W Q (g dx dy m) → r x y H Q) : OpM X f g :=
  fun W pins s σ H x y v w Q u dx dy m _ I rx ry k px py q => ho pins s σ H x y v w Q I rx ry (h W σ H x y u dx dy m Q k px py q)
theorem unM_of {f : Value → Sem Value} {g : D → Mem → Res D} {r : V → Hp → VK → Prop} (ho : UnR X f r)
    (h : ∀ W σ H x u dx m Q, HRep X.K u H m → Rep X.K u H dx x → PostE X.K X.mg u H σ W Q (g dx m) → r x H Q) : UnM X f g :=
  fun W pins s σ H x v Q u dx m _ I rx k px q => ho pins s σ H x v Q I rx (h W σ H x u dx m Q k px q)
theorem OpM.or {f : Value → Value → Sem Value} {g1 g2 : D → D → Mem → Res D} (c : D → D → Bool) (h1 : OpM X f g1) (h2 : OpM X f g2) : OpM X f (fun x y m => if c x y then g1 x y m else g2 x y m) := by
  intro W pins s σ H x y v w Q u dx dy m tk I rx ry k px py q
  by_cases hc : c dx dy = true
  · simp only [hc, if_true] at q
    exact h1 W pins s σ H x y v w Q u dx dy m tk I rx ry k px py q
  · simp only [hc, Bool.false_eq_true, if_false] at q
    exact h2 W pins s σ H x y v w Q u dx dy m tk I rx ry k px py q

/-! ### + -/
def gAdd : D → D → Mem → Res D
  | .int i, .int j, m => .ok (.int (i + j)) m
  | .str a, .str b, m => if a.length + b.length ≤ sizeLine then .ok (.str (a ++ b)) m else .stuck
  | .tup a, .tup b, m => if a.length + b.length ≤ sizeLine then .ok (.tup (a ++ b)) m else .stuck
  | _, _, _ => .stuck
theorem om_add : OpM X (binaryOp .Add) gAdd := by
  intro W pins s σ H x y v w Q u dx dy m tk I rx ry k px py q
  cases dx with
  | int i =>
    cases dy with
    | int j =>
      have e1 : x = .int i := px
      have e2 : y = .int j := py
      subst e1 e2
      exact op_add pins s σ H _ _ v w Q I rx ry ⟨i, j, rfl, rfl, q.now k rfl⟩
    | _ => exact q.elim
  | str a =>
    cases dy with
    | str b =>
      have e1 : x = .str a := px
      have e2 : y = .str b := py
      subst e1 e2
      by_cases hl : a.length + b.length ≤ sizeLine
      · simp only [gAdd, if_pos hl] at q
        exact op_add_str pins s σ H _ _ v w Q I rx ry ⟨a, b, rfl, rfl, hl, q.now k rfl⟩
      · simp only [gAdd, if_neg hl] at q
        exact q.elim
    | _ => exact q.elim
  | tup a =>
    cases dy with
    | tup b =>
      obtain ⟨p1, xs, e1, h1, l1⟩ := px
      obtain ⟨p2, ys, e2, h2, l2⟩ := py
      subst e1 e2
      by_cases hl : a.length + b.length ≤ sizeLine
      · simp only [gAdd, if_pos hl] at q
        refine op_catA pins s σ H _ _ v w Q I rx ry ⟨p1, p2, xs, ys, rfl, rfl, SqT.of h1, SqT.of h2, by rw [l1.length, l2.length]; exact hl, fun z => ?_, fun _ z => ?_, fun _ _ p hp => ?_⟩
        · subst z
          refine q.now k ⟨p2, ys, rfl, h2, ?_⟩
          have z := l1.length
          cases a with
          | nil => exact l2
          | cons _ _ => simp at z
        · subst z
          refine q.now k ⟨p1, xs, rfl, h1, ?_⟩
          have z := l2.length
          cases b with
          | nil => rw [List.append_nil]; exact l1
          | cons _ _ => simp at z
        · exact q u _ _ (Grow.refl _) (Ext.new hp) (k.new hp) ⟨p, xs ++ ys, rfl, upd_same, RepL.mono (Grow.refl _) (Ext.new hp) _ (l1.append l2)⟩
      · simp only [gAdd, if_neg hl] at q
        exact q.elim
    | _ => exact q.elim
  | _ => cases dy <;> exact q.elim
def gSub : D → D → Mem → Res D
  | .int i, .int j, m => .ok (.int (i - j)) m
  | _, _, _ => .stuck
theorem int_int {K : PySem.W.Frag} {mg : Str → Option Value} {u : List Addr} {H : Hp} {σ : L2.St} {W : WX} {Q : VK} {dx dy : D} {m : Mem} {x y : V} {g : D → D → Mem → Res D} (px : Rep K u H dx x) (py : Rep K u H dy y)
    (h : PostE K mg u H σ W Q (g dx dy m)) (hg : ∀ a b, (∀ i j, ¬ (a = .int i ∧ b = .int j)) → g a b m = .stuck) : ∃ i j, dx = .int i ∧ dy = .int j ∧ x = .int i ∧ y = .int j := by
  by_cases c : ∃ i j, dx = .int i ∧ dy = .int j
  · obtain ⟨i, j, rfl, rfl⟩ := c
    exact ⟨i, j, rfl, rfl, px, py⟩
  · rw [hg dx dy fun i j z => c ⟨i, j, z⟩] at h
    exact h.elim
theorem om_int {f : Value → Value → Sem Value} {C : Int → Int → Prop} [∀ i j, Decidable (C i j)] {gi : Int → Int → D} {gv : Int → Int → V} {g : D → D → Mem → Res D} (ho : OpR X f (rI C gv)) (hr : ∀ i j u H, Rep X.K u H (gi i j) (gv i j))
    (h1 : ∀ i j m, g (.int i) (.int j) m = if C i j then .ok (gi i j) m else .stuck) (h2 : ∀ a b m, (∀ i j, ¬ (a = .int i ∧ b = .int j)) → g a b m = .stuck) : OpM X f g := by
  refine opM_of ho fun W σ H x y u dx dy m Q k px py q => ?_
  obtain ⟨i, j, rfl, rfl, rfl, rfl⟩ := int_int (g := g) px py q fun a b => h2 a b m
  rw [h1] at q
  by_cases c : C i j
  · rw [if_pos c] at q
    exact ⟨i, j, rfl, rfl, c, q.now k (hr i j u H)⟩
  · rw [if_neg c] at q
    exact q.elim
theorem om_int0 {f : Value → Value → Sem Value} {gi : Int → Int → D} {gv : Int → Int → V} {g : D → D → Mem → Res D} (ho : OpR X f (rI0 gv)) (hr : ∀ i j u H, Rep X.K u H (gi i j) (gv i j))
    (h1 : ∀ i j m, g (.int i) (.int j) m = .ok (gi i j) m) (h2 : ∀ a b m, (∀ i j, ¬ (a = .int i ∧ b = .int j)) → g a b m = .stuck) : OpM X f g := by
  refine opM_of ho fun W σ H x y u dx dy m Q k px py q => ?_
  obtain ⟨i, j, rfl, rfl, rfl, rfl⟩ := int_int (g := g) px py q fun a b => h2 a b m
  rw [h1] at q
  exact ⟨i, j, rfl, rfl, q.now k (hr i j u H)⟩
theorem om_sub : OpM X (binaryOp .Sub) gSub := by
  refine om_int0 op_sub (gi := fun i j => .int (i - j)) (fun _ _ _ _ => rfl) (fun _ _ _ => rfl) fun a b m h => ?_
  cases a <;> cases b <;> first | rfl | exact (h _ _ ⟨rfl, rfl⟩).elim
/-- the numbers' bits, for products and divisions of any size -/
def mulOk (i j : Int) : Bool := decide ((-(2 ^ 64) < i ∧ i < 2 ^ 64) ∨ (-(2 ^ 64) < j ∧ j < 2 ^ 64) ∨ i.natAbs.log2 + j.natAbs.log2 < 1000000)
theorem op_mulA : OpR X (binaryOp .Mult) (rI (fun i j => mulOk i j = true) fun i j => .int (i * j)) := opI fun i j _ _ _ _ _ hc q => by
  rcases of_decide_eq_true hc with h | h | h
  · exact mul_int q (CMul.ok (.inl h))
  · exact mul_int q (CMul.ok (.inr h))
  · exact mul_int q (CMulW.ok h)
def gMul : D → D → Mem → Res D
  | .int i, .int j, m => if mulOk i j = true then .ok (.int (i * j)) m else .stuck
  | .tup a, .int k, m => if a.length ≤ 1000 ∧ a ≠ [] ∧ 2 ≤ k ∧ k ≤ 1000 then .ok (.tup (List.replicate k.toNat a).flatten) m else .stuck
  | _, _, _ => .stuck
theorem repL_rep {K : PySem.W.Frag} {u : List Addr} {H : Hp} {ds : List D} {xs : List V} (h : RepL K u H ds xs) : ∀ n : Nat, RepL K u H (List.replicate n ds).flatten (List.replicate n xs).flatten
  | 0 => rfl
  | n + 1 => by
    rw [List.replicate_succ, List.replicate_succ, List.flatten_cons, List.flatten_cons]
    exact h.append (repL_rep h n)
theorem om_mul : OpM X (binaryOp .Mult) gMul := by
  intro W pins s σ H x y v w Q u dx dy m tk I rx ry k px py q
  cases dx with
  | int i =>
    cases dy with
    | int j =>
      have e1 : x = .int i := px
      have e2 : y = .int j := py
      subst e1 e2
      by_cases hl : mulOk i j = true
      · simp only [gMul, if_pos hl] at q
        exact op_mulA pins s σ H _ _ v w Q I rx ry ⟨i, j, rfl, rfl, hl, q.now k rfl⟩
      · simp only [gMul, if_neg hl] at q
        exact q.elim
    | _ => exact q.elim
  | tup a =>
    cases dy with
    | int n =>
      obtain ⟨p1, xs, e1, h1, l1⟩ := px
      have e2 : y = .int n := py
      subst e1 e2
      by_cases hl : a.length ≤ 1000 ∧ a ≠ [] ∧ 2 ≤ n ∧ n ≤ 1000
      · simp only [gMul, if_pos hl] at q
        refine op_repT pins s σ H _ _ v w Q I rx ry ⟨p1, n, xs, rfl, rfl, SqT.of h1, fun z => ?_, hl.2.2.1, hl.2.2.2, by rw [l1.length]; exact hl.1, fun p hp => ?_⟩
        · subst z
          have z := l1.length
          exact hl.2.1 (List.length_eq_zero_iff.mp z.symm)
        · exact q u _ _ (Grow.refl _) (Ext.new hp) (k.new hp) ⟨p, _, rfl, upd_same, RepL.mono (Grow.refl _) (Ext.new hp) _ (repL_rep l1 _)⟩
      · simp only [gMul, if_neg hl] at q
        exact q.elim
    | _ => exact q.elim
  | _ => cases dy <;> exact q.elim
/-! ### //, %, ** -/
def divOk (j : Int) : Bool := decide (j ≠ 0 ∧ j.natAbs.log2 < 9000)
theorem op_fdivA : OpR X (binaryOp .FloorDiv) (rI (fun _ j => divOk j = true) fun i j => .int (i.fdiv j)) := opI fun i j _ _ _ _ _ hc q => by
  have h := of_decide_eq_true hc
  exact floordiv_int h.1 q (.inl (PyProof.noPylong_of_log2 h.2))
def gDiv : D → D → Mem → Res D
  | .int i, .int j, m => if divOk j = true then .ok (.int (i.fdiv j)) m else .stuck
  | _, _, _ => .stuck
theorem om_div : OpM X (binaryOp .FloorDiv) gDiv := by
  refine om_int op_fdivA (gi := fun i j => .int (i.fdiv j)) (fun _ _ _ _ => rfl) (fun _ _ _ => rfl) fun a b m h => ?_
  cases a <;> cases b <;> first | rfl | exact (h _ _ ⟨rfl, rfl⟩).elim
def gMod : D → D → Mem → Res D
  | .int i, .int j, m => if j ≠ 0 then .ok (.int (i.fmod j)) m else .stuck
  | _, _, _ => .stuck
theorem om_mod : OpM X (binaryOp .Mod) gMod := by
  refine om_int op_modN (gi := fun i j => .int (i.fmod j)) (fun _ _ _ _ => rfl) (fun _ _ _ => rfl) fun a b m h => ?_
  cases a <;> cases b <;> first | rfl | exact (h _ _ ⟨rfl, rfl⟩).elim
def gNeg : D → Mem → Res D
  | .int i, m => .ok (.int (-i)) m
  | _, _ => .stuck
theorem um_neg : UnM X (unaryOp .USub) gNeg := by
  refine unM_of un_neg fun W σ H x u dx m Q k px q => ?_
  cases dx with
  | int i => exact ⟨i, px, q.now k rfl⟩
  | _ => exact q.elim
/-! ### order of numbers, of texts -/
def gLt : D → D → Mem → Res D
  | .int i, .int j, m => .ok (.bl (decide (i < j))) m
  | .str a, .str b, m => .ok (.bl (decide (a.cps.toList < b.cps.toList))) m
  | _, _, _ => .stuck
theorem om_lt : OpM X (compareOp .Lt) gLt := by
  intro W pins s σ H x y v w Q u dx dy m tk I rx ry k px py q
  cases dx with
  | int i =>
    cases dy with
    | int j =>
      have e1 : x = .int i := px
      have e2 : y = .int j := py
      subst e1 e2
      exact op_lt pins s σ H _ _ v w Q I rx ry ⟨i, j, rfl, rfl, q.now k rfl⟩
    | _ => exact q.elim
  | str a =>
    cases dy with
    | str b =>
      have e1 : x = .str a := px
      have e2 : y = .str b := py
      subst e1 e2
      exact op_lt_str pins s σ H _ _ v w Q I rx ry ⟨a, b, rfl, rfl, q.now k rfl⟩
    | _ => exact q.elim
  | _ => cases dy <;> exact q.elim
def gLe : D → D → Mem → Res D
  | .int i, .int j, m => .ok (.bl (decide (i ≤ j))) m
  | _, _, _ => .stuck
theorem om_le : OpM X (compareOp .LtE) gLe := by
  refine om_int0 op_le (gi := fun i j => .bl (decide (i ≤ j))) (fun _ _ _ _ => rfl) (fun _ _ _ => rfl) fun a b m h => ?_
  cases a <;> cases b <;> first | rfl | exact (h _ _ ⟨rfl, rfl⟩).elim
def gGt : D → D → Mem → Res D
  | .int i, .int j, m => .ok (.bl (decide (j < i))) m
  | _, _, _ => .stuck
theorem om_gt : OpM X (compareOp .Gt) gGt := by
  refine om_int0 op_gt (gi := fun i j => .bl (decide (j < i))) (fun _ _ _ _ => rfl) (fun _ _ _ => rfl) fun a b m h => ?_
  cases a <;> cases b <;> first | rfl | exact (h _ _ ⟨rfl, rfl⟩).elim
def gGe : D → D → Mem → Res D
  | .int i, .int j, m => .ok (.bl (decide (j ≤ i))) m
  | _, _, _ => .stuck
theorem om_ge : OpM X (compareOp .GtE) gGe := by
  refine om_int0 op_ge (gi := fun i j => .bl (decide (j ≤ i))) (fun _ _ _ _ => rfl) (fun _ _ _ => rfl) fun a b m h => ?_
  cases a <;> cases b <;> first | rfl | exact (h _ _ ⟨rfl, rfl⟩).elim
/-! ### is None, is True -/
def isN : D → Bool
  | .non => true
  | _ => false
def gIsN : D → D → Mem → Res D
  | x, .non, m => .ok (.bl (isN x)) m
  | _, _, _ => .stuck
def gNotN : D → D → Mem → Res D
  | x, .non, m => .ok (.bl (!isN x)) m
  | _, _, _ => .stuck
theorem isN_eq {K : PySem.W.Frag} {u : List Addr} {H : Hp} {d : D} {x : V} (h : Rep K u H d x) : decide (x = .non) = isN d := by
  cases d with
  | non => rw [show x = .non from h]; rfl
  | bl b => rw [show x = .bl b from h]; rfl
  | int b => rw [show x = .int b from h]; rfl
  | str b => rw [show x = .str b from h]; rfl
  | tup ds => obtain ⟨a, xs, e, _⟩ := h; rw [e]; rfl
  | obj n => obtain ⟨a, e, _⟩ := h; rw [e]; rfl
  | glo a => rw [show x = .ref _ from h]; rfl
  | cls a => rw [show x = .ref _ from h]; rfl
  | ty a => rw [show x = .ty _ from h]; rfl
  | clo f c q σ js ds => rw [h.1]; rfl
  | frl ds => obtain ⟨a, xs, e, _⟩ := h; rw [e]; rfl
  | frt ds => obtain ⟨a, xs, e, _⟩ := h; rw [e]; rfl
theorem om_isN : OpM X (compareOp .Is) gIsN := by
  refine opM_of op_isN fun W σ H x y u dx dy m Q k px py q => ?_
  cases dy with
  | non =>
    refine ⟨py, ?_⟩
    rw [isN_eq px]
    exact q.now k rfl
  | _ => exact q.elim
theorem om_notN : OpM X (compareOp .IsNot) gNotN := by
  refine opM_of op_notN fun W σ H x y u dx dy m Q k px py q => ?_
  cases dy with
  | non =>
    refine ⟨py, ?_⟩
    rw [isN_eq px]
    exact q.now k rfl
  | _ => exact q.elim
/-! ### == of data -/
section
variable (dr : Nat → Option PyData)
mutual
def pyW : D → Option PyData
  | .non => some .none
  | .bl b => some (.bool b)
  | .int i => some (.int i)
  | .str s => some (.str s)
  | .tup ds => (pyWs ds).map .tuple
  | .obj n => dr n
  | .frl ds => (pyWs ds).map .list
  | .frt ds => (pyWs ds).map .tuple
  | .glo _ => none
  | .cls _ => none
  | .ty _ => none
  | .clo .. => none
def pyWs : List D → Option (List PyData)
  | [] => some []
  | d :: ds => match pyW d, pyWs ds with
    | some x, some xs => some (x :: xs)
    | _, _ => none
end
end
def lstAt (μ : Mem) (n : Nat) : Option (List D) := match μ[n]? with
  | some (.lst ds) => some ds
  | some (.lk (.lst ds)) => some ds
  | _ => none
def drS (μ : Mem) (dr : Nat → Option PyData) : Nat → Option PyData := fun n => match lstAt μ n with
  | some ds => (pyWs dr ds).map .list
  | none => none
def pyD (μ : Mem) : D → Option PyData := pyW (drS μ (drS μ (drS μ fun _ => none)))
section
variable {K : PySem.W.Frag} {u : List Addr} {H : Hp} {μ : Mem}
/-- a list's items, read -/
theorem HRep.list (k : HRep K u H μ) {n : Nat} {ds : List D} (h : lstAt μ n = some ds) {v : V} (r : Rep K u H (.obj n) v) : ∃ a xs, v = .ref a ∧ SqL K H a xs ∧ RepL K u H ds xs := by
  obtain ⟨a, e, hu⟩ := r
  unfold lstAt at h
  split at h
  · rename_i ds' e1
    cases h
    obtain ⟨o, h1, h2⟩ := k.cell n _ a e1 hu
    cases o with
    | lst xs => exact ⟨a, xs, e, SqL.of h1, h2⟩
    | _ => exact h2.elim
  · rename_i ds' e1
    cases h
    obtain ⟨ob, o, h1, h2⟩ := k.cell n _ a e1 hu
    cases o with
    | lst xs => exact ⟨a, xs, e, .inl (.inr ⟨ob, h1⟩), h2⟩
    | _ => exact h2.elim
  · cases h
mutual
theorem pyW_dp (k : HRep K u H μ) {dr : Nat → Option PyData} (hd : ∀ n z v, dr n = some z → Rep K u H (.obj n) v → Dp K H v z) : ∀ (d : D) (v : V) (z : PyData), pyW dr d = some z → Rep K u H d v → Dp K H v z
  | .non, v, z, h, r => by cases h; cases r; exact .non
  | .bl b, v, z, h, r => by cases h; cases r; exact .bl b
  | .int b, v, z, h, r => by cases h; cases r; exact .int b
  | .str b, v, z, h, r => by cases h; cases r; exact .str b
  | .tup ds, v, z, h, r => by
    obtain ⟨a, xs, e, h1, h2⟩ := r
    subst e
    have h' : (pyWs dr ds).map PyData.tuple = some z := h
    obtain ⟨zs, e1, rfl⟩ := Option.map_eq_some_iff.mp h'
    exact .tup (SqT.of h1) (pyWs_dp k hd ds xs zs e1 h2)
  | .obj n, v, z, h, r => hd n z v h r
  | .frl ds, v, z, h, r => by
    obtain ⟨a, xs, e, h1, h2⟩ := r
    subst e
    have h' : (pyWs dr ds).map PyData.list = some z := h
    obtain ⟨zs, e1, rfl⟩ := Option.map_eq_some_iff.mp h'
    exact .lst h1.sq (pyWs_dp k hd ds xs zs e1 h2)
  | .frt ds, v, z, h, r => by
    obtain ⟨a, xs, e, h1, h2⟩ := r
    subst e
    have h' : (pyWs dr ds).map PyData.tuple = some z := h
    obtain ⟨zs, e1, rfl⟩ := Option.map_eq_some_iff.mp h'
    exact .tup h1.sq (pyWs_dp k hd ds xs zs e1 h2)
  | .glo _, v, z, h, r => by cases h
  | .cls _, v, z, h, r => by cases h
  | .ty _, v, z, h, r => by cases h
  | .clo .., v, z, h, r => by cases h
theorem pyWs_dp (k : HRep K u H μ) {dr : Nat → Option PyData} (hd : ∀ n z v, dr n = some z → Rep K u H (.obj n) v → Dp K H v z) : ∀ (ds : List D) (xs : List V) (zs : List PyData), pyWs dr ds = some zs → RepL K u H ds xs → DpAll K H xs zs
  | [], xs, zs, h, r => by cases h; rw [show xs = [] from r]; exact .nil
  | d :: ds, xs, zs, h, r => by
    obtain ⟨x, r', e, h1, h2⟩ := r
    subst e
    simp only [pyWs] at h
    split at h
    · rename_i z zs' e1 e2
      cases h
      exact .cons (pyW_dp k hd d x z e1 h1) (pyWs_dp k hd ds r' zs' e2 h2)
    · cases h
end
theorem drS_dp (k : HRep K u H μ) {dr : Nat → Option PyData} (hd : ∀ n z v, dr n = some z → Rep K u H (.obj n) v → Dp K H v z) : ∀ n z v, drS μ dr n = some z → Rep K u H (.obj n) v → Dp K H v z := by
  intro n z v h r
  unfold drS at h
  cases e : lstAt μ n with
  | none => rw [e] at h; cases h
  | some ds =>
    rw [e] at h
    obtain ⟨zs, e1, rfl⟩ := Option.map_eq_some_iff.mp h
    obtain ⟨a, xs, e2, h1, h2⟩ := k.list e r
    subst e2
    exact .lst h1 (pyWs_dp k hd ds xs zs e1 h2)
theorem pyD_dp (k : HRep K u H μ) {d : D} {v : V} {z : PyData} (h : pyD μ d = some z) (r : Rep K u H d v) : Dp K H v z :=
  pyW_dp k (drS_dp k (drS_dp k (drS_dp k fun _ _ _ z => by cases z))) d v z h r
end
def gEq : D → D → Mem → Res D := fun x y m => match pyD m x, pyD m y with
  | some a, some b => if SeqAt.shaped a && SeqAt.shaped b then .ok (.bl (PyData.eqv a b)) m else .stuck
  | _, _ => .stuck
def gNe : D → D → Mem → Res D := fun x y m => match pyD m x, pyD m y with
  | some a, some b => if SeqAt.shaped a && SeqAt.shaped b then .ok (.bl (!PyData.eqv a b)) m else .stuck
  | _, _ => .stuck
theorem om_eq (hu : X.A.units + 64 < cLine) : OpM X (compareOp .Eq) gEq := by
  refine opM_of (op_eqD hu) fun W σ H x y u dx dy m Q k px py q => ?_
  unfold gEq at q
  cases e1 : pyD m dx with
  | none => simp only [e1] at q; exact q.elim
  | some a =>
    cases e2 : pyD m dy with
    | none => simp only [e1, e2] at q; exact q.elim
    | some b =>
      simp only [e1, e2] at q
      by_cases c : (SeqAt.shaped a && SeqAt.shaped b) = true
      · rw [if_pos c] at q
        rw [Bool.and_eq_true] at c
        exact ⟨a, b, pyD_dp k e1 px, pyD_dp k e2 py, c.1, c.2, q.now k rfl⟩
      · rw [if_neg c] at q
        exact q.elim
theorem om_ne (hu : X.A.units + 64 < cLine) : OpM X (compareOp .NotEq) gNe := by
  refine opM_of (op_neD hu) fun W σ H x y u dx dy m Q k px py q => ?_
  unfold gNe at q
  cases e1 : pyD m dx with
  | none => simp only [e1] at q; exact q.elim
  | some a =>
    cases e2 : pyD m dy with
    | none => simp only [e1, e2] at q; exact q.elim
    | some b =>
      simp only [e1, e2] at q
      by_cases c : (SeqAt.shaped a && SeqAt.shaped b) = true
      · rw [if_pos c] at q
        rw [Bool.and_eq_true] at c
        exact ⟨a, b, pyD_dp k e1 px, pyD_dp k e2 py, c.1, c.2, q.now k rfl⟩
      · rw [if_neg c] at q
        exact q.elim
end
end T
end
section
set_option Elab.async false
set_option linter.all false
set_option maxRecDepth 100000
/-! T4: dicts by their keys, what is in what, subscripts. -/
namespace T
open PySem PySem.Spec PyProof.Rows L2

/-! ### keys -/
mutual
def sameK : D → D → Bool
  | .int i, .int j => i == j
  | .str a, .str b => a == b
  | .tup a, .tup b => sameKs a b
  | _, _ => false
def sameKs : List D → List D → Bool
  | [], [] => true
  | a :: as, b :: bs => sameK a b && sameKs as bs
  | _, _ => false
end
def dget (kvs : List (D × D)) (k : D) : Option D := (kvs.find? fun p => sameK p.1 k).map (·.2)
def dput (kvs : List (D × D)) (k v : D) : List (D × D) :=
  if (kvs.any fun p => sameK p.1 k) = true then kvs.map (fun p => if sameK p.1 k then (p.1, v) else p) else kvs ++ [(k, v)]
theorem keyD_same {a b : D} {x y : Key} (ha : keyD a = some x) (hb : keyD b = some y) : sameK a b = decide (x = y) := by
  cases a with
  | int i =>
    cases ha
    cases b with
    | int j => cases hb; simp only [sameK]; exact (key_ll i j).symm
    | str t => cases hb; simp only [sameK]; exact (key_lr i t).symm
    | _ => cases hb
  | str s =>
    cases ha
    cases b with
    | int j => cases hb; simp only [sameK]; exact (key_rl s j).symm
    | str t => cases hb; simp only [sameK]; rw [key_rr]; exact (Bool.beq_eq_decide_eq s t)
    | _ => cases hb
  | _ => cases ha
theorem keyDs_same : ∀ {a b : List D} {x y : List Key}, keyDs a = some x → keyDs b = some y → sameKs a b = decide (x = y)
  | [], [], x, y, ha, hb => by cases ha; cases hb; rfl
  | [], b :: bs, x, y, ha, hb => by
    cases ha
    simp only [keyDs] at hb
    split at hb
    · cases hb; rfl
    · cases hb
  | a :: as, [], x, y, ha, hb => by
    cases hb
    simp only [keyDs] at ha
    split at ha
    · cases ha; rfl
    · cases ha
  | a :: as, b :: bs, x, y, ha, hb => by
    simp only [keyDs] at ha hb
    split at ha
    · rename_i k ks h1 h2
      cases ha
      split at hb
      · rename_i k' ks' h3 h4
        cases hb
        simp only [sameKs]
        rw [keyD_same h1 h3, keyDs_same h2 h4]
        by_cases e1 : k = k'
        · by_cases e2 : ks = ks' <;> simp [e1, e2]
        · simp [e1]
      · cases hb
    · cases ha
theorem keyT_same {a b : D} {x y : List Key} (ha : keyT a = some x) (hb : keyT b = some y) : sameK a b = decide (x = y) := by
  cases a with
  | tup as =>
    cases b with
    | tup bs => simp only [sameK]; exact keyDs_same ha hb
    | _ => cases hb
  | _ => cases ha
section
variable {K : PySem.W.Frag} {u : List Addr} {H : Hp}
theorem keyD_v {d : D} {k : Key} {v : V} (h : keyD d = some k) (r : Rep K u H d v) : v = kV k := by
  cases d with
  | int i => cases h; exact r
  | str s => cases h; exact r
  | _ => cases h
theorem keyDs_v : ∀ {ds : List D} {ks : List Key} {xs : List V}, keyDs ds = some ks → RepL K u H ds xs → xs = ks.map kV
  | [], ks, xs, h, r => by cases h; exact r
  | d :: ds, ks, xs, h, r => by
    simp only [keyDs] at h
    split at h
    · rename_i k ks' h1 h2
      cases h
      obtain ⟨x, r', e, h3, h4⟩ := r
      rw [e, keyD_v h1 h3, keyDs_v h2 h4]
      rfl
    · cases h
theorem keyT_v {d : D} {ks : List Key} {v : V} (h : keyT d = some ks) (r : Rep K u H d v) : ∃ b, v = .ref b ∧ H b = some (.tup (ks.map kV)) := by
  cases d with
  | tup ds =>
    obtain ⟨a, xs, e, h1, h2⟩ := r
    rw [keyDs_v h h2] at h1
    exact ⟨a, e, h1⟩
  | _ => cases h
/-- what a dict holds at a key -/
theorem PairK.get {k : D} {kk : Key} (hk : keyD k = some kk) : ∀ {kvs : List (D × D)} {ys : List (Key × V)}, PairK K u H kvs ys → match dget kvs k with
    | some d => ∃ v, valV ys kk = some v ∧ Rep K u H d v
    | none => valV ys kk = none
  | [], ys, h => by rw [show ys = [] from h]; rfl
  | p :: ps, ys, h => by
    obtain ⟨k', v, r, e, h1, h2, h3⟩ := h
    subst e
    have ih := PairK.get hk h3
    have sk := keyD_same h1 hk
    by_cases e : k' = kk
    · have s1 : sameK p.1 k = true := by rw [sk]; exact decide_eq_true e
      have : dget (p :: ps) k = some p.2 := by unfold dget; rw [List.find?_cons, s1]; rfl
      rw [this]
      exact ⟨v, valV_pos e, h2⟩
    · have s1 : sameK p.1 k = false := by rw [sk]; exact decide_eq_false e
      have : dget (p :: ps) k = dget ps k := by unfold dget; rw [List.find?_cons, s1]
      rw [this, valV_neg e]
      exact ih
theorem PairT.get {k : D} {kk : List Key} (hk : keyT k = some kk) : ∀ {kvs : List (D × D)} {ys : List (List Key × V)}, PairT K u H kvs ys → match dget kvs k with
    | some d => ∃ v, valV ys kk = some v ∧ Rep K u H d v
    | none => valV ys kk = none
  | [], ys, h => by rw [show ys = [] from h]; rfl
  | p :: ps, ys, h => by
    obtain ⟨k', v, r, e, h1, h2, h3⟩ := h
    subst e
    have ih := PairT.get hk h3
    have sk := keyT_same h1 hk
    by_cases e : k' = kk
    · have s1 : sameK p.1 k = true := by rw [sk]; exact decide_eq_true e
      have : dget (p :: ps) k = some p.2 := by unfold dget; rw [List.find?_cons, s1]; rfl
      rw [this]
      exact ⟨v, valV_pos e, h2⟩
    · have s1 : sameK p.1 k = false := by rw [sk]; exact decide_eq_false e
      have : dget (p :: ps) k = dget ps k := by unfold dget; rw [List.find?_cons, s1]
      rw [this, valV_neg e]
      exact ih
theorem PairK.length : ∀ {kvs : List (D × D)} {ys : List (Key × V)}, PairK K u H kvs ys → ys.length = kvs.length
  | [], ys, h => by rw [show ys = [] from h]; rfl
  | p :: ps, ys, h => by
    obtain ⟨k', v, r, e, h1, h2, h3⟩ := h
    rw [e, List.length_cons, PairK.length h3, List.length_cons]
theorem PairT.length : ∀ {kvs : List (D × D)} {ys : List (List Key × V)}, PairT K u H kvs ys → ys.length = kvs.length
  | [], ys, h => by rw [show ys = [] from h]; rfl
  | p :: ps, ys, h => by
    obtain ⟨k', v, r, e, h1, h2, h3⟩ := h
    rw [e, List.length_cons, PairT.length h3, List.length_cons]
theorem PairK.any {k : D} {kk : Key} (hk : keyD k = some kk) : ∀ {kvs : List (D × D)} {ys : List (Key × V)}, PairK K u H kvs ys → (kvs.any fun p => sameK p.1 k) = ys.any fun p => decide (p.1 = kk)
  | [], ys, h => by rw [show ys = [] from h]; rfl
  | p :: ps, ys, h => by
    obtain ⟨k', v, r, e, h1, h2, h3⟩ := h
    subst e
    rw [List.any_cons, List.any_cons, keyD_same h1 hk, PairK.any hk h3]
theorem PairT.any {k : D} {kk : List Key} (hk : keyT k = some kk) : ∀ {kvs : List (D × D)} {ys : List (List Key × V)}, PairT K u H kvs ys → (kvs.any fun p => sameK p.1 k) = ys.any fun p => decide (p.1 = kk)
  | [], ys, h => by rw [show ys = [] from h]; rfl
  | p :: ps, ys, h => by
    obtain ⟨k', v, r, e, h1, h2, h3⟩ := h
    subst e
    rw [List.any_cons, List.any_cons, keyT_same h1 hk, PairT.any hk h3]
theorem PairK.repl {k d : D} {kk : Key} {w : V} (hk : keyD k = some kk) (hd : Rep K u H d w) : ∀ {kvs : List (D × D)} {ys : List (Key × V)}, PairK K u H kvs ys →
    PairK K u H (kvs.map fun p => if sameK p.1 k then (p.1, d) else p) (ys.map fun p => if p.1 = kk then (p.1, w) else p)
  | [], ys, h => by rw [show ys = [] from h]; exact rfl
  | p :: ps, ys, h => by
    obtain ⟨k', v, r, e, h1, h2, h3⟩ := h
    subst e
    have ih := PairK.repl hk hd h3
    by_cases e : k' = kk
    · refine ⟨k', w, _, ?_, ?_, ?_, ih⟩
      · rw [List.map_cons, if_pos e]
      · show keyD (if sameK p.1 k = true then (p.1, d) else p).1 = some k'
        rw [keyD_same h1 hk, decide_eq_true e]; exact h1
      · show Rep K u H (if sameK p.1 k = true then (p.1, d) else p).2 w
        rw [keyD_same h1 hk, decide_eq_true e]; exact hd
    · refine ⟨k', v, _, ?_, ?_, ?_, ih⟩
      · rw [List.map_cons, if_neg e]
      · show keyD (if sameK p.1 k = true then (p.1, d) else p).1 = some k'
        rw [keyD_same h1 hk, decide_eq_false e]; exact h1
      · show Rep K u H (if sameK p.1 k = true then (p.1, d) else p).2 v
        rw [keyD_same h1 hk, decide_eq_false e]; exact h2
theorem PairT.repl {k d : D} {kk : List Key} {w : V} (hk : keyT k = some kk) (hd : Rep K u H d w) : ∀ {kvs : List (D × D)} {ys : List (List Key × V)}, PairT K u H kvs ys →
    PairT K u H (kvs.map fun p => if sameK p.1 k then (p.1, d) else p) (ys.map fun p => if p.1 = kk then (p.1, w) else p)
  | [], ys, h => by rw [show ys = [] from h]; exact rfl
  | p :: ps, ys, h => by
    obtain ⟨k', v, r, e, h1, h2, h3⟩ := h
    subst e
    have ih := PairT.repl hk hd h3
    by_cases e : k' = kk
    · refine ⟨k', w, _, ?_, ?_, ?_, ih⟩
      · rw [List.map_cons, if_pos e]
      · show keyT (if sameK p.1 k = true then (p.1, d) else p).1 = some k'
        rw [keyT_same h1 hk, decide_eq_true e]; exact h1
      · show Rep K u H (if sameK p.1 k = true then (p.1, d) else p).2 w
        rw [keyT_same h1 hk, decide_eq_true e]; exact hd
    · refine ⟨k', v, _, ?_, ?_, ?_, ih⟩
      · rw [List.map_cons, if_neg e]
      · show keyT (if sameK p.1 k = true then (p.1, d) else p).1 = some k'
        rw [keyT_same h1 hk, decide_eq_false e]; exact h1
      · show Rep K u H (if sameK p.1 k = true then (p.1, d) else p).2 v
        rw [keyT_same h1 hk, decide_eq_false e]; exact h2
theorem PairK.snoc {k d : D} {kk : Key} {w : V} (hk : keyD k = some kk) (hd : Rep K u H d w) : ∀ {kvs : List (D × D)} {ys : List (Key × V)}, PairK K u H kvs ys → PairK K u H (kvs ++ [(k, d)]) (ys ++ [(kk, w)])
  | [], ys, h => by rw [show ys = [] from h]; exact ⟨kk, w, [], rfl, hk, hd, rfl⟩
  | p :: ps, ys, h => by
    obtain ⟨k', v, r, e, h1, h2, h3⟩ := h
    subst e
    exact ⟨k', v, _, rfl, h1, h2, PairK.snoc hk hd h3⟩
theorem PairT.snoc {k d : D} {kk : List Key} {w : V} (hk : keyT k = some kk) (hd : Rep K u H d w) : ∀ {kvs : List (D × D)} {ys : List (List Key × V)}, PairT K u H kvs ys → PairT K u H (kvs ++ [(k, d)]) (ys ++ [(kk, w)])
  | [], ys, h => by rw [show ys = [] from h]; exact ⟨kk, w, [], rfl, hk, hd, rfl⟩
  | p :: ps, ys, h => by
    obtain ⟨k', v, r, e, h1, h2, h3⟩ := h
    subst e
    exact ⟨k', v, _, rfl, h1, h2, PairT.snoc hk hd h3⟩
theorem PairK.put {k d : D} {kk : Key} {w : V} (hk : keyD k = some kk) (hd : Rep K u H d w) {kvs : List (D × D)} {ys : List (Key × V)} (h : PairK K u H kvs ys) : PairK K u H (dput kvs k d) (putK ys kk w) := by
  unfold dput putK
  rw [PairK.any hk h]
  by_cases c : (ys.any fun p => decide (p.1 = kk)) = true
  · rw [if_pos c, if_pos c]
    exact PairK.repl hk hd h
  · rw [if_neg c, if_neg c]
    exact PairK.snoc hk hd h
theorem PairT.put {k d : D} {kk : List Key} {w : V} (hk : keyT k = some kk) (hd : Rep K u H d w) {kvs : List (D × D)} {ys : List (List Key × V)} (h : PairT K u H kvs ys) : PairT K u H (dput kvs k d) (putK ys kk w) := by
  unfold dput putK
  rw [PairT.any hk h]
  by_cases c : (ys.any fun p => decide (p.1 = kk)) = true
  · rw [if_pos c, if_pos c]
    exact PairT.repl hk hd h
  · rw [if_neg c, if_neg c]
    exact PairT.snoc hk hd h
end

/-! ### an empty dict bears no kind of keys -/
section
variable {X : Cx} {pins : List (Addr × Obj)} {σ : L2.St} {H : Hp} {s : Shared} {a : Addr}
theorem relabT (I : Inv X pins σ H s) (h : H a = some (.dK [])) : Inv X pins σ (upd H a (.dT [])) s := by
  obtain ⟨z, hd, vs, rel, o, es, ep, h1, h2, h3, hk, h4, h5⟩ := dk_of I.hok h
  have ev : vs = [] := List.length_eq_zero_iff.mp rel.length.symm
  subst ev
  exact I.write (x := a) (e := a) (h' := s.heap) (t' := s.toks) (o := .dT []) (by rw [h]; trivial) (.inl rfl) (fun _ _ _ q => q) ⟨_, h1⟩
    ⟨Nat.zero_le _, hd, [], .nil, o, es, ep, h1, h2, h3, (by generalize es.toList = l at h4; cases h4; rfl), List.nodup_nil⟩
theorem relabK (I : Inv X pins σ H s) (h : H a = some (.dT [])) : Inv X pins σ (upd H a (.dK [])) s := by
  obtain ⟨z, hd, xs, rel, o, es, ep, h1, h2, h3, h4, h5⟩ := I.hok a _ h
  have ev : xs = [] := List.length_eq_zero_iff.mp (Paired.length rel).symm
  subst ev
  refine I.write (x := a) (e := a) (h' := s.heap) (t' := s.toks) (o := .dK []) (by rw [h]; trivial) (.inl rfl) (fun _ _ _ q => q) ⟨_, h1⟩
    ⟨Nat.zero_le _, hd, [], .nil, o, es, ep, h1, h2, h3, ?_, ?_, ?_⟩
  · intro e he
    have z : e ∈ es.toList := by simpa using he
    rw [show es.toList = [] from h4] at z
    cases z
  · rw [show es.toList = [] from h4]
    exact .nil
  · exact List.nodup_nil
end
end T
end
section
set_option Elab.async false
set_option linter.all false
set_option maxRecDepth 100000
/-! T5: dicts among the cells; what is in what; subscripts and stores. -/
namespace T
open PySem PySem.Spec PyProof.Rows L2

/-- the key x fits the dict's keys -/
def fitK (kvs : List (D × D)) (x : D) : Bool := (keyD x).isSome && kvs.all fun p => (keyD p.1).isSome
def fitT (kvs : List (D × D)) (x : D) : Bool := (keyT x).isSome && kvs.all fun p => (keyT p.1).isSome
def fits (kvs : List (D × D)) (x : D) : Bool := fitK kvs x || fitT kvs x
/-- a dict that is read at x -/
def dctR (m : Mem) (n : Nat) (x : D) : Option (List (D × D)) := match m[n]? with
  | some (.dct kvs) => if fits kvs x then some kvs else none
  | some (.lk (.dct kvs)) => if !kvs.isEmpty && fits kvs x then some kvs else none
  | _ => none
theorem keyDT {d : D} (h : (keyD d).isSome = true) : (keyT d).isSome = false := by
  cases d <;> first | rfl | cases h
section
variable {K : PySem.W.Frag} {u : List Addr} {H : Hp}
theorem PairK.keys : ∀ {kvs : List (D × D)} {ys : List (Key × V)}, PairK K u H kvs ys → (kvs.all fun p => (keyD p.1).isSome) = true
  | [], ys, h => rfl
  | p :: ps, ys, ⟨k, v, r, e, h1, h2, h3⟩ => by rw [List.all_cons, h1, PairK.keys h3]; rfl
theorem PairT.keys : ∀ {kvs : List (D × D)} {ys : List (List Key × V)}, PairT K u H kvs ys → (kvs.all fun p => (keyT p.1).isSome) = true
  | [], ys, h => rfl
  | p :: ps, ys, ⟨k, v, r, e, h1, h2, h3⟩ => by rw [List.all_cons, h1, PairT.keys h3]; rfl
end
theorem both_nil {kvs : List (D × D)} (h1 : (kvs.all fun p => (keyD p.1).isSome) = true) (h2 : (kvs.all fun p => (keyT p.1).isSome) = true) : kvs = [] := by
  cases kvs with
  | nil => rfl
  | cons p ps =>
    rw [List.all_cons, Bool.and_eq_true] at h1 h2
    rw [keyDT h1.1] at h2
    exact absurd h2.1 (by decide)
section
variable {X : Cx} {pins : List (Addr × Obj)} {σ : L2.St} {H : Hp} {s : Shared} {u : List Addr} {m : Mem}
/-- a dict that may be written, its kind of keys as x is -/
theorem dct_ready (I : Inv X pins σ H s) (k : HRep X.K u H m) {n : Nat} {kvs : List (D × D)} {v : V} {x : D} (e : m[n]? = some (.dct kvs)) (r : Rep X.K u H (.obj n) v) (hf : fits kvs x = true) :
    ∃ a H1, v = .ref a ∧ u[n]? = some a ∧ Inv X pins σ H1 s ∧ HRep X.K u H1 m ∧ Ext H H1 ∧
      ((∃ kk ys, keyD x = some kk ∧ H1 a = some (.dK ys) ∧ PairK X.K u H1 kvs ys) ∨ ∃ kk ys, keyT x = some kk ∧ H1 a = some (.dT ys) ∧ PairT X.K u H1 kvs ys) := by
  obtain ⟨a, rfl, hu⟩ := r
  obtain ⟨o, h1, h2⟩ := k.cell n _ a e hu
  unfold fits at hf
  rw [Bool.or_eq_true] at hf
  cases o with
  | dK ys =>
    have h2 : PairK X.K u H kvs ys := h2
    rcases hf with hf | hf
    · unfold fitK at hf
      rw [Bool.and_eq_true] at hf
      obtain ⟨kk, hk⟩ := Option.isSome_iff_exists.mp hf.1
      exact ⟨a, H, rfl, hu, I, k, Ext.refl H, .inl ⟨kk, ys, hk, h1, h2⟩⟩
    · unfold fitT at hf
      rw [Bool.and_eq_true] at hf
      obtain ⟨kk, hk⟩ := Option.isSome_iff_exists.mp hf.1
      have e0 := both_nil h2.keys hf.2
      subst e0
      have ey : ys = [] := h2
      subst ey
      have ex : Ext H (upd H a (.dT [])) := ext_wr h1 (fun _ z => nomatch z) (fun _ _ z => nomatch z) (fun _ z => nomatch z)
      have k2 := k.write (c := .dct []) ex (fun b hb hne hm => Kept.put h1 hne (fun _ z => nomatch z) (fun _ z => nomatch z)) hu ⟨_, upd_same, rfl⟩ (by rw [upd_same]; exact fun z => nomatch z)
      have em : m.set n (.dct []) = m := by
        obtain ⟨hl, q⟩ := List.getElem?_eq_some_iff.mp e
        rw [← q]
        exact List.set_getElem_self hl
      rw [em] at k2
      exact ⟨a, _, rfl, hu, relabT I h1, k2, ex, .inr ⟨kk, [], hk, upd_same, rfl⟩⟩
  | dT ys =>
    have h2 : PairT X.K u H kvs ys := h2
    rcases hf with hf | hf
    · unfold fitK at hf
      rw [Bool.and_eq_true] at hf
      obtain ⟨kk, hk⟩ := Option.isSome_iff_exists.mp hf.1
      have e0 := both_nil hf.2 h2.keys
      subst e0
      have ey : ys = [] := h2
      subst ey
      have ex : Ext H (upd H a (.dK [])) := ext_wr h1 (fun _ z => nomatch z) (fun _ _ z => nomatch z) (fun _ z => nomatch z)
      have k2 := k.write (c := .dct []) ex (fun b hb hne hm => Kept.put h1 hne (fun _ z => nomatch z) (fun _ z => nomatch z)) hu ⟨_, upd_same, rfl⟩ (by rw [upd_same]; exact fun z => nomatch z)
      have em : m.set n (.dct []) = m := by
        obtain ⟨hl, q⟩ := List.getElem?_eq_some_iff.mp e
        rw [← q]
        exact List.set_getElem_self hl
      rw [em] at k2
      exact ⟨a, _, rfl, hu, relabK I h1, k2, ex, .inl ⟨kk, [], hk, upd_same, rfl⟩⟩
    · unfold fitT at hf
      rw [Bool.and_eq_true] at hf
      obtain ⟨kk, hk⟩ := Option.isSome_iff_exists.mp hf.1
      exact ⟨a, H, rfl, hu, I, k, Ext.refl H, .inr ⟨kk, ys, hk, h1, h2⟩⟩
  | _ => exact h2.elim
/-- a dict that is read at x -/
theorem dct_read (I : Inv X pins σ H s) (k : HRep X.K u H m) {n : Nat} {kvs : List (D × D)} {v y : V} {x : D} (e : dctR m n x = some kvs) (r : Rep X.K u H (.obj n) v) (ry : Rep X.K u H x y) :
    ∃ a H1 o, v = .ref a ∧ Inv X pins σ H1 s ∧ HRep X.K u H1 m ∧ Ext H H1 ∧ DGet H1 a y o ∧ match dget kvs x with
      | some d => ∃ w, o = some w ∧ Rep X.K u H1 d w
      | none => o = none := by
  unfold dctR at e
  split at e
  · rename_i kvs0 e1
    split at e
    · rename_i hf
      cases e
      obtain ⟨a, H1, ev, hu, I1, k1, ex, hh⟩ := dct_ready I k e1 r hf
      have ry1 := Rep.mono (Grow.refl u) ex x ry
      rcases hh with ⟨kk, ys, hk, h1, h2⟩ | ⟨kk, ys, hk, h1, h2⟩
      · have ey := keyD_v hk ry1
        subst ey
        refine ⟨a, H1, valV ys kk, ev, I1, k1, ex, DGet.k h1, ?_⟩
        have z := h2.get hk
        cases eg : dget kvs x with
        | none => rw [eg] at z; exact z
        | some d =>
          rw [eg] at z
          exact z
      · obtain ⟨b, ey, hb⟩ := keyT_v hk ry1
        subst ey
        refine ⟨a, H1, valV ys kk, ev, I1, k1, ex, DGet.t h1 hb, ?_⟩
        have z := h2.get hk
        cases eg : dget kvs x with
        | none => rw [eg] at z; exact z
        | some d =>
          rw [eg] at z
          exact z
    · cases e
  · rename_i kvs0 e1
    split at e
    · rename_i hf
      cases e
      rw [Bool.and_eq_true] at hf
      obtain ⟨hne, hf⟩ := hf
      obtain ⟨a, rfl, hu⟩ := r
      obtain ⟨ob, o, h1, h2⟩ := k.cell n _ a e1 hu
      have nn : kvs ≠ [] := by
        cases kvs with
        | nil => cases hne
        | cons _ _ => exact fun z => nomatch z
      unfold fits at hf
      rw [Bool.or_eq_true] at hf
      cases o with
      | dK ys =>
        have h2 : PairK X.K u H kvs ys := h2
        rcases hf with hf | hf
        · unfold fitK at hf
          rw [Bool.and_eq_true] at hf
          obtain ⟨kk, hk⟩ := Option.isSome_iff_exists.mp hf.1
          have ey := keyD_v hk ry
          subst ey
          refine ⟨a, H, valV ys kk, rfl, I, k, Ext.refl H, .inl ⟨ys, kk, .inr ⟨ob, h1⟩, rfl, rfl⟩, ?_⟩
          have z := h2.get hk
          cases eg : dget kvs x with
          | none => rw [eg] at z; exact z
          | some d => rw [eg] at z; exact z
        · unfold fitT at hf
          rw [Bool.and_eq_true] at hf
          exact absurd (both_nil h2.keys hf.2) nn
      | dT ys =>
        have h2 : PairT X.K u H kvs ys := h2
        rcases hf with hf | hf
        · unfold fitK at hf
          rw [Bool.and_eq_true] at hf
          exact absurd (both_nil hf.2 h2.keys) nn
        · unfold fitT at hf
          rw [Bool.and_eq_true] at hf
          obtain ⟨kk, hk⟩ := Option.isSome_iff_exists.mp hf.1
          obtain ⟨b, ey, hb⟩ := keyT_v hk ry
          subst ey
          refine ⟨a, H, valV ys kk, rfl, I, k, Ext.refl H, .inr ⟨ys, kk, b, .inr ⟨ob, h1⟩, rfl, hb, rfl⟩, ?_⟩
          have z := h2.get hk
          cases eg : dget kvs x with
          | none => rw [eg] at z; exact z
          | some d => rw [eg] at z; exact z
      | _ => exact h2.elim
    · cases e
  · cases e
end

/-! ### what is in what -/
def flatD : D → Bool
  | .non => true
  | .bl _ => true
  | .int _ => true
  | .str _ => true
  | _ => false
def eqF : D → D → Bool
  | .non, .non => true
  | .bl a, .bl b => a == b
  | .bl a, .int b => (if a then 1 else 0) == b
  | .int a, .bl b => a == (if b then 1 else 0)
  | .int a, .int b => a == b
  | .str a, .str b => a == b
  | _, _ => false
section
variable {K : PySem.W.Frag} {u : List Addr} {H : Hp}
theorem flat_v {d : D} {v : V} (f : flatD d = true) (r : Rep K u H d v) : flatV v = true ∧ ∀ e w, flatD e = true → Rep K u H e w → eqV w v = eqF e d := by
  cases d with
  | non => cases r; refine ⟨rfl, fun e w g q => ?_⟩; cases e <;> first | (cases q; rfl) | cases g
  | bl b => cases r; refine ⟨rfl, fun e w g q => ?_⟩; cases e <;> first | (cases q; rfl) | cases g
  | int b => cases r; refine ⟨rfl, fun e w g q => ?_⟩; cases e <;> first | (cases q; rfl) | cases g
  | str b => cases r; refine ⟨rfl, fun e w g q => ?_⟩; cases e <;> first | (cases q; rfl) | cases g
  | _ => cases f
theorem flat_vs {d : D} {v : V} (f : flatD d = true) (r : Rep K u H d v) : ∀ {ds : List D} {xs : List V}, ds.all flatD = true → RepL K u H ds xs → xs.all flatV = true ∧ inV v xs = ds.any fun e => eqF e d
  | [], xs, _, h => by rw [show xs = [] from h]; exact ⟨rfl, rfl⟩
  | e :: ds, xs, g, ⟨x, t, ex, h1, h2⟩ => by
    rw [List.all_cons, Bool.and_eq_true] at g
    obtain ⟨q1, q2⟩ := flat_vs f r g.2 h2
    subst ex
    refine ⟨by rw [List.all_cons, (flat_v g.1 h1).1, q1]; rfl, ?_⟩
    unfold inV at q2 ⊢
    rw [List.any_cons, List.any_cons, q2, (flat_v f r).2 e x g.1 h1]
end
/-- the items of a list or a tuple -/
def seqAt (m : Mem) : D → Option (List D)
  | .tup ds => some ds
  | .frt ds => some ds
  | .frl ds => some ds
  | .obj n => lstAt m n
  | _ => none
def gInB (x y : D) (m : Mem) : Option Bool := match seqAt m y with
  | some ds => if flatD x && ds.all flatD then some (ds.any fun e => eqF e x) else none
  | none => match y with
    | .obj n => match dctR m n x with
      | some kvs => some (dget kvs x).isSome
      | none => none
    | .str b => match x with
      | .str a => if a.length = 1 then some (decide (a.cps.getD 0 0 ∈ b.cps.toList)) else none
      | _ => none
    | _ => none
def gIn (x y : D) (m : Mem) : Res D := match gInB x y m with
  | some b => .ok (.bl b) m
  | none => .stuck
def gNotIn (x y : D) (m : Mem) : Res D := match gInB x y m with
  | some b => .ok (.bl (!b)) m
  | none => .stuck
section
variable {K : PySem.W.Frag} {u : List Addr} {H : Hp} {m : Mem}
theorem seqAt_v (k : HRep K u H m) {y : D} {v : V} {ds : List D} (e : seqAt m y = some ds) (r : Rep K u H y v) : ∃ a xs, v = .ref a ∧ (SqL K H a xs ∨ SqT K H a xs) ∧ RepL K u H ds xs := by
  cases y with
  | tup es => cases e; obtain ⟨a, xs, h1, h2, h3⟩ := r; exact ⟨a, xs, h1, .inr (SqT.of h2), h3⟩
  | frt es => cases e; obtain ⟨a, xs, h1, h2, h3⟩ := r; exact ⟨a, xs, h1, .inr h2.sq, h3⟩
  | frl es => cases e; obtain ⟨a, xs, h1, h2, h3⟩ := r; exact ⟨a, xs, h1, .inl h2.sq, h3⟩
  | obj n => obtain ⟨a, xs, h1, h2, h3⟩ := k.list e r; exact ⟨a, xs, h1, .inl h2, h3⟩
  | _ => cases e
theorem str1 {a : Str} (h : a.length = 1) : a = ⟨#[a.cps.getD 0 0]⟩ := by
  obtain ⟨⟨l⟩⟩ := a
  have hl : l.length = 1 := h
  match l, hl with
  | [c], _ => rfl
end
section
variable {X : Cx}
theorem in_core (hu : X.A.units + 1 < cLine) {W : WX} {pins : List (Addr × Obj)} {s : Shared} {σ : L2.St} {H : Hp} {x y : V} {v w : Value} {Q : VK} {u : List Addr} {dx dy : D} {m : Mem} {neg : Bool} {b : Bool} (I : Inv X pins σ H s) (rx : RelV x v) (ry : RelV y w)
    (k : HRep X.K u H m) (px : Rep X.K u H dx x) (py : Rep X.K u H dy y) (hb : gInB dx dy m = some b) (q : PostE X.K X.mg u H σ W Q (.ok (.bl (if neg then !b else b)) m)) :
    wpAny (model X.prog X.w) X.A (compareOp (if neg then .NotIn else .In) v w) (EP X pins σ Q) X.xe s := by
  unfold gInB at hb
  cases e : seqAt m dy with
  | some ds =>
    rw [e] at hb
    by_cases c : (flatD dx && ds.all flatD) = true
    · simp only [if_pos c, Option.some.injEq] at hb
      subst hb
      rw [Bool.and_eq_true] at c
      obtain ⟨a, xs, ey, hs, hl⟩ := seqAt_v k e py
      obtain ⟨z1, z2⟩ := flat_vs c.1 px c.2 hl
      have z3 := (flat_v c.1 px).1
      cases neg with
      | true =>
        refine op_notIn_seq pins s σ H x y v w Q I rx ry ⟨a, xs, ey, hs, z3, z1, ?_⟩
        rw [z2]
        exact q.now k rfl
      | false =>
        refine op_in_seq pins s σ H x y v w Q I rx ry ⟨a, xs, ey, hs, z3, z1, ?_⟩
        rw [z2]
        exact q.now k rfl
    · simp only [if_neg c] at hb
      cases hb
  | none =>
    simp only [e] at hb
    cases dy with
    | obj n =>
      simp only at hb
      cases e2 : dctR m n dx with
      | none => rw [e2] at hb; cases hb
      | some kvs =>
        rw [e2] at hb
        cases hb
        obtain ⟨a, H1, o, ey, I1, k1, ex, g, hg⟩ := dct_read I k e2 py px
        subst ey
        have ew : w = Value.ref a := ry
        subst ew
        have eo : o.isSome = (dget kvs dx).isSome := by
          cases ed : dget kvs dx with
          | none => rw [ed] at hg; rw [hg]; rfl
          | some d => rw [ed] at hg; obtain ⟨w', z, _⟩ := hg; rw [z]; rfl
        cases neg with
        | true =>
          refine d_notIn hu I1 g rx fun s' I' => ⟨.bl (!o.isSome), H1, I', rfl, ?_⟩
          rw [eo]
          exact q u H1 _ (Grow.refl _) ex k1 rfl
        | false =>
          refine d_in hu I1 g rx fun s' I' => ⟨.bl o.isSome, H1, I', rfl, ?_⟩
          rw [eo]
          exact q u H1 _ (Grow.refl _) ex k1 rfl
    | str t =>
      cases dx with
      | str a =>
        by_cases hl : a.length = 1
        · simp only [if_pos hl, Option.some.injEq] at hb
          subst hb
          have e1 : x = .str a := px
          have e2 : y = .str t := py
          subst e1 e2
          cases neg with
          | true => exact op_notIn_sign pins s σ H _ _ v w Q I rx ry ⟨a.cps.getD 0 0, t, by rw [← str1 hl], rfl, q.now k rfl⟩
          | false => exact op_in_sign pins s σ H _ _ v w Q I rx ry ⟨a.cps.getD 0 0, t, by rw [← str1 hl], rfl, q.now k rfl⟩
        · simp only [if_neg hl] at hb
          cases hb
      | _ => cases hb
    | _ => cases hb
theorem om_in (hu : X.A.units + 1 < cLine) : OpM X (compareOp .In) gIn := by
  intro W pins s σ H x y v w Q u dx dy m tk I rx ry k px py q
  unfold gIn at q
  cases e : gInB dx dy m with
  | none => rw [e] at q; exact q.elim
  | some b =>
    rw [e] at q
    exact in_core (neg := false) hu I rx ry k px py e q
theorem om_notIn (hu : X.A.units + 1 < cLine) : OpM X (compareOp .NotIn) gNotIn := by
  intro W pins s σ H x y v w Q u dx dy m tk I rx ry k px py q
  unfold gNotIn at q
  cases e : gInB dx dy m with
  | none => rw [e] at q; exact q.elim
  | some b =>
    rw [e] at q
    exact in_core (neg := true) hu I rx ry k px py e q

/-! ### subscripts -/
def gIx (x y : D) (m : Mem) : Res D := match seqAt m x with
  | some ds => match y with
    | .int i => match atI ds i with
      | some d => .ok d m
      | none => .stuck
    | _ => .stuck
  | none => match x with
    | .str z => match y with
      | .int i => if z.length ≤ sizeLine then (match atI z.cps.toList i with
        | some c => .ok (.str ⟨#[c]⟩) m
        | none => .stuck) else .stuck
      | _ => .stuck
    | .obj n => match dctR m n y with
      | some kvs => match dget kvs y with
        | some d => .ok d m
        | none => .stuck
      | none => .stuck
    | _ => .stuck
theorem atI_rep {K : PySem.W.Frag} {u : List Addr} {H : Hp} {ds : List D} {xs : List V} {i : Int} {d : D} (r : RepL K u H ds xs) (h : atI ds i = some d) : ∃ v, atI xs i = some v ∧ Rep K u H d v := by
  unfold atI at h ⊢
  rw [r.length]
  cases e : ixN ds.length i with
  | none => rw [e] at h; cases h
  | some j =>
    rw [e] at h
    exact r.get h
variable {a b : Expr} {ma mb : EM} {pos : Pos}
theorem me_ix (hu : X.A.units + 1 < cLine) (ha : ME X a ma) (hb : ME X b mb) (hs : PlainIx b) : ME X (.Subscript a b pos) (m2 gIx ma mb) := by
  refine ⟨fun W tk => ⟨fun pins s σ H Q I h => ?_⟩⟩
  refine Subscript_ (run2 tk ha hb I h fun v w s2 x y H2 u2 dx dy μ2 I2 rx ry k px py q => ?_)
  unfold gIx at q
  cases e : seqAt μ2 dx with
  | some ds =>
    rw [e] at q
    cases dy with
    | int i =>
      simp only at q
      cases e2 : atI ds i with
      | none => rw [e2] at q; exact q.elim
      | some d =>
        rw [e2] at q
        obtain ⟨p, xs, ex, hq, hl⟩ := seqAt_v k e px
        obtain ⟨z, hz, rz⟩ := atI_rep hl e2
        rcases hq with hq | hq
        · exact ix_list a b pins s2 σ H2 x y v w Q I2 rx ry ⟨p, xs, i, z, ex, py, hq, hz, q.now k rz⟩ (hs _ _)
        · exact ix_tup a b pins s2 σ H2 x y v w Q I2 rx ry ⟨p, xs, i, z, ex, py, hq, hz, q.now k rz⟩ (hs _ _)
    | _ => exact q.elim
  | none =>
    simp only [e] at q
    cases dx with
    | str z =>
      cases dy with
      | int i =>
        simp only at q
        by_cases hl : z.length ≤ sizeLine
        · rw [if_pos hl] at q
          cases e2 : atI z.cps.toList i with
          | none => rw [e2] at q; exact q.elim
          | some c =>
            rw [e2] at q
            exact ix_str a b pins s2 σ H2 x y v w Q I2 rx ry ⟨z, i, c, px, py, hl, e2, q.now k rfl⟩ (hs _ _)
        · rw [if_neg hl] at q
          exact q.elim
      | _ => exact q.elim
    | obj n =>
      simp only at q
      cases e2 : dctR μ2 n dy with
      | none => rw [e2] at q; exact q.elim
      | some kvs =>
        rw [e2] at q
        simp only at q
        cases e3 : dget kvs dy with
        | none => rw [e3] at q; exact q.elim
        | some d =>
          rw [e3] at q
          obtain ⟨p, H1, o, ey, I1, k1, ex, g, hg⟩ := dct_read I2 k e2 px py
          rw [e3] at hg
          obtain ⟨z, eo, rz⟩ := hg
          subst ey eo
          have ev : v = Value.ref p := rx
          subst ev
          exact tail_any (dict_typeIs I1 g) PySem.F.slot_dict_getitem.lookup (d_getItem hu I1 g ry fun w' s3 I3 rw' => ⟨z, H1, I3, rw', q u2 H1 z (Grow.refl _) ex k1 rz⟩) (hs _ _)
    | _ => exact q.elim

/-! ### slices -/
def partD : D → Option (Option Int)
  | .int i => some (some i)
  | .non => some none
  | _ => none
/-- the part of a text or a tuple -/
def gSl (x : D) (lo hi : Option Int) (m : Mem) : Res D := match x with
  | .str z => if z.length ≤ sizeLine then .ok (.str (cutS z lo hi)) m else .stuck
  | .tup ds => .ok (.tup ((ds.drop (HT.sIx ds.length 0 lo)).take (HT.sIx ds.length ds.length hi - HT.sIx ds.length 0 lo))) m
  | _ => .stuck
end
end T
end
section
set_option Elab.async false
set_option linter.all false
set_option maxRecDepth 100000
/-! T6: statements; defs and their calls. -/
namespace T
open PySem PySem.Spec PyProof.Rows L2

/-! ### what a statement comes to -/
inductive Fl where
  | next | brk | cont
  | ret (d : D)
/-- the end of a statement: its way out and the slots; an error keeps the slots as they were where it arose -/
inductive SRes where
  | ok (f : Fl) (r : Slots) (m : Mem)
  | exc (c : EN) (p : Option D) (r : Slots) (m : Mem)
  | stuck
abbrev SM := Slots → Mem → SRes
def SRes.bind : SRes → (Slots → Mem → SRes) → SRes
  | .ok .next r m, k => k r m
  | x, _ => x
@[simp] theorem SRes.bind_next (r : Slots) (m : Mem) (k : Slots → Mem → SRes) : (SRes.ok .next r m).bind k = k r m := rfl
@[simp] theorem SRes.bind_ret (d : D) (r : Slots) (m : Mem) (k : Slots → Mem → SRes) : (SRes.ok (.ret d) r m).bind k = .ok (.ret d) r m := rfl
@[simp] theorem SRes.bind_brk (r : Slots) (m : Mem) (k : Slots → Mem → SRes) : (SRes.ok .brk r m).bind k = .ok .brk r m := rfl
@[simp] theorem SRes.bind_cont (r : Slots) (m : Mem) (k : Slots → Mem → SRes) : (SRes.ok .cont r m).bind k = .ok .cont r m := rfl
@[simp] theorem SRes.bind_exc (c : EN) (p : Option D) (r : Slots) (m : Mem) (k : Slots → Mem → SRes) : (SRes.exc c p r m).bind k = .exc c p r m := rfl
@[simp] theorem SRes.bind_stuck (k : Slots → Mem → SRes) : SRes.stuck.bind k = .stuck := rfl
/-- a value's end as a statement's -/
def Res.sbind {α : Type} (x : Res α) (r : Slots) (k : α → Mem → SRes) : SRes := match x with
  | .ok a m => k a m
  | .exc c p m => .exc c p r m
  | .stuck => .stuck
@[simp] theorem Res.sbind_ok {α : Type} (a : α) (m : Mem) (r : Slots) (k : α → Mem → SRes) : (Res.ok a m).sbind r k = k a m := rfl
@[simp] theorem Res.sbind_exc {α : Type} (c : EN) (p : Option D) (m : Mem) (r : Slots) (k : α → Mem → SRes) : (Res.exc c p m : Res α).sbind r k = .exc c p r m := rfl
@[simp] theorem Res.sbind_stuck {α : Type} (r : Slots) (k : α → Mem → SRes) : (Res.stuck : Res α).sbind r k = .stuck := rfl

section
variable (K : PySem.W.Frag) (mg : Str → Option Value)
def PostS (u : List Addr) (H : Hp) (W : WX) (D' : Ends) : SRes → Prop
  | .ok .next r m => ∀ u' H' σ', Grow u u' → Ext H H' → HRep K u' H' m → ERep K u' H' r σ' → D'.nx σ' H'
  | .ok .brk r m => ∀ u' H' σ', Grow u u' → Ext H H' → HRep K u' H' m → ERep K u' H' r σ' → D'.bk σ' H'
  | .ok .cont r m => ∀ u' H' σ', Grow u u' → Ext H H' → HRep K u' H' m → ERep K u' H' r σ' → D'.ct σ' H'
  | .ok (.ret d) r m => ∀ u' H' v, Grow u u' → Ext H H' → HRep K u' H' m → Rep K u' H' d v → D'.rt v H'
  | .exc c p r m => ∀ u' H' σ' cls dd, Grow u u' → Ext H H' → HRep K u' H' m → ERep K u' H' r σ' → XRep K mg u' H' c p cls dd → W cls dd σ' H'
  | .stuck => False
def tS (W : WX) (m : SM) : TS := fun D' σ H => ∃ u r μ, HRep K u H μ ∧ ERep K u H r σ ∧ PostS K mg u H W D' (m r μ)
end
section
variable {K : PySem.W.Frag} {mg : Str → Option Value} {u u1 : List Addr} {H H1 : Hp} {σ : L2.St} {W : WX}
theorem PostS.later {D' : Ends} {x : SRes} (g : Grow u u1) (e : Ext H H1) (h : PostS K mg u H W D' x) : PostS K mg u1 H1 W D' x := by
  cases x with
  | ok f r m =>
    cases f with
    | next => exact fun u' H' σ' a b c q => h u' H' σ' (g.trans a) (e.trans b) c q
    | brk => exact fun u' H' σ' a b c q => h u' H' σ' (g.trans a) (e.trans b) c q
    | cont => exact fun u' H' σ' a b c q => h u' H' σ' (g.trans a) (e.trans b) c q
    | ret d => exact fun u' H' σ' a b c q => h u' H' σ' (g.trans a) (e.trans b) c q
  | exc c p r m => exact fun u' H' σ' cls dd a b c q => h u' H' σ' cls dd (g.trans a) (e.trans b) c q
  | stuck => exact h
theorem PostS.seq {D' : Ends} {x : SRes} {k : Slots → Mem → SRes} (h : PostS K mg u H W D' (x.bind k)) :
    PostS K mg u H W { D' with nx := fun σ1 H1 => ∃ u1 r1 μ1, Grow u u1 ∧ Ext H H1 ∧ HRep K u1 H1 μ1 ∧ ERep K u1 H1 r1 σ1 ∧ x = .ok .next r1 μ1 ∧ PostS K mg u1 H1 W D' (k r1 μ1) } x := by
  cases x with
  | ok f r m =>
    cases f with
    | next => exact fun u' H' σ' a b c q => ⟨u', r, m, a, b, c, q, rfl, PostS.later a b h⟩
    | brk => exact h
    | cont => exact h
    | ret d => exact h
  | exc c p r m => exact h
  | stuck => exact h
/-- an expression ahead of the rest of a statement -/
theorem PostE.sbind {D' : Ends} {r : Slots} {x : Res D} {k : D → Mem → SRes} (he : ERep K u H r σ) (h : PostS K mg u H W D' (x.sbind r k)) :
    PostE K mg u H σ W (fun v H1 => ∃ u1 μ1 d, Grow u u1 ∧ Ext H H1 ∧ HRep K u1 H1 μ1 ∧ Rep K u1 H1 d v ∧ x = .ok d μ1 ∧ PostS K mg u1 H1 W D' (k d μ1)) x := by
  cases x with
  | ok d m => exact fun u' H' v a b c q => ⟨u', m, d, a, b, c, q, rfl, PostS.later a b h⟩
  | exc c p m => exact fun u' H' cls dd a b c q => h u' H' σ cls dd a b c (he.mono a b) q
  | stuck => exact h
theorem PostA.sbind {D' : Ends} {r : Slots} {x : Res (List D)} {k : List D → Mem → SRes} (he : ERep K u H r σ) (h : PostS K mg u H W D' (x.sbind r k)) :
    PostA K mg u H σ W (fun vs H1 => ∃ u1 μ1 ds, Grow u u1 ∧ Ext H H1 ∧ HRep K u1 H1 μ1 ∧ RepL K u1 H1 ds vs ∧ x = .ok ds μ1 ∧ PostS K mg u1 H1 W D' (k ds μ1)) x := by
  cases x with
  | ok d m => exact fun u' H' v a b c q => ⟨u', m, d, a, b, c, q, rfl, PostS.later a b h⟩
  | exc c p m => exact fun u' H' cls dd a b c q => h u' H' σ cls dd a b c (he.mono a b) q
  | stuck => exact h
theorem PostB.sbind {D' : Ends} {r : Slots} {x : Res Bool} {k : Bool → Mem → SRes} (he : ERep K u H r σ) (h : PostS K mg u H W D' (x.sbind r k)) :
    PostB K mg u H σ W (fun b H1 => ∃ u1 μ1, Grow u u1 ∧ Ext H H1 ∧ HRep K u1 H1 μ1 ∧ x = .ok b μ1 ∧ PostS K mg u1 H1 W D' (k b μ1)) x := by
  cases x with
  | ok d m => exact fun u' H' a b c => ⟨u', m, a, b, c, rfl, PostS.later a b h⟩
  | exc c p m => exact fun u' H' cls dd a b c q => h u' H' σ cls dd a b c (he.mono a b) q
  | stuck => exact h
end
structure MS (X : Cx) (st : Stmt) (m : SM) : Prop where
  run : ∀ W, Takes X W → PS X st (tS X.K X.mg W m)
structure MSs (X : Cx) (sts : List Stmt) (m : SM) : Prop where
  run : ∀ W, Takes X W → PSs X sts (tS X.K X.mg W m)
section
variable {X : Cx} {pos : Pos} {e : Expr} {m : EM} {st : Stmt} {rest : List Stmt}
def sNext : SM := fun r μ => .ok .next r μ
def sSeq (a b : SM) : SM := fun r μ => (a r μ).bind b
theorem mss_nil : MSs X [] sNext := ⟨fun W tk => PSs.weak pss_nil fun D' σ H ⟨u, r, μ, h1, h2, h3⟩ => h3 u H σ (Grow.refl _) (Ext.refl _) h1 h2⟩
theorem mss_cons {a b : SM} (h1 : MS X st a) (h2 : MSs X rest b) : MSs X (st :: rest) (sSeq a b) := by
  refine ⟨fun W tk => PSs.weak (pss_cons (h1.run W tk) (h2.run W tk)) fun D' σ H ⟨u, r, μ, h1, h2, h3⟩ => ?_⟩
  have h3' : PostS X.K X.mg u H W D' ((a r μ).bind b) := h3
  refine ⟨u, r, μ, h1, h2, ?_⟩
  have z := h3'.seq
  cases e : a r μ with
  | ok f r1 μ1 =>
    rw [e] at z
    cases f with
    | next =>
      intro u' H' σ' g x c q
      obtain ⟨u1, r2, μ2, g1, e1, k1, p1, eq, q1⟩ := z u' H' σ' g x c q
      cases eq
      exact ⟨u1, r1, μ1, k1, p1, q1⟩
    | brk => exact z
    | cont => exact z
    | ret d => exact z
  | exc c p r m => rw [e] at z; exact z
  | stuck => rw [e] at z; exact z
theorem mss_one {a : SM} (h : MS X st a) : MSs X [st] a := ⟨fun W tk => pss_one (h.run W tk)⟩
theorem ms_pass : MS X (.Pass pos) sNext := ⟨fun W tk => PS.weak ps_pass fun D' σ H ⟨u, r, μ, h1, h2, h3⟩ => h3 u H σ (Grow.refl _) (Ext.refl _) h1 h2⟩
theorem ms_cont : MS X (.Continue pos) (fun r μ => .ok .cont r μ) := ⟨fun W tk => PS.weak ps_continue fun D' σ H ⟨u, r, μ, h1, h2, h3⟩ => h3 u H σ (Grow.refl _) (Ext.refl _) h1 h2⟩
theorem ms_break : MS X (.Break pos) (fun r μ => .ok .brk r μ) := ⟨fun W tk => PS.weak ps_break fun D' σ H ⟨u, r, μ, h1, h2, h3⟩ => h3 u H σ (Grow.refl _) (Ext.refl _) h1 h2⟩
theorem ms_doc {x j pos'} : MS X (.Expr (.Constant (.str x) j pos) pos') sNext := ⟨fun W tk => PS.weak ps_doc fun D' σ H ⟨u, r, μ, h1, h2, h3⟩ => h3 u H σ (Grow.refl _) (Ext.refl _) h1 h2⟩
def sExpr (m : EM) : SM := fun r μ => (m r μ).sbind r fun _ μ1 => .ok .next r μ1
theorem ms_expr (h : ME X e m) (hs : swapsWith e none pos.line X.env = pure false := by rfl) : MS X (.Expr e pos) (sExpr m) := by
  refine ⟨fun W tk => PS.weak (ps_expr (h.run W tk) hs) fun D' σ H ⟨u, r, μ, h1, h2, h3⟩ => ?_⟩
  have h3' : PostS X.K X.mg u H W D' ((m r μ).sbind r fun _ μ1 => .ok .next r μ1) := h3
  refine ⟨u, r, μ, h1, h2, ?_⟩
  have z := PostE.sbind h2 h3'
  cases e : m r μ with
  | stuck => rw [e] at z; exact z
  | exc c p m => rw [e] at z; exact z
  | ok d m1 =>
    rw [e] at z
    intro u' H' v a b c q
    obtain ⟨u1, μ1, d1, g1, e1, k1, p1, eq, q1⟩ := z u' H' v a b c q
    exact q1 u1 H' σ (Grow.refl _) (Ext.refl _) k1 (h2.mono g1 e1)
def sRet (m : EM) : SM := fun r μ => (m r μ).sbind r fun d μ1 => .ok (.ret d) r μ1
theorem ms_ret (h : ME X e m) : MS X (.Return (some e) pos) (sRet m) := by
  refine ⟨fun W tk => PS.weak (ps_ret (h.run W tk)) fun D' σ H ⟨u, r, μ, h1, h2, h3⟩ => ?_⟩
  have h3' : PostS X.K X.mg u H W D' ((m r μ).sbind r fun d μ1 => .ok (.ret d) r μ1) := h3
  refine ⟨u, r, μ, h1, h2, ?_⟩
  have z := PostE.sbind h2 h3'
  cases e : m r μ with
  | stuck => rw [e] at z; exact z
  | exc c p m => rw [e] at z; exact z
  | ok d m1 =>
    rw [e] at z
    intro u' H' v a b c q
    obtain ⟨u1, μ1, d1, g1, e1, k1, p1, eq, q1⟩ := z u' H' v a b c q
    cases eq
    exact q1 u1 H' v (Grow.refl _) (Ext.refl _) k1 p1
theorem ms_retN : MS X (.Return none pos) (fun r μ => .ok (.ret .non) r μ) := ⟨fun W tk => PS.weak ps_retN fun D' σ H ⟨u, r, μ, h1, h2, h3⟩ => h3 u H .non (Grow.refl _) (Ext.refl _) h1 rfl⟩
def sIf (t : TM) (a b : SM) : SM := fun r μ => (t r μ).sbind r fun k μ1 => if k then a r μ1 else b r μ1
theorem ms_if {c : Expr} {t : TM} {as bs : List Stmt} {ma mb : SM} (hc : MT X c t) (ha : MSs X as ma) (hb : MSs X bs mb) : MS X (.If c as bs pos) (sIf t ma mb) := by
  refine ⟨fun W tk => PS.weak (ps_if (hc.run W tk) (ha.run W tk) (hb.run W tk)) fun D' σ H ⟨u, r, μ, h1, h2, h3⟩ => ?_⟩
  have h3' : PostS X.K X.mg u H W D' ((t r μ).sbind r fun k μ1 => if k then ma r μ1 else mb r μ1) := h3
  refine ⟨u, r, μ, h1, h2, ?_⟩
  have z := PostB.sbind h2 h3'
  cases e : t r μ with
  | stuck => rw [e] at z; exact z
  | exc c p m => rw [e] at z; exact z
  | ok k m1 =>
    rw [e] at z
    intro u' H' a b c
    obtain ⟨u1, μ1, g1, e1, k1, eq, q1⟩ := z u' H' a b c
    cases eq
    cases k with
    | true => exact ⟨u1, r, m1, k1, h2.mono g1 e1, q1⟩
    | false => exact ⟨u1, r, m1, k1, h2.mono g1 e1, q1⟩
/-! ### targets -/
abbrev GM := D → Slots → Option Slots
/-- only the slots vs are others -/
def Only (vs : List Nat) (σ σ' : L2.St) : Prop := σ'.length = σ.length ∧ ∀ j, j ∉ vs → σ'[j]? = σ[j]?
theorem Only.refl (vs : List Nat) (σ : L2.St) : Only vs σ σ := ⟨rfl, fun _ _ => rfl⟩
theorem Only.set {vs : List Nat} {σ : L2.St} {i : Nat} {x : Option V} (h : i ∈ vs) : Only vs σ (σ.set i x) := ⟨by simp, fun j hj => List.getElem?_set_ne fun z => hj (by rw [← z]; exact h)⟩
theorem Only.trans {v1 v2 : List Nat} {a b c : L2.St} (h1 : Only v1 a b) (h2 : Only v2 b c) : Only (v1 ++ v2) a c :=
  ⟨h2.1.trans h1.1, fun j hj => (h2.2 j fun z => hj (List.mem_append_right _ z)).trans (h1.2 j fun z => hj (List.mem_append_left _ z))⟩
structure MG (X : Cx) (t : Expr) (g : GM) (vs : List Nat) : Prop where
  run : ∃ tg, PG X t tg ∧ ∀ v d σ H u r r' (Q : L2.St → Hp → Prop), ERep X.K u H r σ → Rep X.K u H d v → g d r = some r' → (∀ σ', ERep X.K u H r' σ' → Only vs σ σ' → Q σ' H) → tg v σ H Q
def tgM (K : PySem.W.Frag) (g : GM) (ws : List Nat) : TG := fun v σ H Q => ∃ u d r r', ERep K u H r σ ∧ Rep K u H d v ∧ g d r = some r' ∧ ∀ σ', ERep K u H r' σ' → Only ws σ σ' → Q σ' H
theorem MG.pg {X : Cx} {t : Expr} {g : GM} {ws : List Nat} (h : MG X t g ws) : PG X t (tgM X.K g ws) := by
  obtain ⟨tg, p, q⟩ := h.run
  exact ⟨fun pins s σ H v u Q I r ⟨w, d, ra, rb, a, b, c, d'⟩ => p.run pins s σ H v u Q I r (q v d σ H w ra rb Q a b c d')⟩
def gtName (i : Nat) : GM := fun d r => some (r.set i (some d))
theorem mg_name {i : Nat} {x : Str} (hN : X.N.Nodup) (hi : X.N[i]? = some x) (hx : Loc X.env.scope x) (hf : X.fn x = true ∨ X.env.scope.names.lookup x = some .local := by first | exact .inl rfl | exact .inr rfl | assumption) : MG X (.Name x pos) (gtName i) [i] :=
  ⟨gName i, pg_name hN hi hx hf, fun v d σ H u r r' Q he hd e h => by cases e; exact h _ (he.set i hd) (Only.set (by simp))⟩
/-- the items of a tuple to the targets -/
def gtAll : List GM → List D → Slots → Option Slots
  | [], [], r => some r
  | g :: gs, d :: ds, r => (g d r).bind fun r1 => gtAll gs ds r1
  | _, _, _ => none
def gtTup (gs : List GM) : GM := fun d r => match d with
  | .tup ds => gtAll gs ds r
  | .frt ds => gtAll gs ds r
  | _ => none
structure MGs (X : Cx) (ts : List Expr) (gs : List GM) (ws : List Nat) : Prop where
  run : ∃ tg, PGs X ts tg ∧ ∀ vs ds σ H u r r' (Q : L2.St → Hp → Prop), ERep X.K u H r σ → RepL X.K u H ds vs → gtAll gs ds r = some r' → (∀ σ', ERep X.K u H r' σ' → Only ws σ σ' → Q σ' H) → tg vs σ H Q
theorem mgs_nil : MGs X [] [] [] := by
  refine ⟨gNil, pgs_nil, fun vs ds σ H u r r' Q he hd e h => ?_⟩
  cases ds with
  | nil => cases e; exact ⟨hd, h σ he (Only.refl _ _)⟩
  | cons _ _ => cases e
theorem mgs_cons {t : Expr} {ts : List Expr} {g : GM} {gs : List GM} {v1 v2 : List Nat} (h1 : MG X t g v1) (h2 : MGs X ts gs v2)
    (hs : (assignEach (t :: ts) X.env).map (·.2) = assign t X.env :: (assignEach ts X.env).map (·.2) := by rfl) : MGs X (t :: ts) (g :: gs) (v1 ++ v2) := by
  obtain ⟨t1, p1, q1⟩ := h1.run
  obtain ⟨t2, p2, q2⟩ := h2.run
  refine ⟨gCons t1 t2, pgs_cons p1 p2 hs, fun vs ds σ H u r r' Q he hd e h => ?_⟩
  cases ds with
  | nil => cases e
  | cons d ds =>
    obtain ⟨v, vr, ev, k1, k2⟩ := hd
    simp only [gtAll] at e
    obtain ⟨r1, e1, e2⟩ := Option.bind_eq_some_iff.mp e
    exact ⟨v, vr, ev, q1 v d σ H u r r1 _ he k1 e1 fun σ1 he1 o1 => q2 vr ds σ1 H u r1 r' Q he1 k2 e2 fun σ2 he2 o2 => h σ2 he2 (o1.trans o2)⟩
theorem gtAll_len : ∀ {gs : List GM} {ds : List D} {r r' : Slots}, gtAll gs ds r = some r' → ds.length = gs.length
  | [], [], _, _, _ => rfl
  | [], _ :: _, _, _, e => by cases e
  | _ :: _, [], _, _, e => by cases e
  | g :: gs, d :: ds, r, r', e => by
    simp only [gtAll] at e
    obtain ⟨r1, e1, e2⟩ := Option.bind_eq_some_iff.mp e
    rw [List.length_cons, List.length_cons, gtAll_len e2]
theorem mg_tup {ts : List Expr} {k : Nat} {gs : List GM} {ws : List Nat} (hc : X.calm = true) (h : MGs X ts gs ws)
    (hl : (assignEach ts X.env).length = gs.length := by rfl) (hst : (assignEach ts X.env).findIdx? (·.1) = none := by rfl) : MG X (.Tuple ts k pos) (gtTup gs) ws := by
  obtain ⟨t, p, q⟩ := h.run
  refine ⟨gTup X.K gs.length t, pg_tup hc p hl hst, fun v d σ H u r r' Q he hd e h => ?_⟩
  cases d with
  | tup ds =>
    obtain ⟨a, xs, ev, h1, h2⟩ := hd
    exact ⟨a, xs, ev, SqT.of h1, by rw [h2.length, gtAll_len e], q xs ds σ H u r r' Q he h2 e h⟩
  | frt ds =>
    obtain ⟨a, xs, ev, h1, h2⟩ := hd
    exact ⟨a, xs, ev, h1.sq, by rw [h2.length, gtAll_len e], q xs ds σ H u r r' Q he h2 e h⟩
  | _ => cases e
/-! ### assignments -/
def sAsg (m : EM) (g : GM) : SM := fun r μ => (m r μ).sbind r fun d μ1 => match g d r with
  | some r' => .ok .next r' μ1
  | none => .stuck
theorem asg_core {W : WX} {D' : Ends} {σ : L2.St} {H : Hp} {te : TE} {tg : TG} {g : GM} (hte : ∀ σ H Q, tE X.K X.mg W m σ H Q → te σ H Q)
    {ws : List Nat} (q : ∀ v d σ H u r r' (Q : L2.St → Hp → Prop), ERep X.K u H r σ → Rep X.K u H d v → g d r = some r' → (∀ σ', ERep X.K u H r' σ' → Only ws σ σ' → Q σ' H) → tg v σ H Q) (h : tS X.K X.mg W (sAsg m g) D' σ H) : te σ H fun x H1 => tg x σ H1 D'.nx := by
  obtain ⟨u, r, μ, h1, h2, h3⟩ := h
  have h3' : PostS X.K X.mg u H W D' ((m r μ).sbind r fun d μ1 => match g d r with | some r' => .ok .next r' μ1 | none => .stuck) := h3
  refine hte σ H _ ⟨u, r, μ, h1, h2, ?_⟩
  have z := PostE.sbind h2 h3'
  cases e : m r μ with
  | stuck => rw [e] at z; exact z
  | exc c p m => rw [e] at z; exact z
  | ok d m1 =>
    rw [e] at z
    intro u' H' v a b c k
    obtain ⟨u1, μ1, d1, g1, e1, k1, p1, eq, q1⟩ := z u' H' v a b c k
    cases eq
    cases e2 : g d r with
    | none => simp only [e2] at q1; exact q1.elim
    | some r' =>
      simp only [e2] at q1
      exact q v d σ H' u1 r r' _ (h2.mono g1 e1) p1 e2 fun σ' he _ => q1 u1 H' σ' (Grow.refl _) (Ext.refl _) k1 he
theorem ms_asg {t : Expr} {g : GM} {ws : List Nat} (he : ME X e m) (hg : MG X t g ws) (hs : swapsWithSole [t] e pos.line X.env = pure false := by rfl) (hw : swappedStores [t] e X.env = pure none := by rfl)
    (h1 : (assignEach [t] X.env).map (·.2) = [assign t X.env] := by rfl) : MS X (.Assign [t] e pos) (sAsg m g) := by
  obtain ⟨tg, pg, q⟩ := hg.run
  exact ⟨fun W tk => PS.weak (ps_asg (he.run W tk) pg hs hw h1) fun D' σ H h => asg_core (fun _ _ _ x => x) q h⟩
theorem ms_set {i : Nat} {x : Str} {pos' : Pos} (hN : X.N.Nodup) (hi : X.N[i]? = some x) (hx : Loc X.env.scope x) (he : ME X e m) (hs : swapsWith e (some (.Name x pos')) pos.line X.env = pure false := by rfl) (hf : X.fn x = true ∨ X.env.scope.names.lookup x = some .local := by first | exact .inl rfl | exact .inr rfl | assumption) :
    MS X (.Assign [.Name x pos'] e pos) (sAsg m (gtName i)) := by
  obtain ⟨tg, pg, q⟩ := (mg_name (pos := pos') hN hi hx hf).run
  exact ⟨fun W tk => PS.weak (ps_set hN hi hx (he.run W tk) hs hf) fun D' σ H h => asg_core (tg := gName i) (ws := [i]) (fun _ _ _ x => x) (fun v d σ H u r r' Q he hd e h => by cases e; exact h _ (he.set i hd) (Only.set (by simp))) h⟩
/-- a, b = x, y -/
def sPar (i j : Nat) (ms : LM) : SM := fun r μ => (ms r μ).sbind r fun ds μ1 => match ds with
  | [x, y] => .ok .next ((r.set i (some x)).set j (some y)) μ1
  | _ => .stuck
theorem ms_par {i j : Nat} {x y : Str} {a b : Expr} {ms : LM} {px py pt : Pos} {kt k2 pt2} (hc : X.calm = true) (hN : X.N.Nodup) (hi : X.N[i]? = some x) (hj : X.N[j]? = some y) (hij : i ≠ j)
    (hx : X.env.scope.names.lookup x = some .local) (hy : X.env.scope.names.lookup y = some .local) (ha : MA X [a, b] ms)
    (hw : swappedStores [.Tuple [.Name x px, .Name y py] kt pt] (.Tuple [a, b] k2 pt2) X.env = pure (some [x, y]))
    (hs : swapsWithSole [.Tuple [.Name x px, .Name y py] kt pt] (.Tuple [a, b] k2 pt2) pos.line X.env = pure false := by rfl) :
    MS X (.Assign [.Tuple [.Name x px, .Name y py] kt pt] (.Tuple [a, b] k2 pt2) pos) (sPar i j ms) := by
  refine ⟨fun W tk => PS.weak (ps_par hc hN hi hj hij hx hy (ha.run W tk) hw hs) fun D' σ H ⟨u, r, μ, h1, h2, h3⟩ => ?_⟩
  have h3' : PostS X.K X.mg u H W D' ((ms r μ).sbind r fun ds μ1 => match ds with | [x, y] => .ok .next ((r.set i (some x)).set j (some y)) μ1 | _ => .stuck) := h3
  refine ⟨u, r, μ, h1, h2, ?_⟩
  have z := PostA.sbind h2 h3'
  cases e : ms r μ with
  | stuck => rw [e] at z; exact z
  | exc c p m => rw [e] at z; exact z
  | ok ds m1 =>
    rw [e] at z
    intro u' H' vs a b c q
    obtain ⟨u1, μ1, d1, g1, e1, k1, p1, eq, q1⟩ := z u' H' vs a b c q
    cases eq
    match ds, q1, p1 with
    | [d1, d2], q1, ⟨v, _, e3, r1, w, _, e4, r2, e5⟩ =>
      subst e3 e4
      rw [show _ = [] from e5]
      exact ⟨v, w, rfl, q1 u1 H' _ (Grow.refl _) (Ext.refl _) k1 (((h2.mono g1 e1).set i r1).set j r2)⟩
    | [], q1, _ => exact q1.elim
    | [_], q1, _ => exact q1.elim
    | _ :: _ :: _ :: _, q1, _ => exact q1.elim
/-! ### stores into lists and dicts -/
/-- o[i] = d -/
def putIx (o i d : D) (m : Mem) : Option Mem := match o with
  | .obj n => match m[n]? with
    | some (.lst ds) => match i with
      | .int k => match ixN ds.length k with
        | some j => some (m.set n (.lst (ds.set j d)))
        | none => none
      | _ => none
    | some (.dct kvs) => if fits kvs i && decide (kvs.length < sizeLine) then some (m.set n (.dct (dput kvs i d))) else none
    | _ => none
  | _ => none
def sPut (mv mo mi : EM) : SM := fun r μ => (mv r μ).sbind r fun d μ1 => (mo r μ1).sbind r fun o μ2 => (mi r μ2).sbind r fun i μ3 => match putIx o i d μ3 with
  | some μ4 => .ok .next r μ4
  | none => .stuck
theorem ms_put {o i value : Expr} {mo mi mv : EM} {pos' : Pos} (hu : X.A.units + 1 < cLine) (ho : ME X o mo) (hi : ME X i mi) (hv : ME X value mv) (hs : swapsWith value (some (.Subscript o i pos')) pos.line X.env = pure false := by rfl) :
    MS X (.Assign [.Subscript o i pos'] value pos) (sPut mv mo mi) := by
  refine ⟨fun W tk => ⟨fun pins s σ H D' I ⟨u, r, μ, h1, h2, h3⟩ => ?_⟩⟩
  have h3' : PostS X.K X.mg u H W D' ((mv r μ).sbind r fun d μ1 => (mo r μ1).sbind r fun o μ2 => (mi r μ2).sbind r fun i μ3 => match putIx o i d μ3 with | some μ4 => .ok .next r μ4 | none => .stuck) := h3
  refine wpAny_Assign_Subscript (thn ((hv.run W tk).run pins s σ H _ I ⟨u, r, μ, h1, h2, PostE.sbind h2 h3'⟩) fun rv s1 ⟨v, H1, I1, rrv, u1, μ1, d, g1, e1, k1, p1, _, q1⟩ => ?_) hs
  have he1 := h2.mono g1 e1
  refine thn ((ho.run W tk).run pins s1 σ H1 _ I1 ⟨u1, r, μ1, k1, he1, PostE.sbind he1 q1⟩) fun ov s2 ⟨x, H2, I2, rx, u2, μ2, dx, g2, e2, k2, p2, _, q2⟩ => ?_
  have he2 := he1.mono g2 e2
  refine thn ((hi.run W tk).run pins s2 σ H2 _ I2 ⟨u2, r, μ2, k2, he2, PostE.sbind he2 q2⟩) fun iv s3 ⟨y, H3, I3, ry, u3, μ3, dy, g3, e3, k3, p3, _, q3⟩ => ?_
  have he3 := he2.mono g3 e3
  have pd : Rep X.K u3 H3 d v := Rep.mono (g2.trans g3) (e2.trans e3) d p1
  have px : Rep X.K u3 H3 dx x := Rep.mono g3 e3 dx p2
  cases e : putIx dx dy d μ3 with
  | none => simp only [e] at q3; exact q3.elim
  | some μ4 =>
    simp only [e] at q3
    unfold putIx at e
    cases dx with
    | obj n =>
      simp only at e
      cases em : μ3[n]? with
      | none => rw [em] at e; cases e
      | some c =>
        rw [em] at e
        cases c with
        | lst ds =>
          cases dy with
          | int kk =>
            simp only at e
            cases ej : ixN ds.length kk with
            | none => rw [ej] at e; cases e
            | some j =>
              rw [ej] at e
              cases e
              obtain ⟨p, ex, hu3⟩ := px
              obtain ⟨ob, hp, hl⟩ := k3.cell n _ p em hu3
              cases ob with
              | lst xs =>
                have hl : RepL X.K u3 H3 ds xs := hl
                have hx : Ext H3 (upd H3 p (.lst (xs.set j v))) := ext_wr hp (fun _ z => nomatch z) (fun _ _ z => nomatch z) (fun _ z => nomatch z)
                refine thn (set_list pins s3 σ H3 x y v ov iv rv _ I3 rx ry rrv ⟨p, xs, kk, j, ex, p3, hp, by rw [hl.length]; exact ej, ?_⟩) fun _ s4 ⟨H4, I4, q4⟩ => ⟨σ, H4, I4, q4⟩
                exact q3 u3 _ σ (Grow.refl _) hx (k3.write hx (fun a ha hne _ => Kept.put hp hne (fun _ z => nomatch z) (fun _ z => nomatch z)) hu3 ⟨_, upd_same, RepL.mono (Grow.refl _) hx _ (hl.set pd)⟩ (by rw [upd_same]; exact fun z => nomatch z)) (he3.mono (Grow.refl _) hx)
              | _ => exact hl.elim
          | _ => cases e
        | dct kvs =>
          simp only at e
          by_cases hc : (fits kvs dy && decide (kvs.length < sizeLine)) = true
          · rw [if_pos hc] at e
            cases e
            rw [Bool.and_eq_true] at hc
            have hz := of_decide_eq_true hc.2
            obtain ⟨p, H4, ex, hu3, I4, k4, e4, hh⟩ := dct_ready I3 k3 em px hc.1
            have p3' : Rep X.K u3 H4 dy y := Rep.mono (Grow.refl _) e4 dy p3
            have pd' : Rep X.K u3 H4 d v := Rep.mono (Grow.refl _) e4 d pd
            subst ex
            have eo : ov = Value.ref p := rx
            subst eo
            rcases hh with ⟨kk, ys, hk, hp, hl⟩ | ⟨kk, ys, hk, hp, hl⟩
            · have ey := keyD_v hk p3'
              subst ey
              have hx : Ext H4 (upd H4 p (.dK (putK ys kk v))) := ext_wr hp (fun _ z => nomatch z) (fun _ _ z => nomatch z) (fun _ z => nomatch z)
              refine d_setItem hu I4 (DPut.k hp (by rw [hl.length]; exact hz)) ry rrv fun s5 I5 => ⟨σ, _, I5, ?_⟩
              exact q3 u3 _ σ (Grow.refl _) (e4.trans hx) (k4.write hx (fun a ha hne _ => Kept.put hp hne (fun _ z => nomatch z) (fun _ z => nomatch z)) hu3 ⟨_, upd_same, PairK.mono (Grow.refl _) hx (hl.put hk pd')⟩ (by rw [upd_same]; exact fun z => nomatch z)) (he3.mono (Grow.refl _) (e4.trans hx))
            · obtain ⟨b, ey, hb⟩ := keyT_v hk p3'
              subst ey
              have hx : Ext H4 (upd H4 p (.dT (putK ys kk v))) := ext_wr hp (fun _ z => nomatch z) (fun _ _ z => nomatch z) (fun _ z => nomatch z)
              refine d_setItem hu I4 (DPut.t hp hb (by rw [hl.length]; exact hz)) ry rrv fun s5 I5 => ⟨σ, _, I5, ?_⟩
              exact q3 u3 _ σ (Grow.refl _) (e4.trans hx) (k4.write hx (fun a ha hne _ => Kept.put hp hne (fun _ z => nomatch z) (fun _ z => nomatch z)) hu3 ⟨_, upd_same, PairT.mono (Grow.refl _) hx (hl.put hk pd')⟩ (by rw [upd_same]; exact fun z => nomatch z)) (he3.mono (Grow.refl _) (e4.trans hx))
          · rw [if_neg hc] at e
            cases e
        | _ => cases e
    | _ => cases e
end
end T
end
section
set_option Elab.async false
set_option linter.all false
set_option maxRecDepth 100000
/-! T7: defs of the text, what they promise, their calls; garbage. -/
namespace T
open PySem PySem.Spec PyProof.Rows L2

/-! ### references -/
mutual
/-- all objects are below n -/
def D.lt (n : Nat) : D → Bool
  | .obj k => decide (k < n)
  | .tup ds => D.lts n ds
  | .frl ds => D.lts n ds
  | .frt ds => D.lts n ds
  | .clo _ _ _ _ _ ds => D.lts n ds
  | _ => true
def D.lts (n : Nat) : List D → Bool
  | [] => true
  | d :: ds => D.lt n d && D.lts n ds
end
def D.ltO (n : Nat) : Option D → Bool
  | none => true
  | some d => D.lt n d
def Cell.lt (n : Nat) : Cell → Bool
  | .lst ds => D.lts n ds
  | .dct kvs => kvs.all fun p => D.lt n p.1 && D.lt n p.2
  | .lk c => Cell.lt n c
  | .ins _ vs => vs.all (D.ltO n)
  | .tab _ _ => true
def WF (m : Mem) : Prop := ∀ c ∈ m, Cell.lt m.length c = true
section
variable {K : PySem.W.Frag} {u : List Addr} {H : Hp}
mutual
theorem Rep.lt : ∀ (d : D) {v : V}, Rep K u H d v → D.lt u.length d = true
  | .non, _, _ => rfl
  | .bl _, _, _ => rfl
  | .int _, _, _ => rfl
  | .str _, _, _ => rfl
  | .tup ds, _, ⟨_, _, _, _, h⟩ => by simp only [D.lt]; exact RepL.lt ds h
  | .obj n, _, ⟨a, _, h⟩ => decide_eq_true (List.getElem?_eq_some_iff.mp h).1
  | .glo _, _, _ => rfl
  | .cls _, _, _ => rfl
  | .ty _, _, _ => rfl
  | .clo _ _ _ _ _ ds, _, ⟨_, _, _, h, _⟩ => by simp only [D.lt]; exact RepL.lt ds h
  | .frl ds, _, ⟨_, _, _, _, h⟩ => by simp only [D.lt]; exact RepL.lt ds h
  | .frt ds, _, ⟨_, _, _, _, h⟩ => by simp only [D.lt]; exact RepL.lt ds h
theorem RepL.lt : ∀ (ds : List D) {xs : List V}, RepL K u H ds xs → D.lts u.length ds = true
  | [], _, _ => rfl
  | d :: ds, _, ⟨_, _, _, h1, h2⟩ => by simp only [D.lts, Rep.lt d h1, RepL.lt ds h2, Bool.and_self]
end
theorem keyD_lt {d : D} {n : Nat} (h : (keyD d).isSome = true) : D.lt n d = true := by cases d <;> first | rfl | cases h
theorem keyDs_lt : ∀ {ds : List D} {n : Nat} {ks : List Key}, keyDs ds = some ks → D.lts n ds = true
  | [], _, _, _ => rfl
  | d :: ds, n, ks, h => by
    simp only [keyDs] at h
    split at h
    · rename_i k ks' h1 h2
      simp only [D.lts, keyD_lt (n := n) (d := d) (by rw [h1]; rfl), keyDs_lt (n := n) h2, Bool.and_self]
    · cases h
theorem keyT_lt {d : D} {n : Nat} {ks : List Key} (h : keyT d = some ks) : D.lt n d = true := by
  cases d with
  | tup ds => simp only [D.lt]; exact keyDs_lt h
  | _ => cases h
theorem PairK.lt : ∀ {kvs : List (D × D)} {ys : List (Key × V)}, PairK K u H kvs ys → (kvs.all fun p => D.lt u.length p.1 && D.lt u.length p.2) = true
  | [], _, _ => rfl
  | p :: ps, _, ⟨k, v, r, e, h1, h2, h3⟩ => by rw [List.all_cons, PairK.lt h3, Rep.lt p.2 h2, keyD_lt (by rw [h1]; rfl)]; rfl
theorem PairT.lt : ∀ {kvs : List (D × D)} {ys : List (List Key × V)}, PairT K u H kvs ys → (kvs.all fun p => D.lt u.length p.1 && D.lt u.length p.2) = true
  | [], _, _ => rfl
  | p :: ps, _, ⟨k, v, r, e, h1, h2, h3⟩ => by rw [List.all_cons, PairT.lt h3, Rep.lt p.2 h2, keyT_lt h1]; rfl
theorem DctO.lt {kvs : List (D × D)} {o : HO} (h : DctO K u H kvs o) : (kvs.all fun p => D.lt u.length p.1 && D.lt u.length p.2) = true := by
  cases o with
  | dK ys => exact PairK.lt h
  | dT ys => exact PairT.lt h
  | _ => exact h.elim
theorem LstO.lt {ds : List D} {o : HO} (h : LstO K u H ds o) : D.lts u.length ds = true := by
  cases o with
  | lst ys => exact RepL.lt ds h
  | _ => exact h.elim
theorem CRep.lt {a : Addr} : ∀ {c : Cell}, CRep K u H a c → Cell.lt u.length c = true
  | .lst ds, ⟨o, _, h⟩ => LstO.lt h
  | .dct ds, ⟨o, _, h⟩ => DctO.lt h
  | .lk (.lst ds), ⟨_, o, _, h⟩ => LstO.lt h
  | .lk (.dct ds), ⟨_, o, _, h⟩ => DctO.lt h
  | .tab _ _, _ => rfl
  | .ins c vs, ⟨dx, xs, _, h⟩ => by
    refine List.all_eq_true.mpr fun o ho => ?_
    cases o with
    | none => rfl
    | some d =>
      obtain ⟨i, hi⟩ := List.getElem?_of_mem ho
      obtain ⟨v, _, r⟩ := h i d hi
      exact Rep.lt d r
theorem HRep.wf {m : Mem} (k : HRep K u H m) : WF m := fun c hc => by
  obtain ⟨i, hi⟩ := List.getElem?_of_mem hc
  have hl : i < u.length := by rw [k.len]; exact (List.getElem?_eq_some_iff.mp hi).1
  rw [← k.len]
  exact CRep.lt (k.cell i c u[i] hi (List.getElem?_eq_getElem hl))
end

/-! ### names of objects exchanged: what a def leaves behind and no one reaches is dropped -/
mutual
def D.ren (l : List Nat) : D → D
  | .obj k => .obj (l.getD k 0)
  | .tup ds => .tup (D.rens l ds)
  | .frl ds => .frl (D.rens l ds)
  | .frt ds => .frt (D.rens l ds)
  | .clo f c q σ js ds => .clo f c q σ js (D.rens l ds)
  | d => d
def D.rens (l : List Nat) : List D → List D
  | [] => []
  | d :: ds => D.ren l d :: D.rens l ds
end
def D.renO (l : List Nat) : Option D → Option D
  | none => none
  | some d => some (D.ren l d)
def Cell.ren (l : List Nat) : Cell → Cell
  | .lst ds => .lst (D.rens l ds)
  | .dct kvs => .dct (kvs.map fun p => (p.1, D.ren l p.2))
  | .lk c => .lk (Cell.ren l c)
  | .ins c vs => .ins c (vs.map (D.renO l))
  | .tab P q => .tab P q
/-- the cells m1 lie among the cells M, at the places l -/
structure Sub (l : List Nat) (M m1 : Mem) : Prop where
  len : l.length = m1.length
  nd : l.Nodup
  at_ : ∀ (i : Nat) (c : Cell), m1[i]? = some c → ∃ j, l[i]? = some j ∧ M[j]? = some (Cell.ren l c) ∧ Cell.lt m1.length c = true
section
variable {K : PySem.W.Frag} {u : List Addr} {H : Hp}
mutual
theorem Rep.ren {l : List Nat} {w : List Addr} (hw : ∀ i, i < l.length → w[i]? = u[l.getD i 0]?) : ∀ (d : D) {v : V}, D.lt l.length d = true → Rep K u H (D.ren l d) v → Rep K w H d v
  | .non, _, _, h => h
  | .bl _, _, _, h => h
  | .int _, _, _, h => h
  | .str _, _, _, h => h
  | .tup ds, _, q, h => by
    simp only [D.ren, Rep] at h
    simp only [D.lt] at q
    obtain ⟨a, xs, e, h1, h2⟩ := h
    exact ⟨a, xs, e, h1, RepL.ren hw ds q h2⟩
  | .obj n, _, q, h => by
    simp only [D.ren, Rep] at h
    obtain ⟨a, e, h1⟩ := h
    exact ⟨a, e, by rw [hw n (of_decide_eq_true q)]; exact h1⟩
  | .glo _, _, _, h => h
  | .cls _, _, _, h => h
  | .ty _, _, _, h => h
  | .clo _ _ _ _ _ ds, _, q, h => by
    simp only [D.ren, Rep] at h
    simp only [D.lt] at q
    obtain ⟨h1, h2, xs, h3, h4⟩ := h
    exact ⟨h1, h2, xs, RepL.ren hw ds q h3, h4⟩
  | .frl ds, _, q, h => by
    simp only [D.ren, Rep] at h
    simp only [D.lt] at q
    obtain ⟨a, xs, e, h1, h2⟩ := h
    exact ⟨a, xs, e, h1, RepL.ren hw ds q h2⟩
  | .frt ds, _, q, h => by
    simp only [D.ren, Rep] at h
    simp only [D.lt] at q
    obtain ⟨a, xs, e, h1, h2⟩ := h
    exact ⟨a, xs, e, h1, RepL.ren hw ds q h2⟩
theorem RepL.ren {l : List Nat} {w : List Addr} (hw : ∀ i, i < l.length → w[i]? = u[l.getD i 0]?) : ∀ (ds : List D) {xs : List V}, D.lts l.length ds = true → RepL K u H (D.rens l ds) xs → RepL K w H ds xs
  | [], _, _, h => h
  | d :: ds, _, q, h => by
    simp only [D.rens, RepL] at h
    simp only [D.lts, Bool.and_eq_true] at q
    obtain ⟨x, r, e, h1, h2⟩ := h
    exact ⟨x, r, e, Rep.ren hw d q.1 h1, RepL.ren hw ds q.2 h2⟩
end
theorem PairK.ren {l : List Nat} {w : List Addr} (hw : ∀ i, i < l.length → w[i]? = u[l.getD i 0]?) : ∀ {kvs : List (D × D)} {ys : List (Key × V)}, (kvs.all fun p => D.lt l.length p.1 && D.lt l.length p.2) = true → PairK K u H (kvs.map fun p => (p.1, D.ren l p.2)) ys → PairK K w H kvs ys
  | [], _, _, h => h
  | p :: ps, _, q, ⟨k, v, r, e, h1, h2, h3⟩ => by
    rw [List.all_cons, Bool.and_eq_true, Bool.and_eq_true] at q
    exact ⟨k, v, r, e, h1, Rep.ren hw p.2 q.1.2 h2, PairK.ren hw q.2 h3⟩
theorem PairT.ren {l : List Nat} {w : List Addr} (hw : ∀ i, i < l.length → w[i]? = u[l.getD i 0]?) : ∀ {kvs : List (D × D)} {ys : List (List Key × V)}, (kvs.all fun p => D.lt l.length p.1 && D.lt l.length p.2) = true → PairT K u H (kvs.map fun p => (p.1, D.ren l p.2)) ys → PairT K w H kvs ys
  | [], _, _, h => h
  | p :: ps, _, q, ⟨k, v, r, e, h1, h2, h3⟩ => by
    rw [List.all_cons, Bool.and_eq_true, Bool.and_eq_true] at q
    exact ⟨k, v, r, e, h1, Rep.ren hw p.2 q.1.2 h2, PairT.ren hw q.2 h3⟩
theorem DctO.ren {l : List Nat} {w : List Addr} (hw : ∀ i, i < l.length → w[i]? = u[l.getD i 0]?) {kvs : List (D × D)} {o : HO} (q : (kvs.all fun p => D.lt l.length p.1 && D.lt l.length p.2) = true) (h : DctO K u H (kvs.map fun p => (p.1, D.ren l p.2)) o) : DctO K w H kvs o := by
  cases o with
  | dK ys => exact PairK.ren hw q h
  | dT ys => exact PairT.ren hw q h
  | _ => exact h.elim
theorem LstO.ren {l : List Nat} {w : List Addr} (hw : ∀ i, i < l.length → w[i]? = u[l.getD i 0]?) {ds : List D} {o : HO} (q : D.lts l.length ds = true) (h : LstO K u H (D.rens l ds) o) : LstO K w H ds o := by
  cases o with
  | lst ys => exact RepL.ren hw ds q h
  | _ => exact h.elim
theorem CRep.ren {l : List Nat} {w : List Addr} (hw : ∀ i, i < l.length → w[i]? = u[l.getD i 0]?) {a : Addr} : ∀ {c : Cell}, Cell.lt l.length c = true → CRep K u H a (Cell.ren l c) → CRep K w H a c
  | .lst ds, q, ⟨o, h1, h⟩ => ⟨o, h1, LstO.ren hw q h⟩
  | .dct ds, q, ⟨o, h1, h⟩ => ⟨o, h1, DctO.ren hw q h⟩
  | .lk (.lst ds), q, ⟨ob, o, h1, h⟩ => ⟨ob, o, h1, LstO.ren hw q h⟩
  | .lk (.dct ds), q, ⟨ob, o, h1, h⟩ => ⟨ob, o, h1, DctO.ren hw q h⟩
  | .lk (.lk c), _, h => h.elim
  | .lk (.tab P q), _, h => h.elim
  | .tab P q, _, h => h
  | .lk (.ins c vs), _, h => h.elim
  | .ins c vs, q, ⟨dx, xs, h1, h2⟩ => by
    refine ⟨dx, xs, h1, fun i d hd => ?_⟩
    obtain ⟨v, e, r⟩ := h2 i (D.ren l d) (by rw [List.getElem?_map, hd]; rfl)
    exact ⟨v, e, Rep.ren hw d (List.all_eq_true.mp q (some d) (List.mem_of_getElem? hd)) r⟩
/-- the cells that are kept -/
theorem HRep.sub {l : List Nat} {M m1 : Mem} (k : HRep K u H M) (s : Sub l M m1) : ∃ w : List Addr, w = l.map (fun j => u.getD j 0) ∧ HRep K w H m1 ∧ ∀ i, i < l.length → w[i]? = u[l.getD i 0]? := by
  have inb : ∀ (i : Nat), i < l.length → l.getD i 0 < u.length := fun i hi => by
    have h1 : i < m1.length := by rw [← s.len]; exact hi
    obtain ⟨j, e1, e2, _⟩ := s.at_ i m1[i] (List.getElem?_eq_getElem h1)
    rw [List.getD_eq_getElem?_getD, e1, Option.getD_some, k.len]
    exact (List.getElem?_eq_some_iff.mp e2).1
  have hw : ∀ i, i < l.length → (l.map fun j => u.getD j 0)[i]? = u[l.getD i 0]? := fun i hi => by
    have h2 := inb i hi
    rw [List.getElem?_map, List.getElem?_eq_getElem hi]
    rw [List.getD_eq_getElem?_getD, List.getElem?_eq_getElem hi] at h2 ⊢
    simp only [Option.getD_some, Option.map_some] at h2 ⊢
    rw [List.getD_eq_getElem?_getD, List.getElem?_eq_getElem h2]
    rfl
  refine ⟨_, rfl, ⟨by rw [List.length_map]; exact s.len, ?_, fun a ha => ?_, fun i c a e1 e2 => ?_⟩, hw⟩
  · refine List.pairwise_map.mpr (List.Pairwise.imp_of_mem (fun {x y} hx hy hne => ?_) s.nd)
    obtain ⟨i, hi⟩ := List.getElem?_of_mem hx
    obtain ⟨j, hj⟩ := List.getElem?_of_mem hy
    have bx : x < u.length := by
      have z := inb i (List.getElem?_eq_some_iff.mp hi).1
      rw [List.getD_eq_getElem?_getD, hi] at z
      exact z
    have by_ : y < u.length := by
      have z := inb j (List.getElem?_eq_some_iff.mp hj).1
      rw [List.getD_eq_getElem?_getD, hj] at z
      exact z
    rw [List.getD_eq_getElem?_getD, List.getD_eq_getElem?_getD, List.getElem?_eq_getElem bx, List.getElem?_eq_getElem by_]
    exact fun z => hne ((List.getElem_inj k.nd).mp z)
  · obtain ⟨j, hj, e⟩ := List.mem_map.mp ha
    obtain ⟨i, hi⟩ := List.getElem?_of_mem hj
    have bx : j < u.length := by
      have z := inb i (List.getElem?_eq_some_iff.mp hi).1
      rw [List.getD_eq_getElem?_getD, hi] at z
      exact z
    rw [List.getD_eq_getElem?_getD, List.getElem?_eq_getElem bx] at e
    rw [← e]
    exact k.there _ (List.getElem_mem bx)
  · obtain ⟨j, q1, q2, q3⟩ := s.at_ i c e1
    have hi : i < l.length := (List.getElem?_eq_some_iff.mp q1).1
    rw [hw i hi, List.getD_eq_getElem?_getD, q1] at e2
    refine CRep.ren hw (by rw [s.len]; exact q3) (k.cell j _ a q2 e2)
end

/-- what is promised of a run: r the run of the body, r' the promise; the cells below n stand at their places -/
inductive Refn (n : Nat) : Res D → Res D → Prop where
  | stuck (r : Res D) : Refn n r .stuck
  | refl (r : Res D) : Refn n r r
  | ok {l : List Nat} {M m1 : Mem} {d : D} (s : Sub l M m1) (hn : ∀ i, i < n → l[i]? = some i) (hd : D.lt m1.length d = true) : Refn n (.ok (D.ren l d) M) (.ok d m1)
  | exc {l : List Nat} {M m1 : Mem} {c : EN} {p : Option D} (s : Sub l M m1) (hn : ∀ i, i < n → l[i]? = some i) (hd : D.ltO m1.length p = true) : Refn n (.exc c (D.renO l p) M) (.exc c p m1)

def PostF (K : PySem.W.Frag) (mg : Str → Option Value) (u : List Addr) (H : Hp) (Q : VK) (E : XK) : Res D → Prop
  | .ok d m => ∀ u' H' v, Grow u u' → Ext H H' → HRep K u' H' m → Rep K u' H' d v → Q v H'
  | .exc c p m => ∀ u' H' cls dd, Grow u u' → Ext H H' → HRep K u' H' m → XRep K mg u' H' c p cls dd → E cls dd H'
  | .stuck => False
theorem grow_of {u u' : List Addr} {l : List Nat} {n : Nat} (g : Grow u u') (hn : u.length = n) (hl : ∀ i, i < n → l[i]? = some i) : Grow u (l.map fun j => u'.getD j 0) := by
  obtain ⟨t, rfl⟩ := g
  refine ⟨(l.map fun j => (u ++ t).getD j 0).drop n, ?_⟩
  have hlen : n ≤ l.length := by
    cases n with
    | zero => exact Nat.zero_le _
    | succ k => exact (List.getElem?_eq_some_iff.mp (hl k (Nat.lt_succ_self k))).1
  have e : (l.map fun j => (u ++ t).getD j 0).take n = u := by
    refine List.ext_getElem? fun i => ?_
    by_cases hi : i < n
    · rw [List.getElem?_take_of_lt hi, List.getElem?_map, hl i hi]
      have hu : i < u.length := by omega
      rw [Option.map_some, List.getD_eq_getElem?_getD, List.getElem?_append_left hu, List.getElem?_eq_getElem hu]
      rfl
    · rw [List.getElem?_take_eq_none (by omega), List.getElem?_eq_none (by omega)]
  refine (List.take_append_drop n _).symm.trans ?_
  rw [e]
theorem PostF.refn {K : PySem.W.Frag} {mg : Str → Option Value} {u : List Addr} {H : Hp} {Q : VK} {E : XK} {r r' : Res D} (h : Refn u.length r r') (q : PostF K mg u H Q E r') : PostF K mg u H Q E r := by
  cases h with
  | stuck r => exact q.elim
  | refl r => exact q
  | ok s hn hd =>
    intro u' H' v g e k rv
    obtain ⟨w, ew, kw, hw⟩ := k.sub s
    refine q w H' v (by rw [ew]; exact grow_of g rfl hn) e kw (Rep.ren hw _ (by rw [s.len]; exact hd) rv)
  | @exc l M m1 c p s hn hd =>
    intro u' H' cls dd g e k rv
    obtain ⟨w, ew, kw, hw⟩ := k.sub s
    refine q w H' cls dd (by rw [ew]; exact grow_of g rfl hn) e kw ⟨rv.1, ?_⟩
    cases p with
    | none => exact rv.2
    | some d =>
      obtain ⟨a, v, e1, e2, e3⟩ := rv.2
      exact ⟨a, v, e1, e2, Rep.ren hw d (by rw [s.len]; exact hd) e3⟩

/-! ### lists of places -/
theorem getD_range {n i : Nat} (h : i < n) : (List.range n).getD i 0 = i := by
  rw [List.getD_eq_getElem?_getD, List.getElem?_range h]
  rfl
mutual
theorem D.ren_id {n : Nat} : ∀ {d : D}, D.lt n d = true → D.ren (List.range n) d = d
  | .non, _ => rfl
  | .bl _, _ => rfl
  | .int _, _ => rfl
  | .str _, _ => rfl
  | .tup ds, q => by simp only [D.lt] at q; simp only [D.ren, D.rens_id q]
  | .obj k, q => by simp only [D.ren, getD_range (of_decide_eq_true q)]
  | .glo _, _ => rfl
  | .cls _, _ => rfl
  | .ty _, _ => rfl
  | .clo _ _ _ _ _ ds, q => by simp only [D.lt] at q; simp only [D.ren, D.rens_id q]
  | .frl ds, q => by simp only [D.lt] at q; simp only [D.ren, D.rens_id q]
  | .frt ds, q => by simp only [D.lt] at q; simp only [D.ren, D.rens_id q]
theorem D.rens_id {n : Nat} : ∀ {ds : List D}, D.lts n ds = true → D.rens (List.range n) ds = ds
  | [], _ => rfl
  | d :: ds, q => by simp only [D.lts, Bool.and_eq_true] at q; simp only [D.rens, D.ren_id q.1, D.rens_id q.2]
end
theorem Cell.ren_id {n : Nat} : ∀ {c : Cell}, Cell.lt n c = true → Cell.ren (List.range n) c = c
  | .lst ds, q => by simp only [Cell.ren, D.rens_id (show D.lts n ds = true from q)]
  | .dct kvs, q => by
    have q : (kvs.all fun p => D.lt n p.1 && D.lt n p.2) = true := q
    simp only [Cell.ren]
    rw [show (kvs.map fun p => (p.1, D.ren (List.range n) p.2)) = kvs from ?_]
    refine (List.map_congr_left fun p hp => ?_).trans (List.map_id _)
    have z := List.all_eq_true.mp q p hp
    rw [Bool.and_eq_true] at z
    rw [D.ren_id z.2]
    rfl
  | .lk c, q => by simp only [Cell.ren, Cell.ren_id (c := c) q]
  | .tab _ _, _ => rfl
  | .ins c vs, q => by
    have q : (vs.all (D.ltO n)) = true := q
    simp only [Cell.ren]
    rw [show vs.map (D.renO (List.range n)) = vs from ?_]
    refine (List.map_congr_left fun o ho => ?_).trans (List.map_id _)
    have z := List.all_eq_true.mp q o ho
    cases o with
    | none => rfl
    | some d => simp only [D.renO, D.ren_id (show D.lt n d = true from z)]; rfl
/-- the cells behind are dropped -/
theorem Sub.drop {m1 g : Mem} (h : WF m1) : Sub (List.range m1.length) (m1 ++ g) m1 := by
  refine ⟨List.length_range, List.nodup_range, fun i c e => ?_⟩
  have hi := (List.getElem?_eq_some_iff.mp e).1
  have hc := h c (List.mem_of_getElem? e)
  exact ⟨i, List.getElem?_range hi, by rw [List.getElem?_append_left hi, e, Cell.ren_id hc], hc⟩
theorem Refn.drop {n : Nat} {m1 g : Mem} {d : D} (h : WF m1) (hn : n ≤ m1.length) (hd : D.lt m1.length d = true) : Refn n (.ok d (m1 ++ g)) (.ok d m1) := by
  have z := Refn.ok (n := n) (d := d) (Sub.drop (g := g) h) (fun i hi => List.getElem?_range (Nat.lt_of_lt_of_le hi hn)) hd
  rw [D.ren_id hd] at z
  exact z
theorem Refn.same {n : Nat} {m1 : Mem} {d : D} (h : WF m1) (hn : n ≤ m1.length) (hd : D.lt m1.length d = true) : Refn n (.ok d m1) (.ok d m1) := by
  have z := Refn.drop (g := []) h hn hd
  rw [List.append_nil] at z
  exact z
theorem Refn.dropX {n : Nat} {m1 g : Mem} {c : EN} {p : Option D} (h : WF m1) (hn : n ≤ m1.length) (hd : D.ltO m1.length p = true) : Refn n (.exc c p (m1 ++ g)) (.exc c p m1) := by
  have z := Refn.exc (n := n) (c := c) (p := p) (Sub.drop (g := g) h) (fun i hi => List.getElem?_range (Nat.lt_of_lt_of_le hi hn)) hd
  rw [show D.renO (List.range m1.length) p = p from ?_] at z
  · exact z
  · cases p with
    | none => rfl
    | some d => simp only [D.renO, D.ren_id (show D.lt m1.length d = true from hd)]
theorem Refn.sameX {n : Nat} {m1 : Mem} {c : EN} {p : Option D} (h : WF m1) (hn : n ≤ m1.length) (hd : D.ltO m1.length p = true) : Refn n (.exc c p m1) (.exc c p m1) := by
  have z := Refn.dropX (g := []) (c := c) h hn hd
  rw [List.append_nil] at z
  exact z
end T
end
section
set_option Elab.async false
set_option linter.all false
set_option maxRecDepth 100000
/-! T8: what a def promises; its call; built-in calls. -/
namespace T
open PySem PySem.Spec PyProof.Rows L2

def spM (K : PySem.W.Frag) (mg : Str → Option Value) (n : Nat) (mf : List D → Mem → Res D) : Sp := fun vs H Q E =>
  ∃ u ds m, ds.length = n ∧ HRep K u H m ∧ RepL K u H ds vs ∧ PostF K mg u H Q E (mf ds m)
def SRes.toRes : SRes → Res D
  | .ok .next _ m => .ok .non m
  | .ok (.ret d) _ m => .ok d m
  | .ok _ _ _ => .stuck
  | .exc c p _ m => .exc c p m
  | .stuck => .stuck
@[simp] theorem SRes.toRes_next (r : Slots) (m : Mem) : (SRes.ok .next r m).toRes = .ok .non m := rfl
@[simp] theorem SRes.toRes_ret (d : D) (r : Slots) (m : Mem) : (SRes.ok (.ret d) r m).toRes = .ok d m := rfl
@[simp] theorem SRes.toRes_exc (c : EN) (p : Option D) (r : Slots) (m : Mem) : (SRes.exc c p r m).toRes = .exc c p m := rfl
@[simp] theorem SRes.toRes_stuck : SRes.stuck.toRes = .stuck := rfl
def startD (N : List Str) (ds : List D) : Slots := ds.map some ++ List.replicate (N.length - ds.length) none
def runB (N : List Str) (mb : SM) (ds : List D) (m : Mem) : Res D := (mb (startD N ds) m).toRes
theorem start_rep {K : PySem.W.Frag} {u : List Addr} {H : Hp} {N : List Str} {ds : List D} {vs : List V} (h : RepL K u H ds vs) : ERep K u H (startD N ds) (L2.start N vs) := by
  have hl := h.length
  unfold startD L2.start
  refine ⟨by simp [hl], fun i d e => ?_⟩
  by_cases hi : i < ds.length
  · rw [List.getElem?_append_left (by simpa using hi), List.getElem?_map] at e
    obtain ⟨d', e1, e2⟩ := Option.map_eq_some_iff.mp e
    cases e2
    obtain ⟨v, q1, q2⟩ := h.get e1
    exact ⟨v, by rw [List.getElem?_append_left (by simpa [hl] using hi), List.getElem?_map, q1]; rfl, q2⟩
  · rw [List.getElem?_append_right (by simpa using hi), List.getElem?_replicate] at e
    split at e <;> cases e

/-- a def of the module keeps its promise mf -/
structure DefOk (P : Program) (w : World) (K : PySem.W.Frag) (mg : Str → Option Value) (base : Heap) (k : Nat) (x : Str) (ps : List Str) (mf : List D → Mem → Res D) : Prop where
  fn : ∃ fd, FnOk P w K mg base (L2.CX P w) k (He.ga K x) fd ps (spM K mg ps.length mf) ∧ Binds K fd ps []
  mgx : mg x = some (.ref (He.ga K x))
  kp : PySem.W.keepIn K (.ref (He.ga K x)) = true
theorem DefOk.mono {P : Program} {w : World} {K : PySem.W.Frag} {mg : Str → Option Value} {base : Heap} {j k : Nat} {x : Str} {ps : List Str} {mf : List D → Mem → Res D} (h : DefOk P w K mg base j x ps mf) (hk : j ≤ k) : DefOk P w K mg base k x ps mf :=
  ⟨let ⟨fd, F, b⟩ := h.fn; ⟨fd, F.mono hk, b⟩, h.mgx, h.kp⟩
section
variable {P : Program} {w : World} {K : PySem.W.Frag} {mg : Str → Option Value} {base : Heap} {k : Nat} {x qual : Str} {N ps : List Str} {mf : List D → Mem → Res D} {mb : SM}
theorem fnOk_of {params : Arguments} {body : List Stmt} {scope : Scope} {kws : List (Str × V)} {f : Addr} {fd : FuncData} {dvs : List V} (F : FunD K x qual params body scope dvs kws f fd) (S : FnScope N ps scope)
    (hbody : ∀ (cdv : Value) (A : Around) (outer : List Env) (s : Shared) (H : Hp) (E : XK), Room k (A.deeper (envOfC qual scope s.heap.objs.size f cdv)) → MSs (cxOf (L2.CX P w) P w K mg base N qual scope f cdv A outer s H E) body mb)
    (spec : ∀ (ds : List D) (m : Mem), ds.length = ps.length → WF m → Refn m.length (runB N mb ds m) (mf ds m)) : FnOk P w K mg base (L2.CX P w) (k + 1) f fd ps (spM K mg ps.length mf) := by
  refine F.ok S (fun vs H Q E ⟨u, ds, m, h1, h2, h3, h4⟩ => by rw [h3.length, h1]) (fun cdv A outer s H vs Q E hr ⟨u, ds, m, h1, h2, h3, h4⟩ => ?_)
  have tk : Takes (cxOf (L2.CX P w) P w K mg base N qual scope f cdv A outer s H E) (fun cls dd _ H => E cls dd H) := takes_of rfl rfl rfl rfl
  refine ⟨_, (hbody cdv A outer s H E hr).run _ tk, u, startD N ds, m, h2, start_rep h3, ?_⟩
  have z : PostF K mg u H Q E (runB N mb ds m) := PostF.refn (by rw [h2.len]; exact spec ds m h1 h2.wf) h4
  unfold runB at z
  show PostS K mg u H _ _ (mb (startD N ds) m)
  cases e : mb (startD N ds) m with
  | ok fl r m1 =>
    rw [e] at z
    cases fl with
    | next => exact fun u' H' σ' a b c _ => z u' H' .non a b c rfl
    | ret d => exact fun u' H' v a b c q => z u' H' v a b c q
    | brk => exact z.elim
    | cont => exact z.elim
  | exc c p r m1 =>
    rw [e] at z
    exact fun u' H' σ' cls dd a b c' _ q => z u' H' cls dd a b c' q
  | stuck => rw [e] at z; exact z.elim
theorem DefOk.of {params : Arguments} {body : List Stmt} {scope : Scope} {kws : List (Str × V)} {fd : FuncData} (F : FunD K x x params body scope [] kws (He.ga K x) fd) (mgx : mg x = some (.ref (He.ga K x)))
    (hb : ∀ (kV doc pm : Value) (an : Option Addr) (cdv ct : Value) (us : List Value), us.length = ps.length → bindArgs (PySem.W.fnOf x x params body scope .none kV doc pm an cdv ct) ⟨us, []⟩ = pure (ps.zip us)) (S : FnScope N ps scope)
    (hbody : ∀ (cdv : Value) (A : Around) (outer : List Env) (s : Shared) (H : Hp) (E : XK), Room k (A.deeper (envOfC x scope s.heap.objs.size (He.ga K x) cdv)) → MSs (cxOf (L2.CX P w) P w K mg base N x scope (He.ga K x) cdv A outer s H E) body mb)
    (spec : ∀ (ds : List D) (m : Mem), ds.length = ps.length → WF m → Refn m.length (runB N mb ds m) (mf ds m)) : DefOk P w K mg base (k + 1) x ps mf :=
  ⟨⟨fd, fnOk_of F S hbody spec, F.bindsN hb⟩, mgx, F.kp⟩
end

/-- a promise, of n values -/
def atN (n : Nat) (mf : List D → Mem → Res D) : List D → Mem → Res D := fun ds m => if ds.length = n then mf ds m else .stuck
/-! ### f(e, ..) -/
def mCall (mf : List D → Mem → Res D) (ms : LM) : EM := fun r μ => (ms r μ).bind mf
section
variable {X : Cx} {k : Nat} {x : Str} {ps : List Str} {mf : List D → Mem → Res D} {p pos : Pos} {e : Expr} {es : List Expr} {ms : LM}
theorem me_call {n : Nat} (F : DefOk X.prog X.w X.K X.mg X.base k x ps mf) (hr : Room k X.A) (hg : Gl X x) (hps : ps.length = n) (hn : (e :: es).length = n) (ha : MA X (e :: es) ms) (hdb : (x == ("__debug__" : Str)) = false := by decide)
    (he : starEach (e :: es) X.env = (false, eval e X.env) :: starEach es X.env := by rfl) (hpl : (backTo pos (starEach es X.env)).any (·.1) = false := by rfl) :
    ME X (.Call (.Name x p) (e :: es) [] pos) (mCall (atN n mf) ms) := by
  subst hps
  obtain ⟨fd, FN, b⟩ := F.fn
  refine ⟨fun W tk => PE.weak (pe_callSD (E := fun σ cls dd H => W cls dd σ H) FN hr hg F.mgx F.kp b .nil (fun σ => passAt tk σ) (ha.run W tk) hdb he hpl) fun σ H Q h => ?_⟩
  obtain ⟨u, r, μ, h1, h2, h3⟩ := h
  have h3' : PostE X.K X.mg u H σ W Q ((ms r μ).bind fun ds m => if ds.length = ps.length then mf ds m else .stuck) := h3
  refine ⟨u, r, μ, h1, h2, ?_⟩
  have z := PostA.bindE h3'
  cases e : ms r μ with
  | stuck => rw [e] at z; exact z
  | exc c p m => rw [e] at z; exact z
  | ok ds m =>
    rw [e] at z
    intro u' H' vs a b' c q
    obtain ⟨u1, μ1, d1, g1, e1, k1, p1, eq, q1⟩ := z u' H' vs a b' c q
    cases eq
    by_cases hl : ds.length = ps.length
    · rw [if_pos hl] at q1
      rw [List.append_nil]
      refine ⟨u1, ds, m, hl, k1, p1, ?_⟩
      cases e2 : mf ds m with
      | ok d m2 => rw [e2] at q1; exact q1
      | exc c p m2 => rw [e2] at q1; exact q1
      | stuck => rw [e2] at q1; exact q1
    · rw [if_neg hl] at q1
      exact q1.elim
/-! ### built-ins -/
theorem callM_of {f : Value} {g : List D → Mem → Res D} {rr : List V → Hp → VK → Prop} (ho : CallR X f rr) (h : ∀ W σ H vs u ds m Q, HRep X.K u H m → RepL X.K u H ds vs → PostE X.K X.mg u H σ W Q (g ds m) → rr vs H Q) : CallM X f g :=
  fun W pins s σ H xs vs Q u ds m _ I rv k pl q => ho pins s σ H xs vs Q I rv (h W σ H xs u ds m Q k pl q)
theorem me_callB {id : String} {g : List D → Mem → Res D} (hc : CallM X (.builtin id) g) (hg : Gl X x) (hm : X.mg x = none) (hv : bootBuiltins x = some (.builtin id)) (ha : MA X (e :: es) ms) (hn : x ≠ "__name__" := by decide) (hdb : (x == ("__debug__" : Str)) = false := by decide)
    (he : starEach (e :: es) X.env = (false, eval e X.env) :: starEach es X.env := by rfl) (hpl : (backTo pos (starEach es X.env)).any (·.1) = false := by rfl) : ME X (.Call (.Name x p) (e :: es) [] pos) (mCall g ms) := by
  refine ⟨fun W tk => ⟨fun pins s σ H Q I h => ?_⟩⟩
  obtain ⟨u, r, μ, h1, h2, h3⟩ := h
  have h3' : PostE X.K X.mg u H σ W Q ((ms r μ).bind g) := h3
  refine wpAny_Call_Name_kw (ld_blt I hg hm hv ?_ hn hdb)
  refine PyProof.Rows.callWith_builtin1 (thn ((ha.run W tk).run pos pins s σ H _ I ⟨u, r, μ, h1, h2, PostA.bindE h3'⟩) fun us s1 ⟨vs, H1, I1, r1, u1, μ1, ds, g1, e1, k1, p1, _, q1⟩ => ?_) he hpl
  exact hc W pins s1 σ H1 vs us Q u1 ds μ1 tk I1 r1 k1 p1 q1
theorem me_callTy {n : String} {g : List D → Mem → Res D} (hc : CallM X (.type n) g) (hg : Gl X x) (hm : X.mg x = none) (hv : bootBuiltins x = some (.type n)) (ha : MA X (e :: es) ms) (hn : x ≠ "__name__" := by decide) (hdb : (x == ("__debug__" : Str)) = false := by decide)
    (he : starEach (e :: es) X.env = (false, eval e X.env) :: starEach es X.env := by rfl) (hpl : (backTo pos (starEach es X.env)).any (·.1) = false := by rfl) : ME X (.Call (.Name x p) (e :: es) [] pos) (mCall g ms) := by
  refine ⟨fun W tk => ⟨fun pins s σ H Q I h => ?_⟩⟩
  obtain ⟨u, r, μ, h1, h2, h3⟩ := h
  have h3' : PostE X.K X.mg u H σ W Q ((ms r μ).bind g) := h3
  refine wpAny_Call_Name_kw (ld_blt I hg hm hv ?_ hn hdb)
  refine PyProof.Rows.callWith_type1 (thn ((ha.run W tk).run pos pins s σ H _ I ⟨u, r, μ, h1, h2, PostA.bindE h3'⟩) fun us s1 ⟨vs, H1, I1, r1, u1, μ1, ds, g1, e1, k1, p1, _, q1⟩ => ?_) he hpl
  exact hc W pins s1 σ H1 vs us Q u1 ds μ1 tk I1 r1 k1 p1 q1
/-- a built-in type as a value -/
theorem me_ty {t : BT} (hg : Gl X x) (hm : X.mg x = none) (hv : bootBuiltins x = some (.type t.name)) (hn : x ≠ "__name__" := by decide) (hd : (x == ("__debug__" : Str)) = false := by decide) : ME X (.Name x pos) (mC (.ty t)) :=
  me_const (v := .ty t.name) (pe_bltn hg hm hv rfl hn hd) fun _ _ => rfl
/-- a class, a def of the module as a value -/
theorem me_cls {c : CN} (hg : Gl X x) (hm : X.mg x = some (.ref (He.ga X.K c.name))) (hd : (x == ("__debug__" : Str)) = false := by decide) : ME X (.Name x pos) (mC (.cls c)) :=
  me_const (v := .ref _) (pe_glob hg hm rfl hd) fun _ _ => rfl

theorem one_int {K : PySem.W.Frag} {u : List Addr} {H : Hp} {i : Int} {vs : List V} (h : RepL K u H [.int i] vs) : vs = [.int i] := by
  obtain ⟨x, r, e, h1, h2⟩ := h
  rw [e, show x = V.int i from h1, show r = [] from h2]
theorem one_any {K : PySem.W.Frag} {u : List Addr} {H : Hp} {d : D} {vs : List V} (h : RepL K u H [d] vs) : ∃ x, vs = [x] ∧ Rep K u H d x := by
  obtain ⟨x, r, e, h1, h2⟩ := h
  exact ⟨x, by rw [e, show r = [] from h2], h1⟩
theorem two_any {K : PySem.W.Frag} {u : List Addr} {H : Hp} {d e : D} {vs : List V} (h : RepL K u H [d, e] vs) : ∃ x y, vs = [x, y] ∧ Rep K u H d x ∧ Rep K u H e y := by
  obtain ⟨x, r, e, h1, h2⟩ := h
  obtain ⟨y, e2, h3⟩ := one_any h2
  exact ⟨x, y, by rw [e, e2], h1, h3⟩
/-- the one shape that a rule takes -/
theorem shape {K : PySem.W.Frag} {mg : Str → Option Value} {u : List Addr} {H : Hp} {σ : L2.St} {W : WX} {Q : VK} {g : List D → Mem → Res D} {ds : List D} {m : Mem} {p : List D → Prop} (h : PostE K mg u H σ W Q (g ds m)) (hg : ∀ ds m, ¬ p ds → g ds m = .stuck) : p ds := by
  by_cases c : p ds
  · exact c
  · rw [hg ds m c] at h
    exact h.elim
def gAbs : List D → Mem → Res D
  | [.int i], m => .ok (.int (if i < 0 then -i else i)) m
  | _, _ => .stuck
theorem cm_abs : CallM X (.builtin "abs") gAbs := callM_of call_abs fun W σ H vs u ds m Q k pl q => by
  obtain ⟨i, rfl⟩ := shape (p := fun ds => ∃ i, ds = [D.int i]) q fun ds m h => by
    unfold gAbs
    split
    · exact absurd ⟨_, rfl⟩ h
    · rfl
  exact ⟨i, one_int pl, q.now k rfl⟩
def gMax2 : List D → Mem → Res D
  | [.int i, .int j], m => .ok (.int (if j > i then j else i)) m
  | _, _ => .stuck
def gMin2 : List D → Mem → Res D
  | [.int i, .int j], m => .ok (.int (if j < i then j else i)) m
  | _, _ => .stuck
theorem two_int {K : PySem.W.Frag} {u : List Addr} {H : Hp} {i j : Int} {vs : List V} (h : RepL K u H [.int i, .int j] vs) : vs = [.int i, .int j] := by
  obtain ⟨x, y, e, h1, h2⟩ := two_any h
  rw [e, show x = V.int i from h1, show y = V.int j from h2]
theorem cm_max2 (hc : X.calm = true) : CallM X (.builtin "max") gMax2 := callM_of (call_max2 hc) fun W σ H vs u ds m Q k pl q => by
  obtain ⟨i, j, rfl⟩ := shape (p := fun ds => ∃ i j, ds = [D.int i, D.int j]) q fun ds m h => by
    unfold gMax2
    split
    · exact absurd ⟨_, _, rfl⟩ h
    · rfl
  exact ⟨i, j, two_int pl, q.now k rfl⟩
theorem cm_min2 (hc : X.calm = true) : CallM X (.builtin "min") gMin2 := callM_of (call_min2 hc) fun W σ H vs u ds m Q k pl q => by
  obtain ⟨i, j, rfl⟩ := shape (p := fun ds => ∃ i j, ds = [D.int i, D.int j]) q fun ds m h => by
    unfold gMin2
    split
    · exact absurd ⟨_, _, rfl⟩ h
    · rfl
  exact ⟨i, j, two_int pl, q.now k rfl⟩
def gInt1 : List D → Mem → Res D
  | [.int i], m => .ok (.int i) m
  | [.bl b], m => .ok (.int (if b then 1 else 0)) m
  | _, _ => .stuck
theorem cm_int1 : CallM X (.type "int") gInt1 := callM_of call_int1 fun W σ H vs u ds m Q k pl q => by
  rcases shape (p := fun ds => (∃ i, ds = [D.int i]) ∨ ∃ b, ds = [D.bl b]) q fun ds m h => by
    unfold gInt1
    split
    · exact absurd (.inl ⟨_, rfl⟩) h
    · exact absurd (.inr ⟨_, rfl⟩) h
    · rfl with ⟨i, rfl⟩ | ⟨b, rfl⟩
  · exact .inl ⟨i, one_int pl, q.now k rfl⟩
  · obtain ⟨x, e, h1⟩ := one_any pl
    exact .inr ⟨b, by rw [e, show x = V.bl b from h1], q.now k rfl⟩
def gStrI : List D → Mem → Res D
  | [.int i], m => if i.natAbs.log2 < 1920 then .ok (.str (toString i)) m else .stuck
  | _, _ => .stuck
theorem cm_strI : CallM X (.type "str") gStrI := callM_of call_str_int fun W σ H vs u ds m Q k pl q => by
  obtain ⟨i, rfl⟩ := shape (p := fun ds => ∃ i, ds = [D.int i]) q fun ds m h => by
    unfold gStrI
    split
    · exact absurd ⟨_, rfl⟩ h
    · rfl
  by_cases c : i.natAbs.log2 < 1920
  · simp only [gStrI, if_pos c] at q
    exact ⟨i, one_int pl, c, q.now k rfl⟩
  · simp only [gStrI, if_neg c] at q
    exact q.elim
/-! ### len -/
def dctAt (m : Mem) (n : Nat) : Option (List (D × D)) := match m[n]? with
  | some (.dct kvs) => some kvs
  | some (.lk (.dct kvs)) => some kvs
  | _ => none
def lenD (m : Mem) (x : D) : Option Nat := match seqAt m x with
  | some ds => some ds.length
  | none => match x with
    | .str z => if z.length ≤ sizeLine then some z.length else none
    | .obj n => (dctAt m n).map (·.length)
    | _ => none
theorem call_lenR : CallR X (.builtin "len") (fun xs H Q => ∃ a kvs, xs = [V.ref a] ∧ Rd H a (.dK kvs) ∧ Q (.int kvs.length) H) := by
  intro pins s σ H xs us Q I r h
  obtain ⟨a, kvs, rfl, e, q⟩ := h
  obtain ⟨u, rfl, rx⟩ := vals1 r
  cases (show u = Value.ref a from rx)
  exact d_len I e fun t s' I' => ⟨.int kvs.length, H, I', ⟨t, rfl⟩, q⟩
end
end T
end
section
set_option Elab.async false
set_option linter.all false
set_option maxRecDepth 100000
/-! T9: what is walked; for, while. -/
namespace T
open PySem PySem.Spec PyProof.Rows L2

/-- the items as the memory has them at each turn -/
abbrev ItM := Mem → Option (List D)
structure ItOk (K : PySem.W.Frag) (u1 : List Addr) (H1 : Hp) (J : It) (it : ItM) : Prop where
  stop : ∀ i u H m ds, Grow u1 u → Ext H1 H → HRep K u H m → it m = some ds → ds.length = i → J.stop i H
  go : ∀ i u H m ds, Grow u1 u → Ext H1 H → HRep K u H m → it m = some ds → i < ds.length → J.go i H
  yld : ∀ i u H m ds d x H', Grow u1 u → Ext H1 H → HRep K u H m → it m = some ds → ds[i]? = some d → J.yld i H x H' → Ext H H' ∧ HRep K u H' m ∧ Rep K u H' d x
section
variable (K : PySem.W.Frag) (mg : Str → Option Value)
def PostI (u : List Addr) (H : Hp) (σ : L2.St) (W : WX) (R : It → Hp → Prop) : Res ItM → Prop
  | .ok it m => ∀ u' H' J, Grow u u' → Ext H H' → HRep K u' H' m → ItOk K u' H' J it → R J H'
  | .exc c p m => ∀ u' H' cls dd, Grow u u' → Ext H H' → HRep K u' H' m → XRep K mg u' H' c p cls dd → W cls dd σ H'
  | .stuck => False
def tI (W : WX) (mi : Slots → Mem → Res ItM) : TI := fun σ H R => ∃ u r μ, HRep K u H μ ∧ ERep K u H r σ ∧ PostI K mg u H σ W R (mi r μ)
end
theorem PostI.later {K : PySem.W.Frag} {mg : Str → Option Value} {u u1 : List Addr} {H H1 : Hp} {σ : L2.St} {W : WX} {R : It → Hp → Prop} {x : Res ItM} (g : Grow u u1) (e : Ext H H1) (h : PostI K mg u H σ W R x) : PostI K mg u1 H1 σ W R x := by
  cases x with
  | ok d m => exact fun u' H' J a b c q => h u' H' J (g.trans a) (e.trans b) c q
  | exc c p m => exact fun u' H' cls dd a b c q => h u' H' cls dd (g.trans a) (e.trans b) c q
  | stuck => exact h
structure MI (X : Cx) (tg iter : Expr) (mi : Slots → Mem → Res ItM) : Prop where
  run : ∀ W, Takes X W → PI X tg iter (tI X.K X.mg W mi)
theorem PI.weak {X : Cx} {tg iter : Expr} {t t' : TI} (h : PI X tg iter t) (w : ∀ σ H R, t' σ H R → t σ H R) : PI X tg iter t' := ⟨fun pins s σ H R I q => h.run pins s σ H R I (w σ H R q)⟩
/-! ### for -/
def forL (it : ItM) (g : GM) (b : SM) : Nat → Nat → Slots → Mem → SRes
  | 0, i, r, m => match it m with
    | some ds => if ds.length = i then .ok .next r m else .stuck
    | none => .stuck
  | n + 1, i, r, m => match it m with
    | some ds => match ds[i]? with
      | none => if ds.length = i then .ok .next r m else .stuck
      | some d => match g d r with
        | none => .stuck
        | some r1 => match b r1 m with
          | .ok .next r2 m2 => forL it g b n (i + 1) r2 m2
          | .ok .cont r2 m2 => forL it g b n (i + 1) r2 m2
          | .ok .brk r2 m2 => .ok .next r2 m2
          | x => x
    | none => .stuck
def sFor (mi : Slots → Mem → Res ItM) (g : GM) (b : SM) : SM := fun r m => (mi r m).sbind r fun it m1 => match it m1 with
  | some ds => forL it g b ds.length 0 r m1
  | none => .stuck
/-- the run of a loop over what is walked -/
theorem for_core {X : Cx} {W : WX} {J : It} {it : ItM} {gt : TG} {g : GM} {tb : TS} {b : SM} {D' : Ends} {u1 : List Addr} {H1 : Hp}
    {ws : List Nat} (hg : ∀ v d σ H u r r' (Q : L2.St → Hp → Prop), ERep X.K u H r σ → Rep X.K u H d v → g d r = some r' → (∀ σ', ERep X.K u H r' σ' → Only ws σ σ' → Q σ' H) → gt v σ H Q)
    (hb : ∀ D' σ H, tS X.K X.mg W b D' σ H → tb D' σ H) (ok : ItOk X.K u1 H1 J it) {n : Nat} {σ : L2.St} {r : Slots} {m : Mem} (k : HRep X.K u1 H1 m) (he : ERep X.K u1 H1 r σ) (h : PostS X.K X.mg u1 H1 W D' (forL it g b n 0 r m)) :
    ∃ Wl : Nat → Nat → L2.St → Hp → Prop, (∃ m, Wl 0 m σ H1) ∧ ∀ i m σ H, Wl i m σ H →
      (J.stop i H ∧ D'.nx σ H) ∨ (J.go i H ∧ ∃ N : L2.St → Hp → Prop, (∀ σ' H', N σ' H' → ∃ m', m' < m ∧ Wl (i + 1) m' σ' H') ∧ ∀ x H', J.yld i H x H' → gt x σ H' fun σ2 H2 => tb { D' with nx := N, ct := N, bk := D'.nx } σ2 H2) := by
  refine ⟨fun i n σ H => ∃ u r m, Grow u1 u ∧ Ext H1 H ∧ HRep X.K u H m ∧ ERep X.K u H r σ ∧ PostS X.K X.mg u H W D' (forL it g b n i r m), ⟨n, u1, r, m, Grow.refl _, Ext.refl _, k, he, h⟩, ?_⟩
  rintro i n σ H ⟨u, r, m, gr, ex, k, he, h⟩
  cases n with
  | zero =>
    simp only [forL] at h
    cases e : it m with
    | none => rw [e] at h; exact h.elim
    | some ds =>
      rw [e] at h
      by_cases hl : ds.length = i
      · simp only [if_pos hl] at h
        exact .inl ⟨ok.stop i u H m ds gr ex k e hl, h u H σ (Grow.refl _) (Ext.refl _) k he⟩
      · simp only [if_neg hl] at h
        exact h.elim
  | succ n =>
    simp only [forL] at h
    cases e : it m with
    | none => rw [e] at h; exact h.elim
    | some ds =>
      rw [e] at h
      simp only at h
      cases ed : ds[i]? with
      | none =>
        rw [ed] at h
        by_cases hl : ds.length = i
        · simp only [if_pos hl] at h
          exact .inl ⟨ok.stop i u H m ds gr ex k e hl, h u H σ (Grow.refl _) (Ext.refl _) k he⟩
        · simp only [if_neg hl] at h
          exact h.elim
      | some d =>
        rw [ed] at h
        simp only at h
        cases eg : g d r with
        | none => rw [eg] at h; exact h.elim
        | some r1 =>
          rw [eg] at h
          simp only at h
          refine .inr ⟨ok.go i u H m ds gr ex k e (List.getElem?_eq_some_iff.mp ed).1, fun σ' H' => ∃ u' r' m', Grow u1 u' ∧ Ext H1 H' ∧ HRep X.K u' H' m' ∧ ERep X.K u' H' r' σ' ∧ PostS X.K X.mg u' H' W D' (forL it g b n (i + 1) r' m'),
            fun σ' H' q => ⟨n, Nat.lt_succ_self n, q⟩, fun x H' y => ?_⟩
          obtain ⟨e1, k1, rx⟩ := ok.yld i u H m ds d x H' gr ex k e ed y
          refine hg x d σ H' u r r1 _ (he.mono (Grow.refl _) e1) rx eg fun σ2 he2 _ => hb _ _ _ ⟨u, r1, m, k1, he2, ?_⟩
          have h := h.later (Grow.refl u) e1
          cases eb : b r1 m with
          | stuck => rw [eb] at h; exact h
          | exc c p r m => rw [eb] at h; exact h
          | ok f r2 m2 =>
            rw [eb] at h
            cases f with
            | next => exact fun u' H2 σ' a b' c q => ⟨u', r2, m2, gr.trans a, (ex.trans e1).trans b', c, q, h.later a b'⟩
            | cont => exact fun u' H2 σ' a b' c q => ⟨u', r2, m2, gr.trans a, (ex.trans e1).trans b', c, q, h.later a b'⟩
            | brk => exact fun u' H2 σ' a b' c q => h u' H2 σ' a b' c q
            | ret d => exact h
theorem ms_for {X : Cx} {tg iter : Expr} {body : List Stmt} {mi : Slots → Mem → Res ItM} {g : GM} {b : SM} {ws : List Nat} {pos : Pos} (hp : PassesOwn (model X.prog X.w) X.A X.env X.xe) (hc : X.calm = true) (hi : MI X tg iter mi) (hg : MG X tg g ws) (hb : MSs X body b)
    (hs : ∀ x, foldedSetIterable iter X.env x = pure x := by intro _; rfl) : MS X (.For tg iter body [] pos) (sFor mi g b) := by
  obtain ⟨gt, pg, q⟩ := hg.run
  refine ⟨fun W tk => PS.weak (ps_for hp hc (hi.run W tk) pg (hb.run W tk) hs) fun D' σ H ⟨u, r, μ, h1, h2, h3⟩ => ?_⟩
  have h3' : PostS X.K X.mg u H W D' ((mi r μ).sbind r fun it m1 => match it m1 with | some ds => forL it g b ds.length 0 r m1 | none => .stuck) := h3
  refine ⟨u, r, μ, h1, h2, ?_⟩
  cases e : mi r μ with
  | stuck => rw [e] at h3'; exact h3'
  | exc c p m => rw [e] at h3'; exact fun u' H' cls dd a b c q => h3' u' H' σ cls dd a b c (h2.mono a b) q
  | ok it m1 =>
    rw [e, Res.sbind_ok] at h3'
    intro u' H' J a b' c ok
    cases ei : it m1 with
    | none => rw [ei] at h3'; exact h3'.elim
    | some ds =>
      rw [ei] at h3'
      exact for_core q (fun _ _ _ x => x) ok c (h2.mono a b') (h3'.later a b')

end T
end
section
set_option Elab.async false
set_option linter.all false
set_option maxRecDepth 100000
/-! T10: what is walked. -/
namespace T
open PySem PySem.Spec PyProof.Rows L2

/-- what a turn hands out: a value that stands there, or a new tuple -/
def OutI (J : It) (i : Nat) (H : Hp) (h0 : Heap) (v : Value) (h : Heap) : Prop :=
  (∃ x, RelV x v ∧ J.yld i H x H) ∨ ∃ (T : Addr) (xs : List V) (vals : Array Value), v = .ref T ∧ h0.objs.size ≤ T ∧ h.IsTuple T vals ∧ Vals xs vals.toList ∧ xs.length ≤ sizeLine ∧ (H T = none → J.yld i H (.ref T) (upd H T (.tup xs)))
/-- the turns of a GoesN -/
theorem turn_goes {P : Program} {w : World} {K : PySem.W.Frag} {tg : Expr} {J : It} {fp : List Addr} {it : Addr} {own : Nat → Heap → Prop} (mem : it ∈ fp) (obj : ∀ i h, own i h → ∀ b ∈ fp, ∃ o, h.get? b = some o ∧ ∀ v, o.data ≠ .cell v)
    (keep : ∀ i h h', own i h → (∀ b ∈ fp, ∀ o, h.get? b = some o → h'.get? b = some o) → own i h') (self : ∀ (A : Around) (i : Nat) (s : Shared) (Q : Value → Shared → Prop) (E : Value → Shared → Prop), own i s.heap → Q (.ref it) s → wpAny (model P w) A (pyIter (.ref it)) Q E s)
    (G : ∀ (X : Cx), X.prog = P → X.w = w → X.K = K → X.calm = true → ∀ (i : Nat) (pins : List (Addr × Obj)) (s : Shared) (σ : L2.St) (H : Hp), Inv X pins σ H s → own i s.heap → (J.go i H ∨ J.stop i H) →
      ∃ (fpW wr : List Addr) (n : Nat) (Y : Nat → Heap → Value → Heap → Prop) (St : Nat → Heap → Prop), GoesN P w X.A tg it fpW wr n Y St ∧ (∀ b ∈ wr, b ∈ fp) ∧ St i s.heap ∧ (J.go i H → i < n) ∧ (J.stop i H → i = n) ∧ (∀ h, St (i + 1) h → own (i + 1) h) ∧ ∀ v h, i < n → Y i s.heap v h → OutI J i H s.heap v h) :
    Turn P w K tg J fp it own where
  mem := mem
  obj := obj
  keep := keep
  self := self
  item := by
    intro X hP hw hK hc i pins s σ H E I hf st hg
    obtain ⟨fpW, wr, n, Y, St, W, hwr, st1, g1, _, own1, hY⟩ := G X hP hw hK hc i pins s σ H I st (.inl hg)
    subst hP hw hK
    have hlt := g1 hg
    refine W.goes i s (fun u s2 => ∃ x H', Inv X pins σ H' s2 ∧ RelV x u ∧ J.yld i H x H' ∧ own (i + 1) s2.heap ∧ ∀ b ∈ fp, H' b = none) E hlt st1 fun v h' tk hy st2 kp htk => ?_
    have hfw : ∀ b ∈ wr, FpOk X pins H b := fun b hb => hf b (hwr b hb)
    rcases hY v h' hlt hy with ⟨x, rx, y⟩ | ⟨T, xs, vals, rfl, hT, tp, rv, hl, y⟩
    · exact ⟨x, H, I.turnedL (t' := tk) (ch := wr) kp hfw, rx, y, own1 h' st2, fun b hb => (hf b hb).1⟩
    · have nT : H T = none := I.hok.fresh hT
      have new : ObjOk X.prog X.w (upd H T (.tup xs)) h' T (.tup xs) := ⟨hl, vals.toList, rv, by
        obtain ⟨o, e1, e2, m, e3⟩ := tp
        exact ⟨o, e1, e2, m, by rw [e3]⟩⟩
      refine ⟨.ref T, upd H T (.tup xs), I.turnedNew (t' := tk) (ch := wr) kp hfw hT new, rfl, y nT, own1 h' st2, fun b hb => ?_⟩
      obtain ⟨o, e, _⟩ := obj i s.heap st b hb
      rw [upd_ne (Nat.ne_of_lt (Nat.lt_of_lt_of_le (Heap.lt_size e) hT))]
      exact (hf b hb).1
  done := by
    intro X hP hw hK hc i pins s σ H E I hf st hg
    obtain ⟨fpW, wr, n, Y, St, W, hwr, st1, _, g2, _, _⟩ := G X hP hw hK hc i pins s σ H I st (.inr hg)
    have e := g2 hg
    subst e
    have hfw : ∀ b ∈ wr, FpOk X pins H b := fun b hb => hf b (hwr b hb)
    exact W.stops s (fun s1 => Inv X pins σ H s1) E st1 fun h' tk kp htk => I.turnedL (t' := tk) (ch := wr) kp hfw

theorem vals_at : ∀ {xs : List V} {us : List Value} {i : Nat} {u : Value}, Vals xs us → us[i]? = some u → ∃ x, xs[i]? = some x ∧ RelV x u
  | _, _, _, _, .nil, e => by simp at e
  | _, _, 0, _, .cons (a := x) r t, e => ⟨x, rfl, by simp at e; rw [← e]; exact r⟩
  | _, _, i + 1, _, .cons (a := x) r t, e => by
    obtain ⟨y, h1, h2⟩ := vals_at (i := i) t (by simpa using e)
    exact ⟨y, by simpa using h1, h2⟩
/-! ### sources: lists, tuples, texts -/
inductive Sr where
  | lst (a : Addr)
  | tup (a : Addr)
  | txt (z : Str) (t : Tok)
def charsV (z : Str) : List V := z.cps.toList.map fun c => .str ⟨#[c]⟩
def Sr.val : Sr → Value
  | .lst a => .ref a
  | .tup a => .ref a
  | .txt z t => .str z t
def Sr.ob0 : Sr → Obj
  | .lst a => { cls := .type "list_iterator", data := .fields #[.ref a, .int 0 0] }
  | .tup a => { cls := .type "tuple_iterator", data := .fields #[.ref a, .int 0 0] }
  | .txt z t => { cls := .type (strIterType z), data := .fields #[.str z t, .int 0 0] }
def Sr.at (K : PySem.W.Frag) (H : Hp) : Sr → List V → Prop
  | .lst a, xs => SqL K H a xs
  | .tup a, xs => SqT K H a xs
  | .txt z _, xs => xs = charsV z
def Sr.own (j : Addr) (i : Nat) (h : Heap) : Sr → Prop
  | .lst a => h.IsListIter j a i
  | .tup a => h.IsTupleIter j a i
  | .txt z t => h.IsStrIter j (strIterType z) z t i
def Sr.fp : Sr → List Addr
  | .lst a => [a]
  | .tup a => [a]
  | .txt _ _ => []
theorem Sr.own_at {S : Sr} {j : Addr} {i : Nat} {h h' : Heap} (o : S.own j i h) (k : ∀ ob, h.get? j = some ob → h'.get? j = some ob) : S.own j i h' := by
  cases S with
  | lst a => obtain ⟨ob, e, r⟩ := o; exact ⟨ob, k ob e, r⟩
  | tup a => obtain ⟨ob, e, r⟩ := o; exact ⟨ob, k ob e, r⟩
  | txt z t => obtain ⟨ob, e, r⟩ := o; exact ⟨ob, k ob e, r⟩
theorem Sr.own_obj {S : Sr} {j : Addr} {i : Nat} {h : Heap} (o : S.own j i h) : ∃ ob, h.get? j = some ob ∧ ∀ v, ob.data ≠ .cell v := by
  cases S with
  | lst a => obtain ⟨ob, e, _, r⟩ := o; exact ⟨ob, e, fun v z => by rw [r] at z; cases z⟩
  | tup a => obtain ⟨ob, e, _, r⟩ := o; exact ⟨ob, e, fun v z => by rw [r] at z; cases z⟩
  | txt z t => obtain ⟨ob, e, _, r⟩ := o; exact ⟨ob, e, fun v z => by rw [r] at z; cases z⟩
theorem Sr.own_rec {S : Sr} {j : Addr} {h : Heap} (e : h.get? j = some S.ob0) : S.own j 0 h := by
  cases S with
  | lst a => exact ⟨_, e, rfl, rfl⟩
  | tup a => exact ⟨_, e, rfl, rfl⟩
  | txt z t => exact ⟨_, e, rfl, rfl⟩
section
variable {X : Cx} {pins : List (Addr × Obj)} {σ : L2.St} {H : Hp} {s : Shared}
theorem Sr.inj {S : Sr} {xs ys : List V} (I : Inv X pins σ H s) (h : S.at X.K H xs) (h' : S.at X.K H ys) : xs = ys := by
  cases S with
  | lst a => exact I.list_inj h h'
  | tup a => exact I.tuple_inj h h'
  | txt z t => exact (show xs = _ from h).trans (show ys = _ from h').symm
theorem Sr.le {S : Sr} {xs : List V} (I : Inv X pins σ H s) (h : S.at X.K H xs) : ∀ b ∈ S.fp, b < s.heap.objs.size := by
  cases S with
  | lst a =>
    obtain ⟨its, r, p, _⟩ := I.list h
    intro b hb
    rw [List.mem_singleton.mp hb]
    exact p.lt
  | tup a =>
    obtain ⟨its, r, p, _⟩ := I.tuple h
    intro b hb
    rw [List.mem_singleton.mp hb]
    exact p.lt
  | txt z t => intro b hb; cases hb
theorem Sr.begins {S : Sr} {xs : List V} (I : Inv X pins σ H s) (h : S.at X.K H xs) : ∃ HH : Heap → Prop, Begins S.val S.ob0 HH ∧ HH s.heap := by
  cases S with
  | lst a =>
    obtain ⟨its, r, p, _⟩ := I.list h
    exact ⟨_, begins_list a its.toArray, p.isList⟩
  | tup a =>
    obtain ⟨its, r, p, _⟩ := I.tuple h
    exact ⟨_, begins_tuple a its.toArray, p⟩
  | txt z t => exact ⟨_, begins_text z t, trivial⟩
theorem Sr.draws {S : Sr} {xs : List V} {A : Around} (hh : A.handled = none) (I : Inv X pins σ H s) (h : S.at X.K H xs) {j : Addr} (hj : ∀ a ∈ S.fp, a ≠ j) :
    ∃ (n : Nat) (P : Nat → Value → Prop) (St : Nat → Heap → Prop), Draws X.prog X.w A j (j :: S.fp) n P St ∧ n = xs.length ∧ (∀ i, S.own j i s.heap → St i s.heap) ∧ (∀ i h, St i h → S.own j i h) ∧ ∀ i v, P i v → ∃ x, xs[i]? = some x ∧ RelV x v := by
  cases S with
  | lst a =>
    obtain ⟨its, r, p, _⟩ := I.list h
    refine ⟨_, _, _, Draws.list hh j a (hj a (List.mem_singleton.mpr rfl)) its.toArray, by rw [r.length]; simp, fun i o => ⟨o, p.isList⟩, fun i h q => q.1, fun i v q => ?_⟩
    have q : its.toArray[i]? = some v := q
    exact vals_at r (by simpa using q)
  | tup a =>
    obtain ⟨its, r, p, _⟩ := I.tuple h
    refine ⟨_, _, _, Draws.tuple hh j a (hj a (List.mem_singleton.mpr rfl)) its.toArray, by rw [r.length]; simp, fun i o => ⟨o, p⟩, fun i h q => q.1, fun i v q => ?_⟩
    have q : its.toArray[i]? = some v := q
    exact vals_at r (by simpa using q)
  | txt z t =>
    have e : xs = charsV z := h
    refine ⟨_, _, _, Draws.text hh j z t, by rw [e]; simp [charsV], fun i o => o, fun i h q => q, fun i v q => ?_⟩
    obtain ⟨c, u, h1, rfl⟩ := q
    refine ⟨.str ⟨#[c]⟩, ?_, u, rfl⟩
    rw [e]
    unfold charsV
    rw [List.getElem?_map]
    have h2 : z.cps.toList[i]? = some c := by simpa using h1
    rw [h2]
    rfl
end
/-! ### sources, told by D -/
def charsD (z : Str) : List D := z.cps.toList.map fun c => .str ⟨#[c]⟩
def srcAt (m : Mem) : D → Option (List D)
  | .str z => some (charsD z)
  | d => seqAt m d
theorem repL_chars {K : PySem.W.Frag} {u : List Addr} {H : Hp} : ∀ (l : List Nat), RepL K u H (l.map fun c => D.str ⟨#[c]⟩) (l.map fun c => V.str ⟨#[c]⟩)
  | [] => rfl
  | c :: l => ⟨.str ⟨#[c]⟩, _, rfl, rfl, repL_chars l⟩
theorem src_of {K : PySem.W.Frag} {u : List Addr} {H : Hp} {m : Mem} {d : D} {ds : List D} {x : V} {v : Value} (rv : RelV x v) (k : HRep K u H m) (rx : Rep K u H d x) (e : srcAt m d = some ds) :
    ∃ S : Sr, S.val = v ∧ ∀ u' H' m' ds', Grow u u' → Ext H H' → HRep K u' H' m' → srcAt m' d = some ds' → ∃ xs, S.at K H' xs ∧ RepL K u' H' ds' xs := by
  cases d with
  | tup es =>
    obtain ⟨a, xs, ex, h1, h2⟩ := id rx
    subst ex
    refine ⟨.tup a, (show v = .ref a from rv).symm, fun u' H' m' ds' g ee k' e' => ?_⟩
    obtain ⟨a', ys, ea, h1, h2⟩ := Rep.mono g ee (D.tup es) rx
    cases ea
    cases e'
    exact ⟨ys, SqT.of h1, h2⟩
  | frt es =>
    obtain ⟨a, xs, ex, h1, h2⟩ := id rx
    subst ex
    refine ⟨.tup a, (show v = .ref a from rv).symm, fun u' H' m' ds' g ee k' e' => ?_⟩
    obtain ⟨a', ys, ea, h1, h2⟩ := Rep.mono g ee (D.frt es) rx
    cases ea
    cases e'
    exact ⟨ys, h1.sq, h2⟩
  | frl es =>
    obtain ⟨a, xs, ex, h1, h2⟩ := id rx
    subst ex
    refine ⟨.lst a, (show v = .ref a from rv).symm, fun u' H' m' ds' g ee k' e' => ?_⟩
    obtain ⟨a', ys, ea, h1, h2⟩ := Rep.mono g ee (D.frl es) rx
    cases ea
    cases e'
    exact ⟨ys, h1.sq, h2⟩
  | obj n =>
    obtain ⟨a, ex, h1⟩ := id rx
    subst ex
    refine ⟨.lst a, (show v = .ref a from rv).symm, fun u' H' m' ds' g ee k' e' => ?_⟩
    obtain ⟨a', ys, ea, h1, h2⟩ := k'.list e' (Rep.mono g ee (D.obj n) rx)
    cases ea
    exact ⟨ys, h1, h2⟩
  | str z =>
    cases (show x = .str z from rx)
    obtain ⟨t, rfl⟩ := rv
    refine ⟨.txt z t, rfl, fun u' H' m' ds' g ee k' e' => ?_⟩
    cases e'
    exact ⟨_, rfl, repL_chars _⟩
  | _ => cases e
theorem RepL.getV {K : PySem.W.Frag} {u : List Addr} {H : Hp} {ds : List D} {xs : List V} {i : Nat} {d : D} {v : V} (h : RepL K u H ds xs) (e : ds[i]? = some d) (e2 : xs[i]? = some v) : Rep K u H d v := by
  obtain ⟨w, h1, h2⟩ := h.get e
  rw [h1] at e2
  cases e2
  exact h2
/-! ### one source -/
def Js (K : PySem.W.Frag) (S : Sr) : It :=
  ⟨fun i H => ∃ xs, S.at K H xs ∧ i < xs.length, fun i H x H' => H' = H ∧ ∀ xs, S.at K H xs → xs[i]? = some x, fun i H => ∃ xs, S.at K H xs ∧ i = xs.length⟩
theorem begins_iter {S : Sr} {HH : Heap → Prop} (B : Begins S.val S.ob0 HH) : S.ob0.isFreed = false := B.free
theorem goes_src {X : Cx} {pins : List (Addr × Obj)} {σ : L2.St} {H : Hp} {s : Shared} {tg : Expr} {S : Sr} {xs : List V} (hh : X.A.handled = none) (I : Inv X pins σ H s) (h : S.at X.K H xs) {j : Addr} (hj : ∀ a ∈ S.fp, a ≠ j) :
    ∃ (n : Nat) (Y : Nat → Value → Heap → Prop) (St : Nat → Heap → Prop), Goes X.prog X.w X.A tg j (j :: S.fp) [j] n Y St ∧ n = xs.length ∧ (∀ i, S.own j i s.heap → St i s.heap) ∧ (∀ i h, St i h → S.own j i h) ∧ ∀ i v h, Y i v h → ∃ x, xs[i]? = some x ∧ RelV x v := by
  cases S with
  | lst a =>
    obtain ⟨its, r, p, _⟩ := I.list h
    refine ⟨_, _, _, Goes.list hh j a (hj a (List.mem_singleton.mpr rfl)) its.toArray, by rw [r.length]; simp, fun i o => ⟨o, p.isList⟩, fun i h q => q.1, fun i v h q => ?_⟩
    have q : its.toArray[i]? = some v := q
    exact vals_at r (by simpa using q)
  | tup a =>
    obtain ⟨its, r, p, _⟩ := I.tuple h
    refine ⟨_, _, _, Goes.tuple hh j a (hj a (List.mem_singleton.mpr rfl)) its.toArray, by rw [r.length]; simp, fun i o => ⟨o, p⟩, fun i h q => q.1, fun i v h q => ?_⟩
    have q : its.toArray[i]? = some v := q
    exact vals_at r (by simpa using q)
  | txt z t =>
    have e : xs = charsV z := h
    refine ⟨_, _, _, Goes.text hh j z t, by rw [e]; simp [charsV], fun i o => o, fun i h q => q, fun i v h q => ?_⟩
    obtain ⟨c, u, h1, rfl⟩ := q
    refine ⟨.str ⟨#[c]⟩, ?_, u, rfl⟩
    rw [e]
    unfold charsV
    rw [List.getElem?_map]
    have h2 : z.cps.toList[i]? = some c := by simpa using h1
    rw [h2]
    rfl
theorem own_self {P : Program} {w : World} {S : Sr} {j : Addr} (A : Around) (i : Nat) (s : Shared) (Q : Value → Shared → Prop) (E : Value → Shared → Prop) (o : S.own j i s.heap) (h : Q (.ref j) s) : wpAny (model P w) A (pyIter (.ref j)) Q E s := by
  cases S with
  | lst a => exact wpAny_pyIter_listiter o h
  | tup a => exact wpAny_pyIter_tupleiter o h
  | txt z t =>
    have o : s.heap.IsStrIter j (strIterType z) z t i := o
    unfold strIterType at o
    split at o
    · exact wpAny_pyIter_striter_ascii o h
    · exact wpAny_pyIter_striter_wide o h
theorem turn_src {P : Program} {w : World} {K : PySem.W.Frag} {tg : Expr} (S : Sr) (j : Addr) (hj : ∀ a ∈ S.fp, a ≠ j) : Turn P w K tg (Js K S) [j] j (fun i h => S.own j i h) := by
  refine turn_goes (List.mem_singleton.mpr rfl) (fun i h o b hb => ?_) (fun i h h' o k => Sr.own_at o fun ob e => k j (List.mem_singleton.mpr rfl) ob e) (fun A i s Q E o h => own_self A i s Q E o h) fun X hP hw hK hc i pins s σ H I o hg => ?_
  · rw [List.mem_singleton.mp hb]
    exact Sr.own_obj o
  · subst hP hw hK
    obtain ⟨xs, hx, hor⟩ : ∃ xs, S.at X.K H xs ∧ (i < xs.length ∨ i = xs.length) := by
      rcases hg with ⟨xs, a, b⟩ | ⟨xs, a, b⟩
      · exact ⟨xs, a, .inl b⟩
      · exact ⟨xs, a, .inr b⟩
    obtain ⟨n, Y, St, W, hn, o1, o2, hY⟩ := goes_src (tg := tg) (I.ok.hd hc) I hx hj
    refine ⟨_, _, n, _, St, W.toN, fun b hb => hb, o1 i o, fun ⟨ys, a, b⟩ => ?_, fun ⟨ys, a, b⟩ => ?_, fun h q => o2 _ h q, fun v h hlt y => ?_⟩
    · rw [hn, S.inj I hx a]; exact b
    · rw [hn, S.inj I hx a]; exact b
    · obtain ⟨x, h1, h2⟩ := hY i v h y
      exact .inl ⟨x, h2, rfl, fun ys a => by rw [← S.inj I hx a]; exact h1⟩
end T
end
section
set_option Elab.async false
set_option linter.all false
set_option maxRecDepth 100000
/-! T11: what is walked, as rules. -/
namespace T
open PySem PySem.Spec PyProof.Rows L2
def itSrc (x : D) : ItM := fun m => srcAt m x
def iSrc (me : EM) : Slots → Mem → Res ItM := fun r μ => (me r μ).bind fun x μ1 => match srcAt μ1 x with
  | some _ => .ok (itSrc x) μ1
  | none => .stuck
def itFix (ds : List D) : ItM := fun _ => some ds
section
variable {X : Cx} {tg : Expr} {e : Expr} {m : EM} {pos : Pos}
theorem mi_src (h : ME X e m) : MI X tg e (iSrc m) := by
  refine ⟨fun W tk => ⟨fun pins s σ H R I ⟨u, r, μ, h1, h2, h3⟩ => ?_⟩⟩
  unfold iSrc at h3
  refine thn ((h.run W tk).run pins s σ H (fun v H1 => ∃ u1 μ1 d ds, Grow u u1 ∧ Ext H H1 ∧ HRep X.K u1 H1 μ1 ∧ Rep X.K u1 H1 d v ∧ srcAt μ1 d = some ds ∧ ∀ J, ItOk X.K u1 H1 J (itSrc d) → R J H1) I ⟨u, r, μ, h1, h2, ?_⟩) fun v s1 ⟨x, H1, I1, r1, u1, μ1, d, ds, g1, e1, k1, p1, es, q1⟩ => ?_
  · cases em : m r μ with
    | stuck => rw [em] at h3; exact h3
    | exc c p m => rw [em] at h3; exact h3
    | ok d m1 =>
      rw [em, Res.bind_ok] at h3
      intro u' H' v a b c q
      cases es : srcAt m1 d with
      | none => simp only [es] at h3; exact h3.elim
      | some ds =>
        simp only [es] at h3
        exact ⟨u', m1, d, ds, a, b, c, q, es, fun J ok => h3 u' H' J a b c ok⟩
  · obtain ⟨S, ev, hS⟩ := src_of r1 k1 p1 es
    obtain ⟨xs, hx, hr⟩ := hS u1 H1 μ1 ds (Grow.refl _) (Ext.refl _) k1 es
    obtain ⟨HH, B, hb⟩ := Sr.begins I1 hx
    rw [← ev]
    refine B.iter X.prog X.w X.A X.xe s1 _ hb ?_
    have hlt : ∀ a ∈ S.fp, a ≠ s1.heap.objs.size := fun a ha => Nat.ne_of_lt (Sr.le I1 hx a ha)
    refine ⟨s1.heap.objs.size, [s1.heap.objs.size], _, Js X.K S, H1, rfl, I1.kept (t' := s1.toks) fun b o e => Heap.get?_push_of_some _ e, turn_src S _ hlt, Sr.own_rec (Heap.get?_push_size _ B.free), fun b hb => ?_, q1 _ ?_⟩
    · rw [List.mem_singleton.mp hb]
      exact I1.fpOk (Nat.le_refl _) (I1.hok.fresh (Nat.le_refl _))
    · refine ⟨fun i u' H' m' ds' gr ex k' e' hl => ?_, fun i u' H' m' ds' gr ex k' e' hl => ?_, fun i u' H' m' ds' d' x' H2 gr ex k' e' ed y => ?_⟩
      · obtain ⟨ys, h1, h2⟩ := hS u' H' m' ds' gr ex k' e'
        exact ⟨ys, h1, by rw [h2.length]; exact hl.symm⟩
      · obtain ⟨ys, h1, h2⟩ := hS u' H' m' ds' gr ex k' e'
        exact ⟨ys, h1, by rw [h2.length]; exact hl⟩
      · obtain ⟨ys, h1, h2⟩ := hS u' H' m' ds' gr ex k' e'
        obtain ⟨eH, y⟩ := y
        subst eH
        exact ⟨Ext.refl _, k', h2.getV ed (y ys h1)⟩
/-! ### range -/
def gRng (i : Int) (n : Nat) : List D := (List.range n).map fun (j : Nat) => D.int (i + (j : Int))
def iR1 (ms : LM) : Slots → Mem → Res ItM := fun r μ => (ms r μ).bind fun ds μ1 => match ds with
  | [.int j] => if -(2 ^ 62) ≤ j ∧ j < 2 ^ 62 then .ok (itFix (gRng 0 j.toNat)) μ1 else .stuck
  | _ => .stuck
def iR2 (ms : LM) : Slots → Mem → Res ItM := fun r μ => (ms r μ).bind fun ds μ1 => match ds with
  | [.int i, .int j] => if -(2 ^ 62) ≤ i ∧ i < 2 ^ 62 ∧ -(2 ^ 62) ≤ j ∧ j < 2 ^ 62 then .ok (itFix (gRng i (j - i).toNat)) μ1 else .stuck
  | _ => .stuck
theorem rng_ok {K : PySem.W.Frag} {u : List Addr} {H : Hp} {i : Int} {n : Nat} : ItOk K u H (Itr i n) (itFix (gRng i n)) := by
  have hl : (gRng i n).length = n := by simp [gRng]
  refine ⟨fun j u' H' m ds gr ex k e hj => ?_, fun j u' H' m ds gr ex k e hj => ?_, fun j u' H' m ds d x H2 gr ex k e ed y => ?_⟩
  · cases e
    rw [hl] at hj
    exact Nat.le_of_eq hj
  · cases e
    rw [hl] at hj
    exact hj
  · cases e
    obtain ⟨eH, ev⟩ := y
    subst eH
    refine ⟨Ext.refl _, k, ?_⟩
    have hj : j < n := by rw [← hl]; exact (List.getElem?_eq_some_iff.mp ed).1
    have e2 : (gRng i n)[j]? = some (.int (i + (j : Int))) := by simp [gRng, List.getElem?_range hj]
    rw [e2] at ed
    cases ed
    exact ev
theorem mi_range1 {a : Expr} {ms : LM} {p : Pos} (hg : Gl X "range") (hm : X.mg "range" = none) (ha : MA X [a] ms) (hs : starEach [a] X.env = [(false, eval a X.env)] := by rfl) : MI X tg (.Call (.Name "range" p) [a] [] pos) (iR1 ms) := by
  refine ⟨fun W tk => PI.weak (pi_range1 hg hm (ha.run W tk) hs) fun σ H R h => ?_⟩
  obtain ⟨u, r, μ, h1, h2, h3⟩ := h
  refine ⟨u, r, μ, h1, h2, ?_⟩
  unfold iR1 at h3
  cases e : ms r μ with
  | stuck => rw [e] at h3; exact h3
  | exc c p m => rw [e] at h3; exact h3
  | ok ds m =>
    rw [e, Res.bind_ok] at h3
    intro u' H' vs a b c q
    split at h3
    · rename_i j
      by_cases hj : -(2 ^ 62) ≤ j ∧ j < 2 ^ 62
      · rw [if_pos hj] at h3
        exact ⟨j, one_int q, hj.1, hj.2, h3 u' H' _ a b c rng_ok⟩
      · rw [if_neg hj] at h3
        exact h3.elim
    · exact h3.elim
theorem mi_range2 {a b : Expr} {ms : LM} {p : Pos} (hg : Gl X "range") (hm : X.mg "range" = none) (ha : MA X [a, b] ms) (hs : starEach [a, b] X.env = [(false, eval a X.env), (false, eval b X.env)] := by rfl) (hs2 : starEach [b] X.env = [(false, eval b X.env)] := by rfl) : MI X tg (.Call (.Name "range" p) [a, b] [] pos) (iR2 ms) := by
  refine ⟨fun W tk => PI.weak (pi_range2 hg hm (ha.run W tk) hs hs2) fun σ H R h => ?_⟩
  obtain ⟨u, r, μ, h1, h2, h3⟩ := h
  refine ⟨u, r, μ, h1, h2, ?_⟩
  unfold iR2 at h3
  cases e : ms r μ with
  | stuck => rw [e] at h3; exact h3
  | exc c p m => rw [e] at h3; exact h3
  | ok ds m =>
    rw [e, Res.bind_ok] at h3
    intro u' H' vs a b c q
    split at h3
    · rename_i i j
      by_cases hj : -(2 ^ 62) ≤ i ∧ i < 2 ^ 62 ∧ -(2 ^ 62) ≤ j ∧ j < 2 ^ 62
      · rw [if_pos hj] at h3
        exact ⟨i, j, two_int q, hj, h3 u' H' _ a b c rng_ok⟩
      · rw [if_neg hj] at h3
        exact h3.elim
    · exact h3.elim
/-! ### zip -/
def zip2D (xs ys : List D) : List D := List.zipWith (fun a b => .tup [a, b]) xs ys
def itZ2 (x y : D) : ItM := fun m => match srcAt m x, srcAt m y with
  | some xs, some ys => some (zip2D xs ys)
  | _, _ => none
def iZ2 (ms : LM) : Slots → Mem → Res ItM := fun r μ => (ms r μ).bind fun ds μ1 => match ds with
  | [x, y] => if (srcAt μ1 x).isSome && (srcAt μ1 y).isSome then .ok (itZ2 x y) μ1 else .stuck
  | _ => .stuck
def Jz (K : PySem.W.Frag) (S1 S2 : Sr) : It :=
  ⟨fun i H => ∃ xs ys, S1.at K H xs ∧ S2.at K H ys ∧ i < min xs.length ys.length,
    fun i H v H' => ∃ T x y, v = .ref T ∧ H T = none ∧ H' = upd H T (.tup [x, y]) ∧ (∀ xs, S1.at K H xs → xs[i]? = some x) ∧ ∀ ys, S2.at K H ys → ys[i]? = some y,
    fun i H => ∃ xs ys, S1.at K H xs ∧ S2.at K H ys ∧ i = min xs.length ys.length⟩
theorem turn_z2 {P : Program} {w : World} {K : PySem.W.Frag} {elts : List Expr} {kk : Nat} {tpos : Pos} (S1 S2 : Sr) (N : Nat) (h1 : ∀ a ∈ S1.fp, a < N) (h2 : ∀ a ∈ S2.fp, a < N) :
    Turn P w K (.Tuple elts kk tpos) (Jz K S1 S2) [N + 4, N + 2, N + 3, N, N + 1] (N + 4) (fun i h => IsZip h (N + 4) (N + 2) (N + 3) .none ∧ IsTupOf2 h (N + 2) (.ref N) (.ref (N + 1)) ∧ (∃ a1 a2, IsTupOf2 h (N + 3) a1 a2) ∧ S1.own N i h ∧ S2.own (N + 1) i h) := by
  have n1 : ∀ a ∈ S1.fp, a ≠ N := fun a ha => Nat.ne_of_lt (h1 a ha)
  have n2 : ∀ a ∈ S2.fp, a ≠ N + 1 := fun a ha => Nat.ne_of_lt (Nat.lt_succ_of_lt (h2 a ha))
  refine turn_goes (by simp) (fun i h o b hb => ?_) (fun i h h' o k => ?_) (fun A i s Q E o h => wpAny_pyIter_zip o.1 h) fun X hP hw hK hc i pins s σ H I o hg => ?_
  · obtain ⟨a1, a2, ⟨_, _, a3⟩, a4, a5⟩ := o
    have e' : b = N + 4 ∨ b = N + 2 ∨ b = N + 3 ∨ b = N ∨ b = N + 1 := by simpa using hb
    rcases e' with z | z | z | z | z
    · rw [z]; exact ⟨_, a1, fun v q => nomatch q⟩
    · rw [z]; exact ⟨_, a2, fun v q => nomatch q⟩
    · rw [z]; exact ⟨_, a3, fun v q => nomatch q⟩
    · rw [z]; exact Sr.own_obj a4
    · rw [z]; exact Sr.own_obj a5
  · obtain ⟨a1, a2, ⟨_, _, a3⟩, a4, a5⟩ := o
    exact ⟨k _ (by simp) _ a1, k _ (by simp) _ a2, ⟨_, _, k _ (by simp) _ a3⟩, Sr.own_at a4 fun ob e => k _ (by simp) ob e, Sr.own_at a5 fun ob e => k _ (by simp) ob e⟩
  · subst hP hw hK
    obtain ⟨xs, ys, hx, hy⟩ : ∃ xs ys, S1.at X.K H xs ∧ S2.at X.K H ys := by
      rcases hg with ⟨xs, ys, a, b, _⟩ | ⟨xs, ys, a, b, _⟩
      · exact ⟨xs, ys, a, b⟩
      · exact ⟨xs, ys, a, b⟩
    have hh : X.A.in1.handled = none := I.ok.hd hc
    obtain ⟨n1', P1, St1, D1, e1, o1, o2, hP1⟩ := Sr.draws hh I hx n1
    obtain ⟨n2', P2, St2, D2, e2, o3, o4, hP2⟩ := Sr.draws hh I hy n2
    obtain ⟨a1, a2, a3, a4, a5⟩ := o
    refine ⟨_, _, _, _, _, GoesN.zip2 (zip_sep2 h1 h2) D1 D2, fun b hb => ?_, ⟨a1, a2, a3, o1 i a4, o3 i a5⟩, fun ⟨xs', ys', b1, b2, b3⟩ => ?_, fun ⟨xs', ys', b1, b2, b3⟩ => ?_, fun h ⟨q1, q2, q3, q4, q5⟩ => ⟨q1, q2, q3, o2 _ h q4, o4 _ h q5⟩, fun v h hlt ⟨T, x, y, ev, hT, p1, p2, ht⟩ => ?_⟩
    · have e' : b = N + 4 ∨ b = N + 3 ∨ b = N ∨ b = N + 1 := by simpa using hb
      rcases e' with z | z | z | z <;> rw [z] <;> simp
    · rw [e1, e2, Sr.inj I hx b1, Sr.inj I hy b2]; exact b3
    · rw [e1, e2, Sr.inj I hx b1, Sr.inj I hy b2]; exact b3
    · obtain ⟨xv, f1, g1⟩ := hP1 i x p1
      obtain ⟨yv, f2, g2⟩ := hP2 i y p2
      exact .inr ⟨T, [xv, yv], _, ev, hT, ht, .cons g1 (.cons g2 .nil), by show 2 ≤ sizeLine; decide, fun nT => ⟨T, xv, yv, rfl, nT, rfl, fun zs b1 => by rw [← Sr.inj I hx b1]; exact f1, fun zs b1 => by rw [← Sr.inj I hy b1]; exact f2⟩⟩
theorem zip2_get {xs ys : List D} {i : Nat} {d : D} (h : (zip2D xs ys)[i]? = some d) : ∃ a b, xs[i]? = some a ∧ ys[i]? = some b ∧ d = .tup [a, b] := by
  unfold zip2D at h
  rw [List.getElem?_zipWith] at h
  cases h1 : xs[i]? with
  | none => rw [h1] at h; cases h
  | some a =>
    cases h2 : ys[i]? with
    | none => rw [h1, h2] at h; cases h
    | some b =>
      rw [h1, h2] at h
      cases h
      exact ⟨a, b, rfl, rfl, rfl⟩
theorem mi_zip2 {a b : Expr} {ms : LM} {p tpos : Pos} {elts : List Expr} {kk : Nat} (hg : Gl X "zip") (hm : X.mg "zip" = none) (ha : MA X [a, b] ms) (hs : starEach [a, b] X.env = (false, eval a X.env) :: starEach [b] X.env := by rfl) (hpl : (backTo pos (starEach [b] X.env)).any (·.1) = false := by rfl) :
    MI X (.Tuple elts kk tpos) (.Call (.Name "zip" p) [a, b] [] pos) (iZ2 ms) := by
  refine ⟨fun W tk => ⟨fun pins s σ H R I ⟨u, r, μ, h1, h2, h3⟩ => ?_⟩⟩
  unfold iZ2 at h3
  refine Call_ (ld_blt I hg hm PyProof.Rows.boot_zip (PyProof.Rows.callWith_type1 (thn ((ha.run W tk).run pos pins s σ H (fun vs H1 => ∃ u1 μ1 x y xs ys, Grow u u1 ∧ Ext H H1 ∧ HRep X.K u1 H1 μ1 ∧ RepL X.K u1 H1 [x, y] vs ∧ srcAt μ1 x = some xs ∧ srcAt μ1 y = some ys ∧ ∀ J, ItOk X.K u1 H1 J (itZ2 x y) → R J H1) I ⟨u, r, μ, h1, h2, ?_⟩) fun us s1 ⟨vs, H1, I1, r1, u1, μ1, x, y, xs, ys, g1, e1, k1, p1, es, es2, q1⟩ => ?_) hs hpl))
  · cases em : ms r μ with
    | stuck => rw [em] at h3; exact h3
    | exc c p m => rw [em] at h3; exact h3
    | ok ds m1 =>
      rw [em, Res.bind_ok] at h3
      intro u' H' v a b c q
      split at h3
      · rename_i x y
        cases es : srcAt m1 x with
        | none => rw [es] at h3; exact h3.elim
        | some xs =>
          cases es2 : srcAt m1 y with
          | none => rw [es, es2] at h3; exact h3.elim
          | some ys =>
            rw [es, es2] at h3
            exact ⟨u', m1, x, y, xs, ys, a, b, c, q, es, es2, fun J ok => h3 u' H' J a b c ok⟩
      · exact h3.elim
  · obtain ⟨xv, yv, rfl, px, py⟩ := two_any p1
    obtain ⟨w1, w2, rfl, rx, ry⟩ := vals2 r1
    obtain ⟨S1, ev1, hS1⟩ := src_of rx k1 px es
    obtain ⟨S2, ev2, hS2⟩ := src_of ry k1 py es2
    obtain ⟨vxs, hx, _⟩ := hS1 u1 H1 μ1 xs (Grow.refl _) (Ext.refl _) k1 es
    obtain ⟨vys, hy, _⟩ := hS2 u1 H1 μ1 ys (Grow.refl _) (Ext.refl _) k1 es2
    obtain ⟨HH1, B1, hb1⟩ := Sr.begins I1 hx
    obtain ⟨HH2, B2, hb2⟩ := Sr.begins I1 hy
    rw [← ev1, ← ev2]
    refine zip_begins2 B1 B2 hb1 hb2 fun h' hz hTI hTO j1 j2 hsz hk => wpAny_pyIter_zip hz ?_
    have I2 : Inv X pins σ H1 { s1 with heap := h' } := I1.kept (t' := s1.toks) hk
    refine ⟨s1.heap.objs.size + 4, _, _, Jz X.K S1 S2, H1, rfl, I2, turn_z2 S1 S2 s1.heap.objs.size (Sr.le I1 hx) (Sr.le I1 hy), ⟨hz, hTI, ⟨_, _, hTO⟩, Sr.own_rec j1, Sr.own_rec j2⟩, fun c hcm => ?_, q1 _ ?_⟩
    · have hle : s1.heap.objs.size ≤ c := by
        have e' : c = s1.heap.objs.size + 4 ∨ c = s1.heap.objs.size + 2 ∨ c = s1.heap.objs.size + 3 ∨ c = s1.heap.objs.size ∨ c = s1.heap.objs.size + 1 := by simpa using hcm
        rcases e' with z | z | z | z | z
        · rw [z]; exact Nat.le_add_right _ _
        · rw [z]; exact Nat.le_add_right _ _
        · rw [z]; exact Nat.le_add_right _ _
        · rw [z]; exact Nat.le_refl _
        · rw [z]; exact Nat.le_add_right _ _
      exact I1.fpOk hle (I1.hok.fresh hle)
    · have both : ∀ {u' H' m' ds'}, Grow u1 u' → Ext H1 H' → HRep X.K u' H' m' → itZ2 x y m' = some ds' → ∃ xs ys vx vy, ds' = zip2D xs ys ∧ S1.at X.K H' vx ∧ S2.at X.K H' vy ∧ RepL X.K u' H' xs vx ∧ RepL X.K u' H' ys vy := fun {u' H' m' ds'} gr ex k' e' => by
        unfold itZ2 at e'
        split at e'
        · rename_i a b f1 f2
          cases e'
          obtain ⟨vx, c1, c2⟩ := hS1 u' H' m' a gr ex k' f1
          obtain ⟨vy, c3, c4⟩ := hS2 u' H' m' b gr ex k' f2
          exact ⟨a, b, vx, vy, rfl, c1, c3, c2, c4⟩
        · cases e'
      refine ⟨fun i u' H' m' ds' gr ex k' e' hl => ?_, fun i u' H' m' ds' gr ex k' e' hl => ?_, fun i u' H' m' ds' d' x' H2 gr ex k' e' ed y' => ?_⟩
      · obtain ⟨xs', ys', vx, vy, rfl, c1, c2, c3, c4⟩ := both gr ex k' e'
        refine ⟨vx, vy, c1, c2, ?_⟩
        rw [c3.length, c4.length, ← hl]
        simp [zip2D]
      · obtain ⟨xs', ys', vx, vy, rfl, c1, c2, c3, c4⟩ := both gr ex k' e'
        refine ⟨vx, vy, c1, c2, ?_⟩
        rw [c3.length, c4.length]
        simpa [zip2D] using hl
      · obtain ⟨xs', ys', vx, vy, rfl, c1, c2, c3, c4⟩ := both gr ex k' e'
        obtain ⟨T, xv, yv, rfl, nT, rfl, f1, f2⟩ := y'
        obtain ⟨a, b, z1, z2, rfl⟩ := zip2_get ed
        refine ⟨Ext.new nT, k'.new nT, T, [xv, yv], rfl, upd_same, RepL.mono (Grow.refl _) (Ext.new nT) [a, b] ⟨xv, [yv], rfl, c3.getV z1 (f1 vx c1), yv, [], rfl, c4.getV z2 (f2 vy c2), rfl⟩⟩
end
end T
end
section
set_option Elab.async false
set_option linter.all false
set_option maxRecDepth 100000
/-! T12: enumerate; dicts walked, under a lock. -/
namespace T
open PySem PySem.Spec PyProof.Rows L2
/-! ### enumerate -/
set_option maxHeartbeats 1000000 in
theorem meets_enum1 {v : Value} {o : Obj} {H : Heap → Prop} (B : Begins v o H) :
    Meets (Builtin.«enumerate.__new__» ⟨[.type "enumerate", v], []⟩) (fun _ R s => H s.heap ∧
      R (.ok (.ret (.ref (s.heap.push o).objs.size))) { s with heap := (s.heap.push o).push { cls := .type "enumerate", data := .fields #[.none, .bool false, .ref s.heap.objs.size, rawInt 0, .none, .none] } }) :=
  .of_wp fun prog w A R s h => by
    obtain ⟨hp, g, d, tk, os⟩ := s; obtain ⟨h1, h⟩ := h
    have hsub := sub_enumerate
    have q1 : ∀ {A' : Around} {E : Value → Shared → Prop} {Q : Value → Shared → Prop}, Q (.ref hp.objs.size) ⟨hp.push o, g, d, tk, os⟩ → wpAny (model prog w) A' (pyIter v) Q E ⟨hp, g, d, tk, os⟩ :=
      fun q => B.iter prog w _ _ ⟨hp, g, d, tk, os⟩ _ h1 q
    wp_walk using q1
    refine wpAny_stack_any fun st => wpAny_pure ?_
    split
    · rename_i c _ _ _ _ _
      cases (c == Value.type "enumerate")
      · wp_walk using q1
        exact ⟨_, rfl, h⟩
      · wp_walk using q1
        exact ⟨_, rfl, h⟩
    · wp_walk using q1
      exact ⟨_, rfl, h⟩
theorem enum_begins1 {prog : Program} {w : World} {A : Around} {E : Value → Shared → Prop} {s : Shared} {v : Value} {o : Obj} {H : Heap → Prop} {Q : Value → Shared → Prop} (B : Begins v o H) (h1 : H s.heap)
    (h : ∀ h', IsEnum h' (s.heap.objs.size + 1) s.heap.objs.size 0 .none → h'.get? s.heap.objs.size = some o → h'.objs.size = s.heap.objs.size + 2 →
      (∀ b o, s.heap.get? b = some o → h'.get? b = some o) → Q (.ref (s.heap.objs.size + 1)) { s with heap := h' }) :
    wpAny (model prog w) A (call (.type "enumerate") [v]) Q E s := by
  refine callType_new F.called_enumerate (by decide) (F.typeCall_enumerate_1 _) (F.newCall_enumerate_1 _) (fun obj => F.args_object_init_2 obj _) F.entry_enumerate_new
    (meets_enum1 B) ⟨h1, ?_⟩
  have hz : (s.heap.push o).objs.size = s.heap.objs.size + 1 := Heap.size_push ..
  show _ ∧ _
  rw [hz]
  have he : IsEnum ((s.heap.push o).push { cls := .type "enumerate", data := .fields #[.none, .bool false, .ref s.heap.objs.size, rawInt 0, .none, .none] }) (s.heap.objs.size + 1) s.heap.objs.size 0 .none := by
    have := Heap.get?_push_size (s.heap.push o) (o := { cls := .type "enumerate", data := .fields #[.none, .bool false, .ref s.heap.objs.size, rawInt 0, .none, .none] }) rfl
    rw [hz] at this; exact this
  refine ⟨⟨_, he, rfl⟩, h _ he (Heap.get?_push_of_some _ (Heap.get?_push_size _ B.free)) (by rw [Heap.size_push, hz]) fun b o x => Heap.get?_push_of_some _ (Heap.get?_push_of_some _ x)⟩
def enumD : Nat → List D → List D
  | _, [] => []
  | i, d :: ds => .tup [.int (i : Int), d] :: enumD (i + 1) ds
def itEn (x : D) : ItM := fun m => (srcAt m x).map (enumD 0)
def iEn (ms : LM) : Slots → Mem → Res ItM := fun r μ => (ms r μ).bind fun ds μ1 => match ds with
  | [x] => if (srcAt μ1 x).isSome then .ok (itEn x) μ1 else .stuck
  | _ => .stuck
theorem enumD_length : ∀ {i : Nat} {ds : List D}, (enumD i ds).length = ds.length
  | _, [] => rfl
  | i, d :: ds => congrArg Nat.succ (enumD_length (i := i + 1) (ds := ds))
theorem enumD_get : ∀ {k : Nat} {ds : List D} {i : Nat} {d : D}, (enumD k ds)[i]? = some d → ∃ a, ds[i]? = some a ∧ d = .tup [.int ((k + i : Nat) : Int), a]
  | _, [], _, _, h => by simp [enumD] at h
  | k, a :: ds, 0, d, h => by
    simp only [enumD, List.getElem?_cons_zero, Option.some.injEq] at h
    exact ⟨a, rfl, by rw [← h]; rfl⟩
  | k, a :: ds, i + 1, d, h => by
    simp only [enumD, List.getElem?_cons_succ] at h
    obtain ⟨b, h1, h2⟩ := enumD_get h
    exact ⟨b, by simpa using h1, by rw [h2]; congr 3; omega⟩
def Je (K : PySem.W.Frag) (S : Sr) : It :=
  ⟨fun i H => ∃ xs, S.at K H xs ∧ i < xs.length, fun i H v H' => ∃ T x, v = .ref T ∧ H T = none ∧ H' = upd H T (.tup [.int (i : Nat), x]) ∧ ∀ xs, S.at K H xs → xs[i]? = some x, fun i H => ∃ xs, S.at K H xs ∧ i = xs.length⟩
theorem turn_en {P : Program} {w : World} {K : PySem.W.Frag} {elts : List Expr} {kk : Nat} {tpos : Pos} (S : Sr) (N : Nat) (h1 : ∀ a ∈ S.fp, a < N) :
    Turn P w K (.Tuple elts kk tpos) (Je K S) [N + 1, N] (N + 1) (fun i h => (∃ old, IsEnum h (N + 1) N ((i : Nat) : Int) old) ∧ S.own N i h) := by
  have n1 : ∀ a ∈ S.fp, a ≠ N := fun a ha => Nat.ne_of_lt (h1 a ha)
  refine turn_goes (by simp) (fun i h o b hb => ?_) (fun i h h' o k => ?_) (fun A i s Q E o h => let ⟨⟨_, he⟩, _⟩ := o; wpAny_pyIter_enum he h) fun X hP hw hK hc i pins s σ H I o hg => ?_
  · obtain ⟨⟨_, a1⟩, a2⟩ := o
    have e' : b = N + 1 ∨ b = N := by simpa using hb
    rcases e' with z | z
    · rw [z]; exact ⟨_, a1, fun v q => nomatch q⟩
    · rw [z]; exact Sr.own_obj a2
  · obtain ⟨⟨_, a1⟩, a2⟩ := o
    exact ⟨⟨_, k _ (by simp) _ a1⟩, Sr.own_at a2 fun ob e => k _ (by simp) ob e⟩
  · subst hP hw hK
    obtain ⟨xs, hx⟩ : ∃ xs, S.at X.K H xs := by
      rcases hg with ⟨xs, a, b⟩ | ⟨xs, a, b⟩
      · exact ⟨xs, a⟩
      · exact ⟨xs, a⟩
    have hh : X.A.in1.handled = none := I.ok.hd hc
    obtain ⟨n, P, St, D1, e1, o1, o2, hP1⟩ := Sr.draws hh I hx n1
    obtain ⟨a1, a2⟩ := o
    refine ⟨_, _, _, _, _, GoesN.ofWalksT (WalksT.enumerateD D1 (N + 1) (Nat.succ_ne_self N) (fun hm => ?_) (List.mem_cons_self ..)), fun b hb => hb, ⟨a1, o1 i a2⟩, fun ⟨xs', b1, b2⟩ => ?_, fun ⟨xs', b1, b2⟩ => ?_, fun h ⟨q1, q2⟩ => ⟨q1, o2 _ h q2⟩, fun v h hlt ⟨T, vals, ev, hT, ⟨t, x, p1, ep⟩, ht⟩ => ?_⟩
    · rcases List.mem_cons.mp hm with z | z
      · exact absurd z (Nat.succ_ne_self N)
      · have z2 : N + 1 < N := h1 _ z
        omega
    · rw [e1, Sr.inj I hx b1]; exact b2
    · rw [e1, Sr.inj I hx b1]; exact b2
    · obtain ⟨xv, f1, g1⟩ := hP1 i x p1
      refine .inr ⟨T, [.int (i : Nat), xv], vals, ev, hT, ht, ?_, by show 2 ≤ sizeLine; decide, fun nT => ⟨T, xv, rfl, nT, rfl, fun zs b1 => by rw [← Sr.inj I hx b1]; exact f1⟩⟩
      rw [ep]
      exact .cons ⟨t, rfl⟩ (.cons g1 .nil)
section
variable {X : Cx} {tg : Expr} {pos : Pos}
theorem mi_enum {a : Expr} {ms : LM} {p tpos : Pos} {elts : List Expr} {kk : Nat} (hg : Gl X "enumerate") (hm : X.mg "enumerate" = none) (ha : MA X [a] ms) (hs : starEach [a] X.env = [(false, eval a X.env)] := by rfl) :
    MI X (.Tuple elts kk tpos) (.Call (.Name "enumerate" p) [a] [] pos) (iEn ms) := by
  refine ⟨fun W tk => ⟨fun pins s σ H R I ⟨u, r, μ, h1, h2, h3⟩ => ?_⟩⟩
  unfold iEn at h3
  refine Call_ (ld_blt I hg hm boot_enumerate (PyProof.Rows.callWith_type1 (thn ((ha.run W tk).run pos pins s σ H (fun vs H1 => ∃ u1 μ1 x xs, Grow u u1 ∧ Ext H H1 ∧ HRep X.K u1 H1 μ1 ∧ RepL X.K u1 H1 [x] vs ∧ srcAt μ1 x = some xs ∧ ∀ J, ItOk X.K u1 H1 J (itEn x) → R J H1) I ⟨u, r, μ, h1, h2, ?_⟩) fun us s1 ⟨vs, H1, I1, r1, u1, μ1, x, xs, g1, e1, k1, p1, es, q1⟩ => ?_) hs rfl))
  · cases em : ms r μ with
    | stuck => rw [em] at h3; exact h3
    | exc c p m => rw [em] at h3; exact h3
    | ok ds m1 =>
      rw [em, Res.bind_ok] at h3
      intro u' H' v a b c q
      split at h3
      · rename_i x
        cases es : srcAt m1 x with
        | none => rw [es] at h3; exact h3.elim
        | some xs =>
          rw [es] at h3
          exact ⟨u', m1, x, xs, a, b, c, q, es, fun J ok => h3 u' H' J a b c ok⟩
      · exact h3.elim
  · obtain ⟨xv, rfl, px⟩ := one_any p1
    obtain ⟨w1, rfl, rx⟩ := vals1 r1
    obtain ⟨S1, ev1, hS1⟩ := src_of rx k1 px es
    obtain ⟨vxs, hx, _⟩ := hS1 u1 H1 μ1 xs (Grow.refl _) (Ext.refl _) k1 es
    obtain ⟨HH1, B1, hb1⟩ := Sr.begins I1 hx
    rw [← ev1]
    refine enum_begins1 B1 hb1 fun h' he j1 hsz hk => wpAny_pyIter_enum he ?_
    have I2 : Inv X pins σ H1 { s1 with heap := h' } := I1.kept (t' := s1.toks) hk
    refine ⟨s1.heap.objs.size + 1, _, _, Je X.K S1, H1, rfl, I2, turn_en S1 s1.heap.objs.size (Sr.le I1 hx), ⟨⟨_, he⟩, Sr.own_rec j1⟩, fun c hcm => ?_, q1 _ ?_⟩
    · have hle : s1.heap.objs.size ≤ c := by
        have e' : c = s1.heap.objs.size + 1 ∨ c = s1.heap.objs.size := by simpa using hcm
        rcases e' with z | z
        · rw [z]; exact Nat.le_add_right _ _
        · rw [z]; exact Nat.le_refl _
      exact I1.fpOk hle (I1.hok.fresh hle)
    · have both : ∀ {u' H' m' ds'}, Grow u1 u' → Ext H1 H' → HRep X.K u' H' m' → itEn x m' = some ds' → ∃ xs vx, ds' = enumD 0 xs ∧ S1.at X.K H' vx ∧ RepL X.K u' H' xs vx := fun {u' H' m' ds'} gr ex k' e' => by
        unfold itEn at e'
        obtain ⟨a, f1, rfl⟩ := Option.map_eq_some_iff.mp e'
        obtain ⟨vx, c1, c2⟩ := hS1 u' H' m' a gr ex k' f1
        exact ⟨a, vx, rfl, c1, c2⟩
      refine ⟨fun i u' H' m' ds' gr ex k' e' hl => ?_, fun i u' H' m' ds' gr ex k' e' hl => ?_, fun i u' H' m' ds' d' x' H2 gr ex k' e' ed y' => ?_⟩
      · obtain ⟨xs', vx, rfl, c1, c3⟩ := both gr ex k' e'
        exact ⟨vx, c1, by rw [c3.length, ← hl, enumD_length]⟩
      · obtain ⟨xs', vx, rfl, c1, c3⟩ := both gr ex k' e'
        exact ⟨vx, c1, by rw [c3.length]; rw [enumD_length] at hl; exact hl⟩
      · obtain ⟨xs', vx, rfl, c1, c3⟩ := both gr ex k' e'
        obtain ⟨T, xv, rfl, nT, rfl, f1⟩ := y'
        obtain ⟨a, z1, rfl⟩ := enumD_get ed
        refine ⟨Ext.new nT, k'.new nT, T, [.int (i : Nat), xv], rfl, upd_same, RepL.mono (Grow.refl _) (Ext.new nT) [.int ((0 + i : Nat) : Int), a] ⟨.int (i : Nat), [xv], rfl, by rw [Nat.zero_add]; rfl, xv, [], rfl, c3.getV z1 (f1 vx c1), rfl⟩⟩
end
/-! ### a dict's entries -/
theorem keyDs_rep {K : PySem.W.Frag} {u : List Addr} {H : Hp} : ∀ {ds : List D} {ks : List Key}, keyDs ds = some ks → RepL K u H ds (ks.map kV)
  | [], ks, h => by cases h; rfl
  | d :: ds, ks, h => by
    simp only [keyDs] at h
    split at h
    · rename_i k ks' h1 h2
      cases h
      refine ⟨kV k, ks'.map kV, rfl, ?_, keyDs_rep h2⟩
      cases d <;> cases h1 <;> rfl
    · cases h
theorem keyD_rep {K : PySem.W.Frag} {u : List Addr} {H : Hp} {d : D} {k : Key} (h : keyD d = some k) : Rep K u H d (kV k) := by
  cases d <;> cases h <;> rfl
/-- the entries of the locked dict at d, as the object has them -/
structure Ent (X : Cx) (H : Hp) (s : Shared) (d : Addr) (o : Obj) (ho : HO) (n : Nat) (es : Array DictEntry) (ep : Nat) : Prop where
  sm : (d == sysModules) = false
  raw : s.heap.DictRaw d es ep
  size : es.size = n
  dat : o.data = .dict es ep
  at_ : ∀ (i : Nat) (hi : i < es.size), ∃ xk xv, RelV xk es[i].key ∧ RelV xv es[i].val ∧ (match ho with
    | .dK ys => ∃ k, ys[i]? = some (k, xv) ∧ xk = kV k
    | .dT ys => ∃ k q, ys[i]? = some (k, xv) ∧ xk = .ref q ∧ H q = some (.tup (k.map kV))
    | _ => False)
def lenO : HO → Nat
  | .dK ys => ys.length
  | .dT ys => ys.length
  | _ => 0
theorem ent_of {X : Cx} {pins : List (Addr × Obj)} {σ : L2.St} {H : Hp} {s : Shared} {d : Addr} {o : Obj} {ho : HO} (I : Inv X pins σ H s) (h : H d = some (.frz o ho)) (hd : (∃ ys, ho = .dK ys) ∨ ∃ ys, ho = .dT ys) : ∃ es ep, Ent X H s d o ho (lenO ho) es ep := by
  rcases hd with ⟨kvs, rfl⟩ | ⟨kvs, rfl⟩
  · obtain ⟨hd, z, hs, vs, kv, dof⟩ := I.hok d _ h
    obtain ⟨es, ep, raw, sz, hat⟩ := dof.raw
    have hl : kvs.length = vs.length := Paired.length kv
    obtain ⟨o', e1, _, e3⟩ := id raw
    rw [hd] at e1
    cases e1
    refine ⟨es, ep, hs, raw, by rw [sz, ← hl]; rfl, e3, fun i hi => ?_⟩
    have hi2 : i < kvs.length := by omega
    obtain ⟨u, hu, ru⟩ := kv_get (k := kvs[i].1) (v := kvs[i].2) kv (List.getElem?_eq_getElem hi2)
    obtain ⟨a1, a2⟩ := hat i hi _ _ hu
    exact ⟨kV kvs[i].1, kvs[i].2, relV_key a1, by rw [a2]; exact ru, kvs[i].1, List.getElem?_eq_getElem hi2, rfl⟩
  · obtain ⟨hd, z, hs, xs, pr, o', es, ep, e1, hx, hdt, he, _⟩ := I.hok d _ h
    rw [hd] at e1
    cases e1
    have l1 : es.size = xs.length := size_of_entries he
    have l2 : kvs.length = xs.length := Paired.length pr
    refine ⟨es, ep, hs, ⟨o, hd, hx, hdt⟩, by rw [l1, ← l2]; rfl, hdt, fun i hi => ?_⟩
    have hi2 : i < kvs.length := by omega
    obtain ⟨b, hb, f1, f2, f3⟩ := paired_get pr (List.getElem?_eq_getElem hi2)
    have q := entry_at he i
    rw [hb, Array.getElem?_eq_getElem hi, Option.map_some] at q
    have q' := Option.some.inj q
    exact ⟨.ref b.2.1, kvs[i].2, by rw [q']; rfl, by rw [q']; exact f3, kvs[i].1, b.2.1, List.getElem?_eq_getElem hi2, rfl, f2⟩
end T
end
section
set_option Elab.async false
set_option linter.all false
set_option maxRecDepth 100000
/-! T13: dicts walked, under a lock. -/
namespace T
open PySem PySem.Spec PyProof.Rows L2
inductive DV where
  | ks | vs | is
def DV.sel : DV → List (D × D) → List D
  | .ks, l => l.map (·.1)
  | .vs, l => l.map (·.2)
  | .is, l => l.map fun p => .tup [p.1, p.2]
def dkAt (m : Mem) : D → Option (List (D × D))
  | .obj n => match m[n]? with
    | some (.lk (.dct kvs)) => some kvs
    | _ => none
  | _ => none
def itD (dv : DV) (x : D) : ItM := fun m => (dkAt m x).map dv.sel
def isDO : HO → Prop
  | .dK _ => True
  | .dT _ => True
  | _ => False
def keyAt (H : Hp) (ho : HO) (i : Nat) (x : V) : Prop := match ho with
  | .dK ys => ∃ k v, ys[i]? = some (k, v) ∧ x = kV k
  | .dT ys => ∃ k v q, ys[i]? = some (k, v) ∧ x = .ref q ∧ H q = some (.tup (k.map kV))
  | _ => False
def valAt (ho : HO) (i : Nat) (x : V) : Prop := match ho with
  | .dK ys => ∃ k, ys[i]? = some (k, x)
  | .dT ys => ∃ k, ys[i]? = some (k, x)
  | _ => False
def Jd (dv : DV) (d : Addr) (o : Obj) : It :=
  ⟨fun i H => ∃ ho, H d = some (.frz o ho) ∧ isDO ho ∧ i < lenO ho,
    fun i H v H' => match dv with
      | .ks => H' = H ∧ ∀ ho, H d = some (.frz o ho) → keyAt H ho i v
      | .vs => H' = H ∧ ∀ ho, H d = some (.frz o ho) → valAt ho i v
      | .is => ∃ T xk xv, v = .ref T ∧ H T = none ∧ H' = upd H T (.tup [xk, xv]) ∧ ∀ ho, H d = some (.frz o ho) → keyAt H ho i xk ∧ valAt ho i xv,
    fun i H => ∃ ho, H d = some (.frz o ho) ∧ isDO ho ∧ i = lenO ho⟩
def ownD (dv : DV) (it d : Addr) (n ep : Nat) (i : Nat) (h : Heap) : Prop := match dv with
  | .ks => h.IsKeyIter it d i n ep
  | .vs => h.IsValIter it d i n ep
  | .is => ∃ ok ov, IsItemIter h it d i n ep ok ov
theorem isDO_or {ho : HO} (h : isDO ho) : (∃ ys, ho = .dK ys) ∨ ∃ ys, ho = .dT ys := by
  cases ho with
  | dK ys => exact .inl ⟨ys, rfl⟩
  | dT ys => exact .inr ⟨ys, rfl⟩
  | _ => exact h.elim
theorem ent_at {X : Cx} {H : Hp} {s : Shared} {d : Addr} {o : Obj} {ho : HO} {n : Nat} {es : Array DictEntry} {ep : Nat} (E : Ent X H s d o ho n es ep) {i : Nat} (hi : i < es.size) : ∃ xk xv, RelV xk es[i].key ∧ RelV xv es[i].val ∧ keyAt H ho i xk ∧ valAt ho i xv := by
  obtain ⟨xk, xv, h1, h2, h3⟩ := E.at_ i hi
  refine ⟨xk, xv, h1, h2, ?_⟩
  cases ho with
  | dK ys => obtain ⟨k, a, b⟩ := h3; exact ⟨⟨k, xv, a, b⟩, k, a⟩
  | dT ys => obtain ⟨k, q, a, b, c⟩ := h3; exact ⟨⟨k, xv, q, a, b, c⟩, k, a⟩
  | _ => exact h3.elim
theorem turn_d {P : Program} {w : World} {K : PySem.W.Frag} {tg : Expr} (dv : DV) (htg : dv = .is → ∃ elts kk tpos, tg = .Tuple elts kk tpos) {d it : Addr} {o : Obj} {es : Array DictEntry} {ep : Nat} (hne : d ≠ it) (hod : o.data = .dict es ep) :
    Turn P w K tg (Jd dv d o) [it] it (ownD dv it d es.size ep) := by
  refine turn_goes (List.mem_singleton.mpr rfl) (fun i h ow b hb => ?_) (fun i h h' ow k => ?_) (fun A i s Q E ow h => ?_) fun X hP hw hK hc i pins s σ H I ow hg => ?_
  · rw [List.mem_singleton.mp hb]
    cases dv with
    | ks => obtain ⟨ob, e, _, r⟩ := ow; exact ⟨ob, e, fun v z => by rw [r] at z; cases z⟩
    | vs => obtain ⟨ob, e, _, r⟩ := ow; exact ⟨ob, e, fun v z => by rw [r] at z; cases z⟩
    | is => obtain ⟨ok, ov, e⟩ := ow; exact ⟨_, e, fun v z => nomatch z⟩
  · cases dv with
    | ks => obtain ⟨ob, e, r⟩ := ow; exact ⟨ob, k it (by simp) ob e, r⟩
    | vs => obtain ⟨ob, e, r⟩ := ow; exact ⟨ob, k it (by simp) ob e, r⟩
    | is => obtain ⟨ok, ov, e⟩ := ow; exact ⟨ok, ov, k it (by simp) _ e⟩
  · cases dv with
    | ks => exact wpAny_pyIter_keyiter ow h
    | vs => exact wpAny_pyIter_valiter ow h
    | is => obtain ⟨ok, ov, e⟩ := ow; exact wpAny_pyIter_itemiter e h
  · subst hP hw hK
    obtain ⟨ho, hd, hdo⟩ : ∃ ho, H d = some (.frz o ho) ∧ isDO ho := by
      rcases hg with ⟨ho, a, b, _⟩ | ⟨ho, a, b, _⟩
      · exact ⟨ho, a, b⟩
      · exact ⟨ho, a, b⟩
    obtain ⟨es', ep', E⟩ := ent_of I hd (isDO_or hdo)
    obtain ⟨rfl, rfl⟩ := dict_ep hod E.dat
    have hh := I.ok.hd hc
    have hgo : (Jd dv d o).go i H → i < es'.size := fun ⟨ho', a, _, b⟩ => by
      rw [hd] at a
      cases a
      rw [E.size]; exact b
    have hst : (Jd dv d o).stop i H → i = es'.size := fun ⟨ho', a, _, b⟩ => by
      rw [hd] at a
      cases a
      rw [E.size]; exact b
    have uq : ∀ ho', H d = some (.frz o ho') → ho' = ho := fun ho' e => by
      rw [hd] at e
      cases e
      rfl
    cases dv with
    | ks =>
      refine ⟨_, _, _, _, _, (Goes.rawKeys (target := tg) hh it d hne es' ep').toN, fun b hb => hb, ⟨ow, E.raw⟩, hgo, hst, fun h q => q.1, fun v h hlt ⟨hi, ev⟩ => ?_⟩
      obtain ⟨xk, xv, r1, r2, r3, r4⟩ := ent_at E hi
      exact .inl ⟨xk, by rw [ev]; exact r1, rfl, fun ho' e => by rw [uq ho' e]; exact r3⟩
    | vs =>
      refine ⟨_, _, _, _, _, (Goes.rawValues (target := tg) hh it d hne es' ep').toN, fun b hb => hb, ⟨ow, E.raw⟩, hgo, hst, fun h q => q.1, fun v h hlt ⟨hi, ev⟩ => ?_⟩
      obtain ⟨xk, xv, r1, r2, r3, r4⟩ := ent_at E hi
      exact .inl ⟨xv, by rw [ev]; exact r2, rfl, fun ho' e => by rw [uq ho' e]; exact r4⟩
    | is =>
      obtain ⟨elts, kk, tpos, rfl⟩ := htg rfl
      refine ⟨_, _, _, _, _, GoesN.ofWalksT (WalksT.rawItems hh it d hne es' ep'), fun b hb => hb, ⟨ow, E.raw⟩, hgo, hst, fun h q => q.1, fun v h hlt ⟨T, vals, ev, hT, ⟨hi, evs⟩, ht⟩ => ?_⟩
      obtain ⟨xk, xv, r1, r2, r3, r4⟩ := ent_at E hi
      refine .inr ⟨T, [xk, xv], vals, ev, hT, ht, ?_, by show 2 ≤ sizeLine; decide, fun nT => ⟨T, xk, xv, rfl, nT, rfl, fun ho' e => by rw [uq ho' e]; exact ⟨r3, r4⟩⟩⟩
      rw [evs]
      exact .cons r1 (.cons r2 .nil)
/-! ### what the cell tells -/
section
variable {K : PySem.W.Frag} {u : List Addr} {H : Hp}
theorem PairK.at_ : ∀ {kvs : List (D × D)} {ys : List (Key × V)} {i : Nat} {p : D × D}, PairK K u H kvs ys → kvs[i]? = some p → ∃ k v, ys[i]? = some (k, v) ∧ keyD p.1 = some k ∧ Rep K u H p.2 v
  | [], _, _, _, _, e => by simp at e
  | q :: ps, _, 0, p, ⟨k, v, r, h1, h2, h3, h4⟩, e => by
    simp at e
    subst e
    exact ⟨k, v, by rw [h1]; rfl, h2, h3⟩
  | q :: ps, _, i + 1, p, ⟨k, v, r, h1, h2, h3, h4⟩, e => by
    obtain ⟨k', v', a, b, c⟩ := PairK.at_ (i := i) (p := p) h4 (by simpa using e)
    exact ⟨k', v', by rw [h1]; simpa using a, b, c⟩
theorem PairT.at_ : ∀ {kvs : List (D × D)} {ys : List (List Key × V)} {i : Nat} {p : D × D}, PairT K u H kvs ys → kvs[i]? = some p → ∃ k v, ys[i]? = some (k, v) ∧ keyT p.1 = some k ∧ Rep K u H p.2 v
  | [], _, _, _, _, e => by simp at e
  | q :: ps, _, 0, p, ⟨k, v, r, h1, h2, h3, h4⟩, e => by
    simp at e
    subst e
    exact ⟨k, v, by rw [h1]; rfl, h2, h3⟩
  | q :: ps, _, i + 1, p, ⟨k, v, r, h1, h2, h3, h4⟩, e => by
    obtain ⟨k', v', a, b, c⟩ := PairT.at_ (i := i) (p := p) h4 (by simpa using e)
    exact ⟨k', v', by rw [h1]; simpa using a, b, c⟩
theorem PairK.len : ∀ {kvs : List (D × D)} {ys : List (Key × V)}, PairK K u H kvs ys → ys.length = kvs.length
  | [], ys, h => by rw [show ys = [] from h]; rfl
  | p :: ps, ys, ⟨k, v, r, e, h1, h2, h3⟩ => by rw [e, List.length_cons, PairK.len h3]; rfl
theorem PairT.len : ∀ {kvs : List (D × D)} {ys : List (List Key × V)}, PairT K u H kvs ys → ys.length = kvs.length
  | [], ys, h => by rw [show ys = [] from h]; rfl
  | p :: ps, ys, ⟨k, v, r, e, h1, h2, h3⟩ => by rw [e, List.length_cons, PairT.len h3]; rfl
theorem DctO.isd {kvs : List (D × D)} {ho : HO} (h : DctO K u H kvs ho) : isDO ho ∧ lenO ho = kvs.length := by
  cases ho with
  | dK ys => exact ⟨trivial, PairK.len h⟩
  | dT ys => exact ⟨trivial, PairT.len h⟩
  | _ => exact h.elim
theorem DctO.val {kvs : List (D × D)} {ho : HO} (h : DctO K u H kvs ho) {i : Nat} {p : D × D} {x : V} (e : kvs[i]? = some p) (y : valAt ho i x) : Rep K u H p.2 x := by
  cases ho with
  | dK ys =>
    obtain ⟨k, v, a, b, c⟩ := PairK.at_ h e
    obtain ⟨k', a'⟩ := y
    rw [a] at a'
    cases a'
    exact c
  | dT ys =>
    obtain ⟨k, v, a, b, c⟩ := PairT.at_ h e
    obtain ⟨k', a'⟩ := y
    rw [a] at a'
    cases a'
    exact c
  | _ => exact h.elim
theorem DctO.key {kvs : List (D × D)} {ho : HO} (h : DctO K u H kvs ho) {i : Nat} {p : D × D} {x : V} (e : kvs[i]? = some p) (y : keyAt H ho i x) : Rep K u H p.1 x := by
  cases ho with
  | dK ys =>
    obtain ⟨k, v, a, b, c⟩ := PairK.at_ h e
    obtain ⟨k', v', a', rfl⟩ := y
    rw [a] at a'
    cases a'
    exact keyD_rep b
  | dT ys =>
    obtain ⟨k, v, a, b, c⟩ := PairT.at_ h e
    obtain ⟨k', v', q, a', rfl, hq⟩ := y
    rw [a] at a'
    cases a'
    cases hp : p.1 with
    | tup ds =>
      rw [hp] at b
      exact ⟨q, _, rfl, hq, keyDs_rep b⟩
    | _ => rw [hp] at b; cases b
  | _ => exact h.elim
/-- the locked dict -/
theorem lk_of {m : Mem} {x : D} {v : V} {kvs : List (D × D)} (k : HRep K u H m) (e : dkAt m x = some kvs) (r : Rep K u H x v) : ∃ a o ho, v = .ref a ∧ H a = some (.frz o ho) ∧ DctO K u H kvs ho := by
  cases x with
  | obj n =>
    obtain ⟨a, rfl, hu⟩ := r
    have e : (match m[n]? with | some (.lk (.dct kvs)) => some kvs | _ => none) = some kvs := e
    split at e
    · rename_i kvs' e1
      cases e
      obtain ⟨ob, o, h1, h2⟩ := k.cell n _ a e1 hu
      exact ⟨a, ob, o, rfl, h1, h2⟩
    · cases e
  | _ => cases e
end
theorem sel_length (dv : DV) (l : List (D × D)) : (dv.sel l).length = l.length := by cases dv <;> simp [DV.sel]
theorem d_ok {K : PySem.W.Frag} {u1 : List Addr} {H1 : Hp} {m1 : Mem} {dv : DV} {x : D} {v : V} {a : Addr} {o : Obj} {ho : HO} {kvs : List (D × D)} (k1 : HRep K u1 H1 m1) (r : Rep K u1 H1 x v) (ev : v = .ref a) (ha : H1 a = some (.frz o ho)) : ItOk K u1 H1 (Jd dv a o) (itD dv x) := by
  have get : ∀ {u H m ds}, Grow u1 u → Ext H1 H → HRep K u H m → itD dv x m = some ds → ∃ kvs, ds = dv.sel kvs ∧ H a = some (.frz o ho) ∧ DctO K u H kvs ho := fun {u H m ds} g e k h => by
    unfold itD at h
    obtain ⟨kvs, h1, rfl⟩ := Option.map_eq_some_iff.mp h
    obtain ⟨a', o', ho', ev', ha', hd⟩ := lk_of k h1 (Rep.mono g e x r)
    rw [ev] at ev'
    cases ev'
    have z := e.frzs _ _ _ ha
    rw [z] at ha'
    cases ha'
    exact ⟨kvs, rfl, z, hd⟩
  refine ⟨fun i u H m ds g e k h hl => ?_, fun i u H m ds g e k h hl => ?_, fun i u H m ds d' x' H2 g e k h ed y => ?_⟩
  · obtain ⟨kvs, rfl, z, hd⟩ := get g e k h
    rw [sel_length] at hl
    exact ⟨ho, z, hd.isd.1, by rw [hd.isd.2]; exact hl.symm⟩
  · obtain ⟨kvs, rfl, z, hd⟩ := get g e k h
    rw [sel_length] at hl
    exact ⟨ho, z, hd.isd.1, by rw [hd.isd.2]; exact hl⟩
  · obtain ⟨kvs, rfl, z, hd⟩ := get g e k h
    cases dv with
    | ks =>
      obtain ⟨rfl, y⟩ := y
      have ed : (kvs.map (·.1))[i]? = some d' := ed
      rw [List.getElem?_map] at ed
      obtain ⟨p, e1, rfl⟩ := Option.map_eq_some_iff.mp ed
      exact ⟨Ext.refl _, k, hd.key e1 (y ho z)⟩
    | vs =>
      obtain ⟨rfl, y⟩ := y
      have ed : (kvs.map (·.2))[i]? = some d' := ed
      rw [List.getElem?_map] at ed
      obtain ⟨p, e1, rfl⟩ := Option.map_eq_some_iff.mp ed
      exact ⟨Ext.refl _, k, hd.val e1 (y ho z)⟩
    | is =>
      obtain ⟨T, xk, xv, rfl, nT, rfl, y⟩ := y
      have ed : (kvs.map fun p => D.tup [p.1, p.2])[i]? = some d' := ed
      rw [List.getElem?_map] at ed
      obtain ⟨p, e1, rfl⟩ := Option.map_eq_some_iff.mp ed
      obtain ⟨y1, y2⟩ := y ho z
      exact ⟨Ext.new nT, k.new nT, T, [xk, xv], rfl, upd_same, RepL.mono (Grow.refl _) (Ext.new nT) [p.1, p.2] ⟨xk, [xv], rfl, hd.key e1 y1, xv, [], rfl, hd.val e1 y2, rfl⟩⟩
/-! ### the rules -/
def itAny (x : D) : ItM := fun m => match dkAt m x with
  | some kvs => some (DV.sel .ks kvs)
  | none => srcAt m x
/-- e: a list, a tuple, a text, a locked dict -/
def iIt (me : EM) : Slots → Mem → Res ItM := fun r μ => (me r μ).bind fun x μ1 => match dkAt μ1 x with
  | some _ => .ok (itD .ks x) μ1
  | none => match srcAt μ1 x with
    | some _ => .ok (itSrc x) μ1
    | none => .stuck
def iDm (dv : DV) (me : EM) : Slots → Mem → Res ItM := fun r μ => (me r μ).bind fun x μ1 => match dkAt μ1 x with
  | some _ => .ok (itD dv x) μ1
  | none => .stuck
section
variable {X : Cx} {tg e : Expr} {m : EM} {pos apos : Pos}
theorem mi_it (h : ME X e m) : MI X tg e (iIt m) := by
  refine ⟨fun W tk => ⟨fun pins s σ H R I ⟨u, r, μ, h1, h2, h3⟩ => ?_⟩⟩
  unfold iIt at h3
  by_cases c : ∃ x μ1 kvs, m r μ = .ok x μ1 ∧ dkAt μ1 x = some kvs
  · obtain ⟨x0, μ0, kvs, em, ek⟩ := c
    rw [em, Res.bind_ok, ek] at h3
    refine thn ((h.run W tk).run pins s σ H (fun v H1 => ∃ u1, Grow u u1 ∧ Ext H H1 ∧ HRep X.K u1 H1 μ0 ∧ Rep X.K u1 H1 x0 v ∧ ∀ J, ItOk X.K u1 H1 J (itD .ks x0) → R J H1) I ⟨u, r, μ, h1, h2, ?_⟩) fun v s1 ⟨x, H1, I1, r1, u1, g1, e1, k1, p1, q1⟩ => ?_
    · rw [em]
      exact fun u' H' v a b c q => ⟨u', a, b, c, q, fun J ok => h3 u' H' J a b c ok⟩
    · obtain ⟨a, o, ho, rfl, ha, hd⟩ := lk_of k1 ek p1
      cases r1
      obtain ⟨es, ep, E⟩ := ent_of I1 ha (isDO_or hd.isd.1)
      have hlt : a ≠ s1.heap.objs.size := by
        obtain ⟨o', e', _⟩ := E.raw
        exact Nat.ne_of_lt (Heap.lt_size e')
      exact wpAny_pyIter_dict_raw E.sm E.raw (pi_one (tk := s1.toks) I1 _ (turn_d .ks (fun z => nomatch z) hlt E.dat) ⟨_, Heap.get?_push_size _ rfl, rfl, rfl⟩ (q1 _ (d_ok (kvs := kvs) k1 p1 rfl ha)))
  · refine (mi_src (tg := tg) h).run W tk |>.run pins s σ H R I ⟨u, r, μ, h1, h2, ?_⟩
    unfold iSrc
    cases em : m r μ with
    | stuck => rw [em] at h3; exact h3
    | exc c p m => rw [em] at h3; exact h3
    | ok d m1 =>
      rw [em, Res.bind_ok] at h3
      cases ek : dkAt m1 d with
      | some kvs => exact absurd ⟨d, m1, kvs, em, ek⟩ c
      | none => rw [ek] at h3; exact h3
theorem mi_vals (h : ME X e m) (hbase : attributeBase e "values" X.env (eval e X.env) = eval e X.env := by rfl) (hline : (apos.endLine == pos.line) = true := by rfl) : MI X tg (.Call (.Attribute e "values" apos) [] [] pos) (iDm .vs m) := by
  refine ⟨fun W tk => ⟨fun pins s σ H R I ⟨u, r, μ, h1, h2, h3⟩ => ?_⟩⟩
  unfold iDm at h3
  refine wpAny_Call_method (T := "dict") (id := "dict.values") hbase rfl hline F.plainAttrs_dict F.slot_dict_values F.type_dict_values (thn ((h.run W tk).run pins s σ H (fun v H1 => ∃ u1 μ0 x0 kvs, dkAt μ0 x0 = some kvs ∧ Grow u u1 ∧ Ext H H1 ∧ HRep X.K u1 H1 μ0 ∧ Rep X.K u1 H1 x0 v ∧ ∀ J, ItOk X.K u1 H1 J (itD .vs x0) → R J H1) I ⟨u, r, μ, h1, h2, ?_⟩) fun v s1 ⟨x, H1, I1, r1, u1, μ0, x0, kvs, ek, g1, e1, k1, p1, q1⟩ => ?_)
  · cases em : m r μ with
    | stuck => rw [em] at h3; exact h3
    | exc c p m => rw [em] at h3; exact h3
    | ok d m1 =>
      rw [em, Res.bind_ok] at h3
      cases ek : dkAt m1 d with
      | some kvs =>
        rw [ek] at h3
        exact fun u' H' v a b c q => ⟨u', m1, d, kvs, ek, a, b, c, q, fun J ok => h3 u' H' J a b c ok⟩
      | none => rw [ek] at h3; exact h3.elim
  · obtain ⟨a, o, ho, rfl, ha, hd⟩ := lk_of k1 ek p1
    cases r1
    obtain ⟨es, ep, E⟩ := ent_of I1 ha (isDO_or hd.isd.1)
    obtain ⟨ob, e', hx, hdt⟩ := id E.raw
    refine ⟨E.raw.typeIs, fun b hb => by cases hb; exact ⟨ob, e', hx.2.1⟩, ?_⟩
    have hlt : a < s1.heap.objs.size := Heap.lt_size e'
    have I2 : Inv X pins σ H1 { s1 with heap := s1.heap.push { cls := .type "dict_values", data := .fields #[.ref a] } } := I1.kept (t' := s1.toks) fun b ob q => Heap.get?_push_of_some _ q
    have raw2 : (s1.heap.push { cls := .type "dict_values", data := .fields #[.ref a] }).DictRaw a es ep := E.raw.at fun o e => Heap.get?_push_of_some _ e
    have fin : wpAny (model X.prog X.w) X.A (pyIter (.ref s1.heap.objs.size)) (PIE X pins σ tg R) X.xe { s1 with heap := s1.heap.push { cls := .type "dict_values", data := .fields #[.ref a] } } := by
      refine wpAny_pyIter_values_raw (d := a) ⟨_, Heap.get?_push_size _ rfl, rfl, rfl⟩ raw2 (pi_one (tk := s1.toks) I2 _ (turn_d .vs (fun z => nomatch z) (d := a) (by
        show a ≠ (s1.heap.push _).objs.size
        rw [Heap.size_push]
        exact Nat.ne_of_lt (Nat.lt_succ_of_lt hlt)) E.dat) ⟨_, Heap.get?_push_size _ rfl, rfl, rfl⟩ (q1 _ (d_ok (kvs := kvs) k1 p1 rfl ha)))
    show wpAny _ _ (callWith pos (.builtin "dict.values") [.ref a] [] []) _ X.xe s1
    exact method_meetsIn F.slot_dict_values F.entry_dict_values rfl (PySem.evalArgs_none ⟨rfl, E.raw.typeIs, F.args_dict_values_1 _, _, meets_dict_values_raw a E.sm, ⟨es, ep, E.raw⟩, fin⟩)
theorem mi_items {elts : List Expr} {kk : Nat} {tpos : Pos} (h : ME X e m) (hbase : attributeBase e "items" X.env (eval e X.env) = eval e X.env := by rfl) (hline : (apos.endLine == pos.line) = true := by rfl) : MI X (.Tuple elts kk tpos) (.Call (.Attribute e "items" apos) [] [] pos) (iDm .is m) := by
  refine ⟨fun W tk => ⟨fun pins s σ H R I ⟨u, r, μ, h1, h2, h3⟩ => ?_⟩⟩
  unfold iDm at h3
  refine wpAny_Call_method (T := "dict") (id := "dict.items") hbase rfl hline F.plainAttrs_dict F.slot_dict_items F.type_dict_items (thn ((h.run W tk).run pins s σ H (fun v H1 => ∃ u1 μ0 x0 kvs, dkAt μ0 x0 = some kvs ∧ Grow u u1 ∧ Ext H H1 ∧ HRep X.K u1 H1 μ0 ∧ Rep X.K u1 H1 x0 v ∧ ∀ J, ItOk X.K u1 H1 J (itD .is x0) → R J H1) I ⟨u, r, μ, h1, h2, ?_⟩) fun v s1 ⟨x, H1, I1, r1, u1, μ0, x0, kvs, ek, g1, e1, k1, p1, q1⟩ => ?_)
  · cases em : m r μ with
    | stuck => rw [em] at h3; exact h3
    | exc c p m => rw [em] at h3; exact h3
    | ok d m1 =>
      rw [em, Res.bind_ok] at h3
      cases ek : dkAt m1 d with
      | some kvs =>
        rw [ek] at h3
        exact fun u' H' v a b c q => ⟨u', m1, d, kvs, ek, a, b, c, q, fun J ok => h3 u' H' J a b c ok⟩
      | none => rw [ek] at h3; exact h3.elim
  · obtain ⟨a, o, ho, rfl, ha, hd⟩ := lk_of k1 ek p1
    cases r1
    obtain ⟨es, ep, E⟩ := ent_of I1 ha (isDO_or hd.isd.1)
    obtain ⟨ob, e', hx, hdt⟩ := id E.raw
    refine ⟨E.raw.typeIs, fun b hb => by cases hb; exact ⟨ob, e', hx.2.1⟩, ?_⟩
    have hlt : a < s1.heap.objs.size := Heap.lt_size e'
    have I2 : Inv X pins σ H1 { s1 with heap := s1.heap.push { cls := .type "dict_items", data := .fields #[.ref a] } } := I1.kept (t' := s1.toks) fun b ob q => Heap.get?_push_of_some _ q
    have raw2 : (s1.heap.push { cls := .type "dict_items", data := .fields #[.ref a] }).DictRaw a es ep := E.raw.at fun o e => Heap.get?_push_of_some _ e
    have fin : wpAny (model X.prog X.w) X.A (pyIter (.ref s1.heap.objs.size)) (PIE X pins σ (.Tuple elts kk tpos) R) X.xe { s1 with heap := s1.heap.push { cls := .type "dict_items", data := .fields #[.ref a] } } := by
      refine wpAny_pyIter_items_raw (d := a) ⟨_, Heap.get?_push_size _ rfl, rfl, rfl⟩ raw2 (pi_one (tk := s1.toks) I2 _ (turn_d .is (fun _ => ⟨_, _, _, rfl⟩) (d := a) (by
        show a ≠ (s1.heap.push _).objs.size
        rw [Heap.size_push]
        exact Nat.ne_of_lt (Nat.lt_succ_of_lt hlt)) E.dat) ⟨.none, .none, Heap.get?_push_size _ rfl⟩ (q1 _ (d_ok (kvs := kvs) k1 p1 rfl ha)))
    show wpAny _ _ (callWith pos (.builtin "dict.items") [.ref a] [] []) _ X.xe s1
    exact method_meetsIn F.slot_dict_items F.entry_dict_items rfl (PySem.evalArgs_none ⟨rfl, E.raw.typeIs, F.args_dict_items_1 _, _, meets_dict_items_raw a E.sm, ⟨es, ep, E.raw⟩, fin⟩)
end
end T
end
section
set_option Elab.async false
set_option linter.all false
set_option maxRecDepth 100000
/-! T14: locks; list comprehensions. -/
namespace T
open PySem PySem.Spec PyProof.Rows L2
/-! ### locks -/
/-- the dict that a statement walks -/
def lkPick (me : EM) : Slots → Mem → Option Nat := fun r μ => match me r μ with
  | .ok (.obj n) _ => match μ[n]? with
    | some (.dct _) => some n
    | _ => none
  | _ => none
def unlkS (n : Nat) : SRes → SRes
  | .ok f r m => match m[n]? with
    | some (.lk c) => .ok f r (m.set n c)
    | _ => .stuck
  | .exc c p r m => .exc c p r m
  | .stuck => .stuck
def unlkE (n : Nat) : Res D → Res D
  | .ok d m => match m[n]? with
    | some (.lk c) => .ok d (m.set n c)
    | _ => .stuck
  | .exc c p m => .exc c p m
  | .stuck => .stuck
def sLk (pick : Slots → Mem → Option Nat) (s : SM) : SM := fun r μ => match pick r μ with
  | some n => match μ[n]? with
    | some (.dct kvs) => unlkS n (s r (μ.set n (.lk (.dct kvs))))
    | _ => s r μ
  | none => s r μ
def mLk (pick : Slots → Mem → Option Nat) (s : EM) : EM := fun r μ => match pick r μ with
  | some n => match μ[n]? with
    | some (.dct kvs) => unlkE n (s r (μ.set n (.lk (.dct kvs))))
    | _ => s r μ
  | none => s r μ
section
variable {K : PySem.W.Frag} {u : List Addr} {H : Hp}
theorem dct_mut {kvs : List (D × D)} {o : HO} (h : DctO K u H kvs o) : Mut (some o) ∧ (∀ xs, o ≠ .tup xs) ∧ (∀ ob x, o ≠ .frz ob x) ∧ (∀ φ, o ≠ .ext φ) ∧ (∀ b, o ≠ .own b) ∧ (∀ fs, o ≠ .xd fs) ∧ ∀ xs, o ≠ .lst xs := by
  cases o with
  | dK ys => exact ⟨trivial, (fun _ z => nomatch z), (fun _ _ z => nomatch z), (fun _ z => nomatch z), (fun _ z => nomatch z), (fun _ z => nomatch z), (fun _ z => nomatch z)⟩
  | dT ys => exact ⟨trivial, (fun _ z => nomatch z), (fun _ _ z => nomatch z), (fun _ z => nomatch z), (fun _ z => nomatch z), (fun _ z => nomatch z), (fun _ z => nomatch z)⟩
  | _ => exact h.elim
/-- a dict is locked -/
theorem HRep.lock {m : Mem} {n : Nat} {kvs : List (D × D)} (k : HRep K u H m) (e : m[n]? = some (.dct kvs)) : ∃ a o, u[n]? = some a ∧ H a = some o ∧ DctO K u H kvs o ∧ ∀ od, Ext H (upd H a (.frz od o)) ∧ HRep K u (upd H a (.frz od o)) (m.set n (.lk (.dct kvs))) := by
  have hn : n < u.length := by rw [k.len]; exact (List.getElem?_eq_some_iff.mp e).1
  obtain ⟨o, h1, h2⟩ := k.cell n _ u[n] e (List.getElem?_eq_getElem hn)
  obtain ⟨_, a1, a2, a3, a4, a5, _⟩ := dct_mut h2
  refine ⟨u[n], o, List.getElem?_eq_getElem hn, h1, h2, fun od => ?_⟩
  have ex : Ext H (upd H u[n] (.frz od o)) := ext_wr h1 a1 a2 a3
  exact ⟨ex, k.write (c := .lk (.dct kvs)) ex (fun b hb hne hm => Kept.put h1 hne a4 a5) (List.getElem?_eq_getElem hn) ⟨od, o, upd_same, h2.mono (Grow.refl _) ex⟩ (by rw [upd_same]; exact fun z => nomatch z)⟩
/-- .. and unlocked -/
theorem HRep.unlock {u' : List Addr} {H' : Hp} {m' : Mem} {n : Nat} {a : Addr} {od : Obj} {o : HO} {c : Cell} (ha : H a = some o) (hl : (∀ xs, o ≠ .lst xs)) (h1 : ∀ xs, o ≠ .tup xs) (h2 : ∀ ob x, o ≠ .frz ob x) (h3 : ∀ φ, o ≠ .ext φ) (hu : u[n]? = some a) (g : Grow u u') (e : Ext (upd H a (.frz od o)) H') (k : HRep K u' H' m') (em : m'[n]? = some (.lk c)) :
    H' a = some (.frz od o) ∧ Ext H (upd H' a o) ∧ Ext0 H' (upd H' a o) ∧ HRep K u' (upd H' a o) (m'.set n c) := by
  have z : H' a = some (.frz od o) := e.frzs _ _ _ upd_same
  have hu' : u'[n]? = some a := g.get hu
  have e0 : Ext0 H' (upd H' a o) := by
    refine ⟨fun b xs q => ?_, fun b ob xs q => ?_, fun b φ q => ?_⟩
    · rw [upd_ne (ne_of q z fun y => nomatch y)]; exact q
    · by_cases hb : b = a
      · rw [hb, z] at q
        cases q
        exact absurd rfl (hl xs)
      · rw [upd_ne hb]; exact q
    · rw [upd_ne (ne_of q z fun y => nomatch y)]; exact q
  have ne : ∀ b q, H b = some q → q ≠ o → b ≠ a := fun b q hb hq y => by
    rw [y, ha] at hb
    cases hb
    exact hq rfl
  have ex : Ext H (upd H' a o) := by
    refine ⟨fun b xs q => ?_, fun b ob x q => ?_, fun b φ q => ?_⟩
    · have hb := ne b _ q fun y => h1 xs y.symm
      rw [upd_ne hb]
      exact e.tups b xs (by rw [upd_ne hb]; exact q)
    · have hb := ne b _ q fun y => h2 ob x y.symm
      rw [upd_ne hb]
      exact e.frzs b ob x (by rw [upd_ne hb]; exact q)
    · have hb := ne b _ q fun y => h3 _ y.symm
      rw [upd_ne hb]
      exact e.exts b φ (by rw [upd_ne hb]; exact q)
  refine ⟨z, ex, e0, k.write0 e0 (fun b hb hne hm => Kept.put z hne (fun _ y => nomatch y) (fun _ y => nomatch y)) hu' ?_ (by rw [upd_same]; exact fun y => nomatch y)⟩
  have q := k.cell n _ a em hu'
  cases c with
  | lst ds =>
    obtain ⟨ob, o', q1, q2⟩ := q
    rw [z] at q1
    cases q1
    exact ⟨o, upd_same, q2.mono0 (Grow.refl _) e0⟩
  | dct ds =>
    obtain ⟨ob, o', q1, q2⟩ := q
    rw [z] at q1
    cases q1
    exact ⟨o, upd_same, q2.mono0 (Grow.refl _) e0⟩
  | _ => exact q.elim
theorem ERep.mono0 {u' : List Addr} {H' : Hp} {r : Slots} {σ : L2.St} (g : Grow u u') (e : Ext0 H H') (h : ERep K u H r σ) : ERep K u' H' r σ :=
  ⟨h.1, fun i d q => let ⟨v, a, b⟩ := h.2 i d q; ⟨v, a, Rep.mono0 g e d b⟩⟩
end
section
variable {X : Cx}
theorem ms_lk {st : Stmt} {s : SM} (pick : Slots → Mem → Option Nat) (h : MS X st s) : MS X st (sLk pick s) := by
  refine ⟨fun W tk => ⟨fun pins sh σ H D' I ⟨u, r, μ, h1, h2, h3⟩ => ?_⟩⟩
  have plain : PostS X.K X.mg u H W D' (s r μ) → wpAny (model X.prog X.w) X.A (exec st X.env) (fun f s' => SP X pins D' f s') X.xe sh := fun q => (h.run W tk).run pins sh σ H D' I ⟨u, r, μ, h1, h2, q⟩
  unfold sLk at h3
  cases hp : pick r μ with
  | none => rw [hp] at h3; exact plain h3
  | some n =>
    rw [hp] at h3
    simp only at h3
    split at h3
    · rename_i kvs e
      obtain ⟨a, o, hu, ha, hd, hk⟩ := h1.lock e
      obtain ⟨mu, a1, a2, a3, a4, a5, a6⟩ := dct_mut hd
      refine (ps_lock (h.run W tk)).run pins sh σ H D' I ⟨a, o, ha, mu, fun od => ?_⟩
      obtain ⟨ex, k2⟩ := hk od
      refine ⟨u, r, _, k2, h2.mono (Grow.refl _) ex, ?_⟩
      cases es : s r (μ.set n (.lk (.dct kvs))) with
      | stuck => rw [es] at h3; exact h3
      | exc c p r' m' => rw [es] at h3; exact fun u' H' σ' cls dd g e k er xr => h3 u' H' σ' cls dd g (ex.trans e) k er xr
      | ok f r' m' =>
        rw [es] at h3
        simp only [unlkS] at h3
        cases ec : m'[n]? with
        | none => rw [ec] at h3; exact h3.elim
        | some c =>
          rw [ec] at h3
          cases c with
          | lk c =>
            simp only at h3
            cases f with
            | next => exact fun u' H' σ' g e k er => let ⟨z, ex', e0, k'⟩ := HRep.unlock ha a6 a1 a2 a3 hu g e k ec; ⟨z, h3 u' _ σ' g ex' k' (er.mono0 (Grow.refl _) e0)⟩
            | cont => exact fun u' H' σ' g e k er => let ⟨z, ex', e0, k'⟩ := HRep.unlock ha a6 a1 a2 a3 hu g e k ec; ⟨z, h3 u' _ σ' g ex' k' (er.mono0 (Grow.refl _) e0)⟩
            | brk => exact fun u' H' σ' g e k er => let ⟨z, ex', e0, k'⟩ := HRep.unlock ha a6 a1 a2 a3 hu g e k ec; ⟨z, h3 u' _ σ' g ex' k' (er.mono0 (Grow.refl _) e0)⟩
            | ret d => exact fun u' H' v g e k rv => let ⟨z, ex', e0, k'⟩ := HRep.unlock ha a6 a1 a2 a3 hu g e k ec; ⟨z, h3 u' _ v g ex' k' (Rep.mono0 (Grow.refl _) e0 d rv)⟩
          | _ => exact h3.elim
    · exact plain h3
theorem me_lk {e : Expr} {s : EM} (pick : Slots → Mem → Option Nat) (h : ME X e s) : ME X e (mLk pick s) := by
  refine ⟨fun W tk => ⟨fun pins sh σ H Q I ⟨u, r, μ, h1, h2, h3⟩ => ?_⟩⟩
  have plain : PostE X.K X.mg u H σ W Q (s r μ) → wpAny (model X.prog X.w) X.A (eval e X.env) (EP X pins σ Q) X.xe sh := fun q => (h.run W tk).run pins sh σ H Q I ⟨u, r, μ, h1, h2, q⟩
  unfold mLk at h3
  cases hp : pick r μ with
  | none => rw [hp] at h3; exact plain h3
  | some n =>
    rw [hp] at h3
    simp only at h3
    split at h3
    · rename_i kvs em
      obtain ⟨a, o, hu, ha, hd, hk⟩ := h1.lock em
      obtain ⟨mu, a1, a2, a3, a4, a5, a6⟩ := dct_mut hd
      refine (pe_lock (h.run W tk)).run pins sh σ H Q I ⟨a, o, ha, mu, fun od => ?_⟩
      obtain ⟨ex, k2⟩ := hk od
      refine ⟨u, r, _, k2, h2.mono (Grow.refl _) ex, ?_⟩
      cases es : s r (μ.set n (.lk (.dct kvs))) with
      | stuck => rw [es] at h3; exact h3
      | exc c p m' => rw [es] at h3; exact fun u' H' cls dd g e k xr => h3 u' H' cls dd g (ex.trans e) k xr
      | ok d m' =>
        rw [es] at h3
        simp only [unlkE] at h3
        cases ec : m'[n]? with
        | none => rw [ec] at h3; exact h3.elim
        | some c =>
          rw [ec] at h3
          cases c with
          | lk c => exact fun u' H' v g e k rv => let ⟨z, ex', e0, k'⟩ := HRep.unlock ha a6 a1 a2 a3 hu g e k ec; ⟨z, h3 u' _ v g ex' k' (Rep.mono0 (Grow.refl _) e0 d rv)⟩
          | _ => exact h3.elim
    · exact plain h3
end
end T
end
section
set_option Elab.async false
set_option linter.all false
set_option maxRecDepth 100000
/-! T15: comprehensions. -/
namespace T
open PySem PySem.Spec PyProof.Rows L2
def wipeD (r : Slots) : List Nat → Slots
  | [] => r
  | v :: vs => (wipeD r vs).set v none
theorem wipe_get (σ : L2.St) : ∀ (vs : List Nat) (j : Nat), (wipe σ vs)[j]? = if j ∈ vs then (if j < σ.length then some none else none) else σ[j]?
  | [], j => by simp [wipe]
  | v :: vs, j => by
    unfold wipe
    by_cases h : v = j
    · subst h
      rw [if_pos (List.mem_cons_self ..)]
      by_cases hl : v < σ.length
      · rw [if_pos hl, List.getElem?_set_self (by rw [wipe_length]; exact hl)]
      · rw [if_neg hl]
        exact List.getElem?_eq_none (by rw [List.length_set, wipe_length]; omega)
    · rw [List.getElem?_set_ne h, wipe_get σ vs j]
      by_cases hj : j ∈ vs
      · rw [if_pos hj, if_pos (List.mem_cons_of_mem _ hj)]
      · rw [if_neg hj, if_neg fun q => by
          rcases List.mem_cons.mp q with z | z
          · exact h z.symm
          · exact hj z]
theorem wipe_only {σ σ' : L2.St} {vs ws : List Nat} (hw : ∀ w ∈ ws, w ∈ vs) (h : Only ws (wipe σ vs) σ') : wipe σ' vs = wipe σ vs := by
  apply List.ext_getElem?
  intro j
  have hl : σ'.length = σ.length := h.1.trans (wipe_length σ vs)
  rw [wipe_get, wipe_get, hl]
  by_cases hj : j ∈ vs
  · rw [if_pos hj, if_pos hj]
  · rw [if_neg hj, if_neg hj, h.2 j fun z => hj (hw j z), wipe_get, if_neg hj]
theorem wipeD_rep {K : PySem.W.Frag} {u : List Addr} {H : Hp} {r : Slots} {σ : L2.St} (h : ERep K u H r σ) : ∀ vs : List Nat, ERep K u H (wipeD r vs) (wipe σ vs)
  | [] => h
  | v :: vs => by
    obtain ⟨q1, q2⟩ := wipeD_rep h vs
    refine ⟨by simp [wipeD, wipe, q1], fun i d e => ?_⟩
    unfold wipeD at e
    unfold wipe
    by_cases hv : v = i
    · subst hv
      by_cases hl : v < (wipeD r vs).length
      · rw [List.getElem?_set_self hl] at e
        cases e
      · rw [List.getElem?_eq_none (by rw [List.length_set]; omega)] at e
        cases e
    · rw [List.getElem?_set_ne hv] at e ⊢
      exact q2 i d e
/-! ### the tests of a clause -/
structure MTs (X : Cx) (ifs : List Expr) (t : TM) : Prop where
  run : ∀ W, Takes X W → PTs X ifs (fun σ H Q => ∃ u r μ, HRep X.K u H μ ∧ ERep X.K u H r σ ∧ PostB X.K X.mg u H σ W Q (t r μ))
def tTrue : TM := fun _ μ => .ok true μ
theorem mts_nil {X : Cx} : MTs X [] tTrue := ⟨fun W tk => ⟨fun pins s σ H Q I ⟨u, r, μ, h1, h2, h3⟩ => (pts_nil (X := X)).run pins s σ H Q I (h3 u H (Grow.refl _) (Ext.refl _) h1)⟩⟩
theorem mts_one {X : Cx} {c : Expr} {t : TM} (h : MT X c t) : MTs X [c] t := ⟨fun W tk => ⟨fun pins s σ H Q I q => (pts_one (h.run W tk)).run pins s σ H Q I q⟩⟩
/-- no error comes -/
abbrev W0 : WX := fun _ _ _ _ => False
theorem take0 (X : Cx) : Takes X W0 := LamX.takes0
/-! ### one clause -/
/-- the items y at the end of the list cell k -/
def pushAt (μ : Mem) (k : Nat) (y : D) : Option Mem := match μ[k]? with
  | some (.lst acc) => if acc.length < sizeLine then some (μ.set k (.lst (acc ++ [y]))) else none
  | _ => none
def compE (t : TM) (m : EM) (k : Nat) (r1 : Slots) (μ : Mem) (f : Mem → Res D) : Res D := match t r1 μ with
  | .ok true μ1 => match m r1 μ1 with
    | .ok y μ2 => match pushAt μ2 k y with
      | some μ3 => f μ3
      | none => .stuck
    | _ => .stuck
  | .ok false μ1 => f μ1
  | _ => .stuck
def compL (it : ItM) (g : GM) (t : TM) (m : EM) (k : Nat) (r0 : Slots) : Nat → Nat → Mem → Res D
  | 0, i, μ => match it μ with
    | some ds => if ds.length = i then .ok (.obj k) μ else .stuck
    | none => .stuck
  | n + 1, i, μ => match it μ with
    | some ds => match ds[i]? with
      | none => if ds.length = i then .ok (.obj k) μ else .stuck
      | some d => match g d r0 with
        | none => .stuck
        | some r1 => compE t m k r1 μ fun μ' => compL it g t m k r0 n (i + 1) μ'
    | none => .stuck
def mLc (mi : Slots → Mem → Res ItM) (g : GM) (t : TM) (m : EM) (vs : List Nat) : EM := fun r μ => (mi r μ).bind fun it m1 => match it m1 with
  | some ds => compL it g t m m1.length (wipeD r vs) ds.length 0 (m1 ++ [.lst []])
  | none => .stuck
theorem bindI {K : PySem.W.Frag} {mg : Str → Option Value} {u : List Addr} {H : Hp} {σ : L2.St} {W : WX} {Q : VK} {x : Res ItM} {f : ItM → Mem → Res D} (h : PostE K mg u H σ W Q (x.bind f)) :
    PostI K mg u H σ W (fun J H1 => ∃ u1 m1 it, x = .ok it m1 ∧ Grow u u1 ∧ Ext H H1 ∧ HRep K u1 H1 m1 ∧ ItOk K u1 H1 J it ∧ PostE K mg u1 H1 σ W Q (f it m1)) x := by
  cases x with
  | ok it m => exact fun u' H' J a b c ok => ⟨u', m, it, rfl, a, b, c, ok, h.later a b⟩
  | exc c p m => exact h
  | stuck => exact h
theorem pushAt_ok {K : PySem.W.Frag} {u : List Addr} {H : Hp} {μ μ3 : Mem} {k : Nat} {y : D} {yv : V} {D0 : Addr} (hk : HRep K u H μ) (e : pushAt μ k y = some μ3) (hu : u[k]? = some D0) (ry : Rep K u H y yv) :
    ∃ xs, H D0 = some (.lst xs) ∧ xs.length < sizeLine ∧ Ext H (upd H D0 (.lst (xs ++ [yv]))) ∧ HRep K u (upd H D0 (.lst (xs ++ [yv]))) μ3 := by
  unfold pushAt at e
  split at e
  · rename_i acc ea
    split at e
    · rename_i hl
      cases e
      obtain ⟨o, h1, h2⟩ := hk.cell k _ D0 ea hu
      cases o with
      | lst xs =>
        have h2 : RepL K u H acc xs := h2
        have ex : Ext H (upd H D0 (.lst (xs ++ [yv]))) := ext_wr h1 (fun _ z => nomatch z) (fun _ _ z => nomatch z) (fun _ z => nomatch z)
        exact ⟨xs, h1, by rw [h2.length]; exact hl, ex, hk.write ex (fun b hb hne hm => Kept.put h1 hne (fun _ z => nomatch z) (fun _ z => nomatch z)) hu ⟨_, upd_same, RepL.mono (Grow.refl _) ex _ (h2.append (RepL.one ry))⟩ (by rw [upd_same]; exact fun z => nomatch z)⟩
      | _ => exact h2.elim
    · cases e
  · cases e
section
variable {X : Cx} {tg iter elt : Expr} {ifs : List Expr} {scope : Scope} {own : List (Str × Nat)} {pos : Pos} {mi : Slots → Mem → Res ItM} {g : GM} {t : TM} {m : EM} {ws : List Nat}
def ttB (K : PySem.W.Frag) (mg : Str → Option Value) (t : TM) : TT := fun σ H Q => ∃ u r μ, HRep K u H μ ∧ ERep K u H r σ ∧ PostB K mg u H σ W0 Q (t r μ)
theorem lc_weak {W : WX} {σ : L2.St} {H : Hp} {Q : VK} {vs : List Nat} (hw : ∀ w ∈ ws, w ∈ vs) (h : tE X.K X.mg W (mLc mi g t m vs) σ H Q) : tLc (tI X.K X.mg W mi) (tgM X.K g ws) (ttB X.K X.mg t) (tE X.K X.mg W0 m) vs σ H Q := by
  obtain ⟨u, r, μ, h1, h2, h3⟩ := h
  have h3' : PostE X.K X.mg u H σ W Q ((mi r μ).bind fun it m1 => match it m1 with | some ds => compL it g t m m1.length (wipeD r vs) ds.length 0 (m1 ++ [.lst []]) | none => .stuck) := h3
  refine ⟨u, r, μ, h1, h2, ?_⟩
  have z := bindI h3'
  cases em : mi r μ with
  | stuck => rw [em] at z; exact z
  | exc c p m => rw [em] at z; exact z
  | ok it0 m0 =>
    rw [em] at z
    intro u' H' J a b c okI D0 hD
    obtain ⟨u1, m1, it, eq, g1, e1, k1, ok1, q1⟩ := z u' H' J a b c okI
    cases eq
    cases ei : it0 m0 with
    | none => simp only [ei] at q1; exact q1.elim
    | some ds0 =>
      simp only [ei] at q1
      have exD : Ext H' (upd H' D0 (.lst [])) := Ext.new hD
      have hgD : Grow u1 (u1 ++ [D0]) := ⟨[D0], rfl⟩
      have k2 : HRep X.K (u1 ++ [D0]) (upd H' D0 (.lst [])) (m0 ++ [.lst []]) := k1.push hD ⟨_, upd_same, rfl⟩
      have hk0 : (u1 ++ [D0])[m0.length]? = some D0 := by
        rw [← k1.len, List.getElem?_append_right (Nat.le_refl _)]
        simp
      refine ⟨fun i n H2 => ∃ u2 m2, Grow (u1 ++ [D0]) u2 ∧ Ext (upd H' D0 (.lst [])) H2 ∧ HRep X.K u2 H2 m2 ∧ PostE X.K X.mg u2 H2 σ W Q (compL it0 g t m m0.length (wipeD r vs) n i m2),
        ⟨ds0.length, u1 ++ [D0], _, Grow.refl _, Ext.refl _, k2, q1.later hgD exD⟩, ?_⟩
      rintro i n H2 ⟨u2, m2, g2, e2, k3, q2⟩
      have gg : Grow u1 u2 := hgD.trans g2
      have ee : Ext H' H2 := exD.trans e2
      have hk2 : u2[m0.length]? = some D0 := g2.get hk0
      have fin : ∀ ds, it0 m2 = some ds → ds.length = i → PostE X.K X.mg u2 H2 σ W Q (.ok (.obj m0.length) m2) → J.stop i H2 ∧ Q (.ref D0) H2 := fun ds ed hl q =>
        ⟨ok1.stop i u2 H2 m2 ds gg ee k3 ed hl, q u2 H2 _ (Grow.refl _) (Ext.refl _) k3 ⟨D0, rfl, hk2⟩⟩
      cases n with
      | zero =>
        simp only [compL] at q2
        cases e : it0 m2 with
        | none => rw [e] at q2; exact q2.elim
        | some ds =>
          rw [e] at q2
          by_cases hl : ds.length = i
          · simp only [if_pos hl] at q2
            exact .inl (fin ds e hl q2)
          · simp only [if_neg hl] at q2
            exact q2.elim
      | succ n =>
        simp only [compL] at q2
        cases e : it0 m2 with
        | none => rw [e] at q2; exact q2.elim
        | some ds =>
          rw [e] at q2
          simp only at q2
          cases ed : ds[i]? with
          | none =>
            rw [ed] at q2
            by_cases hl : ds.length = i
            · simp only [if_pos hl] at q2
              exact .inl (fin ds e hl q2)
            · simp only [if_neg hl] at q2
              exact q2.elim
          | some d =>
            rw [ed] at q2
            simp only at q2
            cases eg : g d (wipeD r vs) with
            | none => rw [eg] at q2; exact q2.elim
            | some r1 =>
              rw [eg] at q2
              simp only at q2
              refine .inr ⟨ok1.go i u2 H2 m2 ds gg ee k3 e (List.getElem?_eq_some_iff.mp ed).1, fun H3 => ∃ u3 m3, Grow (u1 ++ [D0]) u3 ∧ Ext (upd H' D0 (.lst [])) H3 ∧ HRep X.K u3 H3 m3 ∧ PostE X.K X.mg u3 H3 σ W Q (compL it0 g t m m0.length (wipeD r vs) n (i + 1) m3),
                fun H3 q => ⟨n, Nat.lt_succ_self n, q⟩, fun x H3 y => ?_⟩
              obtain ⟨e3, k4, rx⟩ := ok1.yld i u2 H2 m2 ds d x H3 gg ee k3 e ed y
              have er : ERep X.K u2 H3 (wipeD r vs) (wipe σ vs) := (wipeD_rep h2 _).mono (g1.trans gg) (e1.trans (ee.trans e3))
              refine ⟨u2, d, _, r1, er, rx, eg, fun σ' er' on => ⟨wipe_only hw on, u2, r1, m2, k4, er', ?_⟩⟩
              have q3 := q2.later (Grow.refl u2) e3
              unfold compE at q3
              cases et : t r1 m2 with
              | stuck => rw [et] at q3; exact q3
              | exc c p m => rw [et] at q3; exact q3.elim
              | ok bb m3 =>
                rw [et] at q3
                intro u4 H4 g4 e4 k5
                cases bb with
                | false =>
                  simp only [Bool.false_eq_true, if_false] at q3 ⊢
                  exact ⟨u4, m3, g2.trans g4, (e2.trans e3).trans e4, k5, q3.later g4 e4⟩
                | true =>
                  simp only [if_true] at q3 ⊢
                  refine ⟨u4, r1, m3, k5, er'.mono g4 e4, ?_⟩
                  cases ey : m r1 m3 with
                  | stuck => rw [ey] at q3; exact q3
                  | exc c p m => rw [ey] at q3; exact q3.elim
                  | ok yd m4 =>
                    rw [ey] at q3
                    simp only at q3
                    intro u5 H5 yv g5 e5 k6 ry
                    cases ep : pushAt m4 m0.length yd with
                    | none => rw [ep] at q3; exact q3.elim
                    | some m5 =>
                      rw [ep] at q3
                      have hk5 : u5[m0.length]? = some D0 := g5.get (g4.get hk2)
                      obtain ⟨xs, hx, hxl, ex5, k7⟩ := pushAt_ok k6 ep hk5 ry
                      exact ⟨xs, hx, hxl, u5, m5, (g2.trans g4).trans g5, (((e2.trans e3).trans e4).trans e5).trans ex5, k7, q3.later (g4.trans g5) ((e4.trans e5).trans ex5)⟩
theorem me_lc (hc : X.calm = true) (hN : X.N.Nodup) (hi : MI X tg iter mi) (ok : BlkOk X.N X.env.scope scope own) (hw : ∀ w ∈ ws, w ∈ own.map (·.2))
    (hg : ∀ (s : Shared) (H : Hp) (C : Addr) (cl : List (Str × Addr)) (fp : List Addr), MG (X.blk s H scope (compEnvC scope cl C X.env) fp) tg g ws) (ht : ∀ (s : Shared) (H : Hp) (C : Addr) (cl : List (Str × Addr)) (fp : List Addr), MTs (X.blk s H scope (compEnvC scope cl C X.env) fp) ifs t)
    (he : ∀ (s : Shared) (H : Hp) (C : Addr) (cl : List (Str × Addr)) (fp : List Addr), ME (X.blk s H scope (compEnvC scope cl C X.env) fp) elt m) (hs : ∀ x, foldedSetIterable iter X.env x = pure x := by intro _; rfl) :
    ME X (.ListComp elt [⟨tg, iter, ifs, 0⟩] scope pos) (mLc mi g t m (own.map (·.2))) :=
  ⟨fun W tk => PE.weak (pe_lc (g := tgM X.K g ws) (tt := ttB X.K X.mg t) (te := tE X.K X.mg W0 m) hc hN (hi.run W tk) ok (fun s H C cl fp => (hg s H C cl fp).pg) (fun s H C cl fp => (ht s H C cl fp).run W0 (take0 _)) (fun s H C cl fp => (he s H C cl fp).run W0 (take0 _)) hs) fun σ H Q h => lc_weak hw h⟩
/-- x = [..] on one line -/
theorem ms_setLc {i : Nat} {y : Str} {py spos : Pos} (hc : X.calm = true) (hN : X.N.Nodup) (hy : X.N[i]? = some y) (hyl : X.env.scope.names.lookup y = some .local) (hsw : swapsWith (.ListComp elt [⟨tg, iter, ifs, 0⟩] scope pos) (some (.Name y py)) spos.line X.env = pure true) (hi : MI X tg iter mi) (ok : BlkOk X.N X.env.scope scope own) (hw : ∀ w ∈ ws, w ∈ own.map (·.2))
    (hg : ∀ (s : Shared) (H : Hp) (C : Addr) (cl : List (Str × Addr)) (fp : List Addr), MG (X.blk s H scope (compEnvC scope cl C X.env) fp) tg g ws) (ht : ∀ (s : Shared) (H : Hp) (C : Addr) (cl : List (Str × Addr)) (fp : List Addr), MTs (X.blk s H scope (compEnvC scope cl C X.env) fp) ifs t)
    (he : ∀ (s : Shared) (H : Hp) (C : Addr) (cl : List (Str × Addr)) (fp : List Addr), ME (X.blk s H scope (compEnvC scope cl C X.env) fp) elt m) (hs : ∀ x, foldedSetIterable iter X.env x = pure x := by intro _; rfl) :
    MS X (.Assign [.Name y py] (.ListComp elt [⟨tg, iter, ifs, 0⟩] scope pos) spos) (sAsg (mLc mi g t m (own.map (·.2))) (gtName i)) :=
  ⟨fun W tk => PS.weak (ps_setLc (g := tgM X.K g ws) (tt := ttB X.K X.mg t) (te := tE X.K X.mg W0 m) hc hN hy hyl hsw (hi.run W tk) ok (fun s H C cl fp => (hg s H C cl fp).pg) (fun s H C cl fp => (ht s H C cl fp).run W0 (take0 _)) (fun s H C cl fp => (he s H C cl fp).run W0 (take0 _)) hs) fun D' σ H h =>
    asg_core (tg := gName i) (ws := [i]) (fun σ H Q x => lc_weak hw x) (fun v d σ H u r r' Q he hd e h => by cases e; exact h _ (he.set i hd) (Only.set (by simp))) h⟩
end
end T
end
section
set_option Elab.async false
set_option linter.all false
set_option maxRecDepth 100000
/-! T16: dict comprehensions, keys of any kind. -/
namespace T
open PySem PySem.Spec PyProof.Rows L2
/-- the label of an empty dict -/
def Relab (H : Hp) (a : Addr) (H1 : Hp) : Prop := H1 = H ∨ (H a = some (.dK []) ∧ H1 = upd H a (.dT [])) ∨ (H a = some (.dT []) ∧ H1 = upd H a (.dK []))
theorem Relab.inv {X : Cx} {pins : List (Addr × Obj)} {σ : L2.St} {H H1 : Hp} {s : Shared} {a : Addr} (r : Relab H a H1) (I : Inv X pins σ H s) : Inv X pins σ H1 s := by
  rcases r with rfl | ⟨h, rfl⟩ | ⟨h, rfl⟩
  · exact I
  · exact relabT I h
  · exact relabK I h
theorem ready0 {K : PySem.W.Frag} {u : List Addr} {H : Hp} {m : Mem} (k : HRep K u H m) {n : Nat} {kvs : List (D × D)} {v : V} {x : D} (e : m[n]? = some (.dct kvs)) (r : Rep K u H (.obj n) v) (hf : fits kvs x = true) :
    ∃ a H1, v = .ref a ∧ u[n]? = some a ∧ Relab H a H1 ∧ HRep K u H1 m ∧ Ext H H1 ∧
      ((∃ kk ys, keyD x = some kk ∧ H1 a = some (.dK ys) ∧ PairK K u H1 kvs ys) ∨ ∃ kk ys, keyT x = some kk ∧ H1 a = some (.dT ys) ∧ PairT K u H1 kvs ys) := by
  obtain ⟨a, rfl, hu⟩ := r
  obtain ⟨o, h1, h2⟩ := k.cell n _ a e hu
  have same : ∀ ho, H a = some ho → (∀ xs, ho ≠ .tup xs) → (∀ ob x, ho ≠ .frz ob x) → (∀ φ, ho ≠ .ext φ) → (∀ b, ho ≠ .own b) → (∀ fs, ho ≠ .xd fs) → ∀ h2 : HO, CRep K u (upd H a h2) a (.dct []) → kvs = [] → Ext H (upd H a h2) ∧ HRep K u (upd H a h2) m := fun ho q a1 a2 a3 a4 a5 h2 cr ek => by
    have ex : Ext H (upd H a h2) := ext_wr q a1 a2 a3
    have k2 := k.write (c := .dct []) ex (fun b hb hne hm => Kept.put q hne a4 a5) hu cr (by rw [upd_same]; exact fun z => nomatch z)
    have em : m.set n (.dct []) = m := by
      obtain ⟨hl, q⟩ := List.getElem?_eq_some_iff.mp e
      rw [ek] at q
      rw [← q]
      exact List.set_getElem_self hl
    rw [em] at k2
    exact ⟨ex, k2⟩
  unfold fits at hf
  rw [Bool.or_eq_true] at hf
  cases o with
  | dK ys =>
    have h2 : PairK K u H kvs ys := h2
    rcases hf with hf | hf
    · unfold fitK at hf
      rw [Bool.and_eq_true] at hf
      obtain ⟨kk, hk⟩ := Option.isSome_iff_exists.mp hf.1
      exact ⟨a, H, rfl, hu, .inl rfl, k, Ext.refl H, .inl ⟨kk, ys, hk, h1, h2⟩⟩
    · unfold fitT at hf
      rw [Bool.and_eq_true] at hf
      obtain ⟨kk, hk⟩ := Option.isSome_iff_exists.mp hf.1
      have e0 := both_nil h2.keys hf.2
      have ey : ys = [] := by rw [e0] at h2; exact h2
      rw [ey] at h1
      obtain ⟨ex, k2⟩ := same _ h1 (fun _ z => nomatch z) (fun _ _ z => nomatch z) (fun _ z => nomatch z) (fun _ z => nomatch z) (fun _ z => nomatch z) (.dT []) ⟨_, upd_same, rfl⟩ e0
      exact ⟨a, _, rfl, hu, .inr (.inl ⟨h1, rfl⟩), k2, ex, .inr ⟨kk, [], hk, upd_same, by rw [e0]; rfl⟩⟩
  | dT ys =>
    have h2 : PairT K u H kvs ys := h2
    rcases hf with hf | hf
    · unfold fitK at hf
      rw [Bool.and_eq_true] at hf
      obtain ⟨kk, hk⟩ := Option.isSome_iff_exists.mp hf.1
      have e0 := both_nil hf.2 h2.keys
      have ey : ys = [] := by rw [e0] at h2; exact h2
      rw [ey] at h1
      obtain ⟨ex, k2⟩ := same _ h1 (fun _ z => nomatch z) (fun _ _ z => nomatch z) (fun _ z => nomatch z) (fun _ z => nomatch z) (fun _ z => nomatch z) (.dK []) ⟨_, upd_same, rfl⟩ e0
      exact ⟨a, _, rfl, hu, .inr (.inr ⟨h1, rfl⟩), k2, ex, .inl ⟨kk, [], hk, upd_same, by rw [e0]; rfl⟩⟩
    · unfold fitT at hf
      rw [Bool.and_eq_true] at hf
      obtain ⟨kk, hk⟩ := Option.isSome_iff_exists.mp hf.1
      exact ⟨a, H, rfl, hu, .inl rfl, k, Ext.refl H, .inr ⟨kk, ys, hk, h1, h2⟩⟩
  | _ => exact h2.elim
/-- dictSet, whatever the key -/
theorem put_in {X : Cx} {pins : List (Addr × Obj)} {σ : L2.St} {H H' : Hp} {s : Shared} {E : Value → Shared → Prop} {a : Addr} {y v : V} {u r : Value} {Q : Unit → Shared → Prop} (hu : X.A.units + 1 < cLine) (I : Inv X pins σ H s) (g : DPut H a y v H') (ry : RelV y u) (rv : RelV v r) (h : ∀ s', Inv X pins σ H' s' → Q () s') :
    wpAny (model X.prog X.w) X.A (dictSet a u r) Q E s := by
  rcases g with ⟨kvs, k, e, ey, l, eH⟩ | ⟨kvs, k, b, e, ey, eb, l, eH⟩
  · subst ey eH
    exact d_dictSet I e l ry rv h
  · subst ey eH
    cases (show u = Value.ref b from ry)
    obtain ⟨z, hd, xs, rel, dd⟩ := dt_of I.hok e
    have hz : xs.length ≤ sizeLine := by rw [← Paired.length rel]; exact z
    have hl : (putK kvs k v).length ≤ sizeLine := by have := length_putK kvs k v; omega
    refine wpAny_dictSet_heap (hsz := hz) (show (tupleKind (mixKind X.prog X.w)).room X.A from Nat.lt_of_succ_lt hu) (key_of I.hok eb) dd fun h' dd' hs => h _ ?_
    obtain ⟨q, es, ep, hq, h2, h3, h4, _, h5⟩ := dd'
    refine d_write I (by rw [e]; exact True.intro) hs ⟨q, hq⟩ ⟨hl, hd, _, (rel.put k eb rv).keeps fun c ys ec => ?_, q, es, ep, hq, h2, h3, h4, h5⟩
    rw [upd_ne (ne_of ec e (fun z => nomatch z))]
    exact ec
section
variable {X : Cx}
def tDcG (wi : TI) (g : TG) (tt : TT) (tk tv : TE) (vs : List Nat) : TE := fun σ H Q => wi σ H fun J H1 => ∀ D, H1 D = none → ∃ W : Nat → Nat → Hp → Prop, (∃ m, W 0 m (upd H1 D (.dK []))) ∧ ∀ i m H, W i m H →
  (J.stop i H ∧ Q (.ref D) H) ∨ (J.go i H ∧ ∃ Nx : Hp → Prop, (∀ H', Nx H' → ∃ m', m' < m ∧ W (i + 1) m' H') ∧ ∀ x H', J.yld i H x H' → g x (wipe σ vs) H' fun σ2 H2 => wipe σ2 vs = wipe σ vs ∧ tt σ2 H2 fun b H3 =>
    if b = true then tk σ2 H3 fun y H4 => tv σ2 H4 fun z H5 => ∃ H6 H7, Relab H5 D H6 ∧ DPut H6 D y z H7 ∧ Nx H7 else Nx H3)
theorem dc_gen {pins : List (Addr × Obj)} {s : Shared} {σ : L2.St} {H : Hp} {Q : VK} {kx vx tg iter : Expr} {ifs : List Expr} {scope : Scope} {own : List (Str × Nat)} {pos pos' : Pos} {wi : TI} {g : TG} {tt : TT} {tk tv : TE} {use : Option (Value → Sem Unit)} {Qf : Value → Shared → Prop}
    (hu : X.A.units + 1 < cLine) (hc : X.calm = true) (hN : X.N.Nodup) (I : Inv X pins σ H s) (hi : PI X tg iter wi) (ok : BlkOk X.N X.env.scope scope own)
    (hg : ∀ (s : Shared) (H : Hp) (C : Addr) (cl : List (Str × Addr)) (fp : List Addr), PG (X.blk s H scope (compEnvC scope cl C X.env) fp) tg g) (ht : ∀ (s : Shared) (H : Hp) (C : Addr) (cl : List (Str × Addr)) (fp : List Addr), PTs (X.blk s H scope (compEnvC scope cl C X.env) fp) ifs tt)
    (hk : ∀ (s : Shared) (H : Hp) (C : Addr) (cl : List (Str × Addr)) (fp : List Addr), PE (X.blk s H scope (compEnvC scope cl C X.env) fp) kx tk)
    (he : ∀ (s : Shared) (H : Hp) (C : Addr) (cl : List (Str × Addr)) (fp : List Addr), PE (X.blk s H scope (compEnvC scope cl C X.env) fp) vx tv) (hs : ∀ x, foldedSetIterable iter X.env x = pure x)
    (h : tDcG wi g tt tk tv (own.map (·.2)) σ H Q)
    (hRR : ∀ D C s' m H', Inv X pins σ H' s' → Q (.ref D) H' → s'.heap.Ns C m → FpOk X pins H' C → compPost (model X.prog X.w) X.A X.xe use Qf (.ref D) C (.ok .next) s') :
    wpAny (model X.prog X.w) X.A (comprehension (.DictComp kx vx [⟨tg, iter, ifs, 0⟩] scope pos) scope X.env pos' newDict false (eval iter X.env) use) Qf X.xe s := by
  have hfree : ∀ y ∈ scope.names, y.2 = .free → ∃ c, X.env.cells.lookup y.1 = some c := fun y hy e => by
    rcases ok.free y hy e with k | k
    · exact I.ok.has _ (.inl k)
    · exact I.ok.has _ (.inr k)
  refine wpAny_comprehension_free (use := use) rfl hs (closure_ok hfree) ok.kind (fun y hy e => by rw [ok.uniq y hy, e])
    (thn (hi.run pins s σ H _ I h) fun xv s1 hx => thn hx fun itv s2 h2 => ?_)
  obtain ⟨it, fp, tn, J, H2, e, I2, T, st2, f2, q⟩ := h2
  subst e
  refine wpAny_newObj_type (newEnv_comp ?_)
  generalize hD : s2.heap.objs.size = D
  have hDn : H2 D = none := I2.hok.fresh (Nat.le_of_eq hD)
  obtain ⟨W, ⟨m0, w0⟩, turn⟩ := q D hDn
  -- the new list
  generalize hs3 : ({ s2 with heap := s2.heap.push { cls := .type "dict", data := .dict #[] } } : Shared) = s3
  have I3 : Inv X pins σ (upd H2 D (.dK [])) s3 := by
    rw [← hs3]
    refine I2.laid (t' := s2.toks) (fun b o e => Heap.get?_push_of_some _ e) (Nat.le_of_eq hD) ?_
    rw [← hD]
    exact dk_empty s2.heap I2.big
  have h3 : s3.heap = s2.heap.push { cls := .type "dict", data := .dict #[] } := by rw [← hs3]
  have sz : ∀ b ∈ fp, b < s2.heap.objs.size := fun b hb => by
    obtain ⟨o, e, _⟩ := T.obj _ _ st2 b hb
    exact Heap.lt_size e
  have f3 : ∀ b ∈ fp, FpOk X pins (upd H2 D (.dK [])) b ∧ b < s3.heap.objs.size := fun b hb => by
    have hlt := sz b hb
    refine ⟨⟨?_, (f2 b hb).2⟩, by rw [h3, Heap.size_push]; exact Nat.lt_succ_of_lt hlt⟩
    rw [upd_ne (by rw [← hD]; exact Nat.ne_of_lt hlt)]
    exact (f2 b hb).1
  have st3 : tn 0 s3.heap := T.keep _ _ _ st2 fun b _ o e => by rw [h3]; exact Heap.get?_push_of_some _ e
  have I4 := block_start I3 ok hN f3
  have pg := hg s3 (upd H2 D (.dK [])) s3.heap.objs.size (cellsFrom (s3.heap.objs.size + 1) scope.names (cloFrom X.env.cells scope.names [])) fp
  have pt := ht s3 (upd H2 D (.dK [])) s3.heap.objs.size (cellsFrom (s3.heap.objs.size + 1) scope.names (cloFrom X.env.cells scope.names [])) fp
  have pk := hk s3 (upd H2 D (.dK [])) s3.heap.objs.size (cellsFrom (s3.heap.objs.size + 1) scope.names (cloFrom X.env.cells scope.names [])) fp
  have pe := he s3 (upd H2 D (.dK [])) s3.heap.objs.size (cellsFrom (s3.heap.objs.size + 1) scope.names (cloFrom X.env.cells scope.names [])) fp
  show codeAny _ _ (.compStart (.DictComp kx vx [⟨tg, iter, ifs, 0⟩] scope pos) 0 (.ref it) (.ref D) (compEnvC scope (cellsFrom (s3.heap.objs.size + 1) scope.names (cloFrom X.env.cells scope.names [])) s3.heap.objs.size X.env)) (compPost (model X.prog X.w) X.A X.xe use Qf (.ref D) s3.heap.objs.size) { s3 with heap := pushCells (s3.heap.push { cls := .type "dict", data := .dict #[] }) scope.names }
  have nfp : ∀ b ∈ fp, (upd H2 D (.dK [])) b = none := fun b hb => (f3 b hb).1.1
  generalize hce : compEnvC scope (cellsFrom (s3.heap.objs.size + 1) scope.names (cloFrom X.env.cells scope.names [])) s3.heap.objs.size X.env = ce at I4 pg pt pk pe ⊢
  have cL : ce.locals = s3.heap.objs.size := by subst hce; rfl
  generalize hH3 : upd H2 D (.dK []) = H3 at I3 I4 pg pt pk pe w0 nfp f3
  generalize hs4 : ({ s3 with heap := pushCells (s3.heap.push { cls := .type "dict", data := .dict #[] }) scope.names } : Shared) = s4 at I4 ⊢
  have st4 : tn 0 s4.heap := T.keep _ _ _ st3 fun b _ o e => by rw [← hs4]; exact pushCells_keeps _ _ _ _ (Heap.get?_push_of_some _ e)
  have stat : ∀ {σ' : L2.St} {H' : Hp} {s' : Shared}, Inv (X.blk s3 H3 scope ce fp) [] σ' H' s' → (∀ b ∈ fp, H' b = none) → ∀ b ∈ fp, FpOk (X.blk s3 H3 scope ce fp) [] H' b := fun {σ' H' s'} I' hn b hb =>
    ⟨hn b hb, (I'.ok.exf b hb).1, I'.ok.exfs b hb, .inl hb, fun x c e => (I'.ok.exf b hb).2 x c e, fun p hp => absurd (show p ∈ ([] : List (Addr × Obj)) ++ [] from hp) (by simp)⟩
  have loop : codeAny (model X.prog X.w) X.A (.compLoop (.DictComp kx vx [⟨tg, iter, ifs, 0⟩] scope pos) 0 (.ref it) (.ref D) ce) (compPost (model X.prog X.w) X.A X.xe use Qf (.ref D) s3.heap.objs.size) s4 := by
    refine compLoop_anyD (fun n s' => ∃ i H', Inv (X.blk s3 H3 scope ce fp) [] (wipe σ (own.map (·.2))) H' s' ∧ tn i s'.heap ∧ (∀ b ∈ fp, H' b = none) ∧ W i n H') ?_ m0 ⟨0, H3, I4, st4, nfp, w0⟩
    rintro n s5 ⟨i, H5, I5, st5, n5, w5⟩
    rcases turn i n H5 w5 with ⟨stop, qq⟩ | ⟨go, Nx, hNx, step⟩
    · have td := T.done (X.blk s3 H3 scope ce fp) rfl rfl rfl hc i [] s5 _ H5 (fun _ _ => False) I5 (stat I5 n5) st5 stop
      refine thnF td fun r s6 ⟨hr, I6⟩ => ?_
      subst hr
      -- back in the def's context
      have I7 : Inv X pins σ H5 s6 := I3.call' (ch := fp) I6.os I6.base I6.hok I6.bare fun b hb => ⟨(f3 b hb).1.2.2.2.1, (f3 b hb).1.2.1, (f3 b hb).1.2.2.2.2.1, (f3 b hb).1.2.2.2.2.2⟩
      have nC : H5 s3.heap.objs.size = none := by
        have z : H5 ce.locals = none := I6.free
        rw [cL] at z
        exact z
      obtain ⟨m, hn, _⟩ := I6.loc
      have hn : s6.heap.Ns ce.locals m := hn
      rw [cL] at hn
      exact hRR D s3.heap.objs.size s6 m H5 I7 qq hn (I3.fpOk (Nat.le_refl _) nC)
    · have ti := T.item (X.blk s3 H3 scope ce fp) rfl rfl rfl hc i [] s5 _ H5 (fun _ _ => False) I5 (stat I5 n5) st5 go
      refine thnF ti fun r s6 ⟨u, hr, h6⟩ => ?_
      subst hr
      refine thnF h6 fun _ s7 ⟨x, H7, I7, r7, y7, st7, n7⟩ => ?_
      have I7' := I7.pinned (stat I7 n7) (T.obj _ _ st7)
      refine thnF (pg.run _ s7 _ H7 x u _ I7' r7 (step x H7 y7)) fun _ s8 ⟨σ8, H8, I8, hw8, q8⟩ => ?_
      refine thnF (pt.run _ s8 σ8 H8 _ I8 q8) fun b s9 ⟨H9, I9, q9⟩ => ?_
      -- the turn's end
      have fin : ∀ {s' : Shared} {H' : Hp}, Inv (X.blk s3 H3 scope ce fp) ([] ++ pinsAt fp s7.heap) σ8 H' s' → Nx H' → ∃ m, m < n ∧ ∃ i H', Inv (X.blk s3 H3 scope ce fp) [] (wipe σ (own.map (·.2))) H' s' ∧ tn i s'.heap ∧ (∀ b ∈ fp, H' b = none) ∧ W i m H' := fun {s' H'} I' nx => by
        obtain ⟨m', hm, w'⟩ := hNx H' nx
        have pin' : ∀ b ∈ fp, ∀ o, s7.heap.get? b = some o → s'.heap.get? b = some o ∧ H' b = none := fun b hb o e =>
          let z := I'.pin (b, o) (List.mem_append_right _ (List.mem_append_right _ (mem_pinsAt hb e)))
          ⟨z.1, z.2.1⟩
        have hl : (wipe σ (own.map (·.2))).length = σ8.length := by rw [← hw8, wipe_length]
        refine ⟨m', hm, i + 1, H', (I'.unpinned (pins := [])).weak hl (fun j v e => ?_), T.keep _ _ _ st7 fun b hb o e => (pin' b hb o e).1, fun b hb => ?_, w'⟩
        · rw [← hw8] at e
          exact (wipe_some e).1
        · obtain ⟨o, e, _⟩ := T.obj _ _ st7 b hb
          exact (pin' b hb o e).2
      cases b with
      | false =>
        simp only [Bool.false_eq_true, if_false] at q9 ⊢
        exact fin I9 q9
      | true =>
        simp only [if_true] at q9 ⊢
        refine thnF (pk.run _ s9 σ8 H9 _ I9 q9) fun z s10 ⟨yk, H10, I10, r10, q10⟩ => ?_
        refine thnF (pe.run _ s10 σ8 H10 _ I10 q10) fun z2 s11 ⟨yv, H11, I11, r11, H12, H13, rl, pt13, nx⟩ => ?_
        exact put_in (X := X.blk s3 H3 scope ce fp) hu (rl.inv I11) pt13 r10 r11 fun s12 I12 => fin I12 nx
  exact codeAny_compStart_dict loop (T.self X.A 0 _ _ _ st4 loop)
end
/-! ### as rules -/
def compDE (t : TM) (mk mv : EM) (k : Nat) (r1 : Slots) (μ : Mem) (f : Mem → Res D) : Res D := match t r1 μ with
  | .ok true μ1 => match mk r1 μ1 with
    | .ok y μ2 => match mv r1 μ2 with
      | .ok z μ3 => match μ3[k]? with
        | some (.dct kvs) => if fits kvs y && decide (kvs.length < sizeLine) then f (μ3.set k (.dct (dput kvs y z))) else .stuck
        | _ => .stuck
      | _ => .stuck
    | _ => .stuck
  | .ok false μ1 => f μ1
  | _ => .stuck
def compD (it : ItM) (g : GM) (t : TM) (mk mv : EM) (k : Nat) (r0 : Slots) : Nat → Nat → Mem → Res D
  | 0, i, μ => match it μ with
    | some ds => if ds.length = i then .ok (.obj k) μ else .stuck
    | none => .stuck
  | n + 1, i, μ => match it μ with
    | some ds => match ds[i]? with
      | none => if ds.length = i then .ok (.obj k) μ else .stuck
      | some d => match g d r0 with
        | none => .stuck
        | some r1 => compDE t mk mv k r1 μ fun μ' => compD it g t mk mv k r0 n (i + 1) μ'
    | none => .stuck
def mDc (mi : Slots → Mem → Res ItM) (g : GM) (t : TM) (mk mv : EM) (vs : List Nat) : EM := fun r μ => (mi r μ).bind fun it m1 => match it m1 with
  | some ds => compD it g t mk mv m1.length (wipeD r vs) ds.length 0 (m1 ++ [.dct []])
  | none => .stuck
section
variable {X : Cx} {tg iter kx vx : Expr} {ifs : List Expr} {scope : Scope} {own : List (Str × Nat)} {pos : Pos} {mi : Slots → Mem → Res ItM} {g : GM} {t : TM} {mk mv : EM} {ws : List Nat}
theorem dc_weak {W : WX} {σ : L2.St} {H : Hp} {Q : VK} {vs : List Nat} (hw : ∀ w ∈ ws, w ∈ vs) (h : tE X.K X.mg W (mDc mi g t mk mv vs) σ H Q) : tDcG (tI X.K X.mg W mi) (tgM X.K g ws) (ttB X.K X.mg t) (tE X.K X.mg W0 mk) (tE X.K X.mg W0 mv) vs σ H Q := by
  obtain ⟨u, r, μ, h1, h2, h3⟩ := h
  have h3' : PostE X.K X.mg u H σ W Q ((mi r μ).bind fun it m1 => match it m1 with | some ds => compD it g t mk mv m1.length (wipeD r vs) ds.length 0 (m1 ++ [.dct []]) | none => .stuck) := h3
  refine ⟨u, r, μ, h1, h2, ?_⟩
  have z := bindI h3'
  cases em : mi r μ with
  | stuck => rw [em] at z; exact z
  | exc c p m => rw [em] at z; exact z
  | ok it0 m0 =>
    rw [em] at z
    intro u' H' J a b c okI D0 hD
    obtain ⟨u1, m1, it, eq, g1, e1, k1, ok1, q1⟩ := z u' H' J a b c okI
    cases eq
    cases ei : it0 m0 with
    | none => simp only [ei] at q1; exact q1.elim
    | some ds0 =>
      simp only [ei] at q1
      have exD : Ext H' (upd H' D0 (.dK [])) := Ext.new hD
      have hgD : Grow u1 (u1 ++ [D0]) := ⟨[D0], rfl⟩
      have k2 : HRep X.K (u1 ++ [D0]) (upd H' D0 (.dK [])) (m0 ++ [.dct []]) := k1.push hD ⟨_, upd_same, rfl⟩
      have hk0 : (u1 ++ [D0])[m0.length]? = some D0 := by
        rw [← k1.len, List.getElem?_append_right (Nat.le_refl _)]
        simp
      refine ⟨fun i n H2 => ∃ u2 m2, Grow (u1 ++ [D0]) u2 ∧ Ext (upd H' D0 (.dK [])) H2 ∧ HRep X.K u2 H2 m2 ∧ PostE X.K X.mg u2 H2 σ W Q (compD it0 g t mk mv m0.length (wipeD r vs) n i m2),
        ⟨ds0.length, u1 ++ [D0], _, Grow.refl _, Ext.refl _, k2, q1.later hgD exD⟩, ?_⟩
      rintro i n H2 ⟨u2, m2, g2, e2, k3, q2⟩
      have gg : Grow u1 u2 := hgD.trans g2
      have ee : Ext H' H2 := exD.trans e2
      have hk2 : u2[m0.length]? = some D0 := g2.get hk0
      have fin : ∀ ds, it0 m2 = some ds → ds.length = i → PostE X.K X.mg u2 H2 σ W Q (.ok (.obj m0.length) m2) → J.stop i H2 ∧ Q (.ref D0) H2 := fun ds ed hl q =>
        ⟨ok1.stop i u2 H2 m2 ds gg ee k3 ed hl, q u2 H2 _ (Grow.refl _) (Ext.refl _) k3 ⟨D0, rfl, hk2⟩⟩
      cases n with
      | zero =>
        simp only [compD] at q2
        cases e : it0 m2 with
        | none => rw [e] at q2; exact q2.elim
        | some ds =>
          rw [e] at q2
          by_cases hl : ds.length = i
          · simp only [if_pos hl] at q2
            exact .inl (fin ds e hl q2)
          · simp only [if_neg hl] at q2
            exact q2.elim
      | succ n =>
        simp only [compD] at q2
        cases e : it0 m2 with
        | none => rw [e] at q2; exact q2.elim
        | some ds =>
          rw [e] at q2
          simp only at q2
          cases ed : ds[i]? with
          | none =>
            rw [ed] at q2
            by_cases hl : ds.length = i
            · simp only [if_pos hl] at q2
              exact .inl (fin ds e hl q2)
            · simp only [if_neg hl] at q2
              exact q2.elim
          | some d =>
            rw [ed] at q2
            simp only at q2
            cases eg : g d (wipeD r vs) with
            | none => rw [eg] at q2; exact q2.elim
            | some r1 =>
              rw [eg] at q2
              simp only at q2
              refine .inr ⟨ok1.go i u2 H2 m2 ds gg ee k3 e (List.getElem?_eq_some_iff.mp ed).1, fun H3 => ∃ u3 m3, Grow (u1 ++ [D0]) u3 ∧ Ext (upd H' D0 (.dK [])) H3 ∧ HRep X.K u3 H3 m3 ∧ PostE X.K X.mg u3 H3 σ W Q (compD it0 g t mk mv m0.length (wipeD r vs) n (i + 1) m3),
                fun H3 q => ⟨n, Nat.lt_succ_self n, q⟩, fun x H3 y => ?_⟩
              obtain ⟨e3, k4, rx⟩ := ok1.yld i u2 H2 m2 ds d x H3 gg ee k3 e ed y
              have er : ERep X.K u2 H3 (wipeD r vs) (wipe σ vs) := (wipeD_rep h2 _).mono (g1.trans gg) (e1.trans (ee.trans e3))
              refine ⟨u2, d, _, r1, er, rx, eg, fun σ' er' on => ⟨wipe_only hw on, u2, r1, m2, k4, er', ?_⟩⟩
              have q3 := q2.later (Grow.refl u2) e3
              unfold compDE at q3
              cases et : t r1 m2 with
              | stuck => rw [et] at q3; exact q3
              | exc c p m => rw [et] at q3; exact q3.elim
              | ok bb m3 =>
                rw [et] at q3
                intro u4 H4 g4 e4 k5
                cases bb with
                | false =>
                  simp only [Bool.false_eq_true, if_false] at q3 ⊢
                  exact ⟨u4, m3, g2.trans g4, (e2.trans e3).trans e4, k5, q3.later g4 e4⟩
                | true =>
                  simp only [if_true] at q3 ⊢
                  refine ⟨u4, r1, m3, k5, er'.mono g4 e4, ?_⟩
                  cases ey : mk r1 m3 with
                  | stuck => rw [ey] at q3; exact q3
                  | exc c p m => rw [ey] at q3; exact q3.elim
                  | ok yd m4 =>
                    rw [ey] at q3
                    simp only at q3
                    intro u5 H5 yv g5 e5 k6 ry
                    refine ⟨u5, r1, m4, k6, (er'.mono g4 e4).mono g5 e5, ?_⟩
                    cases ez : mv r1 m4 with
                    | stuck => rw [ez] at q3; exact q3
                    | exc c p m => rw [ez] at q3; exact q3.elim
                    | ok zd m5 =>
                      rw [ez] at q3
                      simp only at q3
                      intro u6 H6 zv g6 e6 k7 rz
                      split at q3
                      · rename_i kvs em5
                        by_cases hf : (fits kvs yd && decide (kvs.length < sizeLine)) = true
                        · rw [if_pos hf] at q3
                          rw [Bool.and_eq_true] at hf
                          have hz := of_decide_eq_true hf.2
                          have hk6 : u6[m0.length]? = some D0 := g6.get (g5.get (g4.get hk2))
                          obtain ⟨p, H7, ex, hu7, rl, k8, e7, hh⟩ := ready0 (v := .ref D0) k7 em5 ⟨D0, rfl, hk6⟩ hf.1
                          cases ex
                          have ry7 : Rep X.K u6 H7 yd yv := Rep.mono g6 (e6.trans e7) yd ry
                          have rz7 : Rep X.K u6 H7 zd zv := Rep.mono (Grow.refl _) e7 zd rz
                          rcases hh with ⟨kk, ys, hk, hp, hl⟩ | ⟨kk, ys, hk, hp, hl⟩
                          · have ey := keyD_v hk ry7
                            subst ey
                            have hx : Ext H7 (upd H7 D0 (.dK (putK ys kk zv))) := ext_wr hp (fun _ z => nomatch z) (fun _ _ z => nomatch z) (fun _ z => nomatch z)
                            exact ⟨H7, _, rl, DPut.k hp (by rw [hl.length]; exact hz), u6, _, ((g2.trans g4).trans g5).trans g6, (((((e2.trans e3).trans e4).trans e5).trans e6).trans e7).trans hx,
                              k8.write (c := .dct (dput kvs yd zd)) hx (fun a ha hne _ => Kept.put hp hne (fun _ z => nomatch z) (fun _ z => nomatch z)) hu7 ⟨_, upd_same, PairK.mono (Grow.refl _) hx (hl.put hk rz7)⟩ (by rw [upd_same]; exact fun z => nomatch z),
                              q3.later ((g4.trans g5).trans g6) ((((e4.trans e5).trans e6).trans e7).trans hx)⟩
                          · obtain ⟨b, ey, hb⟩ := keyT_v hk ry7
                            subst ey
                            have hx : Ext H7 (upd H7 D0 (.dT (putK ys kk zv))) := ext_wr hp (fun _ z => nomatch z) (fun _ _ z => nomatch z) (fun _ z => nomatch z)
                            exact ⟨H7, _, rl, DPut.t hp hb (by rw [hl.length]; exact hz), u6, _, ((g2.trans g4).trans g5).trans g6, (((((e2.trans e3).trans e4).trans e5).trans e6).trans e7).trans hx,
                              k8.write (c := .dct (dput kvs yd zd)) hx (fun a ha hne _ => Kept.put hp hne (fun _ z => nomatch z) (fun _ z => nomatch z)) hu7 ⟨_, upd_same, PairT.mono (Grow.refl _) hx (hl.put hk rz7)⟩ (by rw [upd_same]; exact fun z => nomatch z),
                              q3.later ((g4.trans g5).trans g6) ((((e4.trans e5).trans e6).trans e7).trans hx)⟩
                        · rw [if_neg hf] at q3
                          exact q3.elim
                      · exact q3.elim
theorem me_dc (hu : X.A.units + 1 < cLine) (hc : X.calm = true) (hN : X.N.Nodup) (hi : MI X tg iter mi) (ok : BlkOk X.N X.env.scope scope own) (hw : ∀ w ∈ ws, w ∈ own.map (·.2))
    (hg : ∀ (s : Shared) (H : Hp) (C : Addr) (cl : List (Str × Addr)) (fp : List Addr), MG (X.blk s H scope (compEnvC scope cl C X.env) fp) tg g ws) (ht : ∀ (s : Shared) (H : Hp) (C : Addr) (cl : List (Str × Addr)) (fp : List Addr), MTs (X.blk s H scope (compEnvC scope cl C X.env) fp) ifs t)
    (hk : ∀ (s : Shared) (H : Hp) (C : Addr) (cl : List (Str × Addr)) (fp : List Addr), ME (X.blk s H scope (compEnvC scope cl C X.env) fp) kx mk) (he : ∀ (s : Shared) (H : Hp) (C : Addr) (cl : List (Str × Addr)) (fp : List Addr), ME (X.blk s H scope (compEnvC scope cl C X.env) fp) vx mv) (hs : ∀ x, foldedSetIterable iter X.env x = pure x := by intro _; rfl) :
    ME X (.DictComp kx vx [⟨tg, iter, ifs, 0⟩] scope pos) (mDc mi g t mk mv (own.map (·.2))) := by
  refine ⟨fun W tk => ⟨fun pins s σ H Q I h => ?_⟩⟩
  rw [arm_eval_DictComp]
  refine dc_gen (g := tgM X.K g ws) (tt := ttB X.K X.mg t) (tk := tE X.K X.mg W0 mk) (tv := tE X.K X.mg W0 mv) hu hc hN I (hi.run W tk) ok (fun s H C cl fp => (hg s H C cl fp).pg) (fun s H C cl fp => (ht s H C cl fp).run W0 (take0 _)) (fun s H C cl fp => (hk s H C cl fp).run W0 (take0 _)) (fun s H C cl fp => (he s H C cl fp).run W0 (take0 _)) hs (dc_weak hw h) fun D C s' m H' I' q hn f => ⟨m, hn, fun h'' sb => ?_⟩
  obtain ⟨f0, f1, f2, f3, f4, f5⟩ := f
  exact ⟨.ref D, H', I'.turned (t' := s'.toks) (fun b o hb e => (sb.2 b hb).trans e) f0 f1 f3 f4 f5, rfl, q⟩
end
end T
end
section
set_option Elab.async false
set_option linter.all false
set_option maxRecDepth 100000
/-! T17: built-in calls. -/
namespace T
open PySem PySem.Spec PyProof.Rows L2
def lstOf (m : Mem) : D → Option (List D)
  | .obj n => lstAt m n
  | .frl ds => some ds
  | _ => none
def tupOf : D → Option (List D)
  | .tup ds => some ds
  | .frt ds => some ds
  | _ => none
def blsD : List D → Option (List Bool)
  | [] => some []
  | .bl b :: ds => (blsD ds).map (b :: ·)
  | _ :: _ => none
def intsD : List D → Option (List Int)
  | [] => some []
  | .int b :: ds => (intsD ds).map (b :: ·)
  | _ :: _ => none
def strsD : List D → Option (List Str)
  | [] => some []
  | .str b :: ds => (strsD ds).map (b :: ·)
  | _ :: _ => none
section
variable {K : PySem.W.Frag} {u : List Addr} {H : Hp} {m : Mem}
theorem lstOf_v (k : HRep K u H m) {y : D} {v : V} {ds : List D} (e : lstOf m y = some ds) (r : Rep K u H y v) : ∃ a xs, v = .ref a ∧ SqL K H a xs ∧ RepL K u H ds xs := by
  cases y with
  | frl es => cases e; obtain ⟨a, xs, h1, h2, h3⟩ := r; exact ⟨a, xs, h1, h2.sq, h3⟩
  | obj n => exact k.list e r
  | _ => cases e
theorem tupOf_v {y : D} {v : V} {ds : List D} (e : tupOf y = some ds) (r : Rep K u H y v) : ∃ a xs, v = .ref a ∧ SqT K H a xs ∧ RepL K u H ds xs := by
  cases y with
  | tup es => cases e; obtain ⟨a, xs, h1, h2, h3⟩ := r; exact ⟨a, xs, h1, SqT.of h2, h3⟩
  | frt es => cases e; obtain ⟨a, xs, h1, h2, h3⟩ := r; exact ⟨a, xs, h1, h2.sq, h3⟩
  | _ => cases e
theorem blsD_v : ∀ {ds : List D} {bs : List Bool} {xs : List V}, blsD ds = some bs → RepL K u H ds xs → xs = bs.map V.bl
  | [], _, _, e, h => by cases e; exact h
  | d :: ds, bs, xs, e, ⟨x, r, ex, h1, h2⟩ => by
    cases d with
    | bl b =>
      obtain ⟨bs', e1, rfl⟩ := Option.map_eq_some_iff.mp (show (blsD ds).map (b :: ·) = some bs from e)
      rw [ex, show x = .bl b from h1, blsD_v e1 h2]
      rfl
    | _ => cases e
theorem intsD_v : ∀ {ds : List D} {bs : List Int} {xs : List V}, intsD ds = some bs → RepL K u H ds xs → xs = bs.map V.int
  | [], _, _, e, h => by cases e; exact h
  | d :: ds, bs, xs, e, ⟨x, r, ex, h1, h2⟩ => by
    cases d with
    | int b =>
      obtain ⟨bs', e1, rfl⟩ := Option.map_eq_some_iff.mp (show (intsD ds).map (b :: ·) = some bs from e)
      rw [ex, show x = .int b from h1, intsD_v e1 h2]
      rfl
    | _ => cases e
theorem strsD_v : ∀ {ds : List D} {bs : List Str} {xs : List V}, strsD ds = some bs → RepL K u H ds xs → xs = bs.map V.str
  | [], _, _, e, h => by cases e; exact h
  | d :: ds, bs, xs, e, ⟨x, r, ex, h1, h2⟩ => by
    cases d with
    | str b =>
      obtain ⟨bs', e1, rfl⟩ := Option.map_eq_some_iff.mp (show (strsD ds).map (b :: ·) = some bs from e)
      rw [ex, show x = .str b from h1, strsD_v e1 h2]
      rfl
    | _ => cases e
end
section
variable {X : Cx}
def g1 (f : D → Mem → Res D) : List D → Mem → Res D := fun ds m => match ds with
  | [x] => f x m
  | _ => .stuck
/-- the one argument -/
theorem shape1 {K : PySem.W.Frag} {mg : Str → Option Value} {u : List Addr} {H : Hp} {σ : L2.St} {W : WX} {Q : VK} {f : D → Mem → Res D} {ds : List D} {m : Mem} {vs : List V} (pl : RepL K u H ds vs)
    (q : PostE K mg u H σ W Q (g1 f ds m)) : ∃ x v, ds = [x] ∧ vs = [v] ∧ Rep K u H x v ∧ PostE K mg u H σ W Q (f x m) := by
  cases ds with
  | nil => exact q.elim
  | cons x r =>
    cases r with
    | nil =>
      obtain ⟨v, rfl, h⟩ := one_any pl
      exact ⟨x, v, rfl, rfl, h, q⟩
    | cons _ _ => exact q.elim
theorem cm1 {fv : Value} {rr : List V → Hp → VK → Prop} {f : D → Mem → Res D} (ho : CallR X fv rr) (h : ∀ W σ H x v u m Q, HRep X.K u H m → Rep X.K u H x v → PostE X.K X.mg u H σ W Q (f x m) → rr [v] H Q) : CallM X fv (g1 f) :=
  callM_of ho fun W σ H vs u ds m Q k pl q => by
    obtain ⟨x, v, rfl, rfl, rx, q⟩ := shape1 pl q
    exact h W σ H x v u m Q k rx q
def fAll (x : D) (m : Mem) : Res D := match (lstOf m x).bind blsD with
  | some bs => .ok (.bl (bs.all id)) m
  | none => .stuck
def fAny (x : D) (m : Mem) : Res D := match (lstOf m x).bind blsD with
  | some bs => .ok (.bl (bs.any id)) m
  | none => .stuck
def fSum (x : D) (m : Mem) : Res D := match (lstOf m x).bind intsD with
  | some bs => .ok (.int bs.sum) m
  | none => .stuck
theorem cm_all (hc : X.calm = true) : CallM X (.builtin "all") (g1 fAll) := cm1 (cr_all hc) fun W σ H x v u m Q k rx q => by
  unfold fAll at q
  cases e : (lstOf m x).bind blsD with
  | none => rw [e] at q; exact q.elim
  | some bs =>
    rw [e] at q
    obtain ⟨ds, e1, e2⟩ := Option.bind_eq_some_iff.mp e
    obtain ⟨a, xs, rfl, h1, h2⟩ := lstOf_v k e1 rx
    rw [blsD_v e2 h2] at h1
    exact ⟨a, bs, rfl, h1, q.now k rfl⟩
theorem cm_any (hc : X.calm = true) : CallM X (.builtin "any") (g1 fAny) := cm1 (cr_any hc) fun W σ H x v u m Q k rx q => by
  unfold fAny at q
  cases e : (lstOf m x).bind blsD with
  | none => rw [e] at q; exact q.elim
  | some bs =>
    rw [e] at q
    obtain ⟨ds, e1, e2⟩ := Option.bind_eq_some_iff.mp e
    obtain ⟨a, xs, rfl, h1, h2⟩ := lstOf_v k e1 rx
    rw [blsD_v e2 h2] at h1
    exact ⟨a, bs, rfl, h1, q.now k rfl⟩
theorem cm_sum (hc : X.calm = true) : CallM X (.builtin "sum") (g1 fSum) := cm1 (cr_sum hc) fun W σ H x v u m Q k rx q => by
  unfold fSum at q
  cases e : (lstOf m x).bind intsD with
  | none => rw [e] at q; exact q.elim
  | some bs =>
    rw [e] at q
    obtain ⟨ds, e1, e2⟩ := Option.bind_eq_some_iff.mp e
    obtain ⟨a, xs, rfl, h1, h2⟩ := lstOf_v k e1 rx
    rw [intsD_v e2 h2] at h1
    exact ⟨a, bs, rfl, h1, q.now k rfl⟩
/-! ### tuple, list -/
def fTuple (x : D) (m : Mem) : Res D := match lstOf m x with
  | some ds => .ok (.tup ds) m
  | none => match tupOf x with
    | some _ => .ok x m
    | none => .stuck
def fList (x : D) (m : Mem) : Res D := match seqAt m x with
  | some ds => .ok (.obj m.length) (m ++ [.lst ds])
  | none => .stuck
theorem cm_tuple : CallM X (.type "tuple") (g1 fTuple) := cm1 call_tuple_of fun W σ H x v u m Q k rx q => by
  unfold fTuple at q
  cases e : lstOf m x with
  | some ds =>
    rw [e] at q
    obtain ⟨a, xs, rfl, h1, h2⟩ := lstOf_v k e rx
    exact ⟨a, xs, rfl, .inl ⟨h1, fun p hp => q u _ (.ref p) (Grow.refl _) (Ext.new hp) (k.new hp) ⟨p, xs, rfl, upd_same, RepL.mono (Grow.refl _) (Ext.new hp) ds h2⟩⟩⟩
  | none =>
    rw [e] at q
    simp only at q
    cases e2 : tupOf x with
    | none => rw [e2] at q; exact q.elim
    | some ds =>
      rw [e2] at q
      obtain ⟨a, xs, rfl, h1, h2⟩ := tupOf_v e2 rx
      exact ⟨a, xs, rfl, .inr ⟨h1, q.now k rx⟩⟩
/-- a new list laid -/
theorem post_lst {K : PySem.W.Frag} {mg : Str → Option Value} {u : List Addr} {H : Hp} {σ : L2.St} {W : WX} {Q : VK} {m : Mem} {ds : List D} {xs : List V} {p : Addr} (q : PostE K mg u H σ W Q (.ok (.obj m.length) (m ++ [.lst ds]))) (k : HRep K u H m) (r : RepL K u H ds xs) (hp : H p = none) : Q (.ref p) (upd H p (.lst xs)) := by
  have hg : Grow u (u ++ [p]) := ⟨[p], rfl⟩
  refine q (u ++ [p]) _ (.ref p) hg (Ext.new hp) (k.push hp ⟨_, upd_same, RepL.mono hg (Ext.new hp) ds r⟩) ⟨p, rfl, ?_⟩
  rw [← k.len, List.getElem?_append_right (Nat.le_refl _)]
  simp
theorem cm_list : CallM X (.type "list") (g1 fList) := cm1 call_list_of fun W σ H x v u m Q k rx q => by
  unfold fList at q
  cases e : seqAt m x with
  | none => rw [e] at q; exact q.elim
  | some ds =>
    rw [e] at q
    obtain ⟨a, xs, rfl, h1, h2⟩ := seqAt_v k e rx
    exact ⟨a, xs, rfl, h1, fun p hp => post_lst q k h2 hp⟩
/-! ### len -/
theorem call_lenT {d : Addr} {kvs : List (List Key × V)} {pins : List (Addr × Obj)} {σ : L2.St} {H : Hp} {s : Shared} {Q : VK} (I : Inv X pins σ H s) (e : Rd H d (.dT kvs)) (q : Q (.int ((kvs.length : Nat) : Int)) H) : wpAny (model X.prog X.w) X.A (call (.builtin "len") [.ref d]) (EP X pins σ Q) X.xe s := by
  obtain ⟨z, hd, ys, rel, dd⟩ := dt_rd I.hok e
  have hl : kvs.length = ys.length := Paired.length rel
  refine call_len_dictH hd dd (by rw [← hl]; rw [sizeLine_eq] at z; omega) ?_
  rw [← hl]
  exact ⟨.int ((kvs.length : Nat) : Int), H, I.tok _, ⟨_, rfl⟩, q⟩
theorem dctAt_v {K : PySem.W.Frag} {u : List Addr} {H : Hp} {m : Mem} (k : HRep K u H m) {n : Nat} {kvs : List (D × D)} {v : V} (e : dctAt m n = some kvs) (r : Rep K u H (.obj n) v) : ∃ a o, v = .ref a ∧ Rd H a o ∧ DctO K u H kvs o := by
  obtain ⟨a, rfl, hu⟩ := r
  unfold dctAt at e
  split at e
  · rename_i kvs0 e1
    cases e
    obtain ⟨o, h1, h2⟩ := k.cell n _ a e1 hu
    exact ⟨a, o, rfl, .inl h1, h2⟩
  · rename_i kvs0 e1
    cases e
    obtain ⟨ob, o, h1, h2⟩ := k.cell n _ a e1 hu
    exact ⟨a, o, rfl, .inr ⟨ob, h1⟩, h2⟩
  · cases e
def fLen (x : D) (m : Mem) : Res D := match lenD m x with
  | some n => .ok (.int n) m
  | none => .stuck
theorem cm_len : CallM X (.builtin "len") (g1 fLen) := by
  intro W pins s σ H xs vs Q u ds m tk I rv k pl q
  obtain ⟨x, v, rfl, rfl, rx, q'⟩ := shape1 pl q
  unfold fLen at q'
  unfold lenD at q'
  cases e : seqAt m x with
  | some es =>
    rw [e] at q'
    simp only at q'
    obtain ⟨a, ys, rfl, h1, h2⟩ := seqAt_v k e rx
    refine call_len_seq pins s σ H _ _ Q I rv ⟨a, ys, rfl, h1, ?_⟩
    rw [h2.length]
    exact q'.now k rfl
  | none =>
    rw [e] at q'
    simp only at q'
    cases x with
    | str z =>
      simp only at q'
      by_cases hz : z.length ≤ sizeLine
      · rw [if_pos hz] at q'
        exact call_len_str pins s σ H _ _ Q I rv ⟨z, by rw [show v = .str z from rx], hz, q'.now k rfl⟩
      · rw [if_neg hz] at q'
        exact q'.elim
    | obj n =>
      simp only at q'
      cases e2 : dctAt m n with
      | none => rw [e2] at q'; exact q'.elim
      | some kvs =>
        rw [e2] at q'
        obtain ⟨a, o, rfl, h1, h2⟩ := dctAt_v k e2 rx
        have q2 := q'.now k (v := .int ((kvs.length : Nat) : Int)) rfl
        cases o with
        | dK ys =>
          refine call_lenR pins s σ H _ _ Q I rv ⟨a, ys, rfl, h1, ?_⟩
          rw [PairK.len h2]
          exact q2
        | dT ys =>
          obtain ⟨w, rfl, rw'⟩ := vals1 rv
          obtain rfl : w = Value.ref a := rw'
          refine call_lenT I h1 ?_
          rw [PairT.len h2]
          exact q2
        | _ => exact h2.elim
    | _ => exact q'.elim
end
end T
end
section
set_option Elab.async false
set_option linter.all false
set_option maxRecDepth 100000
/-! T18: methods of lists, dicts, texts; dict displays; copies. -/
namespace T
open PySem PySem.Spec PyProof.Rows L2
/-- what the receiver is -/
def isBT (t : BT) (x : D) (m : Mem) : Bool := match t with
  | .str => match x with
    | .str _ => true
    | _ => false
  | .lst => (lstOf m x).isSome
  | .dct => match x with
    | .obj n => (dctAt m n).isSome
    | _ => false
  | _ => false
theorem isBT_v {X : Cx} {pins : List (Addr × Obj)} {σ : L2.St} {H : Hp} {s : Shared} {u : List Addr} {m : Mem} {t : BT} {x : D} {w : V} {v : Value} (I : Inv X pins σ H s) (r : RelV w v) (k : HRep X.K u H m) (rx : Rep X.K u H x w) (h : isBT t x m = true) :
    s.TypeIs v t.name ∧ ∀ a, v = .ref a → ∃ ob, s.heap.get? a = some ob ∧ ob.dict = none := by
  cases t with
  | str =>
    cases x with
    | str z =>
      cases (show w = .str z from rx)
      obtain ⟨t, rfl⟩ := r
      exact ⟨typeIs_str s z t, fun _ e => nomatch e⟩
    | _ => cases h
  | lst =>
    obtain ⟨ds, e⟩ := Option.isSome_iff_exists.mp h
    obtain ⟨a, xs, rfl, hs, _⟩ := lstOf_v k e rx
    cases r
    obtain ⟨its, _, pl, _⟩ := I.list hs
    refine ⟨pl.isList.typeIs, fun a' e' => ?_⟩
    cases e'
    obtain ⟨o, n, e, c, hd, _⟩ := pl
    exact ⟨o, e, hd⟩
  | dct =>
    cases x with
    | obj n =>
      obtain ⟨kvs, e⟩ := Option.isSome_iff_exists.mp (show (dctAt m n).isSome = true from h)
      obtain ⟨a, o, rfl, hr, hd⟩ := dctAt_v k e rx
      cases r
      have z : ∃ ob, s.heap.get? a = some ob ∧ ob.ExactDict := by
        cases o with
        | dK ys => obtain ⟨_, _, vs, _, ob, _, _, h1, h2, _⟩ := dk_rd I.hok hr; exact ⟨ob, h1, h2⟩
        | dT ys => obtain ⟨_, _, vs, _, ob, _, _, h1, h2, _⟩ := dt_rd I.hok hr; exact ⟨ob, h1, h2⟩
        | _ => exact hd.elim
      obtain ⟨ob, h1, h2⟩ := z
      refine ⟨⟨ob, h1, h2.1⟩, fun a' e' => ?_⟩
      cases e'
      exact ⟨ob, h1, h2.2.1⟩
    | _ => cases h
  | _ => cases h
def MethM (X : Cx) (id : String) (g : D → List D → Mem → Res D) : Prop :=
  ∀ (W : WX) (pins : List (Addr × Obj)) (s : Shared) (σ : L2.St) (H : Hp) (x : V) (xs : List V) (v : Value) (vs : List Value) (Q : VK) (u : List Addr) (d : D) (ds : List D) (m : Mem), Takes X W → Inv X pins σ H s → RelV x v → Vals xs vs → HRep X.K u H m → Rep X.K u H d x → RepL X.K u H ds xs →
    PostE X.K X.mg u H σ W Q (g d ds m) → wpAny (model X.prog X.w) X.A (call (.builtin id) (v :: vs)) (EP X pins σ Q) X.xe s
def mMeth (t : BT) (g : D → List D → Mem → Res D) (mo : EM) (ms : LM) : EM := fun r μ => (mo r μ).bind fun x μ1 => if isBT t x μ1 then (ms r μ1).bind fun ds μ2 => g x ds μ2 else .stuck
section
variable {X : Cx} {o e : Expr} {es : List Expr} {mo : EM} {ms : LM} {name : Str} {apos cpos : Pos} {id : String} {t : BT} {g : D → List D → Mem → Res D}
theorem me_meth0 (pa : PlainAttrs t.name) (slot : Slot t.name name id) (hty : typeOf (.builtin id) = pure (.type "method_descriptor")) (hm : MethM X id g) (ho : ME X o mo)
    (hbase : attributeBase o name X.env (eval o X.env) = eval o X.env := by rfl) (hline : (apos.endLine == cpos.line) = true := by rfl) : ME X (.Call (.Attribute o name apos) [] [] cpos) (mMeth t g mo aNil) := by
  refine ⟨fun W tk => ⟨fun pins s σ H Q I h => ?_⟩⟩
  obtain ⟨u, r, μ, h1, h2, h3⟩ := h
  have h3' : PostE X.K X.mg u H σ W Q ((mo r μ).bind fun x μ1 => if isBT t x μ1 then (aNil r μ1).bind fun ds μ2 => g x ds μ2 else .stuck) := h3
  refine wpAny_Call_method0_late hbase hline (thn ((ho.run W tk).run pins s σ H _ I ⟨u, r, μ, h1, h2, PostE.bindE h3'⟩) fun v s1 ⟨x, H1, I1, r1, u1, μ1, dx, g1, e1, k1, p1, _, q1⟩ => ?_)
  have q1' : PostE X.K X.mg u1 H1 σ W Q (if isBT t dx μ1 then g dx [] μ1 else .stuck) := q1
  by_cases hb : isBT t dx μ1 = true
  · rw [if_pos hb] at q1'
    obtain ⟨a1, a2⟩ := isBT_v I1 r1 k1 p1 hb
    exact ⟨t.name, id, pa, slot, hty, a1, a2, Calls.callWith_builtin rfl (PySem.evalArgs_none (hm W pins s1 σ H1 x [] v [] Q u1 dx [] μ1 tk I1 r1 .nil k1 p1 rfl q1'))⟩
  · rw [if_neg hb] at q1'
    exact q1'.elim
theorem me_meth (pa : PlainAttrs t.name) (slot : Slot t.name name id) (hty : typeOf (.builtin id) = pure (.type "method_descriptor")) (hm : MethM X id g) (ho : ME X o mo) (ha : MA X (e :: es) ms)
    (hbase : attributeBase o name X.env (eval o X.env) = eval o X.env := by rfl)
    (hfew : ((backTo cpos (starEach (e :: es) X.env)).all (fun x => !x.1) && (backToKw cpos (keywordEach [] X.env)).all (fun x => x.1.isSome)
      && decide ((e :: es).length + ([] : List Keyword).length + (if ([] : List Keyword).isEmpty then 0 else 1) < 30)) = true := by rfl)
    (hline : (apos.endLine == cpos.line) = true := by rfl) (hs : starEach (e :: es) X.env = (false, eval e X.env) :: starEach es X.env := by rfl) (hplain : (backTo cpos (starEach es X.env)).any (·.1) = false := by rfl) :
    ME X (.Call (.Attribute o name apos) (e :: es) [] cpos) (mMeth t g mo ms) := by
  refine ⟨fun W tk => ⟨fun pins s σ H Q I h => ?_⟩⟩
  obtain ⟨u, r, μ, h1, h2, h3⟩ := h
  have h3' : PostE X.K X.mg u H σ W Q ((mo r μ).bind fun x μ1 => if isBT t x μ1 then (ms r μ1).bind fun ds μ2 => g x ds μ2 else .stuck) := h3
  refine wpAny_Call_method_late hbase hfew hline rfl (thn ((ho.run W tk).run pins s σ H _ I ⟨u, r, μ, h1, h2, PostE.bindE h3'⟩) fun v s1 ⟨x, H1, I1, r1, u1, μ1, dx, g1, e1, k1, p1, _, q1⟩ => ?_)
  have q1' : PostE X.K X.mg u1 H1 σ W Q (if isBT t dx μ1 then (ms r μ1).bind fun ds μ2 => g dx ds μ2 else .stuck) := q1
  by_cases hb : isBT t dx μ1 = true
  · rw [if_pos hb] at q1'
    obtain ⟨a1, a2⟩ := isBT_v I1 r1 k1 p1 hb
    refine ⟨t.name, id, pa, slot, hty, a1, a2, ?_⟩
    have hA := (ha.run W tk).run cpos pins s1 σ H1 _ I1 ⟨u1, r, μ1, k1, h2.mono g1 e1, PostA.bindE q1'⟩
    rw [hs] at hA ⊢
    refine Calls.callWith_builtin (by show (false || (backTo cpos (starEach es X.env)).any (·.1)) = false; rw [hplain] <;> rfl) (Calls.evalArgs_plain ?_)
    exact thn hA fun us s2 ⟨vs, H2, I2, r2, u2, μ2, ds, g2, e2, k2, p2, _, q2⟩ => hm W pins s2 σ H2 x vs v us Q u2 dx ds μ2 tk I2 r1 r2 k2 (Rep.mono g2 e2 dx p1) p2 q2
  · rw [if_neg hb] at q1'
    exact q1'.elim
/-! ### lists -/
/-- the list cell that is written -/
def lstW (m : Mem) (x : D) : Option (Nat × List D) := match x with
  | .obj n => match m[n]? with
    | some (.lst ds) => some (n, ds)
    | _ => none
  | _ => none
theorem lstW_v {K : PySem.W.Frag} {u : List Addr} {H : Hp} {m : Mem} (k : HRep K u H m) {x : D} {v : V} {n : Nat} {ds : List D} (e : lstW m x = some (n, ds)) (r : Rep K u H x v) : ∃ a xs, v = .ref a ∧ H a = some (.lst xs) ∧ RepL K u H ds xs ∧ u[n]? = some a := by
  cases x with
  | obj j =>
    obtain ⟨a, rfl, hu⟩ := r
    have e : (match m[j]? with | some (.lst ds) => some (j, ds) | _ => none) = some (n, ds) := e
    split at e
    · rename_i es em
      cases e
      obtain ⟨o, h1, h2⟩ := k.cell _ _ a em hu
      cases o with
      | lst xs => exact ⟨a, xs, rfl, h1, h2, hu⟩
      | _ => exact h2.elim
    · cases e
  | _ => cases e
/-- .. written -/
theorem post_wr {K : PySem.W.Frag} {mg : Str → Option Value} {u : List Addr} {H : Hp} {σ : L2.St} {W : WX} {Q : VK} {m : Mem} {n : Nat} {d : D} {es : List D} {xs ys : List V} {a : Addr} {v : V} (q : PostE K mg u H σ W Q (.ok d (m.set n (.lst es)))) (k : HRep K u H m) (hp : H a = some (.lst xs)) (hu : u[n]? = some a) (r : RepL K u H es ys) (rd : Rep K u H d v) : Q v (upd H a (.lst ys)) := by
  have hx : Ext H (upd H a (.lst ys)) := ext_wr hp (fun _ z => nomatch z) (fun _ _ z => nomatch z) (fun _ z => nomatch z)
  exact q u _ v (Grow.refl _) hx (k.write (c := .lst es) hx (fun b hb hne _ => Kept.put hp hne (fun _ z => nomatch z) (fun _ z => nomatch z)) hu ⟨_, upd_same, RepL.mono (Grow.refl _) hx _ r⟩ (by rw [upd_same]; exact fun z => nomatch z)) (Rep.mono (Grow.refl _) hx d rd)
def gAppend : D → List D → Mem → Res D := fun x ds m => match ds with
  | [y] => match lstW m x with
    | some (n, es) => if es.length < sizeLine then .ok .non (m.set n (.lst (es ++ [y]))) else .stuck
    | none => .stuck
  | _ => .stuck
theorem mm_append : MethM X "list.append" gAppend := by
  intro W pins s σ H x xs v vs Q u d ds m tk I rx rv k pd pl q
  obtain ⟨y, w, rfl, rfl, ry, q⟩ := shape1 (f := fun y m => match lstW m d with | some (n, es) => if es.length < sizeLine then .ok .non (m.set n (.lst (es ++ [y]))) else .stuck | none => .stuck) pl (by
    unfold gAppend at q
    unfold g1
    exact q)
  cases e : lstW m d with
  | none => rw [e] at q; exact q.elim
  | some p =>
    obtain ⟨n, es⟩ := p
    rw [e] at q
    simp only at q
    by_cases hl : es.length < sizeLine
    · rw [if_pos hl] at q
      obtain ⟨a, ys, rfl, h1, h2, h3⟩ := lstW_v k e pd
      exact mt_append pins s σ H _ _ v vs Q I rx rv ⟨a, ys, w, rfl, rfl, h1, by rw [h2.length]; exact hl, post_wr q k h1 h3 (h2.append (RepL.one ry)) rfl⟩
    · rw [if_neg hl] at q
      exact q.elim
def gExtend : D → List D → Mem → Res D := fun x ds m => match ds with
  | [y] => match lstW m x, lstW m y with
    | some (n, es), some (_, fs) => if es.length + fs.length ≤ sizeLine then .ok .non (m.set n (.lst (es ++ fs))) else .stuck
    | _, _ => .stuck
  | _ => .stuck
theorem mm_extend : MethM X "list.extend" gExtend := by
  intro W pins s σ H x xs v vs Q u d ds m tk I rx rv k pd pl q
  obtain ⟨y, w, rfl, rfl, ry, q⟩ := shape1 (f := fun y m => match lstW m d, lstW m y with | some (n, es), some (_, fs) => if es.length + fs.length ≤ sizeLine then .ok .non (m.set n (.lst (es ++ fs))) else .stuck | _, _ => .stuck) pl (by
    unfold gExtend at q
    unfold g1
    exact q)
  cases e : lstW m d with
  | none => rw [e] at q; exact q.elim
  | some p =>
    obtain ⟨n, es⟩ := p
    cases e2 : lstW m y with
    | none => rw [e, e2] at q; exact q.elim
    | some p2 =>
      obtain ⟨n2, fs⟩ := p2
      rw [e, e2] at q
      simp only at q
      by_cases hl : es.length + fs.length ≤ sizeLine
      · rw [if_pos hl] at q
        obtain ⟨a, ys, rfl, h1, h2, h3⟩ := lstW_v k e pd
        obtain ⟨b, zs, rfl, g1, g2, g3⟩ := lstW_v k e2 ry
        exact mt_extend pins s σ H _ _ v vs Q I rx rv ⟨a, b, ys, zs, rfl, rfl, h1, g1, by rw [h2.length, g2.length]; exact hl, post_wr q k h1 h3 (h2.append g2) rfl⟩
      · rw [if_neg hl] at q
        exact q.elim
/-! ### dicts -/
def gGet : D → List D → Mem → Res D := fun x ds m => match x with
  | .obj n => match ds with
    | [y] => match dctR m n y with
      | some kvs => .ok ((dget kvs y).getD .non) m
      | none => .stuck
    | [y, z] => match dctR m n y with
      | some kvs => .ok ((dget kvs y).getD z) m
      | none => .stuck
    | _ => .stuck
  | _ => .stuck
theorem mm_get (hu : X.A.units + 1 < cLine) : MethM X "dict.get" gGet := by
  intro W pins s σ H x xs v vs Q u d ds m tk I rx rv k pd pl q
  cases d with
  | obj n =>
    cases ds with
    | nil => exact q.elim
    | cons y r =>
      cases r with
      | nil =>
        obtain ⟨w, rfl, ry⟩ := one_any pl
        obtain ⟨w1, rfl, rw1⟩ := vals1 rv
        have q : PostE X.K X.mg u H σ W Q (match dctR m n y with | some kvs => .ok ((dget kvs y).getD .non) m | none => .stuck) := q
        cases e : dctR m n y with
        | none => rw [e] at q; exact q.elim
        | some kvs =>
          rw [e] at q
          simp only at q
          obtain ⟨a, H1, o, rfl, I1, k1, ex, g, hg⟩ := dct_read I k e pd ry
          obtain rfl : v = Value.ref a := rx
          refine d_get1 hu I1 g rw1 fun w' s' I' rw' => ⟨o.getD .non, H1, I', rw', ?_⟩
          cases ed : dget kvs y with
          | none => rw [ed] at hg q; rw [hg]; exact q u H1 _ (Grow.refl _) ex k1 rfl
          | some dd => rw [ed] at hg q; obtain ⟨z, rfl, rz⟩ := hg; exact q u H1 _ (Grow.refl _) ex k1 rz
      | cons z r =>
        cases r with
        | nil =>
          obtain ⟨w, wz, rfl, ry, rz⟩ := two_any pl
          obtain ⟨w1, w2, rfl, rw1, rw2⟩ := vals2 rv
          have q : PostE X.K X.mg u H σ W Q (match dctR m n y with | some kvs => .ok ((dget kvs y).getD z) m | none => .stuck) := q
          cases e : dctR m n y with
          | none => rw [e] at q; exact q.elim
          | some kvs =>
            rw [e] at q
            simp only at q
            obtain ⟨a, H1, o, rfl, I1, k1, ex, g, hg⟩ := dct_read I k e pd ry
            obtain rfl : v = Value.ref a := rx
            refine d_get2 hu I1 g rw1 rw2 fun w' s' I' rw' => ⟨o.getD wz, H1, I', rw', ?_⟩
            cases ed : dget kvs y with
            | none => rw [ed] at hg q; rw [hg]; exact q u H1 _ (Grow.refl _) ex k1 (Rep.mono (Grow.refl _) ex z rz)
            | some dd => rw [ed] at hg q; obtain ⟨z, rfl, rz⟩ := hg; exact q u H1 _ (Grow.refl _) ex k1 rz
        | cons _ _ => exact q.elim
  | _ => exact q.elim
/-! ### texts -/
def gJoin : D → List D → Mem → Res D := fun x ds m => match x with
  | .str a => match ds with
    | [y] => match (seqAt m y).bind strsD with
      | some ys => if (ys.map (·.length)).sum + ys.length * a.length ≤ 16777216 then .ok (.str (Txt.join a ys)) m else .stuck
      | none => .stuck
    | _ => .stuck
  | _ => .stuck
theorem mm_join : MethM X "str.join" gJoin := by
  intro W pins s σ H x xs v vs Q u d ds m tk I rx rv k pd pl q
  cases d with
  | str a =>
    cases ds with
    | nil => exact q.elim
    | cons y r =>
      cases r with
      | nil =>
        obtain ⟨w, rfl, ry⟩ := one_any pl
        have q : PostE X.K X.mg u H σ W Q (match (seqAt m y).bind strsD with | some ys => if (ys.map (·.length)).sum + ys.length * a.length ≤ 16777216 then .ok (.str (Txt.join a ys)) m else .stuck | none => .stuck) := q
        cases e : (seqAt m y).bind strsD with
        | none => rw [e] at q; exact q.elim
        | some ys =>
          rw [e] at q
          simp only at q
          by_cases hl : (ys.map (·.length)).sum + ys.length * a.length ≤ 16777216
          · rw [if_pos hl] at q
            obtain ⟨es, e1, e2⟩ := Option.bind_eq_some_iff.mp e
            obtain ⟨p, zs, rfl, h1, h2⟩ := seqAt_v k e1 ry
            rw [strsD_v e2 h2] at h1
            exact mt_join pins s σ H _ _ v vs Q I rx rv ⟨a, p, ys, pd, rfl, h1, hl, q.now k rfl⟩
          · rw [if_neg hl] at q
            exact q.elim
      | cons _ _ => exact q.elim
  | _ => exact q.elim
def gSplit : D → List D → Mem → Res D := fun x ds m => match x with
  | .str a => match ds with
    | [.str b] => if (b.length == 0) = false ∧ a.length + 2 ≤ sizeLine then .ok (.obj m.length) (m ++ [.lst ((Txt.split a b).map D.str)]) else .stuck
    | _ => .stuck
  | _ => .stuck
theorem repL_strs {K : PySem.W.Frag} {u : List Addr} {H : Hp} : ∀ (l : List Str), RepL K u H (l.map D.str) (l.map V.str)
  | [] => rfl
  | c :: l => ⟨.str c, _, rfl, rfl, repL_strs l⟩
theorem mm_split : MethM X "str.split" gSplit := by
  intro W pins s σ H x xs v vs Q u d ds m tk I rx rv k pd pl q
  cases d with
  | str a =>
    cases ds with
    | nil => exact q.elim
    | cons y r =>
      cases r with
      | nil =>
        cases y with
        | str b =>
          obtain ⟨w, rfl, ry⟩ := one_any pl
          have q : PostE X.K X.mg u H σ W Q (if (b.length == 0) = false ∧ a.length + 2 ≤ sizeLine then .ok (.obj m.length) (m ++ [.lst ((Txt.split a b).map D.str)]) else .stuck) := q
          by_cases hl : (b.length == 0) = false ∧ a.length + 2 ≤ sizeLine
          · rw [if_pos hl] at q
            exact mt_split pins s σ H _ _ v vs Q I rx rv ⟨a, b, pd, by rw [show w = .str b from ry], hl.1, hl.2, fun p hp => post_lst q k (repL_strs _) hp⟩
          · rw [if_neg hl] at q
            exact q.elim
        | _ => exact q.elim
      | cons _ _ => cases y <;> exact q.elim
  | _ => exact q.elim
end
end T
end
section
set_option Elab.async false
set_option linter.all false
set_option maxRecDepth 100000
/-! T19: chains of comparisons, powers, slices, what is left out. -/
namespace T
open PySem PySem.Spec PyProof.Rows L2
/-! ### names, as a computation -/
def visB (sc : Scope) (x : Str) : Bool := match sc.names.lookup x with
  | some .local => true
  | some .cell => true
  | some .free => true
  | _ => false
theorem vis_by {sc : Scope} {x : Str} (h : visB sc x = true) : Vis sc x := by
  unfold visB at h
  unfold Vis
  split at h
  · exact .inl (by assumption)
  · exact .inr (.inl (by assumption))
  · exact .inr (.inr (by assumption))
  · cases h
def locB (sc : Scope) (x : Str) : Bool := match sc.names.lookup x with
  | some .local => true
  | some .cell => true
  | _ => false
theorem loc_by {sc : Scope} {x : Str} (h : locB sc x = true) : L2.Loc sc x := by
  unfold locB at h
  unfold L2.Loc
  split at h
  · exact .inl (by assumption)
  · exact .inr (by assumption)
  · cases h
/-! ### what is never reached -/
def mStk : EM := fun _ _ => .stuck
def tStk : TM := fun _ _ => .stuck
def sStk : SM := fun _ _ => .stuck
def aStk : LM := fun _ _ => .stuck
def iStk : Slots → Mem → Res ItM := fun _ _ => .stuck
theorem no_post {K : PySem.W.Frag} {u : List Addr} {H : Hp} {r : Slots} {σ : L2.St} {p : Prop} (h : ∃ (u : List Addr) (r : Slots) (μ : Mem), HRep K u H μ ∧ ERep K u H r σ ∧ False) : p := by
  obtain ⟨_, _, _, _, _, z⟩ := h
  exact z.elim
section
variable {X : Cx} {e : Expr} {s : Stmt} {ss : List Stmt} {es : List Expr} {tg : Expr} {pos : Pos}
theorem me_stk : ME X e mStk := ⟨fun W tk => ⟨fun pins s σ H Q I ⟨u, r, μ, _, _, z⟩ => z.elim⟩⟩
theorem mt_stk : MT X e tStk := ⟨fun W tk => ⟨fun pins s σ H Q I ⟨u, r, μ, _, _, z⟩ => z.elim⟩⟩
theorem ms_stk : MS X s sStk := ⟨fun W tk => ⟨fun pins s σ H Q I ⟨u, r, μ, _, _, z⟩ => z.elim⟩⟩
theorem mss_stk : MSs X ss sStk := ⟨fun W tk => ⟨fun pins s σ H Q I ⟨u, r, μ, _, _, z⟩ => z.elim⟩⟩
theorem ma_stk : MA X es aStk := ⟨fun W tk => ⟨fun pos pins s σ H Q I ⟨u, r, μ, _, _, z⟩ => z.elim⟩⟩
theorem mi_stk : MI X tg e iStk := ⟨fun W tk => ⟨fun pins s σ H R I ⟨u, r, μ, _, _, z⟩ => z.elim⟩⟩
end
/-! ### powers -/
def powOk (i j : Int) : Prop := 0 ≤ j ∧ (Builtin.Int.intBits i : Int) * j ≤ 2 ^ 27
instance (i j : Int) : Decidable (powOk i j) := by unfold powOk; infer_instance
def gPow : D → D → Mem → Res D
  | .int i, .int j, m => if powOk i j then .ok (.int (i ^ j.toNat)) m else .stuck
  | _, _, _ => .stuck
theorem om_pow {X : Cx} : OpM X (binaryOp .Pow) gPow := by
  have op : OpR X (binaryOp .Pow) (rI powOk fun i j => .int (i ^ j.toNat)) := opI fun _ _ _ _ _ _ _ hc q => pow_int hc.1 hc.2 q
  refine om_int op (gi := fun i j => .int (i ^ j.toNat)) (fun _ _ _ _ => rfl) (fun _ _ _ => rfl) fun a b m h => ?_
  unfold gPow
  split
  · exact absurd ⟨rfl, rfl⟩ (h _ _)
  · rfl
/-! ### a < b < c -/
def mChain (g g' : D → D → Mem → Res D) (ma mb mc : EM) : EM := fun r μ => (ma r μ).bind fun x μ1 => (mb r μ1).bind fun y μ2 => (g x y μ2).bind fun z μ3 => match z with
  | .bl true => (mc r μ3).bind fun w μ4 => g' y w μ4
  | .bl false => .ok (.bl false) μ3
  | _ => .stuck
section
variable {X : Cx} {a b c : Expr} {ma mb mc : EM} {pos : Pos} {op op' : CmpOp} {g g' : D → D → Mem → Res D}
theorem me_chain (ho : OpM X (compareOp op) g) (ho' : OpM X (compareOp op') g') (ha : ME X a ma) (hb : ME X b mb) (hc : ME X c mc)
    (hm : lastMarks [op, op'] [b, c] = false := by with_unfolding_all rfl) : ME X (.Compare a [op, op'] [b, c] pos) (mChain g g' ma mb mc) := by
  refine ⟨fun W tk => ⟨fun pins s σ H Q I h => ?_⟩⟩
  obtain ⟨u, r, μ, h1, h2, h3⟩ := h
  have h3' : PostE X.K X.mg u H σ W Q ((ma r μ).bind fun x μ1 => (mb r μ1).bind fun y μ2 => (g x y μ2).bind fun z μ3 => match z with | .bl true => (mc r μ3).bind fun w μ4 => g' y w μ4 | .bl false => .ok (.bl false) μ3 | _ => .stuck) := h3
  refine Compare_chain (thn ((ha.run W tk).run pins s σ H _ I ⟨u, r, μ, h1, h2, PostE.bindE h3'⟩) fun v s1 ⟨x, H1, I1, r1, u1, μ1, dx, g1, e1, k1, p1, _, q1⟩ => chain_link ?_) hm
  have q1' : PostE X.K X.mg u1 H1 σ W Q ((mb r μ1).bind fun y μ2 => (g dx y μ2).bind fun z μ3 => match z with | .bl true => (mc r μ3).bind fun w μ4 => g' y w μ4 | .bl false => .ok (.bl false) μ3 | _ => .stuck) := q1
  refine thn ((hb.run W tk).run pins s1 σ H1 _ I1 ⟨u1, r, μ1, k1, h2.mono g1 e1, PostE.bindE q1'⟩) fun w s2 ⟨y, H2, I2, r2, u2, μ2, dy, g2, e2, k2, p2, _, q2⟩ => ?_
  have q2' : PostE X.K X.mg u2 H2 σ W Q ((g dx dy μ2).bind fun z μ3 => match z with | .bl true => (mc r μ3).bind fun w μ4 => g' dy w μ4 | .bl false => .ok (.bl false) μ3 | _ => .stuck) := q2
  refine thn (ho W pins s2 σ H2 x y v w _ u2 dx dy μ2 tk I2 r1 r2 k2 (Rep.mono g2 e2 dx p1) p2 (PostE.bindE q2')) fun d s3 ⟨z, H3, I3, r3, u3, μ3, dz, g3, e3, k3, p3, _, q3⟩ => ?_
  cases dz with
  | bl k =>
    cases (show z = .bl k from p3)
    cases r3
    refine wpAny_truthy_bool ?_
    cases k with
    | false => exact ite_ff ⟨.bl false, H3, I3, rfl, q3 u3 H3 _ (Grow.refl _) (Ext.refl _) k3 rfl⟩
    | true =>
      have q3' : PostE X.K X.mg u3 H3 σ W Q ((mc r μ3).bind fun w μ4 => g' dy w μ4) := q3
      refine ite_tt (chain_last (thn ((hc.run W tk).run pins s3 σ H3 _ I3 ⟨u3, r, μ3, k3, ((h2.mono g1 e1).mono g2 e2).mono g3 e3, PostE.bindE q3'⟩) fun w' s4 ⟨z', H4, I4, r4, u4, μ4, dw, g4, e4, k4, p4, _, q4⟩ => ?_))
      exact ho' W pins s4 σ H4 y z' w w' Q u4 dy dw μ4 tk I4 r2 r4 k4 (Rep.mono (g3.trans g4) (e3.trans e4) dy p2) p4 q4
  | _ => exact q3.elim
end
/-! ### slices -/
def cutD (ds : List D) (lo hi : Option Int) : List D := (ds.drop (HT.sIx ds.length 0 lo)).take (HT.sIx ds.length ds.length hi - HT.sIx ds.length 0 lo)
/-- the part of a text, a tuple, a list -/
def gCut (x : D) (lo hi : Option Int) (m : Mem) : Res D := match tupOf x with
  | some ds => if HT.sIx ds.length 0 lo = 0 ∧ HT.sIx ds.length ds.length hi = ds.length then .ok x m else .ok (.tup (cutD ds lo hi)) m
  | none => match lstOf m x with
    | some ds => .ok (.obj m.length) (m ++ [.lst (cutD ds lo hi)])
    | none => match x with
      | .str z => if z.length ≤ sizeLine then .ok (.str (cutS z lo hi)) m else .stuck
      | _ => .stuck
theorem RepL.take {K : PySem.W.Frag} {u : List Addr} {H : Hp} : ∀ {ds : List D} {xs : List V} (n : Nat), RepL K u H ds xs → RepL K u H (ds.take n) (xs.take n)
  | _, _, 0, _ => by simp only [List.take_zero]; rfl
  | [], xs, n + 1, h => by rw [show xs = [] from h]; rfl
  | d :: ds, xs, n + 1, ⟨x, r, e, h1, h2⟩ => by rw [e]; exact ⟨x, r.take n, rfl, h1, RepL.take n h2⟩
theorem RepL.drop {K : PySem.W.Frag} {u : List Addr} {H : Hp} : ∀ {ds : List D} {xs : List V} (n : Nat), RepL K u H ds xs → RepL K u H (ds.drop n) (xs.drop n)
  | _, _, 0, h => h
  | [], xs, n + 1, h => by rw [show xs = [] from h]; rfl
  | d :: ds, xs, n + 1, ⟨x, r, e, h1, h2⟩ => by rw [e]; exact RepL.drop n h2
theorem cut_rep {K : PySem.W.Frag} {u : List Addr} {H : Hp} {ds : List D} {xs : List V} {lo hi : Option Int} (h : RepL K u H ds xs) : RepL K u H (cutD ds lo hi) (cutV xs lo hi) := by
  unfold cutD cutV
  rw [h.length]
  exact (h.drop _).take _
theorem slr {X : Cx} {pins : List (Addr × Obj)} {s : Shared} {σ : L2.St} {H : Hp} {x : V} {v vl vu : Value} {lo hi : Option Int} {sl : Addr} {Q : VK} {W : WX} {u : List Addr} {d : D} {m : Mem} (I : Inv X pins σ H s) (rx : RelV x v) (hs : s.heap.IsSliceOf sl vl vu .none) (pl : IsPart vl lo) (pu : IsPart vu hi) (k : HRep X.K u H m) (p : Rep X.K u H d x)
    (q : PostE X.K X.mg u H σ W Q (gCut d lo hi m)) : ∃ T id, typeLookup (.type T) "__getitem__" = pure (some (.builtin id)) ∧ s.TypeIs v T ∧ wpAny (model X.prog X.w) X.A (getItem v (.ref sl)) (EP X pins σ Q) X.xe s := by
  unfold gCut at q
  cases e : tupOf d with
  | some ds =>
    rw [e] at q
    simp only at q
    obtain ⟨a, xs, rfl, h1, h2⟩ := tupOf_v e p
    have hl := h2.length
    refine sl_tupA pins s σ H _ v vl vu lo hi sl Q I rx hs pl pu ⟨a, xs, rfl, h1, fun c => ?_, fun c a' hp => ?_⟩
    · rw [hl] at c
      rw [if_pos c] at q
      exact q.now k p
    · rw [hl] at c
      rw [if_neg c] at q
      exact q u _ _ (Grow.refl _) (Ext.new hp) (k.new hp) ⟨a', _, rfl, upd_same, RepL.mono (Grow.refl _) (Ext.new hp) _ (cut_rep h2)⟩
  | none =>
    rw [e] at q
    simp only at q
    cases e2 : lstOf m d with
    | some ds =>
      rw [e2] at q
      simp only at q
      obtain ⟨a, xs, rfl, h1, h2⟩ := lstOf_v k e2 p
      exact sl_list pins s σ H _ v vl vu lo hi sl Q I rx hs pl pu ⟨a, xs, rfl, h1, fun a' hp => post_lst q k (cut_rep h2) hp⟩
    | none =>
      rw [e2] at q
      cases d with
      | str z =>
        simp only at q
        by_cases hz : z.length ≤ sizeLine
        · rw [if_pos hz] at q
          exact sl_str pins s σ H _ v vl vu lo hi sl Q I rx hs pl pu ⟨z, p, hz, q.now k rfl⟩
        · rw [if_neg hz] at q
          exact q.elim
      | _ => exact q.elim
/-- a bound of a slice -/
abbrev BM := Slots → Mem → Res (Option Int)
def bNone : BM := fun _ μ => .ok none μ
def bOf (m : EM) : BM := fun r μ => (m r μ).bind fun d μ1 => match d with
  | .int i => .ok (some i) μ1
  | _ => .stuck
/-- a bound -/
def PostB' (K : PySem.W.Frag) (mg : Str → Option Value) (u : List Addr) (H : Hp) (σ : L2.St) (W : WX) (Q : Option Int → Hp → Prop) : Res (Option Int) → Prop
  | .ok b m => ∀ u' H', Grow u u' → Ext H H' → HRep K u' H' m → Q b H'
  | .exc c p m => ∀ u' H' cls dd, Grow u u' → Ext H H' → HRep K u' H' m → XRep K mg u' H' c p cls dd → W cls dd σ H'
  | .stuck => False
structure MB (X : Cx) (e : Option Expr) (b : BM) : Prop where
  run : ∀ W, Takes X W → PO X e (fun σ H Q => ∃ u r μ, HRep X.K u H μ ∧ ERep X.K u H r σ ∧ PostB' X.K X.mg u H σ W Q (b r μ))
theorem mb_none {X : Cx} : MB X none bNone := ⟨fun W tk => ⟨fun pins s σ H Q I ⟨u, r, μ, h1, h2, h3⟩ => (po_none (X := X)).run pins s σ H Q I (h3 u H (Grow.refl _) (Ext.refl _) h1)⟩⟩
theorem mb_some {X : Cx} {e : Expr} {m : EM} (h : ME X e m) : MB X (some e) (bOf m) := by
  refine ⟨fun W tk => ⟨fun pins s σ H Q I ⟨u, r, μ, h1, h2, h3⟩ => (po_some (h.run W tk)).run pins s σ H Q I ⟨u, r, μ, h1, h2, ?_⟩⟩⟩
  unfold bOf at h3
  cases e : m r μ with
  | stuck => rw [e] at h3; exact h3
  | exc c p m => rw [e] at h3; exact h3
  | ok d m1 =>
    rw [e, Res.bind_ok] at h3
    intro u' H' v a b c q
    cases d with
    | int i => exact ⟨i, q, h3 u' H' a b c⟩
    | _ => exact h3.elim
def mCut (mx : EM) (lo hi : BM) : EM := fun r μ => (mx r μ).bind fun x μ1 => (lo r μ1).bind fun l μ2 => (hi r μ2).bind fun h μ3 => gCut x l h μ3
theorem bindB' {K : PySem.W.Frag} {mg : Str → Option Value} {u : List Addr} {H : Hp} {σ : L2.St} {W : WX} {Q : VK} {x : Res (Option Int)} {f : Option Int → Mem → Res D} (h : PostE K mg u H σ W Q (x.bind f)) :
    PostB' K mg u H σ W (fun b H1 => ∃ u1 m1, Grow u u1 ∧ Ext H H1 ∧ HRep K u1 H1 m1 ∧ PostE K mg u1 H1 σ W Q (f b m1)) x := by
  cases x with
  | ok b m => exact fun u' H' a c d => ⟨u', m, a, c, d, PostE.later a c h⟩
  | exc c p m => exact h
  | stuck => exact h
theorem me_cut {X : Cx} {e : Expr} {lo hi : Option Expr} {mx : EM} {bl bh : BM} {p2 pos : Pos} (he : ME X e mx) (hl : MB X lo bl) (hh : MB X hi bh) : ME X (.Subscript e (.Slice lo hi none p2) pos) (mCut mx bl bh) := by
  refine ⟨fun W tk => ⟨fun pins s σ H Q I h => ?_⟩⟩
  obtain ⟨u, r, μ, h1, h2, h3⟩ := h
  have h3' : PostE X.K X.mg u H σ W Q ((mx r μ).bind fun x μ1 => (bl r μ1).bind fun l μ2 => (bh r μ2).bind fun h μ3 => gCut x l h μ3) := h3
  refine Subscript_ (thn ((he.run W tk).run pins s σ H _ I ⟨u, r, μ, h1, h2, PostE.bindE h3'⟩) fun v s1 ⟨x, H1, I1, r1, u1, μ1, dx, g1, e1, k1, p1, _, q1⟩ => ?_)
  have q1' : PostE X.K X.mg u1 H1 σ W Q ((bl r μ1).bind fun l μ2 => (bh r μ2).bind fun h μ3 => gCut dx l h μ3) := q1
  refine wpAny_Slice (thn ((hl.run W tk).run pins s1 σ H1 _ I1 ⟨u1, r, μ1, k1, h2.mono g1 e1, bindB' q1'⟩) fun vl s2 ⟨l, H2, I2, pl, u2, μ2, g2, e2, k2, q2⟩ => ?_)
  have q2' : PostE X.K X.mg u2 H2 σ W Q ((bh r μ2).bind fun h μ3 => gCut dx l h μ3) := q2
  refine thn ((hh.run W tk).run pins s2 σ H2 _ I2 ⟨u2, r, μ2, k2, (h2.mono g1 e1).mono g2 e2, bindB' q2'⟩) fun vu s3 ⟨hb, H3, I3, pu, u3, μ3, g3, e3, k3, q3⟩ => ?_
  rw [evalPart_none]
  refine wpAny_pure ?_
  have I4 : Inv X pins σ H3 { s3 with heap := s3.heap.push { cls := .type "slice", data := .fields #[vl, vu, .none] } } := I3.kept (t' := s3.toks) fun b ob q => Heap.get?_push_of_some _ q
  obtain ⟨T, id, hT, ht, hg⟩ := slr (s := { s3 with heap := s3.heap.push { cls := .type "slice", data := .fields #[vl, vu, .none] } }) (sl := s3.heap.objs.size) I4 r1 (Heap.IsSliceOf.new ..) pl pu k3 (Rep.mono (g2.trans g3) (e2.trans e3) dx p1) q3
  show wpAny (model X.prog X.w) X.A (subscriptTail e (.Slice lo hi none p2) v (.ref s3.heap.objs.size)) (EP X pins σ Q) X.xe { s3 with heap := s3.heap.push { cls := .type "slice", data := .fields #[vl, vu, .none] } }
  exact tail_any (ops := [.ref s3.heap.objs.size, v]) ht hT hg (by with_unfolding_all rfl)
end T
end
section
set_option Elab.async false
set_option linter.all false
set_option maxRecDepth 100000
/-! T20: more rules; what the head is asked. -/
namespace T
open PySem PySem.Spec PyProof.Rows L2
section
variable {X : Cx} {a b c : Expr} {ma mb mc : EM} {pos : Pos} {op op' : CmpOp} {g g' : D → D → Mem → Res D}
theorem mt_chain (ho : OpM X (compareOp op) g) (ho' : OpM X (compareOp op') g') (ha : ME X a ma) (hb : ME X b mb) (hc : ME X c mc)
    (hm : lastMarks [op, op'] [b, c] = false := by with_unfolding_all rfl) : MT X (.Compare a [op, op'] [b, c] pos) (tOf (mChain g g' ma mb mc)) := by
  refine ⟨fun W tk => ⟨fun pins s σ H Q I h => ?_⟩⟩
  obtain ⟨u, r, μ, h1, h2, h3⟩ := h
  have h3' : PostB X.K X.mg u H σ W Q ((mChain g g' ma mb mc r μ).bind asB) := h3
  have z := PostE.bindB h3'
  -- the value that it is to come to
  have h4 : PostE X.K X.mg u H σ W (fun x H' => ∃ k, x = V.bl k ∧ Q k H') (mChain g g' ma mb mc r μ) := by
    cases e : mChain g g' ma mb mc r μ with
    | stuck => rw [e] at z; exact z
    | exc c p m => rw [e] at z; exact z
    | ok d m =>
      rw [e] at z
      intro u' H' v a b c q
      obtain ⟨u1, μ1, d1, g1, e1, k1, p1, eq, q1⟩ := z u' H' v a b c q
      cases eq
      cases d with
      | bl k => exact ⟨k, q, q1 u1 H' (Grow.refl _) (Ext.refl _) k1⟩
      | _ => exact q1.elim
  have h3' : PostE X.K X.mg u H σ W (fun x H' => ∃ k, x = V.bl k ∧ Q k H') ((ma r μ).bind fun x μ1 => (mb r μ1).bind fun y μ2 => (g x y μ2).bind fun z μ3 => match z with | .bl true => (mc r μ3).bind fun w μ4 => g' y w μ4 | .bl false => .ok (.bl false) μ3 | _ => .stuck) := h4
  refine isTrue_chain (thn ((ha.run W tk).run pins s σ H _ I ⟨u, r, μ, h1, h2, PostE.bindE h3'⟩) fun v s1 ⟨x, H1, I1, r1, u1, μ1, dx, g1, e1, k1, p1, _, q1⟩ => test_link ?_) hm
  have q1' : PostE X.K X.mg u1 H1 σ W (fun x H' => ∃ k, x = V.bl k ∧ Q k H') ((mb r μ1).bind fun y μ2 => (g dx y μ2).bind fun z μ3 => match z with | .bl true => (mc r μ3).bind fun w μ4 => g' y w μ4 | .bl false => .ok (.bl false) μ3 | _ => .stuck) := q1
  refine thn ((hb.run W tk).run pins s1 σ H1 _ I1 ⟨u1, r, μ1, k1, h2.mono g1 e1, PostE.bindE q1'⟩) fun w s2 ⟨y, H2, I2, r2, u2, μ2, dy, g2, e2, k2, p2, _, q2⟩ => ?_
  have q2' : PostE X.K X.mg u2 H2 σ W (fun x H' => ∃ k, x = V.bl k ∧ Q k H') ((g dx dy μ2).bind fun z μ3 => match z with | .bl true => (mc r μ3).bind fun w μ4 => g' dy w μ4 | .bl false => .ok (.bl false) μ3 | _ => .stuck) := q2
  refine thn (ho W pins s2 σ H2 x y v w _ u2 dx dy μ2 tk I2 r1 r2 k2 (Rep.mono g2 e2 dx p1) p2 (PostE.bindE q2')) fun d s3 ⟨z, H3, I3, r3, u3, μ3, dz, g3, e3, k3, p3, _, q3⟩ => ?_
  cases dz with
  | bl k =>
    cases (show z = .bl k from p3)
    cases r3
    refine wpAny_truthy_bool ?_
    cases k with
    | false =>
      obtain ⟨k', e', q'⟩ := q3 u3 H3 (.bl false) (Grow.refl _) (Ext.refl _) k3 rfl
      cases e'
      exact ite_ff ⟨H3, I3, q'⟩
    | true =>
      have q3' : PostE X.K X.mg u3 H3 σ W (fun x H' => ∃ k, x = V.bl k ∧ Q k H') ((mc r μ3).bind fun w μ4 => g' dy w μ4) := q3
      refine ite_tt (test_last (thn ((hc.run W tk).run pins s3 σ H3 _ I3 ⟨u3, r, μ3, k3, ((h2.mono g1 e1).mono g2 e2).mono g3 e3, PostE.bindE q3'⟩) fun w' s4 ⟨z', H4, I4, r4, u4, μ4, dw, g4, e4, k4, p4, _, q4⟩ => ?_))
      refine thn (ho' W pins s4 σ H4 y z' w w' _ u4 dy dw μ4 tk I4 r2 r4 k4 (Rep.mono (g3.trans g4) (e3.trans e4) dy p2) p4 q4) fun d' s5 ⟨z2, H5, I5, r5, k2, e2, q5⟩ => ?_
      subst e2
      cases r5
      exact wpAny_truthy_bool ⟨H5, I5, q5⟩
  | _ => exact q3.elim
end
/-! ### dict displays -/
def mDct0 : EM := fun _ μ => .ok (.obj μ.length) (μ ++ [.dct []])
theorem me_dct0 {X : Cx} {pos : Pos} : ME X (.Dict [] [] pos) mDct0 := by
  refine ⟨fun W tk => PE.weak pe_dnewK fun σ H Q ⟨u, r, μ, h1, h2, h3⟩ => fun p hp => ?_⟩
  have h3' : PostE X.K X.mg u H σ W Q (.ok (.obj μ.length) (μ ++ [.dct []])) := h3
  refine h3' (u ++ [p]) _ (.ref p) ⟨[p], rfl⟩ (Ext.new hp) (h1.push hp ⟨_, upd_same, rfl⟩) ⟨p, rfl, ?_⟩
  rw [← h1.len, List.getElem?_append_right (Nat.le_refl _)]
  simp
/-- the pairs of a display, from the left -/
abbrev PM := Slots → Mem → Res (List (D × D))
def pNil : PM := fun _ μ => .ok [] μ
def pCons (mk mv : EM) (ps : PM) : PM := fun r μ => (mk r μ).bind fun k μ1 => (mv r μ1).bind fun v μ2 => (ps r μ2).bind fun l μ3 => .ok ((k, v) :: l) μ3
inductive Rep2 (K : PySem.W.Frag) (u : List Addr) (H : Hp) : List (D × D) → List (V × V) → Prop
  | nil : Rep2 K u H [] []
  | cons {p : D × D} {q : V × V} {ps : List (D × D)} {qs : List (V × V)} (h1 : Rep K u H p.1 q.1) (h2 : Rep K u H p.2 q.2) (h3 : Rep2 K u H ps qs) : Rep2 K u H (p :: ps) (q :: qs)
theorem Rep2.mono {K : PySem.W.Frag} {u u' : List Addr} {H H' : Hp} (g : Grow u u') (e : Ext H H') {ps : List (D × D)} {qs : List (V × V)} (h : Rep2 K u H ps qs) : Rep2 K u' H' ps qs := by
  induction h with
  | nil => exact .nil
  | cons h1 h2 h3 ih => exact .cons (Rep.mono g e _ h1) (Rep.mono g e _ h2) ih
def PostP (K : PySem.W.Frag) (mg : Str → Option Value) (u : List Addr) (H : Hp) (σ : L2.St) (W : WX) (Q : List (V × V) → Hp → Prop) : Res (List (D × D)) → Prop
  | .ok ps m => ∀ u' H' qs, Grow u u' → Ext H H' → HRep K u' H' m → Rep2 K u' H' ps qs → Q qs H'
  | .exc c p m => ∀ u' H' cls dd, Grow u u' → Ext H H' → HRep K u' H' m → XRep K mg u' H' c p cls dd → W cls dd σ H'
  | .stuck => False
theorem PostP.later {K : PySem.W.Frag} {mg : Str → Option Value} {u u1 : List Addr} {H H1 : Hp} {σ : L2.St} {W : WX} {Q : List (V × V) → Hp → Prop} {x : Res (List (D × D))} (g : Grow u u1) (e : Ext H H1) (h : PostP K mg u H σ W Q x) : PostP K mg u1 H1 σ W Q x := by
  cases x with
  | ok d m => exact fun u' H' v a b c q => h u' H' v (g.trans a) (e.trans b) c q
  | exc c p m => exact fun u' H' cls dd a b c q => h u' H' cls dd (g.trans a) (e.trans b) c q
  | stuck => exact h
structure MP (X : Cx) (pos : Pos) (keys : List (Option Expr)) (values : List Expr) (ps : PM) : Prop where
  run : ∀ (W : WX), Takes X W → ∀ (pins : List (Addr × Obj)) (s : Shared) (σ : L2.St) (H : Hp) (Q : List (V × V) → Hp → Prop), Inv X pins σ H s → (∃ u r μ, HRep X.K u H μ ∧ ERep X.K u H r σ ∧ PostP X.K X.mg u H σ W Q (ps r μ)) →
    wpAny (model X.prog X.w) X.A (evalPairs (pairTrees keys values X.env pos)) (fun vs s' => ∃ qs H', Inv X pins σ H' s' ∧ VV qs vs ∧ Q qs H') X.xe s
theorem mp_nil {X : Cx} {pos : Pos} : MP X pos [] [] pNil := ⟨fun W tk pins s σ H Q I ⟨u, r, μ, h1, h2, h3⟩ => pairTrees_nil_walk ⟨[], H, I, .nil, h3 u H [] (Grow.refl _) (Ext.refl _) h1 .nil⟩⟩
theorem mp_cons {X : Cx} {pos : Pos} {k v : Expr} {ks : List (Option Expr)} {vs : List Expr} {mk mv : EM} {ps : PM} (hk : ME X k mk) (hv : ME X v mv) (hr : MP X pos ks vs ps) : MP X pos (some k :: ks) (v :: vs) (pCons mk mv ps) := by
  refine ⟨fun W tk pins s σ H Q I ⟨u, r, μ, h1, h2, h3⟩ => ?_⟩
  have h3' : PostP X.K X.mg u H σ W Q ((mk r μ).bind fun k μ1 => (mv r μ1).bind fun v μ2 => (ps r μ2).bind fun l μ3 => .ok ((k, v) :: l) μ3) := h3
  have b1 : PostE X.K X.mg u H σ W (fun v H1 => ∃ u1 m1 d, Grow u u1 ∧ Ext H H1 ∧ HRep X.K u1 H1 m1 ∧ Rep X.K u1 H1 d v ∧ PostP X.K X.mg u1 H1 σ W Q ((mv r m1).bind fun v μ2 => (ps r μ2).bind fun l μ3 => .ok ((d, v) :: l) μ3)) (mk r μ) := by
    cases e : mk r μ with
    | stuck => rw [e] at h3'; exact h3'
    | exc c p m => rw [e] at h3'; exact h3'
    | ok d m => rw [e] at h3'; exact fun u' H' v a b c q => ⟨u', m, d, a, b, c, q, PostP.later a b h3'⟩
  refine pairTrees_cons_walk (thn ((hk.run W tk).run pins s σ H _ I ⟨u, r, μ, h1, h2, b1⟩) fun kv s1 ⟨x, H1, I1, rx, u1, m1, dk, g1, e1, k1, p1, q1⟩ => ?_)
  have b2 : PostE X.K X.mg u1 H1 σ W (fun v H2 => ∃ u2 m2 d, Grow u1 u2 ∧ Ext H1 H2 ∧ HRep X.K u2 H2 m2 ∧ Rep X.K u2 H2 d v ∧ PostP X.K X.mg u2 H2 σ W Q ((ps r m2).bind fun l μ3 => .ok ((dk, d) :: l) μ3)) (mv r m1) := by
    cases e : mv r m1 with
    | stuck => rw [e] at q1; exact q1
    | exc c p m => rw [e] at q1; exact q1
    | ok d m => rw [e] at q1; exact fun u' H' v a b c q => ⟨u', m, d, a, b, c, q, PostP.later a b q1⟩
  refine thn ((hv.run W tk).run pins s1 σ H1 _ I1 ⟨u1, r, m1, k1, h2.mono g1 e1, b2⟩) fun vv s2 ⟨y, H2, I2, ry, u2, m2, dv, g2, e2, k2, p2, q2⟩ => ?_
  have b3 : PostP X.K X.mg u2 H2 σ W (fun qs H3 => Q ((x, y) :: qs) H3) (ps r m2) := by
    cases e : ps r m2 with
    | stuck => rw [e] at q2; exact q2
    | exc c p m => rw [e] at q2; exact q2
    | ok l m =>
      rw [e] at q2
      exact fun u' H' qs a b c q => q2 u' H' ((x, y) :: qs) a b c (.cons (Rep.mono (g2.trans a) (e2.trans b) dk p1) (Rep.mono a b dv p2) q)
  exact thn (hr.run W tk pins s2 σ H2 _ I2 ⟨u2, r, m2, k2, (h2.mono g1 e1).mono g2 e2, b3⟩) fun ws s3 ⟨qs, H3, I3, rel, q3⟩ => ⟨(x, y) :: qs, H3, I3, .cons ⟨rx, ry⟩ rel, q3⟩
def keysOk (ps : List (D × D)) : Bool := ps.all fun p => (keyD p.1).isSome
def mDisp (ps : PM) : EM := fun r μ => (ps r (μ ++ [.dct []])).bind fun l μ1 => match μ1[μ.length]? with
  | some (.dct []) => if keysOk l && decide (l.length ≤ 15) then .ok (.obj μ.length) (μ1.set μ.length (.dct (l.foldl (fun acc p => dput acc p.1 p.2) []))) else .stuck
  | _ => .stuck
theorem keys_kv {K : PySem.W.Frag} {u : List Addr} {H : Hp} : ∀ {l : List (D × D)} {qs : List (V × V)}, Rep2 K u H l qs → keysOk l = true → ∃ kvs : List (Key × V), qs = kvs.map (fun kv => (kV kv.1, kv.2)) ∧ PairK K u H l kvs
  | [], _, .nil, _ => ⟨[], rfl, rfl⟩
  | p :: ps, _, .cons (q := q) (qs := qs) h1 h2 h3, hk => by
    have hk : ((keyD p.1).isSome && keysOk ps) = true := hk
    rw [Bool.and_eq_true] at hk
    obtain ⟨k, ek⟩ := Option.isSome_iff_exists.mp hk.1
    obtain ⟨kvs, e1, e2⟩ := keys_kv h3 hk.2
    have ev := keyD_v ek h1
    refine ⟨(k, q.2) :: kvs, ?_, k, q.2, kvs, rfl, ek, h2, e2⟩
    rw [List.map_cons, ← e1, ← ev]
theorem merge_rep {K : PySem.W.Frag} {u : List Addr} {H : Hp} : ∀ {l : List (D × D)} {kvs acc' : List (Key × V)} {acc : List (D × D)}, PairK K u H l kvs → PairK K u H acc acc' → PairK K u H (l.foldl (fun acc p => dput acc p.1 p.2) acc) (mergeK acc' kvs)
  | [], kvs, acc', acc, h, h' => by rw [show kvs = [] from h]; exact h'
  | p :: ps, kvs, acc', acc, ⟨k, v, r, e, h1, h2, h3⟩, h' => by
    rw [e]
    show PairK K u H (ps.foldl (fun acc p => dput acc p.1 p.2) (dput acc p.1 p.2)) (mergeK (putK acc' k v) r)
    exact merge_rep h3 (h'.put h1 h2)
theorem Rep2.len {K : PySem.W.Frag} {u : List Addr} {H : Hp} {l : List (D × D)} {qs : List (V × V)} (h : Rep2 K u H l qs) : qs.length = l.length := by
  induction h with
  | nil => rfl
  | cons _ _ _ ih => rw [List.length_cons, List.length_cons, ih]
theorem me_disp {X : Cx} {pos : Pos} {keys : List (Option Expr)} {values : List Expr} {ps : PM} (h : MP X pos keys values ps) (hall : keys.all (·.isSome) = true) (hl : keys.length = values.length) (h0 : keys ≠ []) (h15 : keys.length ≤ 15) : ME X (.Dict keys values pos) (mDisp ps) := by
  refine ⟨fun W tk => ⟨fun pins s σ H Q I ⟨u, r, μ, h1, h2, h3⟩ => ?_⟩⟩
  have h3' : PostE X.K X.mg u H σ W Q ((ps r (μ ++ [.dct []])).bind fun l μ1 => match μ1[μ.length]? with | some (.dct []) => if keysOk l && decide (l.length ≤ 15) then .ok (.obj μ.length) (μ1.set μ.length (.dct (l.foldl (fun acc p => dput acc p.1 p.2) []))) else .stuck | _ => .stuck) := h3
  have hn := I.hok.fresh (Nat.le_refl s.heap.objs.size)
  have I1 := I.laid (a := s.heap.objs.size) (o := .dK []) (h' := s.heap.push { cls := .type "dict", data := .dict #[] }) (t' := s.toks) (fun _ _ q => Heap.get?_push_of_some _ q) (Nat.le_refl _) (dk_empty s.heap I.big)
  have ex := Ext.new (o := .dK []) hn
  have hg : Grow u (u ++ [s.heap.objs.size]) := ⟨[s.heap.objs.size], rfl⟩
  have k1 : HRep X.K (u ++ [s.heap.objs.size]) (upd H s.heap.objs.size (.dK [])) (μ ++ [.dct []]) := h1.push hn ⟨_, upd_same, rfl⟩
  have hk0 : (u ++ [s.heap.objs.size])[μ.length]? = some s.heap.objs.size := by
    rw [← h1.len, List.getElem?_append_right (Nat.le_refl _)]
    simp
  have b : PostP X.K X.mg (u ++ [s.heap.objs.size]) (upd H s.heap.objs.size (.dK [])) σ W (fun qs H2 => ∃ u2 m2 l, Grow (u ++ [s.heap.objs.size]) u2 ∧ Ext (upd H s.heap.objs.size (.dK [])) H2 ∧ HRep X.K u2 H2 m2 ∧ Rep2 X.K u2 H2 l qs ∧
      PostE X.K X.mg u2 H2 σ W Q (match m2[μ.length]? with | some (.dct []) => if keysOk l && decide (l.length ≤ 15) then .ok (.obj μ.length) (m2.set μ.length (.dct (l.foldl (fun acc p => dput acc p.1 p.2) []))) else .stuck | _ => .stuck)) (ps r (μ ++ [.dct []])) := by
    cases e : ps r (μ ++ [.dct []]) with
    | stuck => rw [e] at h3'; exact h3'
    | exc c p m => rw [e] at h3'; exact fun u' H' cls dd a b c q => h3' u' H' cls dd (hg.trans a) (ex.trans b) c q
    | ok l m =>
      rw [e] at h3'
      exact fun u' H' qs a b c q => ⟨u', m, l, a, b, c, q, PostE.later (hg.trans a) (ex.trans b) h3'⟩
  refine wpAny_Dict_walk (knd := mixKind X.prog X.w) hall hl h0 h15 (thn (h.run W tk pins _ σ _ _ I1 ⟨_, r, _, k1, h2.mono hg ex, b⟩) fun ws s2 ⟨qs, H2, I2, rel, u2, m2, l, g2, e2, k2, r2, q2⟩ => ?_)
  have hu2 : u2[μ.length]? = some s.heap.objs.size := g2.get hk0
  split at q2
  · rename_i em
    by_cases hc : (keysOk l && decide (l.length ≤ 15)) = true
    · rw [if_pos hc] at q2
      rw [Bool.and_eq_true] at hc
      obtain ⟨kvs, eq, pk⟩ := keys_kv r2 hc.1
      have hlen : kvs.length ≤ 15 := by
        rw [PairK.len pk]
        exact of_decide_eq_true hc.2
      obtain ⟨o, ho, hd⟩ := k2.cell _ _ _ em hu2
      have fin : ∀ (H3 : Hp) (s3 : Shared), Inv X pins σ H3 s2 → H3 s.heap.objs.size = some (.dK []) → HRep X.K u2 H3 m2 → Ext H2 H3 → ∃ rs, Carries (mixKind X.prog X.w) ws rs ∧ s2.heap.DictOf (mixKind X.prog X.w) s.heap.objs.size [] ∧ ∀ h', h'.DictOf (mixKind X.prog X.w) s.heap.objs.size (merged [] rs) → Heap.SameBut s.heap.objs.size s2.heap h' →
          EP X pins σ Q (.ref s.heap.objs.size) { s2 with heap := h', toks := s2.toks + ws.length } := fun H3 _ I3 eD k3 e3 => by
        rw [eq] at rel
        obtain ⟨rs, c, rk⟩ := carries_of (P := X.prog) (w := X.w) rel
        obtain ⟨z, hd, vs0, r0, dd⟩ := dk_of I3.hok eD
        cases r0
        refine ⟨rs, c, dd, fun h' dd' hs => ⟨.ref s.heap.objs.size, upd H3 s.heap.objs.size (.dK (mergeK [] kvs)), ?_, rfl, ?_⟩⟩
        · have hz : (mergeK [] kvs).length ≤ sizeLine := by
            have h1 := length_mergeK kvs []
            rw [List.length_nil] at h1
            rw [sizeLine_eq]; omega
          have he : ∃ q, h'.get? s.heap.objs.size = some q := let ⟨q, _, _, hq, _⟩ := dd'; ⟨q, hq⟩
          exact d_write I3 (by rw [eD]; exact True.intro) hs he (dk_new hz hd (rk.merge .nil) dd')
        · have hx : Ext H3 (upd H3 s.heap.objs.size (.dK (mergeK [] kvs))) := ext_wr eD (fun _ z => nomatch z) (fun _ _ z => nomatch z) (fun _ z => nomatch z)
          have pk3 : PairK X.K u2 (upd H3 s.heap.objs.size (.dK (mergeK [] kvs))) (l.foldl (fun acc p => dput acc p.1 p.2) []) (mergeK [] kvs) := merge_rep (PairK.mono (Grow.refl _) (e3.trans hx) pk) (show PairK _ _ _ [] [] from rfl)
          exact q2 u2 _ _ (Grow.refl _) (e3.trans hx) (k3.write (c := .dct (l.foldl (fun acc p => dput acc p.1 p.2) [])) hx (fun b hb hne hm => Kept.put eD hne (fun _ z => nomatch z) (fun _ z => nomatch z)) hu2 ⟨_, upd_same, pk3⟩ (by rw [upd_same]; exact fun z => nomatch z)) ⟨_, rfl, hu2⟩
      cases o with
      | dK ys =>
        have ey : ys = [] := hd
        rw [ey] at ho
        exact fin H2 s2 I2 ho k2 (Ext.refl _)
      | dT ys =>
        have ey : ys = [] := hd
        rw [ey] at ho
        have hx : Ext H2 (upd H2 s.heap.objs.size (.dK [])) := ext_wr ho (fun _ z => nomatch z) (fun _ _ z => nomatch z) (fun _ z => nomatch z)
        have k3 := k2.write (c := .dct []) hx (fun b hb hne hm => Kept.put ho hne (fun _ z => nomatch z) (fun _ z => nomatch z)) hu2 ⟨_, upd_same, rfl⟩ (by rw [upd_same]; exact fun z => nomatch z)
        have em2 : m2.set μ.length (.dct []) = m2 := by
          obtain ⟨hl, q⟩ := List.getElem?_eq_some_iff.mp em
          rw [← q]
          exact List.set_getElem_self hl
        rw [em2] at k3
        exact fin _ s2 (relabK I2 ho) upd_same k3 hx
      | _ => exact hd.elim
    · rw [if_neg hc] at q2
      exact q2.elim
  · exact q2.elim
/-! ### what the module holds -/
structure GF (K : PySem.W.Frag) (mg : Str → Option Value) (frees glos : List Str) (nums : List (Str × Int)) (txts : List (Str × Str)) : Prop where
  free : ∀ x, x ∈ frees → mg x = none
  glo : ∀ x, x ∈ glos → mg x = some (.ref (He.ga K x))
  int : ∀ x i, (x, i) ∈ nums → ∃ t, mg x = some (.int i t)
  str : ∀ x z, (x, z) ∈ txts → ∃ t, mg x = some (.str z t)
end T
end
section
set_option Elab.async false
set_option linter.all false
set_option maxRecDepth 100000
set_option maxHeartbeats 2000000
/-! T21: isinstance; own classes with slots: facts, reading, storing, making, methods. -/
namespace T
open PySem PySem.Spec PyProof.Rows L2

/-- the slots of a class -/
def CN.slots : CN → List Str
  | .book => ["own_kinds", "own_rooms", "own_size", "own_tables"]
  | .desk => []
  | .shell => []
inductive Kd where
  | bt (t : BT) | ins (c : CN)
  deriving DecidableEq, Inhabited
def kindD (m : Mem) : D → Option Kd
  | .non => some (.bt .non)
  | .bl _ => some (.bt .bl)
  | .int _ => some (.bt .int)
  | .str _ => some (.bt .str)
  | .tup _ => some (.bt .tup)
  | .frt _ => some (.bt .tup)
  | .frl _ => some (.bt .lst)
  | .obj n => match m[n]? with
    | some (.lst _) => some (.bt .lst)
    | some (.lk (.lst _)) => some (.bt .lst)
    | some (.dct _) => some (.bt .dct)
    | some (.lk (.dct _)) => some (.bt .dct)
    | some (.ins c _) => some (.ins c)
    | _ => none
  | _ => none
/-- what the class at C must be for the rules -/
structure ClsF (K : PySem.W.Frag) (c : CN) : Prop where
  sc : SlX.SCls K (He.ga K c.name)
  si : SlX.SIsi K (He.ga K c.name)
  sl : ∀ (i : Nat) (f : Str), c.slots[i]? = some f → SlX.Slot1 K (He.ga K c.name) f (He.ma K (He.ga K c.name) f) i
  bt : ∀ t : BT, PySem.W.kitOne K (.type t.name) (.ref (He.ga K c.name)) = some false
  tb : ∀ t : BT, PySem.W.kitOne K (.ref (He.ga K c.name)) (.type t.name) = some false
  mkr : Mk K (He.ga K c.name) (He.ma K (He.ga K c.name) "__init__")
def Kd.val (K : PySem.W.Frag) : Kd → Value
  | .bt t => .type t.name
  | .ins c => .ref (He.ga K c.name)
theorem kit_self {K : PySem.W.Frag} {t : Value} (h : (t == t) = true) : PySem.W.kitOne K t t = some true := by
  unfold PySem.W.kitOne
  rw [if_pos h]
def subBT (t t' : BT) : Bool := t == t' || (t == .bl && t' == .int)
theorem kit_bt {K : PySem.W.Frag} (t t' : BT) : PySem.W.kitOne K (.type t.name) (.type t'.name) = some (subBT t t') := by
  refine kit_ty ?_
  cases t <;> cases t' <;> decide +kernel
section
variable {X : Cx} {pins : List (Addr × Obj)} {σ : L2.St} {H : Hp} {s : Shared} {u : List Addr} {m : Mem}
theorem kitD {cs : List CN} {CF : ∀ c : CN, c ∈ cs → ClsF X.K c} (I : Inv X pins σ H s) {v : Value} {x : V} {d : D} {kd : Kd} (rx : RelV x v) (k : HRep X.K u H m) (r : Rep X.K u H d x) (e : kindD m d = some kd) (hc : ∀ c, kd = .ins c → c ∈ cs) :
    ∃ P : Heap → Prop, PySem.W.KitX X.K v (kd.val X.K) P ∧ P s.heap ∧ v ≠ .builtin "__main__.__loader__#opaque" := by
  cases d with
  | non => cases e; exact kit_of I rx (.base (by rw [show x = V.non from r]; exact .non))
  | bl b => cases e; exact kit_of I rx (.base (by rw [show x = V.bl b from r]; exact .bl _))
  | int b => cases e; exact kit_of I rx (.base (by rw [show x = V.int b from r]; exact .int _))
  | str b => cases e; exact kit_of I rx (.base (by rw [show x = V.str b from r]; exact .str _))
  | tup ds =>
    cases e
    obtain ⟨a, xs, rfl, h, _⟩ := r
    exact kit_of I rx (.base (.tup h))
  | frt ds =>
    cases e
    obtain ⟨a, xs, rfl, ⟨o, its, n, h1, h2, _⟩, _⟩ := r
    exact kit_of I rx (.kTuple h1 h2)
  | frl ds =>
    cases e
    obtain ⟨a, xs, rfl, h, _⟩ := r
    rcases h with ⟨o, h⟩ | ⟨o, its, n, h1, h2, _⟩
    · exact kit_of I rx (.base (.frz h))
    · exact kit_of I rx (.kList h1 h2)
  | obj n =>
    have e : (match m[n]? with
      | some (.lst _) => some (Kd.bt .lst)
      | some (.lk (.lst _)) => some (.bt .lst)
      | some (.dct _) => some (.bt .dct)
      | some (.lk (.dct _)) => some (.bt .dct)
      | some (.ins c _) => some (.ins c)
      | _ => none) = some kd := e
    have rr := r
    obtain ⟨a, rfl, hu⟩ := r
    cases rx
    split at e
    · rename_i ds em
      cases e
      obtain ⟨o, h1, h2⟩ := k.cell _ _ a em hu
      cases o with
      | lst xs => exact kit_of (x := .ref a) I rfl (.base (.lst h1))
      | _ => exact h2.elim
    · rename_i ds em
      cases e
      obtain ⟨ob, o, h1, h2⟩ := k.cell _ _ a em hu
      cases o with
      | lst xs => exact kit_of (x := .ref a) I rfl (.base (.frz h1))
      | _ => exact h2.elim
    · rename_i ds em
      cases e
      obtain ⟨o, h1, h2⟩ := k.cell _ _ a em hu
      cases o with
      | dK xs => exact kit_of (x := .ref a) I rfl (.base (.dK h1))
      | dT xs => exact kit_of (x := .ref a) I rfl (.base (.dT h1))
      | _ => exact h2.elim
    · rename_i kvs em
      cases e
      obtain ⟨⟨ob, e1, e2⟩, _⟩ := isBT_v (v := .ref a) (w := .ref a) (t := .dct) I rfl k rr (by show (dctAt m n).isSome = true; unfold dctAt; rw [em]; rfl)
      exact ⟨_, PySem.W.kitx_dict, ⟨ob, e1, e2⟩, fun z => nomatch z⟩
    · rename_i c vs em
      cases e
      obtain ⟨dx, xs, h1, _⟩ := k.cell _ _ a em hu
      obtain ⟨sl, od, _, J, _⟩ := SlX.slt_inst I h1
      have f := CF c (hc c rfl)
      exact ⟨_, OwX.kitx_slt f.sc.ic (f.sc.get _) f.si.ca f.si.cn f.si.ct f.si.cm, J, fun z => nomatch z⟩
    · cases e
  | _ => cases e
/-- isinstance -/
def gIsi (cs : List CN) : List D → Mem → Res D := fun ds m => match ds with
  | [x, .ty t] => match kindD m x with
    | some (.bt t') => .ok (.bl (subBT t' t)) m
    | some (.ins c) => if c ∈ cs then .ok (.bl false) m else .stuck
    | none => .stuck
  | [x, .cls c] => if c ∈ cs then match kindD m x with
    | some (.bt _) => .ok (.bl false) m
    | some (.ins c') => if c' = c then .ok (.bl true) m else .stuck
    | none => .stuck else .stuck
  | _ => .stuck
theorem cm_isi {cs : List CN} (CF : ∀ c : CN, c ∈ cs → ClsF X.K c) : CallM X (.builtin "isinstance") (gIsi cs) := by
  intro W pins s σ H xs vs Q u ds m tk I rv k pl q
  have go : ∀ (x c : D) (b : Bool) (kd : Kd) (cv : Value), ds = [x, c] → kindD m x = some kd → (∀ c, kd = .ins c → c ∈ cs) → (∀ w v, Rep X.K u H c w → RelV w v → v = cv) → PySem.W.kitOne X.K (kd.val X.K) cv = some b → PostE X.K X.mg u H σ W Q (.ok (.bl b) m) → wpAny (model X.prog X.w) X.A (call (.builtin "isinstance") vs) (EP X pins σ Q) X.xe s := by
    intro x c b kd cv e1 e2 hc e3 e4 q'
    subst e1
    obtain ⟨w1, w2, rfl, r1, r2⟩ := two_any pl
    obtain ⟨u1, u2, rfl, v1, v2⟩ := vals2 rv
    obtain rfl := e3 _ _ r2 v2
    obtain ⟨P, Z, p, hx⟩ := kitD (CF := CF) I v1 k r1 e2 hc
    exact PySem.W.kia_one Z I.kIn p e4 hx fun tk => ⟨.bl b, H, I.tok tk, rfl, q'.now k rfl⟩
  have ety : ∀ (t : BT) (w : V) (v : Value), Rep X.K u H (.ty t) w → RelV w v → v = .type t.name := fun t w v r rv => by
    cases (show w = .ty t.name from r)
    exact rv
  have ecl : ∀ (c : CN) (w : V) (v : Value), Rep X.K u H (.cls c) w → RelV w v → v = .ref (He.ga X.K c.name) := fun t w v r rv => by
    cases (show w = .ref _ from r)
    exact rv
  unfold gIsi at q
  split at q
  · rename_i x t
    split at q
    · rename_i t' ek
      exact go x (.ty t) _ _ _ rfl ek (fun _ z => nomatch z) (ety t) (kit_bt t' t) q
    · rename_i c ek
      split at q
      · rename_i hc
        exact go x (.ty t) _ _ _ rfl ek (fun c' z => by cases z; exact hc) (ety t) ((CF c hc).tb t) q
      · exact q.elim
    · exact q.elim
  · rename_i x c
    split at q
    · rename_i hc
      split at q
      · rename_i t' ek
        exact go x (.cls c) _ _ _ rfl ek (fun _ z => nomatch z) (ecl c) ((CF c hc).bt t') q
      · rename_i c' ek
        split at q
        · rename_i ec
          subst ec
          exact go x (.cls c') _ _ _ rfl ek (fun _ z => by cases z; exact hc) (ecl c') (kit_self (by simp)) q
        · exact q.elim
      · exact q.elim
    · exact q.elim
  · exact q.elim
end
/-! ### e.f -/
def gSlot (c : CN) (i : Nat) : D → Mem → Res D := fun x m => match x with
  | .obj n => match m[n]? with
    | some (.ins c' vs) => if c' = c then match vs[i]? with
      | some (some d) => .ok d m
      | _ => .stuck else .stuck
    | _ => .stuck
  | _ => .stuck
section
variable {X : Cx} {o e : Expr} {mo me : EM} {f : Str} {pos pos' : Pos} {c : CN} {i : Nat}
theorem ins_at {K : PySem.W.Frag} {u : List Addr} {H : Hp} {m : Mem} (k : HRep K u H m) {n : Nat} {c : CN} {vs : List (Option D)} {w : V} (e : m[n]? = some (.ins c vs)) (r : Rep K u H (.obj n) w) : ∃ a dx xs, w = .ref a ∧ u[n]? = some a ∧ SlX.Slt H a (He.ga K c.name) dx xs ∧ RepS K u H vs xs := by
  obtain ⟨a, rfl, hu⟩ := r
  obtain ⟨dx, xs, h1, h2⟩ := k.cell _ _ a e hu
  exact ⟨a, dx, xs, rfl, hu, h1, h2⟩
theorem me_slot (F : ClsF X.K c) (hf : c.slots[i]? = some f) (ho : ME X o mo) (hb : attributeBase o f X.env (eval o X.env) = eval o X.env := by rfl) : ME X (.Attribute o f pos) (m1 (gSlot c i) mo) := by
  refine ⟨fun W tk => PE.weak (SlX.pe_sl (ho.run W tk) hb) fun σ H Q h => ?_⟩
  obtain ⟨u, r, μ, h1, h2, h3⟩ := h
  have h3' : PostE X.K X.mg u H σ W Q ((mo r μ).bind (gSlot c i)) := h3
  refine ⟨u, r, μ, h1, h2, ?_⟩
  have z := PostE.bindE h3'
  cases e : mo r μ with
  | stuck => rw [e] at z; exact z
  | exc c p m => rw [e] at z; exact z
  | ok d m =>
    rw [e] at z
    intro u' H' v a b c2 q
    obtain ⟨u1, μ1, d1, g1, e1, k1, p1, eq, q1⟩ := z u' H' v a b c2 q
    cases eq
    have q1 : PostE X.K X.mg u1 H' σ W Q (gSlot c i d m) := q1
    cases d with
    | obj n =>
      unfold gSlot at q1
      cases em : m[n]? with
      | none => simp only [em] at q1; exact q1.elim
      | some cell =>
        cases cell with
        | ins c' vs =>
          by_cases ec : c' = c
          · subst ec
            cases ed : vs[i]? with
            | none => simp only [em, if_true, ed] at q1; exact q1.elim
            | some od =>
              cases od with
              | none => simp only [em, if_true, ed] at q1; exact q1.elim
              | some dd =>
                simp only [em, if_true, ed] at q1
                obtain ⟨a', dx, xs, rfl, hu, hs, rs⟩ := ins_at k1 em p1
                obtain ⟨v', ev, rv⟩ := rs i dd ed
                exact ⟨a', _, dx, _, xs, i, v', rfl, hs, F.sc, F.sl i f hf, ev, q1.now k1 rv⟩
          · simp only [em, if_neg ec] at q1
            exact q1.elim
        | _ => simp only [em] at q1; exact q1.elim
    | _ => exact q1.elim
/-! ### e.f = value -/
def putD (i : Nat) (d : D) (vs : List (Option D)) : List (Option D) := (vs ++ List.replicate (i + 1 - vs.length) none).set i (some d)
def sSlot (c : CN) (i : Nat) (mv mo : EM) : SM := fun r μ => match mv r μ with
  | .stuck => .stuck
  | .exc e p m => .exc e p r m
  | .ok d μ1 => match mo r μ1 with
    | .stuck => .stuck
    | .exc e p m => .exc e p r m
    | .ok x μ2 => match x with
      | .obj n => match μ2[n]? with
        | some (.ins c' vs) => if c' = c then .ok .next r (μ2.set n (.ins c (putD i d vs))) else .stuck
        | _ => .stuck
      | _ => .stuck
theorem putD_rep {K : PySem.W.Frag} {u : List Addr} {H : Hp} {vs : List (Option D)} {xs : List (Option V)} {d : D} {v : V} (h : RepS K u H vs xs) (i : Nat) (r : Rep K u H d v) : RepS K u H (putD i d vs) (SlX.putS i v xs) := by
  intro j e q
  unfold putD at q
  by_cases hj : j = i
  · subst hj
    rw [List.getElem?_set_self (by simp only [List.length_append, List.length_replicate]; omega)] at q
    cases q
    exact ⟨v, SlX.putS_get _ _ _, r⟩
  · rw [List.getElem?_set_ne (Ne.symm hj)] at q
    have q2 : vs[j]? = some (some e) := by
      by_cases hl : j < vs.length
      · rw [List.getElem?_append_left hl] at q
        exact q
      · rw [List.getElem?_append_right (by omega), List.getElem?_replicate] at q
        split at q <;> cases q
    obtain ⟨w, a, b⟩ := h j e q2
    exact ⟨w, (SlX.putS_ne hj).mpr a, b⟩

/-- no tracked cell is an instance's own dict -/
theorem HRep.not_own {K : PySem.W.Frag} {u : List Addr} {H : Hp} {m : Mem} (k : HRep K u H m) {b : Addr} (hb : b ∈ u) : (∀ y, H b ≠ some (.own y)) ∧ H b ≠ some (.xd []) := by
  obtain ⟨n, hn, e⟩ := List.mem_iff_getElem.mp hb
  have hm : n < m.length := by rw [← k.len]; exact hn
  have q := k.cell n m[n] b (List.getElem?_eq_getElem hm) (by rw [List.getElem?_eq_getElem hn, e])
  have key : ∀ o, H b = some o → (∀ y, o ≠ .own y) → o ≠ .xd [] → (∀ y, H b ≠ some (.own y)) ∧ H b ≠ some (.xd []) := fun o h h1 h2 =>
    ⟨fun y z => by rw [h] at z; exact h1 y (Option.some.inj z), fun z => by rw [h] at z; exact h2 (Option.some.inj z)⟩
  cases hc : m[n] with
  | lst ds =>
    rw [hc] at q
    obtain ⟨o, h1, h2⟩ := q
    cases o with
    | lst _ => exact key _ h1 (fun _ z => nomatch z) (fun z => nomatch z)
    | _ => exact h2.elim
  | dct ds =>
    rw [hc] at q
    obtain ⟨o, h1, h2⟩ := q
    cases o with
    | dK _ => exact key _ h1 (fun _ z => nomatch z) (fun z => nomatch z)
    | dT _ => exact key _ h1 (fun _ z => nomatch z) (fun z => nomatch z)
    | _ => exact h2.elim
  | lk c =>
    rw [hc] at q
    cases c with
    | lst ds => obtain ⟨ob, o, h1, _⟩ := q; exact key _ h1 (fun _ z => nomatch z) (fun z => nomatch z)
    | dct ds => obtain ⟨ob, o, h1, _⟩ := q; exact key _ h1 (fun _ z => nomatch z) (fun z => nomatch z)
    | _ => exact q.elim
  | ins c vs =>
    rw [hc] at q
    obtain ⟨dx, xs, h1, _⟩ := q
    rcases h1 with ⟨h1, _⟩ | ⟨h1, _⟩
    · exact key _ h1 (fun _ z => nomatch z) (fun z => nomatch z)
    · exact key _ h1 (fun _ z => by unfold SlX.SlO at z; cases z) (fun z => by unfold SlX.SlO at z; cases z)
  | tab P q' =>
    rw [hc] at q
    obtain ⟨rfl, ps, h1, _⟩ := q
    exact key _ h1 (fun _ z => nomatch z) (fun z => nomatch z)
theorem slt_dx {pins : List (Addr × Obj)} {σ : L2.St} {H : Hp} {s : Shared} (I : Inv X pins σ H s) {a C dx : Addr} {xs : List (Option V)} (h : SlX.Slt H a C dx xs) : H dx = some (.own a) ∨ H dx = some (.xd []) := by
  rcases h with ⟨h1, _⟩ | ⟨_, h2⟩
  · obtain ⟨_, _, _, _, _, ho⟩ := ins_get I.hok h1
    exact .inl ho
  · exact .inr h2
theorem slt_code {pins : List (Addr × Obj)} {σ : L2.St} {H : Hp} {s : Shared} (I : Inv X pins σ H s) {a C dx : Addr} {xs : List (Option V)} (h : SlX.Slt H a C dx xs) (q : Str) : H a ≠ some (LamX.CodeO a q) := fun z => by
  obtain ⟨_, sl, mA, e, _⟩ := SlX.slt_at I h
  obtain ⟨⟨oc, vs, t, e1, e2, _⟩, _⟩ := I.hok a _ z
  rw [e] at e1
  cases e1
  cases e2
theorem slt_ext {pins : List (Addr × Obj)} {σ : L2.St} {H : Hp} {s : Shared} (I : Inv X pins σ H s) {a C dx : Addr} {xs ys : List (Option V)} (h : SlX.Slt H a C dx xs) : Ext H (SlX.slH H a C dx ys) := by
  have hd := slt_dx I h
  have hc := slt_code I h
  have ha : ∃ o, H a = some o ∧ (∀ xs, o ≠ .tup xs) ∧ (∀ ob x, o ≠ .frz ob x) := by
    rcases h with ⟨h1, _⟩ | ⟨h1, _⟩
    · exact ⟨_, h1, (fun _ z => nomatch z), (fun _ _ z => nomatch z)⟩
    · exact ⟨_, h1, (fun _ z => by unfold SlX.SlO at z; cases z), (fun _ _ z => by unfold SlX.SlO at z; cases z)⟩
  obtain ⟨o, ho, h1, h2⟩ := ha
  have ne : ∀ b q, H b = some q → q ≠ o → (∀ y, q ≠ .own y) → q ≠ .xd [] → SlX.slH H a C dx ys b = some q := fun b q hb n1 n2 n3 => by
    rw [SlX.slH_ne]
    · exact hb
    · intro z; rw [z, ho] at hb; exact n1 (Option.some.inj hb).symm
    · intro z
      rw [z] at hb
      rcases hd with e | e
      · rw [e] at hb; exact n2 _ (Option.some.inj hb).symm
      · rw [e] at hb; exact n3 (Option.some.inj hb).symm
  refine ⟨fun b xs q => ne b _ q (fun z => h1 xs z.symm) (fun _ z => nomatch z) (fun z => nomatch z), fun b ob x q => ne b _ q (fun z => h2 ob x z.symm) (fun _ z => nomatch z) (fun z => nomatch z), fun b q' q => ?_⟩
  by_cases hb : b = a
  · rw [hb] at q; exact (hc q' q).elim
  · rw [SlX.slH_ne hb]
    · exact q
    · intro z
      rw [z] at q
      rcases hd with e | e
      · rw [e] at q; cases q
      · rw [e] at q; cases q
/-- a slot's store, as a change of memory -/
theorem slt_write {pins : List (Addr × Obj)} {σ : L2.St} {H : Hp} {s : Shared} {u : List Addr} {m : Mem} (I : Inv X pins σ H s) (k : HRep X.K u H m) {n : Nat} {c : CN} {a dx : Addr} {vs : List (Option D)} {xs : List (Option V)} {d : D} {v : V} (hu : u[n]? = some a)
    (h : SlX.Slt H a (He.ga X.K c.name) dx xs) (rs : RepS X.K u H vs xs) (r : Rep X.K u H d v) (i : Nat) : HRep X.K u (SlX.slH H a (He.ga X.K c.name) dx (SlX.putS i v xs)) (m.set n (.ins c (putD i d vs))) := by
  have hx : Ext H (SlX.slH H a (He.ga X.K c.name) dx (SlX.putS i v xs)) := slt_ext I h
  have hd := slt_dx I h
  obtain ⟨ne, _⟩ := SlX.slt_at I h
  refine k.write hx (fun b hb hne hm => ?_) hu ⟨dx, _, SlX.slH_slt ne, RepS.mono (Grow.refl _) hx (putD_rep rs i r)⟩ (by rw [show SlX.slH H a _ dx _ a = _ from upd_same]; exact fun z => nomatch z)
  obtain ⟨o1, o2⟩ := k.not_own hm
  have hbd : b ≠ dx := fun z => by
    rw [← z] at hd
    rcases hd with e | e
    · exact o1 _ e
    · exact o2 e
  refine ⟨SlX.slH_ne hne hbd, fun dy q => ?_⟩
  have hya : dy ≠ a := fun z => by
    rw [z] at q
    rcases h with ⟨h1, _⟩ | ⟨h1, _⟩
    · rw [h1] at q; rcases q with e | e <;> cases e
    · rw [h1] at q; unfold SlX.SlO at q; rcases q with e | e <;> cases e
  by_cases hyd : dy = dx
  · subst hyd
    have hxd : H dy = some (.xd []) := by
      rcases hd with e | e
      · rw [e] at q
        rcases q with z | z
        · cases z; exact (hne rfl).elim
        · cases z
      · exact e
    unfold SlX.slH
    rw [upd_ne ne, upd_same, hxd]
  · exact SlX.slH_ne hya hyd
theorem ms_slot {value : Expr} {mv : EM} (F : ClsF X.K c) (hf : c.slots[i]? = some f) (ho : ME X o mo) (hv : ME X value mv) (hs : swapsWith value (some (.Attribute o f pos')) pos.line X.env = pure false := by rfl) :
    MS X (.Assign [.Attribute o f pos'] value pos) (sSlot c i mv mo) := by
  refine ⟨fun W tk => ⟨fun pins s σ H D' I ⟨u, r, μ, h1, h2, h3⟩ => ?_⟩⟩
  have h3' : PostS X.K X.mg u H W D' ((mv r μ).sbind r fun d μ1 => (mo r μ1).sbind r fun x μ2 => match x with
      | .obj n => match μ2[n]? with
        | some (.ins c' vs) => if c' = c then .ok .next r (μ2.set n (.ins c (putD i d vs))) else .stuck
        | _ => .stuck
      | _ => .stuck) := by
    have e : sSlot c i mv mo r μ = ((mv r μ).sbind r fun d μ1 => (mo r μ1).sbind r fun x μ2 => match x with
      | .obj n => match μ2[n]? with
        | some (.ins c' vs) => if c' = c then .ok .next r (μ2.set n (.ins c (putD i d vs))) else .stuck
        | _ => .stuck
      | _ => .stuck) := by
      unfold sSlot
      cases mv r μ with
      | ok d m1 =>
        simp only [Res.sbind_ok]
        cases mo r m1 <;> rfl
      | _ => rfl
    rw [← e]
    exact h3
  refine plainObj_wpAny_Assign_Attribute (thn ((hv.run W tk).run pins s σ H _ I ⟨u, r, μ, h1, h2, PostE.sbind h2 h3'⟩) fun rv s1 ⟨y, H1, I1, ry, u1, μ1, d, g1, e1, k1, p1, _, q1⟩ => ?_) hs
  have he1 := h2.mono g1 e1
  refine thn ((ho.run W tk).run pins s1 σ H1 _ I1 ⟨u1, r, μ1, k1, he1, PostE.sbind he1 q1⟩) fun ov s2 ⟨x, H2, I2, rx, u2, μ2, dx, g2, e2, k2, p2, _, q2⟩ => ?_
  have he2 := he1.mono g2 e2
  have pd : Rep X.K u2 H2 d y := Rep.mono g2 e2 d p1
  cases dx with
  | obj n =>
    have q2 : PostS X.K X.mg u2 H2 W D' (match μ2[n]? with
      | some (.ins c' vs) => if c' = c then .ok .next r (μ2.set n (.ins c (putD i d vs))) else .stuck
      | _ => .stuck) := q2
    split at q2
    · rename_i c' vs em
      split at q2
      · rename_i ec
        subst ec
        obtain ⟨a', dx', xs, rfl, hu, hs', rs⟩ := ins_at k2 em p2
        obtain rfl : ov = Value.ref a' := rx
        have hx := slt_ext (ys := SlX.putS i y xs) I2 hs'
        exact SlX.setslot_ok I2 hs' F.sc (F.sl i f hf) ry fun s3 I3 => ⟨σ, _, I3, q2 u2 _ σ (Grow.refl _) hx (slt_write I2 k2 hu hs' rs pd i) (he2.mono (Grow.refl _) hx)⟩
      · exact q2.elim
    · exact q2.elim
  | _ => exact q2.elim
end
end T
end
section
set_option Elab.async false
set_option linter.all false
set_option maxRecDepth 100000
set_option maxHeartbeats 2000000
/-! T22: instances made; methods, properties. -/
namespace T
open PySem PySem.Spec PyProof.Rows L2
section
variable {X : Cx} {C f : Addr} {k : Nat} {ps : List Str} {fd : FuncData} {sp : Sp}
theorem run_makeAt {CX : CXT} {pins : List (Addr × Obj)} {σ : L2.St} {H : Hp} {s : Shared} {Q : VK} {us : List Value} {vs : List V} {E : XK} (M : Mk X.K C f) (F : FnOk X.prog X.w X.K X.mg X.base CX k f fd ps sp) (hr : Room (k + 1) X.A) (hb : Binds X.K fd ps [])
    (hx : PassesAt CX X σ E) (I : Inv X pins σ H s) (r : Vals vs us)
    (h : ∀ x dx, H x = none → H dx = none → dx ≠ x → sp (.ref x :: vs) (upd (upd H dx (.own x)) x (.ins C dx [])) (fun v H2 => v = .non ∧ Q (.ref x) H2) E) :
    wpAny (model X.prog X.w) X.A (call (.ref C) us) (EP X pins σ Q) X.xe s := by
  have hq := h (s.heap.objs.size + 1) s.heap.objs.size (I.hok.fresh (Nat.le_succ _)) (I.hok.fresh (Nat.le_refl _)) (Nat.ne_of_lt (Nat.lt_succ_self _))
  have I2 := Inv.made (C := C) I
  have r2 : Vals (V.ref (s.heap.objs.size + 1) :: vs) (Value.ref (s.heap.objs.size + 1) :: us) := .cons rfl r
  have hl : ((Value.ref (s.heap.objs.size + 1) :: us) ++ ([] : List Value)).length = ps.length := by
    have e := r2.length
    rw [F.len _ _ _ _ hq] at e
    rw [List.append_nil]
    exact e.symm
  have hb2 := hb _ (Value.ref (s.heap.objs.size + 1) :: us) I2.kIn hl
  rw [List.append_nil] at hb2
  refine wpAny_call (make_map (f := f) I.kIn M.makes M.init (beq_iff_eq.mp M.fn) (codeAny_mono (F.run _ X.stack _ _ ⟨Value.ref (s.heap.objs.size + 1) :: us, []⟩ (Value.ref (s.heap.objs.size + 1) :: us) _ _ E (hr.make C us [])
    (I2.env0.make C us []) hb2 r2 hq) fun r s' hq' => ?_))
  cases r with
  | error e => exact hx pins _ _ e s' I2 hq'
  | ok fl =>
    cases fl with
    | ret u =>
      obtain ⟨v, H', I3, rv, ev, q3⟩ := I2.after hq'
      subst ev
      exact ⟨rv, ⟨V.ref (s.heap.objs.size + 1), H', I3, rfl, q3⟩⟩
    | next => exact False.elim hq'
    | brk => exact False.elim hq'
    | cont => exact False.elim hq'
end
/-- a method of a class keeps its promise -/
structure MethOk (P : Program) (w : World) (K : PySem.W.Frag) (mg : Str → Option Value) (base : Heap) (k : Nat) (c : CN) (x : Str) (ps : List Str) (mf : List D → Mem → Res D) : Prop where
  fn : ∃ fd, FnOk P w K mg base (L2.CX P w) k (He.ma K (He.ga K c.name) x) fd ps (spM K mg ps.length mf) ∧ Binds K fd ps []
theorem MethOk.mono {P : Program} {w : World} {K : PySem.W.Frag} {mg : Str → Option Value} {base : Heap} {j k : Nat} {c : CN} {x : Str} {ps : List Str} {mf : List D → Mem → Res D} (h : MethOk P w K mg base j c x ps mf) (hk : j ≤ k) : MethOk P w K mg base k c x ps mf :=
  ⟨let ⟨fd, F, b⟩ := h.fn; ⟨fd, F.mono hk, b⟩⟩
theorem MethOk.of {P : Program} {w : World} {K : PySem.W.Frag} {mg : Str → Option Value} {base : Heap} {k : Nat} {c : CN} {x qual : Str} {N ps : List Str} {mf : List D → Mem → Res D} {mb : SM} {params : Arguments} {body : List Stmt} {scope : Scope} {kws : List (Str × V)} {fd : FuncData} (F : FunD K x qual params body scope [] kws (He.ma K (He.ga K c.name) x) fd)
    (hb : ∀ (kV doc pm : Value) (an : Option Addr) (cdv ct : Value) (us : List Value), us.length = ps.length → bindArgs (PySem.W.fnOf x qual params body scope .none kV doc pm an cdv ct) ⟨us, []⟩ = pure (ps.zip us)) (S : FnScope N ps scope)
    (hbody : ∀ (cdv : Value) (A : Around) (outer : List Env) (s : Shared) (H : Hp) (E : XK), Room k (A.deeper (envOfC qual scope s.heap.objs.size (He.ma K (He.ga K c.name) x) cdv)) → MSs (cxOf (L2.CX P w) P w K mg base N qual scope (He.ma K (He.ga K c.name) x) cdv A outer s H E) body mb)
    (spec : ∀ (ds : List D) (m : Mem), ds.length = ps.length → WF m → Refn m.length (runB N mb ds m) (mf ds m)) : MethOk P w K mg base (k + 1) c x ps mf :=
  ⟨⟨fd, fnOk_of F S hbody spec, F.bindsN hb⟩⟩

/-! ### C(e, ..) -/
def gNew (c : CN) (mf : List D → Mem → Res D) : List D → Mem → Res D := fun ds m => match mf (.obj m.length :: ds) (m ++ [.ins c []]) with
  | .ok .non m2 => .ok (.obj m.length) m2
  | .ok _ _ => .stuck
  | .exc e p m2 => .exc e p m2
  | .stuck => .stuck
section
variable {X : Cx} {k : Nat} {x : Str} {ps : List Str} {mf : List D → Mem → Res D} {p pos apos : Pos} {e o : Expr} {es : List Expr} {ms : LM} {mo : EM} {c : CN}
theorem me_new {n : Nat} (CF : ClsF X.K c) (F : MethOk X.prog X.w X.K X.mg X.base k c "__init__" ps mf) (hr : Room (k + 1) X.A) (hg : Gl X x) (hm : X.mg x = some (.ref (He.ga X.K c.name))) (hps : ps.length = n + 1) (hn : (e :: es).length = n) (ha : MA X (e :: es) ms) (hdb : (x == ("__debug__" : Str)) = false := by decide)
    (he : starEach (e :: es) X.env = (false, eval e X.env) :: starEach es X.env := by rfl) (hpl : (backTo pos (starEach es X.env)).any (·.1) = false := by rfl) :
    ME X (.Call (.Name x p) (e :: es) [] pos) (mCall (gNew c (atN (n + 1) mf)) ms) := by
  obtain ⟨fd, FN, b⟩ := F.fn
  refine ⟨fun W tk => ⟨fun pins s σ H Q I h => ?_⟩⟩
  obtain ⟨u, r, μ, h1, h2, h3⟩ := h
  have h3' : PostE X.K X.mg u H σ W Q ((ms r μ).bind (gNew c (atN (n + 1) mf))) := h3
  refine wpAny_Call_Name_kw (ld_glob I hg hm ?_ hdb)
  refine PySem.W.callWith_K (h₀ := X.base) I.ok.mod.kin CF.mkr.kp (thn ((ha.run W tk).run pos pins s σ H _ I ⟨u, r, μ, h1, h2, PostA.bindE h3'⟩) fun us s1 ⟨vs, H1, I1, r1, u1, μ1, ds, g1, e1, k1, p1, _, q1⟩ => ⟨I1.kIn, ?_⟩) he hpl
  refine run_makeAt CF.mkr FN hr b (passAt tk σ) I1 r1 fun y dy hy hdy hne => ?_
  have hy2 : upd H1 dy (.own y) y = none := by rw [upd_ne (Ne.symm hne)]; exact hy
  have k2 := k1.new (o := .own y) hdy
  have x2 : Ext H1 (upd H1 dy (.own y)) := Ext.new hdy
  have hg2 : Grow u1 (u1 ++ [y]) := ⟨[y], rfl⟩
  have k3 := k2.push (o := .ins (He.ga X.K c.name) dy []) (c := .ins c []) hy2 ⟨dy, [], .inl ⟨upd_same, rfl⟩, fun i d q => by simp at q⟩
  have x3 : Ext H1 (upd (upd H1 dy (.own y)) y (.ins (He.ga X.K c.name) dy [])) := x2.trans (Ext.new hy2)
  have hrep : Rep X.K (u1 ++ [y]) (upd (upd H1 dy (.own y)) y (.ins (He.ga X.K c.name) dy [])) (.obj μ1.length) (.ref y) := ⟨y, rfl, by rw [← k1.len, List.getElem?_append_right (Nat.le_refl _)]; simp⟩
  have q1' : PostE X.K X.mg u1 H1 σ W Q (gNew c (atN (n + 1) mf) ds μ1) := q1
  unfold gNew atN at q1'
  by_cases hl : (D.obj μ1.length :: ds).length = n + 1
  · rw [if_pos hl] at q1'
    refine ⟨u1 ++ [y], .obj μ1.length :: ds, μ1 ++ [.ins c []], by rw [hl, hps], k3, ⟨.ref y, vs, rfl, hrep, RepL.mono hg2 x3 ds p1⟩, ?_⟩
    cases em : mf (.obj μ1.length :: ds) (μ1 ++ [.ins c []]) with
    | ok d m2 =>
      rw [em] at q1'
      cases d with
      | non =>
        intro u' H' v g x kk rr
        exact ⟨rr, q1' u' H' (.ref y) (hg2.trans g) (x3.trans x) kk (Rep.mono g x (.obj μ1.length) hrep)⟩
      | _ => exact q1'.elim
    | exc e0 p0 m2 =>
      rw [em] at q1'
      exact fun u' H' cls dd g x kk q => q1' u' H' cls dd (hg2.trans g) (x3.trans x) kk q
    | stuck => rw [em] at q1'; exact q1'.elim
  · rw [if_neg hl] at q1'
    exact q1'.elim
/-! ### o.m(e, ..) -/
def insOf (c : CN) (m : Mem) (x : D) : Bool := match x with
  | .obj n => match m[n]? with
    | some (.ins c' _) => c' == c
    | _ => false
  | _ => false
theorem insOf_v {K : PySem.W.Frag} {u : List Addr} {H : Hp} {m : Mem} {c : CN} {x : D} {w : V} (k : HRep K u H m) (e : insOf c m x = true) (r : Rep K u H x w) : ∃ a dx xs, w = .ref a ∧ SlX.Slt H a (He.ga K c.name) dx xs := by
  cases x with
  | obj n =>
    have e : (match m[n]? with
      | some (.ins c' _) => c' == c
      | _ => false) = true := e
    split at e
    · rename_i c' vs em
      obtain rfl := beq_iff_eq.mp e
      obtain ⟨a, dx, xs, rfl, _, hs, _⟩ := ins_at k em r
      exact ⟨a, dx, xs, rfl, hs⟩
    · cases e
  | _ => cases e
def mOwn (c : CN) (mf : List D → Mem → Res D) (mo : EM) (ms : LM) : EM := fun r μ => (mo r μ).bind fun x μ1 => if insOf c μ1 x then (ms r μ1).bind fun ds μ2 => mf (x :: ds) μ2 else .stuck
theorem me_own {m : Str} {n : Nat} {pl : Sem Bool} (CF : ClsF X.K c) (hm : Meth X.K (He.ga X.K c.name) m (He.ma X.K (He.ga X.K c.name) m)) (F : MethOk X.prog X.w X.K X.mg X.base k c m ps mf) (hr : Room k X.A) (hps : ps.length = n + 1) (hn : (e :: es).length = n) (ho : ME X o mo) (ha : MA X (e :: es) ms)
    (hst : starEach (e :: es) X.env = (false, eval e X.env) :: starEach es X.env := by rfl) (hpl : (backTo pos (starEach es X.env)).any (·.1) = false := by rfl)
    (ht : eval (.Call (.Attribute o m apos) (e :: es) [] pos) X.env = (do
      let ov ← eval o X.env
      standAt apos.atName
      let (f, first) ← holding [ov] (getMethod ov m pl)
      callWith pos f first (backTo pos (starEach (e :: es) X.env)) (backToKw pos (keywordEach [] X.env))) := by rfl) :
    ME X (.Call (.Attribute o m apos) (e :: es) [] pos) (mOwn c (atN (n + 1) mf) mo ms) := by
  obtain ⟨fd, FN, b⟩ := F.fn
  refine ⟨fun W tk => ⟨fun pins s σ H Q I h => ?_⟩⟩
  obtain ⟨u, r, μ, h1, h2, h3⟩ := h
  have h3' : PostE X.K X.mg u H σ W Q ((mo r μ).bind fun x μ1 => if insOf c μ1 x then (ms r μ1).bind fun ds μ2 => atN (n + 1) mf (x :: ds) μ2 else .stuck) := h3
  refine PySem.W.methodCall_KW (pl := pl) (thn ((ho.run W tk).run pins s σ H _ I ⟨u, r, μ, h1, h2, PostE.bindE h3'⟩) fun v s1 ⟨x, H1, I1, r1, u1, μ1, dx, g1, e1, k1, p1, _, q1⟩ => ?_) ht
  have q1' : PostE X.K X.mg u1 H1 σ W Q (if insOf c μ1 dx then (ms r μ1).bind fun ds μ2 => atN (n + 1) mf (dx :: ds) μ2 else .stuck) := q1
  by_cases hc : insOf c μ1 dx = true
  · rw [if_pos hc] at q1'
    obtain ⟨a, dx', xs, rfl, hs⟩ := insOf_v k1 hc p1
    obtain rfl : v = Value.ref a := r1
    refine SlX.getmethsl_ok I1 hs CF.sc hm ?_
    refine PySem.W.callWith_K (first := [.ref a]) (h₀ := X.base) I.ok.mod.kin hm.kp (thn ((ha.run W tk).run pos pins s1 σ H1 _ I1 ⟨u1, r, μ1, k1, h2.mono g1 e1, PostA.bindE q1'⟩) fun us s2 ⟨ws, H2, I2, r2, u2, μ2, ds, g2, e2, k2, p2, _, q2⟩ => ⟨I2.kIn, ?_⟩) hst hpl
    have q2' : PostE X.K X.mg u2 H2 σ W Q (atN (n + 1) mf (dx :: ds) μ2) := q2
    unfold atN at q2'
    by_cases hl : (dx :: ds).length = n + 1
    · rw [if_pos hl] at q2'
      refine run_fnSD (us := .ref a :: us) (vs := .ref a :: ws) (dvs := []) (E := fun σ cls dd H => W cls dd σ H) FN hr b .nil (passAt tk σ) I2 (.cons rfl r2) ?_
      rw [List.append_nil]
      refine ⟨u2, dx :: ds, μ2, by rw [hl, hps], k2, ⟨_, ws, rfl, Rep.mono g2 e2 dx p1, p2⟩, ?_⟩
      cases em : mf (dx :: ds) μ2 with
      | ok d m2 => rw [em] at q2'; exact q2'
      | exc e0 p0 m2 => rw [em] at q2'; exact q2'
      | stuck => rw [em] at q2'; exact q2'
    · rw [if_neg hl] at q2'
      exact q2'.elim
  · rw [if_neg hc] at q1'
    exact q1'.elim
/-- o.m() -/
theorem me_own0 {m : Str} {pl : Sem Bool} (CF : ClsF X.K c) (hm : Meth X.K (He.ga X.K c.name) m (He.ma X.K (He.ga X.K c.name) m)) (F : MethOk X.prog X.w X.K X.mg X.base k c m ps mf) (hr : Room k X.A) (hps : ps.length = 1) (ho : ME X o mo)
    (ht : eval (.Call (.Attribute o m apos) [] [] pos) X.env = (do
      let ov ← eval o X.env
      standAt apos.atName
      let (f, first) ← holding [ov] (getMethod ov m pl)
      callWith pos f first (backTo pos (starEach [] X.env)) (backToKw pos (keywordEach [] X.env))) := by rfl) :
    ME X (.Call (.Attribute o m apos) [] [] pos) (mOwn c (atN 1 mf) mo aNil) := by
  obtain ⟨fd, FN, b⟩ := F.fn
  refine ⟨fun W tk => ⟨fun pins s σ H Q I h => ?_⟩⟩
  obtain ⟨u, r, μ, h1, h2, h3⟩ := h
  have h3' : PostE X.K X.mg u H σ W Q ((mo r μ).bind fun x μ1 => if insOf c μ1 x then atN 1 mf [x] μ1 else .stuck) := h3
  refine PySem.W.methodCall_KW (pl := pl) (thn ((ho.run W tk).run pins s σ H _ I ⟨u, r, μ, h1, h2, PostE.bindE h3'⟩) fun v s1 ⟨x, H1, I1, r1, u1, μ1, dx, g1, e1, k1, p1, _, q1⟩ => ?_) ht
  have q1' : PostE X.K X.mg u1 H1 σ W Q (if insOf c μ1 dx then atN 1 mf [dx] μ1 else .stuck) := q1
  by_cases hc : insOf c μ1 dx = true
  · rw [if_pos hc] at q1'
    obtain ⟨a, dx', xs, rfl, hs⟩ := insOf_v k1 hc p1
    obtain rfl : v = Value.ref a := r1
    refine SlX.getmethsl_ok I1 hs CF.sc hm ?_
    refine PySem.W.callWith_K0 (first := [.ref a]) I1.kIn hm.kp (run_fnSD (us := [.ref a]) (vs := [.ref a]) (dvs := []) (E := fun σ cls dd H => W cls dd σ H) FN hr b .nil (passAt tk σ) I1 (.cons rfl .nil) ?_)
    rw [List.append_nil]
    refine ⟨u1, [dx], μ1, by rw [hps]; rfl, k1, RepL.one p1, ?_⟩
    have q2' : PostE X.K X.mg u1 H1 σ W Q (mf [dx] μ1) := q1'
    cases em : mf [dx] μ1 with
    | ok d m2 => rw [em] at q2'; exact q2'
    | exc e0 p0 m2 => rw [em] at q2'; exact q2'
    | stuck => rw [em] at q2'; exact q2'
  · rw [if_neg hc] at q1'
    exact q1'.elim
end
end T
end
section
set_option Elab.async false
set_option linter.all false
set_option maxRecDepth 100000
set_option maxHeartbeats 2000000
/-! T23: sorting, plainly: strict orders, insertion, order of values. -/
namespace T
open PySem PySem.Spec PyProof.Rows L2 SrtO
section
variable {α β : Type}
structure Slo (lt : α → α → Bool) : Prop where
  irr : ∀ x, lt x x = false
  tr : ∀ x y z, lt x y = true → lt y z = true → lt x z = true
  tri : ∀ x y, lt x y = false → lt y x = false → x = y
theorem Slo.asym {lt : α → α → Bool} (O : Slo lt) {x y : α} (h : lt x y = true) : lt y x = false := by
  cases e : lt y x with
  | false => rfl
  | true => have := O.tr _ _ _ h e; rw [O.irr] at this; cases this
theorem Slo.swo {lt : α → α → Bool} (O : Slo lt) : Swo lt := by
  refine ⟨fun x y h => O.asym h, fun x y z h1 h2 => ?_⟩
  cases e : lt z x with
  | false => rfl
  | true =>
    cases e2 : lt x y with
    | true => have := O.tr _ _ _ e e2; rw [h2] at this; cases this
    | false =>
      have := O.tri _ _ h1 e2
      subst this
      rw [e] at h2
      cases h2
/-- .. by a key -/
theorem Swo.pull {lt : β → β → Bool} (O : Swo lt) (f : α → β) : Swo fun x y => lt (f x) (f y) := ⟨fun x y h => O.asym _ _ h, fun x y z a b => O.tr _ _ _ a b⟩
/-- lexicographic -/
def lexL [DecidableEq α] (lt : α → α → Bool) : List α → List α → Bool
  | [], [] => false
  | [], _ :: _ => true
  | _ :: _, [] => false
  | x :: xs, y :: ys => if x = y then lexL lt xs ys else lt x y
theorem Slo.lex [DecidableEq α] {lt : α → α → Bool} (O : Slo lt) : Slo (lexL lt) := by
  refine ⟨fun x => ?_, fun x => ?_, fun x => ?_⟩
  · induction x with
    | nil => rfl
    | cons a l ih => simp only [lexL, if_true]; exact ih
  · induction x with
    | nil =>
      intro y z h1 h2
      cases y with
      | nil => cases h1
      | cons b m => cases z with
        | nil => cases h2
        | cons c n => rfl
    | cons a l ih =>
      intro y z h1 h2
      cases y with
      | nil => cases h1
      | cons b m =>
        cases z with
        | nil => cases h2
        | cons c n =>
          simp only [lexL] at h1 h2 ⊢
          by_cases e1 : a = b
          · subst e1
            rw [if_pos rfl] at h1
            by_cases e2 : a = c
            · rw [if_pos e2] at h2 ⊢
              exact ih _ _ h1 h2
            · rw [if_neg e2] at h2 ⊢
              exact h2
          · rw [if_neg e1] at h1
            by_cases e2 : b = c
            · subst e2
              rw [if_neg e1]
              exact h1
            · rw [if_neg e2] at h2
              by_cases e3 : a = c
              · subst e3
                have := O.tr _ _ _ h1 h2
                rw [O.irr] at this
                cases this
              · rw [if_neg e3]
                exact O.tr _ _ _ h1 h2
  · induction x with
    | nil =>
      intro y h1 h2
      cases y with
      | nil => rfl
      | cons b m => cases h1
    | cons a l ih =>
      intro y h1 h2
      cases y with
      | nil => cases h2
      | cons b m =>
        simp only [lexL] at h1 h2
        by_cases e : a = b
        · subst e
          rw [if_pos rfl] at h1 h2
          rw [ih _ h1 h2]
        · rw [if_neg e] at h1
          rw [if_neg (fun z => e z.symm)] at h2
          exact absurd (O.tri _ _ h1 h2) e
/-! ### insertion -/
def ins (lt : α → α → Bool) (x : α) : List α → List α
  | [] => [x]
  | y :: l => if lt y x then y :: ins lt x l else x :: y :: l
def isort (lt : α → α → Bool) : List α → List α
  | [] => []
  | x :: l => ins lt x (isort lt l)
theorem ins_perm (lt : α → α → Bool) (x : α) : ∀ l : List α, (ins lt x l).Perm (x :: l)
  | [] => List.Perm.refl _
  | y :: l => by
    unfold ins
    by_cases h : lt y x = true
    · rw [if_pos h]
      exact ((ins_perm lt x l).cons y).trans (List.Perm.swap x y l)
    · rw [if_neg h]
theorem isort_perm (lt : α → α → Bool) : ∀ l : List α, (isort lt l).Perm l
  | [] => List.Perm.refl _
  | x :: l => (ins_perm lt x _).trans ((isort_perm lt l).cons x)
theorem isort_length (lt : α → α → Bool) (l : List α) : (isort lt l).length = l.length := (isort_perm lt l).length_eq
theorem ins_srtd {lt : α → α → Bool} (O : Swo lt) (x : α) : ∀ l : List α, Srtd lt l → Srtd lt (ins lt x l)
  | [], _ => List.pairwise_singleton _ _
  | y :: l, h => by
    unfold ins
    by_cases c : lt y x = true
    · rw [if_pos c]
      refine List.pairwise_cons.mpr ⟨fun z hz => ?_, ins_srtd O x l (List.pairwise_cons.mp h).2⟩
      rcases List.mem_cons.mp ((ins_perm lt x l).mem_iff.mp hz) with e | e
      · rw [e]; exact O.asym _ _ c
      · exact (List.pairwise_cons.mp h).1 z e
    · rw [if_neg c]
      have c' : lt y x = false := by simpa using c
      refine List.pairwise_cons.mpr ⟨fun z hz => ?_, h⟩
      rcases List.mem_cons.mp hz with e | e
      · rw [e]; exact c'
      · exact O.tr _ _ _ c' ((List.pairwise_cons.mp h).1 z e)
theorem isort_srtd {lt : α → α → Bool} (O : Swo lt) : ∀ l : List α, Srtd lt (isort lt l)
  | [] => List.Pairwise.nil
  | x :: l => ins_srtd O x _ (isort_srtd O l)
theorem ins_cls {lt : α → α → Bool} (O : Swo lt) (x z : α) : ∀ l : List α, (ins lt x l).filter (eqv lt z) = (x :: l).filter (eqv lt z)
  | [] => rfl
  | y :: l => by
    unfold ins
    by_cases c : lt y x = true
    · rw [if_pos c]
      have hl := ins_cls O x z l
      simp only [List.filter_cons] at hl ⊢
      rw [hl]
      by_cases e1 : eqv lt z y = true
      · by_cases e2 : eqv lt z x = true
        · have e3 : eqv lt z x = eqv lt y x := eqv_trans O e1
          rw [e2] at e3
          have e4 := (eqv_iff.mp e3.symm).1
          rw [c] at e4
          cases e4
        · simp only [e2, if_false, Bool.false_eq_true]
      · simp only [e1, if_false, Bool.false_eq_true]
    · rw [if_neg c]
theorem isort_stb {lt : α → α → Bool} (O : Swo lt) : ∀ l : List α, Stb lt (isort lt l) l
  | [] => Stb.refl _
  | x :: l => ⟨isort_perm lt _, fun z => by
      show (ins lt x (isort lt l)).filter (eqv lt z) = _
      rw [ins_cls O x z, List.filter_cons, List.filter_cons, (isort_stb O l).cls z]⟩
theorem isort_map {lt : β → β → Bool} (f : α → β) : ∀ l : List α, (isort (fun x y => lt (f x) (f y)) l).map f = isort lt (l.map f)
  | [] => rfl
  | x :: l => by
    have go : ∀ m : List α, (ins (fun x y => lt (f x) (f y)) x m).map f = ins lt (f x) (m.map f) := by
      intro m
      induction m with
      | nil => rfl
      | cons y m ih =>
        simp only [ins, List.map_cons]
        by_cases c : lt (f y) (f x) = true
        · rw [if_pos c, if_pos c, List.map_cons, ih]
        · rw [if_neg c, if_neg c]; rfl
    show (ins _ x (isort _ l)).map f = ins lt (f x) (isort lt (l.map f))
    rw [go, isort_map f l]
theorem isort_congr {lt lt' : α → α → Bool} : ∀ l : List α, (∀ a ∈ l, ∀ b ∈ l, lt a b = lt' a b) → isort lt l = isort lt' l
  | [], _ => rfl
  | x :: l, h => by
    have go : ∀ m : List α, (∀ a ∈ m, a ∈ l) → ins lt x m = ins lt' x m := by
      intro m
      induction m with
      | nil => intro _; rfl
      | cons y m ih =>
        intro hm
        simp only [ins]
        rw [h y (List.mem_cons_of_mem _ (hm y List.mem_cons_self)) x List.mem_cons_self, ih fun a ha => hm a (List.mem_cons_of_mem _ ha)]
    show ins lt x (isort lt l) = ins lt' x (isort lt' l)
    rw [isort_congr l fun a ha b hb => h a (List.mem_cons_of_mem _ ha) b (List.mem_cons_of_mem _ hb)]
    exact go _ fun a ha => (isort_perm lt' l).mem_iff.mp ha
/-- what is sorted and stable is this -/
theorem isort_uniq {lt : α → α → Bool} (O : Swo lt) {l m : List α} (h1 : Srtd lt l) (h2 : Stb lt l m) : l = isort lt m := by
  refine stb_uniq O h1 (isort_srtd O m) ⟨h2.perm.trans (isort_perm lt m).symm, fun x => ?_⟩
  rw [h2.cls x, (isort_stb O m).cls x]
end
/-! ### the order of values -/
inductive At where
  | i (n : Int) | s (l : Str)
  deriving DecidableEq
def ltAt : At → At → Bool
  | .i a, .i b => decide (a < b)
  | .s a, .s b => decide (a.cps.toList < b.cps.toList)
  | .i _, .s _ => true
  | .s _, .i _ => false
theorem str_ext {a b : Str} (h : a.cps.toList = b.cps.toList) : a = b := by
  cases a; cases b
  simp only [Str.mk.injEq]
  exact Array.toList_inj.mp h
theorem slo_at : Slo ltAt := by
  refine ⟨fun x => ?_, fun x y z => ?_, fun x y => ?_⟩
  · cases x with
    | i a => exact decide_eq_false (Int.lt_irrefl a)
    | s a => exact decide_eq_false (List.lt_irrefl _)
  · cases x <;> cases y <;> cases z <;> simp only [ltAt, decide_eq_true_eq] <;> intro h1 h2 <;> first | omega | exact List.lt_trans h1 h2 | trivial | cases h1 | cases h2
  · cases x <;> cases y <;> simp only [ltAt, decide_eq_false_iff_not] <;> intro h1 h2 <;> first | (congr 1; omega) | (congr 1; exact str_ext (List.le_antisymm (List.not_lt.mp h2) (List.not_lt.mp h1))) | (exfalso; cases h1; done) | (exfalso; cases h2; done)
def at0 : D → List At
  | .int a => [.i a]
  | .str a => [.s a]
  | _ => []
def at1 : D → List At
  | .int a => [.i a]
  | .str a => [.s a]
  | .tup es => es.flatMap at0
  | _ => []
def okD : D → List At
  | .int a => [.i a]
  | .str a => [.s a]
  | .tup es => es.flatMap at1
  | _ => []
def ltD (d e : D) : Bool := lexL ltAt (okD d) (okD e)
theorem swo_D : Swo ltD := Swo.pull slo_at.lex.swo okD
/-- ints and texts in a row: which -/
def shp : List D → Option (List Bool)
  | [] => some []
  | .int _ :: ds => (shp ds).map (true :: ·)
  | .str _ :: ds => (shp ds).map (false :: ·)
  | _ :: _ => none
def isI : D → Bool
  | .int _ => true
  | _ => false
def isS : D → Bool
  | .str _ => true
  | _ => false
def shT : D → Option (List Bool)
  | .tup es => shp es
  | _ => none
/-- what can be sorted -/
def sortable (ds : List D) : Bool := match ds with
  | [] => true
  | d :: r => ds.all isI || ds.all isS || (match shT d with
    | some (b :: sh) => ds.all fun e => shT e == some (b :: sh)
    | _ => false)
end T
end
section
set_option Elab.async false
set_option linter.all false
set_option maxRecDepth 100000
set_option maxHeartbeats 2000000
/-! T24: sorted(x). -/
namespace T
open PySem PySem.Spec PyProof.Rows L2 SrtO
/-! ### a flat value is told by its object -/
def flatS : D → Bool
  | .int _ => true
  | .str _ => true
  | .tup es => (shp es).isSome
  | _ => false
section
variable {K : PySem.W.Frag} {u : List Addr} {H : Hp}
theorem repL_inj : ∀ {es fs : List D} {xs : List V}, (shp es).isSome = true → (shp fs).isSome = true → RepL K u H es xs → RepL K u H fs xs → es = fs
  | [], [], _, _, _, _, _ => rfl
  | [], f :: fs, xs, _, _, h, ⟨_, _, e, _⟩ => by rw [show xs = [] from h] at e; cases e
  | e :: es, [], xs, _, _, ⟨_, _, q, _⟩, h => by rw [show xs = [] from h] at q; cases q
  | e :: es, f :: fs, xs, h1, h2, ⟨x, r, e1, r1, r2⟩, ⟨y, r', e2, r3, r4⟩ => by
    rw [e1] at e2
    cases e2
    have go : ∀ d : D, ∀ ds : List D, (shp (d :: ds)).isSome = true → (shp ds).isSome = true ∧ ((∃ i, d = .int i) ∨ ∃ s, d = .str s) := by
      intro d ds h
      cases d with
      | int i => exact ⟨by simpa [shp] using h, .inl ⟨i, rfl⟩⟩
      | str i => exact ⟨by simpa [shp] using h, .inr ⟨i, rfl⟩⟩
      | _ => cases h
    obtain ⟨a1, a2⟩ := go _ _ h1
    obtain ⟨b1, b2⟩ := go _ _ h2
    rw [repL_inj a1 b1 r2 r4]
    congr 1
    rcases a2 with ⟨i, rfl⟩ | ⟨i, rfl⟩
    · have q : x = .int i := r1
      rcases b2 with ⟨j, rfl⟩ | ⟨j, rfl⟩
      · have q2 : x = .int j := r3
        rw [q] at q2
        cases q2
        rfl
      · have q2 : x = .str j := r3
        rw [q] at q2
        cases q2
    · have q : x = .str i := r1
      rcases b2 with ⟨j, rfl⟩ | ⟨j, rfl⟩
      · have q2 : x = .int j := r3
        rw [q] at q2
        cases q2
      · have q2 : x = .str j := r3
        rw [q] at q2
        cases q2
        rfl
theorem flatS_v {d : D} (h : flatS d = true) {w : V} {v : Value} (r : Rep K u H d w) (rv : RelV w v) : (∃ i t, d = .int i ∧ w = .int i ∧ v = .int i t) ∨ (∃ z t, d = .str z ∧ w = .str z ∧ v = .str z t) ∨ ∃ es a xs, d = .tup es ∧ w = .ref a ∧ v = .ref a ∧ H a = some (.tup xs) ∧ RepL K u H es xs ∧ (shp es).isSome = true := by
  cases d with
  | int i =>
    cases (show w = .int i from r)
    obtain ⟨t, rfl⟩ := rv
    exact .inl ⟨i, t, rfl, rfl, rfl⟩
  | str i =>
    cases (show w = .str i from r)
    obtain ⟨t, rfl⟩ := rv
    exact .inr (.inl ⟨i, t, rfl, rfl, rfl⟩)
  | tup es =>
    obtain ⟨a, xs, rfl, h1, h2⟩ := r
    cases rv
    exact .inr (.inr ⟨es, a, xs, rfl, rfl, rfl, h1, h2, h⟩)
  | _ => cases h
theorem same_D {d e : D} (hd : flatS d = true) (he : flatS e = true) {w w' : V} {v : Value} (r : Rep K u H d w) (rv : RelV w v) (r' : Rep K u H e w') (rv' : RelV w' v) : d = e := by
  rcases flatS_v hd r rv with ⟨i, t, rfl, rfl, rfl⟩ | ⟨i, t, rfl, rfl, rfl⟩ | ⟨es, a, xs, rfl, rfl, rfl, h1, h2, h3⟩
  · rcases flatS_v he r' rv' with ⟨j, t, rfl, rfl, q⟩ | ⟨j, t, rfl, rfl, q⟩ | ⟨es, a, xs, rfl, rfl, q, h1, h2, h3⟩ <;> cases q
    rfl
  · rcases flatS_v he r' rv' with ⟨j, t, rfl, rfl, q⟩ | ⟨j, t, rfl, rfl, q⟩ | ⟨es, a, xs, rfl, rfl, q, h1, h2, h3⟩ <;> cases q
    rfl
  · rcases flatS_v he r' rv' with ⟨j, t, rfl, rfl, q⟩ | ⟨j, t, rfl, rfl, q⟩ | ⟨es', a', xs', rfl, rfl, q, h1', h2', h3'⟩ <;> cases q
    rw [h1] at h1'
    cases h1'
    rw [repL_inj h3 h3' h2 h2']
end
theorem sortable_flat {ds : List D} (h : sortable ds = true) : ∀ d ∈ ds, flatS d = true := by
  intro d hd
  cases ds with
  | nil => cases hd
  | cons e r =>
    unfold sortable at h
    rw [Bool.or_eq_true, Bool.or_eq_true] at h
    rcases h with (h | h) | h
    · have z := List.all_eq_true.mp h d hd
      cases d <;> first | rfl | cases z
    · have z := List.all_eq_true.mp h d hd
      cases d <;> first | rfl | cases z
    · split at h
      · have z := List.all_eq_true.mp h d hd
        have z := beq_iff_eq.mp z
        cases d with
        | tup es => show (shp es).isSome = true; rw [show shp es = _ from z]; rfl
        | _ => cases z
      · cases h
/-! ### rows -/
theorem rows_at {K : PySem.W.Frag} {u : List Addr} {H : Hp} : ∀ {ds : List D} {xs : List V} {vs : List Value} {p : Value × D}, RepL K u H ds xs → Vals xs vs → p ∈ vs.zip ds → ∃ w, w ∈ xs ∧ Rep K u H p.2 w ∧ RelV w p.1
  | [], _, vs, p, h, hv, hp => by simp at hp
  | d :: ds, _, vs, p, ⟨x, r, e, h1, h2⟩, hv, hp => by
    subst e
    cases hv with
    | cons a b =>
      rw [List.zip_cons_cons] at hp
      rcases List.mem_cons.mp hp with q | q
      · subst q
        exact ⟨x, List.mem_cons_self, h1, a⟩
      · obtain ⟨w, q1, q2, q3⟩ := rows_at h2 b q
        exact ⟨w, List.mem_cons_of_mem _ q1, q2, q3⟩
theorem lookup_some' {l : List (Value × D)} {v : Value} (h : v ∈ l.map (·.1)) : ∃ d, l.lookup v = some d ∧ (v, d) ∈ l := by
  induction l with
  | nil => cases h
  | cons p l ih =>
    obtain ⟨a, b⟩ := p
    rw [List.lookup_cons]
    cases e : v == a with
    | true =>
      obtain rfl := beq_iff_eq.mp e
      exact ⟨b, rfl, List.mem_cons_self⟩
    | false =>
      rcases List.mem_cons.mp h with q | q
      · rw [q] at e
        simp at e
      · obtain ⟨d, h1, h2⟩ := ih q
        exact ⟨d, h1, List.mem_cons_of_mem _ h2⟩
/-- the value's content, found among the items -/
def keyV (vs : List Value) (ds : List D) (v : Value) : D := ((vs.zip ds).lookup v).getD .non
theorem keyV_at {K : PySem.W.Frag} {u : List Addr} {H : Hp} {ds : List D} {xs : List V} {vs : List Value} (h : RepL K u H ds xs) (hv : Vals xs vs) {v : Value} (hm : v ∈ vs) : ∃ w, Rep K u H (keyV vs ds v) w ∧ RelV w v ∧ keyV vs ds v ∈ ds := by
  have hl : vs.length = ds.length := by rw [← hv.length, h.length]
  have hm' : v ∈ (vs.zip ds).map (·.1) := by rw [List.map_fst_zip (by omega)]; exact hm
  obtain ⟨d, h1, h2⟩ := lookup_some' hm'
  obtain ⟨w, _, q2, q3⟩ := rows_at h hv h2
  unfold keyV
  rw [h1]
  exact ⟨w, q2, q3, (List.of_mem_zip h2).2⟩
/-! ### comparing -/
section
variable {prog : Program} {w : World} {A : Around} {s : Shared} {Q : Bool → Shared → Prop} {K : PySem.W.Frag} {u : List Addr} {H : Hp}
theorem oneLt_any_str (c : Bool) {a b : Str} {t t' : Tok} {E : Value → Shared → Prop} (h : Q (decide (a.cps.toList < b.cps.toList)) s) : wpAny (model prog w) A (oneLt' c (.str a t) (.str b t')) Q E s := by
  cases c with
  | true => exact PyProof.Rows.oneLt_str h
  | false => exact PySem.W.kat_one _ _ (PyProof.Rows.lt_str (Q := PySem.W.BoolBack Q) h)
theorem kat_D : ∀ {es fs : List D} {sh : List Bool} {xs ys : List V} {us ws : List Value} {i : Nat}, shp es = some sh → shp fs = some sh → RepL K u H es xs → RepL K u H fs ys → Vals xs us → Vals ys ws →
    Q (lexL ltAt (es.flatMap at1) (fs.flatMap at1)) s → PySem.W.KatLex prog w A true false Q (us.zip ws) i s
  | [], fs, sh, xs, ys, us, ws, i, h1, h2, r1, r2, v1, v2, q => by
    cases h1
    cases fs with
    | nil =>
      rw [show xs = [] from r1] at v1
      cases v1
      exact q
    | cons f fs => cases f <;> simp [shp] at h2
  | d :: es, [], sh, xs, ys, us, ws, i, h1, h2, r1, r2, v1, v2, q => by
    cases h2
    cases d <;> simp [shp] at h1
  | d :: es, f :: fs, sh, xs, ys, us, ws, i, h1, h2, ⟨x, xr, ex, rx, r1⟩, ⟨y, yr, ey, ry, r2⟩, v1, v2, q => by
    subst ex ey
    cases v1 with
    | cons a1 v1 =>
      cases v2 with
      | cons a2 v2 =>
        rw [List.zip_cons_cons]
        cases d with
        | int m =>
          cases f with
          | int n =>
            simp only [shp, Option.map_eq_some_iff] at h1 h2
            obtain ⟨sh1, g1, rfl⟩ := h1
            obtain ⟨sh2, g2, e2⟩ := h2
            cases e2
            cases (show x = .int m from rx)
            cases (show y = .int n from ry)
            obtain ⟨t, rfl⟩ := a1
            obtain ⟨t', rfl⟩ := a2
            simp only [List.flatMap_cons, at1, List.cons_append, List.nil_append, lexL] at q
            refine PySem.W.kat_cons (SeqAt.EqAt.int_int m t n t' prog w _ _ ?_)
            refine PySem.W.kat_go (fun e => ?_) (fun e => ?_)
            · obtain rfl := beq_iff_eq.mp e
              rw [if_pos rfl] at q
              exact PySem.W.kat_yes (kat_D g1 g2 r1 r2 v1 v2 q)
            · have ne : ¬ At.i m = At.i n := fun z => by cases z; simp at e
              rw [if_neg ne] at q
              exact PySem.W.kat_no (TS.oneLt_ints _ q)
          | str n =>
            simp only [shp, Option.map_eq_some_iff] at h1 h2
            obtain ⟨_, _, rfl⟩ := h1
            obtain ⟨_, _, e2⟩ := h2
            cases e2
          | _ => cases h2
        | str m =>
          cases f with
          | str n =>
            simp only [shp, Option.map_eq_some_iff] at h1 h2
            obtain ⟨sh1, g1, rfl⟩ := h1
            obtain ⟨sh2, g2, e2⟩ := h2
            cases e2
            cases (show x = .str m from rx)
            cases (show y = .str n from ry)
            obtain ⟨t, rfl⟩ := a1
            obtain ⟨t', rfl⟩ := a2
            simp only [List.flatMap_cons, at1, List.cons_append, List.nil_append, lexL] at q
            refine PySem.W.kat_cons (SeqAt.EqAt.str_str m t n t' prog w _ _ ?_)
            refine PySem.W.kat_go (fun e => ?_) (fun e => ?_)
            · obtain rfl := beq_iff_eq.mp e
              rw [if_pos rfl] at q
              exact PySem.W.kat_yes (kat_D g1 g2 r1 r2 v1 v2 q)
            · have ne : ¬ At.s m = At.s n := fun z => by cases z; simp at e
              rw [if_neg ne] at q
              exact PySem.W.kat_no (oneLt_any_str _ q)
          | int n =>
            simp only [shp, Option.map_eq_some_iff] at h1 h2
            obtain ⟨_, _, rfl⟩ := h1
            obtain ⟨_, _, e2⟩ := h2
            cases e2
          | _ => cases h2
        | _ => cases h1
end
theorem lt_int1 (a b : Int) : ltD (.int a) (.int b) = decide (a < b) := by
  show lexL ltAt [.i a] [.i b] = _
  simp only [lexL]
  by_cases e : a = b
  · subst e
    simp
  · rw [if_neg (fun z => by cases z; exact e rfl)]
    rfl
theorem lt_str1 (a b : Str) : ltD (.str a) (.str b) = decide (a.cps.toList < b.cps.toList) := by
  show lexL ltAt [.s a] [.s b] = _
  simp only [lexL]
  by_cases e : a = b
  · subst e
    simp [List.lt_irrefl]
  · rw [if_neg (fun z => by cases z; exact e rfl)]
    rfl
/-- the items can be sorted, at every heap that keeps their objects -/
theorem sort_ok {X : Cx} {pins : List (Addr × Obj)} {σ : L2.St} {H : Hp} {s : Shared} {u : List Addr} {A : Around} (I : Inv X pins σ H s) {ds : List D} {xs : List V} {vs : List Value} (rl : RepL X.K u H ds xs) (rv : Vals xs vs) (hs : sortable ds = true) (h2 : 2 ≤ vs.length)
    {h' : Heap} (kp : ∀ b o, s.heap.get? b = some o → h'.get? b = some o) {s' : Shared} (es : s'.heap = h') : ∃ κ,
    (∀ (Q : SortKind → Shared → Prop) (E : Value → Shared → Prop), Q κ s' → wpAny (model X.prog X.w) A (keyKind' vs.toArray) Q E s') ∧ Cmp X.prog X.w A s' κ (fun p => p.1 ∈ vs) (lt2 fun v u => ltD (keyV vs ds v) (keyV vs ds u)) := by
  subst es
  have hl : vs.length = ds.length := by rw [← rv.length, rl.length]
  have tupAt : ∀ {a : Addr} {ys : List V}, H a = some (.tup ys) → ∃ o its n, s'.heap.get? a = some o ∧ o.cls = .type "tuple" ∧ o.data = .seq (List.toArray its) n ∧ Vals ys its := fun {a ys} h => by
    obtain ⟨_, its, r, o, ho, hc, n, hd⟩ := I.hok _ _ h
    exact ⟨o, its, n, kp _ _ ho, hc, hd, r⟩
  have hd0 : ∃ d0 r0, ds = d0 :: r0 := by
    cases hds : ds with
    | nil => exfalso; rw [hds, List.length_nil] at hl; omega
    | cons d0 r0 => exact ⟨d0, r0, rfl⟩
  obtain ⟨d0, r0, hds⟩ := hd0
  · have hs' : (ds.all isI || ds.all isS || (match shT d0 with | some (b :: sh) => ds.all fun e => shT e == some (b :: sh) | _ => false)) = true := by
      rw [hds] at hs ⊢
      exact hs
    rw [Bool.or_eq_true, Bool.or_eq_true] at hs'
    rcases hs' with (h | h) | h
    · have each : ∀ v ∈ vs, ∃ i t, keyV vs ds v = .int i ∧ v = .int i t := fun v hv => by
        obtain ⟨w, h1, h2, h3⟩ := keyV_at rl rv hv
        have z := List.all_eq_true.mp h _ h3
        cases e : keyV vs ds v with
        | int i =>
          rw [e] at h1
          cases (show w = .int i from h1)
          obtain ⟨t, rfl⟩ := h2
          exact ⟨i, t, rfl, rfl⟩
        | _ => rw [e] at z; cases z
      have hI : IntsAre vs (vs.map iv) := ints_iv fun v hv => let ⟨i, t, _, e⟩ := each v hv; ⟨i, t, e⟩
      refine ⟨oneType', fun Q E hq => ?_, fun p q hp hq => ?_⟩
      · match vs, hI, h2 with
        | v1 :: v2 :: rest, hI, _ =>
          rw [keyKind_ints hI]
          exact wpAny_pure hq
        | [], _, h => exact absurd h (by decide)
        | [v], _, h => exact absurd h (by simp)
      · obtain ⟨i, t, e1, e2⟩ := each p.1 hp
        obtain ⟨j, t', e3, e4⟩ := each q.1 hq
        show wpAny (model X.prog X.w) A (keyLt' oneType' p.1 q.1) (fun r s'' => s'' = s' ∧ r = ltD (keyV vs ds p.1) (keyV vs ds q.1)) (fun _ _ => False) s'
        rw [e1, e3, e2, e4, keyLt'_oneType]
        exact oneLt_int ⟨rfl, (lt_int1 i j).symm⟩
    · have each : ∀ v ∈ vs, ∃ i t, keyV vs ds v = .str i ∧ v = .str i t := fun v hv => by
        obtain ⟨w, h1, h2, h3⟩ := keyV_at rl rv hv
        have z := List.all_eq_true.mp h _ h3
        cases e : keyV vs ds v with
        | str i =>
          rw [e] at h1
          cases (show w = .str i from h1)
          obtain ⟨t, rfl⟩ := h2
          exact ⟨i, t, rfl, rfl⟩
        | _ => rw [e] at z; cases z
      have strsOf : ∀ l : List Value, (∀ v ∈ l, ∃ z t, v = Value.str z t) → ∃ ss, StrsAre l ss := by
        intro l
        induction l with
        | nil => intro _; exact ⟨[], .nil⟩
        | cons v l ih =>
          intro hh
          obtain ⟨z, t, rfl⟩ := hh v List.mem_cons_self
          obtain ⟨ss, q⟩ := ih fun u hu => hh u (List.mem_cons_of_mem _ hu)
          exact ⟨z :: ss, .cons _ _ q⟩
      obtain ⟨ss, hI⟩ := strsOf vs fun v hv => let ⟨i, t, _, e⟩ := each v hv; ⟨i, t, e⟩
      refine ⟨oneType', fun Q E hq => ?_, fun p q hp hq => ?_⟩
      · match vs, hI, h2 with
        | v1 :: v2 :: rest, hI, _ =>
          rw [keyKind_strs hI]
          exact wpAny_pure hq
        | [], _, h => exact absurd h (by decide)
        | [v], _, h => exact absurd h (by simp)
      · obtain ⟨i, t, e1, e2⟩ := each p.1 hp
        obtain ⟨j, t', e3, e4⟩ := each q.1 hq
        show wpAny (model X.prog X.w) A (keyLt' oneType' p.1 q.1) (fun r s'' => s'' = s' ∧ r = ltD (keyV vs ds p.1) (keyV vs ds q.1)) (fun _ _ => False) s'
        rw [e1, e3, e2, e4, keyLt'_oneType]
        exact PyProof.Rows.oneLt_str ⟨rfl, (lt_str1 i j).symm⟩
    · split at h
      · rename_i b sh hsh
        have each : ∀ v ∈ vs, ∃ es a ys o its n, keyV vs ds v = .tup es ∧ shp es = some (b :: sh) ∧ v = .ref a ∧ RepL X.K u H es ys ∧ s'.heap.get? a = some o ∧ o.cls = .type "tuple" ∧ o.data = .seq (List.toArray its) n ∧ Vals ys its := fun v hv => by
          obtain ⟨w, h1, h2, h3⟩ := keyV_at rl rv hv
          have z := beq_iff_eq.mp (List.all_eq_true.mp h _ h3)
          cases e : keyV vs ds v with
          | tup es =>
            rw [e] at h1 z
            obtain ⟨a, ys, rfl, ha, hr⟩ := h1
            cases h2
            obtain ⟨o, its, n, q1, q2, q3, q4⟩ := tupAt ha
            exact ⟨es, a, ys, o, its, n, rfl, z, rfl, hr, q1, q2, q3, q4⟩
          | _ => rw [e] at z; cases z
        have firsts : ∀ l : List Value, (∀ v ∈ l, v ∈ vs) → ∃ fs, PySem.W.KatTups s'.heap l fs ∧ fs.length = l.length ∧ ∀ f ∈ fs, if b then ∃ i t, f = Value.int i t else ∃ z t, f = Value.str z t := by
          intro l
          induction l with
          | nil => intro _; exact ⟨[], trivial, rfl, fun f hf => absurd hf (by simp)⟩
          | cons v l ih =>
            intro hh
            obtain ⟨fs, q1, q2, q3⟩ := ih fun u hu => hh u (List.mem_cons_of_mem _ hu)
            obtain ⟨es, a, ys, o, its, n, _, hsp, rfl, hr, g1, g2, g3, g4⟩ := each v (hh v List.mem_cons_self)
            cases es with
            | nil => cases hsp
            | cons e0 er =>
              obtain ⟨y, yr, rfl, ry, _⟩ := hr
              cases g4 with
              | cons a1 a2 =>
                rename_i uu ur
                refine ⟨uu :: fs, PySem.W.KatTups.cons g1 g2 g3 (by simp) q1, by simp [q2], fun f hf => ?_⟩
                rcases List.mem_cons.mp hf with ef | hf
                · subst ef
                  cases e0 with
                  | int i =>
                    simp only [shp, Option.map_eq_some_iff] at hsp
                    obtain ⟨_, _, e⟩ := hsp
                    cases e
                    cases (show y = .int i from ry)
                    obtain ⟨t, rfl⟩ := a1
                    exact ⟨i, t, rfl⟩
                  | str i =>
                    simp only [shp, Option.map_eq_some_iff] at hsp
                    obtain ⟨_, _, e⟩ := hsp
                    cases e
                    cases (show y = .str i from ry)
                    obtain ⟨t, rfl⟩ := a1
                    exact ⟨i, t, rfl⟩
                  | _ => cases hsp
                · exact q3 f hf
        obtain ⟨fs, q1, q2, q3⟩ := firsts vs fun v hv => hv
        refine ⟨tuples' true, fun Q E hq => ?_, fun p q hp hq => ?_⟩
        · cases b with
          | true =>
            refine PySem.W.kat_kind (T := .type "int") q1 (by omega) (fun f hm => ?_) (by rfl) ?_
            · obtain ⟨x, t, rfl⟩ := q3 f hm
              exact PySem.W.Looks.now
            · have e : (Value.type "int" != Value.type "tuple") = true := by first | decide +kernel | rfl | decide
              rw [e]
              exact hq
          | false =>
            refine PySem.W.kat_kind (T := .type "str") q1 (by omega) (fun f hm => ?_) (by rfl) ?_
            · have z := q3 f hm
              simp only [Bool.false_eq_true, if_false] at z
              obtain ⟨x, t, rfl⟩ := z
              exact PySem.W.Looks.now
            · have e : (Value.type "str" != Value.type "tuple") = true := by first | decide +kernel | rfl | decide
              rw [e]
              exact hq
        · obtain ⟨es, a, ys, o, its, n, e1, g1, g2, g3, g4, g5, g6, g7⟩ := each p.1 hp
          obtain ⟨es', a', ys', o', its', n', e1', g1', g2', g3', g4', g5', g6', g7'⟩ := each q.1 hq
          show wpAny (model X.prog X.w) A (keyLt' (tuples' true) p.1 q.1) (fun r s'' => s'' = s' ∧ r = ltD (keyV vs ds p.1) (keyV vs ds q.1)) (fun _ _ => False) s'
          rw [e1, e1', g2, g2']
          refine PySem.W.kat_lt g4 g6 g4' g6' ?_
          have len : ∀ {es : List D} {sh : List Bool}, shp es = some sh → es.length = sh.length := by
            intro es
            induction es with
            | nil => intro sh h; cases h; rfl
            | cons e er ih =>
              intro sh h
              cases e with
              | int i =>
                simp only [shp, Option.map_eq_some_iff] at h
                obtain ⟨s1, h1, rfl⟩ := h
                simp [ih h1]
              | str i =>
                simp only [shp, Option.map_eq_some_iff] at h
                obtain ⟨s1, h1, rfl⟩ := h
                simp [ih h1]
              | _ => cases h
          have l1 : its.length = its'.length := by rw [← g7.length, ← g7'.length, g3.length, g3'.length, len g1, len g1']
          have e0 : decide (its.toArray.size < its'.toArray.size) = false := decide_eq_false (by simp [l1])
          rw [e0]
          exact kat_D g1 g1' g3 g3' g7 g7' ⟨rfl, rfl⟩
      · cases h
end T
end
section
set_option Elab.async false
set_option linter.all false
set_option maxRecDepth 100000
set_option maxHeartbeats 2000000
/-! T25: sorted(x): the call. -/
namespace T
open PySem PySem.Spec PyProof.Rows L2 SrtO
theorem zip3_rep {K : PySem.W.Frag} {u : List Addr} {H : Hp} : ∀ {l : List (D × V × Value)}, (∀ p ∈ l, Rep K u H p.1 p.2.1 ∧ RelV p.2.1 p.2.2) → RepL K u H (l.map (·.1)) (l.map (·.2.1)) ∧ Vals (l.map (·.2.1)) (l.map (·.2.2))
  | [], _ => ⟨rfl, .nil⟩
  | p :: l, h => by
    obtain ⟨a, b⟩ := zip3_rep fun q hq => h q (List.mem_cons_of_mem _ hq)
    obtain ⟨c, d⟩ := h p List.mem_cons_self
    exact ⟨⟨_, _, rfl, c, a⟩, .cons d b⟩
theorem zip3_of {K : PySem.W.Frag} {u : List Addr} {H : Hp} : ∀ {ds : List D} {xs : List V} {vs : List Value}, RepL K u H ds xs → Vals xs vs → ∃ l : List (D × V × Value), l.map (·.1) = ds ∧ l.map (·.2.1) = xs ∧ l.map (·.2.2) = vs ∧ ∀ p ∈ l, Rep K u H p.1 p.2.1 ∧ RelV p.2.1 p.2.2
  | [], _, _, h, hv => by
    rw [show _ = [] from h] at hv ⊢
    cases hv
    exact ⟨[], rfl, rfl, rfl, fun p hp => absurd hp (by simp)⟩
  | d :: ds, _, _, ⟨x, r, e, h1, h2⟩, hv => by
    subst e
    cases hv with
    | cons a b =>
      rename_i v vr
      obtain ⟨l, e1, e2, e3, q⟩ := zip3_of h2 b
      refine ⟨(d, x, v) :: l, by simp [e1], by simp [e2], by simp [e3], fun p hp => ?_⟩
      rcases List.mem_cons.mp hp with e | e
      · subst e; exact ⟨h1, a⟩
      · exact q p e
section
variable {X : Cx} {pins : List (Addr × Obj)} {σ : L2.St} {H : Hp} {s : Shared} {u : List Addr} {m : Mem}
theorem sorted_run {W : WX} {Q : VK} {r : Addr} {ds : List D} {xs : List V} {vs : List Value} (I : Inv X pins σ H s) (k : HRep X.K u H m) (rl : RepL X.K u H ds xs) (rv : Vals xs vs) (hz : vs.length ≤ sizeLine) (hs : sortable ds = true)
    (hcol : ∀ (E : Value → Shared → Prop) (R : List Value → Shared → Prop), (∀ h' tk, (∀ b o, s.heap.get? b = some o → h'.get? b = some o) → R vs { s with heap := h', toks := tk }) → wpAny (model X.prog X.w) X.A.in1 (collect (.ref r)) R E s)
    (q : PostE X.K X.mg u H σ W Q (.ok (.obj m.length) (m ++ [.lst (isort ltD ds)]))) : wpAny (model X.prog X.w) X.A (call (.builtin "sorted") [.ref r]) (EP X pins σ Q) X.xe s := by
  refine Calls.call_function_entry PyProof.Rows.kind_sorted PyProof.Rows.plain_sorted PyProof.Rows.entry_sorted (PyProof.Rows.args_sorted1 _) ?_
  unfold Builtin.«sorted»
  refine wpAny_bind (m := checkCount "sorted" 1 1 _) (wpAny_pure ?_)
  refine wpAny_bind (hcol _ _ fun h' tk hk => ?_)
  have I1 : Inv X pins σ H { s with heap := h', toks := tk } := I.kept hk
  refine wpAny_bind (wpAny_newList ?_ hz)
  have hoL : (h'.push (seqObj "list" vs.toArray 0)).get? h'.objs.size = some (seqObj "list" vs.toArray 0) := Heap.get?_push_size _ rfl
  show wpAny _ _ _ _ _ { s with heap := h'.push (seqObj "list" vs.toArray 0), toks := tk }
  refine wpAny_bind (wpAny_holding (wpAny_call_entry PyProof.Rows.slot_list_sort ⟨_, hoL, rfl⟩ PyProof.Rows.entry_list_sort
    (list_sort_ord (s := { s with heap := h'.push (seqObj "list" vs.toArray 0), toks := tk }) (ltv := fun v u => ltD (keyV vs ds v) (keyV vs ds u)) (Swo.pull swo_D _) hoL hz (fun h2 h'' keep => ?_) fun out o1 o2 => ⟨_, rfl, ?_⟩)
    (PyProof.Rows.args_list_sort _)))
  · refine sort_ok I1 rl rv hs h2 (h' := h'') (fun b o e => keep b o (Nat.ne_of_lt (Heap.lt_size e)) (Heap.get?_push_of_some _ e)) rfl
  · obtain ⟨l, e1, e2, e3, ea⟩ := zip3_of rl rv
    obtain ⟨e', he'⟩ := PyProof.Rows.sortedHeap_at (vs := vs) (out := out.toArray) hoL
    have eo : out = (isort (fun a b : D × V × Value => ltD a.1 b.1) l).map (·.2.2) := by
      rw [isort_uniq (Swo.pull swo_D _) o1 o2, ← e3, ← isort_map (lt := fun v u => ltD (keyV (l.map (·.2.2)) ds v) (keyV (l.map (·.2.2)) ds u)) (fun p : D × V × Value => p.2.2)]
      congr 1
      refine isort_congr l fun a ha b hb => ?_
      have key : ∀ p ∈ l, keyV (l.map (·.2.2)) ds p.2.2 = p.1 := fun p hp => by
        rw [e3]
        have hpv : p.2.2 ∈ vs := by rw [← e3]; exact List.mem_map.mpr ⟨p, hp, rfl⟩
        have hpd : p.1 ∈ ds := by rw [← e1]; exact List.mem_map.mpr ⟨p, hp, rfl⟩
        obtain ⟨w, h1, h2, h3⟩ := keyV_at rl rv hpv
        exact same_D (sortable_flat hs _ h3) (sortable_flat hs _ hpd) h1 h2 (ea p hp).1 (ea p hp).2
      show ltD (keyV (l.map (·.2.2)) ds a.2.2) (keyV (l.map (·.2.2)) ds b.2.2) = ltD a.1 b.1
      rw [key a ha, key b hb]
    have ed : isort ltD ds = (isort (fun a b : D × V × Value => ltD a.1 b.1) l).map (·.1) := by
      rw [← e1, ← isort_map (lt := ltD) (fun p : D × V × Value => p.1)]
    obtain ⟨z1, z2⟩ := zip3_rep (K := X.K) (u := u) (H := H) (l := isort (fun a b : D × V × Value => ltD a.1 b.1) l) fun p hp => ea p ((isort_perm _ _).mem_iff.mp hp)
    rw [← eo] at z2
    rw [← ed] at z1
    have hlen : ((isort (fun a b : D × V × Value => ltD a.1 b.1) l).map (·.2.1)).length ≤ sizeLine := by
      have z := congrArg List.length e3
      rw [List.length_map] at z
      rw [List.length_map, isort_length, z]
      exact hz
    refine wpAny_pure ⟨_, rfl, .ref h'.objs.size, upd H h'.objs.size (.lst _), I1.laid (t' := tk) (fun b o e => ?_) (Nat.le_refl _)
      (show ObjOk X.prog X.w _ _ _ (.lst _) from ⟨hlen, out, e', z2, he'⟩), rfl, post_lst q k z1 (I1.hok.fresh (Nat.le_refl _))⟩
    have hb : b < h'.objs.size := Heap.lt_size e
    rw [PyProof.Rows.sortedHeap_old (Nat.ne_of_lt hb) (by rw [size_push']; exact Nat.lt_succ_of_lt hb)]
    exact Heap.get?_push_of_some _ e
def colAt (m : Mem) (x : D) : Option (List D) := match seqAt m x with
  | some ds => some ds
  | none => (dkAt m x).map fun kvs => kvs.map (·.1)
/-- sorted(x) -/
def fSorted : D → Mem → Res D := fun x m => match colAt m x with
  | some ds => if sortable ds then .ok (.obj m.length) (m ++ [.lst (isort ltD ds)]) else .stuck
  | none => .stuck
/-- a walked thing, collected -/
theorem col_of (hc : X.calm = true) {x : D} {v : V} {w : Value} {ds : List D} (I : Inv X pins σ H s) (k : HRep X.K u H m) (e : colAt m x = some ds) (r : Rep X.K u H x v) (rv : RelV v w) : ∃ (a : Addr) (xs : List V) (vs : List Value), w = .ref a ∧ RepL X.K u H ds xs ∧ Vals xs vs ∧ vs.length ≤ sizeLine ∧
    ∀ (E : Value → Shared → Prop) (R : List Value → Shared → Prop), (∀ h' tk, (∀ b o, s.heap.get? b = some o → h'.get? b = some o) → R vs { s with heap := h', toks := tk }) → wpAny (model X.prog X.w) X.A.in1 (collect (.ref a)) R E s := by
  unfold colAt at e
  cases es : seqAt m x with
  | some ds' =>
    rw [es] at e
    cases e
    obtain ⟨a, xs, rfl, h1, h2⟩ := seqAt_v k es r
    cases rv
    rcases h1 with h1 | h1
    · obtain ⟨its, r1, pl, hz⟩ := I.list h1
      obtain ⟨o, ho, hcl, n, hd⟩ := pl.isList
      refine ⟨a, xs, its, rfl, h2, r1, by rw [← r1.length]; exact hz, fun E R h => ?_⟩
      exact wpAny_collect_seq a (.inl rfl) ho hcl hd (fun h' hk => h h' s.toks hk) (by rw [List.size_toArray, ← r1.length]; exact hz)
    · obtain ⟨its, r1, ⟨o, ho, hcl, n, hd⟩, hz⟩ := I.tuple h1
      refine ⟨a, xs, its, rfl, h2, r1, by rw [← r1.length]; exact hz, fun E R h => ?_⟩
      exact wpAny_collect_seq a (.inr rfl) ho hcl hd (fun h' hk => h h' s.toks hk) (by rw [List.size_toArray, ← r1.length]; exact hz)
  | none =>
    rw [es] at e
    obtain ⟨kvs, ek, rfl⟩ := Option.map_eq_some_iff.mp e
    obtain ⟨a, o, ho, rfl, h1, h2⟩ := lk_of k ek r
    cases rv
    obtain ⟨hdo, hlen⟩ := h2.isd
    obtain ⟨es', ep, En⟩ := ent_of I h1 (isDO_or hdo)
    have hsz : es'.size = kvs.length := En.size.trans hlen
    have rows : ∀ (l : List (D × D)) (t : List DictEntry), (∀ (i : Nat) (p : D × D), l[i]? = some p → ∃ en xk, t[i]? = some en ∧ RelV xk en.key ∧ Rep X.K u H p.1 xk) → l.length = t.length → ∃ xs, RepL X.K u H (l.map (·.1)) xs ∧ Vals xs (t.map (·.key)) := by
      intro l
      induction l with
      | nil => intro t _ hl; cases t with
        | nil => exact ⟨[], rfl, .nil⟩
        | cons _ _ => simp at hl
      | cons p l ih =>
        intro t hh hl
        cases t with
        | nil => simp at hl
        | cons en t =>
          obtain ⟨xs, q1, q2⟩ := ih t (fun i p h => by
            obtain ⟨en, xk, a, b, c⟩ := hh (i + 1) p (by simpa using h)
            exact ⟨en, xk, by simpa using a, b, c⟩) (by simpa using hl)
          obtain ⟨en', xk, a, b, c⟩ := hh 0 p rfl
          cases a
          exact ⟨xk :: xs, ⟨xk, xs, rfl, c, q1⟩, .cons b q2⟩
    obtain ⟨xs, q1, q2⟩ := rows kvs es'.toList (fun i p h => by
      have hi : i < kvs.length := (List.getElem?_eq_some_iff.mp h).1
      obtain ⟨xk, xv, r1, r2, r3, r4⟩ := ent_at En (i := i) (show i < es'.size by omega)
      exact ⟨es'[i], xk, by rw [Array.getElem?_toList, Array.getElem?_eq_getElem (show i < es'.size by omega)], r1, h2.key h r3⟩) (show kvs.length = es'.toList.length by rw [Array.length_toList]; exact hsz.symm)
    have hz : es'.size ≤ sizeLine := by
      rw [hsz, ← hlen]
      rcases isDO_or hdo with ⟨ys, rfl⟩ | ⟨ys, rfl⟩
      · obtain ⟨_, z, _⟩ := I.hok a _ h1; exact z
      · obtain ⟨_, z, _⟩ := I.hok a _ h1; exact z
    refine ⟨a, xs, es'.toList.map (·.key), rfl, q1, q2, by rw [List.length_map, Array.length_toList]; exact hz, fun E R h => ?_⟩
    refine PySem.W.kdu_collect (KdlSrc.rawDict (es := es') (ep := ep) En.sm) (show X.A.in1.handled = none from I.ok.hd hc) En.raw hz fun h' tk acc hk hacc => ?_
    have ea : acc.toList = es'.toList.map (·.key) := by
      apply List.ext_getElem?
      intro i
      rw [List.getElem?_map]
      by_cases hi : i < es'.size
      · have hia : i < acc.size := by rw [hacc.1]; exact hi
        obtain ⟨hi', e⟩ := hacc.2 i acc[i] (Array.getElem?_eq_getElem hia)
        rw [Array.getElem?_toList, Array.getElem?_eq_getElem hia, Array.getElem?_toList, Array.getElem?_eq_getElem hi, e]
        rfl
      · rw [Array.getElem?_toList, Array.getElem?_toList, Array.getElem?_eq_none (by rw [hacc.1]; omega), Array.getElem?_eq_none (by omega)]
        rfl
    rw [ea]
    exact h h' tk hk
theorem cm_sorted (hc : X.calm = true) : CallM X (.builtin "sorted") (g1 fSorted) := by
  intro W pins s σ H vs us Q u ds m tk I rv k pl q
  obtain ⟨x, v, rfl, rfl, rx, q⟩ := shape1 pl q
  obtain ⟨w, rfl, rw1⟩ := vals1 rv
  unfold fSorted at q
  cases e : colAt m x with
  | none => rw [e] at q; exact q.elim
  | some ds =>
    rw [e] at q
    simp only at q
    by_cases hs : sortable ds = true
    · rw [if_pos hs] at q
      obtain ⟨a, xs, ws, rfl, h1, h2, hz, hcol⟩ := col_of hc I k e rx rw1
      exact sorted_run I k h1 h2 hz hs hcol q
    · rw [if_neg hs] at q
      exact q.elim
end
end T
end
section
set_option Elab.async false
set_option linter.all false
set_option maxRecDepth 100000
set_option maxHeartbeats 2000000
/-! T26: tables of code objects; sorted(x, key=lambda ..) of nothing. -/
namespace T
open PySem PySem.Spec PyProof.Rows L2
/-! ### tables -/
def tabQ : Addr × Cell → Option (Addr × Str)
  | (a, .tab _ q) => some (a, q)
  | _ => none
def tabsU (u : List Addr) (m : Mem) : List (Addr × Str) := (u.zip m).filterMap tabQ
section
variable {K : PySem.W.Frag} {u : List Addr} {H H1 : Hp} {m : Mem}
theorem tabsU_mem {p : Addr × Str} (h : p ∈ tabsU u m) : ∃ (n : Nat) (d : Str × Option Str), u[n]? = some p.1 ∧ m[n]? = some (.tab d p.2) := by
  obtain ⟨⟨a, c⟩, h1, h2⟩ := List.mem_filterMap.mp h
  obtain ⟨n, hn, e⟩ := List.mem_iff_getElem.mp h1
  rw [List.length_zip] at hn
  rw [List.getElem_zip] at e
  cases e
  cases hc : m[n] with
  | tab d q =>
    rw [hc] at h2
    cases h2
    exact ⟨n, d, List.getElem?_eq_getElem (by omega), by rw [List.getElem?_eq_getElem (show n < m.length by omega), hc]⟩
  | _ => rw [hc] at h2; cases h2
theorem tabsU_of {n : Nat} {a : Addr} {d : Str × Option Str} {q : Str} (h1 : u[n]? = some a) (h2 : m[n]? = some (.tab d q)) : (a, q) ∈ tabsU u m := by
  refine List.mem_filterMap.mpr ⟨(a, .tab d q), ?_, rfl⟩
  obtain ⟨l1, e1⟩ := List.getElem?_eq_some_iff.mp h1
  obtain ⟨l2, e2⟩ := List.getElem?_eq_some_iff.mp h2
  refine List.mem_iff_getElem.mpr ⟨n, by rw [List.length_zip]; omega, ?_⟩
  rw [List.getElem_zip, e1, e2]
theorem HRep.tabsT (k : HRep K u H m) : LamX.Tabs (tabsU u m) H := fun p hp => by
  obtain ⟨n, d, h1, h2⟩ := tabsU_mem hp
  exact (k.cell n _ _ h2 h1).2
theorem HRep.tab_one (k : HRep K u H m) {n : Nat} {a : Addr} {d : Str × Option Str} {q : Str} (h1 : u[n]? = some a) (h2 : m[n]? = some (.tab d q)) : ∀ p ∈ tabsU u m, p.1 = a → p.2 = q := fun p hp e => by
  obtain ⟨j, d', g1, g2⟩ := tabsU_mem hp
  rw [e] at g1
  obtain ⟨l1, e1⟩ := List.getElem?_eq_some_iff.mp h1
  obtain ⟨l2, e2⟩ := List.getElem?_eq_some_iff.mp g1
  have z : n = j := (List.getElem_inj k.nd).mp (e1.trans e2.symm)
  subst z
  rw [h2] at g2
  cases g2
  rfl
theorem ext_of_n (e : LamX.ExtN H H1) : Ext H H1 := ⟨fun b xs h => e b _ h (fun _ z => nomatch z), fun b o x h => e b _ h (fun _ z => nomatch z), fun b q h => e b _ h LamX.codeO_ne⟩
/-- a lambda was made -/
theorem HRep.lam (k : HRep K u H m) (e : LamX.ExtN H H1) (t : LamX.Tabs (tabsU u m) H1) : HRep K u H1 m := by
  have cellOk : ∀ (n : Nat) (c : Cell) (a : Addr), m[n]? = some c → u[n]? = some a → CRep K u H1 a c ∧ H1 a ≠ none := fun n c a e1 e2 => by
    have q := k.cell n c a e1 e2
    have other : (∀ ps, H a ≠ some (.tbl ps)) → CRep K u H1 a c ∧ H1 a ≠ none := fun nt => by
      have ha := k.there a (List.mem_of_getElem? e2)
      cases ho : H a with
      | none => exact absurd ho ha
      | some o =>
        have hk := e a o ho (fun ps z => nt ps (by rw [ho, z]))
        refine ⟨q.mono (Grow.refl u) (ext_of_n e) ⟨by rw [hk, ho], fun dx z => ?_⟩, by rw [hk]; exact fun z => nomatch z⟩
        rcases z with z | z
        · rw [e dx _ z (fun _ z => nomatch z), z]
        · rw [e dx _ z (fun _ z => nomatch z), z]
    cases c with
    | tab d q' =>
      have z := t (a, q') (tabsU_of e2 e1)
      refine ⟨⟨q.1, z⟩, ?_⟩
      obtain ⟨ps, h1, _⟩ := z
      rw [h1]
      exact fun z => nomatch z
    | lst ds =>
      refine other fun ps z => ?_
      obtain ⟨o, h1, h2⟩ := q
      rw [h1] at z
      cases z
      exact h2
    | dct ds =>
      refine other fun ps z => ?_
      obtain ⟨o, h1, h2⟩ := q
      rw [h1] at z
      cases z
      exact h2
    | lk c =>
      refine other fun ps z => ?_
      cases c with
      | lst ds => obtain ⟨ob, o, h1, h2⟩ := q; rw [h1] at z; cases z
      | dct ds => obtain ⟨ob, o, h1, h2⟩ := q; rw [h1] at z; cases z
      | _ => exact q
    | ins c vs =>
      refine other fun ps z => ?_
      obtain ⟨dx, xs, h1, _⟩ := q
      rcases h1 with ⟨h1, _⟩ | ⟨h1, _⟩
      · rw [h1] at z; cases z
      · rw [h1] at z; unfold SlX.SlO at z; cases z
  refine ⟨k.len, k.nd, fun a ha => ?_, fun n c a e1 e2 => (cellOk n c a e1 e2).1⟩
  obtain ⟨n, hn, e1⟩ := List.mem_iff_getElem.mp ha
  have hm : n < m.length := by rw [← k.len]; exact hn
  exact (cellOk n m[n] a (List.getElem?_eq_getElem hm) (by rw [List.getElem?_eq_getElem hn, e1])).2
end
/-- the table of the def d stands in memory -/
def isTab (d : Str × Option Str) (q : Str) : Cell → Bool
  | .tab d' q' => decide (d' = d) && decide (q' = q)
  | _ => false
def tabIn (d : Str × Option Str) (q : Str) (m : Mem) : Bool := m.any (isTab d q)
theorem tabIn_v {K : PySem.W.Frag} {u : List Addr} {H : Hp} {m : Mem} {d : Str × Option Str} {q : Str} (k : HRep K u H m) (h : tabIn d q m = true) : ((He.cT K d).2, q) ∈ tabsU u m ∧ ∀ p ∈ tabsU u m, p.1 = (He.cT K d).2 → p.2 = q := by
  obtain ⟨c, hc, hi⟩ := List.any_eq_true.mp h
  obtain ⟨n, hn, e⟩ := List.mem_iff_getElem.mp hc
  have hu : n < u.length := by rw [k.len]; exact hn
  cases c with
  | tab d' q' =>
    have hi : (decide (d' = d) && decide (q' = q)) = true := hi
    rw [Bool.and_eq_true] at hi
    obtain rfl := of_decide_eq_true hi.1
    obtain rfl := of_decide_eq_true hi.2
    have e1 : m[n]? = some (.tab d' q') := by rw [List.getElem?_eq_getElem hn, e]
    have e2 : u[n]? = some u[n] := List.getElem?_eq_getElem hu
    have z := (k.cell n _ _ e1 e2).1
    rw [z] at e2
    exact ⟨tabsU_of e2 e1, k.tab_one e2 e1⟩
  | _ => cases hi
section
variable {X : Cx}
/-- a lambda as a value that nobody looks into -/
theorem pe_lamv {d : Str × Option Str} {params : Arguments} {body : Expr} {scope : Scope} {pos : Pos} (TB : LamX.TabB X.base X.mg (He.cT X.K d).1 (He.cT X.K d).2) (hcode : X.env.code = .ref (He.cT X.K d).1) (hdef : defaultsOf params X.env = ([], []))
    (hfree : ∀ y ∈ scope.names, y.2 = .free → ∃ c, X.env.cells.lookup y.1 = some c) :
    PE X (.Lambda params body scope pos) (fun σ H Q => ∃ T, LamX.Tabs T H ∧ ((He.cT X.K d).2, X.env.qual ++ "<lambda>") ∈ T ∧ (∀ p ∈ T, p.1 = (He.cT X.K d).2 → p.2 = X.env.qual ++ "<lambda>") ∧ ∀ f H1, LamX.ExtN H H1 → LamX.Tabs T H1 → Q (.ref f) H1) := by
  refine ⟨fun pins s σ H Q I ⟨T, h1, h2, h3, h4⟩ => ?_⟩
  exact LamX.lam_make2 I TB hcode h2 h3 h1 hdef hfree fun f c' pm ctv H1 s' I1 eN T1 hf hfn hfr hco => ⟨.ref f, H1, I1, rfl, h4 f H1 eN T1⟩
end
/-! ### sorted of nothing, by a key -/
section
variable {prog : Program} {w : World} {A : Around} {E : Value → Shared → Prop} {s : Shared}
theorem ksk_empty {a : Addr} {f : Value} {n : Nat} {P : PySem.Fin → Shared → Prop} (ho : s.heap.get? a = some (seqObj "list" #[] n))
    (h : ∀ h' c, (∀ b o, b ≠ a → s.heap.get? b = some o → h'.get? b = some o) → h'.get? a = some (seqObj "list" #[] c) → P (.done (.ret .none)) { s with heap := h' }) : wpAny (model prog w) A (ksk_tree a f false) P E s := by
  have ha : a < s.heap.objs.size := Heap.lt_size ho
  have s1 := Heap.SameBut.update s.heap a (Obj.mapSeq fun _ => (#[] : Array Value))
  obtain ⟨e1, ho1⟩ : ∃ e1, (s.heap.update a (Obj.mapSeq fun _ => (#[] : Array Value))).get? a = some (seqObj "list" #[] e1) := ⟨_, get?_update_seq ho fun _ => #[]⟩
  unfold ksk_tree
  refine wpAny_bind (listItems_at ho rfl ?_)
  refine wpAny_bind (listUpdate_at ho rfl ?_ (Nat.zero_le _) (Nat.zero_le _))
  refine wpAny_bind (seqEpoch_at ho1 rfl ?_)
  refine wpAny_bind (wpAny_newTuple ?_ (Nat.zero_le _))
  refine wpAny_bind (wpAny_newList ?_ (Nat.zero_le _))
  refine wpAny_holding ?_
  have hsz : ((s.heap.update a (Obj.mapSeq fun _ => (#[] : Array Value))).push (seqObj "tuple" #[] 0)).objs.size = s.heap.objs.size + 1 := by rw [size_push', Heap.size_update]
  show wpAny (model prog w) A (ksk_rest a f false #[] e1 (.ref ((s.heap.update a (Obj.mapSeq fun _ => (#[] : Array Value))).push (seqObj "tuple" #[] 0)).objs.size)) P E { s with heap := ((s.heap.update a (Obj.mapSeq fun _ => (#[] : Array Value))).push (seqObj "tuple" #[] 0)).push (seqObj "list" #[] 0) }
  have hk : (((s.heap.update a (Obj.mapSeq fun _ => (#[] : Array Value))).push (seqObj "tuple" #[] 0)).push (seqObj "list" #[] 0)).get? ((s.heap.update a (Obj.mapSeq fun _ => (#[] : Array Value))).push (seqObj "tuple" #[] 0)).objs.size = some (seqObj "list" #[] 0) := Heap.get?_push_size _ rfl
  have hka : ((s.heap.update a (Obj.mapSeq fun _ => (#[] : Array Value))).push (seqObj "tuple" #[] 0)).objs.size ≠ a := by rw [hsz]; exact Nat.ne_of_gt (Nat.lt_succ_of_lt ha)
  have ho2 : (((s.heap.update a (Obj.mapSeq fun _ => (#[] : Array Value))).push (seqObj "tuple" #[] 0)).push (seqObj "list" #[] 0)).get? a = some (seqObj "list" #[] e1) := Heap.get?_push_of_some _ (Heap.get?_push_of_some _ ho1)
  have kp : ∀ b o, b ≠ a → s.heap.get? b = some o → (((s.heap.update a (Obj.mapSeq fun _ => (#[] : Array Value))).push (seqObj "tuple" #[] 0)).push (seqObj "list" #[] 0)).get? b = some o ∧ b ≠ ((s.heap.update a (Obj.mapSeq fun _ => (#[] : Array Value))).push (seqObj "tuple" #[] 0)).objs.size := fun b o hb e =>
    ⟨Heap.get?_push_of_some _ (Heap.get?_push_of_some _ ((s1.2 b hb).trans e)), by rw [hsz]; exact Nat.ne_of_lt (Nat.lt_succ_of_lt (Heap.lt_size e))⟩
  generalize ((s.heap.update a (Obj.mapSeq fun _ => (#[] : Array Value))).push (seqObj "tuple" #[] 0)).objs.size = kS at hk hka kp ⊢
  generalize ((s.heap.update a (Obj.mapSeq fun _ => (#[] : Array Value))).push (seqObj "tuple" #[] 0)).push (seqObj "list" #[] 0) = g at hk ho2 kp ⊢
  unfold ksk_rest
  refine wpAny_bind (wpAny_rule ?_)
  refine wpAny_bind (wpAny_pure ?_)
  refine wpAny_bind (listItems_at hk rfl ?_)
  unfold ksk_end
  refine wpAny_bind (wpAny_pure ?_)
  refine wpAny_bind (wpAny_pure ?_)
  have t1 := Heap.SameBut.update g kS (Obj.mapSeq fun _ => (#[] : Array Value))
  have ho3 : (g.update kS (Obj.mapSeq fun _ => (#[] : Array Value))).get? a = some (seqObj "list" #[] e1) := (t1.2 a hka.symm).trans ho2
  have t2 := Heap.SameBut.update (g.update kS (Obj.mapSeq fun _ => (#[] : Array Value))) a (Obj.mapSeq fun _ => (#[] : Array Value))
  obtain ⟨c2, hc2⟩ : ∃ c2, ((g.update kS (Obj.mapSeq fun _ => (#[] : Array Value))).update a (Obj.mapSeq fun _ => (#[] : Array Value))).get? a = some (seqObj "list" #[] c2) := ⟨_, get?_update_seq ho3 fun _ => #[]⟩
  have z0 : ((#[] : Array Value).zip (#[] : Array Value)) = #[] := by simp
  simp only [Bool.false_eq_true, if_false]
  rw [z0]
  have z1 : (Array.map (fun x : Keyed => x.2) (arrOf (SortSt.mk' general' #[] #[] 7 none))) = #[] := by
    show Array.map (fun x : Keyed => x.2) (#[] : Array Keyed) = #[]
    simp
  unfold ksk_tail
  dsimp only
  rw [z1]
  simp only [Bool.false_eq_true, if_false]
  refine wpAny_bind (listUpdate_at hk rfl ?_ (Nat.zero_le _) (Nat.zero_le _))
  refine wpAny_bind (wpAny_letGo ?_)
  refine wpAny_bind (seqEpoch_at ho3 rfl ?_)
  refine wpAny_bind (listUpdate_at ho3 rfl ?_ (Nat.zero_le _) (Nat.zero_le _))
  simp only [bne_self_eq_false, Bool.false_eq_true, if_false]
  refine wpAny_pure (h _ c2 (fun b o hb e => ?_) hc2)
  exact (t2.2 b hb).trans ((t1.2 b (kp b o hb e).2).trans (kp b o hb e).1)
end
section
variable {X : Cx}
def rSortK0 (K : PySem.W.Frag) : List V → List V → Hp → VK → Prop := fun vs zs H Q => ∃ a f, vs = [V.ref a] ∧ zs = [V.ref f] ∧ SqL K H a [] ∧ ∀ p, H p = none → Q (.ref p) (upd H p (.lst []))
theorem cr_sortK0 : CallRK X (.builtin "sorted") [Str.ofString "key"] (rSortK0 X.K) := by
  intro pins s σ H vs zs us ws Q I r rz h
  obtain ⟨a, f, rfl, rfl, hs, q⟩ := h
  obtain rfl := Vals.ref1 r
  obtain ⟨w1, rfl, e1⟩ := vals1 rz
  obtain rfl : w1 = Value.ref f := e1
  obtain ⟨its, rv, hl, hz⟩ := I.list hs
  cases rv
  have hl := hl.isList
  refine PyProof.Rows.call_function_entry_kw PyProof.Rows.kind_sorted PyProof.Rows.plain_sorted PyProof.Rows.entry_sorted (PyProof.Rows.ksk_s1 _ _) ?_
  unfold Builtin.«sorted»
  refine wpAny_bind (m := checkCount "sorted" 1 1 _) (wpAny_pure ?_)
  refine wpAny_bind (collect_list (vs := []) hl ?_ (Nat.zero_le _))
  refine wpAny_bind (wpAny_newList ?_ (Nat.zero_le _))
  have hsz : ((s.heap.push (seqObj "list" #[] 0)).update s.heap.objs.size (Obj.mapSeq (· ++ ([] : List Value).toArray))).objs.size = s.heap.objs.size + 1 := by
    rw [Heap.size_update, size_push']
  have hoL : (((s.heap.push (seqObj "list" #[] 0)).update s.heap.objs.size (Obj.mapSeq (· ++ ([] : List Value).toArray))).push (seqObj "list" #[] 0)).get? (s.heap.objs.size + 1) = some (seqObj "list" #[] 0) := by
    rw [← hsz]; exact Heap.get?_push_size _ rfl
  have keep : ∀ b o, s.heap.get? b = some o → (((s.heap.push (seqObj "list" #[] 0)).update s.heap.objs.size (Obj.mapSeq (· ++ ([] : List Value).toArray))).push (seqObj "list" #[] 0)).get? b = some o := fun b o q => by
    have hlt : b < s.heap.objs.size := Heap.lt_size q
    rw [Heap.get?_push_ne _ _ _ (by rw [hsz]; exact Nat.ne_of_lt (Nat.lt_succ_of_lt hlt)), Heap.get?_update_ne _ _ _ _ (Nat.ne_of_lt hlt), Heap.get?_push_ne _ _ _ (Nat.ne_of_lt hlt)]
    exact q
  show wpAny _ _ _ _ _ { s with heap := ((s.heap.push (seqObj "list" #[] 0)).update s.heap.objs.size (Obj.mapSeq (· ++ ([] : List Value).toArray))).push (seqObj "list" #[] 0) }
  rw [hsz]
  refine wpAny_bind (wpAny_holding (wpAny_call_entry_kw PyProof.Rows.slot_list_sort ⟨_, hoL, rfl⟩ PyProof.Rows.entry_list_sort ?body (PyProof.Rows.ksk_l1 _ _)))
  case body =>
    show wpAny (model X.prog X.w) X.A.in1.in1 (ksk_tree (s.heap.objs.size + 1) (.ref f) false) _ _ _
    refine ksk_empty (s := { s with heap := ((s.heap.push (seqObj "list" #[] 0)).update s.heap.objs.size (Obj.mapSeq (· ++ ([] : List Value).toArray))).push (seqObj "list" #[] 0) }) hoL fun h' c kp ha => ⟨_, rfl, ?_⟩
    refine wpAny_pure ⟨_, rfl, .ref _, upd H (s.heap.objs.size + 1) (.lst []), I.laid (t' := s.toks) (fun b o e => kp b o (Nat.ne_of_lt (Nat.lt_succ_of_lt (Heap.lt_size e))) (keep b o e)) (Nat.le_succ _) ⟨Nat.zero_le _, [], c, .nil, ha⟩, rfl, q _ (I.hok.fresh (Nat.le_succ _))⟩
def mSortK0 (d : Str × Option Str) (q : Str) (m : EM) : EM := fun r μ => (m r μ).bind fun x μ1 => if tabIn d q μ1 then match lstOf μ1 x with
  | some [] => .ok (.obj μ1.length) (μ1 ++ [.lst []])
  | _ => .stuck else .stuck
theorem me_sortK0 {x : Str} {p pos lpos kpos : Pos} {e : Expr} {m : EM} {d : Str × Option Str} {q : Str} {params : Arguments} {body : Expr} {scope : Scope} (TB : LamX.TabB X.base X.mg (He.cT X.K d).1 (He.cT X.K d).2) (hcode : X.env.code = .ref (He.cT X.K d).1) (hq : X.env.qual ++ "<lambda>" = q)
    (hg : Gl X x) (hm : X.mg x = none) (hv : bootBuiltins x = some (.builtin "sorted")) (he : ME X e m) (hdef : defaultsOf params X.env = ([], [])) (hfree : ∀ y ∈ scope.names, y.2 = .free → ∃ c, X.env.cells.lookup y.1 = some c) (hn : x ≠ "__name__" := by decide) (hdb : (x == ("__debug__" : Str)) = false := by decide)
    (hs : starEach [e] X.env = (false, eval e X.env) :: starEach [] X.env := by rfl) (hs2 : backTo pos (starEach [e] X.env) = (false, eval e X.env) :: backTo pos (starEach [] X.env) := by rfl) (hpl : (backTo pos (starEach [e] X.env)).any (·.1) = false := by rfl) :
    ME X (.Call (.Name x p) [e] [⟨some (Str.ofString "key"), .Lambda params body scope lpos, kpos⟩] pos) (mSortK0 d q m) := by
  subst hq
  refine ⟨fun W tk => PE.weak (pe_callBK (ks := [Str.ofString "key"]) cr_sortK0 hg hm hv ((ma_cons he ma_nil hs).run W tk) (pk_cons (pe_lamv TB hcode hdef hfree) pk_nil) hn hdb hs2 hpl rfl rfl rfl) fun σ H Q h => ?_⟩
  obtain ⟨u, r, μ, h1, h2, h3⟩ := h
  refine ⟨u, r, μ, h1, h2, ?_⟩
  unfold mSortK0 at h3
  cases em : m r μ with
  | stuck => rw [em] at h3; exact h3.elim
  | exc c p m1 =>
    rw [em] at h3
    show PostA _ _ _ _ _ _ _ (aCons m aNil r μ)
    unfold aCons
    rw [em]
    exact h3
  | ok x m1 =>
    rw [em] at h3
    show PostA _ _ _ _ _ _ _ (aCons m aNil r μ)
    unfold aCons aNil
    rw [em]
    intro u' H' vs g ex k pl
    obtain ⟨w, rfl, rx⟩ := one_any pl
    rw [Res.bind_ok] at h3
    by_cases ht : tabIn d (X.env.qual ++ "<lambda>") m1 = true
    · rw [if_pos ht] at h3
      cases el : lstOf m1 x with
      | none => rw [el] at h3; exact h3.elim
      | some ds =>
        rw [el] at h3
        cases ds with
        | nil =>
          obtain ⟨t1, t2⟩ := tabIn_v k ht
          refine ⟨tabsU u' m1, k.tabsT, t1, t2, fun f H1 eN T1 => ?_⟩
          have k1 := k.lam eN T1
          have ex1 := ext_of_n eN
          obtain ⟨a, xs, rfl, hS, hr⟩ := lstOf_v k1 el (Rep.mono (Grow.refl _) ex1 x rx)
          rw [show xs = [] from hr] at hS
          exact ⟨a, f, rfl, rfl, hS, fun p hp => post_lst (PostE.later g (ex.trans ex1) h3) k1 rfl hp⟩
        | cons _ _ => exact h3.elim
    · rw [if_neg ht] at h3
      exact h3.elim
end
end T
end
section
set_option Elab.async false
set_option linter.all false
set_option maxRecDepth 100000
set_option maxHeartbeats 2000000
/-! T27: own errors raised: classes without own __init__. -/
namespace T
open PySem PySem.Spec PyProof.Rows L2
/-- an error class of the module without own __init__ -/
structure ErrF (K : PySem.W.Frag) (mg : Str → Option Value) (c : EN) : Prop where
  ex : PySem.W.excIn K (He.ga K c.name) He.veBase "ValueError.__new__" = true
  kp : PySem.W.keepIn K (.ref (He.ga K c.name)) = true
  sub : PySem.W.subIn K (.ref (He.ga K c.name)) (.type "BaseException") = some true
  ty : PySem.W.typeIn K (.ref (He.ga K c.name)) = some (.type "type")
  mgx : mg c.name = some (.ref (He.ga K c.name))
theorem ErrF.of {K : PySem.W.Frag} {mg : Str → Option Value} {c : EN} (h : (He.Fa.exc c.name).ok K = true) (g : mg c.name = some (.ref (He.ga K c.name))) : ErrF K mg c :=
  let ⟨a, b, c, d⟩ := He.exc_ok h
  ⟨a, b, c, d, g⟩
def sRaise0 (c : EN) : SM := fun r μ => .exc c none r μ
theorem ms_raise0 {X : Cx} {c : EN} {x m : Str} {j : Nat} {p p2 pos pos' : Pos} (hc : X.calm = true) (F : ErrF X.K X.mg c) (hx : x = c.name) (hg : Gl X x) (hdb : (x == ("__debug__" : Str)) = false := by decide) :
    MS X (.Raise (some (.Call (.Name x p) [.Constant (.str m) j p2] [] pos)) none pos') (sRaise0 c) := by
  subst hx
  refine ⟨fun W tk => PS.weak (ps_raise hc tk (pmk_own PySem.F.excBase_ValueError F.ex F.mgx F.kp (raises_own F.sub F.ty) hg hdb)) fun D' σ H ⟨u, r, μ, h1, h2, h3⟩ => ?_⟩
  exact h3 u H σ _ none (Grow.refl _) (Ext.refl _) h1 h2 ⟨rfl, rfl⟩
end T
end
section
set_option Elab.async false
set_option linter.all false
set_option maxRecDepth 100000
set_option maxHeartbeats 2000000
/-! T28: try with several clauses, named or not. -/
namespace T
open PySem PySem.Spec PyProof.Rows L2
/-- a clause's wish: the class, the slot of its name, its suite -/
abbrev Hd := Value × Option Nat × (Addr → Value → Option Addr → TS)
def unI (i : Option Nat) (σ : L2.St) : L2.St := match i with
  | some i => σ.set i none
  | none => σ
def setI (i : Option Nat) (a : Addr) (σ : L2.St) : L2.St := match i with
  | some i => σ.set i (some (.ref a))
  | none => σ
def endsI (i : Option Nat) (D : Ends) : Ends := { nx := fun σ' H' => D.nx (unI i σ') H', rt := D.rt, bk := fun σ' H' => D.bk (unI i σ') H', ct := fun σ' H' => D.ct (unI i σ') H' }
def wMix (K : PySem.W.Frag) (Wout : WX) (D : Ends) : List Hd → WX
  | [] => Wout
  | (c, i, ts) :: r => fun cls d σ H => ∃ b, PySem.W.exmOne K cls c = some b ∧ (b = true → ∀ a, H a = none → ts a cls d (endsI i D) (setI i a σ) H) ∧ (b = false → wMix K Wout D r cls d σ H)
inductive HdsM (X : Cx) : List ExceptHandler → List Hd → Prop
  | nil : HdsM X [] []
  | one {x : Str} {c : Value} {ts : Addr → Value → Option Addr → TS} {b₀ : Stmt} {suite : List Stmt} {np pos' : Pos} {hds : List ExceptHandler} {l : List Hd} (hc : Names X x c)
      (hsu : ∀ (a : Addr) (oe : Obj) (cls : Value) (d : Option Addr) (pn : List (Addr × Obj)), Zc cls d oe → (∃ vs, oe.data = .fields vs) → PSs (X.suite a ((a, oe) :: pn)) (b₀ :: suite) (ts a cls d)) (r : HdsM X hds l) :
      HdsM X (.ExceptHandler (some (.Name x np)) none (b₀ :: suite) pos' :: hds) ((c, none, ts) :: l)
  | as_ {x n : Str} {i : Nat} {c : Value} {ts : Addr → Value → Option Addr → TS} {b₀ : Stmt} {suite : List Stmt} {np pos' : Pos} {hds : List ExceptHandler} {l : List Hd} (hN : X.N.Nodup) (hi : X.N[i]? = some n) (hln : X.env.kindOf n = some .local) (hc : Names X x c)
      (hsu : ∀ (a : Addr) (oe : Obj) (cls : Value) (d : Option Addr) (pn : List (Addr × Obj)), Zc cls d oe → (∃ vs, oe.data = .fields vs) → PSs (X.suite a ((a, oe) :: pn)) (b₀ :: suite) (ts a cls d)) (r : HdsM X hds l) :
      HdsM X (.ExceptHandler (some (.Name x np)) (some n) (b₀ :: suite) pos' :: hds) ((c, some i, ts) :: l)
section
variable {X : Cx} {body : List Stmt} {h₀ : ExceptHandler} {hds : List ExceptHandler} {l : List Hd} {pos : Pos} {tb : WX → TS} {Wout : WX}
theorem ps_try_mix (hs : X.stack = X.env :: X.outer) (hf : X.env.frame = some X.env.locals) (tk : Takes X Wout)
    (hb : ∀ (W : WX) (pn : List (Addr × Obj)) (xe : Value → Shared → Prop), Takes (X.tr pn xe) W → PassesOwn (model X.prog X.w) X.A X.env xe → PSs (X.tr pn xe) body (tb W))
    (hh : HdsM X (h₀ :: hds) l) : PS X (.Try body (h₀ :: hds) [] [] pos) (fun D σ H => tb (wMix X.K Wout D l) D σ H) := by
  refine ⟨fun pins s σ H D I h => ?_⟩
  have ok := I.ok
  have hfr : X.A.frames = some (X.env :: X.outer) := by rw [ok.frames, hs]
  refine wpAny_Try_except ?_
  refine wpAny_mono ((hb (wMix X.K Wout D l) (X.pn ++ pins) (fun e s₁ => wpAny (model X.prog X.w) X.A (noteFrame e X.env) (fun _ s₂ => wpAny (model X.prog X.w) X.A (setFlight e none) (fun _ s₃ =>
    wpAny (model X.prog X.w) X.A (handleBy e X.env (h₀ :: hds)) (SP X pins D) X.xe s₃) X.xe s₂) X.xe s₁) (fun u s' xx => ?_) PassesOwn.looking).run [] s σ H D (I.toTry _) h) (fun f s1 hsp => ?_) (fun e s1 he => he)
  · -- the catch
    obtain ⟨a, B, sI, pins', σ', H', cls, d, rfl, J', nb, up, sky, na, os, ag, w⟩ := xx
    have J : Inv X pins σ' H' sI := J'.ofTry ok
    have sky' : Sky B (X.env :: X.outer) a (Zc cls d) X.env.locals s'.heap := by rw [← hs]; exact sky
    show wpAny (model X.prog X.w) X.A (noteFrame (.ref a) X.env) _ _ _
    refine Sky.land Zc.steady hfr hf sky' fun h3 fl3 up3 => ?_
    have J3 : Inv X pins σ' H' { s' with heap := h3 } := J.landed nb fl3.1 (up.trans up3) os ag
    obtain ⟨oe3, vs3, he3, hz3, hd3⟩ := fl3.there
    have notFr : ∀ {h : Heap} {o : Obj} {vs : Array Value}, h.FunFrames B (X.env :: X.outer) → h.get? a = some o → o.data = .fields vs → a ∉ frs (X.env :: X.outer) := fun {h o vs} ff e dd hm => by
      obtain ⟨_, o', e', hnf⟩ := ff.mem hm
      rw [e] at e'; cases e'
      exact hnf _ dd
    have nfr := notFr fl3.2.2.1 he3 hd3
    have nL : a ≠ X.env.locals := fun z => nfr (List.mem_filterMap.mpr ⟨X.env, List.mem_cons_self, by rw [hf, z]⟩)
    have nF : a ∉ X.fs := fun hm => by
      obtain ⟨e, he, q⟩ := List.mem_filterMap.mp hm
      exact nfr (List.mem_filterMap.mpr ⟨e, List.mem_cons_of_mem _ he, q⟩)
    have S3 := J3.suite he3 hd3 na nL nF
    have tst : ∀ {x : Str} {c : Value} {np : Pos} {Q : Value → Shared → Prop} {E : Value → Shared → Prop}, Names X x c → Q c { s' with heap := h3 } → wpAny (model X.prog X.w) (X.A.mark (some (.ref a))) (eval (.Name x np) X.env) Q E { s' with heap := h3 } := fun {x c np Q E} hc q => by
      obtain ⟨hg, hdbg, hm | ⟨hm, hv, hnn⟩⟩ := hc
      · exact ld_glob (X := X.suite a ((a, oe3) :: (X.pn ++ pins))) S3 hg hm q hdbg
      · exact ld_blt (X := X.suite a ((a, oe3) :: (X.pn ++ pins))) S3 hg hm hv q hnn hdbg
    have LT : PySem.W.Looks (model X.prog X.w) h3 (typeOf (.ref a)) cls := fun A Q E s k q => wpAny_typeOf_ref (k _ _ he3) (by rw [hz3.1]; exact q)
    have go : ∀ {hds' : List ExceptHandler} {l' : List Hd}, HdsM X hds' l' → wMix X.K Wout D l' cls d σ' H' →
        wpAny (model X.prog X.w) X.A (handleBy (.ref a) X.env hds') (SP X pins D) X.xe { s' with heap := h3 } := by
      intro hds' l' hk
      induction hk with
      | nil =>
        intro w
        refine wpAny_handleBy_nil ?_
        obtain ⟨k1, k2, k3, oe, vs, T, oT, ts', he, hz, hd, h1, hr⟩ := id fl3
        unfold PySem.passOn
        refine wpAny_bind (wpAny_field he hd h1 ?_)
        rw [if_neg (show ¬ ((Value.ref T == Value.none) = true) from by simp)]
        have fin : wpAny (model X.prog X.w) X.A (setFlight (.ref a) X.env.frame) (fun _ s4 => wpAny (model X.prog X.w) X.A (throw (.ref a) : Sem Flow) (SP X pins D) X.xe s4) X.xe { s' with heap := h3 } := by
          rw [hf]
          refine HandSPX.setFlight_upZ fl3 fun h4 hh4 up4 => wpAny_throw (tk _ _ ?_)
          exact ⟨a, B, sI, pins, σ', H', cls, d, rfl, J, nb, (up.trans up3).trans up4, .inr (.inr (by rw [hs]; exact hh4)), na, os, ag, w⟩
        first
          | exact wpAny_bind (wpAny_pure (wpAny_bind fin))
          | exact wpAny_bind fin
      | @one x c ts b₀ suite np pos' hds2 l2 hc hsu r ih =>
        intro w
        obtain ⟨b, hb1, hyes, hno⟩ := w
        refine wpAny_handleBy_cons (codeAny_handlers_test ?_) (by intro q; cases q)
        have LM := PySem.W.exm_one (M := model X.prog X.w) (J3.kIn) LT hb1
        refine tst hc (LM.here ?_)
        cases b with
        | true =>
          refine codeAny_handlers_suite ?_
          refine HandSPX.lands_againZ fl3 fun h4 fl4 up4 => ?_
          have J4 : Inv X pins σ' H' { s' with heap := h4 } := J.landed nb fl4.1 ((up.trans up3).trans up4) os ag
          obtain ⟨oe4, vs4, he4, hz4, hd4⟩ := fl4.there
          have S4 := J4.suite he4 hd4 na nL nF
          refine wpAny_mono ((hsu a oe4 cls d (X.pn ++ pins) hz4 ⟨_, hd4⟩).run [] _ _ H' _ S4 (hyes rfl a na)) (fun f s6 hsp => ?_) (fun _ _ z => False.elim z)
          cases f with
          | next =>
            obtain ⟨σ6, H6, S6, q6⟩ := hsp
            exact ⟨_, _, S6.unsuite ok, q6⟩
          | brk =>
            obtain ⟨σ6, H6, S6, q6⟩ := hsp
            exact ⟨_, _, S6.unsuite ok, q6⟩
          | cont =>
            obtain ⟨σ6, H6, S6, q6⟩ := hsp
            exact ⟨_, _, S6.unsuite ok, q6⟩
          | ret u =>
            obtain ⟨v6, σ6, H6, S6, r6, q6⟩ := hsp
            exact ⟨_, _, _, S6.unsuite ok, r6, q6⟩
        | false =>
          show wpAny _ X.A (handleBy (.ref a) X.env hds2) _ _ _
          exact ih (hno rfl)
      | @as_ x n i c ts b₀ suite np pos' hds2 l2 hN hi hln hc hsu r ih =>
        intro w
        obtain ⟨b, hb1, hyes, hno⟩ := w
        have hloc : L2.Loc X.env.scope n := .inl hln
        refine wpAny_handleBy_cons (codeAny_handlers_test ?_) (by intro q; cases q)
        have LM := PySem.W.exm_one (M := model X.prog X.w) (J3.kIn) LT hb1
        refine tst hc (LM.here ?_)
        cases b with
        | true =>
          refine codeAny_handlers_suite_as ?_
          refine HandSPX.lands_againZ fl3 fun h4 fl4 up4 => ?_
          have J4 : Inv X pins σ' H' { s' with heap := h4 } := J.landed nb fl4.1 ((up.trans up3).trans up4) os ag
          obtain ⟨oe4, vs4, he4, hz4, hd4⟩ := fl4.there
          have S4 := J4.suite he4 hd4 na nL nF
          refine store_ok (X := X.suite a ((a, oe4) :: (X.pn ++ pins))) (v := .ref a) S4 hN hi hloc rfl (fun s5 S5 => ?_) (.inr hln)
          refine wpAny_mono ((hsu a oe4 cls d (X.pn ++ pins) hz4 ⟨_, hd4⟩).run [] s5 _ H' _ S5 (hyes rfl a na)) (fun f s6 hsp => ?_) (fun _ _ z => False.elim z)
          have end_ : ∀ {σ6 : L2.St} {H6 : Hp} {Q : Shared → Prop}, Inv (X.suite a ((a, oe4) :: (X.pn ++ pins))) [] σ6 H6 s6 → (∀ s7, Inv X pins (σ6.set i none) H6 s7 → Q s7) →
              wpAny (model X.prog X.w) X.A (do bindName X.env n .none; unbindBehindTheSuite X.env n pos') (fun _ s7 => Q s7) X.xe s6 := fun {σ6 H6 Q} S6 hq => gone_ok (S6.unsuite ok) hN hi hln hq
          cases f with
          | next =>
            obtain ⟨σ6, H6, S6, q6⟩ := hsp
            exact end_ S6 fun s7 J7 => ⟨_, _, J7, q6⟩
          | brk =>
            obtain ⟨σ6, H6, S6, q6⟩ := hsp
            exact end_ S6 fun s7 J7 => ⟨_, _, J7, q6⟩
          | cont =>
            obtain ⟨σ6, H6, S6, q6⟩ := hsp
            exact end_ S6 fun s7 J7 => ⟨_, _, J7, q6⟩
          | ret u =>
            obtain ⟨v6, σ6, H6, S6, r6, q6⟩ := hsp
            exact end_ S6 fun s7 J7 => ⟨_, _, _, J7, r6, q6⟩
        | false =>
          show wpAny _ X.A (handleBy (.ref a) X.env hds2) _ _ _
          exact ih (hno rfl)
    exact go hh w
  · cases f with
    | next =>
      obtain ⟨σ', H', J', q⟩ := hsp
      exact wpAny_execs_nil ⟨σ', H', J'.ofTry ok, q⟩
    | brk =>
      obtain ⟨σ', H', J', q⟩ := hsp
      exact ⟨σ', H', J'.ofTry ok, q⟩
    | cont =>
      obtain ⟨σ', H', J', q⟩ := hsp
      exact ⟨σ', H', J'.ofTry ok, q⟩
    | ret u =>
      obtain ⟨v, σ', H', J', r, q⟩ := hsp
      exact ⟨v, σ', H', J'.ofTry ok, r, q⟩
end
end T
end
section
set_option Elab.async false
set_option linter.all false
set_option maxRecDepth 100000
set_option maxHeartbeats 2000000
/-! T29: repr of flat values; try; what an except suite returns. -/
namespace T
open PySem PySem.Spec PyProof.Rows L2
def reprV : V → Option Str
  | .non => some "None"
  | .bl b => some (if b then "True" else "False")
  | .int i => if i.natAbs.log2 < 1920 then some (toString i) else none
  | .str z => if (reprText z).length ≤ sizeLine then some (reprText z) else none
  | _ => none
theorem call_reprV {X : Cx} : CallR X (.builtin "repr") (fun xs H Q => ∃ x z, xs = [x] ∧ reprV x = some z ∧ Q (.str z) H) := by
  intro pins s σ H xs us Q I r h
  obtain ⟨x, z, rfl, e, q⟩ := h
  obtain ⟨w, rfl, rw1⟩ := vals1 r
  cases x with
  | non =>
    cases e
    cases (show w = Value.none from rw1)
    exact PySem.P.repr_of_none ⟨.str _, H, I.tok _, ⟨_, rfl⟩, q⟩
  | bl b =>
    cases e
    cases (show w = Value.bool b from rw1)
    exact PySem.P.repr_of_bool ⟨.str _, H, I.tok _, ⟨_, rfl⟩, q⟩
  | int i =>
    obtain ⟨t, rfl⟩ := rw1
    simp only [reprV] at e
    by_cases h : i.natAbs.log2 < 1920
    · rw [if_pos h] at e
      cases e
      exact PySem.P.repr_of_int h ⟨.str _, H, I.tok _, ⟨_, rfl⟩, q⟩
    · rw [if_neg h] at e
      cases e
  | str y =>
    obtain ⟨t, rfl⟩ := rw1
    simp only [reprV] at e
    by_cases h : (reprText y).length ≤ sizeLine
    · rw [if_pos h] at e
      cases e
      exact PySem.P.repr_of_str (hsz := h) ⟨.str _, H, I.tok _, ⟨_, rfl⟩, q⟩
    · rw [if_neg h] at e
      cases e
  | _ => cases e
def reprD : D → Option Str
  | .non => some "None"
  | .bl b => some (if b then "True" else "False")
  | .int i => if i.natAbs.log2 < 1920 then some (toString i) else none
  | .str z => if (reprText z).length ≤ sizeLine then some (reprText z) else none
  | _ => none
theorem reprD_v {K : PySem.W.Frag} {u : List Addr} {H : Hp} {d : D} {v : V} {z : Str} (e : reprD d = some z) (r : Rep K u H d v) : reprV v = some z := by
  cases d with
  | non => cases (show v = .non from r); exact e
  | bl b => cases (show v = .bl b from r); exact e
  | int b => cases (show v = .int b from r); exact e
  | str b => cases (show v = .str b from r); exact e
  | _ => cases e
def fRepr : D → Mem → Res D := fun x m => match reprD x with
  | some z => .ok (.str z) m
  | none => .stuck
theorem cm_repr {X : Cx} : CallM X (.builtin "repr") (g1 fRepr) := cm1 call_reprV fun W σ H x v u m Q k rx q => by
  unfold fRepr at q
  cases e : reprD x with
  | none => rw [e] at q; exact q.elim
  | some z => rw [e] at q; exact ⟨v, z, rfl, reprD_v e rx, q.now k rfl⟩
/-! ### try -/
abbrev HM := Option D → Slots → Mem → Res D
def slotIn (i : Option Nat) (r : Slots) : Bool := match i with
  | some j => decide (j < r.length)
  | none => true
def pickH : List (EN × Option Nat × HM) → EN → Option D → Slots → Mem → SRes
  | [], e, p, r, μ => .exc e p r μ
  | (c, i, hm) :: t, e, p, r, μ => if e = c then (if slotIn i r then match hm p r μ with
    | .ok d m => .ok (.ret d) r m
    | _ => .stuck else .stuck) else pickH t e p r μ
def sTry (es : List EN) (mb : SM) (hs : List (EN × Option Nat × HM)) : SM := fun r μ => match mb r μ with
  | .exc e p r1 μ1 => if e ∈ es then pickH hs e p r1 μ1 else .stuck
  | x => x
def clr (i : Option Nat) (r : Slots) : Slots := match i with
  | some j => r.set j none
  | none => r
/-- what a clause's suite does -/
def tHd (K : PySem.W.Frag) (mg : Str → Option Value) (i : Option Nat) (c : EN) (hm : HM) (a : Addr) (cls : Value) (d : Option Addr) : TS := fun D' σ H =>
  ∃ u r μ p, HRep K u H μ ∧ ERep K u H (clr i r) σ ∧ (∀ j, i = some j → σ[j]? = some (some (.ref a))) ∧ XRep K mg u H c p cls d ∧ ∃ z m, hm p r μ = .ok z m ∧ PostE K mg u H σ (fun _ _ _ _ => False) (fun v H' => D'.rt v H') (.ok z m)
def hdsT (K : PySem.W.Frag) (mg : Str → Option Value) (hs : List (EN × Option Nat × HM)) : List Hd := hs.map fun q => (.ref (He.ga K q.1.name), q.2.1, tHd K mg q.2.1 q.1 q.2.2)
section
variable {X : Cx}
theorem ms_try {es : List EN} {hs : List (EN × Option Nat × HM)} {body : List Stmt} {mb : SM} {h₀ : ExceptHandler} {hds : List ExceptHandler} {pos : Pos} (hst : X.stack = X.env :: X.outer) (hf : X.env.frame = some X.env.locals)
    (hx : ∀ e ∈ es, ∀ q ∈ hs, PySem.W.exmOne X.K (.ref (He.ga X.K e.name)) (.ref (He.ga X.K q.1.name)) = some (decide (e = q.1)))
    (hb : ∀ (pn : List (Addr × Obj)) (xe : Value → Shared → Prop), PassesOwn (model X.prog X.w) X.A X.env xe → MSs (X.tr pn xe) body mb)
    (hh : HdsM X (h₀ :: hds) (hdsT X.K X.mg hs)) : MS X (.Try body (h₀ :: hds) [] [] pos) (sTry es mb hs) := by
  refine ⟨fun W tk => PS.weak (ps_try_mix (tb := fun W => tS X.K X.mg W mb) hst hf tk (fun W pn xe tk2 po => (hb pn xe po).run W tk2) hh) fun D' σ H ⟨u, r, μ, h1, h2, h3⟩ => ?_⟩
  refine ⟨u, r, μ, h1, h2, ?_⟩
  unfold sTry at h3
  cases em : mb r μ with
  | stuck => rw [em] at h3; exact h3
  | ok f r1 m1 => rw [em] at h3; cases f <;> exact h3
  | exc e p r1 μ1 =>
    rw [em] at h3
    simp only at h3
    by_cases he : e ∈ es
    · rw [if_pos he] at h3
      intro u' H' σ' cls dd g ex k er xr
      have key : ∀ hs : List (EN × Option Nat × HM), (∀ q ∈ hs, PySem.W.exmOne X.K (.ref (He.ga X.K e.name)) (.ref (He.ga X.K q.1.name)) = some (decide (e = q.1))) → PostS X.K X.mg u H W D' (pickH hs e p r1 μ1) → wMix X.K W D' (hdsT X.K X.mg hs) cls dd σ' H' := by
        intro hs
        induction hs with
        | nil => intro _ q; exact q u' H' σ' cls dd g ex k er xr
        | cons q0 t ih =>
          intro hq q
          obtain ⟨c, i, hm⟩ := q0
          have hcls : cls = .ref (He.ga X.K e.name) := xr.1
          refine ⟨decide (e = c), by rw [hcls]; exact hq _ List.mem_cons_self, fun hb' a na => ?_, fun hb' => ?_⟩
          · have ec : e = c := of_decide_eq_true hb'
            subst ec
            simp only [pickH, if_true] at q
            by_cases hs1 : slotIn i r1 = true
            · rw [if_pos hs1] at q
              cases eh : hm p r1 μ1 with
              | ok z m =>
                rw [eh] at q
                refine ⟨u', r1, μ1, p, k, ?_, fun j ej => ?_, xr, z, m, eh, ?_⟩
                · cases i with
                  | none => exact er
                  | some j => exact er.unset j _
                · subst ej
                  have hl : j < r1.length := of_decide_eq_true hs1
                  exact List.getElem?_set_self (by rw [← er.1]; exact hl)
                · exact fun u2 H2 v g2 e2 k2 r2 => q u2 H2 v (g.trans g2) (ex.trans e2) k2 r2
              | exc _ _ _ => rw [eh] at q; exact q.elim
              | stuck => rw [eh] at q; exact q.elim
            · rw [if_neg hs1] at q
              exact q.elim
          · have ec : ¬ e = c := of_decide_eq_false hb'
            simp only [pickH, if_neg ec] at q
            exact ih (fun q' h' => hq q' (List.mem_cons_of_mem _ h')) q
      exact key hs (hx e he) h3
    · rw [if_neg he] at h3
      exact h3.elim
/-- suite: return 'text' -/
def hConst (s : Str) : HM := fun _ _ μ => .ok (.str s) μ
theorem hs_const {i : Option Nat} {c : EN} {s : Str} {j : Nat} {p1 p2 : Pos} {a : Addr} {oe : Obj} {cls : Value} {d : Option Addr} {pn : List (Addr × Obj)} :
    PSs (X.suite a ((a, oe) :: pn)) [.Return (some (.Constant (.str s) j p1)) p2] (tHd X.K X.mg i c (hConst s) a cls d) := by
  refine PSs.weak (pss_one (ps_ret (pe_str (x := s)))) fun D' σ H ⟨u, r, μ, p, h1, h2, h3, h4, z, m, e, q⟩ => ?_
  cases e
  exact q u H _ (Grow.refl _) (Ext.refl _) h1 rfl
/-- suite: return 'text' + repr(error.f) -/
def hReprF (s : Str) : HM := fun p _ μ => match p with
  | some d => match reprD d with
    | some z => if s.length + z.length ≤ sizeLine then .ok (.str (s ++ z)) μ else .stuck
    | none => .stuck
  | none => .stuck
theorem hs_reprF {i : Nat} {c : EN} {s n x f : Str} {j : Nat} {p1 p2 p3 p4 p5 p6 p7 : Pos} {a : Addr} {oe : Obj} {cls : Value} {d : Option Addr} {pn : List (Addr × Obj)} (XF : XfC X.K (He.ga X.K c.name)) (hno : PySem.W.findIn X.K (.ref (He.ga X.K c.name)) f = some none) (ef : f = c.field)
    (hN : X.N[i]? = some n) (hv : Vis X.env.scope n) (hg : Gl X x) (hm : X.mg x = none) (hbt : bootBuiltins x = some (.builtin "repr")) (hz : Zc cls d oe) (hfl : ∃ vs, oe.data = .fields vs)
    (hd : (n == ("__debug__" : Str)) = false := by decide) (hcd : (n == ("__classdict__" : Str)) = false := by decide) (hxn : x ≠ "__name__" := by decide) (hxd : (x == ("__debug__" : Str)) = false := by decide)
    (hb : attributeBase (.Name n p4) f X.env (eval (.Name n p4) X.env) = eval (.Name n p4) X.env := by rfl) :
    PSs (X.suite a ((a, oe) :: pn)) [.Return (some (.BinOp (.Constant (.str s) j p1) .Add (.Call (.Name x p2) [.Attribute (.Name n p4) f p3] [] p5) p6)) p7] (tHd X.K X.mg (some i) c (hReprF s) a cls d) := by
  refine PSs.weak (pss_one (ps_ret (pe_op op_add_str pe_str (pe_callB (X := X.suite a ((a, oe) :: pn)) call_reprV hg hm hbt (pa_cons (pe_xf XF hno hz hfl (pe_var (X := X.suite a ((a, oe) :: pn)) hN hv hd hcd) hb) pa_nil) hxn hxd)))) fun D' σ H ⟨u, r, μ, p, h1, h2, h3, h4, z, m, e, q⟩ => ?_
  obtain ⟨ec, ep⟩ := h4
  cases p with
  | none => cases e
  | some dp =>
    obtain ⟨ad, v, ed, eh, rv⟩ := ep
    simp only [hReprF] at e
    cases ez : reprD dp with
    | none => rw [ez] at e; cases e
    | some y =>
      rw [ez] at e
      simp only at e
      by_cases hl : s.length + y.length ≤ sizeLine
      · rw [if_pos hl] at e
        cases e
        refine ⟨.ref a, h3 i rfl, rfl, ec, ad, _, v, ed, eh, ?_, ?_⟩
        · rw [ef]
          simp
        · exact ⟨v, y, rfl, reprD_v ez rv, _, _, rfl, rfl, hl, q u H _ (Grow.refl _) (Ext.refl _) h1 rfl⟩
      · rw [if_neg hl] at e
        cases e
end
end T
end
section
set_option Elab.async false
set_option linter.all false
set_option maxRecDepth 100000
set_option maxHeartbeats 2000000
/-! T30: defs whose code object is known; the facts of a law's module. -/
namespace T
open PySem PySem.Spec PyProof.Rows L2
section
variable {P : Program} {w : World} {K : PySem.W.Frag} {mg : Str → Option Value} {base : Heap} {k : Nat} {x qual : Str} {N ps : List Str} {mf : List D → Mem → Res D} {mb : SM}
/-- the def's code object, as the module tells it -/
theorem code_of {params : Arguments} {body : List Stmt} {scope : Scope} {dvs : List V} {kws : List (Str × V)} {f : Addr} {fd : FuncData} {d : Str × Option Str} (F : FunD K x qual params body scope dvs kws f fd) (hf : f = He.fAd K d) :
    ∃ (oc : Value) (od : Option Addr) (dV kV doc pm : Value) (an : Option Addr) (ct : Value) (osl : Array (Option Value)),
      fd = PySem.W.fnOf x qual params body scope dV kV doc pm an (.ref (He.cT K d).1) ct ∧ K.lookup f = some ⟨oc, od, .func fd, osl⟩ ∧ PySem.W.codeIn K (.ref (He.cT K d).1) qual = true := by
  obtain ⟨oc, od, dV, kV, doc, pm, an, cdv, ct, osl, e, lk, hcd, _, _⟩ := F.ex
  obtain ⟨c, rfl⟩ := He.codeIn_ref hcd
  subst hf
  have z : He.codeOf K d = c := He.codeOf_eq lk (by rw [e] <;> rfl)
  have z2 : (He.cT K d).1 = c := z
  rw [z2]
  exact ⟨oc, od, dV, kV, doc, pm, an, ct, osl, e, lk, hcd⟩
theorem fnOk_ofT {params : Arguments} {body : List Stmt} {scope : Scope} {kws : List (Str × V)} {f : Addr} {fd : FuncData} {dvs : List V} {d : Str × Option Str} (F : FunD K x qual params body scope dvs kws f fd) (hf : f = He.fAd K d) (S : FnScope N ps scope)
    (hbody : ∀ (A : Around) (outer : List Env) (s : Shared) (H : Hp) (E : XK), Room k (A.deeper (envOfC qual scope s.heap.objs.size f (.ref (He.cT K d).1))) → MSs (cxOf (L2.CX P w) P w K mg base N qual scope f (.ref (He.cT K d).1) A outer s H E) body mb)
    (spec : ∀ (ds : List D) (m : Mem), ds.length = ps.length → WF m → Refn m.length (runB N mb ds m) (mf ds m)) : FnOk P w K mg base (L2.CX P w) (k + 1) f fd ps (spM K mg ps.length mf) := by
  obtain ⟨oc, od, dV, kV, doc, pm, an, ct, osl, rfl, lk, hcd⟩ := code_of F hf
  refine fn_of lk hcd S (fun vs H Q E ⟨u, ds, m, h1, h2, h3, h4⟩ => by rw [h3.length, h1]) (fun A outer s H vs Q E hr ⟨u, ds, m, h1, h2, h3, h4⟩ => ?_)
  have tk : Takes (cxOf (L2.CX P w) P w K mg base N qual scope f (.ref (He.cT K d).1) A outer s H E) (fun cls dd _ H => E cls dd H) := takes_of rfl rfl rfl rfl
  refine ⟨_, (hbody A outer s H E hr).run _ tk, u, startD N ds, m, h2, start_rep h3, ?_⟩
  have z : PostF K mg u H Q E (runB N mb ds m) := PostF.refn (by rw [h2.len]; exact spec ds m h1 h2.wf) h4
  unfold runB at z
  show PostS K mg u H _ _ (mb (startD N ds) m)
  cases e : mb (startD N ds) m with
  | ok fl r m1 =>
    rw [e] at z
    cases fl with
    | next => exact fun u' H' σ' a b c _ => z u' H' .non a b c rfl
    | ret d => exact fun u' H' v a b c q => z u' H' v a b c q
    | brk => exact z.elim
    | cont => exact z.elim
  | exc c p r m1 =>
    rw [e] at z
    exact fun u' H' σ' cls dd a b c' _ q => z u' H' cls dd a b c' q
  | stuck => rw [e] at z; exact z.elim
theorem DefOk.ofT {params : Arguments} {body : List Stmt} {scope : Scope} {kws : List (Str × V)} {fd : FuncData} (F : FunD K x x params body scope [] kws (He.ga K x) fd) (mgx : mg x = some (.ref (He.ga K x)))
    (hb : ∀ (kV doc pm : Value) (an : Option Addr) (cdv ct : Value) (us : List Value), us.length = ps.length → bindArgs (PySem.W.fnOf x x params body scope .none kV doc pm an cdv ct) ⟨us, []⟩ = pure (ps.zip us)) (S : FnScope N ps scope)
    (hbody : ∀ (A : Around) (outer : List Env) (s : Shared) (H : Hp) (E : XK), Room k (A.deeper (envOfC x scope s.heap.objs.size (He.ga K x) (.ref (He.cT K (x, none)).1))) → MSs (cxOf (L2.CX P w) P w K mg base N x scope (He.ga K x) (.ref (He.cT K (x, none)).1) A outer s H E) body mb)
    (spec : ∀ (ds : List D) (m : Mem), ds.length = ps.length → WF m → Refn m.length (runB N mb ds m) (mf ds m)) : DefOk P w K mg base (k + 1) x ps mf :=
  ⟨⟨fd, fnOk_ofT (d := (x, none)) F rfl S hbody spec, F.bindsN hb⟩, mgx, F.kp⟩
end
theorem nofree_by {X : Cx} {l : List (Str × NameKind)} (h : (l.all fun y => !decide (y.2 = .free)) = true) : ∀ y ∈ l, y.2 = .free → ∃ c, X.env.cells.lookup y.1 = some c := fun y hy e => by
  have z := List.all_eq_true.mp h y hy
  rw [e] at z
  simp at z
/-- classes, errors, methods, tables of the module -/
structure GK (K : PySem.W.Frag) (mg : Str → Option Value) (base : Heap) (cs : List CN) (es : List EN) (ms : List (CN × Str)) (ts : List He.Defn) : Prop where
  cls : ∀ c : CN, c ∈ cs → ClsF K c
  clsG : ∀ c : CN, c ∈ cs → mg c.name = some (.ref (He.ga K c.name))
  err : ∀ e : EN, e ∈ es → ErrF K mg e
  exm : ∀ e ∈ es, ∀ c ∈ es, PySem.W.exmOne K (.ref (He.ga K e.name)) (.ref (He.ga K c.name)) = some (decide (e = c))
  meth : ∀ q ∈ ms, Meth K (He.ga K (q.1 : CN).name) q.2 (He.ma K (He.ga K q.1.name) q.2)
  tab : ∀ d ∈ ts, LamX.TabB base mg (He.cT K d).1 (He.cT K d).2
end T
end
section
set_option Elab.async false
set_option linter.all false
set_option maxRecDepth 100000
set_option maxHeartbeats 2000000
/-! T31: super().__init__(e) of an error over ValueError. -/
namespace T
open PySem PySem.Spec PyProof.Rows L2
section
variable {X : Cx} {pins : List (Addr × Obj)} {σ : L2.St} {H : Hp} {s : Shared} {a C cc u : Addr}
/-- the wrapper is called: nothing of it is told -/
theorem mw_call {us : List Value} {Q : Value → Shared → Prop} {A : Around} {E : Value → Shared → Prop} (O : OexC X.K C) (I : Inv X pins σ H s) (e : H a = some (exo a C none)) (hu : s.heap.get? u = some (PySem.W.kxs_mw "ValueError.__init__" a)) (hl : us.length ≤ sizeLine)
    (h : ∀ s', Inv X pins σ H s' → Q .none s') : wpAny (model X.prog X.w) A (call (.ref u) us) Q E s := by
  obtain ⟨nm, q, N, bs, bm, sn, sub, ab, col, dd, k0, k1, k2, k3, k5, hC, hbm⟩ := O.cls
  obtain ⟨t1, ho⟩ := exo_at I.hok e
  obtain ⟨hp, g, d, t, os⟩ := s
  refine wpAny_call (codeAny_of_tree ?_)
  show wpAny _ A.in1 (callAny (.ref u) ⟨us, []⟩) _ _ _
  simp only [callAny]
  refine wpAny_bind (wpAny_load hu ?_)
  simp only [PySem.W.kxs_mw, show (Value.type "method-wrapper" == Value.type "method" || Value.type "method-wrapper" == Value.type "builtin_function_or_method" || Value.type "method-wrapper" == Value.type "method-wrapper") = true by decide, if_true]
  refine PySem.W.KFB.if_so (by decide) ?_
  refine wpAny_bind (PySem.W.check_bound_init PySem.F.excBase_ValueError.toExcCallFacts (I.kIn _ _ hC) ho rfl ?_)
  refine wpAny_bind (wpAny_pure (wpAny_pure ?_))
  refine ⟨plainId_quiet PySem.F.excBase_ValueError.init.plain _, codeAny_builtin PySem.F.excBase_ValueError.initEntry ?_⟩
  refine PySem.W.exc_init_tree (cls := .ref C) (t0 := t1) (dv := none) (c2 := .none) (c3 := .none) (b4 := .bool false) ho hl fun h' k hx _ => ?_
  have J := I.write (t' := t) (x := a) (e := a) (o := exo a C none) (by rw [e]; exact True.intro) (.inl rfl) k ⟨_, hx⟩ (exo_ok hx)
  have eu : upd H a (exo a C none) = H := by
    funext b
    by_cases hb : b = a
    · rw [hb, upd_same, e]
    · rw [upd_ne hb]
  rw [eu] at J
  exact h _ J
/-- what the module tells of such a class and its __init__ -/
structure SupF (K : PySem.W.Frag) (C f cc cda : Addr) (fd : FuncData) : Prop where
  oex : OexC K C
  fn : ∃ oc od osl, K.lookup f = some ⟨oc, od, .func fd, osl⟩
  cell : ∃ cl cld csl, K.lookup cc = some ⟨cl, cld, .cell (some (.ref C)), csl⟩
  code : ∃ ccl cdd vs ccs, K.lookup cda = some ⟨ccl, cdd, .fields vs, ccs⟩
  self : PySem.W.mroIn K C (.ref C) = some true
  opq : PySem.W.nsIn K cStatics "thirdparty.any" = some none
  sup : PySem.W.ks_superIn K C C "__init__" = some (some (.builtin "ValueError.__init__"))
  subV : PySem.W.subIn K (.ref C) (.type "ValueError") = some true
/-- the wrapper, told -/
def mwO (u a : Addr) : HO := .ext fun h => h.get? u = some (PySem.W.kxs_mw "ValueError.__init__" a)
theorem superinit {e : Expr} {p0 p1 ap cp pos : Pos} {ta : TE} {fd : FuncData} {f cda : Addr} {ar : Arg} {body : List Stmt} {i : Nat} {Q : Hp → Prop} {pl : Sem Bool}
    (S : SupF X.K C f cc cda fd) (I : Inv X pins σ H s) (ea : H a = some (exo a C none))
    (hks : X.env.kindOf "super" = some .globalImplicit) (hkc : X.env.kindOf "__class__" = some .free) (hka : X.env.kindOf ar.arg = some .local) (hfu : X.env.func = some f) (hco : X.env.code = .ref cda) (hcl : X.env.cells.lookup ("__class__" : Str) = some cc)
    (hp : (fd.params.posonlyargs ++ fd.params.args).head? = some ar) (hfile : ∀ (vs : Array Value) ccl cdd ccs, X.K.lookup cda = some ⟨ccl, cdd, .fields vs, ccs⟩ → ∃ file tf, vs[2]? = some (.str file tf) ∧ ((X.prog.main.file : Str) == file) = true)
    (htop : (X.prog.main.scope.names.lookup ("super" : Str)).isSome = false) (hms : X.mg "super" = none) (hbs : bootBuiltins "super" = some (.type "super")) (hN : X.N[i]? = some ar.arg) (hσ : σ[i]? = some (some (.ref a)))
    (he : PE X e ta) (hta : ∀ u, H u = none → ta σ (upd H u (mwO u a)) fun v H1 => H1 u = some (mwO u a) ∧ H1 a = some (exo a C none) ∧ Q H1)
    (hc : eval (.Call (.Attribute (.Call (.Name "super" p0) [] [] p1) "__init__" ap) [e] [] cp) X.env = (do
      let ov ← attributeBase (.Call (.Name "super" p0) [] [] p1) "__init__" X.env (eval (.Call (.Name "super" p0) [] [] p1) X.env)
      standAt ap.atName
      let (f, first) ← holding [ov] (getMethod ov "__init__" pl)
      callWith cp f first (backTo cp (starEach [e] X.env)) []) := by rfl)
    (hst : starEach [e] X.env = (false, eval e X.env) :: starEach [] X.env := by rfl)
    (hi : interactive X.env = false := by rfl) (hsw : swapsWith (.Call (.Attribute (.Call (.Name "super" p0) [] [] p1) "__init__" ap) [e] [] cp) none pos.line X.env = pure false := by rfl) :
    PySem.wpAt (model X.prog X.w) X.A (.func body X.env) (exec (.Expr (.Call (.Attribute (.Call (.Name "super" p0) [] [] p1) "__init__" ap) [e] [] cp) pos) X.env) (fun fl s' => fl = .next ∧ ∃ H', Inv X pins σ H' s' ∧ Q H') X.xe s := by
  obtain ⟨oc, od, osl, hf⟩ := S.fn
  obtain ⟨cl, cld, csl, hcell⟩ := S.cell
  obtain ⟨ccl, cdd, vs, ccs, hcode⟩ := S.code
  obtain ⟨file, tf, hvs, hfl⟩ := hfile vs ccl cdd ccs hcode
  obtain ⟨nm, q, N, bs, bm, sn, sub, ab, col, dd, k0, k1, k2, k3, k5, hC, hbm⟩ := S.oex.cls
  obtain ⟨t1, ho⟩ := exo_at I.hok ea
  have X0 := I.kIn
  refine ks_wpAt_Expr_any ?_ hi hsw
  refine ks_wpAt_MethodCall (pl := pl) ?_ hc
  refine ks_wpAt_super_base hks hkc rfl hfu (X0 _ _ hf) rfl hp hco (X0 _ _ hcode) rfl hvs hfl htop ?_
  obtain ⟨mb, b1, b2⟩ := I.mod.blt
  refine PySem.W.ks_loadName_global I.ok.kind hks (Calls.loadGlobal_builtin (by rw [I.ok.glob]; exact I.mod.glob.keeps I.bk) hms (by rw [I.ok.blt]; exact b1.keeps I.bk) ((b2 _ (by decide)).trans hbs) ⟨rfl, ?_⟩)
  refine wpAny_loadName_free I.ok.kind hkc hcl ⟨_, X0 _ _ hcell, rfl⟩ ?_
  obtain ⟨m, hns, hl⟩ := id I.loc
  have hv : m ar.arg = some (.ref a) := by
    obtain ⟨w, rw1, h⟩ := hl i ar.arg (.ref a) hN hσ (.inl hka)
    obtain rfl : w = Value.ref a := rw1
    rcases h with ⟨_, h⟩ | ⟨h, _⟩
    · exact h
    · rw [hka] at h
      rcases h with z | z <;> cases z
  refine wpAny_loadName_local I.ok.kind hka hns hv ?_
  refine ks_wpAny_isType_cls (X0 _ _ hC) rfl ⟨rfl, ?_⟩
  obtain ⟨hh, g, d, t, os⟩ := s
  refine ks_wpAny_call_super (X0 _ _ hC) rfl ho rfl (fun c z => by cases z) (PySem.W.looks_mroIn X0 S.self) (fun h' hso k => ?_)
  have X1 : X.K.In h' := fun b o e => k b o (X0 b o e)
  have hcls : PySem.W.clsIn X.K C = some { name := nm, bases := bs, mro := .ref C :: bm, ns := N, qualname := q, hasDict := true, slotNames := sn, subclasses := sub, abstract := ab, collection := col, hasDel := false } := by unfold PySem.W.clsIn; rw [hC] <;> rfl
  have hsup := S.sup
  unfold PySem.W.ks_superIn at hsup
  rw [hcls, Option.bind_some] at hsup
  have ha' : h'.get? a = some ({ cls := .ref C, dict := none, data := .fields #[.ref t1, .none, .none, .none, .bool false, .none] } : Obj) := k _ _ ho
  have J : PySem.W.InstAt h' a { cls := .ref C, dict := none, data := .fields #[.ref t1, .none, .none, .none, .bool false, .none] } C none := ⟨ha', rfl, rfl, trivial⟩
  have hI : PySem.W.Looks (model X.prog X.w) h' (isInstance (.ref a) (.type "ValueError")) true := J.type.andThen (PySem.W.looks_subIn X1 S.subV)
  refine PySem.W.kxs_getMethod PySem.W.kxs_ValueError hso (PySem.W.looks_opaque X1 S.opq) (fun A Q E s k q => wpAny_bind ((PySem.W.looks_clsIn X1 hcls) A _ E s k (wpAny_pure q))) rfl X1 hsup hI (PySem.W.ks_ne X1 J hcls) rfl ?_
  have hle : hh.objs.size ≤ h'.objs.size := Nat.le_of_lt (Heap.lt_size hso)
  have hun : H h'.objs.size = none := I.hok.fresh hle
  have hmw : (h'.push (PySem.W.kxs_mw "ValueError.__init__" a)).get? h'.objs.size = some (PySem.W.kxs_mw "ValueError.__init__" a) := Heap.get?_push_size _ rfl
  have I2 : Inv X pins σ (upd H h'.objs.size (mwO h'.objs.size a)) { heap := h'.push (PySem.W.kxs_mw "ValueError.__init__" a), gens := g, drawn := d, toks := t + 1, os := os } :=
    I.laid (t' := t + 1) (a := h'.objs.size) (o := mwO h'.objs.size a) (fun b o e => Heap.get?_push_of_some _ (k b o e)) hle ⟨hmw, ⟨_, hmw⟩, fun h1 h2 e st => st _ e⟩
  rw [hst]
  refine PySem.W.kxs_callWith (i := "ValueError.__init__") (x := a) (by rfl) (PySem.Calls.evalArgs_plain ?_)
  refine Calls.spliced_cons (thn (he.run pins { heap := h'.push (PySem.W.kxs_mw "ValueError.__init__" a), gens := g, drawn := d, toks := t + 1, os := os } σ _ _ I2 (hta _ hun)) fun v s1 ⟨x, H1, I3, rx, eu, e1, q1⟩ => ?_)
  obtain ⟨hu1, _⟩ := I3.hok _ _ eu
  refine Calls.spliced_nil ⟨hu1, ?_⟩
  exact mw_call S.oex I3 e1 hu1 (by rw [sizeLine_eq]; simp) fun s' J => ⟨rfl, H1, J, q1⟩
end
end T
end
section
set_option Elab.async false
set_option linter.all false
set_option maxRecDepth 100000
set_option maxHeartbeats 2000000
/-! T32: an error's own __init__: super().__init__(e); self.f = x. -/
namespace T
open PySem PySem.Spec PyProof.Rows L2 NdefX
section
variable {P : Program} {w : World} {K : PySem.W.Frag} {mg : Str → Option Value} {base : Heap} {k : Nat} {F : NF} {f C cc : Addr} {N : List Str} {x fld : Str} {e : Expr} {p0 p1 ap cp pos1 pos2 p2 p3 p4 : Pos} {fd : FuncData} {ta : Cx → TE}
/-- what it promises: self gets the field -/
def spSup (C : Addr) (fld : Str) (ok : V → Prop) : Sp := fun vs H Q _ => ∃ a v, vs = [.ref a, v] ∧ H a = some (exo a C none) ∧ ok v ∧
  ∀ u dx, H u = none → H dx = none → dx ≠ a → dx ≠ u → u ≠ a → Q .non (upd (upd (upd H u (mwO u a)) dx (exd dx [(fld, v)])) a (exo a C (some dx)))
theorem sup_ok {ok : V → Prop} {ar : Arg} (S : SupF K C f cc F.c fd) (hfd : ∃ doc pm ct, fd = PySem.W.fnX F.name F.qual F.params F.body F.scope [("__class__", cc)] .none .none doc pm none (.ref F.c) ct)
    (hcd : PySem.W.codeIn K (.ref F.c) F.qual = true) (hcl : F.cl = [(("__class__" : Str), cc)]) (NS : NScope N [("self" : Str), x] [("__class__" : Str)] F.scope)
    (hb : F.body = [.Expr (.Call (.Attribute (.Call (.Name ("super" : Str) p0) [] [] p1) "__init__" ap) [e] [] cp) pos1, .Assign [.Attribute (.Name "self" p2) fld p3] (.Name x p4) pos2])
    (hsu : F.scope.names.lookup ("super" : Str) = some .globalImplicit) (hpar : (F.params.posonlyargs ++ F.params.args).head? = some ar) (har : ar.arg = ("self" : Str)) (hN1 : N[1]? = some x)
    (hfile : ∀ (vs : Array Value) ccl cdd ccs, K.lookup F.c = some ⟨ccl, cdd, .fields vs, ccs⟩ → ∃ file tf, vs[2]? = some (.str file tf) ∧ ((P.main.file : Str) == file) = true)
    (htop : (P.main.scope.names.lookup ("super" : Str)).isSome = false) (hms : mg "super" = none) (hbs : bootBuiltins "super" = some (.type "super")) (hno : PySem.W.findIn K (.ref C) fld = some none)
    (hE : ∀ (A : Around) (outer : List Env) (s : Shared) (H : Hp) (E : XK), PE (ncx (L2.CX P w) P w K mg base N F f A outer s H E) e (fun σ H Q => ∃ v, σ[1]? = some (some v) ∧ ok v ∧ ∀ z, Q (.str z) H))
    (hc : ∀ env : Env, ∃ pl : Sem Bool, eval (.Call (.Attribute (.Call (.Name ("super" : Str) p0) [] [] p1) "__init__" ap) [e] [] cp) env = (do
      let ov ← attributeBase (.Call (.Name ("super" : Str) p0) [] [] p1) "__init__" env (eval (.Call (.Name ("super" : Str) p0) [] [] p1) env)
      standAt ap.atName
      let (f, first) ← holding [ov] (getMethod ov "__init__" pl)
      callWith cp f first (backTo cp (starEach [e] env)) []))
    (hst : ∀ env : Env, starEach [e] env = (false, eval e env) :: starEach [] env)
    (hsw : ∀ env : Env, swapsWith (.Call (.Attribute (.Call (.Name ("super" : Str) p0) [] [] p1) "__init__" ap) [e] [] cp) none pos1.line env = pure false)
    (hsw2 : ∀ env : Env, swapsWith (.Name x p4) (some (.Attribute (.Name ("self" : Str) p2) fld p3)) pos2.line env = pure false)
    (hx1 : (x == ("__debug__" : Str)) = false) (hx2 : (x == ("__classdict__" : Str)) = false)
    (len : ∀ vs H Q E, spSup C fld ok vs H Q E → vs.length = 2) : FnOk P w K mg base (L2.CX P w) (k + 1) f fd [("self" : Str), x] (spSup C fld ok) := by
  refine ⟨len, fun A outer s H args us vs Q E hr e0 hbind r hsp => ?_⟩
  obtain ⟨doc, pm, ct, rfl⟩ := hfd
  obtain ⟨oc, od, osl, hf⟩ := S.fn
  obtain ⟨cl, cld, csl, hcell⟩ := S.cell
  have KX : K.In s.heap := e0.mod.kin.keeps fun b o e => (e0.bs b o e).1
  have lim : s.heap.NoLimit := e0.mod.nolimit.keeps fun b o e => (e0.bs b o e).1
  refine ks_codeAny_call_defAt hr.depth (KX _ _ hf) rfl lim (PySem.W.codeRec_of KX hcd) rfl hbind NS.nocell (fun ⟨n, _⟩ hy => NS.par n (List.of_mem_zip hy).1) (fun h₁ hns kp => ?_) NS.co NS.gen NS.kind
  have hcc : H cc = none := by
    cases z : base.get? cc with
    | some o => exact (e0.bs cc o z).2
    | none => exact absurd (e0.mod.kin _ _ hcell) (by rw [z]; exact fun y => nomatch y)
  have CA : CellsAt F.cl [("__class__" : Str)] [some (.ref C)] s.heap H := by
    rw [hcl]
    have isC : s.heap.IsCell cc (some (.ref C)) := ⟨_, KX _ _ hcell, rfl⟩
    refine ⟨rfl, fun y c e => ?_, fun y z c e1 e2 => ?_, fun i y e => ?_⟩
    · by_cases h : y = ("__class__" : Str)
      · subst h
        have e : some cc = some c := e
        cases e
        exact ⟨hcc, _, isC⟩
      · rw [List.lookup_cons, show (y == ("__class__" : Str)) = false from beq_eq_false_iff_ne.mpr h] at e
        cases e
    · have q : ∀ y, List.lookup y [(("__class__" : Str), cc)] = some c → y = ("__class__" : Str) := fun y e => by
        by_cases h : y = ("__class__" : Str)
        · exact h
        · rw [List.lookup_cons, show (y == ("__class__" : Str)) = false from beq_eq_false_iff_ne.mpr h] at e
          cases e
      rw [q y e1, q z e2]
    · cases i with
      | zero =>
        cases e
        exact ⟨cc, rfl, fun v ev => by cases ev; exact ⟨.ref C, rfl, isC⟩⟩
      | succ i => cases e
  have I : L2.Inv (ncx (L2.CX P w) P w K mg base N F f A outer s H E) [] (startF N vs [some (.ref C)]) H { s with heap := h₁, toks := s.toks + (([("self" : Str), x] : List Str).zip us).length } := inv_startN NS hr.hd e0 (len _ _ _ _ hsp) r CA hns kp
  obtain ⟨fn1, fq, fps, fb, fsc, fcl, fc⟩ := F
  have hcl : fcl = [(("__class__" : Str), cc)] := hcl
  have hb : fb = _ := hb
  subst hcl
  obtain ⟨a, v, rfl, ea, okv, hQ⟩ := hsp
  have hN0 : N[0]? = some ("self" : Str) := by
    have q := NS.pre
    have q2 := congrArg (fun l : List Str => l[0]?) q
    simpa [List.getElem?_take] using q2
  have hks0 : fsc.names.lookup ("self" : Str) = some .local := NS.par _ (by simp)
  have hint : interactive (ncx (L2.CX P w) P w K mg base N ⟨fn1, fq, fps, fb, fsc, [(("__class__" : Str), cc)], fc⟩ f A outer s H E).env = false := by
    have h1 : fsc.kind = .function := NS.kind
    show (fsc.kind == .module && _) = false
    rw [h1] <;> rfl
  obtain ⟨pl, hcp⟩ := hc (ncx (L2.CX P w) P w K mg base N ⟨fn1, fq, fps, fb, fsc, [(("__class__" : Str), cc)], fc⟩ f A outer s H E).env
  change PySem.wpAt (model P w) (A.deeper (PySem.W.envX fq fsc s.heap.objs.size f (.ref fc) [(("__class__" : Str), cc)])) (.func fb (PySem.W.envX fq fsc s.heap.objs.size f (.ref fc) [(("__class__" : Str), cc)])) (execs fb (PySem.W.envX fq fsc s.heap.objs.size f (.ref fc) [(("__class__" : Str), cc)])) _ (ncx (L2.CX P w) P w K mg base N ⟨fn1, fq, fps, fb, fsc, [(("__class__" : Str), cc)], fc⟩ f A outer s H E).xe _
  have hbb : fb = [.Expr (.Call (.Attribute (.Call (.Name ("super" : Str) p0) [] [] p1) "__init__" ap) [e] [] cp) pos1, .Assign [.Attribute (.Name "self" p2) fld p3] (.Name x p4) pos2] := hb
  rw [hbb]
  apply ks_wpAt_execs_cons
  refine PySem.wpAt_mono (superinit (X := ncx (L2.CX P w) P w K mg base N ⟨fn1, fq, fps, fb, fsc, [(("__class__" : Str), cc)], fc⟩ f A outer s H E) (i := 0) (Q := fun H1 => ∃ u, H u = none ∧ H1 = upd H u (mwO u a)) (fd := PySem.W.fnX fn1 fq fps fb fsc [(("__class__" : Str), cc)] .none .none doc pm none (.ref fc) ct) S I ea
    hsu (NS.frk _ (by simp)) (by rw [har]; exact hks0) rfl rfl rfl hpar hfile htop hms hbs (by rw [har]; exact hN0) rfl (hE A outer s H E) (fun u hu => ⟨v, rfl, okv, fun z => ⟨upd_same, by rw [upd_ne (ne_of_none ea hu)]; exact ea, u, hu, rfl⟩⟩) (hi := hint) (pl := pl) (hc := hcp) (hst := hst _) (hsw := hsw _)) (fun fl s1 hh => ?_) fun er s1 hh => hh
  obtain ⟨rfl, H1, I1, u, hu, rfl⟩ := hh
  have T2 := pss_one (ps_ost (X := ncx (L2.CX P w) P w K mg base N ⟨fn1, fq, fps, fb, fsc, [(("__class__" : Str), cc)], fc⟩ f A outer s H E) (f := fld) (p' := p3) (pos := pos2) (pe_var (i := 0) (pos := p2) hN0 (.inl hks0)) (pe_var (i := 1) (pos := p4) hN1 (.inl (NS.par x (by simp))) hx1 hx2) (hsw2 _))
  have une : u ≠ a := ne_of_none ea hu ∘ Eq.symm
  refine wpAt_of_wpAny (wpAny_mono (T2.run [] s1 _ _ { nx := fun _ H' => Q .non H', rt := Q } I1 ⟨v, rfl, .ref a, rfl, a, C, rfl, S.oex, hno, .inl ⟨by rw [upd_ne (Ne.symm une)]; exact ea, fun dx hdx hne => ?_⟩⟩) (fun fl s' hs => ?_) fun _ _ z => z)
  · have hdu : dx ≠ u := fun z => by rw [z, upd_same] at hdx; cases hdx
    exact hQ u dx hu (by rw [upd_ne hdu] at hdx; exact hdx) hne hdu une
  · cases fl with
    | ret w1 =>
      obtain ⟨v1, σ', H', J, rv, q⟩ := hs
      exact ⟨v1, H', J.os, J.bare, J.base, J.hok, rv, q⟩
    | next =>
      obtain ⟨σ', H', J, q⟩ := hs
      exact ⟨V.non, H', J.os, J.bare, J.base, J.hok, rfl, q⟩
    | brk => obtain ⟨_, _, _, q⟩ := hs; exact False.elim q
    | cont => obtain ⟨_, _, _, q⟩ := hs; exact False.elim q
end
end T
end
section
set_option Elab.async false
set_option linter.all false
set_option maxRecDepth 100000
set_option maxHeartbeats 2000000
/-! T33: f-strings of flat values. -/
namespace T
open PySem PySem.Spec PyProof.Rows L2
/-- the text of a flat value in an f-string -/
def fmtV : V → Option Str
  | .non => some "None"
  | .bl b => some (if b then "True" else "False")
  | .int i => if i.natAbs.log2 < 1920 then some (toString i) else none
  | .str z => if z.length ≤ sizeLine then some z else none
  | _ => none
def tFmtF (te : TE) : TE := fun σ H Q => te σ H fun x H1 => ∃ z, fmtV x = some z ∧ Q (.str z) H1
theorem pe_fmtF {X : Cx} {e : Expr} {te : TE} {pos : Pos} (he : PE X e te) : PE X (.FormattedValue e (-1) none pos) (tFmtF te) := by
  refine ⟨fun pins s σ H Q I h => ?_⟩
  refine wpAny_FormattedValue_plain (thn (he.run pins s σ H _ I h) fun v s1 ⟨x, H1, I1, r1, z, e1, q⟩ => ?_)
  cases x with
  | non =>
    cases e1
    cases (show v = Value.none from r1)
    exact wpAny_formatField_none ⟨.str _, H1, I1.tok _, ⟨_, rfl⟩, q⟩
  | bl b =>
    cases e1
    cases (show v = Value.bool b from r1)
    exact wpAny_formatField_bool ⟨.str _, H1, I1.tok _, ⟨_, rfl⟩, q⟩
  | int i =>
    obtain ⟨t, rfl⟩ := r1
    simp only [fmtV] at e1
    by_cases hz : i.natAbs.log2 < 1920
    · rw [if_pos hz] at e1
      cases e1
      exact wpAny_formatField_int hz ⟨.str (toString i), H1, I1.tok _, ⟨_, rfl⟩, q⟩
    · rw [if_neg hz] at e1
      cases e1
  | str y =>
    obtain ⟨t, rfl⟩ := r1
    simp only [fmtV] at e1
    by_cases hz : y.length ≤ sizeLine
    · rw [if_pos hz] at e1
      cases e1
      exact wpAny_formatField_str ⟨.str _, H1, I1, ⟨t, rfl⟩, q⟩ ⟨.str _, H1, I1.tok _, ⟨_, rfl⟩, q⟩ hz
    · rw [if_neg hz] at e1
      cases e1
  | _ => cases e1
end T
end
section
set_option Elab.async false
set_option linter.all false
set_option maxRecDepth 100000
set_option maxHeartbeats 2000000
/-! T34: own errors raised: classes with own __init__. -/
namespace T
open PySem PySem.Spec PyProof.Rows L2
/-- an error class whose __init__ keeps its one argument -/
structure ErrI (P : Program) (w : World) (K : PySem.W.Frag) (mg : Str → Option Value) (base : Heap) (k : Nat) (c : EN) (ok : V → Prop) : Prop where
  oex : OexC K (He.ga K c.name)
  ini : ∃ fI fd x, PySem.W.findIn K (.ref (He.ga K c.name)) "__init__" = some (some (.ref fI)) ∧ PySem.W.typeIn K (.ref fI) = some (.type "function") ∧ FnOk P w K mg base (L2.CX P w) k fI fd [("self" : Str), x] (spSup (He.ga K c.name) c.field ok) ∧ Binds K fd [("self" : Str), x] []
  mgx : mg c.name = some (.ref (He.ga K c.name))
/-- what can be told in the error's text -/
def okD1 : D → Bool
  | .non => true
  | .bl _ => true
  | .int i => decide (i.natAbs.log2 < 1900)
  | .str z => decide (z.length ≤ 1000000)
  | _ => false
def sRaise1 (c : EN) (okd : D → Bool) (m : EM) : SM := fun r μ => match m r μ with
  | .ok d μ1 => if okd d then .exc c (some d) r μ1 else .stuck
  | .exc e p μ1 => .exc e p r μ1
  | .stuck => .stuck
theorem heap_raise {H1 : Hp} {a u dx C : Addr} {fs : List (Str × V)} {y : HO} (ha : H1 a = none) (h1 : dx ≠ a) (h2 : dx ≠ u) (h3 : u ≠ a) :
    upd (del (upd (upd (upd (upd H1 a y) u (mwO u a)) dx (exd dx fs)) a (exo a C (some dx))) a) dx (.xd fs) = upd (upd H1 u (mwO u a)) dx (.xd fs) := by
  funext b
  by_cases hb : b = dx
  · rw [hb, upd_same, upd_same]
  · rw [upd_ne hb, upd_ne hb]
    by_cases hba : b = a
    · rw [hba, del_same, upd_ne (Ne.symm h3), ha]
    · rw [del_ne hba, upd_ne hba, upd_ne hb]
      by_cases hbu : b = u
      · rw [hbu, upd_same, upd_same]
      · rw [upd_ne hbu, upd_ne hba, upd_ne hbu]
section
variable {X : Cx}
theorem ms_raise1 {c : EN} {ok : V → Prop} {okd : D → Bool} {k : Nat} {x : Str} {e : Expr} {m : EM} {p pos pos' : Pos} (hc : X.calm = true) (F : ErrI X.prog X.w X.K X.mg X.base k c ok) (hok : ∀ (u : List Addr) (H : Hp) (d : D) (v : V), Rep X.K u H d v → okd d = true → ok v)
    (hr : Room (k + 1) X.A) (hx : x = c.name) (hg : Gl X x) (he : ME X e m) (hdb : (x == ("__debug__" : Str)) = false := by decide)
    (hs : starEach [e] X.env = (false, eval e X.env) :: starEach [] X.env := by rfl) (hpl : (backTo pos (starEach [] X.env)).any (·.1) = false := by rfl) :
    MS X (.Raise (some (.Call (.Name x p) [e] [] pos)) none pos') (sRaise1 c okd m) := by
  subst hx
  obtain ⟨fI, fd, y, iC, tI, F1, b⟩ := F.ini
  refine ⟨fun W tk => PS.weak (ps_raise hc tk (pmk_oex F.oex iC tI F1 hr b .nil (passes_call tk (fun _ _ _ _ z => z.elim)) hg F.mgx ((ma_cons he ma_nil hs).run W tk) hdb hs hpl)) fun D' σ H ⟨u, r, μ, h1, h2, h3⟩ => ?_⟩
  refine ⟨u, r, μ, h1, h2, ?_⟩
  unfold sRaise1 at h3
  show PostA _ _ _ _ _ _ _ (aCons m aNil r μ)
  unfold aCons aNil
  cases em : m r μ with
  | stuck => rw [em] at h3; exact h3.elim
  | exc c' p' m1 => rw [em] at h3; exact fun u' H' cls dd g ex kk xr => h3 u' H' σ cls dd g ex kk (h2.mono g ex) xr
  | ok d m1 =>
    rw [em] at h3
    simp only at h3
    by_cases hd : okd d = true
    · rw [if_pos hd] at h3
      intro u' H' vs g ex kk pl
      obtain ⟨v, rfl, rv⟩ := one_any pl
      refine ⟨by simp, fun a ha => ⟨a, v, rfl, upd_same, hok _ _ _ _ rv hd, fun uu dx hu hdx n1 n2 n3 => ⟨rfl, dx, [(c.field, v)], upd_same, by rw [upd_ne n1, upd_same], ?_, ?_⟩⟩⟩
      · rw [upd_ne n1] at hdx
        exact hdx
      · rw [heap_raise ha n1 n2 n3]
        have hu' : H' uu = none := by rw [upd_ne n3] at hu; exact hu
        have hdx' : H' dx = none := by rw [upd_ne n1] at hdx; exact hdx
        have hdx2 : upd H' uu (mwO uu a) dx = none := by rw [upd_ne n2]; exact hdx'
        have ex2 : Ext H' (upd (upd H' uu (mwO uu a)) dx (.xd [(c.field, v)])) := (Ext.new hu').trans (Ext.new hdx2)
        exact h3 u' _ σ _ (some dx) g (ex.trans ex2) ((kk.new hu').new hdx2) (h2.mono g (ex.trans ex2)) ⟨rfl, dx, v, rfl, upd_same, Rep.mono (Grow.refl _) ex2 d rv⟩
    · rw [if_neg hd] at h3
      exact h3.elim
end
end T
end
section
set_option Elab.async false
set_option linter.all false
set_option maxRecDepth 100000
set_option maxHeartbeats 2000000
/-! T35: lambdas handed to a def: the captured slots. -/
namespace T
open PySem PySem.Spec PyProof.Rows L2
/-- the slots js hold ds, the others nothing -/
def capR (n : Nat) : List Nat → List D → Slots
  | j :: js, d :: ds => (capR n js ds).set j (some d)
  | _, _ => List.replicate n none
theorem capR_length (n : Nat) : ∀ (js : List Nat) (ds : List D), (capR n js ds).length = n
  | [], _ => by simp [capR]
  | _ :: _, [] => by simp [capR]
  | j :: js, d :: ds => by simp [capR, capR_length n js ds]
theorem capR_rep {K : PySem.W.Frag} {u : List Addr} {H : Hp} {σ : L2.St} : ∀ (js : List Nat) (ds : List D), (∃ xs, RepL K u H ds xs ∧ ∀ (j i : Nat) (x : V), js[j]? = some i → xs[j]? = some x → σ[i]? = some (some x)) → ERep K u H (capR σ.length js ds) σ
  | [], ds, _ => ⟨by simp [capR], fun i d e => by simp [capR, List.getElem?_replicate] at e⟩
  | _ :: _, [], _ => ⟨by simp [capR], fun i d e => by simp [capR, List.getElem?_replicate] at e⟩
  | j :: js, d :: ds, ⟨_, ⟨x, r, rfl, h1, h2⟩, h3⟩ => by
    have ih := capR_rep (σ := σ) js ds ⟨r, h2, fun k i y e1 e2 => h3 (k + 1) i y (by simpa using e1) (by simpa using e2)⟩
    have hj : σ[j]? = some (some x) := h3 0 j x rfl rfl
    refine ⟨by rw [capR_length], fun i e q => ?_⟩
    show ∃ v, σ[i]? = some (some v) ∧ Rep K u H e v
    have q : ((capR σ.length js ds).set j (some d))[i]? = some (some e) := q
    by_cases hi : j = i
    · subst hi
      rw [List.getElem?_set_self (by rw [capR_length]; exact (List.getElem?_eq_some_iff.mp hj).1)] at q
      cases q
      exact ⟨x, hj, h1⟩
    · rw [List.getElem?_set_ne hi] at q
      exact ih.2 i e q
end T
end
section
set_option Elab.async false
set_option linter.all false
set_option maxRecDepth 100000
set_option maxHeartbeats 2000000
/-! T36: x(lambda: e), where x is a def of one parameter that calls it. -/
namespace T
open PySem PySem.Spec PyProof.Rows L2
/-- the call of what stands in slot 0: told of one closure alone -/
noncomputable def actM (z : D) (cm : Mem → Res D) : EM := fun r μ => @ite _ (r[0]? = some (some z)) (Classical.propDecidable _) (cm μ) .stuck
theorem actM_yes {z : D} {cm : Mem → Res D} {r : Slots} {μ : Mem} (h : r[0]? = some (some z)) : actM z cm r μ = cm μ := by
  unfold actM
  rw [if_pos h]
theorem actM_no {z : D} {cm : Mem → Res D} {r : Slots} {μ : Mem} (h : ¬ r[0]? = some (some z)) : actM z cm r μ = .stuck := by
  unfold actM
  rw [if_neg h]
theorem PostE.other {K : PySem.W.Frag} {mg : Str → Option Value} {u : List Addr} {H : Hp} {σ σ' : L2.St} {W W' : WX} {Q : VK} {x : Res D} (hW : ∀ c d H, W c d σ H → W' c d σ' H) (h : PostE K mg u H σ W Q x) : PostE K mg u H σ' W' Q x := by
  cases x with
  | ok d m => exact h
  | exc c p m => exact fun u' H' cls dd g e k xr => hW _ _ _ (h u' H' cls dd g e k xr)
  | stuck => exact h
section
variable {X : Cx} {pins : List (Addr × Obj)} {σ : L2.St} {H : Hp} {s : Shared}
theorem me_act {CXg : CXT} {Eg : XK} {Ng : List Str} {qg : Str} {sg : Scope} {g f c' : Addr} {cdg pm ctv : Value} {params : Arguments} {body : Expr} {scope : Scope} {k : Nat} {a : Str} {pn : List (Addr × Obj)} {xe : Value → Shared → Prop} {bm : EM} {js : List Nat} {ds : List D} {p1 p2 : Pos}
    (I : Inv X pins σ H s) (L : LamX.LamS X.env.scope scope)
    (hf : s.heap.get? f = some (PySem.W.kla_obj "<lambda>" (X.env.qual ++ "<lambda>") params body scope (cloFrom X.env.cells scope.names []) pm c' ctv)) (hfn : H f = none) (hfr : f ∉ frs X.stack)
    (hbind : bindArgs (PySem.W.kla_fn "<lambda>" (X.env.qual ++ "<lambda>") params body scope (cloFrom X.env.cells scope.names []) pm (.ref c') ctv) ⟨[], []⟩ = pure [])
    (hr : Room (k + 1) (X.A.deeper (envOfC qg sg s.heap.objs.size g cdg)))
    (hbody : ∀ (A : Around) (outer : List Env) (s : Shared) (H : Hp) (E : XK), Room k (A.deeper (LamX.lamEnv X scope s.heap.objs.size f c')) → ME (LamX.lamCx X A outer s H E scope f c') body bm)
    (hN : Ng[0]? = some a) (hv : Vis sg a) (hd : (a == ("__debug__" : Str)) = false := by decide) (hcd : (a == ("__classdict__" : Str)) = false := by decide) :
    ME ((cxOf CXg X.prog X.w X.K X.mg X.base Ng qg sg g cdg X.A X.stack s H Eg).tr pn xe) (.Call (.Name a p1) [] [] p2) (actM (.clo f c' (X.env.qual ++ "<lambda>") σ js ds) fun μ => bm (capR σ.length js ds) μ) := by
  refine ⟨fun W tk => ⟨fun pinsZ sZ σZ HZ Q IZ h => ?_⟩⟩
  obtain ⟨u, r, μ, h1, h2, h3⟩ := h
  by_cases hz : r[0]? = some (some (.clo f c' (X.env.qual ++ "<lambda>") σ js ds))
  case neg => rw [actM_no hz] at h3; exact h3.elim
  rw [actM_yes hz] at h3
  obtain ⟨v, hs, rv⟩ := h2.2 0 _ hz
  obtain ⟨ev, hc, xs, rl, hxs⟩ := rv
  have ev : v = V.ref f := ev
  subst ev
  have er : ERep X.K u HZ (capR σ.length js ds) σ := capR_rep js ds ⟨xs, rl, hxs⟩
  refine wpAny_Call_Name_kw (thn ((pe_var (pos := p1) (i := 0) hN hv hd hcd).run pinsZ sZ σZ HZ (fun v H1 => v = .ref f ∧ H1 = HZ) IZ ⟨.ref f, hs, rfl, rfl⟩) fun w s1 z => ?_)
  obtain ⟨v1, H1, I1, r1, e1, e2⟩ := z
  rw [e2] at I1
  rw [e1] at r1
  obtain rfl : w = Value.ref f := r1
  have un : Un (frs X.stack) [] H HZ s.heap s1.heap := I1.base
  have of1 : s1.heap.get? f = some (PySem.W.kla_obj "<lambda>" (X.env.qual ++ "<lambda>") params body scope (cloFrom X.env.cells scope.names []) pm c' ctv) := un.keep f _ hf hfn hfr (fun y => nomatch (show f ∈ ([] : List Addr) from y))
  refine PySem.W.callWith_F0 ⟨_, _, _, _, of1⟩ ?_
  obtain ⟨⟨oc, vs, t, ho1, ho2, ho3⟩, _⟩ := I1.hok c' _ hc
  have hx := passAt tk σZ
  have go : codeAny (model X.prog X.w) (X.A.deeper (envOfC qg sg s.heap.objs.size g cdg)) (.call (.ref f) ⟨[], []⟩) (CR (L2.CX X.prog X.w) (envOfC qg sg s.heap.objs.size g cdg :: X.stack) X.prog X.w HZ s1 Q (WE W σZ)) s1 := by
    refine PySem.W.kla_callFunE hr.depth of1 rfl L.co L.gen rfl ⟨c', oc, vs, t, rfl, ho1, ho2, ho3⟩ ?_
    rw [hbind]
    refine wpAny_pure ?_
    refine wpAny_newFunctionEnv (fun y hy => (L.own y hy).2) (fun y hy => absurd hy (by simp)) (fun h₁ hns sb => ⟨I1.nolimit.fresh _ sb, ?_⟩) L.kind
    show codeAny _ _ (.expr body (LamX.lamEnv X scope s1.heap.objs.size f c')) _ _
    have J : Inv (LamX.lamCx X (X.A.deeper (envOfC qg sg s.heap.objs.size g cdg)) (envOfC qg sg s.heap.objs.size g cdg :: X.stack) s1 HZ (WE W σZ) scope f c') [] σ HZ { s1 with heap := h₁, toks := s1.toks + ([] : List (Str × Value)).length } :=
      LamX.lam_start2 I L I1.env0 hr.hd un hns fun b o e => sb.extBut b o (Nat.ne_of_lt (Heap.lt_size e)) (Heap.get?_push_of_some _ e)
    have tkL : Takes (LamX.lamCx X (X.A.deeper (envOfC qg sg s.heap.objs.size g cdg)) (envOfC qg sg s.heap.objs.size g cdg :: X.stack) s1 HZ (WE W σZ) scope f c') (fun cls d _ H => WE W σZ cls d H) := takes_of rfl rfl rfl rfl
    refine PySem.W.kla_codeExpr (wpAny_mono (((hbody _ _ s1 HZ (WE W σZ) (hr.deeper _)).run _ tkL).run [] _ σ HZ Q J ⟨u, _, μ, h1, er, PostE.other (fun _ _ _ z => z) h3⟩) (fun v s' hq => ?_) fun e s' hq => hq)
    obtain ⟨w', H', J', rv, q⟩ := hq
    exact ⟨w', H', J'.os, J'.bare, J'.base, J'.hok, rv, q⟩
  refine wpAny_call (codeAny_mono go fun r s' hq => ?_)
  cases r with
  | error e => exact hx pinsZ HZ s1 e s' I1 hq
  | ok fl =>
    cases fl with
    | ret u => exact I1.after hq
    | _ => exact False.elim hq
/-- the slots js, all of which hold something -/
def pickS (r : Slots) : List Nat → Option (List D)
  | [] => some []
  | j :: js => match r[j]?, pickS r js with
    | some (some d), some ds => some (d :: ds)
    | _, _ => none
theorem pickS_rep {K : PySem.W.Frag} {u : List Addr} {r : Slots} (h : ERep K u H r σ) : ∀ {js : List Nat} {ds : List D}, pickS r js = some ds → ∃ xs, RepL K u H ds xs ∧ ∀ (j i : Nat) (x : V), js[j]? = some i → xs[j]? = some x → σ[i]? = some (some x)
  | [], ds, e => by
    cases e
    exact ⟨[], rfl, fun j i x e1 e2 => by simp at e2⟩
  | j :: js, ds, e => by
    simp only [pickS] at e
    split at e
    · rename_i d ds' e1 e2
      cases e
      obtain ⟨v, hv, rv⟩ := h.2 j d e1
      obtain ⟨xs, rl, hx⟩ := pickS_rep h e2
      refine ⟨v :: xs, ⟨v, xs, rfl, rv, rl⟩, fun k i x e3 e4 => ?_⟩
      cases k with
      | zero =>
        simp at e3 e4
        rw [← e3, ← e4]
        exact hv
      | succ k => exact hx k i x (by simpa using e3) (by simpa using e4)
    · cases e
end
/-- x(lambda: e): mfg: what x makes of the lambda's call; bm: what e does; js: the names that e takes -/
def mLamCall (d : He.Defn) (q : Str) (n : Nat) (js : List Nat) (mfg : (Mem → Res D) → Mem → Res D) (bm : EM) : EM := fun r μ =>
  if tabIn d q μ then match pickS r js with
    | some ds => mfg (fun μ1 => bm (capR n js ds) μ1) μ
    | none => .stuck
  else .stuck
section
variable {X : Cx}
theorem me_lamcall {x a qg : Str} {g : Addr} {d : He.Defn} {q : Str} {k : Nat} {pg : Arguments} {bg : List Stmt} {sg : Scope} {kws : List (Str × V)} {fd : FuncData} {Ng : List Str} {params : Arguments} {body : Expr} {scope : Scope} {mbg : EM → SM} {mfg : (Mem → Res D) → Mem → Res D} {bm : EM} {js : List Nat} {n : Nat} {p lpos pos : Pos}
    (F : FunD X.K x qg pg bg sg [] kws g fd) (hb : L2.Binds X.K fd [a] []) (Sg : FnScope Ng [a] sg) (hNg : Ng[0]? = some a) (hva : Vis sg a)
    (hbody : ∀ (cdv : Value) (A : Around) (outer : List Env) (s : Shared) (H : Hp) (E : XK) (callm : EM), Room (k + 1) (A.deeper (envOfC qg sg s.heap.objs.size g cdv)) →
      (∀ (pn : List (Addr × Obj)) (xe : Value → Shared → Prop) (p1 p2 : Pos), ME ((cxOf (L2.CX X.prog X.w) X.prog X.w X.K X.mg X.base Ng qg sg g cdv A outer s H E).tr pn xe) (.Call (.Name a p1) [] [] p2) callm) →
      MSs (cxOf (L2.CX X.prog X.w) X.prog X.w X.K X.mg X.base Ng qg sg g cdv A outer s H E) bg (mbg callm))
    (hind : ∀ (f c : Addr) (q : Str) (σ : L2.St) (ds : List D) (cm : Mem → Res D) (μ : Mem), runB Ng (mbg (actM (.clo f c q σ js ds) cm)) [.clo f c q σ js ds] μ = mfg cm μ)
    (TB : LamX.TabB X.base X.mg (He.cT X.K d).1 (He.cT X.K d).2) (hcode : X.env.code = .ref (He.cT X.K d).1) (hq : X.env.qual ++ "<lambda>" = q) (hn : X.N.length = n)
    (hr : Room (k + 2) X.A) (hg : Gl X x) (hm : X.mg x = some (.ref g)) (L : LamX.LamS X.env.scope scope) (hdef : defaultsOf params X.env = ([], []))
    (hbind : ∀ (q : Str) (cl : List (Str × Addr)) (pm cv ctv : Value), bindArgs (PySem.W.kla_fn "<lambda>" q params body scope cl pm cv ctv) ⟨[], []⟩ = pure [])
    (hlam : ∀ (A : Around) (outer : List Env) (s : Shared) (H : Hp) (E : XK) (f c' : Addr), Room k (A.deeper (LamX.lamEnv X scope s.heap.objs.size f c')) → ME (LamX.lamCx X A outer s H E scope f c') body bm)
    (hdb : (x == ("__debug__" : Str)) = false := by decide) (hd : (a == ("__debug__" : Str)) = false := by decide) (hcd : (a == ("__classdict__" : Str)) = false := by decide) :
    ME X (.Call (.Name x p) [.Lambda params body scope lpos] [] pos) (mLamCall d q n js mfg bm) := by
  subst hq hn
  obtain ⟨oc, od, dV, kV, doc, pm0, an, cdg, ct, osl, rfl, lk, hcg, _, _⟩ := F.ex
  refine ⟨fun W tk => ⟨fun pins s σ H Q I h => ?_⟩⟩
  obtain ⟨u, r, μ, h1, h2, h3⟩ := h
  unfold mLamCall at h3
  by_cases ht : tabIn d (X.env.qual ++ "<lambda>") μ = true
  case neg => rw [if_neg ht] at h3; exact h3.elim
  rw [if_pos ht] at h3
  cases eds : pickS r js with
  | none => rw [eds] at h3; exact h3.elim
  | some ds =>
    rw [eds] at h3
    obtain ⟨xs, rl, hxs⟩ := pickS_rep h2 eds
    obtain ⟨t1, t2⟩ := tabIn_v h1 ht
    refine wpAny_Call_Name_kw (ld_glob I hg hm ?_ hdb)
    refine PySem.W.callWith_K (h₀ := X.base) I.ok.mod.kin F.kp ?_ (by rfl) (by rfl)
    show wpAny _ _ (spliced ((false, eval (.Lambda params body scope lpos) X.env) :: backTo pos (starEach [] X.env))) _ _ s
    refine Calls.spliced_cons (LamX.lam_make2 I TB hcode t1 t2 h1.tabsT hdef (L.has I.ok) fun f c' pm' ctv H1 s' I1 eN T1 hf hfn hfr hco => ?_)
    refine Calls.spliced_nil ⟨I1.kIn, ?_⟩
    have k1 : HRep X.K u H1 μ := h1.lam eN T1
    have ex1 : Ext H H1 := ext_of_n eN
    have rl1 : RepL X.K u H1 ds xs := RepL.mono (Grow.refl _) ex1 ds rl
    have hl : σ.length = X.N.length := I1.len
    have h4 : PostE X.K X.mg u H1 σ W Q (runB Ng (mbg (actM (.clo f c' (X.env.qual ++ "<lambda>") σ js ds) fun μ1 => bm (capR σ.length js ds) μ1)) [.clo f c' (X.env.qual ++ "<lambda>") σ js ds] μ) := by
      rw [hind, hl]
      exact PostE.later (Grow.refl _) ex1 h3
    have hx := passAt tk σ
    have rc : codeAny (model X.prog X.w) X.A (.call (.ref g) ⟨[.ref f], []⟩) (CR (L2.CX X.prog X.w) X.stack X.prog X.w H1 s' Q (WE W σ)) s' := by
      refine LamX.run_ofS (N := Ng) (ps := [a]) (us := [.ref f]) (vs := [.ref f]) (k := k + 1) lk hcg Sg hr I1.env0 (hb s' [.ref f] I1.kIn rfl) (.cons rfl .nil) rfl fun hr' => ?_
      have tkZ : Takes (cxOf (L2.CX X.prog X.w) X.prog X.w X.K X.mg X.base Ng qg sg g cdg X.A X.stack s' H1 (WE W σ)) (fun cls dd _ H => WE W σ cls dd H) := takes_of rfl rfl rfl rfl
      refine ⟨_, (hbody cdg X.A X.stack s' H1 (WE W σ) _ hr' fun pn xe p1 p2 => me_act (ds := ds) (js := js) I1 L hf hfn hfr (hbind _ _ _ _ _) hr' (fun A outer s H E hr2 => hlam A outer s H E f c' hr2) hNg hva hd hcd).run _ tkZ, u, _, μ, k1, start_rep (RepL.one (d := .clo f c' (X.env.qual ++ "<lambda>") σ js ds) ⟨rfl, hco, xs, rl1, hxs⟩), ?_⟩
      unfold runB at h4
      show PostS X.K X.mg u H1 _ _ (mbg _ (startD Ng [_]) μ)
      cases e : mbg (actM (.clo f c' (X.env.qual ++ "<lambda>") σ js ds) fun μ1 => bm (capR σ.length js ds) μ1) (startD Ng [.clo f c' (X.env.qual ++ "<lambda>") σ js ds]) μ with
      | ok fl r1 m1 =>
        rw [e] at h4
        cases fl with
        | next => exact fun u' H' σ' a b c _ => h4 u' H' .non a b c rfl
        | ret d => exact fun u' H' v a b c q => h4 u' H' v a b c q
        | brk => exact h4.elim
        | cont => exact h4.elim
      | exc c p r1 m1 =>
        rw [e] at h4
        exact fun u' H' σ' cls dd a b c' _ q => h4 u' H' cls dd a b c' q
      | stuck => rw [e] at h4; exact h4.elim
    refine wpAny_call (codeAny_mono rc fun r s2 hq => ?_)
    cases r with
    | error e => exact hx pins H1 s' e s2 I1 hq
    | ok fl =>
      cases fl with
      | ret u => exact I1.after hq
      | _ => exact False.elim hq
end
end T
end
section
set_option Elab.async false
set_option linter.all false
set_option maxRecDepth 100000
set_option maxHeartbeats 2000000
/-! T37: what the head tells, as Bools. -/
namespace T
open PySem PySem.Spec PyProof.Rows L2
open He (ba eqO eqO_ok)
def allBT : List BT := [.non, .bl, .int, .str, .tup, .lst, .dct]
theorem allBT_mem (t : BT) : t ∈ allBT := by cases t <;> simp [allBT]
def slotB (K : PySem.W.Frag) (C : Addr) (f : Str) (p : Addr) (i : Nat) : Bool :=
  eqO (PySem.W.findIn K (.ref C) f) (some (some (.ref p))) && (eqO (PySem.W.specialIn K (.ref p) "__get__") (some (some (.builtin "member_descriptor.__get__"))) && (decide (PySem.W.takesIn K (.ref p) = some true) &&
    (decide (PySem.W.typeIn K (.ref p) = some (.type "member_descriptor")) && (decide (PySem.W.slotIn K p C = some i) && decide (i < 1000)))))
theorem slotB_ok {K : PySem.W.Frag} {C : Addr} {f : Str} {p : Addr} {i : Nat} (h : slotB K C f p i = true) : SlX.Slot1 K C f p i := by
  obtain ⟨h1, h⟩ := ba h
  obtain ⟨h2, h⟩ := ba h
  obtain ⟨h3, h⟩ := ba h
  obtain ⟨h4, h⟩ := ba h
  obtain ⟨h5, h6⟩ := ba h
  exact ⟨eqO_ok h1, eqO_ok h2, of_decide_eq_true h3, of_decide_eq_true h4, of_decide_eq_true h5, of_decide_eq_true h6⟩
def sclB (K : PySem.W.Frag) (C : Addr) : Bool :=
  PySem.W.plainGet K C Str.empty && (PySem.W.isClsIn K C && (PySem.W.plainOver K C && eqO (PySem.W.findIn K (.ref C) "__setattr__") (some (some (.builtin "object.__setattr__")))))
def sisB (K : PySem.W.Frag) (C : Addr) : Bool :=
  eqO (PySem.W.findIn K (.ref C) "__class__") (some (some (.builtin "object.__class__"))) && (eqO (PySem.W.specialIn K (.builtin "object.__class__") "__get__") (some (some (.builtin "getset_descriptor.__get__"))) &&
    (decide (PySem.W.takesIn K (.builtin "object.__class__") = some true) && decide (PySem.W.mroIn K C (.type "object") = some true)))
def kitB (K : PySem.W.Frag) (C : Addr) : Bool := allBT.all fun t => decide (PySem.W.kitOne K (.type t.name) (.ref C) = some false) && decide (PySem.W.kitOne K (.ref C) (.type t.name) = some false)
def slotsB (K : PySem.W.Frag) (C : Addr) : Nat → List Str → Bool
  | _, [] => true
  | i, f :: fs => slotB K C f (He.ma K C f) i && slotsB K C (i + 1) fs
theorem slotsB_ok {K : PySem.W.Frag} {C : Addr} : ∀ {fs : List Str} {n : Nat}, slotsB K C n fs = true → ∀ (i : Nat) (f : Str), fs[i]? = some f → SlX.Slot1 K C f (He.ma K C f) (n + i)
  | [], _, _, i, f, e => by simp at e
  | g :: fs, n, h, i, f, e => by
    obtain ⟨h1, h2⟩ := ba h
    cases i with
    | zero =>
      simp at e
      rw [← e]
      exact slotB_ok h1
    | succ i =>
      have z := slotsB_ok h2 i f (by simpa using e)
      rw [show n + (i + 1) = n + 1 + i from by omega]
      exact z
def clsB (K : PySem.W.Frag) (c : CN) : Bool :=
  sclB K (He.ga K c.name) && (sisB K (He.ga K c.name) && (slotsB K (He.ga K c.name) 0 c.slots && (kitB K (He.ga K c.name) && (He.Fa.mkr c.name).ok K)))
theorem clsB_ok {K : PySem.W.Frag} {c : CN} (h : clsB K c = true) : ClsF K c := by
  obtain ⟨h1, h⟩ := ba h
  obtain ⟨h2, h⟩ := ba h
  obtain ⟨h3, h⟩ := ba h
  obtain ⟨h4, h5⟩ := ba h
  refine ⟨?_, ?_, fun i f e => ?_, fun t => ?_, fun t => ?_, He.mkr_ok h5⟩
  · obtain ⟨a, h1⟩ := ba h1
    obtain ⟨b, h1⟩ := ba h1
    obtain ⟨c, d⟩ := ba h1
    exact ⟨a, b, c, eqO_ok d⟩
  · obtain ⟨a, h2⟩ := ba h2
    obtain ⟨b, h2⟩ := ba h2
    obtain ⟨c, d⟩ := ba h2
    exact ⟨eqO_ok a, eqO_ok b, of_decide_eq_true c, of_decide_eq_true d⟩
  · have z := slotsB_ok h3 i f e
    rw [Nat.zero_add] at z
    exact z
  · exact of_decide_eq_true (ba (List.all_eq_true.mp h4 t (allBT_mem t))).1
  · exact of_decide_eq_true (ba (List.all_eq_true.mp h4 t (allBT_mem t))).2
def exmB (K : PySem.W.Frag) (es : List EN) : Bool := es.all fun e => es.all fun c => decide (PySem.W.exmOne K (.ref (He.ga K e.name)) (.ref (He.ga K c.name)) = some (decide (e = c)))
theorem exmB_ok {K : PySem.W.Frag} {es : List EN} (h : exmB K es = true) : ∀ e ∈ es, ∀ c ∈ es, PySem.W.exmOne K (.ref (He.ga K e.name)) (.ref (He.ga K c.name)) = some (decide (e = c)) := fun e he c hc =>
  of_decide_eq_true (List.all_eq_true.mp (List.all_eq_true.mp h e he) c hc)
def mthB (K : PySem.W.Frag) (q : CN × Str) : Bool := (He.Fa.meth q.1.name q.2).ok K
/-! ### errors with an own __init__ -/
def oexB (K : PySem.W.Frag) (C : Addr) : Bool := (match K.lookup C with
  | some ⟨.type t, _, .cls cd, sl⟩ => (match cd.mro, sl.toList with
    | .ref C' :: bm, [_, _, _, _, some (.builtin n), _] => decide (t = "type") && (decide (C' = C) && (decide (n = "ValueError.__new__") && (!cd.hasDel && (cd.hasDict && PySem.HandSPX.refsVE bm))))
    | _, _ => false)
  | _ => false) && (eqO (PySem.W.findIn K (.ref C) "__setattr__") (some (some (.builtin "object.__setattr__"))) && (decide (PySem.W.subIn K (.ref C) (.type "BaseException") = some true) &&
    (decide (PySem.W.typeIn K (.ref C) = some (.type "type")) && PySem.W.keepIn K (.ref C))))
theorem oexB_ok {K : PySem.W.Frag} {C : Addr} (h : oexB K C = true) : OexC K C := by
  obtain ⟨h1, h⟩ := ba h
  obtain ⟨h2, h⟩ := ba h
  obtain ⟨h3, h⟩ := ba h
  obtain ⟨h4, h5⟩ := ba h
  refine ⟨?_, eqO_ok h2, of_decide_eq_true h3, of_decide_eq_true h4, h5⟩
  split at h1
  · rename_i t od cd sl lk
    split at h1
    · rename_i C' bm k0 k1 k2 k3 n k5 hm hs
      obtain ⟨a1, h1⟩ := ba h1
      obtain ⟨a2, h1⟩ := ba h1
      obtain ⟨a3, h1⟩ := ba h1
      obtain ⟨a4, h1⟩ := ba h1
      obtain ⟨a5, a6⟩ := ba h1
      have e1 : t = "type" := of_decide_eq_true a1
      have e2 : C' = C := of_decide_eq_true a2
      have e3 : n = "ValueError.__new__" := of_decide_eq_true a3
      subst e1 e2 e3
      obtain ⟨nm, bs, mro, ns, qn, hd, sn, sub, ab, col, del⟩ := cd
      have hm : mro = .ref C' :: bm := hm
      have d5 : hd = true := a5
      have d0 : (!del) = true := a4
      have d4 : del = false := by simpa using d0
      subst hm d5 d4
      obtain ⟨l⟩ := sl
      have hs : l = [k0, k1, k2, k3, some (.builtin "ValueError.__new__"), k5] := hs
      subst hs
      exact ⟨nm, qn, ns, bs, bm, sn, sub, ab, col, od, k0, k1, k2, k3, k5, lk, a6⟩
    · cases h1
  · cases h1
/-- an error's own __init__, as the text has it -/
structure SupD where
  c : EN
  qual : Str
  params : Arguments
  body : List Stmt
  scope : Scope
abbrev FnZ : Type := Option (Str × Str × Arguments × FuncBody × Scope × Addr × Addr)
def SupD.f (K : PySem.W.Frag) (d : SupD) : Addr := He.ma K (He.ga K d.c.name) "__init__"
def fnZ (K : PySem.W.Frag) (d : SupD) : FnZ := match K.lookup (d.f K) with
  | some ⟨_, _, .func fd, _⟩ => some (fd.name, fd.qualname, fd.params, fd.body, fd.scope, fd.globals, fd.builtins)
  | _ => none
def SupD.val (d : SupD) : FnZ := some ("__init__", d.qual, d.params, .stmts d.body, d.scope, mainGlobals, builtinsNs)
def SupD.cc (K : PySem.W.Frag) (d : SupD) : Addr := match K.lookup (d.f K) with
  | some ⟨_, _, .func fd, _⟩ => (match fd.closure with
    | [(_, cc)] => cc
    | _ => 0)
  | _ => 0
def SupD.cd (K : PySem.W.Frag) (d : SupD) : Addr := match K.lookup (d.f K) with
  | some ⟨_, _, .func fd, _⟩ => (match fd.code with
    | .ref c => c
    | _ => 0)
  | _ => 0
def noneV : Value → Bool
  | .none => true
  | _ => false
theorem noneV_ok {v : Value} (h : noneV v = true) : v = .none := by
  cases v <;> first | rfl | cases h
def cloB : List (Str × Addr) → Value → Bool
  | [(x, _)], .ref _ => decide (x = "__class__")
  | _, _ => false
theorem cloB_ok {l : List (Str × Addr)} {v : Value} (h : cloB l v = true) : ∃ cc c, l = [(("__class__" : Str), cc)] ∧ v = .ref c := by
  unfold cloB at h
  split at h
  · exact ⟨_, _, by rw [of_decide_eq_true h], rfl⟩
  · cases h
def supFdB (K : PySem.W.Frag) (d : SupD) : Bool := match K.lookup (d.f K) with
  | some ⟨_, _, .func fd, _⟩ => cloB fd.closure fd.code && (noneV fd.defaults && (noneV fd.kwdefaults && (fd.annotations.isNone && PySem.W.codeIn K fd.code d.qual)))
  | _ => false
def supB (file : Str) (K : PySem.W.Frag) (d : SupD) : Bool :=
  oexB K (He.ga K d.c.name) && (supFdB K d &&
  ((match K.lookup (d.cc K) with
    | some ⟨_, _, .cell (some (.ref C)), _⟩ => decide (C = He.ga K d.c.name)
    | _ => false) &&
  ((match K.lookup (d.cd K) with
    | some ⟨_, _, .fields vs, _⟩ => (match (vs[2]? : Option Value) with
      | some (.str f _) => file == f
      | _ => false)
    | _ => false) &&
  (decide (PySem.W.mroIn K (He.ga K d.c.name) (.ref (He.ga K d.c.name)) = some true) && (eqO (PySem.W.nsIn K cStatics "thirdparty.any") (some none) &&
  (eqO (PySem.W.ks_superIn K (He.ga K d.c.name) (He.ga K d.c.name) "__init__") (some (some (.builtin "ValueError.__init__"))) && (decide (PySem.W.subIn K (.ref (He.ga K d.c.name)) (.type "ValueError") = some true) &&
  (eqO (PySem.W.findIn K (.ref (He.ga K d.c.name)) "__init__") (some (some (.ref (d.f K)))) && (decide (PySem.W.typeIn K (.ref (d.f K)) = some (.type "function")) &&
  (xfB K (He.ga K d.c.name) && eqO (PySem.W.findIn K (.ref (He.ga K d.c.name)) d.c.field) (some none)))))))))))
/-- its facts -/
structure SupOk (file : Str) (K : PySem.W.Frag) (d : SupD) : Prop where
  ex : ∃ (fd : FuncData) (doc pm ct : Value), fd = PySem.W.fnX "__init__" d.qual d.params d.body d.scope [("__class__", d.cc K)] .none .none doc pm none (.ref (d.cd K)) ct ∧ SupF K (He.ga K d.c.name) (d.f K) (d.cc K) (d.cd K) fd ∧ PySem.W.codeIn K (.ref (d.cd K)) d.qual = true
  file : ∀ (vs : Array Value) (ccl : Value) (cdd : Option Addr) (ccs : Array (Option Value)), K.lookup (d.cd K) = some ⟨ccl, cdd, .fields vs, ccs⟩ → ∃ f tf, vs[2]? = some (.str f tf) ∧ (file == f) = true
  ini : PySem.W.findIn K (.ref (He.ga K d.c.name)) "__init__" = some (some (.ref (d.f K)))
  ty : PySem.W.typeIn K (.ref (d.f K)) = some (.type "function")
  xf : XfC K (He.ga K d.c.name)
  no : PySem.W.findIn K (.ref (He.ga K d.c.name)) d.c.field = some none
theorem supB_ok {file : Str} {K : PySem.W.Frag} {d : SupD} (e : fnZ K d = d.val) (h : supB file K d = true) : SupOk file K d := by
  obtain ⟨h1, h⟩ := ba h
  obtain ⟨h2, h⟩ := ba h
  obtain ⟨h3, h⟩ := ba h
  obtain ⟨h4, h⟩ := ba h
  obtain ⟨h5, h⟩ := ba h
  obtain ⟨h6, h⟩ := ba h
  obtain ⟨h7, h⟩ := ba h
  obtain ⟨h8, h⟩ := ba h
  obtain ⟨h9, h⟩ := ba h
  obtain ⟨h10, h⟩ := ba h
  obtain ⟨h11, h12⟩ := ba h
  have cell : ∃ cl cld csl, K.lookup (d.cc K) = some ⟨cl, cld, .cell (some (.ref (He.ga K d.c.name))), csl⟩ := by
    split at h3
    · rename_i a b C c lk
      rw [of_decide_eq_true h3] at lk
      exact ⟨_, _, _, lk⟩
    · cases h3
  have code : ∃ ccl cdd vs ccs, K.lookup (d.cd K) = some ⟨ccl, cdd, .fields vs, ccs⟩ ∧ ∃ f tf, vs[2]? = some (.str f tf) ∧ (file == f) = true := by
    split at h4
    · rename_i a b vs c lk
      split at h4
      · rename_i f tf q
        exact ⟨_, _, _, _, lk, f, tf, q, h4⟩
      · cases h4
    · cases h4
  obtain ⟨ccl, cdd, vs, ccs, lkc, hf⟩ := code
  refine ⟨?_, fun vs' a b c q => ?_, eqO_ok h9, of_decide_eq_true h10, xfB_ok h11, eqO_ok h12⟩
  · unfold fnZ at e
    unfold supFdB at h2
    cases q : K.lookup (d.f K) with
    | none => rw [q] at h2; cases h2
    | some o =>
      obtain ⟨oc, od, dt, osl⟩ := o
      rw [q] at h2 e
      cases dt with
      | func fd =>
        obtain ⟨n1, n2, n3, n4, n5, n6, n7, n8, n9, n10, n11, n12, n13, n14, n15⟩ := fd
        have e2 : (some (n1, n2, n3, n4, n5, n6, n15) : FnZ) = some (("__init__" : Str), d.qual, d.params, FuncBody.stmts d.body, d.scope, mainGlobals, builtinsNs) := e
        simp only [Option.some.injEq, Prod.mk.injEq] at e2
        obtain ⟨a1, a2, a3, a4, a5, a6, a7⟩ := e2
        subst a1 a2 a3 a4 a5 a6 a7
        obtain ⟨b1, b⟩ := ba h2
        obtain ⟨b2, b⟩ := ba b
        obtain ⟨b3, b⟩ := ba b
        obtain ⟨b4, b5⟩ := ba b
        have g2 : n8 = .none := noneV_ok b2
        have g3 : n9 = .none := noneV_ok b3
        have g4 : n12 = none := Option.isNone_iff_eq_none.mp b4
        subst g2 g3 g4
        obtain ⟨cc, c, e7, e13⟩ := cloB_ok b1
        have e7 : n7 = [(("__class__" : Str), cc)] := e7
        have e13 : n13 = .ref c := e13
        subst e7 e13
        · have ecc : d.cc K = cc := by
            unfold SupD.cc
            rw [q]
          have ecd : d.cd K = c := by
            unfold SupD.cd
            rw [q]
          refine ⟨PySem.W.fnX "__init__" d.qual d.params d.body d.scope [("__class__", d.cc K)] .none .none n10 n11 none (.ref (d.cd K)) n14, n10, n11, n14, rfl, ⟨oexB_ok h1, ⟨oc, od, osl, ?_⟩, cell, ⟨ccl, cdd, vs, ccs, lkc⟩, of_decide_eq_true h5, eqO_ok h6, eqO_ok h7, of_decide_eq_true h8⟩, ?_⟩
          · rw [ecc, ecd]
            exact q
          · rw [ecd]
            exact b5
      | _ => cases h2
  · rw [lkc] at q
    cases q
    exact hf
end T
end
section
set_option Elab.async false
set_option linter.all false
set_option maxRecDepth 100000
set_option maxHeartbeats 2000000
/-! T38: the Hook; from the law's def to the law. -/
namespace T
open PySem PySem.Spec PyProof.Rows L2
open He (ba eqO eqO_ok)
/-! ### the Hook -/
/-- the part of the heap that is looked at -/
def partH (n : Nat) (g : Addr → Option Obj) : PySem.W.Frag := He.frT g (He.asD g n ++ [cStatics])
def tfB (g : Addr → Option Obj) (tf : List He.Defn) (K : PySem.W.Frag) : Bool := tf.all fun p => (match g (He.cT K p).2 with
  | some o => He.emptyTab o
  | none => false) && PySem.W.codeHdIn K (He.cT K p).1 (He.cT K p).2
abbrev AlY : Type := He.AlT × Bool × List FnZ
def obsY (n : Nat) (fa : List He.Fa) (fn : List He.DefD) (tf : List He.Defn) (ex : PySem.W.Frag → Bool) (sn : List SupD) (g : Addr → Option Obj) : AlY :=
  (He.obsT fa fn [] (partH n g), tfB g tf (partH n g) && ex (partH n g), sn.map fun d => fnZ (partH n g) d)
def valY (fn : List He.DefD) (sn : List SupD) (w : World) : AlY := (He.valT fn [] w, true, sn.map SupD.val)
structure SaysY (fa : List He.Fa) (fn : List He.DefD) (tf : List He.Defn) (ex : PySem.W.Frag → Bool) (sn : List SupD) (w : World) (h : Heap) (K : PySem.W.Frag) : Prop where
  t : He.SaysT fa fn [] w K
  more : ex K = true
  tab : ∀ p ∈ tf, PySem.W.codeHdIn K (He.cT K p).1 (He.cT K p).2 = true ∧ K.lookup (He.cT K p).2 = none ∧ h.get? (He.cT K p).2 = some { cls := .none, data := .fields #[] }
  z : sn.map (fnZ K) = sn.map SupD.val
theorem saysY_of {n : Nat} {fa : List He.Fa} {fn : List He.DefD} {tf : List He.Defn} {ex : PySem.W.Frag → Bool} {sn : List SupD} {w : World} {h : Heap} (e : obsY n fa fn tf ex sn h.get? = valY fn sn w) : SaysY fa fn tf ex sn w h (partH n h.get?) := by
  have e2 : (tfB h.get? tf (partH n h.get?) && ex (partH n h.get?)) = true := congrArg (fun z : AlY => z.2.1) e
  obtain ⟨h1, h2⟩ := ba e2
  refine ⟨congrArg (fun z : AlY => z.1) e, h2, fun p hp => ?_, congrArg (fun z : AlY => z.2.2) e⟩
  obtain ⟨h3, h4⟩ := ba (List.all_eq_true.mp h1 p hp)
  cases q : h.get? (He.cT (partH n h.get?) p).2 with
  | none => rw [q] at h3; cases h3
  | some o =>
    rw [q] at h3
    exact ⟨h4, He.frT_none q h3, by rw [He.emptyTab_eq h3]⟩
def hookY (n : Nat) (fa : List He.Fa) (fn : List He.DefD) (tf : List He.Defn) (ex : PySem.W.Frag → Bool) (sn : List SupD) : PySem.W.Hook where
  α := AlY
  obs := fun s => obsY n fa fn tf ex sn s.heap.get?
  val := fun w => valY fn sn w
  says := fun w h => ∃ K : PySem.W.Frag, K.In h ∧ SaysY fa fn tf ex sn w h K
  of := fun _ _ e => ⟨_, He.frT_in, saysY_of e⟩
  keeps := fun _ _ _ ⟨K, hK, c⟩ k => ⟨K, PySem.W.Frag.In.keeps hK k, ⟨c.t, c.more, fun p hp => ⟨(c.tab p hp).1, (c.tab p hp).2.1, k _ _ (c.tab p hp).2.2⟩, c.z⟩⟩
theorem obsY_eq {n : Nat} {fa : List He.Fa} {fn : List He.DefD} {tf : List He.Defn} {ex : PySem.W.Frag → Bool} {sn : List SupD} {g : Addr → Option Obj} {s : Shared} (h : ∀ a, g a = s.heap.get? a) : obsY n fa fn tf ex sn g = (hookY n fa fn tf ex sn).obs s := by
  have e : g = s.heap.get? := funext h
  rw [e] <;> rfl
section
variable {fa : List He.Fa} {fn : List He.DefD} {tf : List He.Defn} {ex : PySem.W.Frag → Bool} {sn : List SupD} {w : World} {h : Heap} {K : PySem.W.Frag}
theorem SaysY.defs (c : SaysY fa fn tf ex sn w h K) {d : He.DefD} (hd : d ∈ fn) : ∃ fd, FunD K d.name d.qual d.params d.body d.scope (d.dvs K) (d.kws K) (He.fAd K d.at_) fd := c.t.d.defs hd
theorem SaysY.facts (c : SaysY fa fn tf ex sn w h K) {f : He.Fa} (hf : f ∈ fa) : f.ok K = true := c.t.d.facts hf
theorem SaysY.sup (c : SaysY fa fn tf ex sn w h K) {d : SupD} (hd : d ∈ sn) : fnZ K d = d.val := by
  obtain ⟨i, hi, e⟩ := List.mem_iff_getElem.mp hd
  have z : (sn.map (fnZ K))[i]? = (sn.map SupD.val)[i]? := by rw [c.z]
  rw [List.getElem?_map, List.getElem?_map, List.getElem?_eq_getElem hi, e] at z
  exact Option.some.inj z
end
/-! ### the facts that the rules ask -/
def faOf (glos frees : List Str) (nums : List (Str × Int)) (txts : List (Str × Str)) (errs : List EN) : List He.Fa :=
  glos.map .glo ++ (frees.map .free ++ (nums.map (fun q => .int q.1 q.2) ++ (txts.map (fun q => .str q.1 q.2) ++ errs.map fun e => .exc e.name)))
def exOf (file : Str) (clss : List CN) (all : List EN) (mths : List (CN × Str)) (tabs : List (He.Defn × Str)) (sn : List SupD) (K : PySem.W.Frag) : Bool :=
  clss.all (clsB K) && (exmB K all && (mths.all (mthB K) && (sn.all (supB file K) && decide ((tabs.map fun q => (He.cT K q.1).2).Nodup))))
/-- what is told of the errors: all that the law's program raises; own: those with an own __init__ -/
structure GE (file : Str) (K : PySem.W.Frag) (all : List EN) (sn : List SupD) : Prop where
  exm : ∀ e ∈ all, ∀ c ∈ all, PySem.W.exmOne K (.ref (He.ga K e.name)) (.ref (He.ga K c.name)) = some (decide (e = c))
  sup : ∀ d ∈ sn, SupOk file K d
section
variable {glos frees : List Str} {nums : List (Str × Int)} {txts : List (Str × Str)} {errs all : List EN} {clss : List CN} {mths : List (CN × Str)} {tabs : List (He.Defn × Str)} {sn : List SupD} {fn : List He.DefD} {file : Str} {w : World} {h : Heap} {K : PySem.W.Frag} {mg : Str → Option Value}
theorem gf_of (c : SaysY (faOf glos frees nums txts errs) fn (tabs.map (·.1)) (exOf file clss all mths tabs sn) sn w h K) (X : K.In h) (G : h.Ns mainGlobals mg) : GF K mg frees glos nums txts := by
  refine ⟨fun x hx => He.free_ok X G (c.facts ?_), fun x hx => He.glo_ok X G (c.facts ?_), fun x i hx => He.int_ok X G (c.facts ?_), fun x z hx => He.str_ok X G (c.facts ?_)⟩
  · exact List.mem_append_right _ (List.mem_append_left _ (List.mem_map.mpr ⟨x, hx, rfl⟩))
  · exact List.mem_append_left _ (List.mem_map.mpr ⟨x, hx, rfl⟩)
  · exact List.mem_append_right _ (List.mem_append_right _ (List.mem_append_left _ (List.mem_map.mpr ⟨(x, i), hx, rfl⟩)))
  · exact List.mem_append_right _ (List.mem_append_right _ (List.mem_append_right _ (List.mem_append_left _ (List.mem_map.mpr ⟨(x, z), hx, rfl⟩))))
theorem ge_of (c : SaysY (faOf glos frees nums txts errs) fn (tabs.map (·.1)) (exOf file clss all mths tabs sn) sn w h K) : GE file K all sn := by
  obtain ⟨h1, h2⟩ := ba c.more
  obtain ⟨h2, h3⟩ := ba h2
  obtain ⟨h3, h4⟩ := ba h3
  obtain ⟨h4, h5⟩ := ba h4
  exact ⟨exmB_ok h2, fun d hd => supB_ok (c.sup hd) (List.all_eq_true.mp h4 d hd)⟩
theorem nd_of (c : SaysY (faOf glos frees nums txts errs) fn (tabs.map (·.1)) (exOf file clss all mths tabs sn) sn w h K) : (tabs.map fun q => (He.cT K q.1).2).Nodup := by
  obtain ⟨h1, h2⟩ := ba c.more
  obtain ⟨h2, h3⟩ := ba h2
  obtain ⟨h3, h4⟩ := ba h3
  obtain ⟨h4, h5⟩ := ba h4
  exact of_decide_eq_true h5
theorem gk_of (c : SaysY (faOf glos frees nums txts errs) fn (tabs.map (·.1)) (exOf file clss all mths tabs sn) sn w h K) (X : K.In h) (G : h.Ns mainGlobals mg) (hc : (clss.all fun c => glos.contains c.name) = true) (he : (errs.all fun e => glos.contains e.name && all.contains e) = true)
    {base : Heap} (hT : ∀ q ∈ tabs, LamX.TabB base mg (He.cT K q.1).1 (He.cT K q.1).2) : GK K mg base clss errs mths (tabs.map (·.1)) := by
  obtain ⟨h1, h2⟩ := ba c.more
  obtain ⟨h2, h3⟩ := ba h2
  obtain ⟨h3, h4⟩ := ba h3
  have gf := gf_of c X G
  have ga : ∀ e ∈ errs, e.name ∈ glos ∧ e ∈ all := fun e m => by
    obtain ⟨z1, z2⟩ := ba (List.all_eq_true.mp he e m)
    exact ⟨List.contains_iff_mem.mp z1, List.contains_iff_mem.mp z2⟩
  refine ⟨fun k m => clsB_ok (List.all_eq_true.mp h1 k m), fun k m => gf.glo _ (List.contains_iff_mem.mp (List.all_eq_true.mp hc k m)), fun e m => .of (c.facts ?_) (gf.glo _ (ga e m).1), fun e m k n => exmB_ok h2 e (ga e m).2 k (ga k n).2, fun q m => He.meth_ok (List.all_eq_true.mp h3 q m), fun d m => ?_⟩
  · exact List.mem_append_right _ (List.mem_append_right _ (List.mem_append_right _ (List.mem_append_right _ (List.mem_map.mpr ⟨e, m, rfl⟩))))
  · obtain ⟨q, hq, e⟩ := List.mem_map.mp m
    rw [← e]
    exact hT q hq
end
/-! ### the start -/
def tabCells (tabs : List (He.Defn × Str)) : Mem := tabs.map fun q => .tab q.1 q.2
theorem tabs_rep {K : PySem.W.Frag} {H : Hp} {tabs : List (He.Defn × Str)} (hn : (tabs.map fun q => (He.cT K q.1).2).Nodup) (hT : ∀ q ∈ tabs, H (He.cT K q.1).2 = some (.tbl #[])) : HRep K (tabs.map fun q => (He.cT K q.1).2) H (tabCells tabs) := by
  refine ⟨by simp [tabCells], hn, fun a ha => ?_, fun n c a e1 e2 => ?_⟩
  · obtain ⟨q, hq, e⟩ := List.mem_map.mp ha
    rw [← e, hT q hq]
    exact fun z => nomatch z
  · unfold tabCells at e1
    rw [List.getElem?_map] at e1 e2
    cases hq : tabs[n]? with
    | none => rw [hq] at e1; cases e1
    | some q =>
      rw [hq] at e1 e2
      cases e1
      cases e2
      exact ⟨rfl, LamX.TabS.nil (hT q (List.mem_of_getElem? hq))⟩
/-- the script at the start -/
def ScrAt (tabs : List (He.Defn × Str)) (ns : List Int) (d : D) (m : Mem) : Prop :=
  (d = .frl (ns.map D.int) ∧ m = tabCells tabs) ∨ (d = .obj tabs.length ∧ m = tabCells tabs ++ [.lst (ns.map D.int)])
theorem repL_ints {K : PySem.W.Frag} {u : List Addr} {H : Hp} : ∀ ns : List Int, RepL K u H (ns.map D.int) (ns.map V.int)
  | [] => rfl
  | n :: ns => ⟨.int n, _, rfl, rfl, repL_ints ns⟩
theorem lawAt {l : PySem.W.OpenLaw} {w : World} {K : PySem.W.Frag} {h : Heap} {mg : Str → Option Value} {fa : Addr} {k : Nat} {fd : FuncData} {tabs : List (He.Defn × Str)} {mf : List D → Mem → Res D}
    (KX : K.In h) (hnd : (tabs.map fun q => (He.cT K q.1).2).Nodup) (hem : ∀ q ∈ tabs, h.get? (He.cT K q.1).2 = some { cls := .none, data := .fields #[] }) (hou : ∀ q ∈ tabs, K.lookup (He.cT K q.1).2 = none) (hcd : ∀ q ∈ tabs, PySem.W.codeHdIn K (He.cT K q.1).1 (He.cT K q.1).2 = true)
    (hb : ∀ (s : Shared) (u : Value), BindsTo s fd ⟨[u], []⟩ [(("script" : Str), u)])
    (hlaw : ∀ base : Heap, K.In base → base.Ns mainGlobals mg → (∀ q ∈ tabs, LamX.TabB base mg (He.cT K q.1).1 (He.cT K q.1).2) → FnOk l.prog w K mg base (L2.CX l.prog w) k fa fd [("script" : Str)] (spM K mg 1 mf))
    (hplain : ∀ (ns : List Int) (d : D) (m : Mem), ns.length ≤ 63 → (∀ z ∈ ns, Builtin.Int.intBits z ≤ 1048576) → ScrAt tabs ns d m → ∃ m', mf [d] m = .ok (.bl true) m') : LamX.LawAtS l w K (L2.CX l.prog w) k 63 "script" mg fa h := by
  have mk : ∀ p ∈ tabs.map (fun q => He.cT K q.1), ∃ q ∈ tabs, p = He.cT K q.1 := fun p hp => by
    obtain ⟨q, hq, e⟩ := List.mem_map.mp hp
    exact ⟨q, hq, e.symm⟩
  refine ⟨fd, tabs.map (fun q => He.cT K q.1), _, fun p hp => ?_, fun p hp => ?_, fun p hp => ?_, hb, fun H a ns hl hbits hH hS => ?_, fun base kb nb tb => hlaw base kb nb fun q hq => tb _ (List.mem_map.mpr ⟨q, hq, rfl⟩)⟩
  · obtain ⟨q, hq, rfl⟩ := mk p hp
    exact hem q hq
  · obtain ⟨q, hq, rfl⟩ := mk p hp
    exact hou q hq
  · obtain ⟨q, hq, rfl⟩ := mk p hp
    exact PySem.W.codeHd_of_K KX (hcd q hq)
  · have hH2 : ∀ q ∈ tabs, H (He.cT K q.1).2 = some (.tbl #[]) := fun q hq => hH _ (List.mem_map.mpr ⟨q, hq, rfl⟩)
    have k0 := tabs_rep hnd hH2
    have fin : ∀ {u : List Addr} {d : D} {m : Mem}, HRep K u H m → Rep K u H d (.ref a) → ScrAt tabs ns d m → spM K mg 1 mf [.ref a] H (fun v _ => v = .bl true) fun _ _ _ => False := fun {u d m} kk rr sc => by
      obtain ⟨m', e⟩ := hplain ns d m hl hbits sc
      refine ⟨u, [d], m, rfl, kk, RepL.one rr, ?_⟩
      rw [e]
      exact fun u' H' v _ _ _ q => q
    have frz : SqF K H a (ns.map V.int) → spM K mg 1 mf [.ref a] H (fun v _ => v = .bl true) fun _ _ _ => False := fun q => fin (d := .frl (ns.map D.int)) k0 ⟨a, _, rfl, q, repL_ints ns⟩ (.inl ⟨rfl, rfl⟩)
    rcases hS with (hS | ⟨o, hS⟩) | hS
    · have hu : a ∉ tabs.map fun q => (He.cT K q.1).2 := fun z => by
        obtain ⟨q, hq, e⟩ := List.mem_map.mp z
        have y := hH2 q hq
        rw [e, hS] at y
        cases y
      refine fin (d := .obj tabs.length) (k0.adopt (c := .lst (ns.map D.int)) hu (by rw [hS]; exact fun z => nomatch z) ⟨_, hS, repL_ints ns⟩) ⟨a, rfl, ?_⟩ (.inr ⟨rfl, rfl⟩)
      rw [List.getElem?_append_right (by simp)]
      simp
    · exact frz (.inl ⟨o, hS⟩)
    · exact frz (.inr hS)
end T
end
section
set_option Elab.async false
set_option linter.all false
set_option maxRecDepth 100000
set_option maxHeartbeats 2000000
/-! T39: garbage dropped; errors with an own __init__; two defs read alike. -/
namespace T
open PySem PySem.Spec PyProof.Rows L2
/-! ### garbage -/
def wfB (m : Mem) : Bool := m.all (Cell.lt m.length)
theorem wfB_iff {m : Mem} : wfB m = true ↔ WF m := by
  unfold wfB WF
  rw [List.all_eq_true]
section
variable {n : Nat} {l : List Nat}
mutual
theorem D.ren_at (hl : ∀ i, i < n → l.getD i 0 = i) : ∀ {d : D}, D.lt n d = true → D.ren l d = d
  | .non, _ => rfl
  | .bl _, _ => rfl
  | .int _, _ => rfl
  | .str _, _ => rfl
  | .obj k, q => by simp only [D.ren, hl k (of_decide_eq_true q)]
  | .glo _, _ => rfl
  | .cls _, _ => rfl
  | .ty _, _ => rfl
  | .tup ds, q => by simp only [D.lt] at q; simp only [D.ren, D.rens_at hl q]
  | .clo _ _ _ _ _ ds, q => by simp only [D.lt] at q; simp only [D.ren, D.rens_at hl q]
  | .frl ds, q => by simp only [D.lt] at q; simp only [D.ren, D.rens_at hl q]
  | .frt ds, q => by simp only [D.lt] at q; simp only [D.ren, D.rens_at hl q]
theorem D.rens_at (hl : ∀ i, i < n → l.getD i 0 = i) : ∀ {ds : List D}, D.lts n ds = true → D.rens l ds = ds
  | [], _ => rfl
  | d :: ds, q => by simp only [D.lts, Bool.and_eq_true] at q; simp only [D.rens, D.ren_at hl q.1, D.rens_at hl q.2]
end
theorem Cell.ren_at (hl : ∀ i, i < n → l.getD i 0 = i) : ∀ {c : Cell}, Cell.lt n c = true → Cell.ren l c = c
  | .lst ds, q => by simp only [Cell.ren, D.rens_at hl (show D.lts n ds = true from q)]
  | .dct kvs, q => by
    have q : (kvs.all fun p => D.lt n p.1 && D.lt n p.2) = true := q
    simp only [Cell.ren]
    rw [show (kvs.map fun p => (p.1, D.ren l p.2)) = kvs from ?_]
    refine (List.map_congr_left fun p hp => ?_).trans (List.map_id _)
    have z := List.all_eq_true.mp q p hp
    rw [Bool.and_eq_true] at z
    rw [D.ren_at hl z.2]
    rfl
  | .lk c, q => by simp only [Cell.ren, Cell.ren_at hl (c := c) q]
  | .tab _ _, _ => rfl
  | .ins c vs, q => by
    have q : (vs.all (D.ltO n)) = true := q
    simp only [Cell.ren]
    rw [show vs.map (D.renO l) = vs from ?_]
    refine (List.map_congr_left fun o ho => ?_).trans (List.map_id _)
    have z := List.all_eq_true.mp q o ho
    cases o with
    | none => rfl
    | some d => simp only [D.renO, D.ren_at hl (show D.lt n d = true from z)]; rfl
end
section
variable {n n' : Nat} (h : n ≤ n')
include h
mutual
theorem D.lt_le : ∀ {d : D}, D.lt n d = true → D.lt n' d = true
  | .obj k, q => decide_eq_true (Nat.lt_of_lt_of_le (of_decide_eq_true q) h)
  | .tup ds, q => by simp only [D.lt] at q ⊢; exact D.lts_le q
  | .frl ds, q => by simp only [D.lt] at q ⊢; exact D.lts_le q
  | .frt ds, q => by simp only [D.lt] at q ⊢; exact D.lts_le q
  | .clo _ _ _ _ _ ds, q => by simp only [D.lt] at q ⊢; exact D.lts_le q
  | .non, _ => rfl
  | .bl _, _ => rfl
  | .int _, _ => rfl
  | .str _, _ => rfl
  | .glo _, _ => rfl
  | .cls _, _ => rfl
  | .ty _, _ => rfl
theorem D.lts_le : ∀ {ds : List D}, D.lts n ds = true → D.lts n' ds = true
  | [], _ => rfl
  | d :: ds, q => by
    simp only [D.lts, Bool.and_eq_true] at q ⊢
    exact ⟨D.lt_le q.1, D.lts_le q.2⟩
end
theorem D.ltO_le : ∀ {d : Option D}, D.ltO n d = true → D.ltO n' d = true
  | none, _ => rfl
  | some d, q => D.lt_le h (d := d) q
theorem Cell.lt_le : ∀ {c : Cell}, Cell.lt n c = true → Cell.lt n' c = true
  | .lst ds, q => D.lts_le h (ds := ds) q
  | .dct kvs, q => List.all_eq_true.mpr fun p hp => by
    have z := List.all_eq_true.mp (show (kvs.all fun p => D.lt n p.1 && D.lt n p.2) = true from q) p hp
    rw [Bool.and_eq_true] at z ⊢
    exact ⟨D.lt_le h z.1, D.lt_le h z.2⟩
  | .lk c, q => Cell.lt_le (c := c) q
  | .ins c vs, q => List.all_eq_true.mpr fun o ho => D.ltO_le h (List.all_eq_true.mp (show (vs.all (D.ltO n)) = true from q) o ho)
  | .tab _ _, _ => rfl
end
/-- a new object alone, of what was there before, is kept -/
def packC (m : Mem) (k : Nat) (M : Mem) : Res D := match M[k]? with
  | some (.lst ds) => if D.lts m.length ds = true then .ok (.obj m.length) (M.take m.length ++ [.lst ds]) else .ok (.obj k) M
  | some (.dct kvs) => if (kvs.all fun p => D.lt m.length p.1 && D.lt m.length p.2) = true then .ok (.obj m.length) (M.take m.length ++ [.dct kvs]) else .ok (.obj k) M
  | _ => .ok (.obj k) M
def packD (m : Mem) (d : D) (M : Mem) : Res D := if D.lt m.length d = true then .ok d (M.take m.length) else match d with
  | .obj k => packC m k M
  | _ => .ok d M
/-- the cells of before are well there behind -/
def fineB (m M : Mem) : Prop := m.length ≤ M.length ∧ (WF m → WF (M.take m.length))
/-- what is left behind and nothing reaches is dropped -/
noncomputable def tidy (m : Mem) (r : Res D) : Res D := match r with
  | .ok d M => if (decide (m.length ≤ M.length) && wfB (M.take m.length)) = true then packD m d M else @ite _ (fineB m M) (Classical.propDecidable _) (packD m d M) (.ok d M)
  | .exc c p M => if (decide (m.length ≤ M.length) && (wfB (M.take m.length) && D.ltO m.length p)) = true then .exc c p (M.take m.length) else @ite _ (fineB m M ∧ D.ltO m.length p = true) (Classical.propDecidable _) (.exc c p (M.take m.length)) (.exc c p M)
  | .stuck => .stuck
theorem fineB_of {m M : Mem} (h : (decide (m.length ≤ M.length) && wfB (M.take m.length)) = true) : fineB m M := by
  rw [Bool.and_eq_true] at h
  exact ⟨of_decide_eq_true h.1, fun _ => wfB_iff.mp h.2⟩
theorem tidy_eq {m M : Mem} {d : D} (h : fineB m M) : tidy m (.ok d M) = packD m d M := by
  simp only [tidy, if_pos h, ite_self]
theorem tidy_eqX {m M : Mem} {c : EN} {p : Option D} (h : fineB m M) (hp : D.ltO m.length p = true) : tidy m (.exc c p M) = .exc c p (M.take m.length) := by
  simp only [tidy, if_pos (⟨h, hp⟩ : fineB m M ∧ D.ltO m.length p = true), ite_self]
theorem take_refn {m M : Mem} {d : D} (w : WF m) (h : fineB m M) (hd : D.lt m.length d = true) : Refn m.length (.ok d M) (.ok d (M.take m.length)) := by
  have hl : (M.take m.length).length = m.length := by simp [h.1]
  have z : Refn m.length (.ok d (M.take m.length ++ M.drop m.length)) (.ok d (M.take m.length)) := Refn.drop (h.2 w) (by omega) (by rw [hl]; exact hd)
  rw [List.take_append_drop] at z
  exact z
theorem new_refn {m M : Mem} {k : Nat} {c : Cell} (w : WF m) (h : fineB m M) (hk : ¬ k < m.length) (hc : M[k]? = some c) (hlt : Cell.lt m.length c = true) : Refn m.length (.ok (.obj k) M) (.ok (.obj m.length) (M.take m.length ++ [c])) := by
  have hl : (M.take m.length).length = m.length := by simp [h.1]
  have hw := h.2 w
  have hl2 : (M.take m.length ++ [c]).length = m.length + 1 := by
    rw [List.length_append, hl]
    rfl
  have e1 : ∀ i, i < m.length → (List.range m.length ++ [k])[i]? = some i := fun i hi => by
    rw [List.getElem?_append_left (by simp [hi]), List.getElem?_range hi]
  have e2 : ∀ i, i < m.length → (List.range m.length ++ [k]).getD i 0 = i := fun i hi => by rw [List.getD_eq_getElem?_getD, e1 i hi]; rfl
  have e3 : (List.range m.length ++ [k])[m.length]? = some k := by rw [List.getElem?_append_right (by simp)]; simp
  have s : Sub (List.range m.length ++ [k]) M (M.take m.length ++ [c]) := by
    refine ⟨by simp [h.1], ?_, fun i c' e => ?_⟩
    · rw [List.nodup_append]
      refine ⟨List.nodup_range, by simp, fun a ha b hb => ?_⟩
      rw [List.mem_singleton.mp hb]
      have := List.mem_range.mp ha
      omega
    · by_cases hi : i < m.length
      · rw [List.getElem?_append_left (by rw [hl]; exact hi)] at e
        have hm := List.mem_of_getElem? e
        have z := hw c' hm
        rw [hl] at z
        refine ⟨i, e1 i hi, ?_, Cell.lt_le (by rw [hl2]; omega) z⟩
        rw [Cell.ren_at e2 z]
        rw [List.getElem?_take_of_lt hi] at e
        exact e
      · rw [List.getElem?_append_right (by omega), hl] at e
        have hi2 : i = m.length := by
          cases q : i - m.length with
          | zero => omega
          | succ j => rw [q] at e; simp at e
        subst hi2
        rw [Nat.sub_self] at e
        cases e
        exact ⟨k, e3, by rw [Cell.ren_at e2 hlt]; exact hc, Cell.lt_le (by rw [hl2]; omega) hlt⟩
  have z := Refn.ok (n := m.length) (d := .obj m.length) s (fun i hi => e1 i hi) (by simp only [D.lt]; rw [hl2]; exact decide_eq_true (Nat.lt_succ_self _))
  have e4 : D.ren (List.range m.length ++ [k]) (.obj m.length) = .obj k := by
    simp only [D.ren]
    rw [List.getD_eq_getElem?_getD, e3]
    rfl
  rw [e4] at z
  exact z
theorem packD_refn {m M : Mem} {d : D} (w : WF m) (h : fineB m M) : Refn m.length (.ok d M) (packD m d M) := by
  unfold packD
  by_cases hd : D.lt m.length d = true
  · rw [if_pos hd]
    exact take_refn w h hd
  · rw [if_neg hd]
    cases d with
    | obj k =>
      have hk : ¬ k < m.length := fun z => hd (decide_eq_true z)
      simp only [packC]
      split
      · rename_i ds e
        split
        · rename_i q
          exact new_refn w h hk e q
        · exact .refl _
      · rename_i kvs e
        split
        · rename_i q
          exact new_refn w h hk e q
        · exact .refl _
      · exact .refl _
    | _ => exact .refl _
theorem tidy_refn {m : Mem} (w : WF m) (r : Res D) : Refn m.length r (tidy m r) := by
  cases r with
  | ok d M =>
    by_cases h : fineB m M
    · rw [tidy_eq h]
      exact packD_refn w h
    · have h2 : ¬ (decide (m.length ≤ M.length) && wfB (M.take m.length)) = true := fun z => h (fineB_of z)
      simp only [tidy, if_neg h, if_neg h2]
      exact .refl _
  | exc c p M =>
    by_cases h : fineB m M ∧ D.ltO m.length p = true
    · rw [tidy_eqX h.1 h.2]
      have hl : (M.take m.length).length = m.length := by simp [h.1.1]
      have z : Refn m.length (.exc c p (M.take m.length ++ M.drop m.length)) (.exc c p (M.take m.length)) := Refn.dropX (h.1.2 w) (by omega) (by rw [hl]; exact h.2)
      rw [List.take_append_drop] at z
      exact z
    · have h2 : ¬ (decide (m.length ≤ M.length) && (wfB (M.take m.length) && D.ltO m.length p)) = true := fun z => by
        simp only [Bool.and_eq_true] at z
        exact h ⟨⟨of_decide_eq_true z.1, fun _ => wfB_iff.mp z.2.1⟩, z.2.2⟩
      simp only [tidy, if_neg h, if_neg h2]
      exact .refl _
  | stuck => exact .refl _
/-- a def's promise -/
noncomputable def runT (N : List Str) (mb : SM) (ds : List D) (m : Mem) : Res D := tidy m (runB N mb ds m)
theorem runT_refn {N : List Str} {mb : SM} (ds : List D) (m : Mem) (w : WF m) : Refn m.length (runB N mb ds m) (runT N mb ds m) := tidy_refn w _
/-- an expression's garbage is dropped -/
noncomputable def mTd (m : EM) : EM := fun r μ => tidy μ (m r μ)
theorem me_td {X : Cx} {e : Expr} {m : EM} (h : ME X e m) : ME X e (mTd m) := by
  refine ⟨fun W tk => PE.weak (h.run W tk) fun σ H Q q => ?_⟩
  obtain ⟨u, r, μ, h1, h2, h3⟩ := q
  refine ⟨u, r, μ, h1, h2, ?_⟩
  have z : PostF X.K X.mg u H Q (fun cls dd H' => W cls dd σ H') (tidy μ (m r μ)) := by
    have h3' : PostE X.K X.mg u H σ W Q (tidy μ (m r μ)) := h3
    cases e2 : tidy μ (m r μ) with
    | ok d m2 => rw [e2] at h3'; exact h3'
    | exc c p m2 => rw [e2] at h3'; exact h3'
    | stuck => rw [e2] at h3'; exact h3'
  have z2 := PostF.refn (by rw [h1.len]; exact tidy_refn h1.wf (m r μ)) z
  cases e3 : m r μ with
  | ok d m2 => rw [e3] at z2; exact z2
  | exc c p m2 => rw [e3] at z2; exact z2
  | stuck => rw [e3] at z2; exact z2
/-! ### errors with an own __init__ -/
def okV1 : V → Prop
  | .non => True
  | .bl _ => True
  | .int i => i.natAbs.log2 < 1900
  | .str z => z.length ≤ 1000000
  | _ => False
theorem okD1_ok {K : PySem.W.Frag} (u : List Addr) (H : Hp) (d : D) (v : V) (r : Rep K u H d v) (h : okD1 d = true) : okV1 v := by
  cases d with
  | non => rw [show v = V.non from r]; exact True.intro
  | bl b => rw [show v = V.bl b from r]; exact True.intro
  | int i =>
    have h : decide (i.natAbs.log2 < 1900) = true := h
    rw [show v = V.int i from r]
    show i.natAbs.log2 < 1900
    exact of_decide_eq_true h
  | str z =>
    have h : decide (z.length ≤ 1000000) = true := h
    rw [show v = V.str z from r]
    show z.length ≤ 1000000
    exact of_decide_eq_true h
  | _ => cases h
theorem okV1_fmt {v : V} (h : okV1 v) : ∃ z, fmtV v = some z ∧ z.length ≤ 1000000 := by
  cases v with
  | non => exact ⟨_, rfl, by decide⟩
  | bl b => exact ⟨_, rfl, by cases b <;> decide⟩
  | int i =>
    have h : i.natAbs.log2 < 1900 := h
    refine ⟨Str.ofString (toString i), ?_, ?_⟩
    · simp only [fmtV]
      rw [if_pos (by omega)]
    · have e := int_text_length_le (k := 1900) (by decide) h
      rw [PySem.ofString_length]
      omega
  | str z =>
    have h : z.length ≤ 1000000 := h
    refine ⟨z, ?_, h⟩
    simp only [fmtV]
    rw [if_pos (by rw [sizeLine_eq]; omega)]
  | _ => exact h.elim
theorem pe_fmt1 {X : Cx} {x : Str} {i j : Nat} {s : Str} {p1 p2 p3 p4 : Pos} (hs : s.length ≤ 1000) (hN : X.N[i]? = some x) (hv : Vis X.env.scope x) (hd : (x == ("__debug__" : Str)) = false := by decide) (hcd : (x == ("__classdict__" : Str)) = false := by decide) :
    PE X (.JoinedStr [.Constant (.str s) j p1, .FormattedValue (.Name x p2) (-1) none p3] p4) (fun σ H Q => ∃ v, σ[i]? = some (some v) ∧ okV1 v ∧ ∀ z, Q (.str z) H) := by
  refine PE.weak (pe_joined (.cons pe_str (.cons (pe_fmtF (pe_var (i := i) hN hv hd hcd)) .nil))) fun σ H Q ⟨v, h1, h2, h3⟩ => ?_
  obtain ⟨z, hz, hl⟩ := okV1_fmt h2
  refine ⟨s, rfl, ?_, v, h1, z, hz, z, rfl, ?_, h3 _⟩
  · have e : (Str.empty ++ s).length = Str.empty.length + s.length := Str.length_append _ _
    rw [e, sizeLine_eq]
    have : Str.empty.length = 0 := rfl
    omega
  · have e1 : (Str.empty ++ s ++ z).length = (Str.empty ++ s).length + z.length := Str.length_append _ _
    have e2 : (Str.empty ++ s).length = Str.empty.length + s.length := Str.length_append _ _
    rw [e1, e2, sizeLine_eq]
    have : Str.empty.length = 0 := rfl
    omega
/-- what the rules ask of the errors -/
structure GI (P : Program) (w : World) (K : PySem.W.Frag) (mg : Str → Option Value) (base : Heap) (all own : List EN) : Prop where
  exm : ∀ e ∈ all, ∀ c ∈ all, PySem.W.exmOne K (.ref (He.ga K e.name)) (.ref (He.ga K c.name)) = some (decide (e = c))
  ini : ∀ c ∈ own, ErrI P w K mg base 1 c okV1
  xf : ∀ c ∈ own, XfC K (He.ga K c.name) ∧ PySem.W.findIn K (.ref (He.ga K c.name)) c.field = some none
theorem errI_of {P : Program} {w : World} {K : PySem.W.Frag} {mg : Str → Option Value} {base : Heap} {file : Str} {d : SupD} {x : Str} {s : Str} {j : Nat} {p0 p1 ap cp pos1 pos2 p2 p3 p4 q1 q2 q3 q4 : Pos} {ar : Arg}
    (S : SupOk file K d) (hP : P.main.file = file) (mgx : mg d.c.name = some (.ref (He.ga K d.c.name))) (hs : s.length ≤ 1000)
    (NS : NdefX.NScope [("self" : Str), x, ("__class__" : Str)] [("self" : Str), x] [("__class__" : Str)] d.scope)
    (hb : d.body = [.Expr (.Call (.Attribute (.Call (.Name ("super" : Str) p0) [] [] p1) "__init__" ap) [.JoinedStr [.Constant (.str s) j q1, .FormattedValue (.Name x q2) (-1) none q3] q4] [] cp) pos1, .Assign [.Attribute (.Name "self" p2) d.c.field p3] (.Name x p4) pos2])
    (hbind : ∀ (doc pm ct : Value) (cc : Addr) (c : Addr) (us : List Value), us.length = 2 → bindArgs (PySem.W.fnX "__init__" d.qual d.params d.body d.scope [("__class__", cc)] .none .none doc pm none (.ref c) ct) ⟨us, []⟩ = pure (List.zip [("self" : Str), x] us))
    (hsu : d.scope.names.lookup ("super" : Str) = some .globalImplicit) (hpar : (d.params.posonlyargs ++ d.params.args).head? = some ar) (har : ar.arg = ("self" : Str))
    (htop : (P.main.scope.names.lookup ("super" : Str)).isSome = false) (hms : mg "super" = none) (hbs : bootBuiltins "super" = some (.type "super"))
    (hap : (ap.endLine == cp.line) = true)
    (hx1 : (x == ("__debug__" : Str)) = false) (hx2 : (x == ("__classdict__" : Str)) = false) : ErrI P w K mg base 1 d.c okV1 := by
  obtain ⟨fd, doc, pm, ct, efd, SF, hcd⟩ := S.ex
  refine ⟨SF.oex, ⟨d.f K, fd, x, S.ini, S.ty, ?_, ?_⟩, mgx⟩
  · refine sup_ok (k := 0) (F := ⟨"__init__", d.qual, d.params, d.body, d.scope, [("__class__", d.cc K)], d.cd K⟩) (N := [("self" : Str), x, ("__class__" : Str)]) (ar := ar) SF ⟨doc, pm, ct, efd⟩ hcd rfl NS hb hsu hpar har rfl
      (fun vs a b c q => by rw [hP]; exact S.file vs a b c q) htop hms hbs S.no (fun A outer s H E => pe_fmt1 (i := 1) hs rfl (.inl (NS.par x (by simp))) hx1 hx2) (fun env => ?_) (fun env => rfl) (fun env => rfl) (fun env => rfl) hx1 hx2 (fun vs H Q E h => ?_)
    · refine ⟨plainOf (.Call (.Name ("super" : Str) p0) [] [] p1) env, ?_⟩
      have e : ∀ ov, methodCall (.Call (.Name ("super" : Str) p0) [] [] p1) "__init__" ap cp env ov 1 (backTo cp (starEach [.JoinedStr [.Constant (.str s) j q1, .FormattedValue (.Name x q2) (-1) none q3] q4] env)) [] = _ := fun ov => mcall_line rfl hap
      show (do
        let ov ← attributeBase (.Call (.Name ("super" : Str) p0) [] [] p1) "__init__" env (eval (.Call (.Name ("super" : Str) p0) [] [] p1) env)
        standAt ap.atName
        methodCall (.Call (.Name ("super" : Str) p0) [] [] p1) "__init__" ap cp env ov 1 (backTo cp (starEach [.JoinedStr [.Constant (.str s) j q1, .FormattedValue (.Name x q2) (-1) none q3] q4] env)) []) = _
      simp only [e]
    · obtain ⟨a, v, e, _⟩ := h
      rw [e]
      rfl
  · rw [efd]
    exact .all (fun us hl => hbind doc pm ct _ _ us hl)
end T
end
section
set_option Elab.async false
set_option linter.all false
set_option maxRecDepth 100000
/-! T40: more for the printer. -/
namespace T
open PySem PySem.Spec PyProof.Rows L2
theorem exm_of {P : Program} {w : World} {K : PySem.W.Frag} {mg : Str → Option Value} {base : Heap} {all own : List EN} (GI : GI P w K mg base all own) {hs : List (EN × Option Nat × HM)} (h : (hs.all fun q => all.contains q.1) = true) :
    ∀ e ∈ all, ∀ q ∈ hs, PySem.W.exmOne K (.ref (He.ga K e.name)) (.ref (He.ga K q.1.name)) = some (decide (e = q.1)) := fun e he q hq =>
  GI.exm e he q.1 (List.contains_iff_mem.mp (List.all_eq_true.mp h q hq))
def hRepr0 (s : Str) (p : Option D) (μ : Mem) : Res D := hReprF s p [] μ
theorem hReprF_eq (s : Str) (p : Option D) (r : Slots) (μ : Mem) : hReprF s p r μ = hRepr0 s p μ := rfl
end T
end
section
set_option Elab.async false
set_option linter.all false
set_option maxRecDepth 100000
set_option maxHeartbeats 2000000
/-! T41: mirrors run by simp. -/
namespace T
open PySem
def bsel (z : D) (x y : Res D) : Res D := match z with
  | .bl true => x
  | .bl false => y
  | _ => .stuck
@[simp] theorem bsel_bl {b : Bool} {x y : Res D} : bsel (.bl b) x y = if b = true then x else y := by cases b <;> rfl
section
variable {g : D → D → Mem → Res D} {h : D → Mem → Res D} {f : List D → Mem → Res D} {a b c : EM} {t ta tb : TM} {ms : LM} {r : Slots} {μ : Mem} {s s1 s2 : SM} {gm : GM} {i j n : Nat} {d : D} {ds : List D}
@[simp] theorem ev_m1 : m1 h a r μ = (a r μ).bind h := rfl
@[simp] theorem ev_m2 : m2 g a b r μ = (a r μ).bind fun x μ1 => (b r μ1).bind fun y μ2 => g x y μ2 := rfl
@[simp] theorem ev_var : mVar i r μ = (match r[i]? with | some (some d) => .ok d μ | _ => .stuck) := rfl
@[simp] theorem ev_c : mC d r μ = .ok d μ := rfl
@[simp] theorem ev_tof : tOf a r μ = (a r μ).bind asB := rfl
@[simp] theorem ev_asB {b : Bool} : asB (.bl b) μ = .ok b μ := rfl
@[simp] theorem ev_and : tAndM ta tb r μ = (ta r μ).bind fun k μ1 => if k then tb r μ1 else .ok false μ1 := rfl
@[simp] theorem ev_or : tOrM ta tb r μ = (ta r μ).bind fun k μ1 => if k then .ok true μ1 else tb r μ1 := rfl
@[simp] theorem ev_not : tNotM ta r μ = (ta r μ).map (!·) := rfl
@[simp] theorem ev_mand : mAndM a b r μ = (a r μ).bind fun x μ1 => bsel x (b r μ1) (.ok (.bl false) μ1) := by
  unfold mAndM
  congr 1
@[simp] theorem ev_mor : mOrM a b r μ = (a r μ).bind fun x μ1 => bsel x (.ok (.bl true) μ1) (b r μ1) := by
  unfold mOrM
  congr 1
  funext x μ1
  cases x with
  | bl k => cases k <;> rfl
  | _ => rfl
@[simp] theorem ev_if : mIf t a b r μ = (t r μ).bind fun k μ1 => if k then a r μ1 else b r μ1 := rfl
@[simp] theorem ev_nil : aNil r μ = .ok [] μ := rfl
@[simp] theorem ev_cons : aCons a ms r μ = (a r μ).bind fun d μ1 => (ms r μ1).bind fun ds μ2 => .ok (d :: ds) μ2 := rfl
@[simp] theorem ev_tup : mTup ms r μ = (ms r μ).bind fun ds μ1 => if ds.length ≤ sizeLine then .ok (.tup ds) μ1 else .stuck := rfl
@[simp] theorem ev_lst : mLst ms r μ = (ms r μ).bind fun ds μ1 => if ds.length ≤ sizeLine then .ok ds μ1 else .stuck := rfl
@[simp] theorem ev_alloc : mAlloc ms r μ = (ms r μ).bind fun ds μ1 => .ok (.obj μ1.length) (μ1 ++ [.lst ds]) := rfl
@[simp] theorem ev_call : mCall f ms r μ = (ms r μ).bind f := rfl
@[simp] theorem ev_atN {μ : Mem} : atN n f ds μ = if ds.length = n then f ds μ else .stuck := rfl
@[simp] theorem ev_g1 {x : D} : g1 h [x] μ = h x μ := rfl
@[simp] theorem ev_chain {g' : D → D → Mem → Res D} : mChain g g' a b c r μ = (a r μ).bind fun x μ1 => (b r μ1).bind fun y μ2 => (g x y μ2).bind fun z μ3 => bsel z ((c r μ3).bind fun w μ4 => g' y w μ4) (.ok (.bl false) μ3) := by
  unfold mChain
  congr 1
@[simp] theorem ev_next : sNext r μ = .ok .next r μ := rfl
@[simp] theorem ev_seq : sSeq s1 s2 r μ = (s1 r μ).bind s2 := rfl
@[simp] theorem ev_expr : sExpr a r μ = (a r μ).sbind r fun _ μ1 => .ok .next r μ1 := rfl
@[simp] theorem ev_ret : sRet a r μ = (a r μ).sbind r fun d μ1 => .ok (.ret d) r μ1 := rfl
@[simp] theorem ev_sif : sIf t s1 s2 r μ = (t r μ).sbind r fun k μ1 => if k then s1 r μ1 else s2 r μ1 := rfl
@[simp] theorem ev_asg : sAsg a gm r μ = (a r μ).sbind r fun d μ1 => (match gm d r with | some r' => .ok .next r' μ1 | none => .stuck) := rfl
@[simp] theorem ev_name : gtName i d r = some (r.set i (some d)) := rfl
@[simp] theorem ev_par : sPar i j ms r μ = (ms r μ).sbind r fun ds μ1 => (match ds with | [x, y] => .ok .next ((r.set i (some x)).set j (some y)) μ1 | _ => .stuck) := rfl
@[simp] theorem ev_put : sPut a b c r μ = (a r μ).sbind r fun d μ1 => (b r μ1).sbind r fun o μ2 => (c r μ2).sbind r fun i μ3 => (match putIx o i d μ3 with | some μ4 => .ok .next r μ4 | none => .stuck) := rfl
@[simp] theorem ev_raise0 {e : EN} : sRaise0 e r μ = .exc e none r μ := rfl
@[simp] theorem ev_dct0 : mDct0 r μ = .ok (.obj μ.length) (μ ++ [.dct []]) := rfl
end
section
variable {i j : Int} {a b : Str} {m : Mem} {x : D} {ds es : List D}
@[simp] theorem ev_add : gAdd (.int i) (.int j) m = .ok (.int (i + j)) m := rfl
@[simp] theorem ev_addS : gAdd (.str a) (.str b) m = if a.length + b.length ≤ sizeLine then .ok (.str (a ++ b)) m else .stuck := rfl
@[simp] theorem ev_addT : gAdd (.tup ds) (.tup es) m = if ds.length + es.length ≤ sizeLine then .ok (.tup (ds ++ es)) m else .stuck := rfl
@[simp] theorem ev_sub : gSub (.int i) (.int j) m = .ok (.int (i - j)) m := rfl
theorem ev_mul (h : mulOk i j = true) : gMul (.int i) (.int j) m = .ok (.int (i * j)) m := by simp [gMul, h]
theorem mulOk_l (h : -(2 ^ 64) < i ∧ i < 2 ^ 64) : mulOk i j = true := by unfold mulOk; exact decide_eq_true (.inl h)
theorem mulOk_r (h : -(2 ^ 64) < j ∧ j < 2 ^ 64) : mulOk i j = true := by unfold mulOk; exact decide_eq_true (.inr (.inl h))
@[simp] theorem ev_div : gDiv (.int i) (.int j) m = if divOk j = true then .ok (.int (i.fdiv j)) m else .stuck := rfl
@[simp] theorem ev_mod : gMod (.int i) (.int j) m = if j ≠ 0 then .ok (.int (i.fmod j)) m else .stuck := rfl
@[simp] theorem ev_neg : gNeg (.int i) m = .ok (.int (-i)) m := rfl
@[simp] theorem ev_lt : gLt (.int i) (.int j) m = .ok (.bl (decide (i < j))) m := rfl
@[simp] theorem ev_ltS : gLt (.str a) (.str b) m = .ok (.bl (decide (a.cps.toList < b.cps.toList))) m := rfl
@[simp] theorem ev_le : gLe (.int i) (.int j) m = .ok (.bl (decide (i ≤ j))) m := rfl
@[simp] theorem ev_gt : gGt (.int i) (.int j) m = .ok (.bl (decide (j < i))) m := rfl
@[simp] theorem ev_ge : gGe (.int i) (.int j) m = .ok (.bl (decide (j ≤ i))) m := rfl
@[simp] theorem ev_isN : gIsN x .non m = .ok (.bl (isN x)) m := rfl
@[simp] theorem ev_notN : gNotN x .non m = .ok (.bl (!isN x)) m := rfl
@[simp] theorem ev_gnot {b : Bool} : gNot (.bl b) m = .ok (.bl (!b)) m := rfl
@[simp] theorem ev_int1 : gInt1 [.int i] m = .ok (.int i) m := rfl
@[simp] theorem ev_int1b {b : Bool} : gInt1 [.bl b] m = .ok (.int (if b then 1 else 0)) m := rfl
@[simp] theorem ev_abs : gAbs [.int i] m = .ok (.int (if i < 0 then -i else i)) m := rfl
@[simp] theorem ev_max2 : gMax2 [.int i, .int j] m = .ok (.int (if j > i then j else i)) m := rfl
@[simp] theorem ev_min2 : gMin2 [.int i, .int j] m = .ok (.int (if j < i then j else i)) m := rfl
end
/-! ### memory -/
section
variable {m l : Mem} {n k : Nat} {c c' : Cell}
@[simp] theorem get_C0 : (m ++ l)[m.length]? = l[0]? := by rw [List.getElem?_append_right (Nat.le_refl _), Nat.sub_self]
@[simp] theorem get_Ck : (m ++ l)[m.length + k]? = l[k]? := by rw [List.getElem?_append_right (Nat.le_add_right _ _), Nat.add_sub_cancel_left]
@[simp] theorem set_C0 : (m ++ l).set m.length c = m ++ l.set 0 c := by rw [List.set_append_right _ _ (Nat.le_refl _), Nat.sub_self]
@[simp] theorem set_Ck : (m ++ l).set (m.length + k) c = m ++ l.set k c := by rw [List.set_append_right _ _ (Nat.le_add_right _ _), Nat.add_sub_cancel_left]
theorem lt_of_get (h : m[n]? = some c) : n < m.length := (List.getElem?_eq_some_iff.mp h).1
theorem get_old (h : m[n]? = some c) (l : Mem) : (m ++ l)[n]? = some c := by rw [List.getElem?_append_left (lt_of_get h)]; exact h
theorem set_old (h : m[n]? = some c) (l : Mem) (c' : Cell) : (m ++ l).set n c' = m.set n c' ++ l := List.set_append_left _ _ (lt_of_get h)
theorem get_set (h : m[n]? = some c) (c' : Cell) : (m.set n c')[n]? = some c' := List.getElem?_set_self (lt_of_get h)
theorem get_set_ne (h : m[k]? = some c) (hk : n ≠ k) (c' : Cell) : (m.set n c')[k]? = some c := by rw [List.getElem?_set_ne hk]; exact h
@[simp] theorem set_set : (m.set n c).set n c' = m.set n c' := by simp
theorem ne_of_cell (h : m[n]? = some c) (h' : m[k]? = some c') (hc : c ≠ c') : n ≠ k := fun e => by
  subst e
  rw [h] at h'
  exact hc (Option.some.inj h')
end
/-! ### dice -/
def diceC (a b c : Int) : Cell := .lst [.int a, .int b, .int c]
theorem wf_set_dice {m : Mem} (w : WF m) (n : Nat) (a b c : Int) : WF (m.set n (diceC a b c)) := fun x hx => by
  rw [List.length_set]
  rcases List.mem_or_eq_of_mem_set hx with z | z
  · exact w x z
  · rw [z]
    rfl
theorem fineB_self {m : Mem} : fineB m m := ⟨Nat.le_refl _, fun w => by rw [List.take_length]; exact w⟩
theorem packC_len {m M : Mem} {k : Nat} (h : M.length = m.length) (hk : ¬ k < m.length) : packC m k M = .ok (.obj k) M := by
  have e : M[k]? = none := List.getElem?_eq_none (by omega)
  simp only [packC, e]
theorem packD_len {m M : Mem} {d : D} (h : M.length = m.length) : packD m d M = .ok d M := by
  have e : M.take m.length = M := by rw [← h]; exact List.take_length
  unfold packD
  by_cases hd : D.lt m.length d = true
  · rw [if_pos hd, e]
  · rw [if_neg hd]
    cases d with
    | obj k => exact packC_len h fun z => hd (decide_eq_true z)
    | _ => rfl
theorem tidy_len {m M : Mem} {d : D} (h : M.length = m.length) : tidy m (.ok d M) = .ok d M := by
  simp only [tidy, packD_len h, ite_self]
theorem tidy_lenX {c : EN} {p : Option D} {m M : Mem} (h : M.length = m.length) : tidy m (.exc c p M) = .exc c p M := by
  have e : M.take m.length = M := by rw [← h]; exact List.take_length
  simp only [tidy, e, ite_self]
@[simp] theorem tidy_self {d : D} {m : Mem} : tidy m (.ok d m) = .ok d m := tidy_len rfl
@[simp] theorem tidy_set {d : D} {m : Mem} {n : Nat} {c : Cell} : tidy m (.ok d (m.set n c)) = .ok d (m.set n c) := tidy_len (List.length_set)
@[simp] theorem tidy_selfX {c : EN} {p : Option D} {m : Mem} : tidy m (.exc c p m) = .exc c p m := tidy_lenX rfl
@[simp] theorem tidy_stuck {m : Mem} : tidy m .stuck = .stuck := rfl
theorem fineB_app {m G : Mem} : fineB m (m ++ G) := ⟨by simp, fun w => by rw [List.take_left]; exact w⟩
theorem tidy_app {m G : Mem} {d : D} (h : D.lt m.length d = true) : tidy m (.ok d (m ++ G)) = .ok d m := by
  rw [tidy_eq fineB_app]
  unfold packD
  rw [if_pos h, List.take_left]
theorem tidy_appX {m G : Mem} {c : EN} {p : Option D} (h : D.ltO m.length p = true) : tidy m (.exc c p (m ++ G)) = .exc c p m := by
  rw [tidy_eqX fineB_app h, List.take_left]
theorem fineB_set {m G : Mem} {n : Nat} {c : Cell} (h : WF m → WF (m.set n c)) : fineB m (m.set n c ++ G) := ⟨by simp, fun w => by
  have e : (m.set n c ++ G).take m.length = m.set n c := by rw [← List.length_set (as := m) (i := n) (a := c), List.take_left]
  rw [e]
  exact h w⟩
theorem tidy_set_app {m G : Mem} {n : Nat} {c : Cell} {d : D} (hw : WF m → WF (m.set n c)) (h : D.lt m.length d = true) : tidy m (.ok d (m.set n c ++ G)) = .ok d (m.set n c) := by
  rw [tidy_eq (fineB_set hw)]
  unfold packD
  rw [if_pos h]
  congr 1
  rw [← List.length_set (as := m) (i := n) (a := c), List.take_left]
theorem packC_lst {m M : Mem} {k : Nat} {ds : List D} (h : M[k]? = some (.lst ds)) (hd : D.lts m.length ds = true) : packC m k M = .ok (.obj m.length) (M.take m.length ++ [.lst ds]) := by
  simp only [packC, h, hd, if_true]
theorem packC_dct {m M : Mem} {k : Nat} {kvs : List (D × D)} (h : M[k]? = some (.dct kvs)) (hd : (kvs.all fun p => D.lt m.length p.1 && D.lt m.length p.2) = true) : packC m k M = .ok (.obj m.length) (M.take m.length ++ [.dct kvs]) := by
  simp only [packC, h, hd, if_true]
theorem tidy_lst {m M : Mem} {k : Nat} {ds : List D} (hf : fineB m M) (hk : m.length ≤ k) (h : M[k]? = some (.lst ds)) (hd : D.lts m.length ds = true) : tidy m (.ok (.obj k) M) = .ok (.obj m.length) (M.take m.length ++ [.lst ds]) := by
  have hn : ¬ D.lt m.length (.obj k) = true := fun z => by
    have := of_decide_eq_true (show decide (k < m.length) = true from z)
    omega
  rw [tidy_eq hf]
  unfold packD
  rw [if_neg hn]
  exact packC_lst h hd
theorem tidy_dct {m M : Mem} {k : Nat} {kvs : List (D × D)} (hf : fineB m M) (hk : m.length ≤ k) (h : M[k]? = some (.dct kvs)) (hd : (kvs.all fun p => D.lt m.length p.1 && D.lt m.length p.2) = true) : tidy m (.ok (.obj k) M) = .ok (.obj m.length) (M.take m.length ++ [.dct kvs]) := by
  have hn : ¬ D.lt m.length (.obj k) = true := fun z => by
    have := of_decide_eq_true (show decide (k < m.length) = true from z)
    omega
  rw [tidy_eq hf]
  unfold packD
  rw [if_neg hn]
  exact packC_dct h hd
theorem tidy_lst_app {m G : Mem} {k : Nat} {ds : List D} (hk : m.length ≤ k) (h : (m ++ G)[k]? = some (.lst ds)) (hd : D.lts m.length ds = true) : tidy m (.ok (.obj k) (m ++ G)) = .ok (.obj m.length) (m ++ [.lst ds]) := by
  rw [tidy_lst fineB_app hk h hd, List.take_left]
theorem tidy_dct_app {m G : Mem} {k : Nat} {kvs : List (D × D)} (hk : m.length ≤ k) (h : (m ++ G)[k]? = some (.dct kvs)) (hd : (kvs.all fun p => D.lt m.length p.1 && D.lt m.length p.2) = true) : tidy m (.ok (.obj k) (m ++ G)) = .ok (.obj m.length) (m ++ [.dct kvs]) := by
  rw [tidy_dct fineB_app hk h hd, List.take_left]
theorem ev_td {e : EM} {r : Slots} {μ : Mem} : mTd e r μ = tidy μ (e r μ) := rfl
theorem divOk_pos {t : Int} (h : 0 < t) (h2 : t < 2 ^ 64) : divOk t = true := by
  unfold divOk
  refine decide_eq_true ⟨by omega, ?_⟩
  have h3 : t.natAbs ≠ 0 := by omega
  have h4 : t.natAbs < 2 ^ 64 := by omega
  have h5 := (Nat.log2_lt h3).mpr h4
  omega
end T
end
section
set_option Elab.async false
set_option linter.all false
set_option maxRecDepth 100000
set_option maxHeartbeats 2000000
/-! T42: loops and comprehensions, by what holds between two turns. -/
namespace T
open PySem
/-! ### for -/
theorem for_inv {it : ItM} {g : GM} {b : SM} {ds : List D} (I : Nat → Slots → Mem → Prop) (hit : ∀ i r m, I i r m → it m = some ds)
    (step : ∀ i d r m, ds[i]? = some d → I i r m → ∃ r1, g d r = some r1 ∧ ∃ r2 m2, (b r1 m = .ok .next r2 m2 ∨ b r1 m = .ok .cont r2 m2) ∧ I (i + 1) r2 m2) :
    ∀ n i r m, n + i = ds.length → I i r m → ∃ r' m', forL it g b n i r m = .ok .next r' m' ∧ I ds.length r' m'
  | 0, i, r, m, hn, h => by
    have e : ds.length = i := by omega
    refine ⟨r, m, ?_, by rw [e]; exact h⟩
    simp only [forL, hit i r m h, e, if_true]
  | n + 1, i, r, m, hn, h => by
    obtain ⟨d, hd⟩ : ∃ d, ds[i]? = some d := ⟨_, List.getElem?_eq_getElem (by omega)⟩
    obtain ⟨r1, e1, r2, m2, e2, h2⟩ := step i d r m hd h
    obtain ⟨r', m', e3, h3⟩ := for_inv I hit step n (i + 1) r2 m2 (by omega) h2
    refine ⟨r', m', ?_, h3⟩
    rcases e2 with e2 | e2 <;> simp only [forL, hit i r m h, hd, e1, e2, e3]
theorem sfor_inv {mi : Slots → Mem → Res ItM} {it : ItM} {g : GM} {b : SM} {ds : List D} {r : Slots} {m m1 : Mem} (I : Nat → Slots → Mem → Prop) (hm : mi r m = .ok it m1) (h0 : I 0 r m1) (hit : ∀ i r m, I i r m → it m = some ds)
    (step : ∀ i d r m, ds[i]? = some d → I i r m → ∃ r1, g d r = some r1 ∧ ∃ r2 m2, (b r1 m = .ok .next r2 m2 ∨ b r1 m = .ok .cont r2 m2) ∧ I (i + 1) r2 m2) :
    ∃ r' m', sFor mi g b r m = .ok .next r' m' ∧ I ds.length r' m' := by
  obtain ⟨r', m', e, h⟩ := for_inv I hit step ds.length 0 r m1 rfl h0
  refine ⟨r', m', ?_, h⟩
  simp only [sFor, hm, Res.sbind_ok, hit 0 r m1 h0]
  exact e
/-! ### list comprehensions -/
theorem comp_inv {it : ItM} {g : GM} {t : TM} {me : EM} {k : Nat} {r0 : Slots} {ds : List D} (I : Nat → List D → Mem → Prop) (hit : ∀ i acc m, I i acc m → it m = some ds)
    (step : ∀ i d acc m, ds[i]? = some d → I i acc m → m[k]? = some (.lst acc) → ∃ r1, g d r0 = some r1 ∧
      ((∃ m1, t r1 m = .ok false m1 ∧ m1[k]? = some (.lst acc) ∧ I (i + 1) acc m1) ∨
        ∃ m1 y m2, t r1 m = .ok true m1 ∧ me r1 m1 = .ok y m2 ∧ m2[k]? = some (.lst acc) ∧ acc.length < sizeLine ∧ I (i + 1) (acc ++ [y]) (m2.set k (.lst (acc ++ [y]))))) :
    ∀ n i acc m, n + i = ds.length → I i acc m → m[k]? = some (.lst acc) → ∃ acc' m', compL it g t me k r0 n i m = .ok (.obj k) m' ∧ I ds.length acc' m' ∧ m'[k]? = some (.lst acc')
  | 0, i, acc, m, hn, h, hk => by
    have e : ds.length = i := by omega
    refine ⟨acc, m, ?_, by rw [e]; exact h, hk⟩
    simp only [compL, hit i acc m h, e, if_true]
  | n + 1, i, acc, m, hn, h, hk => by
    obtain ⟨d, hd⟩ : ∃ d, ds[i]? = some d := ⟨_, List.getElem?_eq_getElem (by omega)⟩
    obtain ⟨r1, e1, q⟩ := step i d acc m hd h hk
    rcases q with ⟨m1, e2, k1, h1⟩ | ⟨m1, y, m2, e2, e3, k2, hl, h2⟩
    · obtain ⟨acc', m', e4, h4, k4⟩ := comp_inv I hit step n (i + 1) acc m1 (by omega) h1 k1
      refine ⟨acc', m', ?_, h4, k4⟩
      simp only [compL, hit i acc m h, hd, e1, compE, e2, e4]
    · obtain ⟨acc', m', e4, h4, k4⟩ := comp_inv I hit step n (i + 1) (acc ++ [y]) (m2.set k (.lst (acc ++ [y]))) (by omega) h2 (get_set k2 _)
      refine ⟨acc', m', ?_, h4, k4⟩
      simp only [compL, hit i acc m h, hd, e1, compE, e2, e3, pushAt, k2, hl, if_true, e4]
theorem lc_inv {mi : Slots → Mem → Res ItM} {it : ItM} {g : GM} {t : TM} {me : EM} {vs : List Nat} {r : Slots} {m m1 : Mem} {ds : List D} (I : Nat → List D → Mem → Prop) (hm : mi r m = .ok it m1) (hd : it m1 = some ds) (h0 : I 0 [] (m1 ++ [.lst []])) (hit : ∀ i acc m, I i acc m → it m = some ds)
    (step : ∀ i d acc m, ds[i]? = some d → I i acc m → m[m1.length]? = some (.lst acc) → ∃ r1, g d (wipeD r vs) = some r1 ∧
      ((∃ m2, t r1 m = .ok false m2 ∧ m2[m1.length]? = some (.lst acc) ∧ I (i + 1) acc m2) ∨
        ∃ m2 y m3, t r1 m = .ok true m2 ∧ me r1 m2 = .ok y m3 ∧ m3[m1.length]? = some (.lst acc) ∧ acc.length < sizeLine ∧ I (i + 1) (acc ++ [y]) (m3.set m1.length (.lst (acc ++ [y]))))) :
    ∃ acc m', mLc mi g t me vs r m = .ok (.obj m1.length) m' ∧ I ds.length acc m' ∧ m'[m1.length]? = some (.lst acc) := by
  obtain ⟨acc, m', e, h, k⟩ := comp_inv (k := m1.length) I hit step ds.length 0 [] (m1 ++ [.lst []]) rfl h0 (by simp)
  refine ⟨acc, m', ?_, h, k⟩
  simp only [mLc, hm, Res.bind_ok, hd]
  exact e
/-- nothing changes but the list itself and garbage -/
theorem lc_run {mi : Slots → Mem → Res ItM} {it : ItM} {g : GM} {t : TM} {me : EM} {vs : List Nat} {r : Slots} {μ : Mem} {ds : List D} (p : D → Bool) (f : D → D) (h1 : mi r μ = .ok it μ) (h2 : ∀ G, it (μ ++ G) = some ds)
    (h3 : ∀ d ∈ ds, ∀ G, ∃ r1, g d (wipeD r vs) = some r1 ∧ t r1 (μ ++ G) = .ok (p d) (μ ++ G) ∧ (p d = true → ∃ G', me r1 (μ ++ G) = .ok (f d) (μ ++ (G ++ G')))) (hl : ds.length < sizeLine) :
    ∃ G, mLc mi g t me vs r μ = .ok (.obj μ.length) (μ ++ .lst ((ds.filter p).map f) :: G) := by
  have hd : it μ = some ds := by
    have z := h2 []
    rwa [List.append_nil] at z
  obtain ⟨acc, m', e, ⟨G, hm, ha⟩, hk⟩ := lc_inv (m1 := μ) (mi := mi) (it := it) (g := g) (t := t) (me := me) (vs := vs) (r := r) (ds := ds) (fun i acc m => ∃ G, m = μ ++ .lst acc :: G ∧ acc = ((ds.take i).filter p).map f) h1 hd ⟨[], rfl, by simp⟩ (fun i acc m ⟨G, e, _⟩ => by rw [e]; exact h2 _)
    (fun i d acc m hi ⟨G, hm, ha⟩ hk => by
      obtain ⟨r1, e1, e2, e3⟩ := h3 d (List.mem_of_getElem? hi) (.lst acc :: G)
      refine ⟨r1, e1, ?_⟩
      have ht : ds.take (i + 1) = ds.take i ++ [d] := by
        rw [List.take_add_one, hi]
        rfl
      have hla : acc.length < sizeLine := by
        have q1 : acc.length ≤ (ds.take i).length := by
          rw [ha, List.length_map]
          exact List.length_filter_le _ _
        have q2 : (ds.take i).length ≤ ds.length := by
          rw [List.length_take]
          exact Nat.min_le_right _ _
        omega
      cases hp : p d with
      | false =>
        rw [hp] at e2
        refine .inl ⟨m, by rw [hm]; exact e2, hk, G, hm, ?_⟩
        rw [ht, List.filter_append, List.map_append, ha]
        simp [hp]
      | true =>
        rw [hp] at e2
        obtain ⟨G', e4⟩ := e3 hp
        refine .inr ⟨m, f d, μ ++ (.lst acc :: G ++ G'), by rw [hm]; exact e2, by rw [hm]; exact e4, by simp, hla, G ++ G', by simp, ?_⟩
        rw [ht, List.filter_append, List.map_append, ha]
        simp [hp])
  refine ⟨G, ?_⟩
  rw [e, hm, ha]
  simp
/-- the same without a test -/
theorem lc_map {mi : Slots → Mem → Res ItM} {it : ItM} {g : GM} {me : EM} {vs : List Nat} {r : Slots} {μ : Mem} {ds : List D} (f : D → D) (h1 : mi r μ = .ok it μ) (h2 : ∀ G, it (μ ++ G) = some ds)
    (h3 : ∀ d ∈ ds, ∀ G, ∃ r1, g d (wipeD r vs) = some r1 ∧ ∃ G', me r1 (μ ++ G) = .ok (f d) (μ ++ (G ++ G'))) (hl : ds.length < sizeLine) :
    ∃ G, mLc mi g tTrue me vs r μ = .ok (.obj μ.length) (μ ++ .lst (ds.map f) :: G) := by
  have z := lc_run (vs := vs) (r := r) (fun _ => true) f h1 h2 (fun d hd G => by
    obtain ⟨r1, e1, e2⟩ := h3 d hd G
    exact ⟨r1, e1, rfl, fun _ => e2⟩) hl
  rwa [List.filter_eq_self.mpr (fun _ _ => rfl)] at z
/-! ### dict comprehensions -/
theorem compd_inv {it : ItM} {g : GM} {t : TM} {mk mv : EM} {k : Nat} {r0 : Slots} {ds : List D} (I : Nat → List (D × D) → Mem → Prop) (hit : ∀ i acc m, I i acc m → it m = some ds)
    (step : ∀ i d acc m, ds[i]? = some d → I i acc m → m[k]? = some (.dct acc) → ∃ r1, g d r0 = some r1 ∧
      ((∃ m1, t r1 m = .ok false m1 ∧ m1[k]? = some (.dct acc) ∧ I (i + 1) acc m1) ∨
        ∃ m1 y m2 z m3, t r1 m = .ok true m1 ∧ mk r1 m1 = .ok y m2 ∧ mv r1 m2 = .ok z m3 ∧ m3[k]? = some (.dct acc) ∧ fits acc y = true ∧ acc.length < sizeLine ∧ I (i + 1) (dput acc y z) (m3.set k (.dct (dput acc y z))))) :
    ∀ n i acc m, n + i = ds.length → I i acc m → m[k]? = some (.dct acc) → ∃ acc' m', compD it g t mk mv k r0 n i m = .ok (.obj k) m' ∧ I ds.length acc' m' ∧ m'[k]? = some (.dct acc')
  | 0, i, acc, m, hn, h, hk => by
    have e : ds.length = i := by omega
    refine ⟨acc, m, ?_, by rw [e]; exact h, hk⟩
    simp only [compD, hit i acc m h, e, if_true]
  | n + 1, i, acc, m, hn, h, hk => by
    obtain ⟨d, hd⟩ : ∃ d, ds[i]? = some d := ⟨_, List.getElem?_eq_getElem (by omega)⟩
    obtain ⟨r1, e1, q⟩ := step i d acc m hd h hk
    rcases q with ⟨m1, e2, k1, h1⟩ | ⟨m1, y, m2, z, m3, e2, e3, e5, k2, hf, hl, h2⟩
    · obtain ⟨acc', m', e4, h4, k4⟩ := compd_inv I hit step n (i + 1) acc m1 (by omega) h1 k1
      refine ⟨acc', m', ?_, h4, k4⟩
      simp only [compD, hit i acc m h, hd, e1, compDE, e2, e4]
    · obtain ⟨acc', m', e4, h4, k4⟩ := compd_inv I hit step n (i + 1) (dput acc y z) (m3.set k (.dct (dput acc y z))) (by omega) h2 (get_set k2 _)
      refine ⟨acc', m', ?_, h4, k4⟩
      simp only [compD, hit i acc m h, hd, e1, compDE, e2, e3, e5, k2, hf, hl, decide_true, Bool.and_self, if_true, e4]
theorem dc_inv {mi : Slots → Mem → Res ItM} {it : ItM} {g : GM} {t : TM} {mk mv : EM} {vs : List Nat} {r : Slots} {m m1 : Mem} {ds : List D} (I : Nat → List (D × D) → Mem → Prop) (hm : mi r m = .ok it m1) (hd : it m1 = some ds) (h0 : I 0 [] (m1 ++ [.dct []])) (hit : ∀ i acc m, I i acc m → it m = some ds)
    (step : ∀ i d acc m, ds[i]? = some d → I i acc m → m[m1.length]? = some (.dct acc) → ∃ r1, g d (wipeD r vs) = some r1 ∧
      ((∃ m2, t r1 m = .ok false m2 ∧ m2[m1.length]? = some (.dct acc) ∧ I (i + 1) acc m2) ∨
        ∃ m2 y m3 z m4, t r1 m = .ok true m2 ∧ mk r1 m2 = .ok y m3 ∧ mv r1 m3 = .ok z m4 ∧ m4[m1.length]? = some (.dct acc) ∧ fits acc y = true ∧ acc.length < sizeLine ∧ I (i + 1) (dput acc y z) (m4.set m1.length (.dct (dput acc y z))))) :
    ∃ acc m', mDc mi g t mk mv vs r m = .ok (.obj m1.length) m' ∧ I ds.length acc m' ∧ m'[m1.length]? = some (.dct acc) := by
  obtain ⟨acc, m', e, h, k⟩ := compd_inv (k := m1.length) I hit step ds.length 0 [] (m1 ++ [.dct []]) rfl h0 (by simp)
  refine ⟨acc, m', ?_, h, k⟩
  simp only [mDc, hm, Res.bind_ok, hd]
  exact e
end T
end
section
set_option Elab.async false
set_option linter.all false
set_option maxRecDepth 100000
set_option maxHeartbeats 2000000
/-! T43: more of what simp runs; all, tuple, sum of comprehensions; locks. -/
namespace T
open PySem L2
section
variable {m μ : Mem} {r : Slots} {x d : D} {s : Str} {i : Int} {b : Bool} {ds : List D} {n : Nat} {kvs : List (D × D)}
@[simp] theorem kd_non : kindD m .non = some (.bt .non) := rfl
@[simp] theorem kd_bl : kindD m (.bl b) = some (.bt .bl) := rfl
@[simp] theorem kd_int : kindD m (.int i) = some (.bt .int) := rfl
@[simp] theorem kd_str : kindD m (.str s) = some (.bt .str) := rfl
@[simp] theorem kd_tup : kindD m (.tup ds) = some (.bt .tup) := rfl
theorem isi_ty {cs : List CN} {k t : BT} (h : kindD m x = some (.bt k)) : gIsi cs [x, .ty t] m = .ok (.bl (subBT k t)) m := by simp only [gIsi, h]
theorem isi_ins {cs : List CN} {c : CN} {t : BT} (h : kindD m x = some (.ins c)) (hc : c ∈ cs) : gIsi cs [x, .ty t] m = .ok (.bl false) m := by simp only [gIsi, h, hc, if_true]
theorem isi_cls {cs : List CN} {c : CN} {k : BT} (h : kindD m x = some (.bt k)) (hc : c ∈ cs) : gIsi cs [x, .cls c] m = .ok (.bl false) m := by simp only [gIsi, h, hc, if_true]
theorem isi_clsT {cs : List CN} {c : CN} (h : kindD m x = some (.ins c)) (hc : c ∈ cs) : gIsi cs [x, .cls c] m = .ok (.bl true) m := by simp only [gIsi, h, hc, if_true]
@[simp] theorem isi_str {cs : List CN} {t : BT} : gIsi cs [.str s, .ty t] m = .ok (.bl (subBT .str t)) m := rfl
@[simp] theorem isi_int {cs : List CN} {t : BT} : gIsi cs [.int i, .ty t] m = .ok (.bl (subBT .int t)) m := rfl
@[simp] theorem isi_bl {cs : List CN} {t : BT} : gIsi cs [.bl b, .ty t] m = .ok (.bl (subBT .bl t)) m := rfl
@[simp] theorem isi_non {cs : List CN} {t : BT} : gIsi cs [.non, .ty t] m = .ok (.bl (subBT .non t)) m := rfl
@[simp] theorem isi_tup {cs : List CN} {t : BT} : gIsi cs [.tup ds, .ty t] m = .ok (.bl (subBT .tup t)) m := rfl
theorem kd_dct (h : m[n]? = some (.dct kvs)) : kindD m (.obj n) = some (.bt .dct) := by simp only [kindD, h]
theorem kd_lk (h : m[n]? = some (.lk (.dct kvs))) : kindD m (.obj n) = some (.bt .dct) := by simp only [kindD, h]
theorem kd_lst (h : m[n]? = some (.lst ds)) : kindD m (.obj n) = some (.bt .lst) := by simp only [kindD, h]
theorem kd_ins {c : CN} {vs : List (Option D)} (h : m[n]? = some (.ins c vs)) : kindD m (.obj n) = some (.ins c) := by simp only [kindD, h]
@[simp] theorem seq_tup : seqAt m (.tup ds) = some ds := rfl
@[simp] theorem seq_str : seqAt m (.str s) = none := rfl
theorem seq_lst (h : m[n]? = some (.lst ds)) : seqAt m (.obj n) = some ds := by simp only [seqAt, lstAt, h]
theorem seq_dct (h : m[n]? = some (.dct kvs)) : seqAt m (.obj n) = none := by simp only [seqAt, lstAt, h]
theorem seq_lk (h : m[n]? = some (.lk (.dct kvs))) : seqAt m (.obj n) = none := by simp only [seqAt, lstAt, h]
@[simp] theorem dk_str : dkAt m (.str s) = none := rfl
@[simp] theorem dk_tup : dkAt m (.tup ds) = none := rfl
theorem dk_lst (h : m[n]? = some (.lst ds)) : dkAt m (.obj n) = none := by simp only [dkAt, h]
theorem dk_lk (h : m[n]? = some (.lk (.dct kvs))) : dkAt m (.obj n) = some kvs := by simp only [dkAt, h]
@[simp] theorem src_str : srcAt m (.str s) = some (charsD s) := rfl
@[simp] theorem src_tup : srcAt m (.tup ds) = some ds := rfl
theorem src_lst (h : m[n]? = some (.lst ds)) : srcAt m (.obj n) = some ds := by simp only [srcAt, seqAt, lstAt, h]
theorem lst_lst (h : m[n]? = some (.lst ds)) : lstOf m (.obj n) = some ds := by simp only [lstOf, lstAt, h]
theorem len_seq (h : seqAt m x = some ds) : fLen x m = .ok (.int ds.length) m := by simp only [fLen, lenD, h]
theorem len_str (h : s.length ≤ sizeLine) : fLen (.str s) m = .ok (.int s.length) m := by simp only [fLen, lenD, seqAt, h, if_true]
theorem len_dct (h : m[n]? = some (.dct kvs)) : fLen (.obj n) m = .ok (.int kvs.length) m := by simp [fLen, lenD, seqAt, lstAt, dctAt, h]
theorem iit_src {me : EM} {μ1 : Mem} (h : me r μ = .ok x μ1) (h1 : dkAt μ1 x = none) (h2 : srcAt μ1 x = some ds) : iIt me r μ = .ok (itSrc x) μ1 := by simp only [iIt, h, Res.bind_ok, h1, h2]
theorem iit_dk {me : EM} {μ1 : Mem} (h : me r μ = .ok x μ1) (h1 : dkAt μ1 x = some kvs) : iIt me r μ = .ok (itD .ks x) μ1 := by simp only [iIt, h, Res.bind_ok, h1]
theorem idm_dk {me : EM} {dv : DV} {μ1 : Mem} (h : me r μ = .ok x μ1) (h1 : dkAt μ1 x = some kvs) : iDm dv me r μ = .ok (itD dv x) μ1 := by simp only [iDm, h, Res.bind_ok, h1]
theorem iR1_int {ms : LM} {μ1 : Mem} {k : Int} (h : ms r μ = .ok [.int k] μ1) (hj : -(2 ^ 62) ≤ k ∧ k < 2 ^ 62) : iR1 ms r μ = .ok (itFix (gRng 0 k.toNat)) μ1 := by
  unfold iR1
  rw [h, Res.bind_ok]
  exact if_pos hj
theorem iR1_ok {ms : LM} {μ1 : Mem} {k : Nat} (h : ms r μ = .ok [.int k] μ1) (hk : k < 1000000) : iR1 ms r μ = .ok (itFix (gRng 0 k)) μ1 := by
  have z := iR1_int h ⟨by have := Int.natCast_nonneg k; omega, by omega⟩
  rwa [Int.toNat_natCast] at z
end
theorem blsD_map {α : Type} (p : α → Bool) : ∀ ds : List α, blsD (ds.map fun d => D.bl (p d)) = some (ds.map p)
  | [] => rfl
  | d :: ds => by simp [blsD, blsD_map p ds]
theorem intsD_map {α : Type} (p : α → Int) : ∀ ds : List α, intsD (ds.map fun d => D.int (p d)) = some (ds.map p)
  | [] => rfl
  | d :: ds => by simp [intsD, intsD_map p ds]
theorem strsD_map {α : Type} (p : α → Str) : ∀ ds : List α, strsD (ds.map fun d => D.str (p d)) = some (ds.map p)
  | [] => rfl
  | d :: ds => by simp [strsD, strsD_map p ds]
/-! ### locks -/
theorem mlk_none {pick : Slots → Mem → Option Nat} {s : EM} {r : Slots} {μ : Mem} (h : pick r μ = none) : mLk pick s r μ = s r μ := by simp only [mLk, h]
theorem slk_none {pick : Slots → Mem → Option Nat} {s : SM} {r : Slots} {μ : Mem} (h : pick r μ = none) : sLk pick s r μ = s r μ := by simp only [sLk, h]
theorem set_self {μ : Mem} {n : Nat} {c : Cell} (h : μ[n]? = some c) : μ.set n c = μ := by
  obtain ⟨hl, e⟩ := List.getElem?_eq_some_iff.mp h
  rw [← e]
  exact List.set_getElem_self hl
theorem mlk_dct {pick : Slots → Mem → Option Nat} {s : EM} {r : Slots} {μ G : Mem} {n : Nat} {kvs : List (D × D)} {d : D} (h : pick r μ = some n) (hn : μ[n]? = some (.dct kvs)) (hs : s r (μ.set n (.lk (.dct kvs))) = .ok d (μ.set n (.lk (.dct kvs)) ++ G)) : mLk pick s r μ = .ok d (μ ++ G) := by
  have hl := get_set hn (.lk (.dct kvs))
  simp only [mLk, h, hn, hs, unlkE, get_old hl G, set_old hl G, set_set, set_self hn]
theorem pick_dct {me : EM} {r : Slots} {μ μ1 : Mem} {n : Nat} {kvs : List (D × D)} (h : me r μ = .ok (.obj n) μ1) (hn : μ[n]? = some (.dct kvs)) : lkPick me r μ = some n := by simp only [lkPick, h, hn]
theorem pick_not {me : EM} {r : Slots} {μ μ1 : Mem} {d : D} (h : me r μ = .ok d μ1) (hn : ∀ n kvs, d = .obj n → μ[n]? ≠ some (.dct kvs)) : lkPick me r μ = none := by
  simp only [lkPick, h]
  cases d with
  | obj n =>
    cases q : μ[n]? with
    | none => simp [q]
    | some c =>
      cases c with
      | dct kvs => exact absurd q (hn n kvs rfl)
      | _ => simp [q]
  | _ => rfl
theorem wf_lk {μ : Mem} (w : WF μ) {n : Nat} {kvs : List (D × D)} (h : μ[n]? = some (.dct kvs)) : WF (μ.set n (.lk (.dct kvs))) := fun c hc => by
  rw [List.length_set]
  rcases List.mem_or_eq_of_mem_set hc with z | z
  · exact w c z
  · rw [z]
    exact w (.dct kvs) (List.mem_of_getElem? h)
/-! ### fresh lists -/
/-- a new list of these -/
def FreshL (e : EM) (r : Slots) (μ : Mem) (ds : List D) : Prop := ∃ k G, e r μ = .ok (.obj k) (μ ++ G) ∧ (μ ++ G)[k]? = some (.lst ds) ∧ μ.length ≤ k
def FreshD (e : EM) (r : Slots) (μ : Mem) (ds : List (D × D)) : Prop := ∃ k G, e r μ = .ok (.obj k) (μ ++ G) ∧ (μ ++ G)[k]? = some (.dct ds) ∧ μ.length ≤ k
section
variable {mi : Slots → Mem → Res ItM} {it : ItM} {g : GM} {t : TM} {me e : EM} {ms : LM} {vs : List Nat} {r : Slots} {μ : Mem} {ds : List D}
theorem fresh_lc (p : D → Bool) (f : D → D) (h1 : mi r μ = .ok it μ) (h2 : ∀ G, it (μ ++ G) = some ds)
    (h3 : ∀ d ∈ ds, ∀ G, ∃ r1, g d (wipeD r vs) = some r1 ∧ t r1 (μ ++ G) = .ok (p d) (μ ++ G) ∧ (p d = true → ∃ G', me r1 (μ ++ G) = .ok (f d) (μ ++ (G ++ G')))) (hl : ds.length < sizeLine) :
    FreshL (mLc mi g t me vs) r μ ((ds.filter p).map f) := by
  obtain ⟨G, e⟩ := lc_run (vs := vs) p f h1 h2 h3 hl
  exact ⟨_, _, e, by simp, Nat.le_refl _⟩
theorem fresh_map (f : D → D) (h1 : mi r μ = .ok it μ) (h2 : ∀ G, it (μ ++ G) = some ds)
    (h3 : ∀ d ∈ ds, ∀ G, ∃ r1, g d (wipeD r vs) = some r1 ∧ ∃ G', me r1 (μ ++ G) = .ok (f d) (μ ++ (G ++ G'))) (hl : ds.length < sizeLine) :
    FreshL (mLc mi g tTrue me vs) r μ (ds.map f) := by
  obtain ⟨G, e⟩ := lc_map (vs := vs) f h1 h2 h3 hl
  exact ⟨_, _, e, by simp, Nat.le_refl _⟩
theorem fresh_lst (h : ms r μ = .ok ds μ) (hl : ds.length ≤ sizeLine) : FreshL (mAlloc (mLst ms)) r μ ds := ⟨μ.length, [.lst ds], by simp [h, hl], by simp, Nat.le_refl _⟩
theorem FreshL.lk0 {pick : Slots → Mem → Option Nat} (hp : pick r μ = none) (h : FreshL e r μ ds) : FreshL (mLk pick e) r μ ds := by
  obtain ⟨k, G, h1, h2, h3⟩ := h
  exact ⟨k, G, by rw [mlk_none hp]; exact h1, h2, h3⟩
theorem get_far {m G : Mem} {n k : Nat} {c : Cell} (hk : m.length ≤ k) : (m.set n c ++ G)[k]? = (m ++ G)[k]? := by
  rw [List.getElem?_append_right (by simpa using hk), List.getElem?_append_right hk, List.length_set]
theorem FreshL.lk {pick : Slots → Mem → Option Nat} {n : Nat} {kvs : List (D × D)} (hp : pick r μ = some n) (hn : μ[n]? = some (.dct kvs)) (h : FreshL e r (μ.set n (.lk (.dct kvs))) ds) : FreshL (mLk pick e) r μ ds := by
  obtain ⟨k, G, h1, h2, h3⟩ := h
  have h3' : μ.length ≤ k := by simpa using h3
  exact ⟨k, G, mlk_dct hp hn h1, by rw [← h2, get_far h3'], h3'⟩
theorem FreshD.lk0 {kvs : List (D × D)} {pick : Slots → Mem → Option Nat} (hp : pick r μ = none) (h : FreshD e r μ kvs) : FreshD (mLk pick e) r μ kvs := by
  obtain ⟨k, G, h1, h2, h3⟩ := h
  exact ⟨k, G, by rw [mlk_none hp]; exact h1, h2, h3⟩
theorem FreshD.lk {es : List (D × D)} {pick : Slots → Mem → Option Nat} {n : Nat} {kvs : List (D × D)} (hp : pick r μ = some n) (hn : μ[n]? = some (.dct kvs)) (h : FreshD e r (μ.set n (.lk (.dct kvs))) es) : FreshD (mLk pick e) r μ es := by
  obtain ⟨k, G, h1, h2, h3⟩ := h
  have h3' : μ.length ≤ k := by simpa using h3
  exact ⟨k, G, mlk_dct hp hn h1, by rw [← h2, get_far h3'], h3'⟩
theorem td_all {α : Type} {xs : List α} (p : α → Bool) (h : FreshL e r μ (xs.map fun d => .bl (p d))) : mTd (mCall (g1 fAll) (aCons e aNil)) r μ = .ok (.bl (xs.all p)) μ := by
  obtain ⟨k, G, h1, h2, h3⟩ := h
  simp only [ev_td, ev_call, ev_cons, h1, Res.bind_ok, ev_nil, ev_g1, fAll, lst_lst h2, Option.bind_some, blsD_map]
  rw [tidy_app (by rfl)]
  simp
theorem td_any {α : Type} {xs : List α} (p : α → Bool) (h : FreshL e r μ (xs.map fun d => .bl (p d))) : mTd (mCall (g1 fAny) (aCons e aNil)) r μ = .ok (.bl (xs.any p)) μ := by
  obtain ⟨k, G, h1, h2, h3⟩ := h
  simp only [ev_td, ev_call, ev_cons, h1, Res.bind_ok, ev_nil, ev_g1, fAny, lst_lst h2, Option.bind_some, blsD_map]
  rw [tidy_app (by rfl)]
  simp
theorem td_sum {α : Type} {xs : List α} (p : α → Int) (h : FreshL e r μ (xs.map fun d => .int (p d))) : mTd (mCall (g1 fSum) (aCons e aNil)) r μ = .ok (.int (xs.map p).sum) μ := by
  obtain ⟨k, G, h1, h2, h3⟩ := h
  simp only [ev_td, ev_call, ev_cons, h1, Res.bind_ok, ev_nil, ev_g1, fSum, lst_lst h2, Option.bind_some, intsD_map]
  rw [tidy_app (by rfl)]
theorem td_tup (h : FreshL e r μ ds) (hd : D.lts μ.length ds = true) : mTd (mCall (g1 fTuple) (aCons e aNil)) r μ = .ok (.tup ds) μ := by
  obtain ⟨k, G, h1, h2, h3⟩ := h
  simp only [ev_td, ev_call, ev_cons, h1, Res.bind_ok, ev_nil, ev_g1, fTuple, lst_lst h2]
  rw [tidy_app (by simpa only [D.lt] using hd)]
theorem td_len (h : FreshL e r μ ds) : mTd (mCall (g1 fLen) (aCons e aNil)) r μ = .ok (.int ds.length) μ := by
  obtain ⟨k, G, h1, h2, h3⟩ := h
  simp only [ev_td, ev_call, ev_cons, h1, Res.bind_ok, ev_nil, ev_g1]
  rw [len_seq (seq_lst h2), tidy_app (by rfl)]
theorem td_sorted (h : FreshL e r μ ds) (hs : sortable ds = true) (hd : D.lts μ.length (isort ltD ds) = true) : mTd (mCall (g1 fSorted) (aCons e aNil)) r μ = .ok (.obj μ.length) (μ ++ [.lst (isort ltD ds)]) := by
  obtain ⟨k, G, h1, h2, h3⟩ := h
  simp only [ev_td, ev_call, ev_cons, h1, Res.bind_ok, ev_nil, ev_g1, fSorted, colAt, seq_lst h2, hs, if_true]
  rw [List.append_assoc]
  refine tidy_lst_app (by simp) ?_ hd
  rw [← List.append_assoc, List.getElem?_append_right (Nat.le_refl _), Nat.sub_self]
  rfl
end
section
variable {n : Nat}
theorem lts_map {α : Type} {f : α → D} : ∀ {xs : List α}, (∀ x ∈ xs, D.lt n (f x) = true) → D.lts n (xs.map f) = true
  | [], _ => rfl
  | x :: xs, h => by
    simp only [List.map_cons, D.lts, Bool.and_eq_true]
    exact ⟨h x List.mem_cons_self, lts_map fun y hy => h y (List.mem_cons_of_mem _ hy)⟩
theorem lts_all : ∀ {xs : List D}, (∀ x ∈ xs, D.lt n x = true) → D.lts n xs = true
  | [], _ => rfl
  | x :: xs, h => by
    simp only [D.lts, Bool.and_eq_true]
    exact ⟨h x List.mem_cons_self, lts_all fun y hy => h y (List.mem_cons_of_mem _ hy)⟩
end
end T
end
section
set_option Elab.async false
set_option linter.all false
set_option maxRecDepth 100000
set_option maxHeartbeats 2000000
/-! T44: slices, dicts, sorted. -/
namespace T
open PySem L2
theorem cutD_drop {ds : List D} {k : Nat} : cutD ds (some (k : Int)) none = ds.drop k := by
  have e1 : HT.sIx ds.length 0 (some (k : Int)) = min k ds.length := HT.sIx_nat _ _ _
  have e2 : HT.sIx ds.length ds.length none = ds.length := rfl
  unfold cutD
  rw [e1, e2, List.take_of_length_le (by rw [List.length_drop]; omega)]
  by_cases h : k ≤ ds.length
  · rw [Nat.min_eq_left h]
  · rw [Nat.min_eq_right (by omega), List.drop_of_length_le (Nat.le_refl _), List.drop_of_length_le (by omega)]
theorem cutD_take {ds : List D} {k : Nat} : cutD ds none (some (k : Int)) = ds.take k := by
  have e1 : HT.sIx ds.length ds.length (some (k : Int)) = min k ds.length := HT.sIx_nat _ _ _
  have e2 : HT.sIx ds.length 0 none = 0 := rfl
  unfold cutD
  rw [e1, e2, List.drop_zero, Nat.sub_zero]
  by_cases h : k ≤ ds.length
  · rw [Nat.min_eq_left h]
  · rw [Nat.min_eq_right (by omega), List.take_of_length_le (Nat.le_refl _), List.take_of_length_le (by omega)]

theorem cut_drop {ds : List D} {k : Nat} {m : Mem} : gCut (.tup ds) (some (k : Int)) none m = .ok (.tup (ds.drop k)) m := by
  have e1 : HT.sIx ds.length 0 (some (k : Int)) = min k ds.length := HT.sIx_nat _ _ _
  simp only [gCut, tupOf]
  split
  · rename_i h
    rw [e1] at h
    have h1 := h.1
    have : ds.drop k = ds := by
      by_cases hk : k = 0
      · rw [hk, List.drop_zero]
      · have : ds.length = 0 := by omega
        rw [List.length_eq_zero_iff.mp this, List.drop_nil]
    rw [this]
  · rw [cutD_drop]
theorem cut_take {ds : List D} {k : Nat} {m : Mem} : gCut (.tup ds) none (some (k : Int)) m = .ok (.tup (ds.take k)) m := by
  have e1 : HT.sIx ds.length ds.length (some (k : Int)) = min k ds.length := HT.sIx_nat _ _ _
  simp only [gCut, tupOf]
  split
  · rename_i h
    rw [e1] at h
    rw [List.take_of_length_le (by omega)]
  · rw [cutD_take]
theorem cut_drop1 {ds : List D} {m : Mem} : gCut (.tup ds) (some 1) none m = .ok (.tup (ds.drop 1)) m := cut_drop (k := 1)
theorem cut_take1 {ds : List D} {m : Mem} : gCut (.tup ds) none (some 1) m = .ok (.tup (ds.take 1)) m := cut_take (k := 1)
/-! ### dicts -/
section
variable {m : Mem} {n : Nat} {kvs : List (D × D)} {x v z : D}
theorem dctR_dct (h : m[n]? = some (.dct kvs)) (hf : fits kvs x = true) : dctR m n x = some kvs := by simp only [dctR, h, hf, if_true]
theorem dctR_lk (h : m[n]? = some (.lk (.dct kvs))) (hf : fits kvs x = true) (h0 : kvs ≠ []) : dctR m n x = some kvs := by
  have e : kvs.isEmpty = false := by cases kvs <;> simp_all
  simp only [dctR, h, hf, e, Bool.not_false, Bool.and_self, if_true]
theorem ix_dctR (hs : seqAt m (.obj n) = none) (h : dctR m n x = some kvs) (hv : dget kvs x = some v) : gIx (.obj n) x m = .ok v m := by simp only [gIx, hs, h, hv]
theorem ix_dct (h : m[n]? = some (.dct kvs)) (hf : fits kvs x = true) (hv : dget kvs x = some v) : gIx (.obj n) x m = .ok v m := ix_dctR (seq_dct h) (dctR_dct h hf) hv
theorem ix_lk (h : m[n]? = some (.lk (.dct kvs))) (hf : fits kvs x = true) (h0 : kvs ≠ []) (hv : dget kvs x = some v) : gIx (.obj n) x m = .ok v m := ix_dctR (seq_lk h) (dctR_lk h hf h0) hv
theorem get_dct (h : m[n]? = some (.dct kvs)) (hf : fits kvs x = true) : gGet (.obj n) [x, z] m = .ok ((dget kvs x).getD z) m := by simp only [gGet, dctR_dct h hf]
theorem get1_dct (h : m[n]? = some (.dct kvs)) (hf : fits kvs x = true) : gGet (.obj n) [x] m = .ok ((dget kvs x).getD .non) m := by simp only [gGet, dctR_dct h hf]
theorem in_dct (h : m[n]? = some (.dct kvs)) (hf : fits kvs x = true) : gIn x (.obj n) m = .ok (.bl (dget kvs x).isSome) m := by simp only [gIn, gInB, seq_dct h, dctR_dct h hf]
theorem notin_dct (h : m[n]? = some (.dct kvs)) (hf : fits kvs x = true) : gNotIn x (.obj n) m = .ok (.bl (!(dget kvs x).isSome)) m := by simp only [gNotIn, gInB, seq_dct h, dctR_dct h hf]
theorem isBT_dct (h : m[n]? = some (.dct kvs)) : isBT .dct (.obj n) m = true := by simp [isBT, dctAt, h]
theorem put_dct (h : m[n]? = some (.dct kvs)) (hf : fits kvs x = true) (hl : kvs.length < sizeLine) : putIx (.obj n) x v m = some (m.set n (.dct (dput kvs x v))) := by simp only [putIx, h, hf, hl, decide_true, Bool.and_self, if_true]
end
section
variable {κ : Type} {α : Type} [BEq κ] [LawfulBEq κ] (kd : κ → D) (f : α → D)
/-- a dict, by its keys and values -/
def dM (l : List (κ × α)) : List (D × D) := l.map fun q => (kd q.1, f q.2)
def aput (l : List (κ × α)) (k : κ) (v : α) : List (κ × α) := if l.any (fun q => q.1 == k) then l.map (fun q => if q.1 == k then (q.1, v) else q) else l ++ [(k, v)]
variable {kd f}
theorem dget_dM (hk : ∀ a b, sameK (kd a) (kd b) = (a == b)) (k : κ) : ∀ l : List (κ × α), dget (dM kd f l) (kd k) = (l.lookup k).map f
  | [] => rfl
  | (a, v) :: l => by
    have ih := dget_dM hk k l
    unfold dget dM at ih ⊢
    rw [List.map_cons, List.find?_cons]
    simp only [hk]
    by_cases h : a = k
    · subst h
      simp
    · have h1 : (a == k) = false := by simpa using h
      have h2 : (k == a) = false := by simpa using fun z => h z.symm
      rw [h1, List.lookup_cons, h2]
      exact ih
theorem dput_dM (hk : ∀ a b, sameK (kd a) (kd b) = (a == b)) (k : κ) (v : α) (l : List (κ × α)) : dput (dM kd f l) (kd k) (f v) = dM kd f (aput l k v) := by
  unfold dput dM aput
  rw [List.any_map]
  simp only [Function.comp_def, hk]
  split
  · simp only [List.map_map]
    refine List.map_congr_left fun q _ => ?_
    simp only [Function.comp_def, hk]
    split <;> rfl
  · simp
theorem aput_new {l : List (κ × α)} {k : κ} {v : α} (h : k ∉ l.map (·.1)) : aput l k v = l ++ [(k, v)] := by
  unfold aput
  rw [if_neg]
  intro z
  obtain ⟨q, hq, e⟩ := List.any_eq_true.mp z
  exact h (List.mem_map.mpr ⟨q, hq, eq_of_beq e⟩)
end
def kP (p : Str × Str) : D := .tup [.str p.1, .str p.2]
theorem same_str (a b : Str) : sameK (.str a) (.str b) = (a == b) := rfl
theorem same_P (a b : Str × Str) : sameK (kP a) (kP b) = (a == b) := by
  obtain ⟨a1, a2⟩ := a
  obtain ⟨b1, b2⟩ := b
  simp [kP, sameK, sameKs]
  rfl
theorem fits_str {α : Type} (f : α → D) (l : List (Str × α)) (s : Str) : fits (dM D.str f l) (.str s) = true := by
  simp [fits, fitK, keyD, dM]
theorem fits_P {α : Type} (f : α → D) (l : List ((Str × Str) × α)) (p : Str × Str) : fits (dM kP f l) (kP p) = true := by
  have : fitT (dM kP f l) (kP p) = true := by simp [fitT, kP, keyT, keyDs, keyD, dM]
  simp [fits, this]
/-! ### sorted -/
section
variable {e : EM} {r : Slots} {μ : Mem} {n : Nat} {kvs : List (D × D)}
theorem fresh_sortD (he : ∀ μ, e r μ = .ok (.obj n) μ) (h : μ[n]? = some (.dct kvs)) (hs : sortable (kvs.map (·.1)) = true) : FreshL (mLk (lkPick e) (mCall (g1 fSorted) (aCons e aNil))) r μ (isort ltD (kvs.map (·.1))) := by
  refine .lk (pick_dct (he μ) h) h ⟨(μ.set n (.lk (.dct kvs))).length, [.lst (isort ltD (kvs.map (·.1)))], ?_, by simp, Nat.le_refl _⟩
  have hk := get_set h (.lk (.dct kvs))
  simp only [ev_call, ev_cons, he, Res.bind_ok, ev_nil, ev_g1, fSorted, colAt, seq_lk hk, dk_lk hk, Option.map_some, hs, if_true]
end
theorem sortable_S {l : List Str} : sortable (l.map D.str) = true := by
  cases l with
  | nil => rfl
  | cons a l => simp [sortable, isS]
theorem sortable_P {l : List (Str × Str)} : sortable (l.map kP) = true := by
  cases l with
  | nil => rfl
  | cons a l => simp [sortable, kP, shT, shp]
def isortS : List Str → List Str := isort fun a b => decide (a.cps.toList < b.cps.toList)
theorem isort_S (l : List Str) : isort ltD (l.map D.str) = (isortS l).map D.str := by
  unfold isortS
  rw [← isort_map (lt := ltD) D.str l]
  congr 2
  funext a b
  rw [lt_str1]

/-! ### == of lists of texts -/
theorem pyWs_S (dr : Nat → Option PyData) : ∀ l : List Str, pyWs dr (l.map D.str) = some (l.map PyData.str)
  | [] => rfl
  | a :: l => by simp [pyWs, pyW, pyWs_S dr l]
theorem eqvAll_S : ∀ l l' : List Str, PyData.eqvAll (l.map PyData.str) (l'.map PyData.str) = (l == l')
  | [], [] => by simp [PyData.eqvAll]
  | [], b :: l' => by simp [PyData.eqvAll]
  | a :: l, [] => by simp [PyData.eqvAll]
  | a :: l, b :: l' => by
    have ih := eqvAll_S l l'
    simp only [List.map_cons, PyData.eqvAll, ih, PyData.eqv]
    rfl
theorem canLay_S : ∀ {l : List Str}, (∀ s ∈ l, PyData.strOk s = true) → PyData.canLayAll0 (l.map PyData.str) = true
  | [], _ => by simp [PyData.canLayAll0]
  | a :: l, h => by
    simp only [List.map_cons, PyData.canLayAll0, PyData.canLay0, h a List.mem_cons_self, canLay_S fun s hs => h s (List.mem_cons_of_mem _ hs), Bool.and_self]
theorem depth_S : ∀ l : List Str, PyData.depthAll (l.map PyData.str) ≤ 1
  | [] => by simp [PyData.depthAll]
  | a :: l => by
    have := depth_S l
    simp only [List.map_cons, PyData.depthAll, PyData.depth]
    omega
theorem shaped_S {l : List Str} (h : ∀ s ∈ l, PyData.strOk s = true) : SeqAt.shaped (.list (l.map PyData.str)) = true := by
  have := depth_S l
  unfold SeqAt.shaped
  rw [Bool.and_eq_true]
  refine ⟨by simp only [PyData.canLay0]; exact canLay_S h, decide_eq_true ?_⟩
  simp only [PyData.depth]
  omega
theorem pyD_lstS {m : Mem} {n : Nat} {l : List Str} (h : m[n]? = some (.lst (l.map D.str))) : pyD m (.obj n) = some (.list (l.map PyData.str)) := by
  simp [pyD, pyW, drS, lstAt, h, pyWs_S]
theorem eq_lstS {m : Mem} {n k : Nat} {l l' : List Str} (h : m[n]? = some (.lst (l.map D.str))) (h' : m[k]? = some (.lst (l'.map D.str))) (o : ∀ s ∈ l, PyData.strOk s = true) (o' : ∀ s ∈ l', PyData.strOk s = true) : gEq (.obj n) (.obj k) m = .ok (.bl (l == l')) m := by
  simp only [gEq, pyD_lstS h, pyD_lstS h', shaped_S o, shaped_S o', Bool.and_self, if_true, PyData.eqv, eqvAll_S]
theorem ne_lstS {m : Mem} {n k : Nat} {l l' : List Str} (h : m[n]? = some (.lst (l.map D.str))) (h' : m[k]? = some (.lst (l'.map D.str))) (o : ∀ s ∈ l, PyData.strOk s = true) (o' : ∀ s ∈ l', PyData.strOk s = true) : gNe (.obj n) (.obj k) m = .ok (.bl (!(l == l'))) m := by
  simp only [gNe, pyD_lstS h, pyD_lstS h', shaped_S o, shaped_S o', Bool.and_self, if_true, PyData.eqv, eqvAll_S]
/-! ### tables in memory -/
theorem tabIn_app {d : Str × Option Str} {q : Str} {m G : Mem} (h : tabIn d q m = true) : tabIn d q (m ++ G) = true := by
  unfold tabIn at h ⊢
  rw [List.any_append, h]
  rfl
theorem tabIn_set {d : Str × Option Str} {q : Str} {m : Mem} {n : Nat} {c c' : Cell} (h : tabIn d q m = true) (hn : m[n]? = some c) (hc : isTab d q c = false) : tabIn d q (m.set n c') = true := by
  unfold tabIn at h ⊢
  obtain ⟨x, hx, hi⟩ := List.any_eq_true.mp h
  obtain ⟨i, e⟩ := List.getElem?_of_mem hx
  have hne : n ≠ i := fun z => by
    subst z
    rw [hn] at e
    cases e
    rw [hc] at hi
    cases hi
  exact List.any_eq_true.mpr ⟨x, List.mem_of_getElem? (i := i) (by rw [List.getElem?_set_ne hne]; exact e), hi⟩
theorem sortK0_ok {d : He.Defn} {q : Str} {e : EM} {r : Slots} {μ : Mem} (h : FreshL e r μ []) (ht : tabIn d q μ = true) : ∃ k G, mSortK0 d q e r μ = .ok (.obj k) (μ ++ G) ∧ (μ ++ G)[k]? = some (.lst []) ∧ μ.length ≤ k := by
  obtain ⟨k, G, h1, h2, h3⟩ := h
  refine ⟨(μ ++ G).length, G ++ [.lst []], ?_, ?_, by simp⟩
  · simp only [mSortK0, h1, Res.bind_ok, tabIn_app ht, if_true, lst_lst h2]
    simp
  · rw [← List.append_assoc, List.getElem?_append_right (Nat.le_refl _), Nat.sub_self]
    rfl
end T
end
section
set_option Elab.async false
set_option linter.all false
set_option maxRecDepth 100000
set_option maxHeartbeats 2000000
/-! T45: dict comprehensions of values. -/
namespace T
open PySem L2
section
variable {α κ β : Type} [BEq κ] [LawfulBEq κ] {emb : α → D} {kd : κ → D} {f : β → D} {xs : List α} {mi : Slots → Mem → Res ItM} {it : ItM} {g : GM} {t : TM} {mk mv : EM} {vs : List Nat} {r : Slots} {μ : Mem}
theorem fresh_dc (p : α → Bool) (fk : α → κ) (fv : α → β) (hk : ∀ a b, sameK (kd a) (kd b) = (a == b)) (hfit : ∀ (l : List (κ × β)) k, fits (dM kd f l) (kd k) = true) (hnd : (xs.map fk).Nodup)
    (h1 : mi r μ = .ok it μ) (h2 : ∀ G, it (μ ++ G) = some (xs.map emb)) (hl : xs.length < sizeLine)
    (h3 : ∀ x ∈ xs, ∀ G, ∃ r1, g (emb x) (wipeD r vs) = some r1 ∧ t r1 (μ ++ G) = .ok (p x) (μ ++ G) ∧ (p x = true → mk r1 (μ ++ G) = .ok (kd (fk x)) (μ ++ G) ∧ mv r1 (μ ++ G) = .ok (f (fv x)) (μ ++ G))) :
    FreshD (mDc mi g t mk mv vs) r μ (dM kd f ((xs.filter p).map fun x => (fk x, fv x))) := by
  have hd : it μ = some (xs.map emb) := by
    have z := h2 []
    rwa [List.append_nil] at z
  obtain ⟨acc, m', e, ⟨hm, ha⟩, hk'⟩ := dc_inv (m1 := μ) (mi := mi) (it := it) (g := g) (t := t) (mk := mk) (mv := mv) (vs := vs) (r := r) (ds := xs.map emb)
    (fun i acc m => m = μ ++ [.dct acc] ∧ acc = dM kd f (((xs.take i).filter p).map fun x => (fk x, fv x))) h1 hd ⟨rfl, by simp [dM]⟩ (fun i acc m ⟨e, _⟩ => by rw [e]; exact h2 _)
    (fun i d acc m hi ⟨hm, ha⟩ hk' => by
      rw [List.getElem?_map] at hi
      obtain ⟨x, hx, rfl⟩ := Option.map_eq_some_iff.mp hi
      have hxm := List.mem_of_getElem? hx
      obtain ⟨r1, e1, e2, e3⟩ := h3 x hxm [.dct acc]
      refine ⟨r1, e1, ?_⟩
      have ht : xs.take (i + 1) = xs.take i ++ [x] := by
        rw [List.take_add_one, hx]
        rfl
      have hla : acc.length < sizeLine := by
        have q1 : acc.length ≤ (xs.take i).length := by
          rw [ha]
          unfold dM
          rw [List.length_map, List.length_map]
          exact List.length_filter_le _ _
        have q2 : (xs.take i).length ≤ xs.length := by
          rw [List.length_take]
          exact Nat.min_le_right _ _
        omega
      cases hp : p x with
      | false =>
        rw [hp] at e2
        refine .inl ⟨m, by rw [hm]; exact e2, hk', hm, ?_⟩
        rw [ht, List.filter_append, List.map_append, ha]
        simp [hp]
      | true =>
        rw [hp] at e2
        obtain ⟨e4, e5⟩ := e3 hp
        refine .inr ⟨m, kd (fk x), m, f (fv x), m, by rw [hm]; exact e2, by rw [hm]; exact e4, by rw [hm]; exact e5, hk', by rw [ha]; exact hfit _ _, hla, by rw [hm]; simp, ?_⟩
        rw [ha, dput_dM hk, aput_new, ht, List.filter_append, List.map_append]
        · simp [hp]
        · intro z
          obtain ⟨q, hq, e6⟩ := List.mem_map.mp z
          obtain ⟨y, hy, e7⟩ := List.mem_map.mp hq
          have hy2 := (List.mem_filter.mp hy).1
          have nd2 : ((xs.take (i + 1)).map fk).Nodup := by
            refine List.Nodup.sublist ?_ hnd
            exact (List.take_sublist _ _).map _
          rw [ht, List.map_append, List.nodup_append] at nd2
          refine nd2.2.2 (fk y) (List.mem_map.mpr ⟨y, hy2, rfl⟩) (fk x) (by simp) ?_
          rw [← e7] at e6
          exact e6)
  refine ⟨_, [.dct acc], by rw [e, hm], by rw [← hm, hk', ha]; simp, Nat.le_refl _⟩
end
theorem td_dct {e : EM} {r : Slots} {μ : Mem} {kvs : List (D × D)} (h : FreshD e r μ kvs) (hd : (kvs.all fun p => D.lt μ.length p.1 && D.lt μ.length p.2) = true) : ∃ M, e r μ = M ∧ tidy μ M = .ok (.obj μ.length) (μ ++ [.dct kvs]) := by
  obtain ⟨k, G, h1, h2, h3⟩ := h
  exact ⟨_, h1, tidy_dct_app h3 h2 hd⟩
theorem dM_lt {κ β : Type} {kd : κ → D} {f : β → D} {n : Nat} (hk : ∀ k, D.lt n (kd k) = true) (hf : ∀ b, D.lt n (f b) = true) (l : List (κ × β)) : ((dM kd f l).all fun p => D.lt n p.1 && D.lt n p.2) = true := by
  unfold dM
  rw [List.all_map, List.all_eq_true]
  intro q _
  simp [hk, hf]
theorem tidy_ins {m M : Mem} {k : Nat} {c : CN} {vs : List (Option D)} (hk : m.length ≤ k) (h : M[k]? = some (.ins c vs)) : tidy m (.ok (.obj k) M) = .ok (.obj k) M := by
  have hn : ¬ D.lt m.length (.obj k) = true := fun z => by
    have := of_decide_eq_true (show decide (k < m.length) = true from z)
    omega
  have e : packD m (.obj k) M = .ok (.obj k) M := by
    unfold packD
    rw [if_neg hn]
    simp only [packC, h]
  simp only [tidy, e, ite_self]

def iNow (it : ItM) : Slots → Mem → Res ItM := fun _ m => .ok it m
section
variable {mi : Slots → Mem → Res ItM} {it : ItM} {g : GM} {t : TM} {me mk mv : EM} {vs : List Nat} {r : Slots} {μ G0 : Mem}
theorem fresh_dc_iter {kvs : List (D × D)} (h1 : mi r μ = .ok it (μ ++ G0)) (h : FreshD (mDc (iNow it) g t mk mv vs) r (μ ++ G0) kvs) : FreshD (mDc mi g t mk mv vs) r μ kvs := by
  obtain ⟨k, G, e1, e2, e3⟩ := h
  refine ⟨k, G0 ++ G, ?_, by rw [← List.append_assoc]; exact e2, by rw [List.length_append] at e3; omega⟩
  rw [← List.append_assoc, ← e1]
  simp only [mDc, h1, iNow]
theorem fresh_lc_iter {ds : List D} (h1 : mi r μ = .ok it (μ ++ G0)) (h : FreshL (mLc (iNow it) g t me vs) r (μ ++ G0) ds) : FreshL (mLc mi g t me vs) r μ ds := by
  obtain ⟨k, G, e1, e2, e3⟩ := h
  refine ⟨k, G0 ++ G, ?_, by rw [← List.append_assoc]; exact e2, by rw [List.length_append] at e3; omega⟩
  rw [← List.append_assoc, ← e1]
  simp only [mLc, h1, iNow]
/-- what is walked is a new list -/
theorem iit_fresh {e : EM} {ds : List D} (h : FreshL e r μ ds) : ∃ k G, iIt e r μ = .ok (itSrc (.obj k)) (μ ++ G) ∧ (μ ++ G)[k]? = some (.lst ds) ∧ μ.length ≤ k ∧ ∀ G', itSrc (.obj k) (μ ++ G ++ G') = some ds := by
  obtain ⟨k, G, e1, e2, e3⟩ := h
  refine ⟨k, G, iit_src e1 (dk_lst e2) (src_lst e2), e2, e3, fun G' => src_lst (get_old e2 _)⟩
theorem pick_fresh {e : EM} {ds : List D} (h : FreshL e r μ ds) : lkPick e r μ = none := by
  obtain ⟨k, G, e1, e2, e3⟩ := h
  refine pick_not e1 fun n kvs z => ?_
  cases z
  rw [List.getElem?_eq_none e3]
  exact fun z => nomatch z
end

theorem tidy_dct_no {m M : Mem} {k : Nat} {kvs : List (D × D)} (hk : m.length ≤ k) (h : M[k]? = some (.dct kvs)) (hn : (kvs.all fun p => D.lt m.length p.1 && D.lt m.length p.2) = false) : tidy m (.ok (.obj k) M) = .ok (.obj k) M := by
  have hn' : ¬ D.lt m.length (.obj k) = true := fun z => by
    have := of_decide_eq_true (show decide (k < m.length) = true from z)
    omega
  have e : packD m (.obj k) M = .ok (.obj k) M := by
    unfold packD
    rw [if_neg hn']
    simp only [packC, h, hn]
    rfl
  simp only [tidy, e, ite_self]
theorem tidy_lst_no {m M : Mem} {k : Nat} {ds : List D} (hk : m.length ≤ k) (h : M[k]? = some (.lst ds)) (hn : D.lts m.length ds = false) : tidy m (.ok (.obj k) M) = .ok (.obj k) M := by
  have hn' : ¬ D.lt m.length (.obj k) = true := fun z => by
    have := of_decide_eq_true (show decide (k < m.length) = true from z)
    omega
  have e : packD m (.obj k) M = .ok (.obj k) M := by
    unfold packD
    rw [if_neg hn']
    simp only [packC, h, hn]
    rfl
  simp only [tidy, e, ite_self]

theorem seq_next {a b : SM} {r r1 : Slots} {μ μ1 : Mem} (h : a r μ = .ok .next r1 μ1) : sSeq a b r μ = b r1 μ1 := by
  unfold sSeq
  rw [h]
  rfl
theorem seq_ret {a b : SM} {r r1 : Slots} {μ μ1 : Mem} {d : D} (h : a r μ = .ok (.ret d) r1 μ1) : sSeq a b r μ = .ok (.ret d) r1 μ1 := by
  unfold sSeq
  rw [h]
  rfl
theorem seq_exc {a b : SM} {r r1 : Slots} {μ μ1 : Mem} {c : EN} {p : Option D} (h : a r μ = .exc c p r1 μ1) : sSeq a b r μ = .exc c p r1 μ1 := by
  unfold sSeq
  rw [h]
  rfl
theorem asg_name {e : EM} {i : Nat} {r : Slots} {μ μ1 : Mem} {d : D} (h : e r μ = .ok d μ1) : sAsg e (gtName i) r μ = .ok .next (r.set i (some d)) μ1 := by
  unfold sAsg
  rw [h]
  rfl
theorem ret_ok {e : EM} {r : Slots} {μ μ1 : Mem} {d : D} (h : e r μ = .ok d μ1) : sRet e r μ = .ok (.ret d) r μ1 := by
  unfold sRet
  rw [h]
  rfl
theorem expr_ok {e : EM} {r : Slots} {μ μ1 : Mem} {d : D} (h : e r μ = .ok d μ1) : sExpr e r μ = .ok .next r μ1 := by
  unfold sExpr
  rw [h]
  rfl
theorem sif_ok {t : TM} {a b : SM} {r : Slots} {μ μ1 : Mem} {k : Bool} (h : t r μ = .ok k μ1) : sIf t a b r μ = if k = true then a r μ1 else b r μ1 := by
  unfold sIf
  rw [h]
  rfl
theorem call_ok {f : List D → Mem → Res D} {ms : LM} {n : Nat} {r : Slots} {μ μ1 : Mem} {ds : List D} (h : ms r μ = .ok ds μ1) (hl : ds.length = n) : mCall (atN n f) ms r μ = f ds μ1 := by
  unfold mCall atN
  rw [h]
  exact if_pos hl
theorem cons_ok {e : EM} {ms : LM} {r : Slots} {μ μ1 μ2 : Mem} {d : D} {ds : List D} (h : e r μ = .ok d μ1) (h2 : ms r μ1 = .ok ds μ2) : aCons e ms r μ = .ok (d :: ds) μ2 := by
  unfold aCons
  rw [h, Res.bind_ok, h2]
  rfl
theorem var_ok {i : Nat} {r : Slots} {μ : Mem} {d : D} (h : r[i]? = some (some d)) : mVar i r μ = .ok d μ := by
  unfold mVar
  rw [h]

theorem shaped_str {a : Str} (h : PyData.strOk a = true) : SeqAt.shaped (.str a) = true := by
  unfold SeqAt.shaped
  simp [PyData.canLay0, h, PyData.depth]
theorem ne_str {a b : Str} {m : Mem} (ha : PyData.strOk a = true) (hb : PyData.strOk b = true) : gNe (.str a) (.str b) m = .ok (.bl (!(a == b))) m := by
  simp only [gNe, pyD, pyW, shaped_str ha, shaped_str hb, Bool.and_self, if_true, PyData.eqv]
theorem eq_str {a b : Str} {m : Mem} (ha : PyData.strOk a = true) (hb : PyData.strOk b = true) : gEq (.str a) (.str b) m = .ok (.bl (a == b)) m := by
  simp only [gEq, pyD, pyW, shaped_str ha, shaped_str hb, Bool.and_self, if_true, PyData.eqv]

theorem ix_lst {m : Mem} {n : Nat} {ds : List D} {i : Int} {d : D} (h : m[n]? = some (.lst ds)) (hd : atI ds i = some d) : gIx (.obj n) (.int i) m = .ok d m := by
  simp only [gIx, seq_lst h, hd]
theorem ix_tup {m : Mem} {ds : List D} {i : Int} {d : D} (hd : atI ds i = some d) : gIx (.tup ds) (.int i) m = .ok d m := by
  simp only [gIx, seq_tup, hd]
theorem at0_cons {α : Type} {a : α} {l : List α} : atI (a :: l) 0 = some a := by
  simp [atI, ixN]
end T
end
section
set_option Elab.async false
set_option linter.all false
set_option maxRecDepth 100000
/-! mirrors, printed by gen.py from the program's text -/
noncomputable section
namespace M
open T PySem
def clss : List CN := [.book]
def alls : List EN := [.book, .parse, .round]
/-! ### _law_dice -/
def N__law_dice : List Str := ["script", "spot", "cell", "great", "seed"]
def mb__law_dice : SM := (sSeq (sAsg (mIf (tOf (m2 gLt (mVar 1) (mCall (g1 fLen) (aCons (mVar 0) aNil)))) (mCall (gInt1) (aCons (m2 gIx (mVar 0) (mVar 1)) aNil)) (m2 gAdd (m2 gMul (mC (.int 131)) (mVar 1)) (mC (.int 37)))) (gtName 2))
  (sSeq (sAsg (m2 gMod (mCall (gInt1) (aCons (mCall (gAbs) (aCons (mVar 2) aNil)) aNil)) (m2 gPow (m2 gPow (mC (.int 10)) (mC (.int 53))) (mC (.int 6)))) (gtName 3))
  (sSeq (sAsg (m2 gAdd (m2 gAdd (m2 gAdd (m2 gMul (m2 gMod (mVar 3) (mC (.int 2305843009213693907))) (mC (.int 73))) (m2 gMul (mC (.int 619)) (mVar 1))) (m2 gMul (mC (.int 41)) (mCall (gInt1) (aCons (m2 gLt (mVar 2) (mC (.int 0))) aNil)))) (mC (.int 17))) (gtName 4))
  (sSeq (sRet (mAlloc (mLst (aCons (mCall (gMax2) (aCons (mC (.int 0)) (aCons (m2 gSub (mVar 3) (m2 gPow (mC (.int 10)) (mC (.int 16)))) aNil))) (aCons (mVar 4) (aCons (mC (.int 0)) aNil))))))
  sNext))))
def mf__law_dice : List D → Mem → Res D := runT N__law_dice mb__law_dice
/-! ### _law_met -/
def N__law_met : List Str := ["call", "error"]
def mb__law_met (callm : EM) : SM := (sSeq (sTry alls (sSeq (sExpr callm)
  sNext) [(.parse, some 1, hReprF "parse "), (.book, none, hConst "book"), (.round, none, hConst "round")])
  (sSeq (sRet (mC (.str "fine")))
  sNext))
def mf__law_met (cm : Mem → Res D) (μ : Mem) : Res D := runB N__law_met (mb__law_met fun _ μ => cm μ) [.non] μ
/-! ### _law_roll -/
def N__law_roll : List Str := ["dice", "total", "found", "one", "two"]
def mb__law_roll : SM := (sSeq (sIf (tOf (m2 gGt (m2 gIx (mVar 0) (mC (.int 0))) (mC (.int 0)))) (sSeq (sAsg (m2 gMod (m2 gIx (mVar 0) (mC (.int 0))) (mVar 1)) (gtName 2))
  (sSeq (sPut (m2 gDiv (m2 gIx (mVar 0) (mC (.int 0))) (mVar 1)) (mVar 0) (mC (.int 0)))
  (sSeq (sRet (mCall (gInt1) (aCons (mVar 2) aNil)))
  sNext))) sNext)
  (sSeq (sPut (m2 gAdd (m2 gIx (mVar 0) (mC (.int 2))) (mC (.int 1))) (mVar 0) (mC (.int 2)))
  (sSeq (sAsg (m2 gMod (m2 gAdd (m2 gIx (mVar 0) (mC (.int 1))) (m2 gMul (mC (.int 49979687)) (m2 gIx (mVar 0) (mC (.int 2))))) (mC (.int 2305843009213693951))) (gtName 3))
  (sSeq (sAsg (m2 gAdd (m2 gMul (m2 gMod (m2 gAdd (m2 gMul (mVar 3) (mVar 3)) (m2 gMul (mC (.int 131)) (m2 gIx (mVar 0) (mC (.int 2))))) (mC (.int 2305843009213693921))) (mC (.int 32452843))) (mVar 3)) (gtName 4))
  (sSeq (sRet (m2 gMod (mCall (gInt1) (aCons (m2 gDiv (mVar 4) (mC (.int 65587))) aNil)) (mVar 1)))
  sNext)))))
def mf__law_roll : List D → Mem → Res D := runT N__law_roll mb__law_roll
/-! ### _law_pick -/
def N__law_pick : List Str := ["dice", "items"]
def mb__law_pick : SM := (sSeq (sRet (m2 gIx (mVar 1) (mCall (atN 2 mf__law_roll) (aCons (mVar 0) (aCons (mCall (g1 fLen) (aCons (mVar 1) aNil)) aNil)))))
  sNext)
def mf__law_pick : List D → Mem → Res D := runT N__law_pick mb__law_pick
/-! ### _law_rt_drawn -/
def N__law_rt_drawn : List Str := ["dice", "rooms", "kinds", "names", "plain", "at", "told", "one", "other", "by"]
def mb__law_rt_drawn : SM := (sSeq (sAsg (mTd (mCall (g1 fTuple) (aCons (mLc (iR1 (aCons (mVar 1) aNil)) (gtName 5) tTrue (m2 gAdd (mC (.str "r")) (mCall (gStrI) (aCons (mVar 5) aNil))) [5]) aNil))) (gtName 3))
  (sSeq (sAsg (mDisp (pCons (mC (.str "rooms")) (mVar 3) (pCons (mC (.str "kinds")) mDct0 pNil))) (gtName 4))
  (sSeq (sFor (iR1 (aCons (mVar 2) aNil)) (gtName 5) (sSeq (sAsg mDct0 (gtName 6))
  (sSeq (sLk (lkPick (mVar 3)) (sFor (iIt (mVar 3)) (gtName 7) (sSeq (sLk (lkPick (mVar 3)) (sFor (iIt (mVar 3)) (gtName 8) (sSeq (sAsg (mCall (atN 2 mf__law_pick) (aCons (mVar 0) (aCons (mAlloc (mLst (aCons (mC (.int 0)) (aCons (mC (.int 0)) (aCons (mC (.int 0)) (aCons (mC (.int 1)) (aCons (mC (.int 1)) (aCons (mC (.int 1)) (aCons (m1 gNeg (mC (.int 1))) (aCons (mC (.int 2)) (aCons (mC (.int 3)) aNil))))))))))) aNil))) (gtName 9))
  (sSeq (sIf (tOf (m2 gNe (mVar 9) (mC (.int 0)))) (sSeq (sPut (mVar 9) (mVar 6) (mTup (aCons (mVar 7) (aCons (mVar 8) aNil))))
  sNext) sNext)
  sNext))))
  sNext)))
  (sSeq (sPut (mVar 6) (m2 gIx (mVar 4) (mC (.str "kinds"))) (m2 gAdd (mC (.str "k")) (mCall (gStrI) (aCons (mVar 5) aNil))))
  sNext))))
  (sSeq (sRet (mVar 4))
  sNext))))
def mf__law_rt_drawn : List D → Mem → Res D := runT N__law_rt_drawn mb__law_rt_drawn
/-! ### Book_table_told -/
def N_Book_table_told : List Str := ["self", "told", "rooms", "room", "other"]
def mb_Book_table_told : SM := (sSeq (sAsg (m1 (gSlot .book 1) (mVar 0)) (gtName 2))
  (sSeq (sRet (mTd (mCall (g1 fTuple) (aCons (mLk (lkPick (mVar 2)) (mLc (iIt (mVar 2)) (gtName 3) tTrue (mTd (mCall (g1 fTuple) (aCons (mLk (lkPick (mVar 2)) (mLc (iIt (mVar 2)) (gtName 4) tTrue (mMeth .dct gGet (mVar 1) (aCons (mTup (aCons (mVar 3) (aCons (mVar 4) aNil))) (aCons (mC (.int 0)) aNil))) [4])) aNil))) [3])) aNil))))
  sNext))
def mf_Book_table_told : List D → Mem → Res D := runT N_Book_table_told mb_Book_table_told
/-! ### is_name -/
def N_is_name : List Str := ["value", "sign"]
def mb_is_name : SM := (sSeq (sIf (tOrM (tNotM (tOf (mCall (gIsi clss) (aCons (mVar 0) (aCons (mC (.ty .str)) aNil))))) (tOrM (tNotM (tOf (mChain gLe gLe (mC (.int 1)) (mCall (g1 fLen) (aCons (mVar 0) aNil)) (mC (.int 12))))) (tOf (m2 gNotIn (m2 gIx (mVar 0) (mC (.int 0))) (mC (.str "abcdefghijklmnopqrstuvwxyz")))))) (sSeq (sRet (mC (.bl false)))
  sNext) sNext)
  (sSeq (sRet (mTd (mCall (g1 fAll) (aCons (mLk (lkPick (mVar 0)) (mLc (iIt (mVar 0)) (gtName 1) tTrue (m2 gIn (mVar 1) (mC (.str "abcdefghijklmnopqrstuvwxyz0123456789."))) [1])) aNil))))
  sNext))
def mf_is_name : List D → Mem → Res D := runT N_is_name mb_is_name
/-! ### is_room_tuple -/
def N_is_room_tuple : List Str := ["value", "one", "other"]
def mb_is_room_tuple : SM := (sSeq (sIf (tOrM (tNotM (tOf (mCall (gIsi clss) (aCons (mVar 0) (aCons (mC (.ty .tup)) aNil))))) (tOrM (tNotM (tOf (mChain gLe gLe (mC (.int 1)) (mCall (g1 fLen) (aCons (mVar 0) aNil)) (mC (.int 6))))) (tNotM (tOf (mTd (mCall (g1 fAll) (aCons (mLk (lkPick (mVar 0)) (mLc (iIt (mVar 0)) (gtName 1) tTrue (mCall (atN 1 mf_is_name) (aCons (mVar 1) aNil)) [1])) aNil))))))) (sSeq (sRet (mC (.bl false)))
  sNext) sNext)
  (sSeq (sRet (mTd (mCall (g1 fAll) (aCons (mLc (iZ2 (aCons (mVar 0) (aCons (mCut (mVar 0) (bOf (mC (.int 1))) bNone) aNil))) (gtTup [(gtName 1), (gtName 2)]) tTrue (m2 gLt (mVar 1) (mVar 2)) [1, 2]) aNil))))
  sNext))
def mf_is_room_tuple : List D → Mem → Res D := runT N_is_room_tuple mb_is_room_tuple
/-! ### are_rooms -/
def N_are_rooms : List Str := ["rooms", "pair", "room"]
def mb_are_rooms : SM := (sSeq (sRet (mTd (mCall (g1 fAll) (aCons (mLk (lkPick (mVar 1)) (mLc (iIt (mVar 1)) (gtName 2) tTrue (mAndM (mCall (gIsi clss) (aCons (mVar 2) (aCons (mC (.ty .str)) aNil))) (m2 gIn (mVar 2) (mVar 0))) [2])) aNil))))
  sNext)
def mf_are_rooms : List D → Mem → Res D := runT N_are_rooms mb_are_rooms
/-! ### is_integer -/
def N_is_integer : List Str := ["value"]
def mb_is_integer : SM := (sSeq (sRet (mAndM (mCall (gIsi clss) (aCons (mVar 0) (aCons (mC (.ty .int)) aNil))) (m1 gNot (mCall (gIsi clss) (aCons (mVar 0) (aCons (mC (.ty .bl)) aNil))))))
  sNext)
def mf_is_integer : List D → Mem → Res D := runT N_is_integer mb_is_integer
/-! ### is_told -/
def N_is_told : List Str := ["rooms", "value", "pair", "one"]
def mb_is_told : SM := (sSeq (sIf (tOrM (tNotM (tOf (mCall (gIsi clss) (aCons (mVar 1) (aCons (mC (.ty .dct)) aNil))))) (tNotM (tOf (mTd (mCall (g1 fAll) (aCons (mLk (lkPick (mVar 1)) (mLc (iDm .vs (mVar 1)) (gtName 3) tTrue (mAndM (mCall (atN 1 mf_is_integer) (aCons (mVar 3) aNil)) (m2 gLe (mCall (gAbs) (aCons (mVar 3) aNil)) (mC (.int 999)))) [3])) aNil)))))) (sSeq (sRet (mC (.bl false)))
  sNext) sNext)
  (sSeq (sRet (mTd (mCall (g1 fAll) (aCons (mLk (lkPick (mVar 1)) (mLc (iIt (mVar 1)) (gtName 2) tTrue (mAndM (mCall (gIsi clss) (aCons (mVar 2) (aCons (mC (.ty .tup)) aNil))) (mAndM (m2 gEq (mCall (g1 fLen) (aCons (mVar 2) aNil)) (mC (.int 2))) (mCall (atN 2 mf_are_rooms) (aCons (mVar 0) (aCons (mVar 2) aNil))))) [2])) aNil))))
  sNext))
def mf_is_told : List D → Mem → Res D := runT N_is_told mb_is_told
/-! ### fault_in -/
def N_fault_in : List Str := ["rooms", "kinds", "wrong", "key"]
def mb_fault_in : SM := (sSeq (sIf (tNotM (tOf (mCall (atN 1 mf_is_room_tuple) (aCons (mVar 0) aNil)))) (sSeq (sRet (mTup (aCons (mC (.str "rooms")) aNil)))
  sNext) sNext)
  (sSeq (sIf (tOrM (tNotM (tOf (mCall (gIsi clss) (aCons (mVar 1) (aCons (mC (.ty .dct)) aNil))))) (tNotM (tOf (mChain gLe gLe (mC (.int 1)) (mCall (g1 fLen) (aCons (mVar 1) aNil)) (mC (.int 4)))))) (sSeq (sRet (mTup (aCons (mC (.str "kinds")) (aCons (mC .non) aNil))))
  sNext) sNext)
  (sSeq (sAsg (mSortK0 ("fault_in", none) "fault_in.<locals>.<lambda>" (mLk (lkPick (mVar 1)) (mLc (iIt (mVar 1)) (gtName 3) (tNotM (tOf (mCall (gIsi clss) (aCons (mVar 3) (aCons (mC (.ty .str)) aNil))))) (mVar 3) [3]))) (gtName 2))
  (sSeq (sIf (tOf (m2 gEq (mVar 2) (mAlloc (mLst aNil)))) (sSeq (sAsg (mTd (mCall (g1 fSorted) (aCons (mLk (lkPick (mVar 1)) (mLc (iIt (mVar 1)) (gtName 3) (tOrM (tNotM (tOf (mCall (atN 1 mf_is_name) (aCons (mVar 3) aNil)))) (tNotM (tOf (mCall (atN 2 mf_is_told) (aCons (mVar 0) (aCons (m2 gIx (mVar 1) (mVar 3)) aNil)))))) (mVar 3) [3])) aNil))) (gtName 2))
  sNext) sNext)
  (sSeq (sRet (mIf (tOf (m2 gNe (mVar 2) (mAlloc (mLst aNil)))) (mTup (aCons (mC (.str "kinds")) (aCons (m2 gIx (mVar 2) (mC (.int 0))) aNil))) (mC .non)))
  sNext)))))
def mf_fault_in : List D → Mem → Res D := runT N_fault_in mb_fault_in
/-! ### without_noughts -/
def N_without_noughts : List Str := ["told", "pair"]
def mb_without_noughts : SM := (sSeq (sRet (mLk (lkPick (mLk (lkPick (mVar 0)) (mCall (g1 fSorted) (aCons (mVar 0) aNil)))) (mDc (iIt (mLk (lkPick (mVar 0)) (mCall (g1 fSorted) (aCons (mVar 0) aNil)))) (gtName 1) (tOf (m2 gNe (m2 gIx (mVar 0) (mVar 1)) (mC (.int 0)))) (mVar 1) (m2 gIx (mVar 0) (mVar 1)) [1])))
  sNext)
def mf_without_noughts : List D → Mem → Res D := runT N_without_noughts mb_without_noughts
/-! ### Book___init__ -/
def N_Book___init__ : List Str := ["self", "rooms", "kinds", "kind"]
def mb_Book___init__ : SM := (sSeq (sIf (tOf (m2 gNotN (mCall (atN 2 mf_fault_in) (aCons (mVar 1) (aCons (mVar 2) aNil))) (mC .non))) (sSeq (sRaise0 .book)
  sNext) sNext)
  (sSeq (sSlot .book 1 (mVar 1) (mVar 0))
  (sSeq (sSlot .book 2 (mCall (g1 fLen) (aCons (mVar 1) aNil)) (mVar 0))
  (sSeq (sSlot .book 0 (mLk (lkPick (mLk (lkPick (mVar 2)) (mCall (g1 fSorted) (aCons (mVar 2) aNil)))) (mDc (iIt (mLk (lkPick (mVar 2)) (mCall (g1 fSorted) (aCons (mVar 2) aNil)))) (gtName 3) tTrue (mVar 3) (mCall (atN 1 mf_without_noughts) (aCons (m2 gIx (mVar 2) (mVar 3)) aNil)) [3])) (mVar 0))
  (sSeq (sSlot .book 3 (mLk (lkPick (m1 (gSlot .book 0) (mVar 0))) (mDc (iIt (m1 (gSlot .book 0) (mVar 0))) (gtName 3) tTrue (mVar 3) (mOwn .book (atN 2 mf_Book_table_told) (mVar 0) (aCons (m2 gIx (m1 (gSlot .book 0) (mVar 0)) (mVar 3)) aNil)) [3])) (mVar 0))
  sNext)))))
def mf_Book___init__ : List D → Mem → Res D := runB N_Book___init__ mb_Book___init__
/-! ### _law_rt_made -/
def N__law_rt_made : List Str := ["plain"]
def mb__law_rt_made : SM := (sSeq (sRet (mCall (gNew .book (atN 3 mf_Book___init__)) (aCons (m2 gIx (mVar 0) (mC (.str "rooms"))) (aCons (m2 gIx (mVar 0) (mC (.str "kinds"))) aNil))))
  sNext)
def mf__law_rt_made : List D → Mem → Res D := runT N__law_rt_made mb__law_rt_made
/-! ### is_integer_text -/
def N_is_integer_text : List Str := ["word", "digits", "sign"]
def mb_is_integer_text : SM := (sSeq (sAsg (mIf (tOf (m2 gEq (mCut (mVar 0) bNone (bOf (mC (.int 1)))) (mC (.str "-")))) (mCut (mVar 0) (bOf (mC (.int 1))) bNone) (mVar 0)) (gtName 1))
  (sSeq (sIf (tOrM (tOf (m2 gEq (mVar 1) (mC (.str "")))) (tOrM (tOf (m2 gGt (mCall (g1 fLen) (aCons (mVar 0) aNil)) (mC (.int 4)))) (tNotM (tOf (mTd (mCall (g1 fAll) (aCons (mLk (lkPick (mVar 1)) (mLc (iIt (mVar 1)) (gtName 2) tTrue (m2 gIn (mVar 2) (mC (.str "0123456789"))) [2])) aNil))))))) (sSeq (sRet (mC (.bl false)))
  sNext) sNext)
  (sSeq (sRet (mOrM (m2 gNe (m2 gIx (mVar 1) (mC (.int 0))) (mC (.str "0"))) (m2 gEq (mVar 0) (mC (.str "0")))))
  sNext)))
def mf_is_integer_text : List D → Mem → Res D := runT N_is_integer_text mb_is_integer_text
/-! ### is_line -/
def N_is_line : List Str := ["words", "word"]
def mb_is_line : SM := (sSeq (sIf (tOrM (tOf (m2 gNotIn (m2 gIx (mVar 0) (mC (.int 0))) mStk)) (tOf (m2 gLt (mCall (g1 fLen) (aCons (mVar 0) aNil)) (mC (.int 2))))) (sSeq (sRet (mC (.bl false)))
  sNext) sNext)
  (sSeq (sIf (tOf (m2 gEq (m2 gIx (mVar 0) (mC (.int 0))) (mC (.str "ways")))) (sSeq (sRet (mAndM (m2 gEq (mCall (g1 fLen) (aCons (mVar 0) aNil)) (mC (.int 5))) (mAndM (mTd (mCall (g1 fAll) (aCons (mLk (lkPick (mCut (mVar 0) (bOf (mC (.int 1))) (bOf (mC (.int 4))))) (mLc (iIt (mCut (mVar 0) (bOf (mC (.int 1))) (bOf (mC (.int 4))))) (gtName 1) tTrue (mCall (atN 1 mf_is_name) (aCons (mVar 1) aNil)) [1])) aNil))) (mCall (atN 1 mf_is_integer_text) (aCons (m2 gIx (mVar 0) (mC (.int 4))) aNil)))))
  sNext) sNext)
  (sSeq (sIf (tAndM (tOf (m2 gEq (m2 gIx (mVar 0) (mC (.int 0))) (mC (.str "kind")))) (tOf (m2 gNe (mCall (g1 fLen) (aCons (mVar 0) aNil)) (mC (.int 2))))) (sSeq (sRet (mC (.bl false)))
  sNext) sNext)
  (sSeq (sRet (mTd (mCall (g1 fAll) (aCons (mLk (lkPick (mCut (mVar 0) (bOf (mC (.int 1))) bNone)) (mLc (iIt (mCut (mVar 0) (bOf (mC (.int 1))) bNone)) (gtName 1) tTrue (mCall (atN 1 mf_is_name) (aCons (mVar 1) aNil)) [1])) aNil))))
  sNext))))
def mf_is_line : List D → Mem → Res D := runT N_is_line mb_is_line
/-! ### key_of -/
def N_key_of : List Str := ["words"]
def mb_key_of : SM := (sSeq (sRet (mTup (aCons mStk (aCons (mIf (tOf (m2 gEq (m2 gIx (mVar 0) (mC (.int 0))) (mC (.str "ways")))) (mCut (mVar 0) (bOf (mC (.int 1))) (bOf (mC (.int 4)))) (mCut (mVar 0) (bOf (mC (.int 1))) bNone)) aNil))))
  sNext)
def mf_key_of : List D → Mem → Res D := runT N_key_of mb_key_of
/-! ### lines_read -/
def N_lines_read : List Str := ["text", "lines", "rows", "index", "words", "line"]
def mb_lines_read : SM := (sSeq (sIf (tNotM (tOf (mCall (gIsi clss) (aCons (mVar 0) (aCons (mC (.ty .str)) aNil))))) (sSeq (sRaise1 .parse okD1 (mC .non))
  sNext) sNext)
  (sSeq (sAsg (mMeth .str gSplit (mVar 0) (aCons (mC (.str "\n")) aNil)) (gtName 1))
  (sSeq (sLk (lkPick (mCut (mVar 1) bNone (bOf (m1 gNeg (mC (.int 1)))))) (sAsg (mLc (iIt (mCut (mVar 1) bNone (bOf (m1 gNeg (mC (.int 1)))))) (gtName 5) tTrue (mMeth .str gSplit (mVar 5) (aCons (mC (.str " ")) aNil)) [5]) (gtName 2)))
  (sSeq (sFor (iEn (aCons (mVar 2) aNil)) (gtTup [(gtName 3), (gtName 4)]) (sSeq (sIf (tNotM (tOf (mCall (atN 1 mf_is_line) (aCons (mVar 4) aNil)))) (sSeq (sRaise1 .parse okD1 (mVar 3))
  sNext) sNext)
  sNext))
  (sSeq (sIf (tOrM (tOf (m2 gNe (m2 gIx (mVar 1) (m1 gNeg (mC (.int 1)))) (mC (.str "")))) (tOf (m2 gEq (mVar 2) (mAlloc (mLst aNil))))) (sSeq (sRaise1 .parse okD1 (mCall (g1 fLen) (aCons (mVar 2) aNil)))
  sNext) sNext)
  (sSeq (sFor (iR2 (aCons (mC (.int 1)) (aCons (mCall (g1 fLen) (aCons (mVar 2) aNil)) aNil))) (gtName 3) (sSeq (sIf (tNotM (tOf (m2 gLt (mCall (atN 1 mf_key_of) (aCons (m2 gIx (mVar 2) (m2 gSub (mVar 3) (mC (.int 1)))) aNil)) (mCall (atN 1 mf_key_of) (aCons (m2 gIx (mVar 2) (mVar 3)) aNil))))) (sSeq (sRaise1 .parse okD1 (mVar 3))
  sNext) sNext)
  sNext))
  (sSeq (sRet (mVar 2))
  sNext)))))))
def mf_lines_read : List D → Mem → Res D := runT N_lines_read mb_lines_read
/-! ### lines_of -/
def N_lines_of : List Str := ["book", "found", "kind", "told", "pair"]
def mb_lines_of : SM := (sSeq (sAsg (mAlloc (mLst (aCons mStk aNil))) (gtName 1))
  (sSeq (sExpr (mMeth .lst gExtend (mVar 1) (aCons (mLk (lkPick mStk) (mLc (iIt mStk) (gtName 2) tTrue (mAlloc (mLst (aCons (mC (.str "kind")) (aCons (mVar 2) aNil)))) [2])) aNil)))
  (sSeq (sLk (lkPick mStk) (sFor (iDm .is mStk) (gtTup [(gtName 2), (gtName 3)]) (sSeq (sExpr (mMeth .lst gExtend (mVar 1) (aCons (mLk (lkPick (mLk (lkPick (mVar 3)) (mCall (g1 fSorted) (aCons (mVar 3) aNil)))) (mLc (iIt (mLk (lkPick (mVar 3)) (mCall (g1 fSorted) (aCons (mVar 3) aNil)))) (gtName 4) tTrue mStk [4])) aNil)))
  sNext)))
  (sSeq (sRet (mVar 1))
  sNext))))
def mf_lines_of : List D → Mem → Res D := runT N_lines_of mb_lines_of
/-! ### require_book -/
def N_require_book : List Str := ["book"]
def mb_require_book : SM := (sSeq (sIf (tNotM (tOf (mCall (gIsi clss) (aCons (mVar 0) (aCons (mC (.cls .book)) aNil))))) (sSeq (sRaise0 .book)
  sNext) sNext)
  sNext)
def mf_require_book : List D → Mem → Res D := runT N_require_book mb_require_book
/-! ### write_book -/
def N_write_book : List Str := ["book", "words"]
def mb_write_book : SM := (sSeq (sExpr (mCall (atN 1 mf_require_book) (aCons (mVar 0) aNil)))
  (sSeq (sRet (mTd (mMeth .str gJoin (mC (.str "")) (aCons (mLk (lkPick (mCall (atN 1 mf_lines_of) (aCons (mVar 0) aNil))) (mLc (iIt (mCall (atN 1 mf_lines_of) (aCons (mVar 0) aNil))) (gtName 1) tTrue (m2 gAdd (mMeth .str gJoin (mC (.str " ")) (aCons (mVar 1) aNil)) (mC (.str "\n"))) [1])) aNil))))
  sNext))
def mf_write_book : List D → Mem → Res D := runT N_write_book mb_write_book
/-! ### read_book -/
def N_read_book : List Str := ["text", "rooms", "kinds", "words", "book"]
def mb_read_book : SM := (sSeq (sPar 1 2 (aCons (mTup aNil) (aCons mDct0 aNil)))
  (sSeq (sLk (lkPick (mCall (atN 1 mf_lines_read) (aCons (mVar 0) aNil))) (sFor (iIt (mCall (atN 1 mf_lines_read) (aCons (mVar 0) aNil))) (gtName 3) (sSeq (sIf (tOf (m2 gEq (m2 gIx (mVar 3) (mC (.int 0))) (mC (.str "rooms")))) (sSeq (sAsg (mCall (g1 fTuple) (aCons (mCut (mVar 3) (bOf (mC (.int 1))) bNone) aNil)) (gtName 1))
  sNext) (sSeq (sIf (tOf (m2 gEq (m2 gIx (mVar 3) (mC (.int 0))) (mC (.str "kind")))) (sSeq (sPut mDct0 (mVar 2) (m2 gIx (mVar 3) (mC (.int 1))))
  sNext) (sSeq (sIf (tOf (m2 gNotIn (m2 gIx (mVar 3) (mC (.int 1))) (mVar 2))) (sSeq (sRaise0 .book)
  sNext) (sSeq (sPut (mCall (gInt1) (aCons (m2 gIx (mVar 3) (mC (.int 4))) aNil)) (m2 gIx (mVar 2) (m2 gIx (mVar 3) (mC (.int 1)))) (mTup (aCons (m2 gIx (mVar 3) (mC (.int 2))) (aCons (m2 gIx (mVar 3) (mC (.int 3))) aNil))))
  sNext))
  sNext))
  sNext))
  sNext)))
  (sSeq (sAsg (mCall (gNew .book (atN 3 mf_Book___init__)) (aCons (mVar 1) (aCons (mVar 2) aNil))) (gtName 4))
  (sSeq (sIf (tOf (m2 gNe (mCall (atN 1 mf_write_book) (aCons (mVar 4) aNil)) (mVar 0))) (sSeq (sRaise0 .book)
  sNext) sNext)
  (sSeq (sRet (mVar 4))
  sNext)))))
def mf_read_book : List D → Mem → Res D := runT N_read_book mb_read_book
/-! ### is_plain_days -/
def N_is_plain_days : List Str := ["book", "value", "kind"]
def mb_is_plain_days : SM := (sSeq (sIf (tOrM (tNotM (tOf (mCall (gIsi clss) (aCons (mVar 1) (aCons (mC (.ty .tup)) aNil))))) (tOf (m2 gGt (mCall (g1 fLen) (aCons (mVar 1) aNil)) (mC (.int 400))))) (sSeq (sRet (mC (.bl false)))
  sNext) sNext)
  (sSeq (sRet (mTd (mCall (g1 fAll) (aCons (mLk (lkPick (mVar 1)) (mLc (iIt (mVar 1)) (gtName 2) tTrue (mAndM (mCall (gIsi clss) (aCons (mVar 2) (aCons (mC (.ty .str)) aNil))) (m2 gIn (mVar 2) (m1 (gSlot .book 0) (mVar 0)))) [2])) aNil))))
  sNext))
def mf_is_plain_days : List D → Mem → Res D := runT N_is_plain_days mb_is_plain_days
/-! ### read_days -/
def N_read_days : List Str := ["book", "text", "words", "index", "word"]
def mb_read_days : SM := (sSeq (sExpr (mCall (atN 1 mf_require_book) (aCons (mVar 0) aNil)))
  (sSeq (sIf (tNotM (tOf (mCall (gIsi clss) (aCons (mVar 1) (aCons (mC (.ty .str)) aNil))))) (sSeq (sRaise1 .parse okD1 (mC .non))
  sNext) sNext)
  (sSeq (sAsg (mIf (tOf (m2 gNe (mVar 1) (mC (.str "")))) (mCall (g1 fTuple) (aCons (mMeth .str gSplit (mVar 1) (aCons (mC (.str " ")) aNil)) aNil)) (mTup aNil)) (gtName 2))
  (sSeq (sFor (iEn (aCons (mVar 2) aNil)) (gtTup [(gtName 3), (gtName 4)]) (sSeq (sIf (tNotM (tOf (mCall (atN 1 mf_is_name) (aCons (mVar 4) aNil)))) (sSeq (sRaise1 .parse okD1 (mVar 3))
  sNext) sNext)
  sNext))
  (sSeq (sIf (tNotM (tOf (mCall (atN 2 mf_is_plain_days) (aCons (mVar 0) (aCons (mVar 2) aNil))))) (sSeq (sRaise0 .round)
  sNext) sNext)
  (sSeq (sRet (mVar 2))
  sNext))))))
def mf_read_days : List D → Mem → Res D := runT N_read_days mb_read_days
/-! ### require_days -/
def N_require_days : List Str := ["book", "days"]
def mb_require_days : SM := (sSeq (sIf (tNotM (tOf (mCall (atN 2 mf_is_plain_days) (aCons (mVar 0) (aCons (mVar 1) aNil))))) (sSeq (sRaise0 .round)
  sNext) sNext)
  sNext)
def mf_require_days : List D → Mem → Res D := runT N_require_days mb_require_days
/-! ### write_days -/
def N_write_days : List Str := ["book", "days"]
def mb_write_days : SM := (sSeq (sExpr (mCall (atN 1 mf_require_book) (aCons (mVar 0) aNil)))
  (sSeq (sExpr (mCall (atN 2 mf_require_days) (aCons (mVar 0) (aCons (mVar 1) aNil))))
  (sSeq (sRet (mMeth .str gJoin (mC (.str " ")) (aCons (mVar 1) aNil)))
  sNext)))
def mf_write_days : List D → Mem → Res D := runT N_write_days mb_write_days
/-! ### _law_right -/
def N__law_right : List Str := ["dice", "plain", "book", "kind", "odd", "days", "text", "told"]
def mb__law_right : SM := (sSeq (sAsg (mCall (atN 3 mf__law_rt_drawn) (aCons (mVar 0) (aCons (m2 gAdd (mC (.int 1)) (mCall (atN 2 mf__law_roll) (aCons (mVar 0) (aCons (mC (.int 3)) aNil)))) (aCons (m2 gAdd (mC (.int 1)) (mCall (atN 2 mf__law_roll) (aCons (mVar 0) (aCons (mC (.int 3)) aNil)))) aNil)))) (gtName 1))
  (sSeq (sAsg (mTup (aCons (mCall (atN 1 mf__law_rt_made) (aCons (mVar 1) aNil)) (aCons (m2 gIx (mLk (lkPick (m2 gIx (mVar 1) (mC (.str "kinds")))) (mCall (g1 fSorted) (aCons (m2 gIx (mVar 1) (mC (.str "kinds"))) aNil))) (mC (.int 0))) aNil))) (gtTup [(gtName 2), (gtName 3)]))
  (sSeq (sAsg (mCall (atN 2 mf__law_pick) (aCons (mVar 0) (aCons (mAlloc (mLst (aCons (mC .non) (aCons (mC (.int 0)) (aCons (mC (.str "book")) (aCons (mTup aNil) (aCons mDct0 (aCons (mAlloc (mLst (aCons (mVar 2) aNil))) (aCons (mC (.bl true)) aNil))))))))) aNil))) (gtName 4))
  (sSeq (sAsg (mCall (atN 2 mf__law_pick) (aCons (mVar 0) (aCons (mAlloc (mLst (aCons (mC .non) (aCons (mC (.int 0)) (aCons (mVar 3) (aCons (mAlloc (mLst (aCons (mVar 3) aNil))) (aCons (mTup (aCons (mC (.str "zz")) aNil)) (aCons (mTup (aCons (mVar 3) (aCons (mC .non) aNil))) (aCons (m2 gMul (mTup (aCons (mVar 3) aNil)) (mC (.int 401))) (aCons (mDisp (pCons (mVar 3) (mC (.int 1)) pNil)) (aCons (mTup (aCons (mC (.int 0)) aNil)) aNil))))))))))) aNil))) (gtName 5))
  (sSeq (sAsg (mCall (atN 2 mf__law_pick) (aCons (mVar 0) (aCons (mAlloc (mLst (aCons (mC .non) (aCons (mC (.int 0)) (aCons (mTup aNil) (aCons (mAlloc (mLst (aCons (mVar 3) aNil))) (aCons (mC (.bl true)) (aCons mDct0 (aCons (mTup (aCons (mVar 3) aNil)) aNil))))))))) aNil))) (gtName 6))
  (sSeq (sAsg (mAlloc (mLst (aCons (mLamCall ("_law_right", none) "_law_right.<locals>.<lambda>" 8 [4] mf__law_met (mCall (atN 1 mf_write_book) (aCons (mVar 4) aNil))) aNil))) (gtName 7))
  (sSeq (sExpr (mMeth .lst gAppend (mVar 7) (aCons (mLamCall ("_law_right", none) "_law_right.<locals>.<lambda>" 8 [6] mf__law_met (mCall (atN 1 mf_read_book) (aCons (mVar 6) aNil))) aNil)))
  (sSeq (sExpr (mMeth .lst gAppend (mVar 7) (aCons (mLamCall ("_law_right", none) "_law_right.<locals>.<lambda>" 8 [4, 5] mf__law_met (mCall (atN 2 mf_write_days) (aCons (mVar 4) (aCons (mVar 5) aNil)))) aNil)))
  (sSeq (sExpr (mMeth .lst gAppend (mVar 7) (aCons (mLamCall ("_law_right", none) "_law_right.<locals>.<lambda>" 8 [2, 5] mf__law_met (mCall (atN 2 mf_write_days) (aCons (mVar 2) (aCons (mVar 5) aNil)))) aNil)))
  (sSeq (sExpr (mMeth .lst gAppend (mVar 7) (aCons (mLamCall ("_law_right", none) "_law_right.<locals>.<lambda>" 8 [4, 6] mf__law_met (mCall (atN 2 mf_read_days) (aCons (mVar 4) (aCons (mVar 6) aNil)))) aNil)))
  (sSeq (sExpr (mMeth .lst gAppend (mVar 7) (aCons (mLamCall ("_law_right", none) "_law_right.<locals>.<lambda>" 8 [2, 6] mf__law_met (mCall (atN 2 mf_read_days) (aCons (mVar 2) (aCons (mVar 6) aNil)))) aNil)))
  (sSeq (sExpr (mMeth .lst gAppend (mVar 7) (aCons (mLamCall ("_law_right", none) "_law_right.<locals>.<lambda>" 8 [2] mf__law_met (mCall (atN 2 mf_write_days) (aCons (mVar 2) (aCons (mTup aNil) aNil)))) aNil)))
  (sSeq (sExpr (mMeth .lst gAppend (mVar 7) (aCons (mLamCall ("_law_right", none) "_law_right.<locals>.<lambda>" 8 [2] mf__law_met (mCall (atN 2 mf_read_days) (aCons (mVar 2) (aCons (mC (.str "")) aNil)))) aNil)))
  (sSeq (sRet (m2 gEq (mVar 7) (mAlloc (mLst (aCons (mC (.str "book")) (aCons (mC (.str "parse None")) (aCons (mC (.str "book")) (aCons (mC (.str "round")) (aCons (mC (.str "book")) (aCons (mC (.str "parse None")) (aCons (mC (.str "fine")) (aCons (mC (.str "fine")) aNil))))))))))))
  sNext))))))))))))))
def mf__law_right : List D → Mem → Res D := runT N__law_right mb__law_right
/-! ### law -/
def N_law : List Str := ["script", "spot", "dice", "turn"]
def mb_law : SM := (sSeq (sFor (iR1 (aCons (mCall (gMax2) (aCons (mC (.int 1)) (aCons (mCall (gMin2) (aCons (mC (.int 6)) (aCons (mCall (g1 fLen) (aCons (mVar 0) aNil)) aNil))) aNil))) aNil)) (gtName 1) (sSeq (sAsg (mCall (atN 2 mf__law_dice) (aCons (mVar 0) (aCons (mVar 1) aNil))) (gtName 2))
  (sSeq (sFor (iR1 (aCons (mC (.int 3)) aNil)) (gtName 3) (sSeq (sIf (tNotM (tOf (mCall (atN 1 mf__law_right) (aCons (mVar 2) aNil)))) (sSeq (sRet (mC (.bl false)))
  sNext) sNext)
  sNext))
  sNext)))
  (sSeq (sRet (mC (.bl true)))
  sNext))
def mf_law : List D → Mem → Res D := runT N_law mb_law
end M
end
end
section
set_option Elab.async false
set_option linter.all false
set_option maxRecDepth 100000
set_option maxHeartbeats 2000000
namespace M
open T PySem L2
/-! ### dice -/
theorem roll_ok {m : Mem} {n : Nat} {a b c t : Int} (h : m[n]? = some (diceC a b c)) (ht : 0 < t) (ht2 : t < 2 ^ 60) :
    ∃ v a' b' c', mf__law_roll [.obj n, .int t] m = .ok (.int v) (m.set n (diceC a' b' c')) ∧ 0 ≤ v ∧ v < t := by
  have hn := lt_of_get h
  have hs0 : lstAt m n = some [.int a, .int b, .int c] := by unfold lstAt; rw [h]; rfl
  have ht0 : t ≠ 0 := by omega
  have hd := divOk_pos ht (by omega)
  unfold diceC at h
  by_cases ha : 0 < a
  · refine ⟨a.fmod t, a.fdiv t, b, c, ?_, Int.fmod_nonneg_of_pos a ht, Int.fmod_lt_of_pos a ht⟩
    simp [mf__law_roll, runT, runB, mb__law_roll, startD, N__law_roll, gIx, seqAt, hs0, atI, ixN, ha, ht0, hd, putIx, h, diceC]
  · let one : Int := (b + 49979687 * (c + 1)).fmod 2305843009213693951
    let two : Int := ((one * one + 131 * (c + 1)).fmod 2305843009213693921 * 32452843 + one).fdiv 65587
    refine ⟨two.fmod t, a, b, c + 1, ?_, Int.fmod_nonneg_of_pos _ ht, Int.fmod_lt_of_pos _ ht⟩
    have h1 : lstAt (m.set n (.lst [.int a, .int b, .int (c + 1)])) n = some [.int a, .int b, .int (c + 1)] := by
      unfold lstAt
      rw [get_set h]
    have m1 : ∀ x, gMul (.int 49979687) (.int x) = fun m => .ok (.int (49979687 * x)) m := fun x => funext fun m => ev_mul (mulOk_l (by decide))
    have m2 : ∀ x, gMul (.int 131) (.int x) = fun m => .ok (.int (131 * x)) m := fun x => funext fun m => ev_mul (mulOk_l (by decide))
    have m3 : ∀ x, gMul (.int x) (.int 32452843) = fun m => .ok (.int (x * 32452843)) m := fun x => funext fun m => ev_mul (mulOk_r (by decide))
    have hx : ∀ x : Int, mulOk (x.fmod 2305843009213693951) (x.fmod 2305843009213693951) = true := fun x => mulOk_l ⟨by
      have := Int.fmod_nonneg_of_pos x (show (0 : Int) < 2305843009213693951 by decide)
      omega, by
      have := Int.fmod_lt_of_pos x (show (0 : Int) < 2305843009213693951 by decide)
      omega⟩
    have m4 : ∀ x : Int, gMul (.int (x.fmod 2305843009213693951)) (.int (x.fmod 2305843009213693951)) = fun m => .ok (.int (x.fmod 2305843009213693951 * x.fmod 2305843009213693951)) m := fun x => funext fun m => ev_mul (hx x)
    have d0 : divOk 65587 = true := divOk_pos (by decide) (by decide)
    simp [mf__law_roll, runT, runB, mb__law_roll, startD, N__law_roll, gIx, seqAt, hs0, h1, atI, ixN, ha, ht0, putIx, h, diceC, m1, m2, m3, m4, d0, one, two]
end M
end
section
set_option Elab.async false
set_option linter.all false
set_option maxRecDepth 100000
set_option maxHeartbeats 2000000
namespace M
open T PySem L2
/-! ### names -/
def firstS : List Nat := ("abcdefghijklmnopqrstuvwxyz" : Str).cps.toList
def nextS : List Nat := ("abcdefghijklmnopqrstuvwxyz0123456789." : Str).cps.toList
def nameL : List Nat → Bool
  | [] => false
  | c :: cs => decide (cs.length < 12) && (decide (c ∈ firstS) && ((c :: cs).all fun x => decide (x ∈ nextS)))
def nameB (s : Str) : Bool := nameL s.cps.toList
theorem in_next {m : Mem} {c : Nat} : gIn (.str ⟨#[c]⟩) (.str "abcdefghijklmnopqrstuvwxyz0123456789.") m = .ok (.bl (decide (c ∈ nextS))) m := rfl
theorem notin_first {m : Mem} {c : Nat} : gNotIn (.str ⟨#[c]⟩) (.str "abcdefghijklmnopqrstuvwxyz") m = .ok (.bl (!decide (c ∈ firstS))) m := rfl
theorem is_name_ok {m : Mem} (s : Str) (hs : s.length < sizeLine) : mf_is_name [.str s] m = .ok (.bl (nameB s)) m := by
  have hl : s.length = s.cps.toList.length := by simp [Str.length]
  have e := td_all (e := mLk (lkPick (mVar 0)) (mLc (iIt (mVar 0)) (gtName 1) tTrue (m2 gIn (mVar 1) (mC (.str "abcdefghijklmnopqrstuvwxyz0123456789."))) [1])) (r := [some (.str s), none]) (μ := m) (xs := s.cps.toList) (fun c => decide (c ∈ nextS)) (.lk0 (pick_not rfl (fun _ _ z => nomatch z)) (by
    have z := fresh_map (mi := iIt (mVar 0)) (it := itSrc (.str s)) (g := gtName 1) (me := m2 gIn (mVar 1) (mC (.str "abcdefghijklmnopqrstuvwxyz0123456789."))) (vs := [1]) (r := [some (.str s), none]) (μ := m) (ds := charsD s) (fun d => match d with | .str z => .bl (decide (z.cps.getD 0 0 ∈ nextS)) | _ => .non) (iit_src rfl rfl rfl) (fun _ => rfl) (fun d hd G => by
      obtain ⟨c, hc, rfl⟩ := List.mem_map.mp hd
      exact ⟨_, rfl, [], by simp [wipeD, in_next]⟩) (by unfold charsD; rw [List.length_map, ← hl]; exact hs)
    unfold charsD at z
    rw [List.map_map] at z
    exact z))
  have hx : ∀ c cs, s.cps.toList = c :: cs → gIx (.str s) (.int 0) m = .ok (.str ⟨#[c]⟩) m := fun c cs q => by
    simp only [gIx, seq_str, Nat.le_of_lt hs, if_true]
    have : atI s.cps.toList 0 = some c := by rw [q]; simp [atI, ixN]
    rw [this]
  have hlen := len_str (m := m) (Nat.le_of_lt hs)
  simp only [mf_is_name, runT, runB, mb_is_name, startD, N_is_name]
  unfold nameB
  cases q : s.cps.toList with
  | nil =>
    have h0 : s.length = 0 := by rw [hl, q]; rfl
    simp [hlen, h0, subBT, nameL]
  | cons c cs =>
    have h1 : s.length = cs.length + 1 := by rw [hl, q]; rfl
    have i1 : (1 : Int) ≤ (s.length : Int) := by omega
    rw [q] at e
    by_cases h2 : cs.length < 12
    · have i2 : (s.length : Int) ≤ 12 := by omega
      by_cases h3 : c ∈ firstS
      · simp [e, hlen, i1, i2, subBT, nameL, hx c cs q, notin_first, h2, h3]
      · simp [e, hlen, i1, i2, subBT, nameL, hx c cs q, notin_first, h2, h3]
    · have i2 : ¬ (s.length : Int) ≤ 12 := by omega
      simp [hlen, i1, i2, subBT, nameL, h2]
end M
end
section
set_option Elab.async false
set_option linter.all false
set_option maxRecDepth 100000
set_option maxHeartbeats 2000000
namespace M
open T PySem L2
theorem is_name_not {m : Mem} {x : D} {k : BT} (h : kindD m x = some (.bt k)) (hk : subBT k .str = false) : mf_is_name [x] m = .ok (.bl false) m := by
  simp [mf_is_name, runT, runB, mb_is_name, startD, N_is_name, isi_ty h, hk]
theorem is_integer_int {m : Mem} {i : Int} : mf_is_integer [.int i] m = .ok (.bl true) m := by
  simp [mf_is_integer, runT, runB, mb_is_integer, startD, N_is_integer, subBT]
/-! ### rooms -/
def S (l : List Str) : List D := l.map .str
theorem S_flat (l : List Str) : (S l).all flatD = true := List.all_eq_true.mpr fun x hx => by
  obtain ⟨s, _, rfl⟩ := List.mem_map.mp hx
  rfl
theorem S_any (l : List Str) (s : Str) : ((S l).any fun e => eqF e (.str s)) = decide (s ∈ l) := by
  unfold S
  rw [List.any_map]
  induction l with
  | nil => rfl
  | cons a l ih =>
    have e : eqF (.str a) (.str s) = decide (s = a) := by
      show (a == s) = _
      by_cases h : a = s
      · subst h; simp
      · have h2 : ¬ s = a := fun z => h z.symm
        simp [h, h2]
    rw [List.any_cons, ih]
    show (eqF (.str a) (.str s) || decide (s ∈ l)) = _
    rw [e]
    by_cases h1 : s = a <;> by_cases h2 : s ∈ l <;> simp [h1, h2]
theorem in_S {m : Mem} {s : Str} {l : List Str} : gIn (.str s) (.tup (S l)) m = .ok (.bl (decide (s ∈ l))) m := by
  simp only [gIn, gInB, seq_tup, flatD, S_flat, Bool.and_self, if_true, S_any]
def ascB : List Str → Bool
  | a :: b :: l => decide (a.cps.toList < b.cps.toList) && ascB (b :: l)
  | _ => true
def roomsB (l : List Str) : Bool := decide (1 ≤ l.length ∧ l.length ≤ 6) && (l.all nameB && ascB l)
theorem zip_asc : ∀ l : List Str, ((l.zip (l.drop 1)).all fun q => decide (q.1.cps.toList < q.2.cps.toList)) = ascB l
  | [] => rfl
  | [a] => rfl
  | a :: b :: l => by
    have ih := zip_asc (b :: l)
    simp only [List.drop_succ_cons, List.drop_zero] at ih ⊢
    rw [List.zip_cons_cons, List.all_cons, ih]
    rfl
theorem S_lts {n : Nat} (l : List Str) : D.lts n (S l) = true := lts_map fun _ _ => rfl
theorem is_room_tuple_ok {m : Mem} {l : List Str} (hs : ∀ s ∈ l, s.length < sizeLine) : mf_is_room_tuple [.tup (S l)] m = .ok (.bl (roomsB l)) m := by
  have hlen : fLen (.tup (S l)) m = .ok (.int l.length) m := by
    rw [len_seq seq_tup]
    simp [S]
  by_cases h1 : 1 ≤ l.length
  case neg =>
    have i1 : ¬ (1 : Int) ≤ (l.length : Int) := by omega
    have e : roomsB l = false := by simp [roomsB, h1]
    simp [mf_is_room_tuple, runT, runB, mb_is_room_tuple, startD, N_is_room_tuple, subBT, hlen, i1, e]
  by_cases h2 : l.length ≤ 6
  case neg =>
    have i1 : (1 : Int) ≤ (l.length : Int) := by omega
    have i2 : ¬ (l.length : Int) ≤ 6 := by omega
    have e : roomsB l = false := by simp [roomsB, h2]
    simp [mf_is_room_tuple, runT, runB, mb_is_room_tuple, startD, N_is_room_tuple, subBT, hlen, i1, i2, e]
  have i1 : (1 : Int) ≤ (l.length : Int) := by omega
  have i2 : (l.length : Int) ≤ 6 := by omega
  have sz : l.length < sizeLine := by rw [sizeLine_eq]; omega
  have e1 := td_all (e := mLk (lkPick (mVar 0)) (mLc (iIt (mVar 0)) (gtName 1) tTrue (mCall (atN 1 mf_is_name) (aCons (mVar 1) aNil)) [1])) (r := [some (.tup (S l)), none, none]) (μ := m) (xs := l) nameB (.lk0 (pick_not rfl (fun _ _ z => nomatch z)) (by
    have z := fresh_map (mi := iIt (mVar 0)) (it := itSrc (.tup (S l))) (g := gtName 1) (me := mCall (atN 1 mf_is_name) (aCons (mVar 1) aNil)) (vs := [1]) (r := [some (.tup (S l)), none, none]) (μ := m) (ds := S l) (fun d => match d with | .str z => .bl (nameB z) | _ => .non) (iit_src rfl rfl rfl) (fun _ => rfl) (fun d hd G => by
      obtain ⟨s, hs2, rfl⟩ := List.mem_map.mp hd
      exact ⟨_, rfl, [], by simp [wipeD, is_name_ok s (hs s hs2)]⟩) (by simpa [S] using sz)
    unfold S at z
    rw [List.map_map] at z
    exact z))
  have e2 := td_all (e := mLc (iZ2 (aCons (mVar 0) (aCons (mCut (mVar 0) (bOf (mC (.int 1))) bNone) aNil))) (gtTup [(gtName 1), (gtName 2)]) tTrue (m2 gLt (mVar 1) (mVar 2)) [1, 2]) (r := [some (.tup (S l)), none, none]) (μ := m) (xs := l.zip (l.drop 1)) (fun q => decide (q.1.cps.toList < q.2.cps.toList)) (by
    have hz : zip2D (S l) (S (l.drop 1)) = (l.zip (l.drop 1)).map fun q => .tup [.str q.1, .str q.2] := by
      unfold zip2D S
      rw [List.zipWith_map, List.zip, List.map_zipWith]
    have hc : gCut (.tup (S l)) (some 1) none m = .ok (.tup (S (l.drop 1))) m := by
      rw [cut_drop1]
      unfold S
      rw [List.map_drop]
    have hm : iZ2 (aCons (mVar 0) (aCons (mCut (mVar 0) (bOf (mC (.int 1))) bNone) aNil)) [some (.tup (S l)), none, none] m = .ok (itZ2 (.tup (S l)) (.tup (S (l.drop 1)))) m := by
      simp [iZ2, mCut, bOf, bNone, hc]
    have z := fresh_map (vs := [1, 2]) (g := gtTup [(gtName 1), (gtName 2)]) (me := m2 gLt (mVar 1) (mVar 2)) (ds := zip2D (S l) (S (l.drop 1))) (fun d => match d with | .tup [.str a, .str b] => .bl (decide (a.cps.toList < b.cps.toList)) | _ => .non) hm (fun _ => rfl) (fun d hd G => by
      rw [hz] at hd
      obtain ⟨q, _, rfl⟩ := List.mem_map.mp hd
      exact ⟨_, rfl, [], by simp [wipeD]⟩) (by rw [hz, List.length_map, List.length_zip]; omega)
    rw [hz, List.map_map] at z
    exact z)
  rw [zip_asc] at e2
  by_cases h3 : l.all nameB = true
  · simp [mf_is_room_tuple, runT, runB, mb_is_room_tuple, startD, N_is_room_tuple, subBT, hlen, i1, i2, e1, e2, h3, roomsB, h1, h2]
  · have h3' : l.all nameB = false := by simpa using h3
    rw [h3'] at e1
    simp [mf_is_room_tuple, runT, runB, mb_is_room_tuple, startD, N_is_room_tuple, subBT, hlen, i1, i2, e1, h3', roomsB, h1, h2]
end M
end
section
set_option Elab.async false
set_option linter.all false
set_option maxRecDepth 100000
set_option maxHeartbeats 2000000
namespace M
open T PySem L2
def smallB (i : Int) : Bool := decide (-999 ≤ i ∧ i ≤ 999)
def inB (l : List Str) (p : Str × Str) : Bool := decide (p.1 ∈ l) && decide (p.2 ∈ l)
abbrev Told := List ((Str × Str) × Int)
def tD (t : Told) : List (D × D) := dM kP D.int t
theorem are_rooms_ok {m : Mem} {l : List Str} {p : Str × Str} : mf_are_rooms [.tup (S l), kP p] m = .ok (.bl (inB l p)) m := by
  have e := td_all (e := mLk (lkPick (mVar 1)) (mLc (iIt (mVar 1)) (gtName 2) tTrue (mAndM (mCall (gIsi clss) (aCons (mVar 2) (aCons (mC (.ty .str)) aNil))) (m2 gIn (mVar 2) (mVar 0))) [2])) (r := [some (.tup (S l)), some (kP p), none]) (μ := m) (xs := [p.1, p.2]) (fun s => decide (s ∈ l)) (.lk0 (pick_not rfl (fun _ _ z => nomatch z)) (by
    have z := fresh_map (mi := iIt (mVar 1)) (it := itSrc (kP p)) (g := gtName 2) (me := mAndM (mCall (gIsi clss) (aCons (mVar 2) (aCons (mC (.ty .str)) aNil))) (m2 gIn (mVar 2) (mVar 0))) (vs := [2]) (r := [some (.tup (S l)), some (kP p), none]) (μ := m) (ds := [.str p.1, .str p.2]) (fun d => match d with | .str z => .bl (decide (z ∈ l)) | _ => .non) (iit_src rfl rfl rfl) (fun _ => rfl) (fun d hd G => by
      rcases List.mem_cons.mp hd with rfl | hd
      · exact ⟨_, rfl, [], by simp [wipeD, subBT, in_S]⟩
      · rw [List.mem_singleton.mp hd]
        exact ⟨_, rfl, [], by simp [wipeD, subBT, in_S]⟩) (by simp [sizeLine_eq])
    exact z))
  simp [mf_are_rooms, runT, runB, mb_are_rooms, startD, N_are_rooms, e, inB]
def toldB (l : List Str) (t : Told) : Bool := t.all (fun q => smallB q.2) && t.all fun q => inB l q.1
theorem is_told_ok {m : Mem} {l : List Str} {n : Nat} {t : Told} (h : m[n]? = some (.dct (tD t))) (hl : t.length < sizeLine) : mf_is_told [.tup (S l), .obj n] m = .ok (.bl (toldB l t)) m := by
  have hk := get_set h (.lk (.dct (tD t)))
  have hdk : ∀ G, dkAt (m.set n (.lk (.dct (tD t))) ++ G) (.obj n) = some (tD t) := fun G => dk_lk (get_old hk G)
  have e1 := td_all (e := mLk (lkPick (mVar 1)) (mLc (iDm .vs (mVar 1)) (gtName 3) tTrue (mAndM (mCall (atN 1 mf_is_integer) (aCons (mVar 3) aNil)) (m2 gLe (mCall (gAbs) (aCons (mVar 3) aNil)) (mC (.int 999)))) [3])) (r := [some (.tup (S l)), some (.obj n), none, none]) (μ := m) (xs := t) (fun q => smallB q.2) (.lk (pick_dct rfl h) h (by
    have z := fresh_map (mi := iDm .vs (mVar 1)) (it := itD .vs (.obj n)) (g := gtName 3) (me := mAndM (mCall (atN 1 mf_is_integer) (aCons (mVar 3) aNil)) (m2 gLe (mCall (gAbs) (aCons (mVar 3) aNil)) (mC (.int 999)))) (vs := [3]) (r := [some (.tup (S l)), some (.obj n), none, none]) (μ := m.set n (.lk (.dct (tD t)))) (ds := t.map fun q => .int q.2) (fun d => match d with | .int i => .bl (smallB i) | _ => .non)
      (idm_dk rfl (dk_lk hk)) (fun G => by simp only [itD, hdk]; simp [DV.sel, tD, dM]) (fun d hd G => by
        obtain ⟨q, _, rfl⟩ := List.mem_map.mp hd
        refine ⟨_, rfl, [], ?_⟩
        have : decide ((if q.2 < 0 then -q.2 else q.2) ≤ 999) = smallB q.2 := by
          unfold smallB
          apply decide_eq_decide.mpr
          split <;> omega
        simp [wipeD, is_integer_int, this]) (by simpa using hl)
    rw [List.map_map] at z
    exact z))
  have e2 := td_all (e := mLk (lkPick (mVar 1)) (mLc (iIt (mVar 1)) (gtName 2) tTrue (mAndM (mCall (gIsi clss) (aCons (mVar 2) (aCons (mC (.ty .tup)) aNil))) (mAndM (m2 gEq (mCall (g1 fLen) (aCons (mVar 2) aNil)) (mC (.int 2))) (mCall (atN 2 mf_are_rooms) (aCons (mVar 0) (aCons (mVar 2) aNil))))) [2])) (r := [some (.tup (S l)), some (.obj n), none, none]) (μ := m) (xs := t) (fun q => inB l q.1) (.lk (pick_dct rfl h) h (by
    have z := fresh_map (mi := iIt (mVar 1)) (it := itD .ks (.obj n)) (g := gtName 2) (me := mAndM (mCall (gIsi clss) (aCons (mVar 2) (aCons (mC (.ty .tup)) aNil))) (mAndM (m2 gEq (mCall (g1 fLen) (aCons (mVar 2) aNil)) (mC (.int 2))) (mCall (atN 2 mf_are_rooms) (aCons (mVar 0) (aCons (mVar 2) aNil))))) (vs := [2]) (r := [some (.tup (S l)), some (.obj n), none, none]) (μ := m.set n (.lk (.dct (tD t)))) (ds := t.map fun q => kP q.1) (fun d => match d with | .tup [.str a, .str b] => .bl (inB l (a, b)) | _ => .non)
      (iit_dk rfl (dk_lk hk)) (fun G => by simp only [itD, hdk]; simp [DV.sel, tD, dM]) (fun d hd G => by
        obtain ⟨q, _, rfl⟩ := List.mem_map.mp hd
        refine ⟨_, rfl, [], ?_⟩
        have hq : gEq (.int 2) (.int 2) = fun m => .ok (.bl true) m := rfl
        have hi : ∀ m, gIsi clss [kP q.1, .ty .tup] m = .ok (.bl true) m := fun m => rfl
        have hln : ∀ m, fLen (kP q.1) m = .ok (.int 2) m := fun m => rfl
        simp [wipeD, hi, hln, hq, are_rooms_ok]
        rfl) (by simpa using hl)
    rw [List.map_map] at z
    exact z))
  by_cases hb : t.all (fun q => smallB q.2) = true
  · simp [mf_is_told, runT, runB, mb_is_told, startD, N_is_told, isi_ty (kd_dct h), subBT, e1, e2, toldB, hb]
  · have hb' : t.all (fun q => smallB q.2) = false := by simpa using hb
    rw [hb'] at e1
    simp [mf_is_told, runT, runB, mb_is_told, startD, N_is_told, isi_ty (kd_dct h), subBT, e1, toldB, hb']
end M
end
section
set_option Elab.async false
set_option linter.all false
set_option maxRecDepth 100000
set_option maxHeartbeats 2000000
namespace M
open T PySem L2
/-! ### fault_in -/
/-- the kinds of a book-to-be: names, places, what is told -/
abbrev KJ := List (Str × Nat × Told)
def kD (ks : KJ) : List (D × D) := dM D.str (fun p : Nat × Told => D.obj p.1) ks
structure KAt (m : Mem) (k : Nat) (ks : KJ) : Prop where
  at_ : m[k]? = some (.dct (kD ks))
  nd : (ks.map (·.1)).Nodup
  told : ∀ q ∈ ks, m[q.2.1]? = some (.dct (tD q.2.2))
  len : ∀ q ∈ ks, q.1.length < sizeLine ∧ PyData.strOk q.1 = true ∧ q.2.2.length < sizeLine
theorem KAt.app {m : Mem} {k : Nat} {ks : KJ} (h : KAt m k ks) (G : Mem) : KAt (m ++ G) k ks := ⟨get_old h.at_ G, h.nd, fun q hq => get_old (h.told q hq) G, h.len⟩
def kindB (rooms : List Str) (q : Str × Nat × Told) : Bool := nameB q.1 && toldB rooms q.2.2
def kindsB (rooms : List Str) (ks : KJ) : Bool := decide (1 ≤ ks.length ∧ ks.length ≤ 4) && ks.all (kindB rooms)
theorem lookup_of_mem {α : Type} : ∀ {l : List (Str × α)} {q : Str × α}, (l.map (·.1)).Nodup → q ∈ l → l.lookup q.1 = some q.2
  | [], _, _, h => by cases h
  | (a, v) :: l, (b, w), hn, h => by
    rw [List.map_cons, List.nodup_cons] at hn
    rw [List.lookup_cons]
    rcases List.mem_cons.mp h with e | e
    · cases e
      simp
    · have : ¬ b = a := fun z => hn.1 (List.mem_map.mpr ⟨(b, w), e, z⟩)
      have h2 : (b == a) = false := by simpa using this
      rw [h2]
      exact lookup_of_mem hn.2 e
theorem kD_get {ks : KJ} (hn : (ks.map (·.1)).Nodup) {q : Str × Nat × Told} (hq : q ∈ ks) : dget (kD ks) (.str q.1) = some (.obj q.2.1) := by
  unfold kD
  rw [dget_dM same_str, lookup_of_mem hn hq]
  rfl
theorem kD_ne {m : Mem} {k : Nat} {ks : KJ} (h : KAt m k ks) {q : Str × Nat × Told} (hq : q ∈ ks) : k ≠ q.2.1 := fun z => by
  have h1 := h.told q hq
  rw [← z, h.at_] at h1
  have h2 : kD ks = tD q.2.2 := by
    injection h1 with h1
    injection h1
  cases hk : ks with
  | nil => rw [hk] at hq; cases hq
  | cons a l =>
    rw [hk] at h2
    cases ht : q.2.2 with
    | nil => rw [ht] at h2; simp [kD, dM, tD] at h2
    | cons b t =>
      rw [ht] at h2
      simp [kD, dM, tD, kP] at h2
theorem wrong_fresh {μ : Mem} {rooms : List Str} {k : Nat} {ks : KJ} {x : Option D} (H : KAt μ k ks) (sz : ks.length < sizeLine) :
    FreshL (mLk (lkPick (mVar 1)) (mLc (iIt (mVar 1)) (gtName 3) (tOrM (tNotM (tOf (mCall (atN 1 mf_is_name) (aCons (mVar 3) aNil)))) (tNotM (tOf (mCall (atN 2 mf_is_told) (aCons (mVar 0) (aCons (m2 gIx (mVar 1) (mVar 3)) aNil)))))) (mVar 3) [3])) [some (.tup (S rooms)), some (.obj k), x, none] μ ((ks.filter fun q => !kindB rooms q).map fun q => D.str q.1) := by
  have hks : (kD ks).map (·.1) = ks.map fun q => D.str q.1 := by simp [kD, dM]
  refine .lk (pick_dct rfl H.at_) H.at_ ?_
  have hk := get_set H.at_ (.lk (.dct (kD ks)))
  have z := fresh_lc (vs := [3]) (g := gtName 3) (t := tOrM (tNotM (tOf (mCall (atN 1 mf_is_name) (aCons (mVar 3) aNil)))) (tNotM (tOf (mCall (atN 2 mf_is_told) (aCons (mVar 0) (aCons (m2 gIx (mVar 1) (mVar 3)) aNil)))))) (me := mVar 3) (ds := ks.map fun q => D.str q.1)
    (fun d => match d with | .str s => (match ks.lookup s with | some p => !kindB rooms (s, p) | none => false) | _ => false) id (iit_dk (r := [some (.tup (S rooms)), some (.obj k), x, none]) (me := mVar 1) rfl (dk_lk hk)) (fun G => by simp only [itD, dk_lk (get_old hk G)]; simp [DV.sel, hks]) (fun d hd G => by
      obtain ⟨q, hq, rfl⟩ := List.mem_map.mp hd
      have hix : gIx (.obj k) (.str q.1) (μ.set k (.lk (.dct (kD ks))) ++ G) = .ok (.obj q.2.1) (μ.set k (.lk (.dct (kD ks))) ++ G) := ix_lk (get_old hk G) (fits_str _ _ _) (by intro z; simp [kD, dM] at z; rw [z] at hq; cases hq) (kD_get H.nd hq)
      have hto : (μ.set k (.lk (.dct (kD ks))) ++ G)[q.2.1]? = some (.dct (tD q.2.2)) := get_old (get_set_ne (H.told q hq) (kD_ne H hq) _) G
      have hnm := is_name_ok (m := μ.set k (.lk (.dct (kD ks))) ++ G) q.1 (H.len q hq).1
      have htl := is_told_ok (l := rooms) hto (H.len q hq).2.2
      refine ⟨_, rfl, ?_, fun _ => ⟨[], by simp [wipeD]⟩⟩
      simp only [lookup_of_mem H.nd hq]
      unfold kindB
      by_cases hn : nameB q.1 = true
      · simp [wipeD, hnm, hn, hix, htl]
      · have hn' : nameB q.1 = false := by simpa using hn
        simp [wipeD, hnm, hn']) (by simpa using sz)
  rw [List.map_id, List.filter_map] at z
  have e : ks.filter ((fun d => match d with | .str s => (match ks.lookup s with | some p => !kindB rooms (s, p) | none => false) | _ => false) ∘ fun q => D.str q.1) = ks.filter fun q => !kindB rooms q := by
    refine List.filter_congr fun q hq => ?_
    simp only [Function.comp_def, lookup_of_mem H.nd hq]
  rw [e] at z
  exact z
theorem fault_in_ok {m : Mem} {rooms : List Str} {k : Nat} {ks : KJ} (hr : ∀ s ∈ rooms, s.length < sizeLine) (h : KAt m k ks) (ht : tabIn ("fault_in", none) "fault_in.<locals>.<lambda>" m = true) :
    ∃ x, mf_fault_in [.tup (S rooms), .obj k] m = .ok x m ∧ isN x = (roomsB rooms && kindsB rooms ks) := by
  have hlen : fLen (.obj k) m = .ok (.int ks.length) m := by
    rw [len_dct h.at_]
    simp [kD, dM]
  by_cases hb : roomsB rooms = true
  case neg =>
    have hb' : roomsB rooms = false := by simpa using hb
    refine ⟨.tup [.str "rooms"], ?_, by simp [hb', isN]⟩
    simp [mf_fault_in, runT, runB, mb_fault_in, startD, N_fault_in, is_room_tuple_ok hr, hb', sizeLine_eq]
  by_cases h1 : 1 ≤ ks.length
  case neg =>
    have i1 : ¬ (1 : Int) ≤ (ks.length : Int) := by omega
    refine ⟨.tup [.str "kinds", .non], ?_, by simp [kindsB, h1, isN]⟩
    simp [mf_fault_in, runT, runB, mb_fault_in, startD, N_fault_in, is_room_tuple_ok hr, hb, isi_ty (kd_dct h.at_), subBT, hlen, i1, sizeLine_eq]
  by_cases h2 : ks.length ≤ 4
  case neg =>
    have i1 : (1 : Int) ≤ (ks.length : Int) := by omega
    have i2 : ¬ (ks.length : Int) ≤ 4 := by omega
    refine ⟨.tup [.str "kinds", .non], ?_, by simp [kindsB, h2, isN]⟩
    simp [mf_fault_in, runT, runB, mb_fault_in, startD, N_fault_in, is_room_tuple_ok hr, hb, isi_ty (kd_dct h.at_), subBT, hlen, i1, i2, sizeLine_eq]
  have i1 : (1 : Int) ≤ (ks.length : Int) := by omega
  have i2 : (ks.length : Int) ≤ 4 := by omega
  have sz : ks.length < sizeLine := by rw [sizeLine_eq]; omega
  have hks : (kD ks).map (·.1) = ks.map fun q => D.str q.1 := by simp [kD, dM]
  -- keys that are no texts
  have f1 : FreshL (mLk (lkPick (mVar 1)) (mLc (iIt (mVar 1)) (gtName 3) (tNotM (tOf (mCall (gIsi clss) (aCons (mVar 3) (aCons (mC (.ty .str)) aNil))))) (mVar 3) [3])) [some (.tup (S rooms)), some (.obj k), none, none] m [] := by
    refine .lk (pick_dct rfl h.at_) h.at_ ?_
    have hk := get_set h.at_ (.lk (.dct (kD ks)))
    have z := fresh_lc (vs := [3]) (g := gtName 3) (t := tNotM (tOf (mCall (gIsi clss) (aCons (mVar 3) (aCons (mC (.ty .str)) aNil))))) (me := mVar 3) (ds := ks.map fun q => D.str q.1) (fun _ => false) id (iit_dk (r := [some (.tup (S rooms)), some (.obj k), none, none]) (me := mVar 1) rfl (dk_lk hk)) (fun G => by simp only [itD, dk_lk (get_old hk G)]; simp [DV.sel, hks]) (fun d hd G => by
      obtain ⟨q, _, rfl⟩ := List.mem_map.mp hd
      exact ⟨_, rfl, by simp [wipeD, subBT], fun z => nomatch z⟩) (by simpa using sz)
    have e0 : (ks.map fun q => D.str q.1).filter (fun _ => false) = [] := List.filter_eq_nil_iff.mpr fun _ _ z => nomatch z
    rw [e0] at z
    exact z
  obtain ⟨k1, G1, e1, g1, l1⟩ := sortK0_ok f1 ht
  -- the second look
  have H1 : KAt (m ++ (G1 ++ [Cell.lst []])) k ks := h.app _
  have f2 := wrong_fresh (rooms := rooms) (x := some (.obj k1)) H1 sz
  have hw : ((ks.filter fun q => !kindB rooms q).map fun q => D.str q.1) = ((ks.filter fun q => !kindB rooms q).map (·.1)).map D.str := by rw [List.map_map]; rfl
  rw [hw] at f2
  have e2 := td_sorted f2 sortable_S (by rw [isort_S]; exact lts_map fun _ _ => rfl)
  rw [isort_S] at e2
  have hg1 : (m ++ (G1 ++ [Cell.lst []]))[k1]? = some (.lst []) := by rw [← List.append_assoc]; exact get_old g1 _
  have q1 : gEq (.obj k1) (.obj (m.length + G1.length)) (m ++ (G1 ++ [Cell.lst []])) = .ok (.bl true) (m ++ (G1 ++ [Cell.lst []])) := by
    have z := eq_lstS (l := []) (l' := []) hg1 (k := m.length + G1.length) (by rw [List.getElem?_append_right (by omega)]; simp) (fun _ z => nomatch z) (fun _ z => nomatch z)
    exact z
  generalize hL : isortS ((ks.filter fun q => !kindB rooms q).map (·.1)) = L at e2
  have okL : ∀ s ∈ L, PyData.strOk s = true := fun s hs => by
    rw [← hL] at hs
    obtain ⟨q, hq, rfl⟩ := List.mem_map.mp ((isort_perm _ _).mem_iff.mp hs)
    exact (h.len q (List.mem_filter.mp hq).1).2.1
  have g2 : (m ++ (G1 ++ [Cell.lst [], Cell.lst (L.map D.str), Cell.lst []]))[m.length + (G1.length + 1)]? = some (.lst (L.map D.str)) := by
    rw [List.getElem?_append_right (by omega), List.getElem?_append_right (by omega)]
    simp
  have g3 : (m ++ (G1 ++ [Cell.lst [], Cell.lst (L.map D.str), Cell.lst []]))[m.length + (G1.length + 2)]? = some (.lst (([] : List Str).map D.str)) := by
    rw [List.getElem?_append_right (by omega), List.getElem?_append_right (by omega)]
    simp
  have q2 := ne_lstS g2 g3 okL (fun _ z => nomatch z)
  have hk0 : kindsB rooms ks = (L == []) := by
    have e3 : L.length = (ks.filter fun q => !kindB rooms q).length := by
      rw [← hL]
      unfold isortS
      rw [isort_length, List.length_map]
    have e4 : ks.all (kindB rooms) = decide ((ks.filter fun q => !kindB rooms q) = []) := by
      by_cases h5 : (ks.filter fun q => !kindB rooms q) = []
      · rw [decide_eq_true h5, List.all_eq_true]
        intro q hq
        have := List.filter_eq_nil_iff.mp h5 q hq
        simpa using this
      · rw [decide_eq_false h5]
        rw [List.all_eq_false]
        obtain ⟨q, hq⟩ := List.exists_mem_of_ne_nil _ h5
        obtain ⟨a, b⟩ := List.mem_filter.mp hq
        exact ⟨q, a, by simpa using b⟩
    unfold kindsB
    rw [decide_eq_true ⟨h1, h2⟩, Bool.true_and, e4]
    cases L with
    | nil =>
      have : (ks.filter fun q => !kindB rooms q) = [] := List.length_eq_zero_iff.mp e3.symm
      rw [decide_eq_true this]
      rfl
    | cons a l =>
      have : ¬ (ks.filter fun q => !kindB rooms q) = [] := fun z => by rw [z] at e3; cases e3
      rw [decide_eq_false this]
      rfl
  rw [hb, Bool.true_and, hk0]
  cases L with
  | nil =>
    refine ⟨.non, ?_, rfl⟩
    simp [mf_fault_in, runT, runB, mb_fault_in, startD, N_fault_in, is_room_tuple_ok hr, hb, isi_ty (kd_dct h.at_), subBT, hlen, i1, i2, e1, q1, e2]
    simp only [List.map_nil] at q2
    rw [q2]
    simp
    exact tidy_app rfl
  | cons a l =>
    refine ⟨.tup [.str "kinds", .str a], ?_, rfl⟩
    have hx : ∀ M : Mem, M[m.length + (G1.length + 1)]? = some (.lst ((a :: l).map D.str)) → gIx (.obj (m.length + (G1.length + 1))) (.int 0) M = .ok (.str a) M := fun M hM => by
      simp only [gIx, seq_lst hM, List.map_cons]
      simp [atI, ixN]
    simp [mf_fault_in, runT, runB, mb_fault_in, startD, N_fault_in, is_room_tuple_ok hr, hb, isi_ty (kd_dct h.at_), subBT, hlen, i1, i2, e1, q1, e2]
    simp only [List.map_cons, List.map_nil] at q2
    rw [q2]
    have hx2 := hx _ g2
    simp only [List.map_cons] at hx2
    simp [hx2, sizeLine_eq]
    exact tidy_app (by rfl)
end M
end
section
set_option Elab.async false
set_option linter.all false
set_option maxRecDepth 100000
set_option maxHeartbeats 2000000
namespace M
open T PySem L2
/-! ### what is told, in order and without noughts -/
def isortP : List (Str × Str) → List (Str × Str) := isort fun a b => ltD (kP a) (kP b)
theorem isort_P (l : List (Str × Str)) : isort ltD (l.map kP) = (isortP l).map kP := by
  unfold isortP
  rw [← isort_map (lt := ltD) kP l]
def tget (t : Told) (p : Str × Str) : Int := (t.lookup p).getD 0
def wn (t : Told) : Told := ((isortP (t.map (·.1))).filter fun p => !(tget t p == 0)).map fun p => (p, tget t p)
theorem lookup_memP {κ α : Type} [BEq κ] [LawfulBEq κ] : ∀ {l : List (κ × α)} {k : κ}, k ∈ l.map (·.1) → ∃ v, l.lookup k = some v
  | [], _, h => by simp at h
  | (a, v) :: l, k, h => by
    rw [List.lookup_cons]
    by_cases e : k = a
    · subst e
      exact ⟨v, by simp⟩
    · have : (k == a) = false := by simpa using e
      rw [this]
      rw [List.map_cons] at h
      rcases List.mem_cons.mp h with z | z
      · exact absurd z e
      · exact lookup_memP z
theorem tD_get {t : Told} {p : Str × Str} (h : p ∈ t.map (·.1)) : dget (tD t) (kP p) = some (.int (tget t p)) := by
  obtain ⟨v, hv⟩ := lookup_memP h
  unfold tD tget
  rw [dget_dM same_P, hv]
  rfl
theorem without_noughts_ok {m : Mem} {n : Nat} {t : Told} (h : m[n]? = some (.dct (tD t))) (hn : (t.map (·.1)).Nodup) (hl : t.length < sizeLine) : mf_without_noughts [.obj n] m = .ok (.obj m.length) (m ++ [.dct (tD (wn t))]) := by
  have hks : (tD t).map (·.1) = (t.map (·.1)).map kP := by simp [tD, dM]
  have hs : FreshL (mLk (lkPick (mVar 0)) (mCall (g1 fSorted) (aCons (mVar 0) aNil))) [some (.obj n), none] m ((isortP (t.map (·.1))).map kP) := by
    have z := fresh_sortD (e := mVar 0) (r := [some (.obj n), none]) (fun μ => rfl) h (by rw [hks]; exact sortable_P)
    rw [hks, isort_P] at z
    exact z
  have hmem : ∀ p ∈ isortP (t.map (·.1)), p ∈ t.map (·.1) := fun p hp => (isort_perm _ _).mem_iff.mp hp
  have hlen : (isortP (t.map (·.1))).length = t.length := by
    unfold isortP
    rw [isort_length, List.length_map]
  have hnd : (isortP (t.map (·.1))).Nodup := (isort_perm _ _).nodup_iff.mpr hn
  obtain ⟨k, G, e1, g2, l1, hit⟩ := iit_fresh hs
  have f := fresh_dc (emb := kP) (kd := kP) (f := D.int) (xs := isortP (t.map (·.1))) (mi := iNow (itSrc (.obj k))) (it := itSrc (.obj k)) (g := gtName 1) (t := tOf (m2 gNe (m2 gIx (mVar 0) (mVar 1)) (mC (.int 0)))) (mk := mVar 1) (mv := m2 gIx (mVar 0) (mVar 1)) (vs := [1]) (r := [some (.obj n), none]) (μ := m ++ G)
    (fun p => !(tget t p == 0)) id (tget t) same_P (fits_P D.int) (by rw [List.map_id]; exact hnd) rfl hit (by rw [hlen]; exact hl) (fun p hp G' => by
      have hx : gIx (.obj n) (kP p) (m ++ G ++ G') = .ok (.int (tget t p)) (m ++ G ++ G') := ix_dct (get_old (get_old h G) G') (fits_P _ _ _) (tD_get (hmem p hp))
      rw [List.append_assoc] at hx
      have hne : ∀ M, gNe (.int (tget t p)) (.int 0) M = .ok (.bl (!(tget t p == 0))) M := fun M => rfl
      exact ⟨_, rfl, by simp [wipeD, hx, hne], fun _ => ⟨by simp [wipeD], by simp [wipeD, hx]⟩⟩)
  have f2 := (fresh_dc_iter e1 f).lk0 (pick_fresh hs)
  obtain ⟨M, e3, e4⟩ := td_dct f2 (dM_lt (fun _ => rfl) (fun _ => rfl) _)
  simp only [List.map_id, id] at e4
  simp only [mf_without_noughts, runT, runB, mb_without_noughts, startD, N_without_noughts]
  have e5 : mLk (lkPick (mLk (lkPick (mVar 0)) (mCall (g1 fSorted) (aCons (mVar 0) aNil)))) (mDc (iIt (mLk (lkPick (mVar 0)) (mCall (g1 fSorted) (aCons (mVar 0) aNil)))) (gtName 1) (tOf (m2 gNe (m2 gIx (mVar 0) (mVar 1)) (mC (.int 0)))) (mVar 1) (m2 gIx (mVar 0) (mVar 1)) [1]) [some (.obj n), none] m = M := e3
  obtain ⟨k2, G2, e6, g6, l6⟩ := f2
  have e7 : M = .ok (.obj k2) (m ++ G2) := by rw [← e3]; exact e6
  rw [e7] at e4 e5
  simp [e5]
  exact e4
end M
end
section
set_option Elab.async false
set_option linter.all false
set_option maxRecDepth 100000
set_option maxHeartbeats 2000000
namespace M
open T PySem L2
theorem slot_ins {m : Mem} {b i : Nat} {c : CN} {vs : List (Option D)} {d : D} (h : m[b]? = some (.ins c vs)) (hi : vs[i]? = some (some d)) : gSlot c i (.obj b) m = .ok d m := by
  simp only [gSlot, h, if_true, hi]
def tabD (rooms : List Str) (t : Told) : D := .tup (rooms.map fun a => .tup (rooms.map fun c => .int (tget t (a, c))))
theorem tabD_lt {n : Nat} {rooms : List Str} {t : Told} : D.lt n (tabD rooms t) = true := by
  unfold tabD
  simp only [D.lt]
  exact lts_map fun a _ => by
    simp only [D.lt]
    exact lts_map fun c _ => rfl
theorem table_told_ok {m : Mem} {b n : Nat} {vs : List (Option D)} {rooms : List Str} {t : Told} (hb : m[b]? = some (.ins .book vs)) (hv : vs[1]? = some (some (.tup (S rooms)))) (h : m[n]? = some (.dct (tD t))) (hl : rooms.length < sizeLine) :
    mf_Book_table_told [.obj b, .obj n] m = .ok (tabD rooms t) m := by
  have hin : ∀ G x, x ∈ rooms → mTd (mCall (g1 fTuple) (aCons (mLk (lkPick (mVar 2)) (mLc (iIt (mVar 2)) (gtName 4) tTrue (mMeth .dct gGet (mVar 1) (aCons (mTup (aCons (mVar 3) (aCons (mVar 4) aNil))) (aCons (mC (.int 0)) aNil))) [4])) aNil)) [some (.obj b), some (.obj n), some (.tup (S rooms)), some (.str x), none] (m ++ G) = .ok (.tup (rooms.map fun c => .int (tget t (x, c)))) (m ++ G) := fun G x hx => by
    have f := fresh_map (vs := [4]) (g := gtName 4) (me := mMeth .dct gGet (mVar 1) (aCons (mTup (aCons (mVar 3) (aCons (mVar 4) aNil))) (aCons (mC (.int 0)) aNil))) (ds := S rooms) (fun d => match d with | .str c => .int (tget t (x, c)) | _ => .non) (iit_src (μ1 := m ++ G) (μ := m ++ G) (me := mVar 2) (r := [some (.obj b), some (.obj n), some (.tup (S rooms)), some (.str x), none]) rfl rfl rfl) (fun _ => rfl) (fun d hd G' => by
      obtain ⟨c, hc, rfl⟩ := List.mem_map.mp hd
      have h1 : (m ++ (G ++ G'))[n]? = some (.dct (tD t)) := get_old h _
      have h2 : gGet (.obj n) [.tup [.str x, .str c], .int 0] (m ++ (G ++ G')) = .ok (.int (tget t (x, c))) (m ++ (G ++ G')) := by
        have z := get_dct (z := .int 0) h1 (fits_P D.int t (x, c))
        unfold tD at z
        rw [dget_dM same_P] at z
        unfold kP at z
        rw [z]
        unfold tget
        cases t.lookup (x, c) <;> rfl
      refine ⟨_, rfl, [], ?_⟩
      simp [mMeth, wipeD, isBT_dct h1, h2, sizeLine_eq]) (by simpa [S] using hl)
    have p0 : lkPick (mVar 2) [some (.obj b), some (.obj n), some (.tup (S rooms)), some (.str x), none] (m ++ G) = none := pick_not rfl (fun _ _ z => nomatch z)
    have e0 := td_tup (f.lk0 p0) (by
      unfold S
      rw [List.map_map]
      exact lts_map fun _ _ => rfl)
    rw [e0]
    unfold S
    rw [List.map_map]
    rfl
  have f := fresh_map (vs := [3]) (g := gtName 3) (me := mTd (mCall (g1 fTuple) (aCons (mLk (lkPick (mVar 2)) (mLc (iIt (mVar 2)) (gtName 4) tTrue (mMeth .dct gGet (mVar 1) (aCons (mTup (aCons (mVar 3) (aCons (mVar 4) aNil))) (aCons (mC (.int 0)) aNil))) [4])) aNil))) (ds := S rooms) (fun d => match d with | .str a => .tup (rooms.map fun c => .int (tget t (a, c))) | _ => .non) (iit_src (μ1 := m) (μ := m) (me := mVar 2) (r := [some (.obj b), some (.obj n), some (.tup (S rooms)), none, none]) rfl rfl rfl) (fun _ => rfl) (fun d hd G => by
    obtain ⟨a, ha, rfl⟩ := List.mem_map.mp hd
    refine ⟨_, rfl, [], ?_⟩
    simp only [List.append_nil]
    exact hin G a ha) (by simpa [S] using hl)
  have p0 : lkPick (mVar 2) [some (.obj b), some (.obj n), some (.tup (S rooms)), none, none] m = none := pick_not rfl (fun _ _ z => nomatch z)
  have e0 := td_tup (f.lk0 p0) (by
    unfold S
    rw [List.map_map]
    exact lts_map fun _ _ => by
      simp only [Function.comp_def, D.lt]
      exact lts_map fun _ _ => rfl)
  have e1 : (S rooms).map (fun d => match d with | .str a => D.tup (rooms.map fun c => .int (tget t (a, c))) | _ => .non) = rooms.map fun a => .tup (rooms.map fun c => .int (tget t (a, c))) := by
    unfold S
    rw [List.map_map]
    rfl
  rw [e1] at e0
  simp [mf_Book_table_told, runT, runB, mb_Book_table_told, startD, N_Book_table_told, slot_ins hb hv, e0, tabD]
end M
end
section
set_option Elab.async false
set_option linter.all false
set_option maxRecDepth 100000
set_option maxHeartbeats 2000000
namespace M
open T PySem L2
/-! ### a book is made -/
def ToldNd (ks : KJ) : Prop := ∀ q ∈ ks, (q.2.2.map (·.1)).Nodup
def told0 (ks : KJ) (s : Str) : Told := match ks.lookup s with
  | some p => p.2
  | none => []
/-- the kinds as a book keeps them -/
def wk (ks : KJ) : List (Str × Told) := (isortS (ks.map (·.1))).map fun s => (s, wn (told0 ks s))
theorem isortS_nd {l : List Str} (h : l.Nodup) : (isortS l).Nodup := (isort_perm _ _).nodup_iff.mpr h
theorem mem_isortS {l : List Str} {s : Str} : s ∈ isortS l ↔ s ∈ l := (isort_perm _ _).mem_iff
theorem wn_len (t : Told) : (wn t).length ≤ t.length := by
  unfold wn
  rw [List.length_map]
  refine Nat.le_trans (List.length_filter_le _ _) ?_
  unfold isortP
  rw [isort_length, List.length_map]
  exact Nat.le_refl _
theorem own_kinds_ok {μ : Mem} {k : Nat} {ks : KJ} {x y : Option D} (H : KAt μ k ks) (hn : ToldNd ks) (hl : ks.length < sizeLine) :
    ∃ k' G ks', mLk (lkPick (mLk (lkPick (mVar 2)) (mCall (g1 fSorted) (aCons (mVar 2) aNil)))) (mDc (iIt (mLk (lkPick (mVar 2)) (mCall (g1 fSorted) (aCons (mVar 2) aNil)))) (gtName 3) tTrue (mVar 3) (mCall (atN 1 mf_without_noughts) (aCons (m2 gIx (mVar 2) (mVar 3)) aNil)) [3]) [x, y, some (.obj k), none] μ = .ok (.obj k') (μ ++ G) ∧
      KAt (μ ++ G) k' ks' ∧ ks'.map (fun q => (q.1, q.2.2)) = wk ks ∧ μ.length ≤ k' := by
  have hks : (kD ks).map (·.1) = (ks.map (·.1)).map D.str := by simp [kD, dM]
  have hs : FreshL (mLk (lkPick (mVar 2)) (mCall (g1 fSorted) (aCons (mVar 2) aNil))) [x, y, some (.obj k), none] μ ((isortS (ks.map (·.1))).map D.str) := by
    have z := fresh_sortD (e := mVar 2) (r := [x, y, some (.obj k), none]) (fun μ => rfl) H.at_ (by rw [hks]; exact sortable_S)
    rw [hks, isort_S] at z
    exact z
  have hnd := isortS_nd H.nd
  have hlen : (isortS (ks.map (·.1))).length = ks.length := by
    unfold isortS
    rw [isort_length, List.length_map]
  obtain ⟨c, G0, e1, g2, l1, hit⟩ := iit_fresh hs
  generalize hL : isortS (ks.map (·.1)) = L at *
  have hget : ∀ s ∈ L, ∃ j t, ks.lookup s = some (j, t) ∧ (s, j, t) ∈ ks := fun s hs => by
    rw [← hL, mem_isortS] at hs
    obtain ⟨q, hq, rfl⟩ := List.mem_map.mp hs
    exact ⟨q.2.1, q.2.2, lookup_of_mem H.nd hq, hq⟩
  obtain ⟨acc, m', e, ⟨G, ks', hm, ha, hk, hc⟩, hk'⟩ := dc_inv (m1 := μ ++ G0) (mi := iNow (itSrc (.obj c))) (it := itSrc (.obj c)) (g := gtName 3) (t := tTrue) (mk := mVar 3) (mv := mCall (atN 1 mf_without_noughts) (aCons (m2 gIx (mVar 2) (mVar 3)) aNil)) (vs := [3]) (r := [x, y, some (.obj k), none]) (m := μ ++ G0) (ds := L.map D.str)
    (fun i acc m => ∃ G ks', m = μ ++ G0 ++ .dct acc :: G ∧ acc = kD ks' ∧ ks'.map (fun q => (q.1, q.2.2)) = (L.take i).map (fun s => (s, wn (told0 ks s))) ∧ ∀ q ∈ ks', m[q.2.1]? = some (.dct (tD q.2.2)) ∧ (μ ++ G0).length < q.2.1) rfl (by have z := hit []; rwa [List.append_nil] at z)
    ⟨[], [], rfl, rfl, rfl, fun _ z => nomatch z⟩ (fun i acc m ⟨G, ks', e, _⟩ => by rw [e]; exact hit _)
    (fun i d acc m hi ⟨G, ks', hm, ha, hk, hc⟩ hk' => by
      rw [List.getElem?_map] at hi
      obtain ⟨s, hs', rfl⟩ := Option.map_eq_some_iff.mp hi
      have hsm := List.mem_of_getElem? hs'
      obtain ⟨j, t, hlk, hq⟩ := hget s hsm
      refine ⟨_, rfl, .inr ?_⟩
      have hx : gIx (.obj k) (.str s) m = .ok (.obj j) m := by
        rw [hm, List.append_assoc]
        exact ix_dct (get_old H.at_ _) (fits_str _ _ _) (kD_get H.nd hq)
      have ht : m[j]? = some (.dct (tD t)) := by
        rw [hm, List.append_assoc]
        exact get_old (H.told _ hq) _
      have hw := without_noughts_ok ht (hn _ hq) (H.len _ hq).2.2
      have hmap : ks'.map (·.1) = L.take i := by
        have z := congrArg (List.map (·.1)) hk
        rw [List.map_map, List.map_map] at z
        simpa [Function.comp_def] using z
      have hlk' : ks'.length = (L.take i).length := by rw [← hmap, List.length_map]
      have hla : acc.length < sizeLine := by
        have q2 : (L.take i).length ≤ L.length := by
          rw [List.length_take]
          exact Nat.min_le_right _ _
        rw [ha]
        unfold kD dM
        rw [List.length_map]
        omega
      have hnew : s ∉ ks'.map (·.1) := by
        rw [hmap]
        intro z
        have nd2 : (L.take (i + 1)).Nodup := hnd.sublist (List.take_sublist _ _)
        rw [List.take_add_one, hs'] at nd2
        rw [List.nodup_append] at nd2
        exact nd2.2.2 s z s (by simp) rfl
      refine ⟨m, .str s, m, .obj m.length, m ++ [.dct (tD (wn t))], rfl, by simp [wipeD], by simp [wipeD, hx, hw], get_old hk' _, by rw [ha]; exact fits_str _ _ _, hla, ?_⟩
      have hd : dput acc (.str s) (.obj m.length) = kD (ks' ++ [(s, m.length, wn t)]) := by
        rw [ha]
        unfold kD
        have z := dput_dM (kd := D.str) (f := fun p : Nat × Told => D.obj p.1) same_str s (m.length, wn t) ks'
        rw [aput_new hnew] at z
        exact z
      refine ⟨G ++ [.dct (tD (wn t))], ks' ++ [(s, m.length, wn t)], ?_, hd, ?_, ?_⟩
      · rw [hd, hm]
        simp
      · rw [List.map_append, hk, List.take_add_one, hs', List.map_append]
        simp [told0, hlk]
      · intro q hq'
        have hne : (μ ++ G0).length < m.length := by
          rw [hm]
          simp
        rcases List.mem_append.mp hq' with z | z
        · obtain ⟨a, b⟩ := hc q z
          exact ⟨get_set_ne (get_old a _) (by omega) _, b⟩
        · rw [List.mem_singleton.mp z]
          exact ⟨get_set_ne (c := .dct (tD (wn t))) (by simp) (by show (μ ++ G0).length ≠ m.length; omega) _, hne⟩)
  refine ⟨(μ ++ G0).length, G0 ++ .dct acc :: G, ks', ?_, ?_, ?_, by simp⟩
  · rw [mlk_none (pick_fresh hs)]
    have e2 : mDc (iIt (mLk (lkPick (mVar 2)) (mCall (g1 fSorted) (aCons (mVar 2) aNil)))) (gtName 3) tTrue (mVar 3) (mCall (atN 1 mf_without_noughts) (aCons (m2 gIx (mVar 2) (mVar 3)) aNil)) [3] [x, y, some (.obj k), none] μ = mDc (iNow (itSrc (.obj c))) (gtName 3) tTrue (mVar 3) (mCall (atN 1 mf_without_noughts) (aCons (m2 gIx (mVar 2) (mVar 3)) aNil)) [3] [x, y, some (.obj k), none] (μ ++ G0) := by
      simp only [mDc, e1, iNow]
    rw [e2, e, hm, List.append_assoc]
  · rw [hm] at hk' hc
    rw [List.take_of_length_le (by simp)] at hk
    have hmap : ks'.map (·.1) = L := by
      have z := congrArg (List.map (·.1)) hk
      rw [List.map_map, List.map_map] at z
      simpa [Function.comp_def] using z
    rw [← List.append_assoc]
    refine ⟨by rw [hk', ha], by rw [hmap]; exact hnd, fun q hq => (hc q hq).1, fun q hq => ?_⟩
    have h1 : q.1 ∈ L := by rw [← hmap]; exact List.mem_map.mpr ⟨q, hq, rfl⟩
    obtain ⟨j, t, hlk, hq2⟩ := hget _ h1
    have h2 : (q.1, q.2.2) ∈ ks'.map (fun q => (q.1, q.2.2)) := List.mem_map.mpr ⟨q, hq, rfl⟩
    rw [hk] at h2
    obtain ⟨s, hs3, e3⟩ := List.mem_map.mp h2
    have e4 : s = q.1 := congrArg Prod.fst e3
    have e5 : wn (told0 ks s) = q.2.2 := congrArg Prod.snd e3
    have e6 : wn t = q.2.2 := by
      rw [← e5, e4]
      unfold told0
      rw [hlk]
    obtain ⟨b1, b2, b3⟩ := H.len _ hq2
    exact ⟨b1, b2, by rw [← e6]; exact Nat.lt_of_le_of_lt (wn_len t) b3⟩
  · rw [List.take_of_length_le (by simp)] at hk
    unfold wk
    rw [hL]
    exact hk
end M
end
section
set_option Elab.async false
set_option linter.all false
set_option maxRecDepth 100000
set_option maxHeartbeats 2000000
namespace M
open T PySem L2
theorem sslot_ok {c : CN} {i n : Nat} {mv mo : EM} {r : Slots} {μ μ1 : Mem} {d : D} {vs : List (Option D)} (hv : mv r μ = .ok d μ1) (ho : mo r μ1 = .ok (.obj n) μ1) (h : μ1[n]? = some (.ins c vs)) : sSlot c i mv mo r μ = .ok .next r (μ1.set n (.ins c (putD i d vs))) := by
  simp only [sSlot, hv, ho, h, if_true]
theorem KAt.set {m : Mem} {k n : Nat} {ks : KJ} {c : CN} {vs : List (Option D)} (h : KAt m k ks) (hn : m[n]? = some (.ins c vs)) (x : Cell) : KAt (m.set n x) k ks :=
  ⟨get_set_ne h.at_ (ne_of_cell hn h.at_ fun z => nomatch z) x, h.nd, fun q hq => get_set_ne (h.told q hq) (ne_of_cell hn (h.told q hq) fun z => nomatch z) x, h.len⟩
def bookC (rooms : List Str) (k t : Nat) : Cell := .ins .book [some (.obj k), some (.tup (S rooms)), some (.int rooms.length), some (.obj t)]
def tabsC (rooms : List Str) (kt : List (Str × Told)) : Cell := .dct (dM D.str (tabD rooms) kt)
structure BookAt (M : Mem) (n : Nat) (rooms : List Str) (kt : List (Str × Told)) : Prop where
  ex : ∃ k t ks, M[n]? = some (bookC rooms k t) ∧ KAt M k ks ∧ ks.map (fun q => (q.1, q.2.2)) = kt ∧ M[t]? = some (tabsC rooms kt)
theorem init_ok {m : Mem} {n k : Nat} {rooms : List Str} {ks : KJ} (hi : m[n]? = some (.ins .book [])) (H : KAt m k ks) (hn : ToldNd ks) (hr : ∀ s ∈ rooms, s.length < sizeLine) (ht : tabIn ("fault_in", none) "fault_in.<locals>.<lambda>" m = true)
    (hb : roomsB rooms = true) (hk : kindsB rooms ks = true) : ∃ k' t G, mf_Book___init__ [.obj n, .tup (S rooms), .obj k] m = .ok .non (m.set n (bookC rooms k' t) ++ G) ∧ BookAt (m.set n (bookC rooms k' t) ++ G) n rooms (wk ks) := by
  obtain ⟨x, hf, hx⟩ := fault_in_ok hr H ht
  rw [hb, hk] at hx
  have hx : isN x = true := hx
  have hlr : rooms.length ≤ 6 := by
    unfold roomsB at hb
    rw [Bool.and_eq_true] at hb
    exact (of_decide_eq_true hb.1).2
  have hlk : ks.length ≤ 4 := by
    unfold kindsB at hk
    rw [Bool.and_eq_true] at hk
    exact (of_decide_eq_true hk.1).2
  have szr : rooms.length < sizeLine := by rw [sizeLine_eq]; omega
  have szk : ks.length < sizeLine := by rw [sizeLine_eq]; omega
  let r : Slots := [some (.obj n), some (.tup (S rooms)), some (.obj k), none]
  -- rooms, size
  have s1 := sslot_ok (c := .book) (i := 1) (mv := mVar 1) (mo := mVar 0) (r := r) (μ := m) (μ1 := m) rfl rfl hi
  have p1 : putD 1 (.tup (S rooms)) [] = [none, some (.tup (S rooms))] := rfl
  rw [p1] at s1
  have y1 := get_set hi (.ins .book [none, some (.tup (S rooms))])
  have hln : mCall (g1 fLen) (aCons (mVar 1) aNil) r (m.set n (.ins .book [none, some (.tup (S rooms))])) = .ok (.int rooms.length) (m.set n (.ins .book [none, some (.tup (S rooms))])) := by
    simp [r]
    rw [len_seq seq_tup]
    simp [S]
  have s2 := sslot_ok (c := .book) (i := 2) (mv := mCall (g1 fLen) (aCons (mVar 1) aNil)) (mo := mVar 0) (r := r) (μ := m.set n (.ins .book [none, some (.tup (S rooms))])) (d := .int rooms.length) hln rfl y1
  have p2 : putD 2 (.int rooms.length) [none, some (.tup (S rooms))] = [none, some (.tup (S rooms)), some (.int rooms.length)] := rfl
  rw [p2, set_set] at s2
  have y2 := get_set hi (.ins .book [none, some (.tup (S rooms)), some (.int rooms.length)])
  -- own_kinds
  have H2 : KAt (m.set n (.ins .book [none, some (.tup (S rooms)), some (.int rooms.length)])) k ks := H.set hi _
  obtain ⟨k', G, ks', e3, K3, w3, l3⟩ := own_kinds_ok (x := some (.obj n)) (y := some (.tup (S rooms))) H2 hn szk
  have s3 := sslot_ok (c := .book) (i := 0) (mo := mVar 0) e3 rfl (get_old y2 G)
  have p3 : putD 0 (.obj k') [none, some (.tup (S rooms)), some (.int rooms.length)] = [some (.obj k'), some (.tup (S rooms)), some (.int rooms.length)] := rfl
  rw [p3, set_old y2, set_set] at s3
  have y3 := get_set hi (.ins .book [some (.obj k'), some (.tup (S rooms)), some (.int rooms.length)])
  have K4 : KAt (m.set n (.ins .book [some (.obj k'), some (.tup (S rooms)), some (.int rooms.length)]) ++ G) k' ks' := by
    have z := K3.set (get_old y2 G) (.ins .book [some (.obj k'), some (.tup (S rooms)), some (.int rooms.length)])
    rwa [set_old y2, set_set] at z
  -- own_tables
  have hsl : ∀ M : Mem, M[n]? = some (.ins .book [some (.obj k'), some (.tup (S rooms)), some (.int rooms.length)]) → m1 (gSlot .book 0) (mVar 0) r M = .ok (.obj k') M := fun M hM => by simp [r, slot_ins hM (i := 0) rfl]
  have hks : (kD ks').map (·.1) = ks'.map fun q => D.str q.1 := by simp [kD, dM]
  have hlw : ks'.length = ks.length := by
    have z := congrArg List.length w3
    unfold wk at z
    rw [List.length_map, List.length_map] at z
    rw [z]
    unfold isortS
    rw [isort_length, List.length_map]
  have f4 : FreshD (mLk (lkPick (m1 (gSlot .book 0) (mVar 0))) (mDc (iIt (m1 (gSlot .book 0) (mVar 0))) (gtName 3) tTrue (mVar 3) (mOwn .book (atN 2 mf_Book_table_told) (mVar 0) (aCons (m2 gIx (m1 (gSlot .book 0) (mVar 0)) (mVar 3)) aNil)) [3])) r (m.set n (.ins .book [some (.obj k'), some (.tup (S rooms)), some (.int rooms.length)]) ++ G) (dM D.str (tabD rooms) (ks'.map fun q => (q.1, q.2.2))) := by
    generalize hμ : m.set n (.ins .book [some (.obj k'), some (.tup (S rooms)), some (.int rooms.length)]) ++ G = μ at *
    have gn : μ[n]? = some (.ins .book [some (.obj k'), some (.tup (S rooms)), some (.int rooms.length)]) := by rw [← hμ]; exact get_old y3 G
    refine .lk (pick_dct (hsl _ gn) K4.at_) K4.at_ ?_
    have hl := get_set K4.at_ (.lk (.dct (kD ks')))
    have gn2 := get_set_ne gn (ne_of_cell K4.at_ gn fun z => nomatch z) (.lk (.dct (kD ks')))
    have z := fresh_dc (emb := fun q : Str × Nat × Told => D.str q.1) (kd := D.str) (f := tabD rooms) (xs := ks') (g := gtName 3) (t := tTrue) (mk := mVar 3) (mv := mOwn .book (atN 2 mf_Book_table_told) (mVar 0) (aCons (m2 gIx (m1 (gSlot .book 0) (mVar 0)) (mVar 3)) aNil)) (vs := [3]) (r := r) (fun _ => true) (fun q => q.1) (fun q => q.2.2) same_str (fits_str _) K4.nd (iit_dk (hsl _ gn2) (dk_lk hl)) (fun G' => by simp only [itD, dk_lk (get_old hl G')]; simp [DV.sel, hks]) (by omega) (fun q hq G' => by
      have gn3 := get_old gn2 G'
      have hx3 : gIx (.obj k') (.str q.1) (μ.set k' (.lk (.dct (kD ks'))) ++ G') = .ok (.obj q.2.1) (μ.set k' (.lk (.dct (kD ks'))) ++ G') := ix_lk (get_old hl G') (fits_str _ _ _) (by intro z; simp [kD, dM] at z; rw [z] at hq; cases hq) (kD_get K4.nd hq)
      have ht3 := table_told_ok (n := q.2.1) (t := q.2.2) gn3 rfl (get_old (get_set_ne (K4.told q hq) (kD_ne K4 hq) _) G') szr
      have hio : insOf .book (μ.set k' (.lk (.dct (kD ks'))) ++ G') (.obj n) = true := by simp [insOf, gn3]
      have hs3 := slot_ins gn3 (i := 0) (d := .obj k') rfl
      refine ⟨_, rfl, rfl, fun _ => ⟨by simp [wipeD, r], ?_⟩⟩
      simp [mOwn, wipeD, r, hio, hs3, hx3, ht3])
    rw [List.filter_eq_self.mpr (fun _ _ => rfl)] at z
    exact z
  obtain ⟨t, G2, e4, gt, l4⟩ := f4
  have s4 := sslot_ok (c := .book) (i := 3) (mo := mVar 0) e4 rfl (get_old (get_old y3 G) G2)
  have p4 : putD 3 (.obj t) [some (.obj k'), some (.tup (S rooms)), some (.int rooms.length)] = [some (.obj k'), some (.tup (S rooms)), some (.int rooms.length), some (.obj t)] := rfl
  rw [p4, set_old (get_old y3 G), set_old y3, set_set, List.append_assoc] at s4
  refine ⟨k', t, G ++ G2, ?_, ?_⟩
  · have hnn : gNotN x .non m = .ok (.bl false) m := by simp [hx]
    simp only [mf_Book___init__, runB, mb_Book___init__, startD, N_Book___init__]
    show SRes.toRes (sSeq _ _ r m) = _
    simp [r] at s1 s2 s3 s4 ⊢
    simp [hf, hx, s1, s2, s3, s4, bookC]
  · have g5 := get_set hi (bookC rooms k' t)
    have K5 : KAt (m.set n (bookC rooms k' t) ++ (G ++ G2)) k' ks' := by
      have z := (K4.app G2).set (get_old (get_old y3 G) G2) (bookC rooms k' t)
      rwa [set_old (get_old y3 G), set_old y3, set_set, List.append_assoc] at z
    refine ⟨k', t, ks', get_old g5 _, K5, w3, ?_⟩
    rw [← w3]
    have z := get_set_ne gt (ne_of_cell (get_old (get_old y3 G) G2) gt fun z => nomatch z) (bookC rooms k' t)
    rw [set_old (get_old y3 G), set_old y3, set_set, List.append_assoc] at z
    exact z
end M
end
section
set_option Elab.async false
set_option linter.all false
set_option maxRecDepth 100000
set_option maxHeartbeats 2000000
namespace M
open T PySem L2
/-! ### plain books -/
def plainC (rooms : List Str) (k : Nat) : Cell := .dct [(.str "rooms", .tup (S rooms)), (.str "kinds", .obj k)]
structure PlainAt (m : Mem) (p : Nat) (rooms : List Str) (ks : KJ) : Prop where
  ex : ∃ k, m[p]? = some (plainC rooms k) ∧ KAt m k ks
  nd : ToldNd ks
theorem PlainAt.app {m : Mem} {p : Nat} {rooms : List Str} {ks : KJ} (h : PlainAt m p rooms ks) (G : Mem) : PlainAt (m ++ G) p rooms ks :=
  let ⟨k, a, b⟩ := h.ex
  ⟨⟨k, get_old a G, b.app G⟩, h.nd⟩
theorem plain_rooms {m : Mem} {p k : Nat} {rooms : List Str} (h : m[p]? = some (plainC rooms k)) : gIx (.obj p) (.str "rooms") m = .ok (.tup (S rooms)) m := ix_dct h rfl rfl
theorem plain_kinds {m : Mem} {p k : Nat} {rooms : List Str} (h : m[p]? = some (plainC rooms k)) : gIx (.obj p) (.str "kinds") m = .ok (.obj k) m := ix_dct h rfl rfl
theorem made_ok {m : Mem} {p : Nat} {rooms : List Str} {ks : KJ} (H : PlainAt m p rooms ks) (hr : ∀ s ∈ rooms, s.length < sizeLine) (ht : tabIn ("fault_in", none) "fault_in.<locals>.<lambda>" m = true)
    (hb : roomsB rooms = true) (hk : kindsB rooms ks = true) : ∃ G, mf__law_rt_made [.obj p] m = .ok (.obj m.length) (m ++ G) ∧ BookAt (m ++ G) m.length rooms (wk ks) := by
  obtain ⟨⟨k, hp, K⟩, nd⟩ := H
  obtain ⟨k', t, G, e, B⟩ := init_ok (m := m ++ [.ins .book []]) (n := m.length) (by simp) (K.app _) nd hr (tabIn_app ht) hb hk
  have e1 : (m ++ [Cell.ins .book []]).set m.length (bookC rooms k' t) ++ G = m ++ bookC rooms k' t :: G := by simp
  rw [e1] at e B
  refine ⟨bookC rooms k' t :: G, ?_, B⟩
  have e2 : gNew .book (atN 3 mf_Book___init__) [.tup (S rooms), .obj k] m = .ok (.obj m.length) (m ++ bookC rooms k' t :: G) := by
    simp only [gNew, atN, List.length_cons, List.length_nil, if_true, e]
  simp [mf__law_rt_made, runT, runB, mb__law_rt_made, startD, N__law_rt_made, plain_rooms hp, plain_kinds hp, e2]
  exact tidy_ins (c := .book) (Nat.le_refl _) (vs := [some (.obj k'), some (.tup (S rooms)), some (.int rooms.length), some (.obj t)]) (by simp [bookC])
/-! ### dice -/
def P53 : Int := 10 ^ 53
def P318 : Int := P53 ^ 6
def P16 : Int := 10 ^ 16
theorem pow1 {m : Mem} : gPow (.int 10) (.int 53) m = .ok (.int P53) m := by
  have h : powOk 10 53 := by decide +kernel
  simp only [gPow, if_pos h]
  rfl
theorem pow2 {m : Mem} : gPow (.int P53) (.int 6) m = .ok (.int P318) m := by
  have h : powOk P53 6 := by decide +kernel
  simp only [gPow, if_pos h]
  rfl
theorem pow3 {m : Mem} : gPow (.int 10) (.int 16) m = .ok (.int P16) m := by
  have h : powOk 10 16 := by decide +kernel
  simp only [gPow, if_pos h]
  rfl
theorem dice_ok {m : Mem} {x : D} {ns : List Int} {i : Nat} (hx : seqAt m x = some (ns.map D.int)) (hi : i < 1000000) : ∃ a b, mf__law_dice [x, .int i] m = .ok (.obj m.length) (m ++ [diceC a b 0]) := by
  have hlen : fLen x m = .ok (.int ns.length) m := by
    rw [len_seq hx]
    simp
  have cell : ∃ c, mIf (tOf (m2 gLt (mVar 1) (mCall (g1 fLen) (aCons (mVar 0) aNil)))) (mCall (gInt1) (aCons (m2 gIx (mVar 0) (mVar 1)) aNil)) (m2 gAdd (m2 gMul (mC (.int 131)) (mVar 1)) (mC (.int 37))) [some x, some (.int i), none, none, none] m = .ok (.int c) m := by
    by_cases h : i < ns.length
    · have h' : (i : Int) < (ns.length : Int) := by omega
      have hix : gIx x (.int i) m = .ok (.int ns[i]) m := by
        have e : atI (ns.map D.int) (i : Int) = some (.int ns[i]) := by
          unfold atI ixN
          rw [if_pos (by omega), if_pos (by rw [List.length_map]; exact h')]
          simp [h]
        simp only [gIx, hx, e]
      exact ⟨ns[i], by simp [hlen, h', hix]⟩
    · have h' : ¬ (i : Int) < (ns.length : Int) := by omega
      have hm : gMul (.int 131) (.int i) m = .ok (.int (131 * i)) m := ev_mul (mulOk_l (by decide))
      exact ⟨131 * i + 37, by simp [hlen, h', hm]⟩
  obtain ⟨c, hc⟩ := cell
  have hne : P318 ≠ 0 := by decide +kernel
  have hm1 : ∀ y : Int, gMul (.int y) (.int 73) = fun m => .ok (.int (y * 73)) m := fun y => funext fun m => ev_mul (mulOk_r (by decide))
  have hm2 : ∀ y : Int, gMul (.int 619) (.int y) = fun m => .ok (.int (619 * y)) m := fun y => funext fun m => ev_mul (mulOk_l (by decide))
  have hm3 : ∀ y : Int, gMul (.int 41) (.int y) = fun m => .ok (.int (41 * y)) m := fun y => funext fun m => ev_mul (mulOk_l (by decide))
  simp only [mf__law_dice, runT, runB, mb__law_dice, startD, N__law_dice]
  simp only [ev_seq, ev_asg]
  show ∃ a b, tidy m (SRes.toRes (((mIf _ _ _ [some x, some (.int i), none, none, none] m).sbind _ _).bind _)) = _
  rw [hc]
  simp [pow1, pow2, pow3, hne, hm1, hm2, hm3, sizeLine_eq]
  have z := fun a b : Int => tidy_lst_app (m := m) (G := [diceC a b 0]) (k := m.length) (ds := [.int a, .int b, .int 0]) (Nat.le_refl _) (by simp [diceC]) rfl
  exact ⟨_, _, z _ _⟩
/-! ### a pick -/
theorem seqAt_set {m : Mem} {n : Nat} {c c' : Cell} {x : D} (h : m[n]? = some c) (hx : x ≠ .obj n) : seqAt (m.set n c') x = seqAt m x := by
  cases x with
  | obj k =>
    have hk : n ≠ k := fun z => hx (by rw [z])
    simp only [seqAt, lstAt]
    rw [List.getElem?_set_ne hk]
  | _ => rfl
theorem pick_ok {m : Mem} {n : Nat} {a b c : Int} {x : D} {ds : List D} (h : m[n]? = some (diceC a b c)) (hx : seqAt m x = some ds) (hn : x ≠ .obj n) (h0 : ds ≠ []) (hl : ds.length < 1000000) :
    ∃ d a' b' c', d ∈ ds ∧ mf__law_pick [.obj n, x] m = .ok d (m.set n (diceC a' b' c')) := by
  have hp : 0 < ds.length := List.length_pos_iff.mpr h0
  obtain ⟨v, a', b', c', e, h1, h2⟩ := roll_ok (t := (ds.length : Int)) h (by omega) (by omega)
  have hv : v.toNat < ds.length := by omega
  have hix : gIx x (.int v) (m.set n (diceC a' b' c')) = .ok ds[v.toNat] (m.set n (diceC a' b' c')) := by
    have e2 : atI ds v = some ds[v.toNat] := by
      unfold atI ixN
      rw [if_pos h1, if_pos h2]
      simp [hv]
    simp only [gIx, seqAt_set h hn, hx, e2]
  refine ⟨ds[v.toNat], a', b', c', List.getElem_mem hv, ?_⟩
  simp [mf__law_pick, runT, runB, mb__law_pick, startD, N__law_pick, len_seq hx, e, hix]
end M
end
section
set_option Elab.async false
set_option linter.all false
set_option maxRecDepth 100000
set_option maxHeartbeats 2000000
namespace M
open T PySem L2
/-! ### what is kept -/
def But (s : List Nat) (m M : Mem) : Prop := m.length ≤ M.length ∧ ∀ i, i < m.length → i ∉ s → M[i]? = m[i]?
theorem But.refl {s : List Nat} {m : Mem} : But s m m := ⟨Nat.le_refl _, fun _ _ _ => rfl⟩
theorem But.trans {s : List Nat} {a b c : Mem} (h : But s a b) (k : But s b c) : But s a c := ⟨Nat.le_trans h.1 k.1, fun i hi hs => (k.2 i (Nat.lt_of_lt_of_le hi h.1) hs).trans (h.2 i hi hs)⟩
theorem But.set {s : List Nat} {m : Mem} {n : Nat} {c : Cell} (h : n ∈ s) : But s m (m.set n c) := ⟨by simp, fun i _ hs => List.getElem?_set_ne fun z => hs (by rw [← z]; exact h)⟩
theorem But.app {s : List Nat} {m G : Mem} : But s m (m ++ G) := ⟨by simp, fun i hi _ => List.getElem?_append_left hi⟩
theorem But.get {s : List Nat} {m M : Mem} (h : But s m M) {i : Nat} {c : Cell} (hc : m[i]? = some c) (hs : i ∉ s) : M[i]? = some c := (h.2 i (lt_of_get hc) hs).trans hc
theorem But.mono {s s' : List Nat} {m M : Mem} (h : But s m M) (k : ∀ i ∈ s, i ∈ s' ∨ m.length ≤ i) : But s' m M := ⟨h.1, fun i hi hs => h.2 i hi fun z => (k i z).elim hs fun y => by omega⟩
theorem But.form {m M : Mem} {n : Nat} {c c0 : Cell} (h : But [n] m M) (h0 : m[n]? = some c0) (hc : M[n]? = some c) : ∃ G, M = m.set n c ++ G := by
  refine ⟨M.drop m.length, ?_⟩
  have e : M.take m.length = m.set n c := by
    apply List.ext_getElem?
    intro i
    by_cases hi : i < m.length
    · rw [List.getElem?_take_of_lt hi]
      by_cases hn : n = i
      · subst hn
        rw [hc, get_set h0]
      · rw [List.getElem?_set_ne hn, h.2 i hi (by simpa using fun z => hn z.symm)]
    · rw [List.getElem?_eq_none (by rw [List.length_take]; omega), List.getElem?_eq_none (by rw [List.length_set]; omega)]
  rw [← e, List.take_append_drop]
theorem But.tab {s : List Nat} {m M : Mem} {d : Str × Option Str} {q : Str} (h : But s m M) (ht : tabIn d q m = true) (hs : ∀ i ∈ s, ∀ c, m[i]? = some c → isTab d q c = false) : tabIn d q M = true := by
  unfold tabIn at ht ⊢
  obtain ⟨x, hx, hi⟩ := List.any_eq_true.mp ht
  obtain ⟨i, e⟩ := List.getElem?_of_mem hx
  refine List.any_eq_true.mpr ⟨x, List.mem_of_getElem? (h.get e fun z => ?_), hi⟩
  have := hs i z x e
  rw [hi] at this
  cases this
def IsDice (m : Mem) (n : Nat) : Prop := ∃ a b c, m[n]? = some (diceC a b c)
/-! ### names -/
def rN (i : Nat) : Str := ("r" : Str) ++ Str.ofString (toString (i : Int))
def kN (i : Nat) : Str := ("k" : Str) ++ Str.ofString (toString (i : Int))
def rL (n : Nat) : List Str := (List.range n).map rN
theorem rL_ok {n : Nat} (h : 1 ≤ n) (h6 : n ≤ 6) : roomsB (rL n) = true := by
  have : n = 1 ∨ n = 2 ∨ n = 3 ∨ n = 4 ∨ n = 5 ∨ n = 6 := by omega
  rcases this with rfl | rfl | rfl | rfl | rfl | rfl <;> decide +kernel
theorem rL_len {n : Nat} (h6 : n ≤ 6) : ∀ s ∈ rL n, s.length < sizeLine := by
  have : n = 0 ∨ n = 1 ∨ n = 2 ∨ n = 3 ∨ n = 4 ∨ n = 5 ∨ n = 6 := by omega
  rw [sizeLine_eq]
  rcases this with rfl | rfl | rfl | rfl | rfl | rfl | rfl <;> decide +kernel
def kOk (s : Str) : Bool := decide (s.length < 100) && (PySem.PyData.strOk s && nameB s)
theorem kN_ok {i : Nat} (h : i < 4) : kOk (kN i) = true := by
  have : i = 0 ∨ i = 1 ∨ i = 2 ∨ i = 3 := by omega
  rcases this with rfl | rfl | rfl | rfl <;> decide +kernel
theorem kN_nd {n : Nat} (h : n ≤ 4) : ((List.range n).map kN).Nodup := by
  have : n = 0 ∨ n = 1 ∨ n = 2 ∨ n = 3 ∨ n = 4 := by omega
  rcases this with rfl | rfl | rfl | rfl | rfl <;> decide +kernel
/-! ### what is told is drawn -/
structure OkT (names : List Str) (k : Nat) (t : Told) : Prop where
  nd : (t.map (·.1)).Nodup
  len : t.length ≤ k
  ok : toldB names t = true
theorem aput_keys {κ α : Type} [BEq κ] [LawfulBEq κ] {l : List (κ × α)} {k : κ} {v : α} (h : (l.map (·.1)).Nodup) : ((aput l k v).map (·.1)).Nodup := by
  unfold aput
  split
  · have e : (l.map fun q => if (q.1 == k) = true then (q.1, v) else q).map (·.1) = l.map (·.1) := by
      rw [List.map_map]
      refine List.map_congr_left fun q _ => ?_
      simp only [Function.comp_def]
      split <;> rfl
    rw [e]
    exact h
  · rename_i hn
    rw [List.map_append, List.nodup_append]
    refine ⟨h, by simp, fun a ha b hb z => hn ?_⟩
    obtain ⟨q, hq, e⟩ := List.mem_map.mp ha
    have hb2 : b = k := by simpa using hb
    exact List.any_eq_true.mpr ⟨q, hq, by rw [e, z, hb2]; exact beq_self_eq_true _⟩
theorem aput_len {κ α : Type} [BEq κ] (l : List (κ × α)) (k : κ) (v : α) : (aput l k v).length ≤ l.length + 1 := by
  unfold aput
  split <;> simp
theorem aput_mem {κ α : Type} [BEq κ] [LawfulBEq κ] {l : List (κ × α)} {k : κ} {v : α} {q : κ × α} (h : q ∈ aput l k v) : q ∈ l ∨ q = (k, v) := by
  unfold aput at h
  split at h
  · obtain ⟨p, hp, e⟩ := List.mem_map.mp h
    split at e
    · rename_i hk
      rw [← e, eq_of_beq hk]
      exact .inr rfl
    · rw [← e]
      exact .inl hp
  · rcases List.mem_append.mp h with z | z
    · exact .inl z
    · exact .inr (by simpa using z)
theorem OkT.put {names : List Str} {k : Nat} {t : Told} {p : Str × Str} {v : Int} (h : OkT names k t) (h1 : p.1 ∈ names) (h2 : p.2 ∈ names) (hv : smallB v = true) : OkT names (k + 1) (aput t p v) := by
  refine ⟨aput_keys h.nd, Nat.le_trans (aput_len _ _ _) (Nat.succ_le_succ h.len), ?_⟩
  have h3 := h.ok
  unfold toldB at h3 ⊢
  rw [Bool.and_eq_true, List.all_eq_true, List.all_eq_true] at h3 ⊢
  refine ⟨fun q hq => ?_, fun q hq => ?_⟩
  · rcases aput_mem hq with z | rfl
    · exact h3.1 q z
    · exact hv
  · rcases aput_mem hq with z | rfl
    · exact h3.2 q z
    · simp [inB, h1, h2]
end M
end
section
set_option Elab.async false
set_option linter.all false
set_option maxRecDepth 100000
set_option maxHeartbeats 2000000
namespace M
open T PySem L2
noncomputable section
def lstIn : LM := (aCons (mC (.int 0)) (aCons (mC (.int 0)) (aCons (mC (.int 0)) (aCons (mC (.int 1)) (aCons (mC (.int 1)) (aCons (mC (.int 1)) (aCons (m1 gNeg (mC (.int 1))) (aCons (mC (.int 2)) (aCons (mC (.int 3)) aNil)))))))))
def bIn : SM := (sSeq (sAsg (mCall (atN 2 mf__law_pick) (aCons (mVar 0) (aCons (mAlloc (mLst lstIn)) aNil))) (gtName 9)) (sSeq (sIf (tOf (m2 gNe (mVar 9) (mC (.int 0)))) (sSeq (sPut (mVar 9) (mVar 6) (mTup (aCons (mVar 7) (aCons (mVar 8) aNil)))) sNext) sNext) sNext))
def bMid : SM := (sSeq (sLk (lkPick (mVar 3)) (sFor (iIt (mVar 3)) (gtName 8) bIn)) sNext)
def bOut : SM := (sSeq (sAsg mDct0 (gtName 6)) (sSeq (sLk (lkPick (mVar 3)) (sFor (iIt (mVar 3)) (gtName 7) bMid)) (sSeq (sPut (mVar 6) (m2 gIx (mVar 4) (mC (.str "kinds"))) (m2 gAdd (mC (.str "k")) (mCall (gStrI) (aCons (mVar 5) aNil)))) sNext)))
theorem drawn_eq : mb__law_rt_drawn = (sSeq (sAsg (mTd (mCall (g1 fTuple) (aCons (mLc (iR1 (aCons (mVar 1) aNil)) (gtName 5) tTrue (m2 gAdd (mC (.str "r")) (mCall (gStrI) (aCons (mVar 5) aNil))) [5]) aNil))) (gtName 3))
  (sSeq (sAsg (mDisp (pCons (mC (.str "rooms")) (mVar 3) (pCons (mC (.str "kinds")) mDct0 pNil))) (gtName 4))
  (sSeq (sFor (iR1 (aCons (mVar 2) aNil)) (gtName 5) bOut)
  (sSeq (sRet (mVar 4))
  sNext)))) := rfl
def picks : List D := [.int 0, .int 0, .int 0, .int 1, .int 1, .int 1, .int (-1), .int 2, .int 3]
theorem lstIn_ok {r : Slots} {M : Mem} : lstIn r M = .ok picks M := by
  simp [lstIn, picks]
theorem picks_len : picks.length ≤ sizeLine := by simp [picks, sizeLine_eq]
theorem IsDice.app {m G : Mem} {n : Nat} (h : IsDice m n) : IsDice (m ++ G) n := let ⟨a, b, c, e⟩ := h; ⟨a, b, c, get_old e _⟩
theorem step_in {M : Mem} {names : List Str} {n q j : Nat} {t : Told} {a b : Str} {x1 x2 x3 x4 x5 x9 : Option D} (hd : IsDice M n) (hq : M[q]? = some (.dct (tD t))) (ht : OkT names j t) (hj : j < 1000) (ha : a ∈ names) (hb : b ∈ names) :
    ∃ y M' t', bIn [some (.obj n), x1, x2, x3, x4, x5, some (.obj q), some (.str a), some (.str b), x9] M = .ok .next [some (.obj n), x1, x2, x3, x4, x5, some (.obj q), some (.str a), some (.str b), y] M' ∧ But [n, q] M M' ∧ IsDice M' n ∧ M'[q]? = some (.dct (tD t')) ∧ OkT names (j + 1) t' := by
  obtain ⟨d0, d1, d2, hd⟩ := hd
  have hnl := lt_of_get hd
  have hnq : n ≠ q := ne_of_cell hd hq fun z => nomatch z
  obtain ⟨d, e0, e1, e2, hm, he⟩ := pick_ok (x := .obj M.length) (ds := picks) (get_old hd [.lst picks]) (seq_lst (by simp)) (by intro z; injection z with z; omega) (by simp [picks]) (by simp [picks])
  rw [set_old hd] at he
  have hq2 : (M.set n (diceC e0 e1 e2) ++ [Cell.lst picks])[q]? = some (.dct (tD t)) := get_old (get_set_ne hq hnq _) _
  have hd2 : (M.set n (diceC e0 e1 e2) ++ [Cell.lst picks])[n]? = some (diceC e0 e1 e2) := get_old (get_set hd _) _
  have b2 : But [n, q] M (M.set n (diceC e0 e1 e2) ++ [Cell.lst picks]) := (But.set (by simp)).trans .app
  have hv : ∃ v : Int, d = .int v ∧ smallB v = true := by
    simp only [picks, List.mem_cons, List.not_mem_nil, or_false] at hm
    rcases hm with rfl | rfl | rfl | rfl | rfl | rfl | rfl | rfl | rfl <;> exact ⟨_, rfl, rfl⟩
  obtain ⟨v, rfl, hv⟩ := hv
  have hne : ∀ M, gNe (.int v) (.int 0) M = .ok (.bl (!(v == 0))) M := fun M => rfl
  have hne0 : ∀ M, gNe (.int 0) (.int 0) M = .ok (.bl false) M := fun M => rfl
  have h2s : 2 ≤ sizeLine := by rw [sizeLine_eq]; omega
  by_cases h0 : v = 0
  · subst h0
    refine ⟨some (.int 0), _, t, ?_, b2, ⟨_, _, _, hd2⟩, hq2, ⟨ht.nd, Nat.le_succ_of_le ht.len, ht.ok⟩⟩
    simp [bIn, lstIn_ok, picks_len, he, hne0]
  · have hput : putIx (.obj q) (.tup [.str a, .str b]) (.int v) (M.set n (diceC e0 e1 e2) ++ [Cell.lst picks]) = some ((M.set n (diceC e0 e1 e2) ++ [Cell.lst picks]).set q (.dct (tD (aput t (a, b) v)))) := by
      have hlt : (tD t).length < sizeLine := by
        unfold tD dM
        rw [List.length_map, sizeLine_eq]
        have := ht.len
        omega
      have z := put_dct (v := .int v) hq2 (fits_P D.int t (a, b)) hlt
      have z2 : dput (tD t) (kP (a, b)) (.int v) = tD (aput t (a, b) v) := dput_dM same_P (a, b) v t
      rw [z2] at z
      exact z
    refine ⟨some (.int v), _, aput t (a, b) v, ?_, b2.trans (But.set (by simp)), ⟨_, _, _, get_set_ne hd2 (Ne.symm hnq) _⟩, get_set hq2 _, ht.put ha hb hv⟩
    simp [bIn, lstIn_ok, picks_len, he, hne, h0, h2s, hput]
/-- the walk over the names, for one name -/
theorem mid_in {M : Mem} {R n q j : Nat} {t : Told} {a : Str} {x1 x2 x4 x5 x8 x9 : Option D} (hd : IsDice M n) (hq : M[q]? = some (.dct (tD t))) (ht : OkT (rL R) j t) (hj : j + R < 1000) (ha : a ∈ rL R) :
    ∃ y8 y9 M' t', bMid [some (.obj n), x1, x2, some (.tup (S (rL R))), x4, x5, some (.obj q), some (.str a), x8, x9] M = .ok .next [some (.obj n), x1, x2, some (.tup (S (rL R))), x4, x5, some (.obj q), some (.str a), y8, y9] M' ∧ But [n, q] M M' ∧ IsDice M' n ∧ M'[q]? = some (.dct (tD t')) ∧ OkT (rL R) (j + R) t' := by
  have hlen : (S (rL R)).length = R := by simp [S, rL]
  obtain ⟨r', M', e, ⟨y8, y9, t', er, b, d', q', o'⟩⟩ := sfor_inv (mi := iIt (mVar 3)) (it := itSrc (.tup (S (rL R)))) (g := gtName 8) (b := bIn) (ds := S (rL R)) (r := [some (.obj n), x1, x2, some (.tup (S (rL R))), x4, x5, some (.obj q), some (.str a), x8, x9]) (m := M) (m1 := M)
    (fun i r M1 => ∃ y8 y9 t', r = [some (.obj n), x1, x2, some (.tup (S (rL R))), x4, x5, some (.obj q), some (.str a), y8, y9] ∧ But [n, q] M M1 ∧ IsDice M1 n ∧ M1[q]? = some (.dct (tD t')) ∧ OkT (rL R) (j + i) t') (iit_src rfl rfl rfl) ⟨x8, x9, t, rfl, .refl, hd, hq, ht⟩ (fun _ _ _ _ => rfl)
    (fun i d r M1 hi ⟨y8, y9, t1, er, b1, d1, q1, o1⟩ => by
      have hil : i < R := by
        have := (List.getElem?_eq_some_iff.mp hi).1
        omega
      have hm := List.mem_of_getElem? hi
      obtain ⟨c, hc, rfl⟩ := List.mem_map.mp hm
      obtain ⟨y, M2, t2, e2, b2, d2, q2, o2⟩ := step_in (x1 := x1) (x2 := x2) (x3 := some (.tup (S (rL R)))) (x4 := x4) (x5 := x5) (x9 := y9) d1 q1 o1 (by omega) ha hc
      rw [er]
      exact ⟨_, rfl, _, M2, .inl e2, some (.str c), y, t2, rfl, b1.trans (b2.mono fun i hi => .inl hi), d2, q2, o2⟩)
  rw [hlen] at o'
  refine ⟨y8, y9, M', t', ?_, b, d', q', o'⟩
  have hp : lkPick (mVar 3) [some (.obj n), x1, x2, some (.tup (S (rL R))), x4, x5, some (.obj q), some (.str a), x8, x9] M = none := pick_not rfl (fun _ _ z => nomatch z)
  simp only [bMid, ev_seq, slk_none hp, e, er]
  rfl
/-- one kind -/
theorem out_in {M : Mem} {R n q j : Nat} {t : Told} {x1 x2 x4 x5 x7 x8 x9 : Option D} (hR : R ≤ 6) (hd : IsDice M n) (hq : M[q]? = some (.dct (tD t))) (ht : OkT (rL R) 0 t) :
    ∃ y7 y8 y9 M' t', sLk (lkPick (mVar 3)) (sFor (iIt (mVar 3)) (gtName 7) bMid) [some (.obj n), x1, x2, some (.tup (S (rL R))), x4, x5, some (.obj q), x7, x8, x9] M = .ok .next [some (.obj n), x1, x2, some (.tup (S (rL R))), x4, x5, some (.obj q), y7, y8, y9] M' ∧ But [n, q] M M' ∧ IsDice M' n ∧ M'[q]? = some (.dct (tD t')) ∧ OkT (rL R) 36 t' := by
  have hlen : (S (rL R)).length = R := by simp [S, rL]
  obtain ⟨r', M', e, ⟨y7, y8, y9, t', er, b, d', q', o'⟩⟩ := sfor_inv (mi := iIt (mVar 3)) (it := itSrc (.tup (S (rL R)))) (g := gtName 7) (b := bMid) (ds := S (rL R)) (r := [some (.obj n), x1, x2, some (.tup (S (rL R))), x4, x5, some (.obj q), x7, x8, x9]) (m := M) (m1 := M)
    (fun i r M1 => ∃ y7 y8 y9 t', r = [some (.obj n), x1, x2, some (.tup (S (rL R))), x4, x5, some (.obj q), y7, y8, y9] ∧ But [n, q] M M1 ∧ IsDice M1 n ∧ M1[q]? = some (.dct (tD t')) ∧ OkT (rL R) (i * R) t') (iit_src rfl rfl rfl) ⟨x7, x8, x9, t, rfl, .refl, hd, hq, by rw [Nat.zero_mul]; exact ht⟩ (fun _ _ _ _ => rfl)
    (fun i d r M1 hi ⟨y7, y8, y9, t1, er, b1, d1, q1, o1⟩ => by
      have hil : i < R := by
        have := (List.getElem?_eq_some_iff.mp hi).1
        omega
      have hm := List.mem_of_getElem? hi
      obtain ⟨c, hc, rfl⟩ := List.mem_map.mp hm
      have hb : i * R ≤ 6 * 6 := Nat.mul_le_mul (by omega) hR
      obtain ⟨z8, z9, M2, t2, e2, b2, d2, q2, o2⟩ := mid_in (x1 := x1) (x2 := x2) (x4 := x4) (x5 := x5) (x8 := y8) (x9 := y9) d1 q1 o1 (by omega) hc
      rw [er]
      exact ⟨_, rfl, _, M2, .inl e2, some (.str c), z8, z9, t2, rfl, b1.trans b2, d2, q2, by rw [Nat.succ_mul]; exact o2⟩)
  rw [hlen] at o'
  refine ⟨y7, y8, y9, M', t', ?_, b, d', q', ⟨o'.nd, Nat.le_trans o'.len (Nat.mul_le_mul hR hR), o'.ok⟩⟩
  have hp : lkPick (mVar 3) [some (.obj n), x1, x2, some (.tup (S (rL R))), x4, x5, some (.obj q), x7, x8, x9] M = none := pick_not rfl (fun _ _ z => nomatch z)
  rw [slk_none hp, e, er]
end
end M
end
section
set_option Elab.async false
set_option linter.all false
set_option maxRecDepth 100000
set_option maxHeartbeats 2000000
namespace M
open T PySem L2
noncomputable section
theorem But.kat {s : List Nat} {m M : Mem} {k : Nat} {ks : KJ} (h : But s m M) (K : KAt m k ks) (hk : k ∉ s) (hq : ∀ q ∈ ks, q.2.1 ∉ s) : KAt M k ks := ⟨h.get K.at_ hk, K.nd, fun q m => h.get (K.told q m) (hq q m), K.len⟩
theorem KAt.ne_dice {m : Mem} {k n : Nat} {ks : KJ} (K : KAt m k ks) (h : IsDice m n) : k ≠ n ∧ ∀ q ∈ ks, q.2.1 ≠ n := by
  obtain ⟨a, b, c, h⟩ := h
  exact ⟨ne_of_cell K.at_ h (fun z => nomatch z), fun q hq => ne_of_cell (K.told q hq) h (fun z => nomatch z)⟩
theorem KAt.lt {m : Mem} {k : Nat} {ks : KJ} (K : KAt m k ks) : k < m.length ∧ ∀ q ∈ ks, q.2.1 < m.length := ⟨lt_of_get K.at_, fun q hq => lt_of_get (K.told q hq)⟩
def iS (i : Nat) : Str := Str.ofString (toString (i : Int))
theorem bout_ok {M : Mem} {R n p kd i : Nat} {ks : KJ} {x1 x2 x6 x7 x8 x9 : Option D} (hR : R ≤ 6) (hi : i < 4) (hd : IsDice M n) (hp : M[p]? = some (plainC (rL R) kd)) (K : KAt M kd ks) (hn : ks.map (·.1) = (List.range i).map kN) (ho : ∀ q ∈ ks, OkT (rL R) 36 q.2.2) (hkp : kd ≠ p) :
    ∃ y6 y7 y8 y9 M' ks', bOut [some (.obj n), x1, x2, some (.tup (S (rL R))), some (.obj p), some (.int i), x6, x7, x8, x9] M = .ok .next [some (.obj n), x1, x2, some (.tup (S (rL R))), some (.obj p), some (.int i), y6, y7, y8, y9] M' ∧ But [n, kd] M M' ∧ IsDice M' n ∧ M'[p]? = some (plainC (rL R) kd) ∧ KAt M' kd ks' ∧ ks'.map (·.1) = (List.range (i + 1)).map kN ∧ ∀ q ∈ ks', OkT (rL R) 36 q.2.2 := by
  have hq : (M ++ [Cell.dct []])[M.length]? = some (.dct (tD [])) := by simp [tD, dM]
  obtain ⟨y7, y8, y9, M2, t, e, b, d2, q2, o2⟩ := out_in (x1 := x1) (x2 := x2) (x4 := some (.obj p)) (x5 := some (.int i)) (x7 := x7) (x8 := x8) (x9 := x9) (j := 0) hR hd.app hq ⟨by simp, Nat.zero_le _, rfl⟩
  have hpl := lt_of_get hp
  have hpn : p ≠ n := by
    obtain ⟨a, b, c, h⟩ := hd
    exact ne_of_cell hp h fun z => nomatch z
  obtain ⟨hkl, hql⟩ := K.lt
  obtain ⟨hkn, hqn⟩ := K.ne_dice hd
  have hp2 : M2[p]? = some (plainC (rL R) kd) := b.get (get_old hp _) (by simp; omega)
  have K2 : KAt M2 kd ks := b.kat (K.app _) (by simp; omega) (fun q hq => by
    have := hql q hq
    have := hqn q hq
    simp
    omega)
  have hnew : kN i ∉ ks.map (·.1) := by
    rw [hn]
    intro z
    have nd := kN_nd (n := i + 1) (by omega)
    rw [List.range_succ, List.map_append, List.nodup_append] at nd
    exact nd.2.2 _ z _ (by simp) rfl
  have hkl2 : (kD ks).length < sizeLine := by
    have z := congrArg List.length hn
    rw [List.length_map, List.length_map, List.length_range] at z
    unfold kD dM
    rw [List.length_map, sizeLine_eq, z]
    omega
  have hput : putIx (.obj kd) (.str (kN i)) (.obj M.length) M2 = some (M2.set kd (.dct (kD (ks ++ [(kN i, M.length, t)])))) := by
    have z := put_dct (v := .obj M.length) K2.at_ (fits_str _ _ (kN i)) hkl2
    have z2 := dput_dM (kd := D.str) (f := fun p : Nat × Told => D.obj p.1) same_str (kN i) (M.length, t) ks
    rw [aput_new hnew] at z2
    rw [z]
    exact congrArg (fun c => some (M2.set kd (Cell.dct c))) z2
  have hks : ∀ q ∈ ks ++ [(kN i, M.length, t)], M2[q.2.1]? = some (.dct (tD q.2.2)) ∧ kd ≠ q.2.1 := fun q hq => by
    rcases List.mem_append.mp hq with z | z
    · exact ⟨K2.told q z, kD_ne K z⟩
    · rw [List.mem_singleton.mp z]
      exact ⟨q2, by show kd ≠ M.length; omega⟩
  have hkok := kN_ok hi
  unfold kOk at hkok
  rw [Bool.and_eq_true, Bool.and_eq_true] at hkok
  have hkl3 : (kN i).length < 100 := of_decide_eq_true hkok.1
  refine ⟨some (.obj M.length), y7, y8, y9, M2.set kd (.dct (kD (ks ++ [(kN i, M.length, t)]))), ks ++ [(kN i, M.length, t)], ?_, ?_, ?_, get_set_ne hp2 hkp _, ⟨get_set K2.at_ _, ?_, fun q hq => get_set_ne (hks q hq).1 (hks q hq).2 _, fun q hq => ?_⟩, ?_, fun q hq => ?_⟩
  · have hs : gStrI [.int i] = fun m => .ok (.str (iS i)) m := funext fun m => by
      have : (i : Int).natAbs.log2 < 1920 := by
        have h4 : i = 0 ∨ i = 1 ∨ i = 2 ∨ i = 3 := by omega
        rcases h4 with rfl | rfl | rfl | rfl <;> decide
      simp only [gStrI, this, if_true]
      rfl
    have hadd : ∀ m, gAdd (.str "k") (.str (iS i)) m = .ok (.str (kN i)) m := fun m => by
      have : ("k" : Str).length + (iS i).length ≤ sizeLine := by
        have h4 : i = 0 ∨ i = 1 ∨ i = 2 ∨ i = 3 := by omega
        rw [sizeLine_eq]
        rcases h4 with rfl | rfl | rfl | rfl <;> decide
      rw [ev_addS, if_pos this]
      rfl
    simp [bOut, e, plain_kinds hp2, hs, hadd, hput]
  · have b12 : But [n, kd] M M2 := ⟨Nat.le_trans (by simp) b.1, fun j hj hs => by
      have h1 : j ≠ n := fun z => hs (by simp [z])
      rw [b.2 j (by simp; omega) (by simp; omega), List.getElem?_append_left hj]⟩
    exact b12.trans (But.set (by simp))
  · obtain ⟨a, b, c, h⟩ := d2
    exact ⟨a, b, c, get_set_ne h hkn _⟩
  · rw [List.map_append, List.nodup_append]
    exact ⟨K.nd, by simp, fun a ha b hb z => hnew (by rw [← (by simpa using hb : b = kN i), ← z]; exact ha)⟩
  · rcases List.mem_append.mp hq with z | z
    · exact K.len q z
    · rw [List.mem_singleton.mp z]
      refine ⟨?_, hkok.2.1, ?_⟩
      · rw [sizeLine_eq]
        show (kN i).length < _
        omega
      · have := o2.len
        rw [sizeLine_eq]
        show t.length < _
        omega
  · rw [List.map_append, hn, List.range_succ, List.map_append]
    rfl
  · rcases List.mem_append.mp hq with z | z
    · exact ho q z
    · rw [List.mem_singleton.mp z]
      exact o2
end
end M
end
section
set_option Elab.async false
set_option linter.all false
set_option maxRecDepth 100000
set_option maxHeartbeats 2000000
namespace M
open T PySem L2
noncomputable section
theorem names_ok {m : Mem} {R : Nat} {x0 x2 : Option D} (hR : R ≤ 6) :
    mTd (mCall (g1 fTuple) (aCons (mLc (iR1 (aCons (mVar 1) aNil)) (gtName 5) tTrue (m2 gAdd (mC (.str "r")) (mCall (gStrI) (aCons (mVar 5) aNil))) [5]) aNil)) [x0, some (.int R), x2, none, none, none, none, none, none, none] m = .ok (.tup (S (rL R))) m := by
  have f := fresh_map (vs := [5]) (g := gtName 5) (me := m2 gAdd (mC (.str "r")) (mCall (gStrI) (aCons (mVar 5) aNil))) (ds := gRng 0 R) (fun d => match d with | .int i => .str (("r" : Str) ++ Str.ofString (toString i)) | _ => .non) (iR1_ok (ms := aCons (mVar 1) aNil) (r := [x0, some (.int R), x2, none, none, none, none, none, none, none]) (μ := m) (μ1 := m) rfl (by omega)) (fun _ => rfl) (fun d hd G => by
    obtain ⟨j, hj, rfl⟩ := List.mem_map.mp hd
    have hj := List.mem_range.mp hj
    have h4 : j = 0 ∨ j = 1 ∨ j = 2 ∨ j = 3 ∨ j = 4 ∨ j = 5 := by omega
    refine ⟨_, rfl, [], ?_⟩
    have hs : gStrI [.int (0 + (j : Int))] = fun m => .ok (.str (iS j)) m := funext fun m => by
      have : (0 + (j : Int)).natAbs.log2 < 1920 := by
        rcases h4 with rfl | rfl | rfl | rfl | rfl | rfl <;> decide
      simp only [gStrI, this, if_true]
      rw [Int.zero_add]
      rfl
    have hadd : ∀ m, gAdd (.str "r") (.str (iS j)) m = .ok (.str (rN j)) m := fun m => by
      have : ("r" : Str).length + (iS j).length ≤ sizeLine := by
        rw [sizeLine_eq]
        rcases h4 with rfl | rfl | rfl | rfl | rfl | rfl <;> decide
      rw [ev_addS, if_pos this]
      rfl
    simp only [ev_m2, ev_c, Res.bind_ok, ev_call, ev_cons, ev_nil]
    show (((mVar 5 [x0, some (.int R), x2, none, none, some (.int (0 + (j : Int))), none, none, none, none] (m ++ G)).bind fun d μ1 => Res.ok [d] μ1).bind gStrI).bind _ = _
    simp only [ev_var]
    show (gStrI [.int (0 + (j : Int))] (m ++ G)).bind _ = _
    rw [hs, Res.bind_ok, hadd, List.append_nil]
    show _ = Res.ok (D.str (("r" : Str) ++ Str.ofString (toString (0 + (j : Int))))) (m ++ G)
    rw [Int.zero_add]
    rfl) (by simp [gRng, sizeLine_eq]; omega)
  have e : (gRng 0 R).map (fun d => match d with | .int i => D.str (("r" : Str) ++ Str.ofString (toString i)) | _ => .non) = S (rL R) := by
    unfold gRng S rL
    rw [List.map_map, List.map_map]
    refine List.map_congr_left fun j _ => ?_
    simp only [Function.comp_def, Int.zero_add]
    rfl
  rw [e] at f
  exact td_tup f (S_lts _)
theorem disp_ok {μ : Mem} {r : Slots} {x : D} (h : r[3]? = some (some x)) : mDisp (pCons (mC (.str "rooms")) (mVar 3) (pCons (mC (.str "kinds")) mDct0 pNil)) r μ = .ok (.obj μ.length) (μ ++ [.dct [(.str "rooms", x), (.str "kinds", .obj (μ.length + 1))], .dct []]) := by
  have hk : keysOk [(.str "rooms", x), (.str "kinds", .obj (μ.length + 1))] = true := rfl
  have hf : List.foldl (fun acc p => dput acc p.1 p.2) [] [(D.str "rooms", x), (D.str "kinds", D.obj (μ.length + 1))] = [(.str "rooms", x), (.str "kinds", .obj (μ.length + 1))] := rfl
  have hv : mVar 3 r (μ ++ [.dct []]) = .ok x (μ ++ [.dct []]) := by simp only [ev_var, h]
  simp only [mDisp, pCons, ev_c, Res.bind_ok, hv, ev_dct0, pNil]
  have hl : (μ ++ [Cell.dct []]).length = μ.length + 1 := by simp
  have hg : (μ ++ [Cell.dct []] ++ [Cell.dct []])[μ.length]? = some (.dct []) := by simp
  rw [hl, hg]
  simp only [hk, hf]
  simp
theorem drawn_ok {m : Mem} {n R Kn : Nat} (hd : IsDice m n) (hR1 : 1 ≤ R) (hR : R ≤ 6) (hK : Kn ≤ 4) : ∃ p M ks, mf__law_rt_drawn [.obj n, .int R, .int Kn] m = .ok (.obj p) M ∧ But [n] m M ∧ IsDice M n ∧ PlainAt M p (rL R) ks ∧ ks.map (·.1) = (List.range Kn).map kN ∧ (∀ q ∈ ks, OkT (rL R) 36 q.2.2) ∧ m.length ≤ p := by
  have hnl : n < m.length := by
    obtain ⟨a, b, c, h⟩ := hd
    exact lt_of_get h
  have h0 : (m ++ [plainC (rL R) (m.length + 1), Cell.dct []])[m.length]? = some (plainC (rL R) (m.length + 1)) := by simp
  have hk0 : KAt (m ++ [plainC (rL R) (m.length + 1), Cell.dct []]) (m.length + 1) [] := ⟨by simp [kD, dM], by simp, fun _ z => (nomatch z), fun _ z => (nomatch z)⟩
  obtain ⟨r', M', e, ⟨ks, y5, y6, y7, y8, y9, er, b, d', p', K', n', o'⟩⟩ := sfor_inv (mi := iR1 (aCons (mVar 2) aNil)) (it := itFix (gRng 0 Kn)) (g := gtName 5) (b := bOut) (ds := gRng 0 Kn) (r := [some (.obj n), some (.int R), some (.int Kn), some (.tup (S (rL R))), some (.obj m.length), none, none, none, none, none]) (m := m ++ [plainC (rL R) (m.length + 1), Cell.dct []]) (m1 := m ++ [plainC (rL R) (m.length + 1), Cell.dct []])
    (fun i r M => ∃ ks y5 y6 y7 y8 y9, r = [some (.obj n), some (.int R), some (.int Kn), some (.tup (S (rL R))), some (.obj m.length), y5, y6, y7, y8, y9] ∧ But [n] m M ∧ IsDice M n ∧ M[m.length]? = some (plainC (rL R) (m.length + 1)) ∧ KAt M (m.length + 1) ks ∧ ks.map (·.1) = (List.range i).map kN ∧ ∀ q ∈ ks, OkT (rL R) 36 q.2.2)
    (iR1_ok rfl (by omega)) ⟨[], none, none, none, none, none, rfl, .app, hd.app, h0, hk0, rfl, fun _ z => (nomatch z)⟩ (fun _ _ _ _ => rfl)
    (fun i d r M hi ⟨ks, y5, y6, y7, y8, y9, er, b, d1, p1, K1, n1, o1⟩ => by
      have hi2 : i < Kn := by
        have := (List.getElem?_eq_some_iff.mp hi).1
        simpa [gRng] using this
      have hde : d = .int (i : Int) := by
        unfold gRng at hi
        rw [List.getElem?_map, List.getElem?_range hi2] at hi
        have := Option.some.inj hi
        rw [← this]
        show D.int (0 + (i : Int)) = _
        rw [Int.zero_add]
      obtain ⟨z6, z7, z8, z9, M2, ks2, e2, b2, d2, p2, K2, n2, o2⟩ := bout_ok (x1 := some (.int R)) (x2 := some (.int Kn)) (x6 := y6) (x7 := y7) (x8 := y8) (x9 := y9) hR (by omega) d1 p1 K1 n1 o1 (by omega)
      rw [er, hde]
      refine ⟨_, rfl, _, M2, .inl e2, ks2, some (.int i), z6, z7, z8, z9, rfl, ⟨Nat.le_trans b.1 b2.1, fun j hj hs => (b2.2 j (Nat.lt_of_lt_of_le hj b.1) (fun z => ?_)).trans (b.2 j hj hs)⟩, d2, p2, K2, n2, o2⟩
      rcases List.mem_cons.mp z with z | z
      · exact hs (by simp [z])
      · have := List.mem_singleton.mp z
        omega)
  have hlg : (gRng 0 Kn).length = Kn := by simp [gRng]
  rw [hlg] at n'
  refine ⟨m.length, M', ks, ?_, b, d', ⟨⟨_, p', K'⟩, fun q hq => (o' q hq).nd⟩, n', o', Nat.le_refl _⟩
  have ed := disp_ok (μ := m) (r := [some (.obj n), some (.int R), some (.int Kn), some (.tup (S (rL R))), none, none, none, none, none, none]) rfl
  have ht := tidy_dct_no (m := m) (Nat.le_refl _) p' (by simp [D.lt])
  simp only [mf__law_rt_drawn, runT, runB, drawn_eq]
  have en := names_ok (m := m) (x0 := some (.obj n)) (x2 := some (.int Kn)) hR
  have hst : startD N__law_rt_drawn [.obj n, .int R, .int Kn] = [some (.obj n), some (.int R), some (.int Kn), none, none, none, none, none, none, none] := rfl
  rw [hst]
  have e' : sFor (iR1 (aCons (mVar 2) aNil)) (gtName 5) bOut [some (.obj n), some (.int R), some (.int Kn), some (.tup (S (rL R))), some (.obj m.length), none, none, none, none, none] (m ++ [Cell.dct [(.str "rooms", .tup (S (rL R))), (.str "kinds", .obj (m.length + 1))], Cell.dct []]) = .ok .next r' M' := e
  rw [er] at e'
  rw [seq_next (asg_name en)]
  show tidy m (SRes.toRes (sSeq _ _ [some (.obj n), some (.int R), some (.int Kn), some (.tup (S (rL R))), none, none, none, none, none, none] m)) = _
  rw [seq_next (asg_name ed)]
  show tidy m (SRes.toRes (sSeq _ _ [some (.obj n), some (.int R), some (.int Kn), some (.tup (S (rL R))), some (.obj m.length), none, none, none, none, none] _)) = _
  rw [seq_next e', seq_ret (ret_ok (var_ok rfl))]
  exact ht
end
end M
end
section
set_option Elab.async false
set_option linter.all false
set_option maxRecDepth 100000
set_option maxHeartbeats 2000000
namespace M
open T PySem L2
noncomputable section
theorem book_in : CN.book ∈ clss := by simp [clss]
theorem BookAt.kd {M : Mem} {b : Nat} {rooms : List Str} {kt : List (Str × Told)} (B : BookAt M b rooms kt) : kindD M (.obj b) = some (.ins .book) := by
  obtain ⟨k, t, ks, h, _⟩ := B.ex
  exact kd_ins h
theorem require_book_ok {M : Mem} {b : Nat} {rooms : List Str} {kt : List (Str × Told)} (B : BookAt M b rooms kt) : mf_require_book [.obj b] M = .ok .non M := by
  simp [mf_require_book, runT, runB, mb_require_book, startD, N_require_book, isi_clsT B.kd book_in]
theorem require_book_bad {M : Mem} {x : D} {k : BT} (h : kindD M x = some (.bt k)) : mf_require_book [x] M = .exc .book none M := by
  simp [mf_require_book, runT, runB, mb_require_book, startD, N_require_book, isi_cls h book_in]
def dayB (names : List Str) : D → Bool
  | .str s => decide (s ∈ names)
  | _ => false
theorem lookup_isSome {α : Type} (l : List (Str × α)) (s : Str) : (l.lookup s).isSome = decide (s ∈ l.map (·.1)) := by
  induction l with
  | nil => rfl
  | cons p l ih =>
    obtain ⟨a, v⟩ := p
    rw [List.lookup_cons]
    by_cases e : s = a
    · subst e
      simp
    · have : (s == a) = false := by simpa using e
      rw [this, ih]
      simp [e]
theorem plain_days_ok {M : Mem} {b : Nat} {rooms : List Str} {kt : List (Str × Told)} {ds : List D} (B : BookAt M b rooms kt) (hf : ∀ d ∈ ds, flatD d = true) (hl : ds.length ≤ 400) : mf_is_plain_days [.obj b, .tup ds] M = .ok (.bl (ds.all (dayB (kt.map (·.1))))) M := by
  obtain ⟨k, t, ks, h, K, hk, _⟩ := B.ex
  have hlen : fLen (.tup ds) M = .ok (.int ds.length) M := len_seq seq_tup
  have hgt : ¬ (400 : Int) < (ds.length : Int) := by omega
  have hnames : kt.map (·.1) = ks.map (·.1) := by rw [← hk, List.map_map]; rfl
  have hp : lkPick (mVar 1) [some (.obj b), some (.tup ds), none] M = none := pick_not rfl (fun _ _ z => nomatch z)
  have e := td_all (e := mLk (lkPick (mVar 1)) (mLc (iIt (mVar 1)) (gtName 2) tTrue (mAndM (mCall (gIsi clss) (aCons (mVar 2) (aCons (mC (.ty .str)) aNil))) (m2 gIn (mVar 2) (m1 (gSlot .book 0) (mVar 0)))) [2])) (r := [some (.obj b), some (.tup ds), none]) (μ := M) (xs := ds) (dayB (kt.map (·.1))) (.lk0 hp (by
    refine fresh_map (vs := [2]) (g := gtName 2) (me := mAndM (mCall (gIsi clss) (aCons (mVar 2) (aCons (mC (.ty .str)) aNil))) (m2 gIn (mVar 2) (m1 (gSlot .book 0) (mVar 0)))) (ds := ds) (fun d => .bl (dayB (kt.map (·.1)) d)) (iit_src (me := mVar 1) (r := [some (.obj b), some (.tup ds), none]) (μ := M) (μ1 := M) rfl rfl rfl) (fun _ => rfl) (fun d hd G => ?_) (by rw [sizeLine_eq]; omega)
    refine ⟨_, rfl, [], ?_⟩
    have hG : (M ++ G)[b]? = some (bookC rooms k t) := get_old h G
    have hs : gSlot .book 0 (.obj b) (M ++ G) = .ok (.obj k) (M ++ G) := slot_ins hG rfl
    have hfd := hf d hd
    cases d with
    | str s =>
      have hin : gIn (.str s) (.obj k) (M ++ G) = .ok (.bl (decide (s ∈ kt.map (·.1)))) (M ++ G) := by
        rw [in_dct (get_old K.at_ G) (fits_str _ _ _)]
        unfold kD
        rw [dget_dM same_str, Option.isSome_map, lookup_isSome, hnames]
      simp only [dayB]
      simp [wipeD, subBT, hs]
      rw [hin]
    | non => simp [wipeD, subBT, dayB]
    | bl _ => simp [wipeD, subBT, dayB]
    | int _ => simp [wipeD, subBT, dayB]
    | _ => cases hfd))
  simp [mf_is_plain_days, runT, runB, mb_is_plain_days, startD, N_is_plain_days, subBT, hlen, hgt, e]
theorem plain_days_many {M : Mem} {x : D} {ds : List D} (hl : 400 < ds.length) : mf_is_plain_days [x, .tup ds] M = .ok (.bl false) M := by
  have hlen : fLen (.tup ds) M = .ok (.int ds.length) M := len_seq seq_tup
  have hgt : (400 : Int) < (ds.length : Int) := by omega
  simp [mf_is_plain_days, runT, runB, mb_is_plain_days, startD, N_is_plain_days, subBT, hlen, hgt]
theorem plain_days_not {M : Mem} {x y : D} {k : BT} (h : kindD M y = some (.bt k)) (hk : subBT k .tup = false) : mf_is_plain_days [x, y] M = .ok (.bl false) M := by
  simp [mf_is_plain_days, runT, runB, mb_is_plain_days, startD, N_is_plain_days, isi_ty h, hk]
/-! ### the calls of stage 21 -/
theorem write_book_bad {M : Mem} {x : D} {k : BT} (h : kindD M x = some (.bt k)) : mf_write_book [x] M = .exc .book none M := by
  simp [mf_write_book, runT, runB, mb_write_book, startD, N_write_book, require_book_bad h]
theorem lines_read_bad {M : Mem} {x : D} {k : BT} (h : kindD M x = some (.bt k)) (hk : subBT k .str = false) : mf_lines_read [x] M = .exc .parse (some .non) M := by
  simp [mf_lines_read, runT, runB, mb_lines_read, startD, N_lines_read, isi_ty h, hk, sRaise1, okD1]
theorem kindD_app {M G : Mem} {x : D} {k : BT} (h : kindD M x = some (.bt k)) : kindD (M ++ G) x = some (.bt k) := by
  cases x with
  | obj n =>
    simp only [kindD] at h ⊢
    cases e : M[n]? with
    | none => rw [e] at h; cases h
    | some c => rw [get_old e G]; rw [e] at h; exact h
  | _ => exact h
theorem read_book_bad {M : Mem} {x : D} {k : BT} (h : kindD M x = some (.bt k)) (hk : subBT k .str = false) : mf_read_book [x] M = .exc .parse (some .non) M := by
  have e := lines_read_bad (kindD_app (G := [.dct []]) h) hk
  have h0 : (0 : Nat) ≤ sizeLine := Nat.zero_le _
  have hp : lkPick (mCall (atN 1 mf_lines_read) (aCons (mVar 0) aNil)) [some x, some (.tup []), some (.obj M.length), none, none] (M ++ [.dct []]) = none := by
    simp [lkPick, e]
  simp only [mf_read_book, runT, runB, mb_read_book, startD, N_read_book]
  simp [slk_none hp, sFor, iIt, e]
  exact tidy_appX rfl
theorem write_days_bad {M : Mem} {x y : D} {k : BT} (h : kindD M x = some (.bt k)) : mf_write_days [x, y] M = .exc .book none M := by
  simp [mf_write_days, runT, runB, mb_write_days, startD, N_write_days, require_book_bad h]
theorem write_days_round {M : Mem} {b : Nat} {y : D} {rooms : List Str} {kt : List (Str × Told)} (B : BookAt M b rooms kt) (h : mf_is_plain_days [.obj b, y] M = .ok (.bl false) M) : mf_write_days [.obj b, y] M = .exc .round none M := by
  have e : mf_require_days [.obj b, y] M = .exc .round none M := by
    simp [mf_require_days, runT, runB, mb_require_days, startD, N_require_days, h]
  simp [mf_write_days, runT, runB, mb_write_days, startD, N_write_days, require_book_ok B, e]
theorem write_days_nil {M : Mem} {b : Nat} {rooms : List Str} {kt : List (Str × Told)} (B : BookAt M b rooms kt) : ∃ d, mf_write_days [.obj b, .tup []] M = .ok d M := by
  have h := plain_days_ok (ds := []) B (fun _ z => nomatch z) (by simp)
  have e : mf_require_days [.obj b, .tup []] M = .ok .non M := by
    simp [mf_require_days, runT, runB, mb_require_days, startD, N_require_days, h]
  refine ⟨.str (Txt.join " " []), ?_⟩
  simp [mf_write_days, runT, runB, mb_write_days, startD, N_write_days, require_book_ok B, e, mMeth, isBT, gJoin, strsD]
theorem read_days_bad {M : Mem} {x y : D} {k : BT} (h : kindD M x = some (.bt k)) : mf_read_days [x, y] M = .exc .book none M := by
  simp [mf_read_days, runT, runB, mb_read_days, startD, N_read_days, require_book_bad h]
theorem read_days_text {M : Mem} {b : Nat} {y : D} {k : BT} {rooms : List Str} {kt : List (Str × Told)} (B : BookAt M b rooms kt) (h : kindD M y = some (.bt k)) (hk : subBT k .str = false) : mf_read_days [.obj b, y] M = .exc .parse (some .non) M := by
  simp [mf_read_days, runT, runB, mb_read_days, startD, N_read_days, require_book_ok B, isi_ty h, hk, sRaise1, okD1]
theorem read_days_nil {M : Mem} {b : Nat} {rooms : List Str} {kt : List (Str × Told)} (B : BookAt M b rooms kt) : ∃ d, mf_read_days [.obj b, .str ""] M = .ok d M := by
  have h := plain_days_ok (ds := []) B (fun _ z => nomatch z) (by simp)
  have hne : ∀ M, gNe (.str "") (.str "") M = .ok (.bl false) M := fun M => by
    rw [ne_str (by decide +kernel) (by decide +kernel)]
    simp
  refine ⟨.tup [], ?_⟩
  simp [mf_read_days, runT, runB, mb_read_days, startD, N_read_days, require_book_ok B, subBT, hne, sFor, iEn, itEn, srcAt, enumD, forL, h]
end
end M
end
section
set_option Elab.async false
set_option linter.all false
set_option maxRecDepth 100000
set_option maxHeartbeats 2000000
namespace M
open T PySem L2
noncomputable section
theorem met_book {cm : Mem → Res D} {μ m : Mem} (h : cm μ = .exc .book none m) : mf__law_met cm μ = .ok (.str "book") m := by
  simp [mf__law_met, runB, mb__law_met, sTry, h, alls, pickH, hConst, slotIn]
theorem met_round {cm : Mem → Res D} {μ m : Mem} (h : cm μ = .exc .round none m) : mf__law_met cm μ = .ok (.str "round") m := by
  simp [mf__law_met, runB, mb__law_met, sTry, h, alls, pickH, hConst, slotIn]
theorem met_parse {cm : Mem → Res D} {μ m : Mem} (h : cm μ = .exc .parse (some .non) m) : mf__law_met cm μ = .ok (.str "parse None") m := by
  have e : (("parse " : Str) ++ ("None" : Str)) = "parse None" := by decide +kernel
  have hl : ("parse " : Str).length + ("None" : Str).length ≤ sizeLine := by
    rw [sizeLine_eq]
    decide +kernel
  simp [mf__law_met, runB, mb__law_met, sTry, h, alls, pickH, hReprF, reprD, slotIn, startD, N__law_met, hl, e]
theorem met_fine {cm : Mem → Res D} {μ m : Mem} {d : D} (h : cm μ = .ok d m) : mf__law_met cm μ = .ok (.str "fine") m := by
  simp [mf__law_met, runB, mb__law_met, sTry, h]
theorem lam_ok {d : He.Defn} {q : Str} {n : Nat} {js : List Nat} {mf : (Mem → Res D) → Mem → Res D} {bm : EM} {r : Slots} {μ : Mem} {ds : List D} (ht : tabIn d q μ = true) (hp : pickS r js = some ds) : mLamCall d q n js mf bm r μ = mf (fun μ1 => bm (capR n js ds) μ1) μ := by
  simp only [mLamCall, ht, if_true, hp]
theorem BookAt.but {M M' : Mem} {n b : Nat} {rooms : List Str} {kt : List (Str × Told)} (h : But [n] M M') (hd : IsDice M n) (B : BookAt M b rooms kt) : BookAt M' b rooms kt := by
  obtain ⟨k, t, ks, hb, K, e, ht⟩ := B.ex
  obtain ⟨hk, hq⟩ := K.ne_dice hd
  obtain ⟨d0, d1, d2, hd⟩ := hd
  have h1 : b ≠ n := ne_of_cell hb hd fun z => nomatch z
  have h2 : t ≠ n := ne_of_cell ht hd fun z => nomatch z
  exact ⟨k, t, ks, h.get hb (by simp [h1]), h.kat K (by simp [hk]) (fun q m => by simp [hq q m]), e, h.get ht (by simp [h2])⟩
theorem kd_but {M M' : Mem} {n e : Nat} {c : Cell} (h : But [n] M M') (he : M[e]? = some c) (hn : e ≠ n) : M'[e]? = some c := h.get he (by simp [hn])
def q0 : Str := "_law_right.<locals>.<lambda>"
def qF : Str := "fault_in.<locals>.<lambda>"
structure Tabs0 (m : Mem) : Prop where
  a : tabIn ("_law_right", none) "_law_right.<locals>.<lambda>" m = true
  b : tabIn ("fault_in", none) "fault_in.<locals>.<lambda>" m = true
theorem Tabs0.but {m M : Mem} {n : Nat} (t : Tabs0 m) (h : But [n] m M) (hd : IsDice m n) : Tabs0 M := by
  obtain ⟨a, b, c, hd⟩ := hd
  have hs : ∀ d q, ∀ i ∈ [n], ∀ c', m[i]? = some c' → isTab d q c' = false := fun d q i hi c' e => by
    rw [List.mem_singleton.mp hi, hd] at e
    cases e
    rfl
  exact ⟨h.tab t.a (hs _ _), h.tab t.b (hs _ _)⟩
theorem IsDice.set {m : Mem} {n : Nat} {a b c : Int} (h : IsDice m n) : IsDice (m.set n (diceC a b c)) n := let ⟨_, _, _, e⟩ := h; ⟨a, b, c, get_set e _⟩
theorem But.dice {m : Mem} {n : Nat} {a b c : Int} : But [n] m (m.set n (diceC a b c)) := But.set (by simp)
/-- two rolls, a drawn book -/
theorem stepA {m : Mem} {n : Nat} {r : Slots} (h0 : r[0]? = some (some (.obj n))) (hd : IsDice m n) :
    ∃ p M R Kn ks, mCall (atN 3 mf__law_rt_drawn) (aCons (mVar 0) (aCons (m2 gAdd (mC (.int 1)) (mCall (atN 2 mf__law_roll) (aCons (mVar 0) (aCons (mC (.int 3)) aNil)))) (aCons (m2 gAdd (mC (.int 1)) (mCall (atN 2 mf__law_roll) (aCons (mVar 0) (aCons (mC (.int 3)) aNil)))) aNil))) r m = .ok (.obj p) M ∧
      But [n] m M ∧ IsDice M n ∧ PlainAt M p (rL R) ks ∧ 1 ≤ R ∧ R ≤ 3 ∧ 1 ≤ Kn ∧ Kn ≤ 3 ∧ ks.map (·.1) = (List.range Kn).map kN ∧ (∀ q ∈ ks, OkT (rL R) 36 q.2.2) := by
  obtain ⟨a, b, c, h⟩ := hd
  obtain ⟨v1, a1, b1, c1, e1, p1, l1⟩ := roll_ok h (t := 3) (by decide) (by decide)
  have h2 := get_set h (diceC a1 b1 c1)
  obtain ⟨v2, a2, b2, c2, e2, p2, l2⟩ := roll_ok h2 (t := 3) (by decide) (by decide)
  rw [set_set] at e2
  obtain ⟨p, M, ks, e, b, d', P, n', o', _⟩ := drawn_ok (m := m.set n (diceC a2 b2 c2)) (R := (1 + v1).toNat) (Kn := (1 + v2).toNat) ⟨_, _, _, get_set h _⟩ (by omega) (by omega) (by omega)
  refine ⟨p, M, _, _, ks, ?_, But.dice.trans b, d', P, by omega, by omega, by omega, by omega, n', o'⟩
  have t1 : (((1 + v1).toNat : Nat) : Int) = 1 + v1 := by omega
  have t2 : (((1 + v2).toNat : Nat) : Int) = 1 + v2 := by omega
  rw [t1, t2] at e
  have hv : ∀ μ, mVar 0 r μ = .ok (.obj n) μ := fun μ => var_ok h0
  have er1 : mCall (atN 2 mf__law_roll) (aCons (mVar 0) (aCons (mC (.int 3)) aNil)) r m = .ok (.int v1) (m.set n (diceC a1 b1 c1)) := (call_ok (cons_ok (hv m) (cons_ok rfl rfl)) rfl).trans e1
  have er2 : mCall (atN 2 mf__law_roll) (aCons (mVar 0) (aCons (mC (.int 3)) aNil)) r (m.set n (diceC a1 b1 c1)) = .ok (.int v2) (m.set n (diceC a2 b2 c2)) := (call_ok (cons_ok (hv _) (cons_ok rfl rfl)) rfl).trans e2
  have ad1 : m2 gAdd (mC (.int 1)) (mCall (atN 2 mf__law_roll) (aCons (mVar 0) (aCons (mC (.int 3)) aNil))) r m = .ok (.int (1 + v1)) (m.set n (diceC a1 b1 c1)) := by
    simp only [ev_m2, ev_c, Res.bind_ok, er1, ev_add]
  have ad2 : m2 gAdd (mC (.int 1)) (mCall (atN 2 mf__law_roll) (aCons (mVar 0) (aCons (mC (.int 3)) aNil))) r (m.set n (diceC a1 b1 c1)) = .ok (.int (1 + v2)) (m.set n (diceC a2 b2 c2)) := by
    simp only [ev_m2, ev_c, Res.bind_ok, er2, ev_add]
  exact (call_ok (cons_ok (hv m) (cons_ok ad1 (cons_ok ad2 rfl))) rfl).trans e
theorem kinds_ok {R Kn : Nat} {ks : KJ} (h1 : 1 ≤ Kn) (h4 : Kn ≤ 4) (hn : ks.map (·.1) = (List.range Kn).map kN) (ho : ∀ q ∈ ks, OkT (rL R) 36 q.2.2) : kindsB (rL R) ks = true := by
  have hl : ks.length = Kn := by
    have z := congrArg List.length hn
    simpa using z
  unfold kindsB
  rw [Bool.and_eq_true, List.all_eq_true]
  refine ⟨decide_eq_true (by omega), fun q hq => ?_⟩
  have h5 : q.1 ∈ (List.range Kn).map kN := by rw [← hn]; exact List.mem_map.mpr ⟨q, hq, rfl⟩
  obtain ⟨i, hi, e⟩ := List.mem_map.mp h5
  have h6 := kN_ok (i := i) (by have := List.mem_range.mp hi; omega)
  unfold kOk at h6
  rw [Bool.and_eq_true, Bool.and_eq_true] at h6
  unfold kindB
  rw [Bool.and_eq_true, ← e]
  exact ⟨h6.2.2, (ho q hq).ok⟩
/-- the book, a kind -/
theorem stepB {m : Mem} {n p R Kn : Nat} {ks : KJ} {r : Slots} (h1 : r[1]? = some (some (.obj p))) (hd : IsDice m n) (ht : Tabs0 m) (P : PlainAt m p (rL R) ks) (hR1 : 1 ≤ R) (hR : R ≤ 3) (hK1 : 1 ≤ Kn) (hK : Kn ≤ 3) (hn : ks.map (·.1) = (List.range Kn).map kN) (ho : ∀ q ∈ ks, OkT (rL R) 36 q.2.2) :
    ∃ b s G, mTup (aCons (mCall (atN 1 mf__law_rt_made) (aCons (mVar 1) aNil)) (aCons (m2 gIx (mLk (lkPick (m2 gIx (mVar 1) (mC (.str "kinds")))) (mCall (g1 fSorted) (aCons (m2 gIx (mVar 1) (mC (.str "kinds"))) aNil))) (mC (.int 0))) aNil)) r m = .ok (.tup [.obj b, .str s]) (m ++ G) ∧ BookAt (m ++ G) b (rL R) (wk ks) ∧ s ∈ (List.range Kn).map kN := by
  obtain ⟨G, e, B⟩ := made_ok P (rL_len (by omega)) ht.b (rL_ok hR1 (by omega)) (kinds_ok hK1 (by omega) hn ho)
  have P2 := P.app G
  obtain ⟨k, hp, K⟩ := P2.ex
  have hv : ∀ μ, mVar 1 r μ = .ok (.obj p) μ := fun μ => var_ok h1
  have hks : (kD ks).map (·.1) = (ks.map (·.1)).map D.str := by simp [kD, dM]
  have hix : ∀ μ : Mem, μ[p]? = some (plainC (rL R) k) → m2 gIx (mVar 1) (mC (.str "kinds")) r μ = .ok (.obj k) μ := fun μ h => by
    simp only [ev_m2, hv, Res.bind_ok, ev_c]
    exact plain_kinds h
  have hkp : k ≠ p := by
    intro z
    have h2 := K.at_
    rw [z, hp] at h2
    have h3 : kD ks = [(D.str "rooms", .tup (S (rL R))), (.str "kinds", .obj k)] := by
      have h4 := Option.some.inj h2
      unfold plainC at h4
      injection h4 with h4
      exact h4.symm
    cases ks with
    | nil => simp [kD, dM] at h3
    | cons q l => simp [kD, dM] at h3
  -- sorted(plain["kinds"])
  have hl := get_set K.at_ (.lk (.dct (kD ks)))
  have hpl := get_set_ne hp hkp (.lk (.dct (kD ks)))
  have es : mLk (lkPick (m2 gIx (mVar 1) (mC (.str "kinds")))) (mCall (g1 fSorted) (aCons (m2 gIx (mVar 1) (mC (.str "kinds"))) aNil)) r (m ++ G) = .ok (.obj (m ++ G).length) (m ++ G ++ [.lst ((isortS (ks.map (·.1))).map D.str)]) := by
    refine mlk_dct (pick_dct (hix _ hp) K.at_) K.at_ ?_
    simp only [ev_call, ev_cons, hix _ hpl, Res.bind_ok, ev_nil, ev_g1, fSorted, colAt, seq_lk hl, dk_lk hl, Option.map_some, hks, sortable_S, if_true, isort_S]
    simp
  have hne : isortS (ks.map (·.1)) ≠ [] := by
    intro z
    have z2 := congrArg List.length z
    unfold isortS at z2
    rw [isort_length, hn] at z2
    simp at z2
    omega
  cases hL : isortS (ks.map (·.1)) with
  | nil => exact absurd hL hne
  | cons s l =>
    refine ⟨m.length, s, G ++ [.lst ((s :: l).map D.str)], ?_, ?_, ?_⟩
    · rw [hL] at es
      have hg : (m ++ G ++ [Cell.lst ((s :: l).map D.str)])[(m ++ G).length]? = some (.lst ((s :: l).map D.str)) := by simp
      have h0 : gIx (.obj (m ++ G).length) (.int 0) (m ++ G ++ [Cell.lst ((s :: l).map D.str)]) = .ok (.str s) (m ++ G ++ [Cell.lst ((s :: l).map D.str)]) := ix_lst hg at0_cons
      have e2 : mCall (atN 1 mf__law_rt_made) (aCons (mVar 1) aNil) r m = .ok (.obj m.length) (m ++ G) := (call_ok (cons_ok (hv m) rfl) rfl).trans e
      have e3 : m2 gIx (mLk (lkPick (m2 gIx (mVar 1) (mC (.str "kinds")))) (mCall (g1 fSorted) (aCons (m2 gIx (mVar 1) (mC (.str "kinds"))) aNil))) (mC (.int 0)) r (m ++ G) = .ok (.str s) (m ++ G ++ [Cell.lst ((s :: l).map D.str)]) := by
        rw [ev_m2, es, Res.bind_ok, ev_c, Res.bind_ok]
        exact h0
      unfold mTup
      rw [cons_ok e2 (cons_ok e3 rfl)]
      rw [List.append_assoc]
      simp [sizeLine_eq]
    · rw [← List.append_assoc]
      exact BookAt.but (n := n) .app hd.app B
    · rw [← hn]
      exact mem_isortS.mp (by rw [hL]; exact List.mem_cons_self)
end
end M
end
section
set_option Elab.async false
set_option linter.all false
set_option maxRecDepth 100000
set_option maxHeartbeats 2000000
namespace M
open T PySem L2
noncomputable section
theorem pick_lit {l : EM} {r : Slots} {m G : Mem} {n k : Nat} {items : List D} (h0 : r[0]? = some (some (.obj n))) (hd : IsDice m n) (hl : l r m = .ok (.obj k) (m ++ G)) (hk : (m ++ G)[k]? = some (.lst items)) (hkn : m.length ≤ k) (hi : items ≠ []) (hs : items.length < 1000) :
    ∃ d M, d ∈ items ∧ mCall (atN 2 mf__law_pick) (aCons (mVar 0) (aCons l aNil)) r m = .ok d M ∧ But [n] (m ++ G) M ∧ IsDice M n := by
  have hd' := hd.app (G := G)
  obtain ⟨a, b, c, h⟩ := hd
  have hnl := lt_of_get h
  obtain ⟨d, e0, e1, e2, hm, he⟩ := pick_ok (x := .obj k) (get_old h G) (seq_lst hk) (by intro z; injection z with z; omega) hi (by omega)
  refine ⟨d, _, hm, (call_ok (cons_ok (var_ok h0) (cons_ok hl rfl)) rfl).trans he, But.dice, hd'.set⟩
theorem but_of_app {m G M : Mem} {n : Nat} (h : But [n] (m ++ G) M) : But [n] m M := But.trans .app h
theorem stepC {m : Mem} {n b : Nat} {r : Slots} (h0 : r[0]? = some (some (.obj n))) (h2 : r[2]? = some (some (.obj b))) (hd : IsDice m n) :
    ∃ d M, mCall (atN 2 mf__law_pick) (aCons (mVar 0) (aCons (mAlloc (mLst (aCons (mC .non) (aCons (mC (.int 0)) (aCons (mC (.str "book")) (aCons (mTup aNil) (aCons mDct0 (aCons (mAlloc (mLst (aCons (mVar 2) aNil))) (aCons (mC (.bl true)) aNil))))))))) aNil)) r m = .ok d M ∧
      But [n] m M ∧ IsDice M n ∧ ∀ M', But [n] M M' → ∃ k, kindD M' d = some (.bt k) := by
  have hnl : n < m.length := by
    obtain ⟨a, b, c, h⟩ := hd
    exact lt_of_get h
  have hl : mAlloc (mLst (aCons (mC .non) (aCons (mC (.int 0)) (aCons (mC (.str "book")) (aCons (mTup aNil) (aCons mDct0 (aCons (mAlloc (mLst (aCons (mVar 2) aNil))) (aCons (mC (.bl true)) aNil)))))))) r m = .ok (.obj (m.length + 2)) (m ++ [.dct [], .lst [.obj b], .lst [.non, .int 0, .str "book", .tup [], .obj m.length, .obj (m.length + 1), .bl true]]) := by
    simp [var_ok h2, h2, sizeLine_eq]
  obtain ⟨d, M, hm, e, bt, d'⟩ := pick_lit h0 hd hl (get_Ck.trans rfl) (by omega) (by simp) (by simp)
  refine ⟨d, M, e, but_of_app bt, d', fun M' hM => ?_⟩
  have g1 : M'[m.length]? = some (.dct []) := kd_but hM (kd_but bt (by simp) (by omega)) (by omega)
  have g2 : M'[m.length + 1]? = some (.lst [.obj b]) := kd_but hM (kd_but bt (by simp) (by omega)) (by omega)
  simp only [List.mem_cons, List.not_mem_nil, or_false] at hm
  rcases hm with rfl | rfl | rfl | rfl | rfl | rfl | rfl
  · exact ⟨_, rfl⟩
  · exact ⟨_, rfl⟩
  · exact ⟨_, rfl⟩
  · exact ⟨_, rfl⟩
  · exact ⟨_, kd_dct g1⟩
  · exact ⟨_, kd_lst g2⟩
  · exact ⟨_, rfl⟩
theorem stepE {m : Mem} {n : Nat} {s : Str} {r : Slots} (h0 : r[0]? = some (some (.obj n))) (h3 : r[3]? = some (some (.str s))) (hd : IsDice m n) :
    ∃ d M, mCall (atN 2 mf__law_pick) (aCons (mVar 0) (aCons (mAlloc (mLst (aCons (mC .non) (aCons (mC (.int 0)) (aCons (mTup aNil) (aCons (mAlloc (mLst (aCons (mVar 3) aNil))) (aCons (mC (.bl true)) (aCons mDct0 (aCons (mTup (aCons (mVar 3) aNil)) aNil))))))))) aNil)) r m = .ok d M ∧
      But [n] m M ∧ IsDice M n ∧ ∀ M', But [n] M M' → ∃ k, kindD M' d = some (.bt k) ∧ subBT k .str = false := by
  have hnl : n < m.length := by
    obtain ⟨a, b, c, h⟩ := hd
    exact lt_of_get h
  have hl : mAlloc (mLst (aCons (mC .non) (aCons (mC (.int 0)) (aCons (mTup aNil) (aCons (mAlloc (mLst (aCons (mVar 3) aNil))) (aCons (mC (.bl true)) (aCons mDct0 (aCons (mTup (aCons (mVar 3) aNil)) aNil)))))))) r m = .ok (.obj (m.length + 2)) (m ++ [.lst [.str s], .dct [], .lst [.non, .int 0, .tup [], .obj m.length, .bl true, .obj (m.length + 1), .tup [.str s]]]) := by
    simp [h3, sizeLine_eq]
  obtain ⟨d, M, hm, e, bt, d'⟩ := pick_lit h0 hd hl (get_Ck.trans rfl) (by omega) (by simp) (by simp)
  refine ⟨d, M, e, but_of_app bt, d', fun M' hM => ?_⟩
  have g1 : M'[m.length]? = some (.lst [.str s]) := kd_but hM (kd_but bt (by simp) (by omega)) (by omega)
  have g2 : M'[m.length + 1]? = some (.dct []) := kd_but hM (kd_but bt (by simp) (by omega)) (by omega)
  simp only [List.mem_cons, List.not_mem_nil, or_false] at hm
  rcases hm with rfl | rfl | rfl | rfl | rfl | rfl | rfl
  · exact ⟨_, rfl, rfl⟩
  · exact ⟨_, rfl, rfl⟩
  · exact ⟨_, rfl, rfl⟩
  · exact ⟨_, kd_lst g1, rfl⟩
  · exact ⟨_, rfl, rfl⟩
  · exact ⟨_, kd_dct g2, rfl⟩
  · exact ⟨_, rfl, rfl⟩
theorem zz_not {i : Nat} (h : i < 4) : ("zz" : Str) ≠ kN i := by
  have : i = 0 ∨ i = 1 ∨ i = 2 ∨ i = 3 := by omega
  rcases this with rfl | rfl | rfl | rfl <;> decide +kernel
theorem stepD {m : Mem} {n : Nat} {s : Str} {r : Slots} (h0 : r[0]? = some (some (.obj n))) (h3 : r[3]? = some (some (.str s))) (hd : IsDice m n) :
    ∃ d M, mCall (atN 2 mf__law_pick) (aCons (mVar 0) (aCons (mAlloc (mLst (aCons (mC .non) (aCons (mC (.int 0)) (aCons (mVar 3) (aCons (mAlloc (mLst (aCons (mVar 3) aNil))) (aCons (mTup (aCons (mC (.str "zz")) aNil)) (aCons (mTup (aCons (mVar 3) (aCons (mC .non) aNil))) (aCons (m2 gMul (mTup (aCons (mVar 3) aNil)) (mC (.int 401))) (aCons (mDisp (pCons (mVar 3) (mC (.int 1)) pNil)) (aCons (mTup (aCons (mC (.int 0)) aNil)) aNil))))))))))) aNil)) r m = .ok d M ∧
      But [n] m M ∧ IsDice M n ∧ ∀ M' b rooms kt, But [n] M M' → BookAt M' b rooms kt → ("zz" : Str) ∉ kt.map (·.1) → mf_is_plain_days [.obj b, d] M' = .ok (.bl false) M' := by
  have hnl : n < m.length := by
    obtain ⟨a, b, c, h⟩ := hd
    exact lt_of_get h
  have hmul : ∀ M, gMul (.tup [.str s]) (.int 401) M = .ok (.tup (List.replicate 401 (D.str s))) M := fun M => by
    have e : (List.replicate (401 : Int).toNat [D.str s]).flatten = List.replicate 401 (D.str s) := by
      rw [show (401 : Int).toNat = 401 from rfl]
      simp
    simp [gMul]
  have hdis : ∀ M : Mem, mDisp (pCons (mVar 3) (mC (.int 1)) pNil) r M = .ok (.obj M.length) (M ++ [.dct [(.str s, .int 1)]]) := fun M => by
    have hk : keysOk [(.str s, .int 1)] = true := rfl
    simp [mDisp, pCons, pNil, h3, hk, dput]
  have hl : mAlloc (mLst (aCons (mC .non) (aCons (mC (.int 0)) (aCons (mVar 3) (aCons (mAlloc (mLst (aCons (mVar 3) aNil))) (aCons (mTup (aCons (mC (.str "zz")) aNil)) (aCons (mTup (aCons (mVar 3) (aCons (mC .non) aNil))) (aCons (m2 gMul (mTup (aCons (mVar 3) aNil)) (mC (.int 401))) (aCons (mDisp (pCons (mVar 3) (mC (.int 1)) pNil)) (aCons (mTup (aCons (mC (.int 0)) aNil)) aNil)))))))))) r m = .ok (.obj (m.length + 2)) (m ++ [.lst [.str s], .dct [(.str s, .int 1)], .lst [.non, .int 0, .str s, .obj m.length, .tup [.str "zz"], .tup [.str s, .non], .tup (List.replicate 401 (.str s)), .obj (m.length + 1), .tup [.int 0]]]) := by
    simp [h3, sizeLine_eq, hmul, hdis]
  obtain ⟨d, M, hm, e, bt, d'⟩ := pick_lit h0 hd hl (get_Ck.trans rfl) (by omega) (by simp) (by simp)
  refine ⟨d, M, e, but_of_app bt, d', fun M' b rooms kt hM B hz => ?_⟩
  have g1 : M'[m.length]? = some (.lst [.str s]) := kd_but hM (kd_but bt (by simp) (by omega)) (by omega)
  have g2 : M'[m.length + 1]? = some (.dct [(.str s, .int 1)]) := kd_but hM (kd_but bt (by simp) (by omega)) (by omega)
  simp only [List.mem_cons, List.not_mem_nil, or_false] at hm
  rcases hm with rfl | rfl | rfl | rfl | rfl | rfl | rfl | rfl | rfl
  · exact plain_days_not (k := .non) rfl rfl
  · exact plain_days_not (k := .int) rfl rfl
  · exact plain_days_not (k := .str) rfl rfl
  · exact plain_days_not (kd_lst g1) rfl
  · have z := plain_days_ok (ds := [.str "zz"]) B (fun d hd => by rw [List.mem_singleton.mp hd]; rfl) (by simp)
    rw [z]
    simp [dayB, hz]
  · have z := plain_days_ok (ds := [.str s, .non]) B (fun d hd => by
      rcases List.mem_cons.mp hd with rfl | hd
      · rfl
      · rw [List.mem_singleton.mp hd]; rfl) (by simp)
    rw [z]
    simp [dayB]
  · exact plain_days_many (by simp)
  · exact plain_days_not (kd_dct g2) rfl
  · have z := plain_days_ok (ds := [.int 0]) B (fun d hd => by rw [List.mem_singleton.mp hd]; rfl) (by simp)
    rw [z]
    simp [dayB]
end
end M
end
section
set_option Elab.async false
set_option linter.all false
set_option maxRecDepth 100000
set_option maxHeartbeats 2000000
namespace M
open T PySem L2
noncomputable section
theorem asg_ok {e : EM} {g : GM} {r r' : Slots} {μ μ1 : Mem} {d : D} (h : e r μ = .ok d μ1) (hg : g d r = some r') : sAsg e g r μ = .ok .next r' μ1 := by
  unfold sAsg
  rw [h]
  show (match g d r with | some r' => SRes.ok .next r' μ1 | none => .stuck) = _
  rw [hg]
theorem app_step {r : Slots} {M : Mem} {l l' : List Str} {e : EM} {x : Str} (hl' : l' = l ++ [x]) (h7 : r[7]? = some (some (.obj M.length))) (hl : l.length < 100) (h : e r (M ++ [.lst (l.map .str)]) = .ok (.str x) (M ++ [.lst (l.map .str)])) :
    sExpr (mMeth .lst gAppend (mVar 7) (aCons e aNil)) r (M ++ [.lst (l.map .str)]) = .ok .next r (M ++ [.lst (l'.map .str)]) := by
  subst hl'
  refine expr_ok (d := .non) ?_
  have g : (M ++ [Cell.lst (l.map D.str)])[M.length]? = some (.lst (l.map D.str)) := by simp
  have hb : isBT .lst (.obj M.length) (M ++ [Cell.lst (l.map D.str)]) = true := by
    unfold isBT
    rw [lst_lst g]
    rfl
  have hw : lstW (M ++ [Cell.lst (l.map D.str)]) (.obj M.length) = some (M.length, l.map D.str) := by simp only [lstW, g]
  have hs : (l.map D.str).length < sizeLine := by
    rw [List.length_map, sizeLine_eq]
    omega
  have hc : aCons e aNil r (M ++ [Cell.lst (l.map D.str)]) = .ok [.str x] (M ++ [Cell.lst (l.map D.str)]) := cons_ok h rfl
  simp only [mMeth, var_ok h7, Res.bind_ok, hb, if_true, hc, gAppend, hw, hs]
  simp
theorem right_ok {m : Mem} {n : Nat} (hd : IsDice m n) (ht : Tabs0 m) : ∃ a b c, mf__law_right [.obj n] m = .ok (.bl true) (m.set n (diceC a b c)) := by
  have hd0 := hd
  obtain ⟨p, M1, R, Kn, ks, e1, b1, d1, P1, hR1, hR, hK1, hK, hn, ho⟩ := stepA (r := [some (.obj n), none, none, none, none, none, none, none]) rfl hd
  obtain ⟨b, s, G, e2, B2, hs⟩ := stepB (n := n) (r := [some (.obj n), some (.obj p), none, none, none, none, none, none]) rfl d1 (ht.but b1 hd) P1 hR1 hR hK1 hK hn ho
  have d2 : IsDice (M1 ++ G) n := d1.app
  obtain ⟨odd, M3, e3, b3, d3, o3⟩ := stepC (r := [some (.obj n), some (.obj p), some (.obj b), some (.str s), none, none, none, none]) (b := b) rfl rfl d2
  obtain ⟨days, M4, e4, b4, d4, o4⟩ := stepD (r := [some (.obj n), some (.obj p), some (.obj b), some (.str s), some odd, none, none, none]) (s := s) rfl rfl d3
  obtain ⟨text, M5, e5, b5, d5, o5⟩ := stepE (r := [some (.obj n), some (.obj p), some (.obj b), some (.str s), some odd, some days, none, none]) (s := s) rfl rfl d4
  have b35 : But [n] M3 M5 := b4.trans b5
  have b25 : But [n] (M1 ++ G) M5 := b3.trans b35
  have b05 : But [n] m M5 := (b1.trans .app).trans b25
  have t5 : Tabs0 M5 := ht.but b05 hd
  have B5 : BookAt M5 b (rL R) (wk ks) := B2.but b25 d2
  have hz : ("zz" : Str) ∉ (wk ks).map (·.1) := by
    unfold wk
    rw [List.map_map]
    intro z
    have z2 : ("zz" : Str) ∈ isortS (ks.map (·.1)) := by
      obtain ⟨q, hq, e⟩ := List.mem_map.mp z
      rw [← e]
      exact hq
    rw [mem_isortS, hn] at z2
    obtain ⟨i, hi, e⟩ := List.mem_map.mp z2
    exact zz_not (i := i) (by have := List.mem_range.mp hi; omega) e.symm
  let r : Slots := [some (.obj n), some (.obj p), some (.obj b), some (.str s), some odd, some days, some text, some (.obj M5.length)]
  let r0 : Slots := [some (.obj n), some (.obj p), some (.obj b), some (.str s), some odd, some days, some text, none]
  -- what the lambdas tell
  have L1 : ∀ (r : Slots) M', r[4]? = some (some odd) → But [n] M5 M' → mLamCall ("_law_right", none) "_law_right.<locals>.<lambda>" 8 [4] mf__law_met (mCall (atN 1 mf_write_book) (aCons (mVar 4) aNil)) r M' = .ok (.str "book") M' := fun r M' h4 hb => by
    obtain ⟨k, hk⟩ := o3 M' (b35.trans hb)
    exact (lam_ok (t5.but hb d5).a (ds := [odd]) (by simp [pickS, h4])).trans (met_book ((call_ok (cons_ok (var_ok rfl) rfl) rfl).trans (write_book_bad hk)))
  have L2 : ∀ M', But [n] M5 M' → mLamCall ("_law_right", none) "_law_right.<locals>.<lambda>" 8 [6] mf__law_met (mCall (atN 1 mf_read_book) (aCons (mVar 6) aNil)) r M' = .ok (.str "parse None") M' := fun M' hb => by
    obtain ⟨k, hk, hs⟩ := o5 M' hb
    exact (lam_ok (t5.but hb d5).a (ds := [text]) rfl).trans (met_parse ((call_ok (cons_ok (var_ok rfl) rfl) rfl).trans (read_book_bad hk hs)))
  have L3 : ∀ M', But [n] M5 M' → mLamCall ("_law_right", none) "_law_right.<locals>.<lambda>" 8 [4, 5] mf__law_met (mCall (atN 2 mf_write_days) (aCons (mVar 4) (aCons (mVar 5) aNil))) r M' = .ok (.str "book") M' := fun M' hb => by
    obtain ⟨k, hk⟩ := o3 M' (b35.trans hb)
    exact (lam_ok (t5.but hb d5).a (ds := [odd, days]) rfl).trans (met_book ((call_ok (cons_ok (var_ok rfl) (cons_ok (var_ok rfl) rfl)) rfl).trans (write_days_bad hk)))
  have L4 : ∀ M', But [n] M5 M' → mLamCall ("_law_right", none) "_law_right.<locals>.<lambda>" 8 [2, 5] mf__law_met (mCall (atN 2 mf_write_days) (aCons (mVar 2) (aCons (mVar 5) aNil))) r M' = .ok (.str "round") M' := fun M' hb => by
    have B' := B5.but hb d5
    exact (lam_ok (t5.but hb d5).a (ds := [.obj b, days]) rfl).trans (met_round ((call_ok (cons_ok (var_ok rfl) (cons_ok (var_ok rfl) rfl)) rfl).trans (write_days_round B' (o4 M' b _ _ (b5.trans hb) B' hz))))
  have L5 : ∀ M', But [n] M5 M' → mLamCall ("_law_right", none) "_law_right.<locals>.<lambda>" 8 [4, 6] mf__law_met (mCall (atN 2 mf_read_days) (aCons (mVar 4) (aCons (mVar 6) aNil))) r M' = .ok (.str "book") M' := fun M' hb => by
    obtain ⟨k, hk⟩ := o3 M' (b35.trans hb)
    exact (lam_ok (t5.but hb d5).a (ds := [odd, text]) rfl).trans (met_book ((call_ok (cons_ok (var_ok rfl) (cons_ok (var_ok rfl) rfl)) rfl).trans (read_days_bad hk)))
  have L6 : ∀ M', But [n] M5 M' → mLamCall ("_law_right", none) "_law_right.<locals>.<lambda>" 8 [2, 6] mf__law_met (mCall (atN 2 mf_read_days) (aCons (mVar 2) (aCons (mVar 6) aNil))) r M' = .ok (.str "parse None") M' := fun M' hb => by
    obtain ⟨k, hk, hs⟩ := o5 M' hb
    exact (lam_ok (t5.but hb d5).a (ds := [.obj b, text]) rfl).trans (met_parse ((call_ok (cons_ok (var_ok rfl) (cons_ok (var_ok rfl) rfl)) rfl).trans (read_days_text (B5.but hb d5) hk hs)))
  have L7 : ∀ M', But [n] M5 M' → mLamCall ("_law_right", none) "_law_right.<locals>.<lambda>" 8 [2] mf__law_met (mCall (atN 2 mf_write_days) (aCons (mVar 2) (aCons (mTup aNil) aNil))) r M' = .ok (.str "fine") M' := fun M' hb => by
    obtain ⟨d, e⟩ := write_days_nil (B5.but hb d5)
    exact (lam_ok (t5.but hb d5).a (ds := [.obj b]) rfl).trans (met_fine ((call_ok (ds := [.obj b, .tup []]) (cons_ok (var_ok rfl) (cons_ok (by simp) rfl)) rfl).trans e))
  have L8 : ∀ M', But [n] M5 M' → mLamCall ("_law_right", none) "_law_right.<locals>.<lambda>" 8 [2] mf__law_met (mCall (atN 2 mf_read_days) (aCons (mVar 2) (aCons (mC (.str "")) aNil))) r M' = .ok (.str "fine") M' := fun M' hb => by
    obtain ⟨d, e⟩ := read_days_nil (B5.but hb d5)
    exact (lam_ok (t5.but hb d5).a (ds := [.obj b]) rfl).trans (met_fine ((call_ok (ds := [.obj b, .str ""]) (cons_ok (var_ok rfl) (cons_ok rfl rfl)) rfl).trans e))
  have e6 : mAlloc (mLst (aCons (mLamCall ("_law_right", none) "_law_right.<locals>.<lambda>" 8 [4] mf__law_met (mCall (atN 1 mf_write_book) (aCons (mVar 4) aNil))) aNil)) r0 M5 = .ok (.obj M5.length) (M5 ++ [.lst ((["book"] : List Str).map .str)]) := by
    have z := L1 r0 M5 rfl .refl
    have hc : aCons (mLamCall ("_law_right", none) "_law_right.<locals>.<lambda>" 8 [4] mf__law_met (mCall (atN 1 mf_write_book) (aCons (mVar 4) aNil))) aNil r0 M5 = .ok [.str "book"] M5 := cons_ok z rfl
    simp only [ev_alloc, ev_lst, hc, Res.bind_ok]
    simp [sizeLine_eq]
  have hr : ∀ l : List Str, But [n] M5 (M5 ++ [.lst (l.map D.str)]) := fun l => .app
  obtain ⟨a, b', c, hc⟩ := d5
  have hform := But.form b05 hd.choose_spec.choose_spec.choose_spec hc
  obtain ⟨G5, hG5⟩ := hform
  refine ⟨a, b', c, ?_⟩
  simp only [mf__law_right, runT, runB, mb__law_right]
  show tidy m (SRes.toRes (sSeq _ _ [some (.obj n), none, none, none, none, none, none, none] m)) = _
  rw [seq_next (asg_name e1)]
  show tidy m (SRes.toRes (sSeq _ _ [some (.obj n), some (.obj p), none, none, none, none, none, none] M1)) = _
  rw [seq_next (asg_ok e2 rfl)]
  show tidy m (SRes.toRes (sSeq _ _ [some (.obj n), some (.obj p), some (.obj b), some (.str s), none, none, none, none] (M1 ++ G))) = _
  rw [seq_next (asg_name e3)]
  show tidy m (SRes.toRes (sSeq _ _ [some (.obj n), some (.obj p), some (.obj b), some (.str s), some odd, none, none, none] M3)) = _
  rw [seq_next (asg_name e4)]
  show tidy m (SRes.toRes (sSeq _ _ [some (.obj n), some (.obj p), some (.obj b), some (.str s), some odd, some days, none, none] M4)) = _
  rw [seq_next (asg_name e5)]
  show tidy m (SRes.toRes (sSeq _ _ r0 M5)) = _
  rw [seq_next (asg_name e6)]
  show tidy m (SRes.toRes (sSeq _ _ r (M5 ++ [.lst ((["book"] : List Str).map .str)]))) = _
  rw [seq_next (app_step (l' := ["book", "parse None"]) (l := ["book"]) rfl rfl (by decide) (L2 _ (hr _)))]
  rw [seq_next (app_step (l' := ["book", "parse None", "book"]) (l := ["book", "parse None"]) rfl rfl (by decide) (L3 _ (hr _)))]
  rw [seq_next (app_step (l' := ["book", "parse None", "book", "round"]) (l := ["book", "parse None", "book"]) rfl rfl (by decide) (L4 _ (hr _)))]
  rw [seq_next (app_step (l' := ["book", "parse None", "book", "round", "book"]) (l := ["book", "parse None", "book", "round"]) rfl rfl (by decide) (L5 _ (hr _)))]
  rw [seq_next (app_step (l' := ["book", "parse None", "book", "round", "book", "parse None"]) (l := ["book", "parse None", "book", "round", "book"]) rfl rfl (by decide) (L6 _ (hr _)))]
  rw [seq_next (app_step (l' := ["book", "parse None", "book", "round", "book", "parse None", "fine"]) (l := ["book", "parse None", "book", "round", "book", "parse None"]) rfl rfl (by decide) (L7 _ (hr _)))]
  rw [seq_next (app_step (l' := ["book", "parse None", "book", "round", "book", "parse None", "fine", "fine"]) (l := ["book", "parse None", "book", "round", "book", "parse None", "fine"]) rfl rfl (by decide) (L8 _ (hr _)))]
  have hok : ∀ s ∈ (["book", "parse None", "book", "round", "book", "parse None", "fine", "fine"] : List Str), PyData.strOk s = true := by decide +kernel
  have g1 : (M5 ++ [Cell.lst ((["book", "parse None", "book", "round", "book", "parse None", "fine", "fine"] : List Str).map D.str)] ++ [Cell.lst ((["book", "parse None", "book", "round", "book", "parse None", "fine", "fine"] : List Str).map D.str)])[M5.length]? = some (.lst ((["book", "parse None", "book", "round", "book", "parse None", "fine", "fine"] : List Str).map D.str)) := by simp
  have g2 : (M5 ++ [Cell.lst ((["book", "parse None", "book", "round", "book", "parse None", "fine", "fine"] : List Str).map D.str)] ++ [Cell.lst ((["book", "parse None", "book", "round", "book", "parse None", "fine", "fine"] : List Str).map D.str)])[(M5 ++ [Cell.lst ((["book", "parse None", "book", "round", "book", "parse None", "fine", "fine"] : List Str).map D.str)]).length]? = some (.lst ((["book", "parse None", "book", "round", "book", "parse None", "fine", "fine"] : List Str).map D.str)) := by simp
  have q := eq_lstS g1 g2 hok hok
  rw [beq_self_eq_true] at q
  have e9 : m2 gEq (mVar 7) (mAlloc (mLst (aCons (mC (.str "book")) (aCons (mC (.str "parse None")) (aCons (mC (.str "book")) (aCons (mC (.str "round")) (aCons (mC (.str "book")) (aCons (mC (.str "parse None")) (aCons (mC (.str "fine")) (aCons (mC (.str "fine")) aNil)))))))))) r (M5 ++ [.lst ((["book", "parse None", "book", "round", "book", "parse None", "fine", "fine"] : List Str).map .str)]) = .ok (.bl true) (M5 ++ [Cell.lst ((["book", "parse None", "book", "round", "book", "parse None", "fine", "fine"] : List Str).map D.str)] ++ [Cell.lst ((["book", "parse None", "book", "round", "book", "parse None", "fine", "fine"] : List Str).map D.str)]) := by
    have hl : mLst (aCons (mC (.str "book")) (aCons (mC (.str "parse None")) (aCons (mC (.str "book")) (aCons (mC (.str "round")) (aCons (mC (.str "book")) (aCons (mC (.str "parse None")) (aCons (mC (.str "fine")) (aCons (mC (.str "fine")) aNil)))))))) r (M5 ++ [.lst ((["book", "parse None", "book", "round", "book", "parse None", "fine", "fine"] : List Str).map .str)]) = .ok ((["book", "parse None", "book", "round", "book", "parse None", "fine", "fine"] : List Str).map .str) (M5 ++ [.lst ((["book", "parse None", "book", "round", "book", "parse None", "fine", "fine"] : List Str).map .str)]) := by
      simp [sizeLine_eq]
    rw [ev_m2, var_ok (d := .obj M5.length) rfl, Res.bind_ok, ev_alloc, hl, Res.bind_ok, Res.bind_ok]
    exact q
  rw [seq_ret (ret_ok e9)]
  show tidy m (.ok (.bl true) _) = _
  rw [hG5, List.append_assoc, List.append_assoc]
  exact tidy_set_app (fun w => wf_set_dice w n a b' c) rfl
end
end M
end
section
set_option Elab.async false
set_option linter.all false
set_option maxRecDepth 100000
set_option maxHeartbeats 2000000
namespace M
open T PySem L2
noncomputable section
def tabs0 : List (He.Defn × Str) := [(("_law_right", none), "_law_right.<locals>.<lambda>"), (("fault_in", none), "fault_in.<locals>.<lambda>")]
theorem tabs0_ok (G : Mem) : Tabs0 (tabCells tabs0 ++ G) := ⟨tabIn_app (by decide +kernel), tabIn_app (by decide +kernel)⟩
theorem seqAt_app {m G : Mem} {x : D} {ds : List D} (h : seqAt m x = some ds) : seqAt (m ++ G) x = some ds := by
  cases x with
  | obj k =>
    simp only [seqAt, lstAt] at h ⊢
    cases e : m[k]? with
    | none => rw [e] at h; cases h
    | some c => rw [get_old e G]; rw [e] at h; exact h
  | _ => exact h
theorem seqAt_lt {m : Mem} {k : Nat} {ds : List D} (h : seqAt m (.obj k) = some ds) : k < m.length := by
  simp only [seqAt, lstAt] at h
  cases e : m[k]? with
  | none => rw [e] at h; cases h
  | some c => exact lt_of_get e
def bTurn : SM := (sSeq (sIf (tNotM (tOf (mCall (atN 1 mf__law_right) (aCons (mVar 2) aNil)))) (sSeq (sRet (mC (.bl false))) sNext) sNext) sNext)
def bSpot : SM := (sSeq (sAsg (mCall (atN 2 mf__law_dice) (aCons (mVar 0) (aCons (mVar 1) aNil))) (gtName 2)) (sSeq (sFor (iR1 (aCons (mC (.int 3)) aNil)) (gtName 3) bTurn) sNext))
theorem turn_ok {r : Slots} {M : Mem} {q : Nat} (h2 : r[2]? = some (some (.obj q))) (hd : IsDice M q) (ht : Tabs0 M) : ∃ a b c, bTurn r M = .ok .next r (M.set q (diceC a b c)) := by
  obtain ⟨a, b, c, e⟩ := right_ok hd ht
  refine ⟨a, b, c, ?_⟩
  have e1 : mCall (atN 1 mf__law_right) (aCons (mVar 2) aNil) r M = .ok (.bl true) (M.set q (diceC a b c)) := (call_ok (cons_ok (var_ok h2) rfl) rfl).trans e
  have e2 : tNotM (tOf (mCall (atN 1 mf__law_right) (aCons (mVar 2) aNil))) r M = .ok false (M.set q (diceC a b c)) := by
    rw [ev_not, ev_tof, e1, Res.bind_ok, ev_asB]
    rfl
  unfold bTurn
  rw [seq_next (r1 := r) (μ1 := M.set q (diceC a b c)) (by rw [sif_ok e2]; rfl)]
  rfl
theorem spot_ok {x : D} {ns : List Int} {i : Nat} {M : Mem} {y2 y3 : Option D} (hx : seqAt M x = some (ns.map D.int)) (ht : Tabs0 M) (hi : i < 100) :
    ∃ z2 z3 M', bSpot [some x, some (.int i), y2, y3] M = .ok .next [some x, some (.int i), z2, z3] M' ∧ seqAt M' x = some (ns.map D.int) ∧ Tabs0 M' := by
  obtain ⟨a, b, e⟩ := dice_ok (i := i) hx (by omega)
  have hne : x ≠ .obj M.length := fun z => by
    subst z
    have := seqAt_lt hx
    omega
  have hd0 : IsDice (M ++ [diceC a b 0]) M.length := ⟨a, b, 0, by simp⟩
  have ht0 : Tabs0 (M ++ [diceC a b 0]) := ⟨tabIn_app ht.a, tabIn_app ht.b⟩
  obtain ⟨r', M', e3, ⟨y3', er, hx', hd', ht'⟩⟩ := sfor_inv (mi := iR1 (aCons (mC (.int 3)) aNil)) (it := itFix (gRng 0 3)) (g := gtName 3) (b := bTurn) (ds := gRng 0 3) (r := [some x, some (.int i), some (.obj M.length), y3]) (m := M ++ [diceC a b 0]) (m1 := M ++ [diceC a b 0])
    (fun _ r m => ∃ y3, r = [some x, some (.int i), some (.obj M.length), y3] ∧ seqAt m x = some (ns.map D.int) ∧ IsDice m M.length ∧ Tabs0 m) (iR1_ok (k := 3) rfl (by omega)) ⟨y3, rfl, seqAt_app hx, hd0, ht0⟩ (fun _ _ _ _ => rfl)
    (fun j d r m hj ⟨y3, er, hx, hd, ht⟩ => by
      subst er
      obtain ⟨a, b, c, e⟩ := turn_ok (r := [some x, some (.int i), some (.obj M.length), some d]) rfl hd ht
      have hd1 := hd
      obtain ⟨a1, b1, c1, h1⟩ := hd1
      exact ⟨_, rfl, _, _, .inl e, some d, rfl, by rw [seqAt_set h1 hne]; exact hx, hd.set, ht.but .dice hd⟩)
  refine ⟨some (.obj M.length), y3', M', ?_, hx', ht'⟩
  have e1 : mCall (atN 2 mf__law_dice) (aCons (mVar 0) (aCons (mVar 1) aNil)) [some x, some (.int i), y2, y3] M = .ok (.obj M.length) (M ++ [diceC a b 0]) := (call_ok (cons_ok (var_ok rfl) (cons_ok (var_ok rfl) rfl)) rfl).trans e
  unfold bSpot
  rw [seq_next (asg_name e1)]
  show sSeq _ _ [some x, some (.int i), some (.obj M.length), y3] (M ++ [diceC a b 0]) = _
  rw [seq_next e3, er]
  rfl
theorem plain0 {x : D} {ns : List Int} {m : Mem} (hx : seqAt m x = some (ns.map D.int)) (ht : Tabs0 m) (hl : ns.length ≤ 63) : ∃ m', mf_law [x] m = .ok (.bl true) m' := by
  have hlen : fLen x m = .ok (.int ns.length) m := by
    rw [len_seq hx]
    simp
  have hr : ∃ k : Nat, k ≤ 6 ∧ iR1 (aCons (mCall (gMax2) (aCons (mC (.int 1)) (aCons (mCall (gMin2) (aCons (mC (.int 6)) (aCons (mCall (g1 fLen) (aCons (mVar 0) aNil)) aNil))) aNil))) aNil) [some x, none, none, none] m = .ok (itFix (gRng 0 k)) m := by
    have e1 : mCall (gMin2) (aCons (mC (.int 6)) (aCons (mCall (g1 fLen) (aCons (mVar 0) aNil)) aNil)) [some x, none, none, none] m = .ok (.int (if (ns.length : Int) < 6 then (ns.length : Int) else 6)) m := by
      simp [hlen]
    have e2 : ∀ v : Int, mCall (g1 fLen) (aCons (mVar 0) aNil) [some x, none, none, none] m = mCall (g1 fLen) (aCons (mVar 0) aNil) [some x, none, none, none] m := fun _ => rfl
    refine ⟨(if (if (ns.length : Int) < 6 then (ns.length : Int) else 6) > 1 then (if (ns.length : Int) < 6 then (ns.length : Int) else 6) else 1).toNat, ?_, iR1_int (k := if (if (ns.length : Int) < 6 then (ns.length : Int) else 6) > 1 then (if (ns.length : Int) < 6 then (ns.length : Int) else 6) else 1) ?_ ?_⟩
    · split <;> split <;> omega
    · have e3 : aCons (mC (.int 1)) (aCons (mCall (gMin2) (aCons (mC (.int 6)) (aCons (mCall (g1 fLen) (aCons (mVar 0) aNil)) aNil))) aNil) [some x, none, none, none] m = .ok [.int 1, .int (if (ns.length : Int) < 6 then (ns.length : Int) else 6)] m := cons_ok rfl (cons_ok e1 rfl)
      have e4 : mCall (gMax2) (aCons (mC (.int 1)) (aCons (mCall (gMin2) (aCons (mC (.int 6)) (aCons (mCall (g1 fLen) (aCons (mVar 0) aNil)) aNil))) aNil)) [some x, none, none, none] m = .ok (.int (if (if (ns.length : Int) < 6 then (ns.length : Int) else 6) > 1 then (if (ns.length : Int) < 6 then (ns.length : Int) else 6) else 1)) m := by
        rw [ev_call, e3, Res.bind_ok]
        rfl
      exact cons_ok e4 rfl
    · split <;> split <;> constructor <;> omega
  obtain ⟨k, hk, hri⟩ := hr
  obtain ⟨r', M', e3, ⟨y1, y2, y3, er, hx', ht'⟩⟩ := sfor_inv (it := itFix (gRng 0 k)) (g := gtName 1) (b := bSpot) (ds := gRng 0 k) (r := [some x, none, none, none]) (m := m) (m1 := m)
    (fun _ r m => ∃ y1 y2 y3, r = [some x, y1, y2, y3] ∧ seqAt m x = some (ns.map D.int) ∧ Tabs0 m) hri ⟨none, none, none, rfl, hx, ht⟩ (fun _ _ _ _ => rfl)
    (fun j d r m hj ⟨y1, y2, y3, er, hx, ht⟩ => by
      subst er
      have hj2 : j < k := by
        have := (List.getElem?_eq_some_iff.mp hj).1
        simpa [gRng] using this
      have hde : d = .int (j : Int) := by
        unfold gRng at hj
        rw [List.getElem?_map, List.getElem?_range hj2] at hj
        have := Option.some.inj hj
        rw [← this]
        show D.int (0 + (j : Int)) = _
        rw [Int.zero_add]
      obtain ⟨z2, z3, M', e, hx2, ht2⟩ := spot_ok (i := j) (y2 := y2) (y3 := y3) hx ht (by omega)
      rw [hde]
      exact ⟨_, rfl, _, M', .inl e, _, z2, z3, rfl, hx2, ht2⟩)
  have e4 : runB N_law mb_law [x] m = .ok (.bl true) M' := by
    unfold runB mb_law
    show SRes.toRes (sSeq (sFor _ _ bSpot) _ [some x, none, none, none] m) = _
    rw [seq_next e3]
    rfl
  unfold mf_law runT
  rw [e4]
  by_cases hf : fineB m M'
  · rw [tidy_eq hf]
    exact ⟨_, rfl⟩
  · refine ⟨M', ?_⟩
    have h2 : ¬ (decide (m.length ≤ M'.length) && wfB (M'.take m.length)) = true := fun z => hf (fineB_of z)
    simp only [tidy, if_neg hf, if_neg h2]
theorem plain (ns : List Int) (d : D) (m : Mem) (hl : ns.length ≤ 63) (hb : ∀ z ∈ ns, Builtin.Int.intBits z ≤ 1048576) (hs : ScrAt tabs0 ns d m) : ∃ m', mf_law [d] m = .ok (.bl true) m' := by
  rcases hs with ⟨rfl, rfl⟩ | ⟨rfl, rfl⟩
  · have z := tabs0_ok []
    rw [List.append_nil] at z
    exact plain0 rfl z hl
  · exact plain0 (ns := ns) (seq_lst (by rw [List.getElem?_append_right (by simp [tabCells])]; simp [tabCells])) (tabs0_ok _) hl
end
end M
end
section
set_option Elab.async false
set_option linter.all false
set_option maxRecDepth 100000
set_option maxHeartbeats 4000000
namespace M
open T PySem PySem.Spec PyProof.Rows L2
abbrev top (i : Nat) : Stmt := PySem.Challenge.pw_roundsalike_k76_errors_of_texts.main.body.getD i (.Pass ⟨0, 0, 0, 0⟩)
def cbody (s : Stmt) (j : Nat) : Stmt := match s with
  | .ClassDef _ _ _ b _ _ _ _ _ _ _ => b.getD j (.Pass ⟨0, 0, 0, 0⟩)
  | _ => .Pass ⟨0, 0, 0, 0⟩
def frees : List Str := ["abs", "all", "bool", "dict", "enumerate", "int", "isinstance", "len", "max", "min", "range", "repr", "sorted", "str", "super", "tuple", "zip"]
def glos : List Str := ["Book", "InvalidBook", "InvalidRound", "ParseError", "_law_dice", "_law_met", "_law_pick", "_law_right", "_law_roll", "_law_rt_drawn", "_law_rt_made", "are_rooms", "fault_in", "is_integer", "is_integer_text", "is_line", "is_name", "is_plain_days", "is_room_tuple", "is_told", "key_of", "law", "lines_of", "lines_read", "read_book", "read_days", "require_book", "require_days", "without_noughts", "write_book", "write_days"]
def nums : List (Str × Int) := [("MAX_DAYS", 400), ("MAX_KINDS", 4), ("MAX_NAME", 12), ("MAX_ROOMS", 6), ("MAX_SIGNS", 4), ("MOST_WAYS", 999)]
def txts : List (Str × Str) := [("FIRST_SIGNS", "abcdefghijklmnopqrstuvwxyz"), ("NEXT_SIGNS", "abcdefghijklmnopqrstuvwxyz0123456789.")]
def errs : List EN := [.book, .round]
def owns : List EN := [.parse]
def mths : List (CN × Str) := [(.book, "table_told")]
def tabs : List (He.Defn × Str) := [(("_law_right", none), "_law_right.<locals>.<lambda>"), (("fault_in", none), "fault_in.<locals>.<lambda>")]
/-! ### _law_dice -/
theorem sc__law_dice : FnScope N__law_dice ["script", "spot"] (defScope (top 43)) := ⟨rfl, rfl, rfl, by decide +kernel, rfl, by decide +kernel, by decide +kernel⟩
theorem body__law_dice {P : Program} {w : World} {K : PySem.W.Frag} {mg : Str → Option Value} {base : Heap} (G : GF K mg frees glos nums txts) (GX : GK K mg base clss errs mths (tabs.map (·.1))) (GI : GI P w K mg base alls owns)  (cdv : Value) (A : Around) (outer : List Env) (s : Shared) (H : Hp) (E : XK) (hr : Room 0 (A.deeper (envOfC "_law_dice" (defScope (top 43)) s.heap.objs.size (He.ga K "_law_dice") cdv)))  :
    MSs (cxOf (L2.CX P w) P w K mg base N__law_dice "_law_dice" (defScope (top 43)) (He.ga K "_law_dice") cdv A outer s H E) (defBody (top 43)) mb__law_dice := by
  have hu : (cxOf (L2.CX P w) P w K mg base N__law_dice "_law_dice" (defScope (top 43)) (He.ga K "_law_dice") cdv A outer s H E).A.units + 64 < cLine := hr.units
  have hu1 : (cxOf (L2.CX P w) P w K mg base N__law_dice "_law_dice" (defScope (top 43)) (He.ga K "_law_dice") cdv A outer s H E).A.units + 1 < cLine := by omega
  have nd : N__law_dice.Nodup := sc__law_dice.nd
  refine mss_cons ?_ ?_
  · refine ms_set (i := 2) nd rfl (loc_by rfl) ?_
    · refine me_if ?_ ?_ ?_
      · refine mt_cmp om_lt ?_ ?_ rfl
        · exact me_var (i := 1) rfl (vis_by rfl)
        · refine me_callB (cm_len) rfl (G.free _ (by decide)) (by rfl) ?_
          · refine ma_cons ?_ ?_
            · exact me_var (i := 0) rfl (vis_by rfl)
            · exact ma_nil
      · refine me_callTy (cm_int1) rfl (G.free _ (by decide)) (by rfl) ?_
        · refine ma_cons ?_ ?_
          · refine me_ix hu1 ?_ ?_ (fun _ _ => rfl)
            · exact me_var (i := 0) rfl (vis_by rfl)
            · exact me_var (i := 1) rfl (vis_by rfl)
          · exact ma_nil
      · refine me_op om_add ?_ ?_
        · refine me_op om_mul ?_ ?_
          · exact me_int
          · exact me_var (i := 1) rfl (vis_by rfl)
        · exact me_int
  · refine mss_cons ?_ ?_
    · refine ms_set (i := 3) nd rfl (loc_by rfl) ?_
      · refine me_op om_mod ?_ ?_
        · refine me_callTy (cm_int1) rfl (G.free _ (by decide)) (by rfl) ?_
          · refine ma_cons ?_ ?_
            · refine me_callB (cm_abs) rfl (G.free _ (by decide)) (by rfl) ?_
              · refine ma_cons ?_ ?_
                · exact me_var (i := 2) rfl (vis_by rfl)
                · exact ma_nil
            · exact ma_nil
        · refine me_op om_pow ?_ ?_
          · refine me_op om_pow ?_ ?_
            · exact me_int
            · exact me_int
          · exact me_int
    · refine mss_cons ?_ ?_
      · refine ms_set (i := 4) nd rfl (loc_by rfl) ?_
        · refine me_op om_add ?_ ?_
          · refine me_op om_add ?_ ?_
            · refine me_op om_add ?_ ?_
              · refine me_op om_mul ?_ ?_
                · refine me_op om_mod ?_ ?_
                  · exact me_var (i := 3) rfl (vis_by rfl)
                  · exact me_int
                · exact me_int
              · refine me_op om_mul ?_ ?_
                · exact me_int
                · exact me_var (i := 1) rfl (vis_by rfl)
            · refine me_op om_mul ?_ ?_
              · exact me_int
              · refine me_callTy (cm_int1) rfl (G.free _ (by decide)) (by rfl) ?_
                · refine ma_cons ?_ ?_
                  · refine me_cmp om_lt ?_ ?_ rfl
                    · exact me_var (i := 2) rfl (vis_by rfl)
                    · exact me_int
                  · exact ma_nil
          · exact me_int
      · refine mss_cons ?_ ?_
        · refine ms_ret ?_
          · refine me_of_le (le_lst ?_)
            · refine ma_cons ?_ ?_
              · refine me_callB (cm_max2 rfl) rfl (G.free _ (by decide)) (by rfl) ?_
                · refine ma_cons ?_ ?_
                  · exact me_int
                  · refine ma_cons ?_ ?_
                    · refine me_op om_sub ?_ ?_
                      · exact me_var (i := 3) rfl (vis_by rfl)
                      · refine me_op om_pow ?_ ?_
                        · exact me_int
                        · exact me_int
                    · exact ma_nil
              · refine ma_cons ?_ ?_
                · exact me_var (i := 4) rfl (vis_by rfl)
                · refine ma_cons ?_ ?_
                  · exact me_int
                  · exact ma_nil
        · exact mss_nil
theorem ok__law_dice {P : Program} {w : World} {K : PySem.W.Frag} {mg : Str → Option Value} {base : Heap} (G : GF K mg frees glos nums txts) (GX : GK K mg base clss errs mths (tabs.map (·.1))) (GI : GI P w K mg base alls owns)  {fd : FuncData} (F : FunD K "_law_dice" "_law_dice" (defArgs (top 43)) (defBody (top 43)) (defScope (top 43)) [] [] (He.ga K "_law_dice") fd) (mgx : mg "_law_dice" = some (.ref (He.ga K "_law_dice"))) : DefOk P w K mg base 1 "_law_dice" ["script", "spot"] mf__law_dice :=
  DefOk.of F mgx (fun _ _ _ _ _ _ us hl => match us, hl with | [_, _], _ => rfl) sc__law_dice (fun cdv A outer s H E hr => body__law_dice G GX GI  cdv A outer s H E hr) (fun ds m _ w => runT_refn ds m w)
/-! ### _law_met -/
theorem sc__law_met : FnScope N__law_met ["call"] (defScope (top 48)) := ⟨rfl, rfl, rfl, by decide +kernel, rfl, by decide +kernel, by decide +kernel⟩
theorem body__law_met {P : Program} {w : World} {K : PySem.W.Frag} {mg : Str → Option Value} {base : Heap} (G : GF K mg frees glos nums txts) (GX : GK K mg base clss errs mths (tabs.map (·.1))) (GI : GI P w K mg base alls owns)  (cdv : Value) (A : Around) (outer : List Env) (s : Shared) (H : Hp) (E : XK) (callm : EM) (hr : Room 0 (A.deeper (envOfC "_law_met" (defScope (top 48)) s.heap.objs.size (He.ga K "_law_met") cdv))) (hcall : ∀ (pn : List (Addr × Obj)) (xe : Value → Shared → Prop) (p1 p2 : Pos), ME ((cxOf (L2.CX P w) P w K mg base N__law_met "_law_met" (defScope (top 48)) (He.ga K "_law_met") cdv A outer s H E).tr pn xe) (.Call (.Name "call" p1) [] [] p2) callm) :
    MSs (cxOf (L2.CX P w) P w K mg base N__law_met "_law_met" (defScope (top 48)) (He.ga K "_law_met") cdv A outer s H E) (defBody (top 48)) (mb__law_met callm) := by
  have hu : (cxOf (L2.CX P w) P w K mg base N__law_met "_law_met" (defScope (top 48)) (He.ga K "_law_met") cdv A outer s H E).A.units + 64 < cLine := hr.units
  have hu1 : (cxOf (L2.CX P w) P w K mg base N__law_met "_law_met" (defScope (top 48)) (He.ga K "_law_met") cdv A outer s H E).A.units + 1 < cLine := by omega
  have nd : N__law_met.Nodup := sc__law_met.nd
  refine mss_cons ?_ ?_
  · refine ms_try (es := alls) (hs := [(.parse, some 1, hReprF "parse "), (.book, none, hConst "book"), (.round, none, hConst "round")]) rfl rfl (exm_of GI (by decide)) (fun pn xe po => ?_) ?_
    · refine mss_cons ?_ ?_
      · refine ms_expr ?_
        · exact hcall _ _ _ _
      · exact mss_nil
    · refine .as_ (i := 1) nd rfl rfl ⟨rfl, by decide, .inl (G.glo _ (by decide))⟩ ?_ ?_
      · intro a oe cls d pn hz hfl
        refine hs_reprF (n := "error") (x := "repr") ?_ ?_ ?_ ?_ ?_ ?_ ?_ ?_ ?_ ?_
        · exact (GI.xf .parse (by decide)).1
        · exact (GI.xf .parse (by decide)).2
        · exact rfl
        · exact rfl
        · exact vis_by rfl
        · exact rfl
        · exact G.free _ (by decide)
        · exact (by rfl)
        · exact hz
        · exact hfl
      · refine .one ⟨rfl, by decide, .inl (G.glo _ (by decide))⟩ ?_ ?_
        · intro a oe cls d pn hz hfl
          exact hs_const
        · refine .one ⟨rfl, by decide, .inl (G.glo _ (by decide))⟩ ?_ ?_
          · intro a oe cls d pn hz hfl
            exact hs_const
          · exact .nil
  · refine mss_cons ?_ ?_
    · refine ms_ret ?_
      · exact me_str
    · exact mss_nil
theorem ind__law_met (f c : Addr) (q : Str) (σ : L2.St) (js : List Nat) (ds : List D) (cm : Mem → Res D) (μ : Mem) : runB N__law_met (mb__law_met (actM (.clo f c q σ js ds) cm)) [.clo f c q σ js ds] μ = mf__law_met cm μ := by
  have e : actM (.clo f c q σ js ds) cm (startD N__law_met [.clo f c q σ js ds]) μ = cm μ := actM_yes rfl
  simp only [mf__law_met, runB, mb__law_met, sSeq, sTry, sExpr, sRet, e]
  rcases cm μ with ⟨d, m⟩ | ⟨c, p, m⟩ | _
  · rfl
  · cases c <;> cases p <;> first | rfl | (simp [pickH, hReprF_eq, hConst, alls, SRes.bind, Res.sbind, slotIn, startD, N__law_met] <;> (generalize hRepr0 _ _ _ = y; cases y <;> rfl))
  · rfl
/-! ### _law_roll -/
theorem sc__law_roll : FnScope N__law_roll ["dice", "total"] (defScope (top 44)) := ⟨rfl, rfl, rfl, by decide +kernel, rfl, by decide +kernel, by decide +kernel⟩
theorem body__law_roll {P : Program} {w : World} {K : PySem.W.Frag} {mg : Str → Option Value} {base : Heap} (G : GF K mg frees glos nums txts) (GX : GK K mg base clss errs mths (tabs.map (·.1))) (GI : GI P w K mg base alls owns)  (cdv : Value) (A : Around) (outer : List Env) (s : Shared) (H : Hp) (E : XK) (hr : Room 0 (A.deeper (envOfC "_law_roll" (defScope (top 44)) s.heap.objs.size (He.ga K "_law_roll") cdv)))  :
    MSs (cxOf (L2.CX P w) P w K mg base N__law_roll "_law_roll" (defScope (top 44)) (He.ga K "_law_roll") cdv A outer s H E) (defBody (top 44)) mb__law_roll := by
  have hu : (cxOf (L2.CX P w) P w K mg base N__law_roll "_law_roll" (defScope (top 44)) (He.ga K "_law_roll") cdv A outer s H E).A.units + 64 < cLine := hr.units
  have hu1 : (cxOf (L2.CX P w) P w K mg base N__law_roll "_law_roll" (defScope (top 44)) (He.ga K "_law_roll") cdv A outer s H E).A.units + 1 < cLine := by omega
  have nd : N__law_roll.Nodup := sc__law_roll.nd
  refine mss_cons ?_ ?_
  · refine ms_if ?_ ?_ ?_
    · refine mt_cmp om_gt ?_ ?_ rfl
      · refine me_ix hu1 ?_ ?_ (fun _ _ => rfl)
        · exact me_var (i := 0) rfl (vis_by rfl)
        · exact me_int
      · exact me_int
    · refine mss_cons ?_ ?_
      · refine ms_set (i := 2) nd rfl (loc_by rfl) ?_
        · refine me_op om_mod ?_ ?_
          · refine me_ix hu1 ?_ ?_ (fun _ _ => rfl)
            · exact me_var (i := 0) rfl (vis_by rfl)
            · exact me_int
          · exact me_var (i := 1) rfl (vis_by rfl)
      · refine mss_cons ?_ ?_
        · refine ms_put hu1 ?_ ?_ ?_
          · exact me_var (i := 0) rfl (vis_by rfl)
          · exact me_int
          · refine me_op om_div ?_ ?_
            · refine me_ix hu1 ?_ ?_ (fun _ _ => rfl)
              · exact me_var (i := 0) rfl (vis_by rfl)
              · exact me_int
            · exact me_var (i := 1) rfl (vis_by rfl)
        · refine mss_cons ?_ ?_
          · refine ms_ret ?_
            · refine me_callTy (cm_int1) rfl (G.free _ (by decide)) (by rfl) ?_
              · refine ma_cons ?_ ?_
                · exact me_var (i := 2) rfl (vis_by rfl)
                · exact ma_nil
          · exact mss_nil
    · exact mss_nil
  · refine mss_cons ?_ ?_
    · refine ms_put hu1 ?_ ?_ ?_
      · exact me_var (i := 0) rfl (vis_by rfl)
      · exact me_int
      · refine me_op om_add ?_ ?_
        · refine me_ix hu1 ?_ ?_ (fun _ _ => rfl)
          · exact me_var (i := 0) rfl (vis_by rfl)
          · exact me_int
        · exact me_int
    · refine mss_cons ?_ ?_
      · refine ms_set (i := 3) nd rfl (loc_by rfl) ?_
        · refine me_op om_mod ?_ ?_
          · refine me_op om_add ?_ ?_
            · refine me_ix hu1 ?_ ?_ (fun _ _ => rfl)
              · exact me_var (i := 0) rfl (vis_by rfl)
              · exact me_int
            · refine me_op om_mul ?_ ?_
              · exact me_int
              · refine me_ix hu1 ?_ ?_ (fun _ _ => rfl)
                · exact me_var (i := 0) rfl (vis_by rfl)
                · exact me_int
          · exact me_int
      · refine mss_cons ?_ ?_
        · refine ms_set (i := 4) nd rfl (loc_by rfl) ?_
          · refine me_op om_add ?_ ?_
            · refine me_op om_mul ?_ ?_
              · refine me_op om_mod ?_ ?_
                · refine me_op om_add ?_ ?_
                  · refine me_op om_mul ?_ ?_
                    · exact me_var (i := 3) rfl (vis_by rfl)
                    · exact me_var (i := 3) rfl (vis_by rfl)
                  · refine me_op om_mul ?_ ?_
                    · exact me_int
                    · refine me_ix hu1 ?_ ?_ (fun _ _ => rfl)
                      · exact me_var (i := 0) rfl (vis_by rfl)
                      · exact me_int
                · exact me_int
              · exact me_int
            · exact me_var (i := 3) rfl (vis_by rfl)
        · refine mss_cons ?_ ?_
          · refine ms_ret ?_
            · refine me_op om_mod ?_ ?_
              · refine me_callTy (cm_int1) rfl (G.free _ (by decide)) (by rfl) ?_
                · refine ma_cons ?_ ?_
                  · refine me_op om_div ?_ ?_
                    · exact me_var (i := 4) rfl (vis_by rfl)
                    · exact me_int
                  · exact ma_nil
              · exact me_var (i := 1) rfl (vis_by rfl)
          · exact mss_nil
theorem ok__law_roll {P : Program} {w : World} {K : PySem.W.Frag} {mg : Str → Option Value} {base : Heap} (G : GF K mg frees glos nums txts) (GX : GK K mg base clss errs mths (tabs.map (·.1))) (GI : GI P w K mg base alls owns)  {fd : FuncData} (F : FunD K "_law_roll" "_law_roll" (defArgs (top 44)) (defBody (top 44)) (defScope (top 44)) [] [] (He.ga K "_law_roll") fd) (mgx : mg "_law_roll" = some (.ref (He.ga K "_law_roll"))) : DefOk P w K mg base 1 "_law_roll" ["dice", "total"] mf__law_roll :=
  DefOk.of F mgx (fun _ _ _ _ _ _ us hl => match us, hl with | [_, _], _ => rfl) sc__law_roll (fun cdv A outer s H E hr => body__law_roll G GX GI  cdv A outer s H E hr) (fun ds m _ w => runT_refn ds m w)
/-! ### _law_pick -/
theorem sc__law_pick : FnScope N__law_pick ["dice", "items"] (defScope (top 45)) := ⟨rfl, rfl, rfl, by decide +kernel, rfl, by decide +kernel, by decide +kernel⟩
theorem body__law_pick {P : Program} {w : World} {K : PySem.W.Frag} {mg : Str → Option Value} {base : Heap} (G : GF K mg frees glos nums txts) (GX : GK K mg base clss errs mths (tabs.map (·.1))) (GI : GI P w K mg base alls owns) (F__law_roll : DefOk P w K mg base 1 "_law_roll" ["dice", "total"] mf__law_roll) (cdv : Value) (A : Around) (outer : List Env) (s : Shared) (H : Hp) (E : XK) (hr : Room 1 (A.deeper (envOfC "_law_pick" (defScope (top 45)) s.heap.objs.size (He.ga K "_law_pick") cdv)))  :
    MSs (cxOf (L2.CX P w) P w K mg base N__law_pick "_law_pick" (defScope (top 45)) (He.ga K "_law_pick") cdv A outer s H E) (defBody (top 45)) mb__law_pick := by
  have hu : (cxOf (L2.CX P w) P w K mg base N__law_pick "_law_pick" (defScope (top 45)) (He.ga K "_law_pick") cdv A outer s H E).A.units + 64 < cLine := hr.units
  have hu1 : (cxOf (L2.CX P w) P w K mg base N__law_pick "_law_pick" (defScope (top 45)) (He.ga K "_law_pick") cdv A outer s H E).A.units + 1 < cLine := by omega
  have nd : N__law_pick.Nodup := sc__law_pick.nd
  refine mss_cons ?_ ?_
  · refine ms_ret ?_
    · refine me_ix hu1 ?_ ?_ (fun _ _ => rfl)
      · exact me_var (i := 1) rfl (vis_by rfl)
      · refine me_call (n := 2) (F__law_roll.mono (by decide)) hr rfl rfl rfl ?_
        · refine ma_cons ?_ ?_
          · exact me_var (i := 0) rfl (vis_by rfl)
          · refine ma_cons ?_ ?_
            · refine me_callB (cm_len) rfl (G.free _ (by decide)) (by rfl) ?_
              · refine ma_cons ?_ ?_
                · exact me_var (i := 1) rfl (vis_by rfl)
                · exact ma_nil
            · exact ma_nil
  · exact mss_nil
theorem ok__law_pick {P : Program} {w : World} {K : PySem.W.Frag} {mg : Str → Option Value} {base : Heap} (G : GF K mg frees glos nums txts) (GX : GK K mg base clss errs mths (tabs.map (·.1))) (GI : GI P w K mg base alls owns) (F__law_roll : DefOk P w K mg base 1 "_law_roll" ["dice", "total"] mf__law_roll) {fd : FuncData} (F : FunD K "_law_pick" "_law_pick" (defArgs (top 45)) (defBody (top 45)) (defScope (top 45)) [] [] (He.ga K "_law_pick") fd) (mgx : mg "_law_pick" = some (.ref (He.ga K "_law_pick"))) : DefOk P w K mg base 2 "_law_pick" ["dice", "items"] mf__law_pick :=
  DefOk.of F mgx (fun _ _ _ _ _ _ us hl => match us, hl with | [_, _], _ => rfl) sc__law_pick (fun cdv A outer s H E hr => body__law_pick G GX GI F__law_roll cdv A outer s H E hr) (fun ds m _ w => runT_refn ds m w)
/-! ### _law_rt_drawn -/
theorem sc__law_rt_drawn : FnScope N__law_rt_drawn ["dice", "rooms", "kinds"] (defScope (top 46)) := ⟨rfl, rfl, rfl, by decide +kernel, rfl, by decide +kernel, by decide +kernel⟩
theorem body__law_rt_drawn {P : Program} {w : World} {K : PySem.W.Frag} {mg : Str → Option Value} {base : Heap} (G : GF K mg frees glos nums txts) (GX : GK K mg base clss errs mths (tabs.map (·.1))) (GI : GI P w K mg base alls owns) (F__law_pick : DefOk P w K mg base 2 "_law_pick" ["dice", "items"] mf__law_pick) (cdv : Value) (A : Around) (outer : List Env) (s : Shared) (H : Hp) (E : XK) (hr : Room 2 (A.deeper (envOfC "_law_rt_drawn" (defScope (top 46)) s.heap.objs.size (He.ga K "_law_rt_drawn") cdv)))  :
    MSs (cxOf (L2.CX P w) P w K mg base N__law_rt_drawn "_law_rt_drawn" (defScope (top 46)) (He.ga K "_law_rt_drawn") cdv A outer s H E) (defBody (top 46)) mb__law_rt_drawn := by
  have hu : (cxOf (L2.CX P w) P w K mg base N__law_rt_drawn "_law_rt_drawn" (defScope (top 46)) (He.ga K "_law_rt_drawn") cdv A outer s H E).A.units + 64 < cLine := hr.units
  have hu1 : (cxOf (L2.CX P w) P w K mg base N__law_rt_drawn "_law_rt_drawn" (defScope (top 46)) (He.ga K "_law_rt_drawn") cdv A outer s H E).A.units + 1 < cLine := by omega
  have nd : N__law_rt_drawn.Nodup := sc__law_rt_drawn.nd
  refine mss_cons ?_ ?_
  · refine ms_set (i := 3) nd rfl (loc_by rfl) ?_
    · refine me_td ?_
      · refine me_callTy (cm_tuple) rfl (G.free _ (by decide)) (by rfl) ?_
        · refine ma_cons ?_ ?_
          · refine me_lc (own := [("at", 5)]) (ws := [5]) rfl nd ?_ (blkOk_by rfl) (by decide) (fun s H C cl fp => ?_) (fun s H C cl fp => ?_) (fun s H C cl fp => ?_)
            · refine mi_range1 rfl (G.free _ (by decide)) ?_
              · refine ma_cons ?_ ?_
                · exact me_var (i := 1) rfl (vis_by rfl)
                · exact ma_nil
            · exact mg_name (i := 5) nd rfl (loc_by rfl)
            · exact mts_nil
            · refine me_op om_add ?_ ?_
              · exact me_str
              · refine me_callTy (cm_strI) rfl (G.free _ (by decide)) (by rfl) ?_
                · refine ma_cons ?_ ?_
                  · exact me_var (i := 5) rfl (vis_by rfl)
                  · exact ma_nil
          · exact ma_nil
  · refine mss_cons ?_ ?_
    · refine ms_set (i := 4) nd rfl (loc_by rfl) ?_
      · refine me_disp ?_ rfl rfl (fun z => nomatch z) (by decide)
        · refine mp_cons ?_ ?_ ?_
          · exact me_str
          · exact me_var (i := 3) rfl (vis_by rfl)
          · refine mp_cons ?_ ?_ ?_
            · exact me_str
            · exact me_dct0
            · exact mp_nil
    · refine mss_cons ?_ ?_
      · refine ms_for (ws := [5]) (passes_of rfl) rfl ?_ ?_ ?_
        · refine mi_range1 rfl (G.free _ (by decide)) ?_
          · refine ma_cons ?_ ?_
            · exact me_var (i := 2) rfl (vis_by rfl)
            · exact ma_nil
        · exact mg_name (i := 5) nd rfl (loc_by rfl)
        · refine mss_cons ?_ ?_
          · refine ms_set (i := 6) nd rfl (loc_by rfl) ?_
            · exact me_dct0
          · refine mss_cons ?_ ?_
            · refine ms_lk _ ?_
              · refine ms_for (ws := [7]) (passes_of rfl) rfl ?_ ?_ ?_
                · refine mi_it ?_
                  · exact me_var (i := 3) rfl (vis_by rfl)
                · exact mg_name (i := 7) nd rfl (loc_by rfl)
                · refine mss_cons ?_ ?_
                  · refine ms_lk _ ?_
                    · refine ms_for (ws := [8]) (passes_of rfl) rfl ?_ ?_ ?_
                      · refine mi_it ?_
                        · exact me_var (i := 3) rfl (vis_by rfl)
                      · exact mg_name (i := 8) nd rfl (loc_by rfl)
                      · refine mss_cons ?_ ?_
                        · refine ms_set (i := 9) nd rfl (loc_by rfl) ?_
                          · refine me_call (n := 2) (F__law_pick.mono (by decide)) hr rfl rfl rfl ?_
                            · refine ma_cons ?_ ?_
                              · exact me_var (i := 0) rfl (vis_by rfl)
                              · refine ma_cons ?_ ?_
                                · refine me_of_le (le_lst ?_)
                                  · refine ma_cons ?_ ?_
                                    · exact me_int
                                    · refine ma_cons ?_ ?_
                                      · exact me_int
                                      · refine ma_cons ?_ ?_
                                        · exact me_int
                                        · refine ma_cons ?_ ?_
                                          · exact me_int
                                          · refine ma_cons ?_ ?_
                                            · exact me_int
                                            · refine ma_cons ?_ ?_
                                              · exact me_int
                                              · refine ma_cons ?_ ?_
                                                · refine me_un um_neg ?_
                                                  · exact me_int
                                                · refine ma_cons ?_ ?_
                                                  · exact me_int
                                                  · refine ma_cons ?_ ?_
                                                    · exact me_int
                                                    · exact ma_nil
                                · exact ma_nil
                        · refine mss_cons ?_ ?_
                          · refine ms_if ?_ ?_ ?_
                            · refine mt_cmp (om_ne hu) ?_ ?_ rfl
                              · exact me_var (i := 9) rfl (vis_by rfl)
                              · exact me_int
                            · refine mss_cons ?_ ?_
                              · refine ms_put hu1 ?_ ?_ ?_
                                · exact me_var (i := 6) rfl (vis_by rfl)
                                · refine me_tup ?_
                                  · refine ma_cons ?_ ?_
                                    · exact me_var (i := 7) rfl (vis_by rfl)
                                    · refine ma_cons ?_ ?_
                                      · exact me_var (i := 8) rfl (vis_by rfl)
                                      · exact ma_nil
                                · exact me_var (i := 9) rfl (vis_by rfl)
                              · exact mss_nil
                            · exact mss_nil
                          · exact mss_nil
                  · exact mss_nil
            · refine mss_cons ?_ ?_
              · refine ms_put hu1 ?_ ?_ ?_
                · refine me_ix hu1 ?_ ?_ (fun _ _ => rfl)
                  · exact me_var (i := 4) rfl (vis_by rfl)
                  · exact me_str
                · refine me_op om_add ?_ ?_
                  · exact me_str
                  · refine me_callTy (cm_strI) rfl (G.free _ (by decide)) (by rfl) ?_
                    · refine ma_cons ?_ ?_
                      · exact me_var (i := 5) rfl (vis_by rfl)
                      · exact ma_nil
                · exact me_var (i := 6) rfl (vis_by rfl)
              · exact mss_nil
      · refine mss_cons ?_ ?_
        · refine ms_ret ?_
          · exact me_var (i := 4) rfl (vis_by rfl)
        · exact mss_nil
theorem ok__law_rt_drawn {P : Program} {w : World} {K : PySem.W.Frag} {mg : Str → Option Value} {base : Heap} (G : GF K mg frees glos nums txts) (GX : GK K mg base clss errs mths (tabs.map (·.1))) (GI : GI P w K mg base alls owns) (F__law_pick : DefOk P w K mg base 2 "_law_pick" ["dice", "items"] mf__law_pick) {fd : FuncData} (F : FunD K "_law_rt_drawn" "_law_rt_drawn" (defArgs (top 46)) (defBody (top 46)) (defScope (top 46)) [] [] (He.ga K "_law_rt_drawn") fd) (mgx : mg "_law_rt_drawn" = some (.ref (He.ga K "_law_rt_drawn"))) : DefOk P w K mg base 3 "_law_rt_drawn" ["dice", "rooms", "kinds"] mf__law_rt_drawn :=
  DefOk.of F mgx (fun _ _ _ _ _ _ us hl => match us, hl with | [_, _, _], _ => rfl) sc__law_rt_drawn (fun cdv A outer s H E hr => body__law_rt_drawn G GX GI F__law_pick cdv A outer s H E hr) (fun ds m _ w => runT_refn ds m w)
/-! ### Book_table_told -/
theorem sc_Book_table_told : FnScope N_Book_table_told ["self", "told"] (defScope (cbody (top 22) 2)) := ⟨rfl, rfl, rfl, by decide +kernel, rfl, by decide +kernel, by decide +kernel⟩
theorem body_Book_table_told {P : Program} {w : World} {K : PySem.W.Frag} {mg : Str → Option Value} {base : Heap} (G : GF K mg frees glos nums txts) (GX : GK K mg base clss errs mths (tabs.map (·.1))) (GI : GI P w K mg base alls owns)  (cdv : Value) (A : Around) (outer : List Env) (s : Shared) (H : Hp) (E : XK) (hr : Room 0 (A.deeper (envOfC "Book.table_told" (defScope (cbody (top 22) 2)) s.heap.objs.size (He.ma K (He.ga K "Book") "table_told") cdv)))  :
    MSs (cxOf (L2.CX P w) P w K mg base N_Book_table_told "Book.table_told" (defScope (cbody (top 22) 2)) (He.ma K (He.ga K "Book") "table_told") cdv A outer s H E) (defBody (cbody (top 22) 2)) mb_Book_table_told := by
  have hu : (cxOf (L2.CX P w) P w K mg base N_Book_table_told "Book.table_told" (defScope (cbody (top 22) 2)) (He.ma K (He.ga K "Book") "table_told") cdv A outer s H E).A.units + 64 < cLine := hr.units
  have hu1 : (cxOf (L2.CX P w) P w K mg base N_Book_table_told "Book.table_told" (defScope (cbody (top 22) 2)) (He.ma K (He.ga K "Book") "table_told") cdv A outer s H E).A.units + 1 < cLine := by omega
  have nd : N_Book_table_told.Nodup := sc_Book_table_told.nd
  refine mss_cons ?_ ?_
  · refine ms_set (i := 2) nd rfl (loc_by rfl) ?_
    · refine me_slot (c := .book) (i := 1) (GX.cls .book (by decide)) rfl ?_
      · exact me_var (i := 0) rfl (vis_by rfl)
  · refine mss_cons ?_ ?_
    · refine ms_ret ?_
      · refine me_td ?_
        · refine me_callTy (cm_tuple) rfl (G.free _ (by decide)) (by rfl) ?_
          · refine ma_cons ?_ ?_
            · refine me_lk _ ?_
              · refine me_lc (own := [("room", 3)]) (ws := [3]) rfl nd ?_ (blkOk_by rfl) (by decide) (fun s H C cl fp => ?_) (fun s H C cl fp => ?_) (fun s H C cl fp => ?_)
                · refine mi_it ?_
                  · exact me_var (i := 2) rfl (vis_by rfl)
                · exact mg_name (i := 3) nd rfl (loc_by rfl)
                · exact mts_nil
                · refine me_td ?_
                  · refine me_callTy (cm_tuple) rfl (G.free _ (by decide)) (by rfl) ?_
                    · refine ma_cons ?_ ?_
                      · refine me_lk _ ?_
                        · refine me_lc (own := [("other", 4)]) (ws := [4]) rfl nd ?_ (blkOk_by rfl) (by decide) (fun s H C cl fp => ?_) (fun s H C cl fp => ?_) (fun s H C cl fp => ?_)
                          · refine mi_it ?_
                            · exact me_var (i := 2) rfl (vis_by rfl)
                          · exact mg_name (i := 4) nd rfl (loc_by rfl)
                          · exact mts_nil
                          · refine me_meth (t := .dct) F.plainAttrs_dict F.slot_dict_get F.type_dict_get (mm_get hu1) ?_ ?_
                            · exact me_var (i := 1) rfl (vis_by rfl)
                            · refine ma_cons ?_ ?_
                              · refine me_tup ?_
                                · refine ma_cons ?_ ?_
                                  · exact me_var (i := 3) rfl (vis_by rfl)
                                  · refine ma_cons ?_ ?_
                                    · exact me_var (i := 4) rfl (vis_by rfl)
                                    · exact ma_nil
                              · refine ma_cons ?_ ?_
                                · exact me_int
                                · exact ma_nil
                      · exact ma_nil
            · exact ma_nil
    · exact mss_nil
theorem ok_Book_table_told {P : Program} {w : World} {K : PySem.W.Frag} {mg : Str → Option Value} {base : Heap} (G : GF K mg frees glos nums txts) (GX : GK K mg base clss errs mths (tabs.map (·.1))) (GI : GI P w K mg base alls owns)  {fd : FuncData} (F : FunD K "table_told" "Book.table_told" (defArgs (cbody (top 22) 2)) (defBody (cbody (top 22) 2)) (defScope (cbody (top 22) 2)) [] [] (He.ma K (He.ga K "Book") "table_told") fd)  : MethOk P w K mg base 1 .book "table_told" ["self", "told"] mf_Book_table_told :=
  MethOk.of F (fun _ _ _ _ _ _ us hl => match us, hl with | [_, _], _ => rfl) sc_Book_table_told (fun cdv A outer s H E hr => body_Book_table_told G GX GI  cdv A outer s H E hr) (fun ds m _ w => runT_refn ds m w)
/-! ### is_name -/
theorem sc_is_name : FnScope N_is_name ["value"] (defScope (top 12)) := ⟨rfl, rfl, rfl, by decide +kernel, rfl, by decide +kernel, by decide +kernel⟩
theorem body_is_name {P : Program} {w : World} {K : PySem.W.Frag} {mg : Str → Option Value} {base : Heap} (G : GF K mg frees glos nums txts) (GX : GK K mg base clss errs mths (tabs.map (·.1))) (GI : GI P w K mg base alls owns)  (cdv : Value) (A : Around) (outer : List Env) (s : Shared) (H : Hp) (E : XK) (hr : Room 0 (A.deeper (envOfC "is_name" (defScope (top 12)) s.heap.objs.size (He.ga K "is_name") cdv)))  :
    MSs (cxOf (L2.CX P w) P w K mg base N_is_name "is_name" (defScope (top 12)) (He.ga K "is_name") cdv A outer s H E) (defBody (top 12)) mb_is_name := by
  have hu : (cxOf (L2.CX P w) P w K mg base N_is_name "is_name" (defScope (top 12)) (He.ga K "is_name") cdv A outer s H E).A.units + 64 < cLine := hr.units
  have hu1 : (cxOf (L2.CX P w) P w K mg base N_is_name "is_name" (defScope (top 12)) (He.ga K "is_name") cdv A outer s H E).A.units + 1 < cLine := by omega
  have nd : N_is_name.Nodup := sc_is_name.nd
  refine mss_cons ?_ ?_
  · refine ms_if ?_ ?_ ?_
    · refine MW.mt ?_
      · refine mw_or ?_ ?_
        · refine mt_not ?_
          · refine mt_val ?_
            · refine me_callB (cm_isi GX.cls) rfl (G.free _ (by decide)) (by rfl) ?_
              · refine ma_cons ?_ ?_
                · exact me_var (i := 0) rfl (vis_by rfl)
                · refine ma_cons ?_ ?_
                  · exact me_ty (t := .str) rfl (G.free _ (by decide)) (by rfl)
                  · exact ma_nil
        · refine mw_or ?_ ?_
          · refine mt_not ?_
            · refine mt_chain om_le om_le ?_ ?_ ?_
              · exact me_int
              · refine me_callB (cm_len) rfl (G.free _ (by decide)) (by rfl) ?_
                · refine ma_cons ?_ ?_
                  · exact me_var (i := 0) rfl (vis_by rfl)
                  · exact ma_nil
              · exact me_globI rfl (G.int _ _ (by decide))
          · refine mw_or1 ?_
            · refine mt_cmp (om_notIn hu1) ?_ ?_ rfl
              · refine me_ix hu1 ?_ ?_ (fun _ _ => rfl)
                · exact me_var (i := 0) rfl (vis_by rfl)
                · exact me_int
              · exact me_globS rfl (G.str _ _ (by decide))
    · refine mss_cons ?_ ?_
      · refine ms_ret ?_
        · exact me_bl
      · exact mss_nil
    · exact mss_nil
  · refine mss_cons ?_ ?_
    · refine ms_ret ?_
      · refine me_td ?_
        · refine me_callB (cm_all rfl) rfl (G.free _ (by decide)) (by rfl) ?_
          · refine ma_cons ?_ ?_
            · refine me_lk _ ?_
              · refine me_lc (own := [("sign", 1)]) (ws := [1]) rfl nd ?_ (blkOk_by rfl) (by decide) (fun s H C cl fp => ?_) (fun s H C cl fp => ?_) (fun s H C cl fp => ?_)
                · refine mi_it ?_
                  · exact me_var (i := 0) rfl (vis_by rfl)
                · exact mg_name (i := 1) nd rfl (loc_by rfl)
                · exact mts_nil
                · refine me_cmp (om_in hu1) ?_ ?_ rfl
                  · exact me_var (i := 1) rfl (vis_by rfl)
                  · exact me_globS rfl (G.str _ _ (by decide))
            · exact ma_nil
    · exact mss_nil
theorem ok_is_name {P : Program} {w : World} {K : PySem.W.Frag} {mg : Str → Option Value} {base : Heap} (G : GF K mg frees glos nums txts) (GX : GK K mg base clss errs mths (tabs.map (·.1))) (GI : GI P w K mg base alls owns)  {fd : FuncData} (F : FunD K "is_name" "is_name" (defArgs (top 12)) (defBody (top 12)) (defScope (top 12)) [] [] (He.ga K "is_name") fd) (mgx : mg "is_name" = some (.ref (He.ga K "is_name"))) : DefOk P w K mg base 1 "is_name" ["value"] mf_is_name :=
  DefOk.of F mgx (fun _ _ _ _ _ _ us hl => match us, hl with | [_], _ => rfl) sc_is_name (fun cdv A outer s H E hr => body_is_name G GX GI  cdv A outer s H E hr) (fun ds m _ w => runT_refn ds m w)
/-! ### is_room_tuple -/
theorem sc_is_room_tuple : FnScope N_is_room_tuple ["value"] (defScope (top 17)) := ⟨rfl, rfl, rfl, by decide +kernel, rfl, by decide +kernel, by decide +kernel⟩
theorem body_is_room_tuple {P : Program} {w : World} {K : PySem.W.Frag} {mg : Str → Option Value} {base : Heap} (G : GF K mg frees glos nums txts) (GX : GK K mg base clss errs mths (tabs.map (·.1))) (GI : GI P w K mg base alls owns) (F_is_name : DefOk P w K mg base 1 "is_name" ["value"] mf_is_name) (cdv : Value) (A : Around) (outer : List Env) (s : Shared) (H : Hp) (E : XK) (hr : Room 1 (A.deeper (envOfC "is_room_tuple" (defScope (top 17)) s.heap.objs.size (He.ga K "is_room_tuple") cdv)))  :
    MSs (cxOf (L2.CX P w) P w K mg base N_is_room_tuple "is_room_tuple" (defScope (top 17)) (He.ga K "is_room_tuple") cdv A outer s H E) (defBody (top 17)) mb_is_room_tuple := by
  have hu : (cxOf (L2.CX P w) P w K mg base N_is_room_tuple "is_room_tuple" (defScope (top 17)) (He.ga K "is_room_tuple") cdv A outer s H E).A.units + 64 < cLine := hr.units
  have hu1 : (cxOf (L2.CX P w) P w K mg base N_is_room_tuple "is_room_tuple" (defScope (top 17)) (He.ga K "is_room_tuple") cdv A outer s H E).A.units + 1 < cLine := by omega
  have nd : N_is_room_tuple.Nodup := sc_is_room_tuple.nd
  refine mss_cons ?_ ?_
  · refine ms_if ?_ ?_ ?_
    · refine MW.mt ?_
      · refine mw_or ?_ ?_
        · refine mt_not ?_
          · refine mt_val ?_
            · refine me_callB (cm_isi GX.cls) rfl (G.free _ (by decide)) (by rfl) ?_
              · refine ma_cons ?_ ?_
                · exact me_var (i := 0) rfl (vis_by rfl)
                · refine ma_cons ?_ ?_
                  · exact me_ty (t := .tup) rfl (G.free _ (by decide)) (by rfl)
                  · exact ma_nil
        · refine mw_or ?_ ?_
          · refine mt_not ?_
            · refine mt_chain om_le om_le ?_ ?_ ?_
              · exact me_int
              · refine me_callB (cm_len) rfl (G.free _ (by decide)) (by rfl) ?_
                · refine ma_cons ?_ ?_
                  · exact me_var (i := 0) rfl (vis_by rfl)
                  · exact ma_nil
              · exact me_globI rfl (G.int _ _ (by decide))
          · refine mw_or1 ?_
            · refine mt_not ?_
              · refine mt_val ?_
                · refine me_td ?_
                  · refine me_callB (cm_all rfl) rfl (G.free _ (by decide)) (by rfl) ?_
                    · refine ma_cons ?_ ?_
                      · refine me_lk _ ?_
                        · refine me_lc (own := [("one", 1)]) (ws := [1]) rfl nd ?_ (blkOk_by rfl) (by decide) (fun s H C cl fp => ?_) (fun s H C cl fp => ?_) (fun s H C cl fp => ?_)
                          · refine mi_it ?_
                            · exact me_var (i := 0) rfl (vis_by rfl)
                          · exact mg_name (i := 1) nd rfl (loc_by rfl)
                          · exact mts_nil
                          · refine me_call (n := 1) (F_is_name.mono (by decide)) hr rfl rfl rfl ?_
                            · refine ma_cons ?_ ?_
                              · exact me_var (i := 1) rfl (vis_by rfl)
                              · exact ma_nil
                      · exact ma_nil
    · refine mss_cons ?_ ?_
      · refine ms_ret ?_
        · exact me_bl
      · exact mss_nil
    · exact mss_nil
  · refine mss_cons ?_ ?_
    · refine ms_ret ?_
      · refine me_td ?_
        · refine me_callB (cm_all rfl) rfl (G.free _ (by decide)) (by rfl) ?_
          · refine ma_cons ?_ ?_
            · refine me_lc (own := [("one", 1), ("other", 2)]) (ws := ([1] ++ ([2] ++ []))) rfl nd ?_ (blkOk_by rfl) (by decide) (fun s H C cl fp => ?_) (fun s H C cl fp => ?_) (fun s H C cl fp => ?_)
              · refine mi_zip2 rfl (G.free _ (by decide)) ?_
                · refine ma_cons ?_ ?_
                  · exact me_var (i := 0) rfl (vis_by rfl)
                  · refine ma_cons ?_ ?_
                    · refine me_cut ?_ ?_ ?_
                      · exact me_var (i := 0) rfl (vis_by rfl)
                      · refine mb_some ?_
                        · exact me_int
                      · exact mb_none
                    · exact ma_nil
              · refine mg_tup rfl ?_
                · refine mgs_cons ?_ ?_
                  · exact mg_name (i := 1) nd rfl (loc_by rfl)
                  · refine mgs_cons ?_ ?_
                    · exact mg_name (i := 2) nd rfl (loc_by rfl)
                    · exact mgs_nil
              · exact mts_nil
              · refine me_cmp om_lt ?_ ?_ rfl
                · exact me_var (i := 1) rfl (vis_by rfl)
                · exact me_var (i := 2) rfl (vis_by rfl)
            · exact ma_nil
    · exact mss_nil
theorem ok_is_room_tuple {P : Program} {w : World} {K : PySem.W.Frag} {mg : Str → Option Value} {base : Heap} (G : GF K mg frees glos nums txts) (GX : GK K mg base clss errs mths (tabs.map (·.1))) (GI : GI P w K mg base alls owns) (F_is_name : DefOk P w K mg base 1 "is_name" ["value"] mf_is_name) {fd : FuncData} (F : FunD K "is_room_tuple" "is_room_tuple" (defArgs (top 17)) (defBody (top 17)) (defScope (top 17)) [] [] (He.ga K "is_room_tuple") fd) (mgx : mg "is_room_tuple" = some (.ref (He.ga K "is_room_tuple"))) : DefOk P w K mg base 2 "is_room_tuple" ["value"] mf_is_room_tuple :=
  DefOk.of F mgx (fun _ _ _ _ _ _ us hl => match us, hl with | [_], _ => rfl) sc_is_room_tuple (fun cdv A outer s H E hr => body_is_room_tuple G GX GI F_is_name cdv A outer s H E hr) (fun ds m _ w => runT_refn ds m w)
/-! ### are_rooms -/
theorem sc_are_rooms : FnScope N_are_rooms ["rooms", "pair"] (defScope (top 19)) := ⟨rfl, rfl, rfl, by decide +kernel, rfl, by decide +kernel, by decide +kernel⟩
theorem body_are_rooms {P : Program} {w : World} {K : PySem.W.Frag} {mg : Str → Option Value} {base : Heap} (G : GF K mg frees glos nums txts) (GX : GK K mg base clss errs mths (tabs.map (·.1))) (GI : GI P w K mg base alls owns)  (cdv : Value) (A : Around) (outer : List Env) (s : Shared) (H : Hp) (E : XK) (hr : Room 0 (A.deeper (envOfC "are_rooms" (defScope (top 19)) s.heap.objs.size (He.ga K "are_rooms") cdv)))  :
    MSs (cxOf (L2.CX P w) P w K mg base N_are_rooms "are_rooms" (defScope (top 19)) (He.ga K "are_rooms") cdv A outer s H E) (defBody (top 19)) mb_are_rooms := by
  have hu : (cxOf (L2.CX P w) P w K mg base N_are_rooms "are_rooms" (defScope (top 19)) (He.ga K "are_rooms") cdv A outer s H E).A.units + 64 < cLine := hr.units
  have hu1 : (cxOf (L2.CX P w) P w K mg base N_are_rooms "are_rooms" (defScope (top 19)) (He.ga K "are_rooms") cdv A outer s H E).A.units + 1 < cLine := by omega
  have nd : N_are_rooms.Nodup := sc_are_rooms.nd
  refine mss_cons ?_ ?_
  · refine ms_ret ?_
    · refine me_td ?_
      · refine me_callB (cm_all rfl) rfl (G.free _ (by decide)) (by rfl) ?_
        · refine ma_cons ?_ ?_
          · refine me_lk _ ?_
            · refine me_lc (own := [("room", 2)]) (ws := [2]) rfl nd ?_ (blkOk_by rfl) (by decide) (fun s H C cl fp => ?_) (fun s H C cl fp => ?_) (fun s H C cl fp => ?_)
              · refine mi_it ?_
                · exact me_var (i := 1) rfl (vis_by rfl)
              · exact mg_name (i := 2) nd rfl (loc_by rfl)
              · exact mts_nil
              · refine me_and ?_ ?_
                · refine me_callB (cm_isi GX.cls) rfl (G.free _ (by decide)) (by rfl) ?_
                  · refine ma_cons ?_ ?_
                    · exact me_var (i := 2) rfl (vis_by rfl)
                    · refine ma_cons ?_ ?_
                      · exact me_ty (t := .str) rfl (G.free _ (by decide)) (by rfl)
                      · exact ma_nil
                · refine me_one ?_
                  · refine me_cmp (om_in hu1) ?_ ?_ rfl
                    · exact me_var (i := 2) rfl (vis_by rfl)
                    · exact me_var (i := 0) rfl (vis_by rfl)
          · exact ma_nil
  · exact mss_nil
theorem ok_are_rooms {P : Program} {w : World} {K : PySem.W.Frag} {mg : Str → Option Value} {base : Heap} (G : GF K mg frees glos nums txts) (GX : GK K mg base clss errs mths (tabs.map (·.1))) (GI : GI P w K mg base alls owns)  {fd : FuncData} (F : FunD K "are_rooms" "are_rooms" (defArgs (top 19)) (defBody (top 19)) (defScope (top 19)) [] [] (He.ga K "are_rooms") fd) (mgx : mg "are_rooms" = some (.ref (He.ga K "are_rooms"))) : DefOk P w K mg base 1 "are_rooms" ["rooms", "pair"] mf_are_rooms :=
  DefOk.of F mgx (fun _ _ _ _ _ _ us hl => match us, hl with | [_, _], _ => rfl) sc_are_rooms (fun cdv A outer s H E hr => body_are_rooms G GX GI  cdv A outer s H E hr) (fun ds m _ w => runT_refn ds m w)
/-! ### is_integer -/
theorem sc_is_integer : FnScope N_is_integer ["value"] (defScope (top 11)) := ⟨rfl, rfl, rfl, by decide +kernel, rfl, by decide +kernel, by decide +kernel⟩
theorem body_is_integer {P : Program} {w : World} {K : PySem.W.Frag} {mg : Str → Option Value} {base : Heap} (G : GF K mg frees glos nums txts) (GX : GK K mg base clss errs mths (tabs.map (·.1))) (GI : GI P w K mg base alls owns)  (cdv : Value) (A : Around) (outer : List Env) (s : Shared) (H : Hp) (E : XK) (hr : Room 0 (A.deeper (envOfC "is_integer" (defScope (top 11)) s.heap.objs.size (He.ga K "is_integer") cdv)))  :
    MSs (cxOf (L2.CX P w) P w K mg base N_is_integer "is_integer" (defScope (top 11)) (He.ga K "is_integer") cdv A outer s H E) (defBody (top 11)) mb_is_integer := by
  have hu : (cxOf (L2.CX P w) P w K mg base N_is_integer "is_integer" (defScope (top 11)) (He.ga K "is_integer") cdv A outer s H E).A.units + 64 < cLine := hr.units
  have hu1 : (cxOf (L2.CX P w) P w K mg base N_is_integer "is_integer" (defScope (top 11)) (He.ga K "is_integer") cdv A outer s H E).A.units + 1 < cLine := by omega
  have nd : N_is_integer.Nodup := sc_is_integer.nd
  refine mss_cons ?_ ?_
  · refine ms_ret ?_
    · refine me_and ?_ ?_
      · refine me_callB (cm_isi GX.cls) rfl (G.free _ (by decide)) (by rfl) ?_
        · refine ma_cons ?_ ?_
          · exact me_var (i := 0) rfl (vis_by rfl)
          · refine ma_cons ?_ ?_
            · exact me_ty (t := .int) rfl (G.free _ (by decide)) (by rfl)
            · exact ma_nil
      · refine me_one ?_
        · refine me_not ?_
          · refine me_callB (cm_isi GX.cls) rfl (G.free _ (by decide)) (by rfl) ?_
            · refine ma_cons ?_ ?_
              · exact me_var (i := 0) rfl (vis_by rfl)
              · refine ma_cons ?_ ?_
                · exact me_ty (t := .bl) rfl (G.free _ (by decide)) (by rfl)
                · exact ma_nil
  · exact mss_nil
theorem ok_is_integer {P : Program} {w : World} {K : PySem.W.Frag} {mg : Str → Option Value} {base : Heap} (G : GF K mg frees glos nums txts) (GX : GK K mg base clss errs mths (tabs.map (·.1))) (GI : GI P w K mg base alls owns)  {fd : FuncData} (F : FunD K "is_integer" "is_integer" (defArgs (top 11)) (defBody (top 11)) (defScope (top 11)) [] [] (He.ga K "is_integer") fd) (mgx : mg "is_integer" = some (.ref (He.ga K "is_integer"))) : DefOk P w K mg base 1 "is_integer" ["value"] mf_is_integer :=
  DefOk.of F mgx (fun _ _ _ _ _ _ us hl => match us, hl with | [_], _ => rfl) sc_is_integer (fun cdv A outer s H E hr => body_is_integer G GX GI  cdv A outer s H E hr) (fun ds m _ w => runT_refn ds m w)
/-! ### is_told -/
theorem sc_is_told : FnScope N_is_told ["rooms", "value"] (defScope (top 18)) := ⟨rfl, rfl, rfl, by decide +kernel, rfl, by decide +kernel, by decide +kernel⟩
theorem body_is_told {P : Program} {w : World} {K : PySem.W.Frag} {mg : Str → Option Value} {base : Heap} (G : GF K mg frees glos nums txts) (GX : GK K mg base clss errs mths (tabs.map (·.1))) (GI : GI P w K mg base alls owns) (F_are_rooms : DefOk P w K mg base 1 "are_rooms" ["rooms", "pair"] mf_are_rooms) (F_is_integer : DefOk P w K mg base 1 "is_integer" ["value"] mf_is_integer) (cdv : Value) (A : Around) (outer : List Env) (s : Shared) (H : Hp) (E : XK) (hr : Room 1 (A.deeper (envOfC "is_told" (defScope (top 18)) s.heap.objs.size (He.ga K "is_told") cdv)))  :
    MSs (cxOf (L2.CX P w) P w K mg base N_is_told "is_told" (defScope (top 18)) (He.ga K "is_told") cdv A outer s H E) (defBody (top 18)) mb_is_told := by
  have hu : (cxOf (L2.CX P w) P w K mg base N_is_told "is_told" (defScope (top 18)) (He.ga K "is_told") cdv A outer s H E).A.units + 64 < cLine := hr.units
  have hu1 : (cxOf (L2.CX P w) P w K mg base N_is_told "is_told" (defScope (top 18)) (He.ga K "is_told") cdv A outer s H E).A.units + 1 < cLine := by omega
  have nd : N_is_told.Nodup := sc_is_told.nd
  refine mss_cons ?_ ?_
  · refine ms_if ?_ ?_ ?_
    · refine MW.mt ?_
      · refine mw_or ?_ ?_
        · refine mt_not ?_
          · refine mt_val ?_
            · refine me_callB (cm_isi GX.cls) rfl (G.free _ (by decide)) (by rfl) ?_
              · refine ma_cons ?_ ?_
                · exact me_var (i := 1) rfl (vis_by rfl)
                · refine ma_cons ?_ ?_
                  · exact me_ty (t := .dct) rfl (G.free _ (by decide)) (by rfl)
                  · exact ma_nil
        · refine mw_or1 ?_
          · refine mt_not ?_
            · refine mt_val ?_
              · refine me_td ?_
                · refine me_callB (cm_all rfl) rfl (G.free _ (by decide)) (by rfl) ?_
                  · refine ma_cons ?_ ?_
                    · refine me_lk _ ?_
                      · refine me_lc (own := [("one", 3)]) (ws := [3]) rfl nd ?_ (blkOk_by rfl) (by decide) (fun s H C cl fp => ?_) (fun s H C cl fp => ?_) (fun s H C cl fp => ?_)
                        · refine mi_vals ?_
                          · exact me_var (i := 1) rfl (vis_by rfl)
                        · exact mg_name (i := 3) nd rfl (loc_by rfl)
                        · exact mts_nil
                        · refine me_and ?_ ?_
                          · refine me_call (n := 1) (F_is_integer.mono (by decide)) hr rfl rfl rfl ?_
                            · refine ma_cons ?_ ?_
                              · exact me_var (i := 3) rfl (vis_by rfl)
                              · exact ma_nil
                          · refine me_one ?_
                            · refine me_cmp om_le ?_ ?_ rfl
                              · refine me_callB (cm_abs) rfl (G.free _ (by decide)) (by rfl) ?_
                                · refine ma_cons ?_ ?_
                                  · exact me_var (i := 3) rfl (vis_by rfl)
                                  · exact ma_nil
                              · exact me_globI rfl (G.int _ _ (by decide))
                    · exact ma_nil
    · refine mss_cons ?_ ?_
      · refine ms_ret ?_
        · exact me_bl
      · exact mss_nil
    · exact mss_nil
  · refine mss_cons ?_ ?_
    · refine ms_ret ?_
      · refine me_td ?_
        · refine me_callB (cm_all rfl) rfl (G.free _ (by decide)) (by rfl) ?_
          · refine ma_cons ?_ ?_
            · refine me_lk _ ?_
              · refine me_lc (own := [("pair", 2)]) (ws := [2]) rfl nd ?_ (blkOk_by rfl) (by decide) (fun s H C cl fp => ?_) (fun s H C cl fp => ?_) (fun s H C cl fp => ?_)
                · refine mi_it ?_
                  · exact me_var (i := 1) rfl (vis_by rfl)
                · exact mg_name (i := 2) nd rfl (loc_by rfl)
                · exact mts_nil
                · refine me_and ?_ ?_
                  · refine me_callB (cm_isi GX.cls) rfl (G.free _ (by decide)) (by rfl) ?_
                    · refine ma_cons ?_ ?_
                      · exact me_var (i := 2) rfl (vis_by rfl)
                      · refine ma_cons ?_ ?_
                        · exact me_ty (t := .tup) rfl (G.free _ (by decide)) (by rfl)
                        · exact ma_nil
                  · refine me_and ?_ ?_
                    · refine me_cmp (om_eq hu) ?_ ?_ rfl
                      · refine me_callB (cm_len) rfl (G.free _ (by decide)) (by rfl) ?_
                        · refine ma_cons ?_ ?_
                          · exact me_var (i := 2) rfl (vis_by rfl)
                          · exact ma_nil
                      · exact me_int
                    · refine me_one ?_
                      · refine me_call (n := 2) (F_are_rooms.mono (by decide)) hr rfl rfl rfl ?_
                        · refine ma_cons ?_ ?_
                          · exact me_var (i := 0) rfl (vis_by rfl)
                          · refine ma_cons ?_ ?_
                            · exact me_var (i := 2) rfl (vis_by rfl)
                            · exact ma_nil
            · exact ma_nil
    · exact mss_nil
theorem ok_is_told {P : Program} {w : World} {K : PySem.W.Frag} {mg : Str → Option Value} {base : Heap} (G : GF K mg frees glos nums txts) (GX : GK K mg base clss errs mths (tabs.map (·.1))) (GI : GI P w K mg base alls owns) (F_are_rooms : DefOk P w K mg base 1 "are_rooms" ["rooms", "pair"] mf_are_rooms) (F_is_integer : DefOk P w K mg base 1 "is_integer" ["value"] mf_is_integer) {fd : FuncData} (F : FunD K "is_told" "is_told" (defArgs (top 18)) (defBody (top 18)) (defScope (top 18)) [] [] (He.ga K "is_told") fd) (mgx : mg "is_told" = some (.ref (He.ga K "is_told"))) : DefOk P w K mg base 2 "is_told" ["rooms", "value"] mf_is_told :=
  DefOk.of F mgx (fun _ _ _ _ _ _ us hl => match us, hl with | [_, _], _ => rfl) sc_is_told (fun cdv A outer s H E hr => body_is_told G GX GI F_are_rooms F_is_integer cdv A outer s H E hr) (fun ds m _ w => runT_refn ds m w)
/-! ### fault_in -/
theorem sc_fault_in : FnScope N_fault_in ["rooms", "kinds"] (defScope (top 20)) := ⟨rfl, rfl, rfl, by decide +kernel, rfl, by decide +kernel, by decide +kernel⟩
theorem body_fault_in {P : Program} {w : World} {K : PySem.W.Frag} {mg : Str → Option Value} {base : Heap} (G : GF K mg frees glos nums txts) (GX : GK K mg base clss errs mths (tabs.map (·.1))) (GI : GI P w K mg base alls owns) (F_is_name : DefOk P w K mg base 1 "is_name" ["value"] mf_is_name) (F_is_room_tuple : DefOk P w K mg base 2 "is_room_tuple" ["value"] mf_is_room_tuple) (F_is_told : DefOk P w K mg base 2 "is_told" ["rooms", "value"] mf_is_told) (A : Around) (outer : List Env) (s : Shared) (H : Hp) (E : XK) (hr : Room 2 (A.deeper (envOfC "fault_in" (defScope (top 20)) s.heap.objs.size (He.ga K "fault_in") (.ref (He.cT K ("fault_in", none)).1))))  :
    MSs (cxOf (L2.CX P w) P w K mg base N_fault_in "fault_in" (defScope (top 20)) (He.ga K "fault_in") (.ref (He.cT K ("fault_in", none)).1) A outer s H E) (defBody (top 20)) mb_fault_in := by
  have hu : (cxOf (L2.CX P w) P w K mg base N_fault_in "fault_in" (defScope (top 20)) (He.ga K "fault_in") (.ref (He.cT K ("fault_in", none)).1) A outer s H E).A.units + 64 < cLine := hr.units
  have hu1 : (cxOf (L2.CX P w) P w K mg base N_fault_in "fault_in" (defScope (top 20)) (He.ga K "fault_in") (.ref (He.cT K ("fault_in", none)).1) A outer s H E).A.units + 1 < cLine := by omega
  have nd : N_fault_in.Nodup := sc_fault_in.nd
  refine mss_cons ?_ ?_
  · refine ms_if ?_ ?_ ?_
    · refine mt_not ?_
      · refine mt_val ?_
        · refine me_call (n := 1) (F_is_room_tuple.mono (by decide)) hr rfl rfl rfl ?_
          · refine ma_cons ?_ ?_
            · exact me_var (i := 0) rfl (vis_by rfl)
            · exact ma_nil
    · refine mss_cons ?_ ?_
      · refine ms_ret ?_
        · refine me_tup ?_
          · refine ma_cons ?_ ?_
            · exact me_str
            · exact ma_nil
      · exact mss_nil
    · exact mss_nil
  · refine mss_cons ?_ ?_
    · refine ms_if ?_ ?_ ?_
      · refine MW.mt ?_
        · refine mw_or ?_ ?_
          · refine mt_not ?_
            · refine mt_val ?_
              · refine me_callB (cm_isi GX.cls) rfl (G.free _ (by decide)) (by rfl) ?_
                · refine ma_cons ?_ ?_
                  · exact me_var (i := 1) rfl (vis_by rfl)
                  · refine ma_cons ?_ ?_
                    · exact me_ty (t := .dct) rfl (G.free _ (by decide)) (by rfl)
                    · exact ma_nil
          · refine mw_or1 ?_
            · refine mt_not ?_
              · refine mt_chain om_le om_le ?_ ?_ ?_
                · exact me_int
                · refine me_callB (cm_len) rfl (G.free _ (by decide)) (by rfl) ?_
                  · refine ma_cons ?_ ?_
                    · exact me_var (i := 1) rfl (vis_by rfl)
                    · exact ma_nil
                · exact me_globI rfl (G.int _ _ (by decide))
      · refine mss_cons ?_ ?_
        · refine ms_ret ?_
          · refine me_tup ?_
            · refine ma_cons ?_ ?_
              · exact me_str
              · refine ma_cons ?_ ?_
                · exact me_non
                · exact ma_nil
        · exact mss_nil
      · exact mss_nil
    · refine mss_cons ?_ ?_
      · refine ms_set (i := 2) nd rfl (loc_by rfl) ?_
        · refine me_sortK0 (d := ("fault_in", none)) (GX.tab _ (by decide)) rfl (by first | rfl | kernel_rfl) rfl (G.free _ (by decide)) (by rfl) ?_ rfl (nofree_by rfl)
          · refine me_lk _ ?_
            · refine me_lc (own := [("key", 3)]) (ws := [3]) rfl nd ?_ (blkOk_by rfl) (by decide) (fun s H C cl fp => ?_) (fun s H C cl fp => ?_) (fun s H C cl fp => ?_)
              · refine mi_it ?_
                · exact me_var (i := 1) rfl (vis_by rfl)
              · exact mg_name (i := 3) nd rfl (loc_by rfl)
              · refine mts_one ?_
                · refine mt_not ?_
                  · refine mt_val ?_
                    · refine me_callB (cm_isi GX.cls) rfl (G.free _ (by decide)) (by rfl) ?_
                      · refine ma_cons ?_ ?_
                        · exact me_var (i := 3) rfl (vis_by rfl)
                        · refine ma_cons ?_ ?_
                          · exact me_ty (t := .str) rfl (G.free _ (by decide)) (by rfl)
                          · exact ma_nil
              · exact me_var (i := 3) rfl (vis_by rfl)
      · refine mss_cons ?_ ?_
        · refine ms_if ?_ ?_ ?_
          · refine mt_cmp (om_eq hu) ?_ ?_ rfl
            · exact me_var (i := 2) rfl (vis_by rfl)
            · refine me_of_le (le_lst ?_)
              · exact ma_nil
          · refine mss_cons ?_ ?_
            · refine ms_set (i := 2) nd rfl (loc_by rfl) ?_
              · refine me_td ?_
                · refine me_callB (cm_sorted rfl) rfl (G.free _ (by decide)) (by rfl) ?_
                  · refine ma_cons ?_ ?_
                    · refine me_lk _ ?_
                      · refine me_lc (own := [("key", 3)]) (ws := [3]) rfl nd ?_ (blkOk_by rfl) (by decide) (fun s H C cl fp => ?_) (fun s H C cl fp => ?_) (fun s H C cl fp => ?_)
                        · refine mi_it ?_
                          · exact me_var (i := 1) rfl (vis_by rfl)
                        · exact mg_name (i := 3) nd rfl (loc_by rfl)
                        · refine mts_one ?_
                          · refine MW.mt ?_
                            · refine mw_or ?_ ?_
                              · refine mt_not ?_
                                · refine mt_val ?_
                                  · refine me_call (n := 1) (F_is_name.mono (by decide)) hr rfl rfl rfl ?_
                                    · refine ma_cons ?_ ?_
                                      · exact me_var (i := 3) rfl (vis_by rfl)
                                      · exact ma_nil
                              · refine mw_or1 ?_
                                · refine mt_not ?_
                                  · refine mt_val ?_
                                    · refine me_call (n := 2) (F_is_told.mono (by decide)) hr rfl rfl rfl ?_
                                      · refine ma_cons ?_ ?_
                                        · exact me_var (i := 0) rfl (vis_by rfl)
                                        · refine ma_cons ?_ ?_
                                          · refine me_ix hu1 ?_ ?_ (fun _ _ => rfl)
                                            · exact me_var (i := 1) rfl (vis_by rfl)
                                            · exact me_var (i := 3) rfl (vis_by rfl)
                                          · exact ma_nil
                        · exact me_var (i := 3) rfl (vis_by rfl)
                    · exact ma_nil
            · exact mss_nil
          · exact mss_nil
        · refine mss_cons ?_ ?_
          · refine ms_ret ?_
            · refine me_if ?_ ?_ ?_
              · refine mt_cmp (om_ne hu) ?_ ?_ rfl
                · exact me_var (i := 2) rfl (vis_by rfl)
                · refine me_of_le (le_lst ?_)
                  · exact ma_nil
              · refine me_tup ?_
                · refine ma_cons ?_ ?_
                  · exact me_str
                  · refine ma_cons ?_ ?_
                    · refine me_ix hu1 ?_ ?_ (fun _ _ => rfl)
                      · exact me_var (i := 2) rfl (vis_by rfl)
                      · exact me_int
                    · exact ma_nil
              · exact me_non
          · exact mss_nil
theorem ok_fault_in {P : Program} {w : World} {K : PySem.W.Frag} {mg : Str → Option Value} {base : Heap} (G : GF K mg frees glos nums txts) (GX : GK K mg base clss errs mths (tabs.map (·.1))) (GI : GI P w K mg base alls owns) (F_is_name : DefOk P w K mg base 1 "is_name" ["value"] mf_is_name) (F_is_room_tuple : DefOk P w K mg base 2 "is_room_tuple" ["value"] mf_is_room_tuple) (F_is_told : DefOk P w K mg base 2 "is_told" ["rooms", "value"] mf_is_told) {fd : FuncData} (F : FunD K "fault_in" "fault_in" (defArgs (top 20)) (defBody (top 20)) (defScope (top 20)) [] [] (He.ga K "fault_in") fd) (mgx : mg "fault_in" = some (.ref (He.ga K "fault_in"))) : DefOk P w K mg base 3 "fault_in" ["rooms", "kinds"] mf_fault_in :=
  DefOk.ofT F mgx (fun _ _ _ _ _ _ us hl => match us, hl with | [_, _], _ => rfl) sc_fault_in (fun A outer s H E hr => body_fault_in G GX GI F_is_name F_is_room_tuple F_is_told A outer s H E hr) (fun ds m _ w => runT_refn ds m w)
/-! ### without_noughts -/
theorem sc_without_noughts : FnScope N_without_noughts ["told"] (defScope (top 21)) := ⟨rfl, rfl, rfl, by decide +kernel, rfl, by decide +kernel, by decide +kernel⟩
theorem body_without_noughts {P : Program} {w : World} {K : PySem.W.Frag} {mg : Str → Option Value} {base : Heap} (G : GF K mg frees glos nums txts) (GX : GK K mg base clss errs mths (tabs.map (·.1))) (GI : GI P w K mg base alls owns)  (cdv : Value) (A : Around) (outer : List Env) (s : Shared) (H : Hp) (E : XK) (hr : Room 0 (A.deeper (envOfC "without_noughts" (defScope (top 21)) s.heap.objs.size (He.ga K "without_noughts") cdv)))  :
    MSs (cxOf (L2.CX P w) P w K mg base N_without_noughts "without_noughts" (defScope (top 21)) (He.ga K "without_noughts") cdv A outer s H E) (defBody (top 21)) mb_without_noughts := by
  have hu : (cxOf (L2.CX P w) P w K mg base N_without_noughts "without_noughts" (defScope (top 21)) (He.ga K "without_noughts") cdv A outer s H E).A.units + 64 < cLine := hr.units
  have hu1 : (cxOf (L2.CX P w) P w K mg base N_without_noughts "without_noughts" (defScope (top 21)) (He.ga K "without_noughts") cdv A outer s H E).A.units + 1 < cLine := by omega
  have nd : N_without_noughts.Nodup := sc_without_noughts.nd
  refine mss_cons ?_ ?_
  · refine ms_ret ?_
    · refine me_lk _ ?_
      · refine me_dc (own := [("pair", 1)]) (ws := [1]) hu1 rfl nd ?_ (blkOk_by rfl) (by decide) (fun s H C cl fp => ?_) (fun s H C cl fp => ?_) (fun s H C cl fp => ?_) (fun s H C cl fp => ?_)
        · refine mi_it ?_
          · refine me_lk _ ?_
            · refine me_callB (cm_sorted rfl) rfl (G.free _ (by decide)) (by rfl) ?_
              · refine ma_cons ?_ ?_
                · exact me_var (i := 0) rfl (vis_by rfl)
                · exact ma_nil
        · exact mg_name (i := 1) nd rfl (loc_by rfl)
        · refine mts_one ?_
          · refine mt_cmp (om_ne hu) ?_ ?_ rfl
            · refine me_ix hu1 ?_ ?_ (fun _ _ => rfl)
              · exact me_var (i := 0) rfl (vis_by rfl)
              · exact me_var (i := 1) rfl (vis_by rfl)
            · exact me_int
        · exact me_var (i := 1) rfl (vis_by rfl)
        · refine me_ix hu1 ?_ ?_ (fun _ _ => rfl)
          · exact me_var (i := 0) rfl (vis_by rfl)
          · exact me_var (i := 1) rfl (vis_by rfl)
  · exact mss_nil
theorem ok_without_noughts {P : Program} {w : World} {K : PySem.W.Frag} {mg : Str → Option Value} {base : Heap} (G : GF K mg frees glos nums txts) (GX : GK K mg base clss errs mths (tabs.map (·.1))) (GI : GI P w K mg base alls owns)  {fd : FuncData} (F : FunD K "without_noughts" "without_noughts" (defArgs (top 21)) (defBody (top 21)) (defScope (top 21)) [] [] (He.ga K "without_noughts") fd) (mgx : mg "without_noughts" = some (.ref (He.ga K "without_noughts"))) : DefOk P w K mg base 1 "without_noughts" ["told"] mf_without_noughts :=
  DefOk.of F mgx (fun _ _ _ _ _ _ us hl => match us, hl with | [_], _ => rfl) sc_without_noughts (fun cdv A outer s H E hr => body_without_noughts G GX GI  cdv A outer s H E hr) (fun ds m _ w => runT_refn ds m w)
/-! ### Book___init__ -/
theorem sc_Book___init__ : FnScope N_Book___init__ ["self", "rooms", "kinds"] (defScope (cbody (top 22) 1)) := ⟨rfl, rfl, rfl, by decide +kernel, rfl, by decide +kernel, by decide +kernel⟩
theorem body_Book___init__ {P : Program} {w : World} {K : PySem.W.Frag} {mg : Str → Option Value} {base : Heap} (G : GF K mg frees glos nums txts) (GX : GK K mg base clss errs mths (tabs.map (·.1))) (GI : GI P w K mg base alls owns) (F_Book_table_told : MethOk P w K mg base 1 .book "table_told" ["self", "told"] mf_Book_table_told) (F_fault_in : DefOk P w K mg base 3 "fault_in" ["rooms", "kinds"] mf_fault_in) (F_without_noughts : DefOk P w K mg base 1 "without_noughts" ["told"] mf_without_noughts) (cdv : Value) (A : Around) (outer : List Env) (s : Shared) (H : Hp) (E : XK) (hr : Room 3 (A.deeper (envOfC "Book.__init__" (defScope (cbody (top 22) 1)) s.heap.objs.size (He.ma K (He.ga K "Book") "__init__") cdv)))  :
    MSs (cxOf (L2.CX P w) P w K mg base N_Book___init__ "Book.__init__" (defScope (cbody (top 22) 1)) (He.ma K (He.ga K "Book") "__init__") cdv A outer s H E) (defBody (cbody (top 22) 1)) mb_Book___init__ := by
  have hu : (cxOf (L2.CX P w) P w K mg base N_Book___init__ "Book.__init__" (defScope (cbody (top 22) 1)) (He.ma K (He.ga K "Book") "__init__") cdv A outer s H E).A.units + 64 < cLine := hr.units
  have hu1 : (cxOf (L2.CX P w) P w K mg base N_Book___init__ "Book.__init__" (defScope (cbody (top 22) 1)) (He.ma K (He.ga K "Book") "__init__") cdv A outer s H E).A.units + 1 < cLine := by omega
  have nd : N_Book___init__.Nodup := sc_Book___init__.nd
  refine mss_cons ?_ ?_
  · refine ms_if ?_ ?_ ?_
    · refine mt_cmp om_notN ?_ ?_ rfl
      · refine me_call (n := 2) (F_fault_in.mono (by decide)) hr rfl rfl rfl ?_
        · refine ma_cons ?_ ?_
          · exact me_var (i := 1) rfl (vis_by rfl)
          · refine ma_cons ?_ ?_
            · exact me_var (i := 2) rfl (vis_by rfl)
            · exact ma_nil
      · exact me_non
    · refine mss_cons ?_ ?_
      · exact ms_raise0 rfl (GX.err .book (by decide)) rfl rfl
      · exact mss_nil
    · exact mss_nil
  · refine mss_cons ?_ ?_
    · refine ms_slot (c := .book) (i := 1) (GX.cls .book (by decide)) rfl ?_ ?_
      · exact me_var (i := 0) rfl (vis_by rfl)
      · exact me_var (i := 1) rfl (vis_by rfl)
    · refine mss_cons ?_ ?_
      · refine ms_slot (c := .book) (i := 2) (GX.cls .book (by decide)) rfl ?_ ?_
        · exact me_var (i := 0) rfl (vis_by rfl)
        · refine me_callB (cm_len) rfl (G.free _ (by decide)) (by rfl) ?_
          · refine ma_cons ?_ ?_
            · exact me_var (i := 1) rfl (vis_by rfl)
            · exact ma_nil
      · refine mss_cons ?_ ?_
        · refine ms_slot (c := .book) (i := 0) (GX.cls .book (by decide)) rfl ?_ ?_
          · exact me_var (i := 0) rfl (vis_by rfl)
          · refine me_lk _ ?_
            · refine me_dc (own := [("kind", 3)]) (ws := [3]) hu1 rfl nd ?_ (blkOk_by rfl) (by decide) (fun s H C cl fp => ?_) (fun s H C cl fp => ?_) (fun s H C cl fp => ?_) (fun s H C cl fp => ?_)
              · refine mi_it ?_
                · refine me_lk _ ?_
                  · refine me_callB (cm_sorted rfl) rfl (G.free _ (by decide)) (by rfl) ?_
                    · refine ma_cons ?_ ?_
                      · exact me_var (i := 2) rfl (vis_by rfl)
                      · exact ma_nil
              · exact mg_name (i := 3) nd rfl (loc_by rfl)
              · exact mts_nil
              · exact me_var (i := 3) rfl (vis_by rfl)
              · refine me_call (n := 1) (F_without_noughts.mono (by decide)) hr rfl rfl rfl ?_
                · refine ma_cons ?_ ?_
                  · refine me_ix hu1 ?_ ?_ (fun _ _ => rfl)
                    · exact me_var (i := 2) rfl (vis_by rfl)
                    · exact me_var (i := 3) rfl (vis_by rfl)
                  · exact ma_nil
        · refine mss_cons ?_ ?_
          · refine ms_slot (c := .book) (i := 3) (GX.cls .book (by decide)) rfl ?_ ?_
            · exact me_var (i := 0) rfl (vis_by rfl)
            · refine me_lk _ ?_
              · refine me_dc (own := [("kind", 3)]) (ws := [3]) hu1 rfl nd ?_ (blkOk_by rfl) (by decide) (fun s H C cl fp => ?_) (fun s H C cl fp => ?_) (fun s H C cl fp => ?_) (fun s H C cl fp => ?_)
                · refine mi_it ?_
                  · refine me_slot (c := .book) (i := 0) (GX.cls .book (by decide)) rfl ?_
                    · exact me_var (i := 0) rfl (vis_by rfl)
                · exact mg_name (i := 3) nd rfl (loc_by rfl)
                · exact mts_nil
                · exact me_var (i := 3) rfl (vis_by rfl)
                · refine me_own (n := 1) (c := .book) (GX.cls .book (by decide)) (GX.meth (.book, "table_told") (by decide)) (F_Book_table_told.mono (by decide)) hr rfl rfl ?_ ?_
                  · exact me_var (i := 0) rfl (vis_by rfl)
                  · refine ma_cons ?_ ?_
                    · refine me_ix hu1 ?_ ?_ (fun _ _ => rfl)
                      · refine me_slot (c := .book) (i := 0) (GX.cls .book (by decide)) rfl ?_
                        · exact me_var (i := 0) rfl (vis_by rfl)
                      · exact me_var (i := 3) rfl (vis_by rfl)
                    · exact ma_nil
          · exact mss_nil
theorem ok_Book___init__ {P : Program} {w : World} {K : PySem.W.Frag} {mg : Str → Option Value} {base : Heap} (G : GF K mg frees glos nums txts) (GX : GK K mg base clss errs mths (tabs.map (·.1))) (GI : GI P w K mg base alls owns) (F_Book_table_told : MethOk P w K mg base 1 .book "table_told" ["self", "told"] mf_Book_table_told) (F_fault_in : DefOk P w K mg base 3 "fault_in" ["rooms", "kinds"] mf_fault_in) (F_without_noughts : DefOk P w K mg base 1 "without_noughts" ["told"] mf_without_noughts) {fd : FuncData} (F : FunD K "__init__" "Book.__init__" (defArgs (cbody (top 22) 1)) (defBody (cbody (top 22) 1)) (defScope (cbody (top 22) 1)) [] [] (He.ma K (He.ga K "Book") "__init__") fd)  : MethOk P w K mg base 4 .book "__init__" ["self", "rooms", "kinds"] mf_Book___init__ :=
  MethOk.of F (fun _ _ _ _ _ _ us hl => match us, hl with | [_, _, _], _ => rfl) sc_Book___init__ (fun cdv A outer s H E hr => body_Book___init__ G GX GI F_Book_table_told F_fault_in F_without_noughts cdv A outer s H E hr) (fun ds m _ _ => Refn.refl _)
/-! ### _law_rt_made -/
theorem sc__law_rt_made : FnScope N__law_rt_made ["plain"] (defScope (top 47)) := ⟨rfl, rfl, rfl, by decide +kernel, rfl, by decide +kernel, by decide +kernel⟩
theorem body__law_rt_made {P : Program} {w : World} {K : PySem.W.Frag} {mg : Str → Option Value} {base : Heap} (G : GF K mg frees glos nums txts) (GX : GK K mg base clss errs mths (tabs.map (·.1))) (GI : GI P w K mg base alls owns) (F_Book___init__ : MethOk P w K mg base 4 .book "__init__" ["self", "rooms", "kinds"] mf_Book___init__) (cdv : Value) (A : Around) (outer : List Env) (s : Shared) (H : Hp) (E : XK) (hr : Room 5 (A.deeper (envOfC "_law_rt_made" (defScope (top 47)) s.heap.objs.size (He.ga K "_law_rt_made") cdv)))  :
    MSs (cxOf (L2.CX P w) P w K mg base N__law_rt_made "_law_rt_made" (defScope (top 47)) (He.ga K "_law_rt_made") cdv A outer s H E) (defBody (top 47)) mb__law_rt_made := by
  have hu : (cxOf (L2.CX P w) P w K mg base N__law_rt_made "_law_rt_made" (defScope (top 47)) (He.ga K "_law_rt_made") cdv A outer s H E).A.units + 64 < cLine := hr.units
  have hu1 : (cxOf (L2.CX P w) P w K mg base N__law_rt_made "_law_rt_made" (defScope (top 47)) (He.ga K "_law_rt_made") cdv A outer s H E).A.units + 1 < cLine := by omega
  have nd : N__law_rt_made.Nodup := sc__law_rt_made.nd
  refine mss_cons ?_ ?_
  · refine ms_ret ?_
    · refine me_new (n := 2) (GX.cls .book (by decide)) (F_Book___init__.mono (by decide)) hr rfl (GX.clsG .book (by decide)) rfl rfl ?_
      · refine ma_cons ?_ ?_
        · refine me_ix hu1 ?_ ?_ (fun _ _ => rfl)
          · exact me_var (i := 0) rfl (vis_by rfl)
          · exact me_str
        · refine ma_cons ?_ ?_
          · refine me_ix hu1 ?_ ?_ (fun _ _ => rfl)
            · exact me_var (i := 0) rfl (vis_by rfl)
            · exact me_str
          · exact ma_nil
  · exact mss_nil
theorem ok__law_rt_made {P : Program} {w : World} {K : PySem.W.Frag} {mg : Str → Option Value} {base : Heap} (G : GF K mg frees glos nums txts) (GX : GK K mg base clss errs mths (tabs.map (·.1))) (GI : GI P w K mg base alls owns) (F_Book___init__ : MethOk P w K mg base 4 .book "__init__" ["self", "rooms", "kinds"] mf_Book___init__) {fd : FuncData} (F : FunD K "_law_rt_made" "_law_rt_made" (defArgs (top 47)) (defBody (top 47)) (defScope (top 47)) [] [] (He.ga K "_law_rt_made") fd) (mgx : mg "_law_rt_made" = some (.ref (He.ga K "_law_rt_made"))) : DefOk P w K mg base 6 "_law_rt_made" ["plain"] mf__law_rt_made :=
  DefOk.of F mgx (fun _ _ _ _ _ _ us hl => match us, hl with | [_], _ => rfl) sc__law_rt_made (fun cdv A outer s H E hr => body__law_rt_made G GX GI F_Book___init__ cdv A outer s H E hr) (fun ds m _ w => runT_refn ds m w)
/-! ### is_integer_text -/
theorem sc_is_integer_text : FnScope N_is_integer_text ["word"] (defScope (top 33)) := ⟨rfl, rfl, rfl, by decide +kernel, rfl, by decide +kernel, by decide +kernel⟩
theorem body_is_integer_text {P : Program} {w : World} {K : PySem.W.Frag} {mg : Str → Option Value} {base : Heap} (G : GF K mg frees glos nums txts) (GX : GK K mg base clss errs mths (tabs.map (·.1))) (GI : GI P w K mg base alls owns)  (cdv : Value) (A : Around) (outer : List Env) (s : Shared) (H : Hp) (E : XK) (hr : Room 0 (A.deeper (envOfC "is_integer_text" (defScope (top 33)) s.heap.objs.size (He.ga K "is_integer_text") cdv)))  :
    MSs (cxOf (L2.CX P w) P w K mg base N_is_integer_text "is_integer_text" (defScope (top 33)) (He.ga K "is_integer_text") cdv A outer s H E) (defBody (top 33)) mb_is_integer_text := by
  have hu : (cxOf (L2.CX P w) P w K mg base N_is_integer_text "is_integer_text" (defScope (top 33)) (He.ga K "is_integer_text") cdv A outer s H E).A.units + 64 < cLine := hr.units
  have hu1 : (cxOf (L2.CX P w) P w K mg base N_is_integer_text "is_integer_text" (defScope (top 33)) (He.ga K "is_integer_text") cdv A outer s H E).A.units + 1 < cLine := by omega
  have nd : N_is_integer_text.Nodup := sc_is_integer_text.nd
  refine mss_cons ?_ ?_
  · refine ms_set (i := 1) nd rfl (loc_by rfl) ?_
    · refine me_if ?_ ?_ ?_
      · refine mt_cmp (om_eq hu) ?_ ?_ rfl
        · refine me_cut ?_ ?_ ?_
          · exact me_var (i := 0) rfl (vis_by rfl)
          · exact mb_none
          · refine mb_some ?_
            · exact me_int
        · exact me_str
      · refine me_cut ?_ ?_ ?_
        · exact me_var (i := 0) rfl (vis_by rfl)
        · refine mb_some ?_
          · exact me_int
        · exact mb_none
      · exact me_var (i := 0) rfl (vis_by rfl)
  · refine mss_cons ?_ ?_
    · refine ms_if ?_ ?_ ?_
      · refine MW.mt ?_
        · refine mw_or ?_ ?_
          · refine mt_cmp (om_eq hu) ?_ ?_ rfl
            · exact me_var (i := 1) rfl (vis_by rfl)
            · exact me_str
          · refine mw_or ?_ ?_
            · refine mt_cmp om_gt ?_ ?_ rfl
              · refine me_callB (cm_len) rfl (G.free _ (by decide)) (by rfl) ?_
                · refine ma_cons ?_ ?_
                  · exact me_var (i := 0) rfl (vis_by rfl)
                  · exact ma_nil
              · exact me_globI rfl (G.int _ _ (by decide))
            · refine mw_or1 ?_
              · refine mt_not ?_
                · refine mt_val ?_
                  · refine me_td ?_
                    · refine me_callB (cm_all rfl) rfl (G.free _ (by decide)) (by rfl) ?_
                      · refine ma_cons ?_ ?_
                        · refine me_lk _ ?_
                          · refine me_lc (own := [("sign", 2)]) (ws := [2]) rfl nd ?_ (blkOk_by rfl) (by decide) (fun s H C cl fp => ?_) (fun s H C cl fp => ?_) (fun s H C cl fp => ?_)
                            · refine mi_it ?_
                              · exact me_var (i := 1) rfl (vis_by rfl)
                            · exact mg_name (i := 2) nd rfl (loc_by rfl)
                            · exact mts_nil
                            · refine me_cmp (om_in hu1) ?_ ?_ rfl
                              · exact me_var (i := 2) rfl (vis_by rfl)
                              · exact me_str
                        · exact ma_nil
      · refine mss_cons ?_ ?_
        · refine ms_ret ?_
          · exact me_bl
        · exact mss_nil
      · exact mss_nil
    · refine mss_cons ?_ ?_
      · refine ms_ret ?_
        · refine me_or ?_ ?_
          · refine me_cmp (om_ne hu) ?_ ?_ rfl
            · refine me_ix hu1 ?_ ?_ (fun _ _ => rfl)
              · exact me_var (i := 1) rfl (vis_by rfl)
              · exact me_int
            · exact me_str
          · refine me_one ?_
            · refine me_cmp (om_eq hu) ?_ ?_ rfl
              · exact me_var (i := 0) rfl (vis_by rfl)
              · exact me_str
      · exact mss_nil
theorem ok_is_integer_text {P : Program} {w : World} {K : PySem.W.Frag} {mg : Str → Option Value} {base : Heap} (G : GF K mg frees glos nums txts) (GX : GK K mg base clss errs mths (tabs.map (·.1))) (GI : GI P w K mg base alls owns)  {fd : FuncData} (F : FunD K "is_integer_text" "is_integer_text" (defArgs (top 33)) (defBody (top 33)) (defScope (top 33)) [] [] (He.ga K "is_integer_text") fd) (mgx : mg "is_integer_text" = some (.ref (He.ga K "is_integer_text"))) : DefOk P w K mg base 1 "is_integer_text" ["word"] mf_is_integer_text :=
  DefOk.of F mgx (fun _ _ _ _ _ _ us hl => match us, hl with | [_], _ => rfl) sc_is_integer_text (fun cdv A outer s H E hr => body_is_integer_text G GX GI  cdv A outer s H E hr) (fun ds m _ w => runT_refn ds m w)
/-! ### is_line -/
theorem sc_is_line : FnScope N_is_line ["words"] (defScope (top 36)) := ⟨rfl, rfl, rfl, by decide +kernel, rfl, by decide +kernel, by decide +kernel⟩
theorem body_is_line {P : Program} {w : World} {K : PySem.W.Frag} {mg : Str → Option Value} {base : Heap} (G : GF K mg frees glos nums txts) (GX : GK K mg base clss errs mths (tabs.map (·.1))) (GI : GI P w K mg base alls owns) (F_is_integer_text : DefOk P w K mg base 1 "is_integer_text" ["word"] mf_is_integer_text) (F_is_name : DefOk P w K mg base 1 "is_name" ["value"] mf_is_name) (cdv : Value) (A : Around) (outer : List Env) (s : Shared) (H : Hp) (E : XK) (hr : Room 1 (A.deeper (envOfC "is_line" (defScope (top 36)) s.heap.objs.size (He.ga K "is_line") cdv)))  :
    MSs (cxOf (L2.CX P w) P w K mg base N_is_line "is_line" (defScope (top 36)) (He.ga K "is_line") cdv A outer s H E) (defBody (top 36)) mb_is_line := by
  have hu : (cxOf (L2.CX P w) P w K mg base N_is_line "is_line" (defScope (top 36)) (He.ga K "is_line") cdv A outer s H E).A.units + 64 < cLine := hr.units
  have hu1 : (cxOf (L2.CX P w) P w K mg base N_is_line "is_line" (defScope (top 36)) (He.ga K "is_line") cdv A outer s H E).A.units + 1 < cLine := by omega
  have nd : N_is_line.Nodup := sc_is_line.nd
  refine mss_cons ?_ ?_
  · refine ms_if ?_ ?_ ?_
    · refine MW.mt ?_
      · refine mw_or ?_ ?_
        · refine mt_cmp (om_notIn hu1) ?_ ?_ rfl
          · refine me_ix hu1 ?_ ?_ (fun _ _ => rfl)
            · exact me_var (i := 0) rfl (vis_by rfl)
            · exact me_int
          · exact me_stk
        · refine mw_or1 ?_
          · refine mt_cmp om_lt ?_ ?_ rfl
            · refine me_callB (cm_len) rfl (G.free _ (by decide)) (by rfl) ?_
              · refine ma_cons ?_ ?_
                · exact me_var (i := 0) rfl (vis_by rfl)
                · exact ma_nil
            · exact me_int
    · refine mss_cons ?_ ?_
      · refine ms_ret ?_
        · exact me_bl
      · exact mss_nil
    · exact mss_nil
  · refine mss_cons ?_ ?_
    · refine ms_if ?_ ?_ ?_
      · refine mt_cmp (om_eq hu) ?_ ?_ rfl
        · refine me_ix hu1 ?_ ?_ (fun _ _ => rfl)
          · exact me_var (i := 0) rfl (vis_by rfl)
          · exact me_int
        · exact me_str
      · refine mss_cons ?_ ?_
        · refine ms_ret ?_
          · refine me_and ?_ ?_
            · refine me_cmp (om_eq hu) ?_ ?_ rfl
              · refine me_callB (cm_len) rfl (G.free _ (by decide)) (by rfl) ?_
                · refine ma_cons ?_ ?_
                  · exact me_var (i := 0) rfl (vis_by rfl)
                  · exact ma_nil
              · exact me_int
            · refine me_and ?_ ?_
              · refine me_td ?_
                · refine me_callB (cm_all rfl) rfl (G.free _ (by decide)) (by rfl) ?_
                  · refine ma_cons ?_ ?_
                    · refine me_lk _ ?_
                      · refine me_lc (own := [("word", 1)]) (ws := [1]) rfl nd ?_ (blkOk_by rfl) (by decide) (fun s H C cl fp => ?_) (fun s H C cl fp => ?_) (fun s H C cl fp => ?_)
                        · refine mi_it ?_
                          · refine me_cut ?_ ?_ ?_
                            · exact me_var (i := 0) rfl (vis_by rfl)
                            · refine mb_some ?_
                              · exact me_int
                            · refine mb_some ?_
                              · exact me_int
                        · exact mg_name (i := 1) nd rfl (loc_by rfl)
                        · exact mts_nil
                        · refine me_call (n := 1) (F_is_name.mono (by decide)) hr rfl rfl rfl ?_
                          · refine ma_cons ?_ ?_
                            · exact me_var (i := 1) rfl (vis_by rfl)
                            · exact ma_nil
                    · exact ma_nil
              · refine me_one ?_
                · refine me_call (n := 1) (F_is_integer_text.mono (by decide)) hr rfl rfl rfl ?_
                  · refine ma_cons ?_ ?_
                    · refine me_ix hu1 ?_ ?_ (fun _ _ => rfl)
                      · exact me_var (i := 0) rfl (vis_by rfl)
                      · exact me_int
                    · exact ma_nil
        · exact mss_nil
      · exact mss_nil
    · refine mss_cons ?_ ?_
      · refine ms_if ?_ ?_ ?_
        · refine MW.mt ?_
          · refine mw_and ?_ ?_
            · refine mt_cmp (om_eq hu) ?_ ?_ rfl
              · refine me_ix hu1 ?_ ?_ (fun _ _ => rfl)
                · exact me_var (i := 0) rfl (vis_by rfl)
                · exact me_int
              · exact me_str
            · refine mw_and1 ?_
              · refine mt_cmp (om_ne hu) ?_ ?_ rfl
                · refine me_callB (cm_len) rfl (G.free _ (by decide)) (by rfl) ?_
                  · refine ma_cons ?_ ?_
                    · exact me_var (i := 0) rfl (vis_by rfl)
                    · exact ma_nil
                · exact me_int
        · refine mss_cons ?_ ?_
          · refine ms_ret ?_
            · exact me_bl
          · exact mss_nil
        · exact mss_nil
      · refine mss_cons ?_ ?_
        · refine ms_ret ?_
          · refine me_td ?_
            · refine me_callB (cm_all rfl) rfl (G.free _ (by decide)) (by rfl) ?_
              · refine ma_cons ?_ ?_
                · refine me_lk _ ?_
                  · refine me_lc (own := [("word", 1)]) (ws := [1]) rfl nd ?_ (blkOk_by rfl) (by decide) (fun s H C cl fp => ?_) (fun s H C cl fp => ?_) (fun s H C cl fp => ?_)
                    · refine mi_it ?_
                      · refine me_cut ?_ ?_ ?_
                        · exact me_var (i := 0) rfl (vis_by rfl)
                        · refine mb_some ?_
                          · exact me_int
                        · exact mb_none
                    · exact mg_name (i := 1) nd rfl (loc_by rfl)
                    · exact mts_nil
                    · refine me_call (n := 1) (F_is_name.mono (by decide)) hr rfl rfl rfl ?_
                      · refine ma_cons ?_ ?_
                        · exact me_var (i := 1) rfl (vis_by rfl)
                        · exact ma_nil
                · exact ma_nil
        · exact mss_nil
theorem ok_is_line {P : Program} {w : World} {K : PySem.W.Frag} {mg : Str → Option Value} {base : Heap} (G : GF K mg frees glos nums txts) (GX : GK K mg base clss errs mths (tabs.map (·.1))) (GI : GI P w K mg base alls owns) (F_is_integer_text : DefOk P w K mg base 1 "is_integer_text" ["word"] mf_is_integer_text) (F_is_name : DefOk P w K mg base 1 "is_name" ["value"] mf_is_name) {fd : FuncData} (F : FunD K "is_line" "is_line" (defArgs (top 36)) (defBody (top 36)) (defScope (top 36)) [] [] (He.ga K "is_line") fd) (mgx : mg "is_line" = some (.ref (He.ga K "is_line"))) : DefOk P w K mg base 2 "is_line" ["words"] mf_is_line :=
  DefOk.of F mgx (fun _ _ _ _ _ _ us hl => match us, hl with | [_], _ => rfl) sc_is_line (fun cdv A outer s H E hr => body_is_line G GX GI F_is_integer_text F_is_name cdv A outer s H E hr) (fun ds m _ w => runT_refn ds m w)
/-! ### key_of -/
theorem sc_key_of : FnScope N_key_of ["words"] (defScope (top 37)) := ⟨rfl, rfl, rfl, by decide +kernel, rfl, by decide +kernel, by decide +kernel⟩
theorem body_key_of {P : Program} {w : World} {K : PySem.W.Frag} {mg : Str → Option Value} {base : Heap} (G : GF K mg frees glos nums txts) (GX : GK K mg base clss errs mths (tabs.map (·.1))) (GI : GI P w K mg base alls owns)  (cdv : Value) (A : Around) (outer : List Env) (s : Shared) (H : Hp) (E : XK) (hr : Room 0 (A.deeper (envOfC "key_of" (defScope (top 37)) s.heap.objs.size (He.ga K "key_of") cdv)))  :
    MSs (cxOf (L2.CX P w) P w K mg base N_key_of "key_of" (defScope (top 37)) (He.ga K "key_of") cdv A outer s H E) (defBody (top 37)) mb_key_of := by
  have hu : (cxOf (L2.CX P w) P w K mg base N_key_of "key_of" (defScope (top 37)) (He.ga K "key_of") cdv A outer s H E).A.units + 64 < cLine := hr.units
  have hu1 : (cxOf (L2.CX P w) P w K mg base N_key_of "key_of" (defScope (top 37)) (He.ga K "key_of") cdv A outer s H E).A.units + 1 < cLine := by omega
  have nd : N_key_of.Nodup := sc_key_of.nd
  refine mss_cons ?_ ?_
  · refine ms_ret ?_
    · refine me_tup ?_
      · refine ma_cons ?_ ?_
        · exact me_stk
        · refine ma_cons ?_ ?_
          · refine me_if ?_ ?_ ?_
            · refine mt_cmp (om_eq hu) ?_ ?_ rfl
              · refine me_ix hu1 ?_ ?_ (fun _ _ => rfl)
                · exact me_var (i := 0) rfl (vis_by rfl)
                · exact me_int
              · exact me_str
            · refine me_cut ?_ ?_ ?_
              · exact me_var (i := 0) rfl (vis_by rfl)
              · refine mb_some ?_
                · exact me_int
              · refine mb_some ?_
                · exact me_int
            · refine me_cut ?_ ?_ ?_
              · exact me_var (i := 0) rfl (vis_by rfl)
              · refine mb_some ?_
                · exact me_int
              · exact mb_none
          · exact ma_nil
  · exact mss_nil
theorem ok_key_of {P : Program} {w : World} {K : PySem.W.Frag} {mg : Str → Option Value} {base : Heap} (G : GF K mg frees glos nums txts) (GX : GK K mg base clss errs mths (tabs.map (·.1))) (GI : GI P w K mg base alls owns)  {fd : FuncData} (F : FunD K "key_of" "key_of" (defArgs (top 37)) (defBody (top 37)) (defScope (top 37)) [] [] (He.ga K "key_of") fd) (mgx : mg "key_of" = some (.ref (He.ga K "key_of"))) : DefOk P w K mg base 1 "key_of" ["words"] mf_key_of :=
  DefOk.of F mgx (fun _ _ _ _ _ _ us hl => match us, hl with | [_], _ => rfl) sc_key_of (fun cdv A outer s H E hr => body_key_of G GX GI  cdv A outer s H E hr) (fun ds m _ w => runT_refn ds m w)
/-! ### lines_read -/
theorem sc_lines_read : FnScope N_lines_read ["text"] (defScope (top 38)) := ⟨rfl, rfl, rfl, by decide +kernel, rfl, by decide +kernel, by decide +kernel⟩
theorem body_lines_read {P : Program} {w : World} {K : PySem.W.Frag} {mg : Str → Option Value} {base : Heap} (G : GF K mg frees glos nums txts) (GX : GK K mg base clss errs mths (tabs.map (·.1))) (GI : GI P w K mg base alls owns) (F_is_line : DefOk P w K mg base 2 "is_line" ["words"] mf_is_line) (F_key_of : DefOk P w K mg base 1 "key_of" ["words"] mf_key_of) (cdv : Value) (A : Around) (outer : List Env) (s : Shared) (H : Hp) (E : XK) (hr : Room 2 (A.deeper (envOfC "lines_read" (defScope (top 38)) s.heap.objs.size (He.ga K "lines_read") cdv)))  :
    MSs (cxOf (L2.CX P w) P w K mg base N_lines_read "lines_read" (defScope (top 38)) (He.ga K "lines_read") cdv A outer s H E) (defBody (top 38)) mb_lines_read := by
  have hu : (cxOf (L2.CX P w) P w K mg base N_lines_read "lines_read" (defScope (top 38)) (He.ga K "lines_read") cdv A outer s H E).A.units + 64 < cLine := hr.units
  have hu1 : (cxOf (L2.CX P w) P w K mg base N_lines_read "lines_read" (defScope (top 38)) (He.ga K "lines_read") cdv A outer s H E).A.units + 1 < cLine := by omega
  have nd : N_lines_read.Nodup := sc_lines_read.nd
  refine mss_cons ?_ ?_
  · refine ms_if ?_ ?_ ?_
    · refine mt_not ?_
      · refine mt_val ?_
        · refine me_callB (cm_isi GX.cls) rfl (G.free _ (by decide)) (by rfl) ?_
          · refine ma_cons ?_ ?_
            · exact me_var (i := 0) rfl (vis_by rfl)
            · refine ma_cons ?_ ?_
              · exact me_ty (t := .str) rfl (G.free _ (by decide)) (by rfl)
              · exact ma_nil
    · refine mss_cons ?_ ?_
      · refine ms_raise1 (k := 1) rfl (GI.ini .parse (by decide)) okD1_ok (hr.mono (by decide)) rfl rfl ?_
        · exact me_non
      · exact mss_nil
    · exact mss_nil
  · refine mss_cons ?_ ?_
    · refine ms_set (i := 1) nd rfl (loc_by rfl) ?_
      · refine me_meth (t := .str) F.plainAttrs_str F.slot_str_split F.type_str_split (mm_split) ?_ ?_
        · exact me_var (i := 0) rfl (vis_by rfl)
        · refine ma_cons ?_ ?_
          · exact me_str
          · exact ma_nil
    · refine mss_cons ?_ ?_
      · refine ms_lk _ ?_
        · refine ms_setLc (own := [("line", 5)]) (ws := [5]) (i := 2) rfl nd rfl rfl (by rfl) ?_ (blkOk_by rfl) (by decide) (fun s H C cl fp => ?_) (fun s H C cl fp => ?_) (fun s H C cl fp => ?_)
          · refine mi_it ?_
            · refine me_cut ?_ ?_ ?_
              · exact me_var (i := 1) rfl (vis_by rfl)
              · exact mb_none
              · refine mb_some ?_
                · refine me_un um_neg ?_
                  · exact me_int
          · exact mg_name (i := 5) nd rfl (loc_by rfl)
          · exact mts_nil
          · refine me_meth (t := .str) F.plainAttrs_str F.slot_str_split F.type_str_split (mm_split) ?_ ?_
            · exact me_var (i := 5) rfl (vis_by rfl)
            · refine ma_cons ?_ ?_
              · exact me_str
              · exact ma_nil
      · refine mss_cons ?_ ?_
        · refine ms_for (ws := ([3] ++ ([4] ++ []))) (passes_of rfl) rfl ?_ ?_ ?_
          · refine mi_enum rfl (G.free _ (by decide)) ?_
            · refine ma_cons ?_ ?_
              · exact me_var (i := 2) rfl (vis_by rfl)
              · exact ma_nil
          · refine mg_tup rfl ?_
            · refine mgs_cons ?_ ?_
              · exact mg_name (i := 3) nd rfl (loc_by rfl)
              · refine mgs_cons ?_ ?_
                · exact mg_name (i := 4) nd rfl (loc_by rfl)
                · exact mgs_nil
          · refine mss_cons ?_ ?_
            · refine ms_if ?_ ?_ ?_
              · refine mt_not ?_
                · refine mt_val ?_
                  · refine me_call (n := 1) (F_is_line.mono (by decide)) hr rfl rfl rfl ?_
                    · refine ma_cons ?_ ?_
                      · exact me_var (i := 4) rfl (vis_by rfl)
                      · exact ma_nil
              · refine mss_cons ?_ ?_
                · refine ms_raise1 (k := 1) rfl (GI.ini .parse (by decide)) okD1_ok (hr.mono (by decide)) rfl rfl ?_
                  · exact me_var (i := 3) rfl (vis_by rfl)
                · exact mss_nil
              · exact mss_nil
            · exact mss_nil
        · refine mss_cons ?_ ?_
          · refine ms_if ?_ ?_ ?_
            · refine MW.mt ?_
              · refine mw_or ?_ ?_
                · refine mt_cmp (om_ne hu) ?_ ?_ rfl
                  · refine me_ix hu1 ?_ ?_ (fun _ _ => rfl)
                    · exact me_var (i := 1) rfl (vis_by rfl)
                    · refine me_un um_neg ?_
                      · exact me_int
                  · exact me_str
                · refine mw_or1 ?_
                  · refine mt_cmp (om_eq hu) ?_ ?_ rfl
                    · exact me_var (i := 2) rfl (vis_by rfl)
                    · refine me_of_le (le_lst ?_)
                      · exact ma_nil
            · refine mss_cons ?_ ?_
              · refine ms_raise1 (k := 1) rfl (GI.ini .parse (by decide)) okD1_ok (hr.mono (by decide)) rfl rfl ?_
                · refine me_callB (cm_len) rfl (G.free _ (by decide)) (by rfl) ?_
                  · refine ma_cons ?_ ?_
                    · exact me_var (i := 2) rfl (vis_by rfl)
                    · exact ma_nil
              · exact mss_nil
            · exact mss_nil
          · refine mss_cons ?_ ?_
            · refine ms_for (ws := [3]) (passes_of rfl) rfl ?_ ?_ ?_
              · refine mi_range2 rfl (G.free _ (by decide)) ?_
                · refine ma_cons ?_ ?_
                  · exact me_int
                  · refine ma_cons ?_ ?_
                    · refine me_callB (cm_len) rfl (G.free _ (by decide)) (by rfl) ?_
                      · refine ma_cons ?_ ?_
                        · exact me_var (i := 2) rfl (vis_by rfl)
                        · exact ma_nil
                    · exact ma_nil
              · exact mg_name (i := 3) nd rfl (loc_by rfl)
              · refine mss_cons ?_ ?_
                · refine ms_if ?_ ?_ ?_
                  · refine mt_not ?_
                    · refine mt_cmp om_lt ?_ ?_ rfl
                      · refine me_call (n := 1) (F_key_of.mono (by decide)) hr rfl rfl rfl ?_
                        · refine ma_cons ?_ ?_
                          · refine me_ix hu1 ?_ ?_ (fun _ _ => rfl)
                            · exact me_var (i := 2) rfl (vis_by rfl)
                            · refine me_op om_sub ?_ ?_
                              · exact me_var (i := 3) rfl (vis_by rfl)
                              · exact me_int
                          · exact ma_nil
                      · refine me_call (n := 1) (F_key_of.mono (by decide)) hr rfl rfl rfl ?_
                        · refine ma_cons ?_ ?_
                          · refine me_ix hu1 ?_ ?_ (fun _ _ => rfl)
                            · exact me_var (i := 2) rfl (vis_by rfl)
                            · exact me_var (i := 3) rfl (vis_by rfl)
                          · exact ma_nil
                  · refine mss_cons ?_ ?_
                    · refine ms_raise1 (k := 1) rfl (GI.ini .parse (by decide)) okD1_ok (hr.mono (by decide)) rfl rfl ?_
                      · exact me_var (i := 3) rfl (vis_by rfl)
                    · exact mss_nil
                  · exact mss_nil
                · exact mss_nil
            · refine mss_cons ?_ ?_
              · refine ms_ret ?_
                · exact me_var (i := 2) rfl (vis_by rfl)
              · exact mss_nil
theorem ok_lines_read {P : Program} {w : World} {K : PySem.W.Frag} {mg : Str → Option Value} {base : Heap} (G : GF K mg frees glos nums txts) (GX : GK K mg base clss errs mths (tabs.map (·.1))) (GI : GI P w K mg base alls owns) (F_is_line : DefOk P w K mg base 2 "is_line" ["words"] mf_is_line) (F_key_of : DefOk P w K mg base 1 "key_of" ["words"] mf_key_of) {fd : FuncData} (F : FunD K "lines_read" "lines_read" (defArgs (top 38)) (defBody (top 38)) (defScope (top 38)) [] [] (He.ga K "lines_read") fd) (mgx : mg "lines_read" = some (.ref (He.ga K "lines_read"))) : DefOk P w K mg base 3 "lines_read" ["text"] mf_lines_read :=
  DefOk.of F mgx (fun _ _ _ _ _ _ us hl => match us, hl with | [_], _ => rfl) sc_lines_read (fun cdv A outer s H E hr => body_lines_read G GX GI F_is_line F_key_of cdv A outer s H E hr) (fun ds m _ w => runT_refn ds m w)
/-! ### lines_of -/
theorem sc_lines_of : FnScope N_lines_of ["book"] (defScope (top 34)) := ⟨rfl, rfl, rfl, by decide +kernel, rfl, by decide +kernel, by decide +kernel⟩
theorem body_lines_of {P : Program} {w : World} {K : PySem.W.Frag} {mg : Str → Option Value} {base : Heap} (G : GF K mg frees glos nums txts) (GX : GK K mg base clss errs mths (tabs.map (·.1))) (GI : GI P w K mg base alls owns)  (cdv : Value) (A : Around) (outer : List Env) (s : Shared) (H : Hp) (E : XK) (hr : Room 0 (A.deeper (envOfC "lines_of" (defScope (top 34)) s.heap.objs.size (He.ga K "lines_of") cdv)))  :
    MSs (cxOf (L2.CX P w) P w K mg base N_lines_of "lines_of" (defScope (top 34)) (He.ga K "lines_of") cdv A outer s H E) (defBody (top 34)) mb_lines_of := by
  have hu : (cxOf (L2.CX P w) P w K mg base N_lines_of "lines_of" (defScope (top 34)) (He.ga K "lines_of") cdv A outer s H E).A.units + 64 < cLine := hr.units
  have hu1 : (cxOf (L2.CX P w) P w K mg base N_lines_of "lines_of" (defScope (top 34)) (He.ga K "lines_of") cdv A outer s H E).A.units + 1 < cLine := by omega
  have nd : N_lines_of.Nodup := sc_lines_of.nd
  refine mss_cons ?_ ?_
  · refine ms_set (i := 1) nd rfl (loc_by rfl) ?_
    · refine me_of_le (le_lst ?_)
      · refine ma_cons ?_ ?_
        · exact me_stk
        · exact ma_nil
  · refine mss_cons ?_ ?_
    · refine ms_expr ?_
      · refine me_meth (t := .lst) F.plainAttrs_list F.slot_list_extend F.type_list_extend (mm_extend) ?_ ?_
        · exact me_var (i := 1) rfl (vis_by rfl)
        · refine ma_cons ?_ ?_
          · refine me_lk _ ?_
            · refine me_lc (own := [("kind", 2)]) (ws := [2]) rfl nd ?_ (blkOk_by rfl) (by decide) (fun s H C cl fp => ?_) (fun s H C cl fp => ?_) (fun s H C cl fp => ?_)
              · refine mi_it ?_
                · exact me_stk
              · exact mg_name (i := 2) nd rfl (loc_by rfl)
              · exact mts_nil
              · refine me_of_le (le_lst ?_)
                · refine ma_cons ?_ ?_
                  · exact me_str
                  · refine ma_cons ?_ ?_
                    · exact me_var (i := 2) rfl (vis_by rfl)
                    · exact ma_nil
          · exact ma_nil
    · refine mss_cons ?_ ?_
      · refine ms_lk _ ?_
        · refine ms_for (ws := ([2] ++ ([3] ++ []))) (passes_of rfl) rfl ?_ ?_ ?_
          · refine mi_items ?_
            · exact me_stk
          · refine mg_tup rfl ?_
            · refine mgs_cons ?_ ?_
              · exact mg_name (i := 2) nd rfl (loc_by rfl)
              · refine mgs_cons ?_ ?_
                · exact mg_name (i := 3) nd rfl (loc_by rfl)
                · exact mgs_nil
          · refine mss_cons ?_ ?_
            · refine ms_expr ?_
              · refine me_meth (t := .lst) F.plainAttrs_list F.slot_list_extend F.type_list_extend (mm_extend) ?_ ?_
                · exact me_var (i := 1) rfl (vis_by rfl)
                · refine ma_cons ?_ ?_
                  · refine me_lk _ ?_
                    · refine me_lc (own := [("pair", 4)]) (ws := [4]) rfl nd ?_ (blkOk_by rfl) (by decide) (fun s H C cl fp => ?_) (fun s H C cl fp => ?_) (fun s H C cl fp => ?_)
                      · refine mi_it ?_
                        · refine me_lk _ ?_
                          · refine me_callB (cm_sorted rfl) rfl (G.free _ (by decide)) (by rfl) ?_
                            · refine ma_cons ?_ ?_
                              · exact me_var (i := 3) rfl (vis_by rfl)
                              · exact ma_nil
                      · exact mg_name (i := 4) nd rfl (loc_by rfl)
                      · exact mts_nil
                      · exact me_stk
                  · exact ma_nil
            · exact mss_nil
      · refine mss_cons ?_ ?_
        · refine ms_ret ?_
          · exact me_var (i := 1) rfl (vis_by rfl)
        · exact mss_nil
theorem ok_lines_of {P : Program} {w : World} {K : PySem.W.Frag} {mg : Str → Option Value} {base : Heap} (G : GF K mg frees glos nums txts) (GX : GK K mg base clss errs mths (tabs.map (·.1))) (GI : GI P w K mg base alls owns)  {fd : FuncData} (F : FunD K "lines_of" "lines_of" (defArgs (top 34)) (defBody (top 34)) (defScope (top 34)) [] [] (He.ga K "lines_of") fd) (mgx : mg "lines_of" = some (.ref (He.ga K "lines_of"))) : DefOk P w K mg base 1 "lines_of" ["book"] mf_lines_of :=
  DefOk.of F mgx (fun _ _ _ _ _ _ us hl => match us, hl with | [_], _ => rfl) sc_lines_of (fun cdv A outer s H E hr => body_lines_of G GX GI  cdv A outer s H E hr) (fun ds m _ w => runT_refn ds m w)
/-! ### require_book -/
theorem sc_require_book : FnScope N_require_book ["book"] (defScope (top 23)) := ⟨rfl, rfl, rfl, by decide +kernel, rfl, by decide +kernel, by decide +kernel⟩
theorem body_require_book {P : Program} {w : World} {K : PySem.W.Frag} {mg : Str → Option Value} {base : Heap} (G : GF K mg frees glos nums txts) (GX : GK K mg base clss errs mths (tabs.map (·.1))) (GI : GI P w K mg base alls owns)  (cdv : Value) (A : Around) (outer : List Env) (s : Shared) (H : Hp) (E : XK) (hr : Room 0 (A.deeper (envOfC "require_book" (defScope (top 23)) s.heap.objs.size (He.ga K "require_book") cdv)))  :
    MSs (cxOf (L2.CX P w) P w K mg base N_require_book "require_book" (defScope (top 23)) (He.ga K "require_book") cdv A outer s H E) (defBody (top 23)) mb_require_book := by
  have hu : (cxOf (L2.CX P w) P w K mg base N_require_book "require_book" (defScope (top 23)) (He.ga K "require_book") cdv A outer s H E).A.units + 64 < cLine := hr.units
  have hu1 : (cxOf (L2.CX P w) P w K mg base N_require_book "require_book" (defScope (top 23)) (He.ga K "require_book") cdv A outer s H E).A.units + 1 < cLine := by omega
  have nd : N_require_book.Nodup := sc_require_book.nd
  refine mss_cons ?_ ?_
  · refine ms_if ?_ ?_ ?_
    · refine mt_not ?_
      · refine mt_val ?_
        · refine me_callB (cm_isi GX.cls) rfl (G.free _ (by decide)) (by rfl) ?_
          · refine ma_cons ?_ ?_
            · exact me_var (i := 0) rfl (vis_by rfl)
            · refine ma_cons ?_ ?_
              · exact me_cls (c := .book) rfl (GX.clsG .book (by decide))
              · exact ma_nil
    · refine mss_cons ?_ ?_
      · exact ms_raise0 rfl (GX.err .book (by decide)) rfl rfl
      · exact mss_nil
    · exact mss_nil
  · exact mss_nil
theorem ok_require_book {P : Program} {w : World} {K : PySem.W.Frag} {mg : Str → Option Value} {base : Heap} (G : GF K mg frees glos nums txts) (GX : GK K mg base clss errs mths (tabs.map (·.1))) (GI : GI P w K mg base alls owns)  {fd : FuncData} (F : FunD K "require_book" "require_book" (defArgs (top 23)) (defBody (top 23)) (defScope (top 23)) [] [] (He.ga K "require_book") fd) (mgx : mg "require_book" = some (.ref (He.ga K "require_book"))) : DefOk P w K mg base 1 "require_book" ["book"] mf_require_book :=
  DefOk.of F mgx (fun _ _ _ _ _ _ us hl => match us, hl with | [_], _ => rfl) sc_require_book (fun cdv A outer s H E hr => body_require_book G GX GI  cdv A outer s H E hr) (fun ds m _ w => runT_refn ds m w)
/-! ### write_book -/
theorem sc_write_book : FnScope N_write_book ["book"] (defScope (top 35)) := ⟨rfl, rfl, rfl, by decide +kernel, rfl, by decide +kernel, by decide +kernel⟩
theorem body_write_book {P : Program} {w : World} {K : PySem.W.Frag} {mg : Str → Option Value} {base : Heap} (G : GF K mg frees glos nums txts) (GX : GK K mg base clss errs mths (tabs.map (·.1))) (GI : GI P w K mg base alls owns) (F_lines_of : DefOk P w K mg base 1 "lines_of" ["book"] mf_lines_of) (F_require_book : DefOk P w K mg base 1 "require_book" ["book"] mf_require_book) (cdv : Value) (A : Around) (outer : List Env) (s : Shared) (H : Hp) (E : XK) (hr : Room 1 (A.deeper (envOfC "write_book" (defScope (top 35)) s.heap.objs.size (He.ga K "write_book") cdv)))  :
    MSs (cxOf (L2.CX P w) P w K mg base N_write_book "write_book" (defScope (top 35)) (He.ga K "write_book") cdv A outer s H E) (defBody (top 35)) mb_write_book := by
  have hu : (cxOf (L2.CX P w) P w K mg base N_write_book "write_book" (defScope (top 35)) (He.ga K "write_book") cdv A outer s H E).A.units + 64 < cLine := hr.units
  have hu1 : (cxOf (L2.CX P w) P w K mg base N_write_book "write_book" (defScope (top 35)) (He.ga K "write_book") cdv A outer s H E).A.units + 1 < cLine := by omega
  have nd : N_write_book.Nodup := sc_write_book.nd
  refine mss_cons ?_ ?_
  · refine ms_expr ?_
    · refine me_call (n := 1) (F_require_book.mono (by decide)) hr rfl rfl rfl ?_
      · refine ma_cons ?_ ?_
        · exact me_var (i := 0) rfl (vis_by rfl)
        · exact ma_nil
  · refine mss_cons ?_ ?_
    · refine ms_ret ?_
      · refine me_td ?_
        · refine me_meth (t := .str) F.plainAttrs_str F.slot_str_join F.type_str_join (mm_join) ?_ ?_
          · exact me_str
          · refine ma_cons ?_ ?_
            · refine me_lk _ ?_
              · refine me_lc (own := [("words", 1)]) (ws := [1]) rfl nd ?_ (blkOk_by rfl) (by decide) (fun s H C cl fp => ?_) (fun s H C cl fp => ?_) (fun s H C cl fp => ?_)
                · refine mi_it ?_
                  · refine me_call (n := 1) (F_lines_of.mono (by decide)) hr rfl rfl rfl ?_
                    · refine ma_cons ?_ ?_
                      · exact me_var (i := 0) rfl (vis_by rfl)
                      · exact ma_nil
                · exact mg_name (i := 1) nd rfl (loc_by rfl)
                · exact mts_nil
                · refine me_op om_add ?_ ?_
                  · refine me_meth (t := .str) F.plainAttrs_str F.slot_str_join F.type_str_join (mm_join) ?_ ?_
                    · exact me_str
                    · refine ma_cons ?_ ?_
                      · exact me_var (i := 1) rfl (vis_by rfl)
                      · exact ma_nil
                  · exact me_str
            · exact ma_nil
    · exact mss_nil
theorem ok_write_book {P : Program} {w : World} {K : PySem.W.Frag} {mg : Str → Option Value} {base : Heap} (G : GF K mg frees glos nums txts) (GX : GK K mg base clss errs mths (tabs.map (·.1))) (GI : GI P w K mg base alls owns) (F_lines_of : DefOk P w K mg base 1 "lines_of" ["book"] mf_lines_of) (F_require_book : DefOk P w K mg base 1 "require_book" ["book"] mf_require_book) {fd : FuncData} (F : FunD K "write_book" "write_book" (defArgs (top 35)) (defBody (top 35)) (defScope (top 35)) [] [] (He.ga K "write_book") fd) (mgx : mg "write_book" = some (.ref (He.ga K "write_book"))) : DefOk P w K mg base 2 "write_book" ["book"] mf_write_book :=
  DefOk.of F mgx (fun _ _ _ _ _ _ us hl => match us, hl with | [_], _ => rfl) sc_write_book (fun cdv A outer s H E hr => body_write_book G GX GI F_lines_of F_require_book cdv A outer s H E hr) (fun ds m _ w => runT_refn ds m w)
/-! ### read_book -/
theorem sc_read_book : FnScope N_read_book ["text"] (defScope (top 39)) := ⟨rfl, rfl, rfl, by decide +kernel, rfl, by decide +kernel, by decide +kernel⟩
theorem body_read_book {P : Program} {w : World} {K : PySem.W.Frag} {mg : Str → Option Value} {base : Heap} (G : GF K mg frees glos nums txts) (GX : GK K mg base clss errs mths (tabs.map (·.1))) (GI : GI P w K mg base alls owns) (F_Book___init__ : MethOk P w K mg base 4 .book "__init__" ["self", "rooms", "kinds"] mf_Book___init__) (F_lines_read : DefOk P w K mg base 3 "lines_read" ["text"] mf_lines_read) (F_write_book : DefOk P w K mg base 2 "write_book" ["book"] mf_write_book) (cdv : Value) (A : Around) (outer : List Env) (s : Shared) (H : Hp) (E : XK) (hr : Room 5 (A.deeper (envOfC "read_book" (defScope (top 39)) s.heap.objs.size (He.ga K "read_book") cdv)))  :
    MSs (cxOf (L2.CX P w) P w K mg base N_read_book "read_book" (defScope (top 39)) (He.ga K "read_book") cdv A outer s H E) (defBody (top 39)) mb_read_book := by
  have hu : (cxOf (L2.CX P w) P w K mg base N_read_book "read_book" (defScope (top 39)) (He.ga K "read_book") cdv A outer s H E).A.units + 64 < cLine := hr.units
  have hu1 : (cxOf (L2.CX P w) P w K mg base N_read_book "read_book" (defScope (top 39)) (He.ga K "read_book") cdv A outer s H E).A.units + 1 < cLine := by omega
  have nd : N_read_book.Nodup := sc_read_book.nd
  refine mss_cons ?_ ?_
  · refine ms_par (i := 1) (j := 2) rfl nd rfl rfl (by decide) rfl rfl ?_ (by rfl)
    · refine ma_cons ?_ ?_
      · refine me_tup ?_
        · exact ma_nil
      · refine ma_cons ?_ ?_
        · exact me_dct0
        · exact ma_nil
  · refine mss_cons ?_ ?_
    · refine ms_lk _ ?_
      · refine ms_for (ws := [3]) (passes_of rfl) rfl ?_ ?_ ?_
        · refine mi_it ?_
          · refine me_call (n := 1) (F_lines_read.mono (by decide)) hr rfl rfl rfl ?_
            · refine ma_cons ?_ ?_
              · exact me_var (i := 0) rfl (vis_by rfl)
              · exact ma_nil
        · exact mg_name (i := 3) nd rfl (loc_by rfl)
        · refine mss_cons ?_ ?_
          · refine ms_if ?_ ?_ ?_
            · refine mt_cmp (om_eq hu) ?_ ?_ rfl
              · refine me_ix hu1 ?_ ?_ (fun _ _ => rfl)
                · exact me_var (i := 3) rfl (vis_by rfl)
                · exact me_int
              · exact me_str
            · refine mss_cons ?_ ?_
              · refine ms_set (i := 1) nd rfl (loc_by rfl) ?_
                · refine me_callTy (cm_tuple) rfl (G.free _ (by decide)) (by rfl) ?_
                  · refine ma_cons ?_ ?_
                    · refine me_cut ?_ ?_ ?_
                      · exact me_var (i := 3) rfl (vis_by rfl)
                      · refine mb_some ?_
                        · exact me_int
                      · exact mb_none
                    · exact ma_nil
              · exact mss_nil
            · refine mss_cons ?_ ?_
              · refine ms_if ?_ ?_ ?_
                · refine mt_cmp (om_eq hu) ?_ ?_ rfl
                  · refine me_ix hu1 ?_ ?_ (fun _ _ => rfl)
                    · exact me_var (i := 3) rfl (vis_by rfl)
                    · exact me_int
                  · exact me_str
                · refine mss_cons ?_ ?_
                  · refine ms_put hu1 ?_ ?_ ?_
                    · exact me_var (i := 2) rfl (vis_by rfl)
                    · refine me_ix hu1 ?_ ?_ (fun _ _ => rfl)
                      · exact me_var (i := 3) rfl (vis_by rfl)
                      · exact me_int
                    · exact me_dct0
                  · exact mss_nil
                · refine mss_cons ?_ ?_
                  · refine ms_if ?_ ?_ ?_
                    · refine mt_cmp (om_notIn hu1) ?_ ?_ rfl
                      · refine me_ix hu1 ?_ ?_ (fun _ _ => rfl)
                        · exact me_var (i := 3) rfl (vis_by rfl)
                        · exact me_int
                      · exact me_var (i := 2) rfl (vis_by rfl)
                    · refine mss_cons ?_ ?_
                      · exact ms_raise0 rfl (GX.err .book (by decide)) rfl rfl
                      · exact mss_nil
                    · refine mss_cons ?_ ?_
                      · refine ms_put hu1 ?_ ?_ ?_
                        · refine me_ix hu1 ?_ ?_ (fun _ _ => rfl)
                          · exact me_var (i := 2) rfl (vis_by rfl)
                          · refine me_ix hu1 ?_ ?_ (fun _ _ => rfl)
                            · exact me_var (i := 3) rfl (vis_by rfl)
                            · exact me_int
                        · refine me_tup ?_
                          · refine ma_cons ?_ ?_
                            · refine me_ix hu1 ?_ ?_ (fun _ _ => rfl)
                              · exact me_var (i := 3) rfl (vis_by rfl)
                              · exact me_int
                            · refine ma_cons ?_ ?_
                              · refine me_ix hu1 ?_ ?_ (fun _ _ => rfl)
                                · exact me_var (i := 3) rfl (vis_by rfl)
                                · exact me_int
                              · exact ma_nil
                        · refine me_callTy (cm_int1) rfl (G.free _ (by decide)) (by rfl) ?_
                          · refine ma_cons ?_ ?_
                            · refine me_ix hu1 ?_ ?_ (fun _ _ => rfl)
                              · exact me_var (i := 3) rfl (vis_by rfl)
                              · exact me_int
                            · exact ma_nil
                      · exact mss_nil
                  · exact mss_nil
              · exact mss_nil
          · exact mss_nil
    · refine mss_cons ?_ ?_
      · refine ms_set (i := 4) nd rfl (loc_by rfl) ?_
        · refine me_new (n := 2) (GX.cls .book (by decide)) (F_Book___init__.mono (by decide)) hr rfl (GX.clsG .book (by decide)) rfl rfl ?_
          · refine ma_cons ?_ ?_
            · exact me_var (i := 1) rfl (vis_by rfl)
            · refine ma_cons ?_ ?_
              · exact me_var (i := 2) rfl (vis_by rfl)
              · exact ma_nil
      · refine mss_cons ?_ ?_
        · refine ms_if ?_ ?_ ?_
          · refine mt_cmp (om_ne hu) ?_ ?_ rfl
            · refine me_call (n := 1) (F_write_book.mono (by decide)) hr rfl rfl rfl ?_
              · refine ma_cons ?_ ?_
                · exact me_var (i := 4) rfl (vis_by rfl)
                · exact ma_nil
            · exact me_var (i := 0) rfl (vis_by rfl)
          · refine mss_cons ?_ ?_
            · exact ms_raise0 rfl (GX.err .book (by decide)) rfl rfl
            · exact mss_nil
          · exact mss_nil
        · refine mss_cons ?_ ?_
          · refine ms_ret ?_
            · exact me_var (i := 4) rfl (vis_by rfl)
          · exact mss_nil
theorem ok_read_book {P : Program} {w : World} {K : PySem.W.Frag} {mg : Str → Option Value} {base : Heap} (G : GF K mg frees glos nums txts) (GX : GK K mg base clss errs mths (tabs.map (·.1))) (GI : GI P w K mg base alls owns) (F_Book___init__ : MethOk P w K mg base 4 .book "__init__" ["self", "rooms", "kinds"] mf_Book___init__) (F_lines_read : DefOk P w K mg base 3 "lines_read" ["text"] mf_lines_read) (F_write_book : DefOk P w K mg base 2 "write_book" ["book"] mf_write_book) {fd : FuncData} (F : FunD K "read_book" "read_book" (defArgs (top 39)) (defBody (top 39)) (defScope (top 39)) [] [] (He.ga K "read_book") fd) (mgx : mg "read_book" = some (.ref (He.ga K "read_book"))) : DefOk P w K mg base 6 "read_book" ["text"] mf_read_book :=
  DefOk.of F mgx (fun _ _ _ _ _ _ us hl => match us, hl with | [_], _ => rfl) sc_read_book (fun cdv A outer s H E hr => body_read_book G GX GI F_Book___init__ F_lines_read F_write_book cdv A outer s H E hr) (fun ds m _ w => runT_refn ds m w)
/-! ### is_plain_days -/
theorem sc_is_plain_days : FnScope N_is_plain_days ["book", "value"] (defScope (top 28)) := ⟨rfl, rfl, rfl, by decide +kernel, rfl, by decide +kernel, by decide +kernel⟩
theorem body_is_plain_days {P : Program} {w : World} {K : PySem.W.Frag} {mg : Str → Option Value} {base : Heap} (G : GF K mg frees glos nums txts) (GX : GK K mg base clss errs mths (tabs.map (·.1))) (GI : GI P w K mg base alls owns)  (cdv : Value) (A : Around) (outer : List Env) (s : Shared) (H : Hp) (E : XK) (hr : Room 0 (A.deeper (envOfC "is_plain_days" (defScope (top 28)) s.heap.objs.size (He.ga K "is_plain_days") cdv)))  :
    MSs (cxOf (L2.CX P w) P w K mg base N_is_plain_days "is_plain_days" (defScope (top 28)) (He.ga K "is_plain_days") cdv A outer s H E) (defBody (top 28)) mb_is_plain_days := by
  have hu : (cxOf (L2.CX P w) P w K mg base N_is_plain_days "is_plain_days" (defScope (top 28)) (He.ga K "is_plain_days") cdv A outer s H E).A.units + 64 < cLine := hr.units
  have hu1 : (cxOf (L2.CX P w) P w K mg base N_is_plain_days "is_plain_days" (defScope (top 28)) (He.ga K "is_plain_days") cdv A outer s H E).A.units + 1 < cLine := by omega
  have nd : N_is_plain_days.Nodup := sc_is_plain_days.nd
  refine mss_cons ?_ ?_
  · refine ms_if ?_ ?_ ?_
    · refine MW.mt ?_
      · refine mw_or ?_ ?_
        · refine mt_not ?_
          · refine mt_val ?_
            · refine me_callB (cm_isi GX.cls) rfl (G.free _ (by decide)) (by rfl) ?_
              · refine ma_cons ?_ ?_
                · exact me_var (i := 1) rfl (vis_by rfl)
                · refine ma_cons ?_ ?_
                  · exact me_ty (t := .tup) rfl (G.free _ (by decide)) (by rfl)
                  · exact ma_nil
        · refine mw_or1 ?_
          · refine mt_cmp om_gt ?_ ?_ rfl
            · refine me_callB (cm_len) rfl (G.free _ (by decide)) (by rfl) ?_
              · refine ma_cons ?_ ?_
                · exact me_var (i := 1) rfl (vis_by rfl)
                · exact ma_nil
            · exact me_globI rfl (G.int _ _ (by decide))
    · refine mss_cons ?_ ?_
      · refine ms_ret ?_
        · exact me_bl
      · exact mss_nil
    · exact mss_nil
  · refine mss_cons ?_ ?_
    · refine ms_ret ?_
      · refine me_td ?_
        · refine me_callB (cm_all rfl) rfl (G.free _ (by decide)) (by rfl) ?_
          · refine ma_cons ?_ ?_
            · refine me_lk _ ?_
              · refine me_lc (own := [("kind", 2)]) (ws := [2]) rfl nd ?_ (blkOk_by rfl) (by decide) (fun s H C cl fp => ?_) (fun s H C cl fp => ?_) (fun s H C cl fp => ?_)
                · refine mi_it ?_
                  · exact me_var (i := 1) rfl (vis_by rfl)
                · exact mg_name (i := 2) nd rfl (loc_by rfl)
                · exact mts_nil
                · refine me_and ?_ ?_
                  · refine me_callB (cm_isi GX.cls) rfl (G.free _ (by decide)) (by rfl) ?_
                    · refine ma_cons ?_ ?_
                      · exact me_var (i := 2) rfl (vis_by rfl)
                      · refine ma_cons ?_ ?_
                        · exact me_ty (t := .str) rfl (G.free _ (by decide)) (by rfl)
                        · exact ma_nil
                  · refine me_one ?_
                    · refine me_cmp (om_in hu1) ?_ ?_ rfl
                      · exact me_var (i := 2) rfl (vis_by rfl)
                      · refine me_slot (c := .book) (i := 0) (GX.cls .book (by decide)) rfl ?_
                        · exact me_var (i := 0) rfl (vis_by rfl)
            · exact ma_nil
    · exact mss_nil
theorem ok_is_plain_days {P : Program} {w : World} {K : PySem.W.Frag} {mg : Str → Option Value} {base : Heap} (G : GF K mg frees glos nums txts) (GX : GK K mg base clss errs mths (tabs.map (·.1))) (GI : GI P w K mg base alls owns)  {fd : FuncData} (F : FunD K "is_plain_days" "is_plain_days" (defArgs (top 28)) (defBody (top 28)) (defScope (top 28)) [] [] (He.ga K "is_plain_days") fd) (mgx : mg "is_plain_days" = some (.ref (He.ga K "is_plain_days"))) : DefOk P w K mg base 1 "is_plain_days" ["book", "value"] mf_is_plain_days :=
  DefOk.of F mgx (fun _ _ _ _ _ _ us hl => match us, hl with | [_, _], _ => rfl) sc_is_plain_days (fun cdv A outer s H E hr => body_is_plain_days G GX GI  cdv A outer s H E hr) (fun ds m _ w => runT_refn ds m w)
/-! ### read_days -/
theorem sc_read_days : FnScope N_read_days ["book", "text"] (defScope (top 41)) := ⟨rfl, rfl, rfl, by decide +kernel, rfl, by decide +kernel, by decide +kernel⟩
theorem body_read_days {P : Program} {w : World} {K : PySem.W.Frag} {mg : Str → Option Value} {base : Heap} (G : GF K mg frees glos nums txts) (GX : GK K mg base clss errs mths (tabs.map (·.1))) (GI : GI P w K mg base alls owns) (F_is_name : DefOk P w K mg base 1 "is_name" ["value"] mf_is_name) (F_is_plain_days : DefOk P w K mg base 1 "is_plain_days" ["book", "value"] mf_is_plain_days) (F_require_book : DefOk P w K mg base 1 "require_book" ["book"] mf_require_book) (cdv : Value) (A : Around) (outer : List Env) (s : Shared) (H : Hp) (E : XK) (hr : Room 2 (A.deeper (envOfC "read_days" (defScope (top 41)) s.heap.objs.size (He.ga K "read_days") cdv)))  :
    MSs (cxOf (L2.CX P w) P w K mg base N_read_days "read_days" (defScope (top 41)) (He.ga K "read_days") cdv A outer s H E) (defBody (top 41)) mb_read_days := by
  have hu : (cxOf (L2.CX P w) P w K mg base N_read_days "read_days" (defScope (top 41)) (He.ga K "read_days") cdv A outer s H E).A.units + 64 < cLine := hr.units
  have hu1 : (cxOf (L2.CX P w) P w K mg base N_read_days "read_days" (defScope (top 41)) (He.ga K "read_days") cdv A outer s H E).A.units + 1 < cLine := by omega
  have nd : N_read_days.Nodup := sc_read_days.nd
  refine mss_cons ?_ ?_
  · refine ms_expr ?_
    · refine me_call (n := 1) (F_require_book.mono (by decide)) hr rfl rfl rfl ?_
      · refine ma_cons ?_ ?_
        · exact me_var (i := 0) rfl (vis_by rfl)
        · exact ma_nil
  · refine mss_cons ?_ ?_
    · refine ms_if ?_ ?_ ?_
      · refine mt_not ?_
        · refine mt_val ?_
          · refine me_callB (cm_isi GX.cls) rfl (G.free _ (by decide)) (by rfl) ?_
            · refine ma_cons ?_ ?_
              · exact me_var (i := 1) rfl (vis_by rfl)
              · refine ma_cons ?_ ?_
                · exact me_ty (t := .str) rfl (G.free _ (by decide)) (by rfl)
                · exact ma_nil
      · refine mss_cons ?_ ?_
        · refine ms_raise1 (k := 1) rfl (GI.ini .parse (by decide)) okD1_ok (hr.mono (by decide)) rfl rfl ?_
          · exact me_non
        · exact mss_nil
      · exact mss_nil
    · refine mss_cons ?_ ?_
      · refine ms_set (i := 2) nd rfl (loc_by rfl) ?_
        · refine me_if ?_ ?_ ?_
          · refine mt_cmp (om_ne hu) ?_ ?_ rfl
            · exact me_var (i := 1) rfl (vis_by rfl)
            · exact me_str
          · refine me_callTy (cm_tuple) rfl (G.free _ (by decide)) (by rfl) ?_
            · refine ma_cons ?_ ?_
              · refine me_meth (t := .str) F.plainAttrs_str F.slot_str_split F.type_str_split (mm_split) ?_ ?_
                · exact me_var (i := 1) rfl (vis_by rfl)
                · refine ma_cons ?_ ?_
                  · exact me_str
                  · exact ma_nil
              · exact ma_nil
          · refine me_tup ?_
            · exact ma_nil
      · refine mss_cons ?_ ?_
        · refine ms_for (ws := ([3] ++ ([4] ++ []))) (passes_of rfl) rfl ?_ ?_ ?_
          · refine mi_enum rfl (G.free _ (by decide)) ?_
            · refine ma_cons ?_ ?_
              · exact me_var (i := 2) rfl (vis_by rfl)
              · exact ma_nil
          · refine mg_tup rfl ?_
            · refine mgs_cons ?_ ?_
              · exact mg_name (i := 3) nd rfl (loc_by rfl)
              · refine mgs_cons ?_ ?_
                · exact mg_name (i := 4) nd rfl (loc_by rfl)
                · exact mgs_nil
          · refine mss_cons ?_ ?_
            · refine ms_if ?_ ?_ ?_
              · refine mt_not ?_
                · refine mt_val ?_
                  · refine me_call (n := 1) (F_is_name.mono (by decide)) hr rfl rfl rfl ?_
                    · refine ma_cons ?_ ?_
                      · exact me_var (i := 4) rfl (vis_by rfl)
                      · exact ma_nil
              · refine mss_cons ?_ ?_
                · refine ms_raise1 (k := 1) rfl (GI.ini .parse (by decide)) okD1_ok (hr.mono (by decide)) rfl rfl ?_
                  · exact me_var (i := 3) rfl (vis_by rfl)
                · exact mss_nil
              · exact mss_nil
            · exact mss_nil
        · refine mss_cons ?_ ?_
          · refine ms_if ?_ ?_ ?_
            · refine mt_not ?_
              · refine mt_val ?_
                · refine me_call (n := 2) (F_is_plain_days.mono (by decide)) hr rfl rfl rfl ?_
                  · refine ma_cons ?_ ?_
                    · exact me_var (i := 0) rfl (vis_by rfl)
                    · refine ma_cons ?_ ?_
                      · exact me_var (i := 2) rfl (vis_by rfl)
                      · exact ma_nil
            · refine mss_cons ?_ ?_
              · exact ms_raise0 rfl (GX.err .round (by decide)) rfl rfl
              · exact mss_nil
            · exact mss_nil
          · refine mss_cons ?_ ?_
            · refine ms_ret ?_
              · exact me_var (i := 2) rfl (vis_by rfl)
            · exact mss_nil
theorem ok_read_days {P : Program} {w : World} {K : PySem.W.Frag} {mg : Str → Option Value} {base : Heap} (G : GF K mg frees glos nums txts) (GX : GK K mg base clss errs mths (tabs.map (·.1))) (GI : GI P w K mg base alls owns) (F_is_name : DefOk P w K mg base 1 "is_name" ["value"] mf_is_name) (F_is_plain_days : DefOk P w K mg base 1 "is_plain_days" ["book", "value"] mf_is_plain_days) (F_require_book : DefOk P w K mg base 1 "require_book" ["book"] mf_require_book) {fd : FuncData} (F : FunD K "read_days" "read_days" (defArgs (top 41)) (defBody (top 41)) (defScope (top 41)) [] [] (He.ga K "read_days") fd) (mgx : mg "read_days" = some (.ref (He.ga K "read_days"))) : DefOk P w K mg base 3 "read_days" ["book", "text"] mf_read_days :=
  DefOk.of F mgx (fun _ _ _ _ _ _ us hl => match us, hl with | [_, _], _ => rfl) sc_read_days (fun cdv A outer s H E hr => body_read_days G GX GI F_is_name F_is_plain_days F_require_book cdv A outer s H E hr) (fun ds m _ w => runT_refn ds m w)
/-! ### require_days -/
theorem sc_require_days : FnScope N_require_days ["book", "days"] (defScope (top 29)) := ⟨rfl, rfl, rfl, by decide +kernel, rfl, by decide +kernel, by decide +kernel⟩
theorem body_require_days {P : Program} {w : World} {K : PySem.W.Frag} {mg : Str → Option Value} {base : Heap} (G : GF K mg frees glos nums txts) (GX : GK K mg base clss errs mths (tabs.map (·.1))) (GI : GI P w K mg base alls owns) (F_is_plain_days : DefOk P w K mg base 1 "is_plain_days" ["book", "value"] mf_is_plain_days) (cdv : Value) (A : Around) (outer : List Env) (s : Shared) (H : Hp) (E : XK) (hr : Room 1 (A.deeper (envOfC "require_days" (defScope (top 29)) s.heap.objs.size (He.ga K "require_days") cdv)))  :
    MSs (cxOf (L2.CX P w) P w K mg base N_require_days "require_days" (defScope (top 29)) (He.ga K "require_days") cdv A outer s H E) (defBody (top 29)) mb_require_days := by
  have hu : (cxOf (L2.CX P w) P w K mg base N_require_days "require_days" (defScope (top 29)) (He.ga K "require_days") cdv A outer s H E).A.units + 64 < cLine := hr.units
  have hu1 : (cxOf (L2.CX P w) P w K mg base N_require_days "require_days" (defScope (top 29)) (He.ga K "require_days") cdv A outer s H E).A.units + 1 < cLine := by omega
  have nd : N_require_days.Nodup := sc_require_days.nd
  refine mss_cons ?_ ?_
  · refine ms_if ?_ ?_ ?_
    · refine mt_not ?_
      · refine mt_val ?_
        · refine me_call (n := 2) (F_is_plain_days.mono (by decide)) hr rfl rfl rfl ?_
          · refine ma_cons ?_ ?_
            · exact me_var (i := 0) rfl (vis_by rfl)
            · refine ma_cons ?_ ?_
              · exact me_var (i := 1) rfl (vis_by rfl)
              · exact ma_nil
    · refine mss_cons ?_ ?_
      · exact ms_raise0 rfl (GX.err .round (by decide)) rfl rfl
      · exact mss_nil
    · exact mss_nil
  · exact mss_nil
theorem ok_require_days {P : Program} {w : World} {K : PySem.W.Frag} {mg : Str → Option Value} {base : Heap} (G : GF K mg frees glos nums txts) (GX : GK K mg base clss errs mths (tabs.map (·.1))) (GI : GI P w K mg base alls owns) (F_is_plain_days : DefOk P w K mg base 1 "is_plain_days" ["book", "value"] mf_is_plain_days) {fd : FuncData} (F : FunD K "require_days" "require_days" (defArgs (top 29)) (defBody (top 29)) (defScope (top 29)) [] [] (He.ga K "require_days") fd) (mgx : mg "require_days" = some (.ref (He.ga K "require_days"))) : DefOk P w K mg base 2 "require_days" ["book", "days"] mf_require_days :=
  DefOk.of F mgx (fun _ _ _ _ _ _ us hl => match us, hl with | [_, _], _ => rfl) sc_require_days (fun cdv A outer s H E hr => body_require_days G GX GI F_is_plain_days cdv A outer s H E hr) (fun ds m _ w => runT_refn ds m w)
/-! ### write_days -/
theorem sc_write_days : FnScope N_write_days ["book", "days"] (defScope (top 40)) := ⟨rfl, rfl, rfl, by decide +kernel, rfl, by decide +kernel, by decide +kernel⟩
theorem body_write_days {P : Program} {w : World} {K : PySem.W.Frag} {mg : Str → Option Value} {base : Heap} (G : GF K mg frees glos nums txts) (GX : GK K mg base clss errs mths (tabs.map (·.1))) (GI : GI P w K mg base alls owns) (F_require_book : DefOk P w K mg base 1 "require_book" ["book"] mf_require_book) (F_require_days : DefOk P w K mg base 2 "require_days" ["book", "days"] mf_require_days) (cdv : Value) (A : Around) (outer : List Env) (s : Shared) (H : Hp) (E : XK) (hr : Room 2 (A.deeper (envOfC "write_days" (defScope (top 40)) s.heap.objs.size (He.ga K "write_days") cdv)))  :
    MSs (cxOf (L2.CX P w) P w K mg base N_write_days "write_days" (defScope (top 40)) (He.ga K "write_days") cdv A outer s H E) (defBody (top 40)) mb_write_days := by
  have hu : (cxOf (L2.CX P w) P w K mg base N_write_days "write_days" (defScope (top 40)) (He.ga K "write_days") cdv A outer s H E).A.units + 64 < cLine := hr.units
  have hu1 : (cxOf (L2.CX P w) P w K mg base N_write_days "write_days" (defScope (top 40)) (He.ga K "write_days") cdv A outer s H E).A.units + 1 < cLine := by omega
  have nd : N_write_days.Nodup := sc_write_days.nd
  refine mss_cons ?_ ?_
  · refine ms_expr ?_
    · refine me_call (n := 1) (F_require_book.mono (by decide)) hr rfl rfl rfl ?_
      · refine ma_cons ?_ ?_
        · exact me_var (i := 0) rfl (vis_by rfl)
        · exact ma_nil
  · refine mss_cons ?_ ?_
    · refine ms_expr ?_
      · refine me_call (n := 2) (F_require_days.mono (by decide)) hr rfl rfl rfl ?_
        · refine ma_cons ?_ ?_
          · exact me_var (i := 0) rfl (vis_by rfl)
          · refine ma_cons ?_ ?_
            · exact me_var (i := 1) rfl (vis_by rfl)
            · exact ma_nil
    · refine mss_cons ?_ ?_
      · refine ms_ret ?_
        · refine me_meth (t := .str) F.plainAttrs_str F.slot_str_join F.type_str_join (mm_join) ?_ ?_
          · exact me_str
          · refine ma_cons ?_ ?_
            · exact me_var (i := 1) rfl (vis_by rfl)
            · exact ma_nil
      · exact mss_nil
theorem ok_write_days {P : Program} {w : World} {K : PySem.W.Frag} {mg : Str → Option Value} {base : Heap} (G : GF K mg frees glos nums txts) (GX : GK K mg base clss errs mths (tabs.map (·.1))) (GI : GI P w K mg base alls owns) (F_require_book : DefOk P w K mg base 1 "require_book" ["book"] mf_require_book) (F_require_days : DefOk P w K mg base 2 "require_days" ["book", "days"] mf_require_days) {fd : FuncData} (F : FunD K "write_days" "write_days" (defArgs (top 40)) (defBody (top 40)) (defScope (top 40)) [] [] (He.ga K "write_days") fd) (mgx : mg "write_days" = some (.ref (He.ga K "write_days"))) : DefOk P w K mg base 3 "write_days" ["book", "days"] mf_write_days :=
  DefOk.of F mgx (fun _ _ _ _ _ _ us hl => match us, hl with | [_, _], _ => rfl) sc_write_days (fun cdv A outer s H E hr => body_write_days G GX GI F_require_book F_require_days cdv A outer s H E hr) (fun ds m _ w => runT_refn ds m w)
/-! ### _law_right -/
theorem sc__law_right : FnScope N__law_right ["dice"] (defScope (top 49)) := ⟨rfl, rfl, rfl, by decide +kernel, rfl, by decide +kernel, by decide +kernel⟩
theorem body__law_right {P : Program} {w : World} {K : PySem.W.Frag} {mg : Str → Option Value} {base : Heap} (G : GF K mg frees glos nums txts) (GX : GK K mg base clss errs mths (tabs.map (·.1))) (GI : GI P w K mg base alls owns) {fd__law_met : FuncData} (FD__law_met : FunD K "_law_met" "_law_met" (defArgs (top 48)) (defBody (top 48)) (defScope (top 48)) [] [] (He.ga K "_law_met") fd__law_met) (F__law_pick : DefOk P w K mg base 2 "_law_pick" ["dice", "items"] mf__law_pick) (F__law_roll : DefOk P w K mg base 1 "_law_roll" ["dice", "total"] mf__law_roll) (F__law_rt_drawn : DefOk P w K mg base 3 "_law_rt_drawn" ["dice", "rooms", "kinds"] mf__law_rt_drawn) (F__law_rt_made : DefOk P w K mg base 6 "_law_rt_made" ["plain"] mf__law_rt_made) (F_read_book : DefOk P w K mg base 6 "read_book" ["text"] mf_read_book) (F_read_days : DefOk P w K mg base 3 "read_days" ["book", "text"] mf_read_days) (F_write_book : DefOk P w K mg base 2 "write_book" ["book"] mf_write_book) (F_write_days : DefOk P w K mg base 3 "write_days" ["book", "days"] mf_write_days) (A : Around) (outer : List Env) (s : Shared) (H : Hp) (E : XK) (hr : Room 8 (A.deeper (envOfC "_law_right" (defScope (top 49)) s.heap.objs.size (He.ga K "_law_right") (.ref (He.cT K ("_law_right", none)).1))))  :
    MSs (cxOf (L2.CX P w) P w K mg base N__law_right "_law_right" (defScope (top 49)) (He.ga K "_law_right") (.ref (He.cT K ("_law_right", none)).1) A outer s H E) (defBody (top 49)) mb__law_right := by
  have hu : (cxOf (L2.CX P w) P w K mg base N__law_right "_law_right" (defScope (top 49)) (He.ga K "_law_right") (.ref (He.cT K ("_law_right", none)).1) A outer s H E).A.units + 64 < cLine := hr.units
  have hu1 : (cxOf (L2.CX P w) P w K mg base N__law_right "_law_right" (defScope (top 49)) (He.ga K "_law_right") (.ref (He.cT K ("_law_right", none)).1) A outer s H E).A.units + 1 < cLine := by omega
  have nd : N__law_right.Nodup := sc__law_right.nd
  refine mss_cons ?_ ?_
  · refine ms_set (i := 1) nd rfl (loc_by rfl) ?_
    · refine me_call (n := 3) (F__law_rt_drawn.mono (by decide)) hr rfl rfl rfl ?_
      · refine ma_cons ?_ ?_
        · exact me_var (i := 0) rfl (vis_by rfl)
        · refine ma_cons ?_ ?_
          · refine me_op om_add ?_ ?_
            · exact me_int
            · refine me_call (n := 2) (F__law_roll.mono (by decide)) hr rfl rfl rfl ?_
              · refine ma_cons ?_ ?_
                · exact me_var (i := 0) rfl (vis_by rfl)
                · refine ma_cons ?_ ?_
                  · exact me_int
                  · exact ma_nil
          · refine ma_cons ?_ ?_
            · refine me_op om_add ?_ ?_
              · exact me_int
              · refine me_call (n := 2) (F__law_roll.mono (by decide)) hr rfl rfl rfl ?_
                · refine ma_cons ?_ ?_
                  · exact me_var (i := 0) rfl (vis_by rfl)
                  · refine ma_cons ?_ ?_
                    · exact me_int
                    · exact ma_nil
            · exact ma_nil
  · refine mss_cons ?_ ?_
    · refine ms_asg (ws := ([2] ++ ([3] ++ []))) ?_ ?_
      · refine me_tup ?_
        · refine ma_cons ?_ ?_
          · refine me_call (n := 1) (F__law_rt_made.mono (by decide)) hr rfl rfl rfl ?_
            · refine ma_cons ?_ ?_
              · exact me_var (i := 1) rfl (vis_by rfl)
              · exact ma_nil
          · refine ma_cons ?_ ?_
            · refine me_ix hu1 ?_ ?_ (fun _ _ => rfl)
              · refine me_lk _ ?_
                · refine me_callB (cm_sorted rfl) rfl (G.free _ (by decide)) (by rfl) ?_
                  · refine ma_cons ?_ ?_
                    · refine me_ix hu1 ?_ ?_ (fun _ _ => rfl)
                      · exact me_var (i := 1) rfl (vis_by rfl)
                      · exact me_str
                    · exact ma_nil
              · exact me_int
            · exact ma_nil
      · refine mg_tup rfl ?_
        · refine mgs_cons ?_ ?_
          · exact mg_name (i := 2) nd rfl (loc_by rfl)
          · refine mgs_cons ?_ ?_
            · exact mg_name (i := 3) nd rfl (loc_by rfl)
            · exact mgs_nil
    · refine mss_cons ?_ ?_
      · refine ms_set (i := 4) nd rfl (loc_by rfl) ?_
        · refine me_call (n := 2) (F__law_pick.mono (by decide)) hr rfl rfl rfl ?_
          · refine ma_cons ?_ ?_
            · exact me_var (i := 0) rfl (vis_by rfl)
            · refine ma_cons ?_ ?_
              · refine me_of_le (le_lst ?_)
                · refine ma_cons ?_ ?_
                  · exact me_non
                  · refine ma_cons ?_ ?_
                    · exact me_int
                    · refine ma_cons ?_ ?_
                      · exact me_str
                      · refine ma_cons ?_ ?_
                        · refine me_tup ?_
                          · exact ma_nil
                        · refine ma_cons ?_ ?_
                          · exact me_dct0
                          · refine ma_cons ?_ ?_
                            · refine me_of_le (le_lst ?_)
                              · refine ma_cons ?_ ?_
                                · exact me_var (i := 2) rfl (vis_by rfl)
                                · exact ma_nil
                            · refine ma_cons ?_ ?_
                              · exact me_bl
                              · exact ma_nil
              · exact ma_nil
      · refine mss_cons ?_ ?_
        · refine ms_set (i := 5) nd rfl (loc_by rfl) ?_
          · refine me_call (n := 2) (F__law_pick.mono (by decide)) hr rfl rfl rfl ?_
            · refine ma_cons ?_ ?_
              · exact me_var (i := 0) rfl (vis_by rfl)
              · refine ma_cons ?_ ?_
                · refine me_of_le (le_lst ?_)
                  · refine ma_cons ?_ ?_
                    · exact me_non
                    · refine ma_cons ?_ ?_
                      · exact me_int
                      · refine ma_cons ?_ ?_
                        · exact me_var (i := 3) rfl (vis_by rfl)
                        · refine ma_cons ?_ ?_
                          · refine me_of_le (le_lst ?_)
                            · refine ma_cons ?_ ?_
                              · exact me_var (i := 3) rfl (vis_by rfl)
                              · exact ma_nil
                          · refine ma_cons ?_ ?_
                            · refine me_tup ?_
                              · refine ma_cons ?_ ?_
                                · exact me_str
                                · exact ma_nil
                            · refine ma_cons ?_ ?_
                              · refine me_tup ?_
                                · refine ma_cons ?_ ?_
                                  · exact me_var (i := 3) rfl (vis_by rfl)
                                  · refine ma_cons ?_ ?_
                                    · exact me_non
                                    · exact ma_nil
                              · refine ma_cons ?_ ?_
                                · refine me_op om_mul ?_ ?_
                                  · refine me_tup ?_
                                    · refine ma_cons ?_ ?_
                                      · exact me_var (i := 3) rfl (vis_by rfl)
                                      · exact ma_nil
                                  · exact me_int
                                · refine ma_cons ?_ ?_
                                  · refine me_disp ?_ rfl rfl (fun z => nomatch z) (by decide)
                                    · refine mp_cons ?_ ?_ ?_
                                      · exact me_var (i := 3) rfl (vis_by rfl)
                                      · exact me_int
                                      · exact mp_nil
                                  · refine ma_cons ?_ ?_
                                    · refine me_tup ?_
                                      · refine ma_cons ?_ ?_
                                        · exact me_int
                                        · exact ma_nil
                                    · exact ma_nil
                · exact ma_nil
        · refine mss_cons ?_ ?_
          · refine ms_set (i := 6) nd rfl (loc_by rfl) ?_
            · refine me_call (n := 2) (F__law_pick.mono (by decide)) hr rfl rfl rfl ?_
              · refine ma_cons ?_ ?_
                · exact me_var (i := 0) rfl (vis_by rfl)
                · refine ma_cons ?_ ?_
                  · refine me_of_le (le_lst ?_)
                    · refine ma_cons ?_ ?_
                      · exact me_non
                      · refine ma_cons ?_ ?_
                        · exact me_int
                        · refine ma_cons ?_ ?_
                          · refine me_tup ?_
                            · exact ma_nil
                          · refine ma_cons ?_ ?_
                            · refine me_of_le (le_lst ?_)
                              · refine ma_cons ?_ ?_
                                · exact me_var (i := 3) rfl (vis_by rfl)
                                · exact ma_nil
                            · refine ma_cons ?_ ?_
                              · exact me_bl
                              · refine ma_cons ?_ ?_
                                · exact me_dct0
                                · refine ma_cons ?_ ?_
                                  · refine me_tup ?_
                                    · refine ma_cons ?_ ?_
                                      · exact me_var (i := 3) rfl (vis_by rfl)
                                      · exact ma_nil
                                  · exact ma_nil
                  · exact ma_nil
          · refine mss_cons ?_ ?_
            · refine ms_set (i := 7) nd rfl (loc_by rfl) ?_
              · refine me_of_le (le_lst ?_)
                · refine ma_cons ?_ ?_
                  · refine me_lamcall (d := ("_law_right", none)) (k := 6) (mbg := mb__law_met) FD__law_met (FD__law_met.bindsN (fun _ _ _ _ _ _ us hl => match us, hl with | [_], _ => rfl)) sc__law_met rfl (vis_by rfl) (fun cdv A outer s H E callm hr hcall => body__law_met G GX GI cdv A outer s H E callm (hr.mono (by decide)) hcall) (fun f c q σ ds cm μ => ind__law_met f c q σ _ ds cm μ) (GX.tab _ (by decide)) rfl (by first | rfl | kernel_rfl) rfl hr rfl (G.glo _ (by decide)) (LamX.lamS_by rfl) rfl (fun _ _ _ _ _ => rfl) (fun A outer s H E f c hr => ?_)
                    · have hu := hr.units
                      have hu1 := Nat.lt_of_le_of_lt (Nat.add_le_add_left (by decide : 1 ≤ 64) _) hu
                      refine me_call (n := 1) (F_write_book.mono (by decide)) hr rfl rfl rfl ?_
                      · refine ma_cons ?_ ?_
                        · exact me_var (i := 4) rfl (vis_by rfl)
                        · exact ma_nil
                  · exact ma_nil
            · refine mss_cons ?_ ?_
              · refine ms_expr ?_
                · refine me_meth (t := .lst) F.plainAttrs_list F.slot_list_append F.type_list_append (mm_append) ?_ ?_
                  · exact me_var (i := 7) rfl (vis_by rfl)
                  · refine ma_cons ?_ ?_
                    · refine me_lamcall (d := ("_law_right", none)) (k := 6) (mbg := mb__law_met) FD__law_met (FD__law_met.bindsN (fun _ _ _ _ _ _ us hl => match us, hl with | [_], _ => rfl)) sc__law_met rfl (vis_by rfl) (fun cdv A outer s H E callm hr hcall => body__law_met G GX GI cdv A outer s H E callm (hr.mono (by decide)) hcall) (fun f c q σ ds cm μ => ind__law_met f c q σ _ ds cm μ) (GX.tab _ (by decide)) rfl (by first | rfl | kernel_rfl) rfl hr rfl (G.glo _ (by decide)) (LamX.lamS_by rfl) rfl (fun _ _ _ _ _ => rfl) (fun A outer s H E f c hr => ?_)
                      · have hu := hr.units
                        have hu1 := Nat.lt_of_le_of_lt (Nat.add_le_add_left (by decide : 1 ≤ 64) _) hu
                        refine me_call (n := 1) (F_read_book.mono (by decide)) hr rfl rfl rfl ?_
                        · refine ma_cons ?_ ?_
                          · exact me_var (i := 6) rfl (vis_by rfl)
                          · exact ma_nil
                    · exact ma_nil
              · refine mss_cons ?_ ?_
                · refine ms_expr ?_
                  · refine me_meth (t := .lst) F.plainAttrs_list F.slot_list_append F.type_list_append (mm_append) ?_ ?_
                    · exact me_var (i := 7) rfl (vis_by rfl)
                    · refine ma_cons ?_ ?_
                      · refine me_lamcall (d := ("_law_right", none)) (k := 6) (mbg := mb__law_met) FD__law_met (FD__law_met.bindsN (fun _ _ _ _ _ _ us hl => match us, hl with | [_], _ => rfl)) sc__law_met rfl (vis_by rfl) (fun cdv A outer s H E callm hr hcall => body__law_met G GX GI cdv A outer s H E callm (hr.mono (by decide)) hcall) (fun f c q σ ds cm μ => ind__law_met f c q σ _ ds cm μ) (GX.tab _ (by decide)) rfl (by first | rfl | kernel_rfl) rfl hr rfl (G.glo _ (by decide)) (LamX.lamS_by rfl) rfl (fun _ _ _ _ _ => rfl) (fun A outer s H E f c hr => ?_)
                        · have hu := hr.units
                          have hu1 := Nat.lt_of_le_of_lt (Nat.add_le_add_left (by decide : 1 ≤ 64) _) hu
                          refine me_call (n := 2) (F_write_days.mono (by decide)) hr rfl rfl rfl ?_
                          · refine ma_cons ?_ ?_
                            · exact me_var (i := 4) rfl (vis_by rfl)
                            · refine ma_cons ?_ ?_
                              · exact me_var (i := 5) rfl (vis_by rfl)
                              · exact ma_nil
                      · exact ma_nil
                · refine mss_cons ?_ ?_
                  · refine ms_expr ?_
                    · refine me_meth (t := .lst) F.plainAttrs_list F.slot_list_append F.type_list_append (mm_append) ?_ ?_
                      · exact me_var (i := 7) rfl (vis_by rfl)
                      · refine ma_cons ?_ ?_
                        · refine me_lamcall (d := ("_law_right", none)) (k := 6) (mbg := mb__law_met) FD__law_met (FD__law_met.bindsN (fun _ _ _ _ _ _ us hl => match us, hl with | [_], _ => rfl)) sc__law_met rfl (vis_by rfl) (fun cdv A outer s H E callm hr hcall => body__law_met G GX GI cdv A outer s H E callm (hr.mono (by decide)) hcall) (fun f c q σ ds cm μ => ind__law_met f c q σ _ ds cm μ) (GX.tab _ (by decide)) rfl (by first | rfl | kernel_rfl) rfl hr rfl (G.glo _ (by decide)) (LamX.lamS_by rfl) rfl (fun _ _ _ _ _ => rfl) (fun A outer s H E f c hr => ?_)
                          · have hu := hr.units
                            have hu1 := Nat.lt_of_le_of_lt (Nat.add_le_add_left (by decide : 1 ≤ 64) _) hu
                            refine me_call (n := 2) (F_write_days.mono (by decide)) hr rfl rfl rfl ?_
                            · refine ma_cons ?_ ?_
                              · exact me_var (i := 2) rfl (vis_by rfl)
                              · refine ma_cons ?_ ?_
                                · exact me_var (i := 5) rfl (vis_by rfl)
                                · exact ma_nil
                        · exact ma_nil
                  · refine mss_cons ?_ ?_
                    · refine ms_expr ?_
                      · refine me_meth (t := .lst) F.plainAttrs_list F.slot_list_append F.type_list_append (mm_append) ?_ ?_
                        · exact me_var (i := 7) rfl (vis_by rfl)
                        · refine ma_cons ?_ ?_
                          · refine me_lamcall (d := ("_law_right", none)) (k := 6) (mbg := mb__law_met) FD__law_met (FD__law_met.bindsN (fun _ _ _ _ _ _ us hl => match us, hl with | [_], _ => rfl)) sc__law_met rfl (vis_by rfl) (fun cdv A outer s H E callm hr hcall => body__law_met G GX GI cdv A outer s H E callm (hr.mono (by decide)) hcall) (fun f c q σ ds cm μ => ind__law_met f c q σ _ ds cm μ) (GX.tab _ (by decide)) rfl (by first | rfl | kernel_rfl) rfl hr rfl (G.glo _ (by decide)) (LamX.lamS_by rfl) rfl (fun _ _ _ _ _ => rfl) (fun A outer s H E f c hr => ?_)
                            · have hu := hr.units
                              have hu1 := Nat.lt_of_le_of_lt (Nat.add_le_add_left (by decide : 1 ≤ 64) _) hu
                              refine me_call (n := 2) (F_read_days.mono (by decide)) hr rfl rfl rfl ?_
                              · refine ma_cons ?_ ?_
                                · exact me_var (i := 4) rfl (vis_by rfl)
                                · refine ma_cons ?_ ?_
                                  · exact me_var (i := 6) rfl (vis_by rfl)
                                  · exact ma_nil
                          · exact ma_nil
                    · refine mss_cons ?_ ?_
                      · refine ms_expr ?_
                        · refine me_meth (t := .lst) F.plainAttrs_list F.slot_list_append F.type_list_append (mm_append) ?_ ?_
                          · exact me_var (i := 7) rfl (vis_by rfl)
                          · refine ma_cons ?_ ?_
                            · refine me_lamcall (d := ("_law_right", none)) (k := 6) (mbg := mb__law_met) FD__law_met (FD__law_met.bindsN (fun _ _ _ _ _ _ us hl => match us, hl with | [_], _ => rfl)) sc__law_met rfl (vis_by rfl) (fun cdv A outer s H E callm hr hcall => body__law_met G GX GI cdv A outer s H E callm (hr.mono (by decide)) hcall) (fun f c q σ ds cm μ => ind__law_met f c q σ _ ds cm μ) (GX.tab _ (by decide)) rfl (by first | rfl | kernel_rfl) rfl hr rfl (G.glo _ (by decide)) (LamX.lamS_by rfl) rfl (fun _ _ _ _ _ => rfl) (fun A outer s H E f c hr => ?_)
                              · have hu := hr.units
                                have hu1 := Nat.lt_of_le_of_lt (Nat.add_le_add_left (by decide : 1 ≤ 64) _) hu
                                refine me_call (n := 2) (F_read_days.mono (by decide)) hr rfl rfl rfl ?_
                                · refine ma_cons ?_ ?_
                                  · exact me_var (i := 2) rfl (vis_by rfl)
                                  · refine ma_cons ?_ ?_
                                    · exact me_var (i := 6) rfl (vis_by rfl)
                                    · exact ma_nil
                            · exact ma_nil
                      · refine mss_cons ?_ ?_
                        · refine ms_expr ?_
                          · refine me_meth (t := .lst) F.plainAttrs_list F.slot_list_append F.type_list_append (mm_append) ?_ ?_
                            · exact me_var (i := 7) rfl (vis_by rfl)
                            · refine ma_cons ?_ ?_
                              · refine me_lamcall (d := ("_law_right", none)) (k := 6) (mbg := mb__law_met) FD__law_met (FD__law_met.bindsN (fun _ _ _ _ _ _ us hl => match us, hl with | [_], _ => rfl)) sc__law_met rfl (vis_by rfl) (fun cdv A outer s H E callm hr hcall => body__law_met G GX GI cdv A outer s H E callm (hr.mono (by decide)) hcall) (fun f c q σ ds cm μ => ind__law_met f c q σ _ ds cm μ) (GX.tab _ (by decide)) rfl (by first | rfl | kernel_rfl) rfl hr rfl (G.glo _ (by decide)) (LamX.lamS_by rfl) rfl (fun _ _ _ _ _ => rfl) (fun A outer s H E f c hr => ?_)
                                · have hu := hr.units
                                  have hu1 := Nat.lt_of_le_of_lt (Nat.add_le_add_left (by decide : 1 ≤ 64) _) hu
                                  refine me_call (n := 2) (F_write_days.mono (by decide)) hr rfl rfl rfl ?_
                                  · refine ma_cons ?_ ?_
                                    · exact me_var (i := 2) rfl (vis_by rfl)
                                    · refine ma_cons ?_ ?_
                                      · refine me_tup ?_
                                        · exact ma_nil
                                      · exact ma_nil
                              · exact ma_nil
                        · refine mss_cons ?_ ?_
                          · refine ms_expr ?_
                            · refine me_meth (t := .lst) F.plainAttrs_list F.slot_list_append F.type_list_append (mm_append) ?_ ?_
                              · exact me_var (i := 7) rfl (vis_by rfl)
                              · refine ma_cons ?_ ?_
                                · refine me_lamcall (d := ("_law_right", none)) (k := 6) (mbg := mb__law_met) FD__law_met (FD__law_met.bindsN (fun _ _ _ _ _ _ us hl => match us, hl with | [_], _ => rfl)) sc__law_met rfl (vis_by rfl) (fun cdv A outer s H E callm hr hcall => body__law_met G GX GI cdv A outer s H E callm (hr.mono (by decide)) hcall) (fun f c q σ ds cm μ => ind__law_met f c q σ _ ds cm μ) (GX.tab _ (by decide)) rfl (by first | rfl | kernel_rfl) rfl hr rfl (G.glo _ (by decide)) (LamX.lamS_by rfl) rfl (fun _ _ _ _ _ => rfl) (fun A outer s H E f c hr => ?_)
                                  · have hu := hr.units
                                    have hu1 := Nat.lt_of_le_of_lt (Nat.add_le_add_left (by decide : 1 ≤ 64) _) hu
                                    refine me_call (n := 2) (F_read_days.mono (by decide)) hr rfl rfl rfl ?_
                                    · refine ma_cons ?_ ?_
                                      · exact me_var (i := 2) rfl (vis_by rfl)
                                      · refine ma_cons ?_ ?_
                                        · exact me_str
                                        · exact ma_nil
                                · exact ma_nil
                          · refine mss_cons ?_ ?_
                            · refine ms_ret ?_
                              · refine me_cmp (om_eq hu) ?_ ?_ rfl
                                · exact me_var (i := 7) rfl (vis_by rfl)
                                · refine me_of_le (le_lst ?_)
                                  · refine ma_cons ?_ ?_
                                    · exact me_str
                                    · refine ma_cons ?_ ?_
                                      · exact me_str
                                      · refine ma_cons ?_ ?_
                                        · exact me_str
                                        · refine ma_cons ?_ ?_
                                          · exact me_str
                                          · refine ma_cons ?_ ?_
                                            · exact me_str
                                            · refine ma_cons ?_ ?_
                                              · exact me_str
                                              · refine ma_cons ?_ ?_
                                                · exact me_str
                                                · refine ma_cons ?_ ?_
                                                  · exact me_str
                                                  · exact ma_nil
                            · exact mss_nil
theorem ok__law_right {P : Program} {w : World} {K : PySem.W.Frag} {mg : Str → Option Value} {base : Heap} (G : GF K mg frees glos nums txts) (GX : GK K mg base clss errs mths (tabs.map (·.1))) (GI : GI P w K mg base alls owns) {fd__law_met : FuncData} (FD__law_met : FunD K "_law_met" "_law_met" (defArgs (top 48)) (defBody (top 48)) (defScope (top 48)) [] [] (He.ga K "_law_met") fd__law_met) (F__law_pick : DefOk P w K mg base 2 "_law_pick" ["dice", "items"] mf__law_pick) (F__law_roll : DefOk P w K mg base 1 "_law_roll" ["dice", "total"] mf__law_roll) (F__law_rt_drawn : DefOk P w K mg base 3 "_law_rt_drawn" ["dice", "rooms", "kinds"] mf__law_rt_drawn) (F__law_rt_made : DefOk P w K mg base 6 "_law_rt_made" ["plain"] mf__law_rt_made) (F_read_book : DefOk P w K mg base 6 "read_book" ["text"] mf_read_book) (F_read_days : DefOk P w K mg base 3 "read_days" ["book", "text"] mf_read_days) (F_write_book : DefOk P w K mg base 2 "write_book" ["book"] mf_write_book) (F_write_days : DefOk P w K mg base 3 "write_days" ["book", "days"] mf_write_days) {fd : FuncData} (F : FunD K "_law_right" "_law_right" (defArgs (top 49)) (defBody (top 49)) (defScope (top 49)) [] [] (He.ga K "_law_right") fd) (mgx : mg "_law_right" = some (.ref (He.ga K "_law_right"))) : DefOk P w K mg base 9 "_law_right" ["dice"] mf__law_right :=
  DefOk.ofT F mgx (fun _ _ _ _ _ _ us hl => match us, hl with | [_], _ => rfl) sc__law_right (fun A outer s H E hr => body__law_right G GX GI FD__law_met F__law_pick F__law_roll F__law_rt_drawn F__law_rt_made F_read_book F_read_days F_write_book F_write_days A outer s H E hr) (fun ds m _ w => runT_refn ds m w)
/-! ### law -/
theorem sc_law : FnScope N_law ["script"] (defScope (top 50)) := ⟨rfl, rfl, rfl, by decide +kernel, rfl, by decide +kernel, by decide +kernel⟩
theorem body_law {P : Program} {w : World} {K : PySem.W.Frag} {mg : Str → Option Value} {base : Heap} (G : GF K mg frees glos nums txts) (GX : GK K mg base clss errs mths (tabs.map (·.1))) (GI : GI P w K mg base alls owns) (F__law_dice : DefOk P w K mg base 1 "_law_dice" ["script", "spot"] mf__law_dice) (F__law_right : DefOk P w K mg base 9 "_law_right" ["dice"] mf__law_right) (cdv : Value) (A : Around) (outer : List Env) (s : Shared) (H : Hp) (E : XK) (hr : Room 9 (A.deeper (envOfC "law" (defScope (top 50)) s.heap.objs.size (He.ga K "law") cdv)))  :
    MSs (cxOf (L2.CX P w) P w K mg base N_law "law" (defScope (top 50)) (He.ga K "law") cdv A outer s H E) (defBody (top 50)) mb_law := by
  have hu : (cxOf (L2.CX P w) P w K mg base N_law "law" (defScope (top 50)) (He.ga K "law") cdv A outer s H E).A.units + 64 < cLine := hr.units
  have hu1 : (cxOf (L2.CX P w) P w K mg base N_law "law" (defScope (top 50)) (He.ga K "law") cdv A outer s H E).A.units + 1 < cLine := by omega
  have nd : N_law.Nodup := sc_law.nd
  refine mss_cons ?_ ?_
  · refine ms_for (ws := [1]) (passes_of rfl) rfl ?_ ?_ ?_
    · refine mi_range1 rfl (G.free _ (by decide)) ?_
      · refine ma_cons ?_ ?_
        · refine me_callB (cm_max2 rfl) rfl (G.free _ (by decide)) (by rfl) ?_
          · refine ma_cons ?_ ?_
            · exact me_int
            · refine ma_cons ?_ ?_
              · refine me_callB (cm_min2 rfl) rfl (G.free _ (by decide)) (by rfl) ?_
                · refine ma_cons ?_ ?_
                  · exact me_int
                  · refine ma_cons ?_ ?_
                    · refine me_callB (cm_len) rfl (G.free _ (by decide)) (by rfl) ?_
                      · refine ma_cons ?_ ?_
                        · exact me_var (i := 0) rfl (vis_by rfl)
                        · exact ma_nil
                    · exact ma_nil
              · exact ma_nil
        · exact ma_nil
    · exact mg_name (i := 1) nd rfl (loc_by rfl)
    · refine mss_cons ?_ ?_
      · refine ms_set (i := 2) nd rfl (loc_by rfl) ?_
        · refine me_call (n := 2) (F__law_dice.mono (by decide)) hr rfl rfl rfl ?_
          · refine ma_cons ?_ ?_
            · exact me_var (i := 0) rfl (vis_by rfl)
            · refine ma_cons ?_ ?_
              · exact me_var (i := 1) rfl (vis_by rfl)
              · exact ma_nil
      · refine mss_cons ?_ ?_
        · refine ms_for (ws := [3]) (passes_of rfl) rfl ?_ ?_ ?_
          · refine mi_range1 rfl (G.free _ (by decide)) ?_
            · refine ma_cons ?_ ?_
              · exact me_int
              · exact ma_nil
          · exact mg_name (i := 3) nd rfl (loc_by rfl)
          · refine mss_cons ?_ ?_
            · refine ms_if ?_ ?_ ?_
              · refine mt_not ?_
                · refine mt_val ?_
                  · refine me_call (n := 1) (F__law_right.mono (by decide)) hr rfl rfl rfl ?_
                    · refine ma_cons ?_ ?_
                      · exact me_var (i := 2) rfl (vis_by rfl)
                      · exact ma_nil
              · refine mss_cons ?_ ?_
                · refine ms_ret ?_
                  · exact me_bl
                · exact mss_nil
              · exact mss_nil
            · exact mss_nil
        · exact mss_nil
  · refine mss_cons ?_ ?_
    · refine ms_ret ?_
      · exact me_bl
    · exact mss_nil
theorem ok_law {P : Program} {w : World} {K : PySem.W.Frag} {mg : Str → Option Value} {base : Heap} (G : GF K mg frees glos nums txts) (GX : GK K mg base clss errs mths (tabs.map (·.1))) (GI : GI P w K mg base alls owns) (F__law_dice : DefOk P w K mg base 1 "_law_dice" ["script", "spot"] mf__law_dice) (F__law_right : DefOk P w K mg base 9 "_law_right" ["dice"] mf__law_right) {fd : FuncData} (F : FunD K "law" "law" (defArgs (top 50)) (defBody (top 50)) (defScope (top 50)) [] [] (He.ga K "law") fd) : FnOk P w K mg base (L2.CX P w) 10 (He.ga K "law") fd ["script"] (spM K mg 1 mf_law) :=
  fnOk_of F sc_law (fun cdv A outer s H E hr => body_law G GX GI F__law_dice F__law_right cdv A outer s H E hr) (fun ds m _ w => runT_refn ds m w)
end M
end
section
set_option Elab.async false
set_option linter.all false
set_option maxRecDepth 100000
set_option maxHeartbeats 0
namespace M
open T PySem PySem.Spec PyProof.Rows L2
abbrev R : PySem.W.OpenRow := PySem.W.OpenLaw.row PySem.Challenge.rw_roundsalike_k76_errors_of_texts
def fnL : List He.DefD := [
  ⟨("_law_dice", none), "_law_dice", "_law_dice", defArgs (top 43), defBody (top 43), defScope (top 43), [], []⟩,
  ⟨("_law_met", none), "_law_met", "_law_met", defArgs (top 48), defBody (top 48), defScope (top 48), [], []⟩,
  ⟨("_law_roll", none), "_law_roll", "_law_roll", defArgs (top 44), defBody (top 44), defScope (top 44), [], []⟩,
  ⟨("_law_pick", none), "_law_pick", "_law_pick", defArgs (top 45), defBody (top 45), defScope (top 45), [], []⟩,
  ⟨("_law_rt_drawn", none), "_law_rt_drawn", "_law_rt_drawn", defArgs (top 46), defBody (top 46), defScope (top 46), [], []⟩,
  ⟨("Book", some "table_told"), "table_told", "Book.table_told", defArgs (cbody (top 22) 2), defBody (cbody (top 22) 2), defScope (cbody (top 22) 2), [], []⟩,
  ⟨("is_name", none), "is_name", "is_name", defArgs (top 12), defBody (top 12), defScope (top 12), [], []⟩,
  ⟨("is_room_tuple", none), "is_room_tuple", "is_room_tuple", defArgs (top 17), defBody (top 17), defScope (top 17), [], []⟩,
  ⟨("are_rooms", none), "are_rooms", "are_rooms", defArgs (top 19), defBody (top 19), defScope (top 19), [], []⟩,
  ⟨("is_integer", none), "is_integer", "is_integer", defArgs (top 11), defBody (top 11), defScope (top 11), [], []⟩,
  ⟨("is_told", none), "is_told", "is_told", defArgs (top 18), defBody (top 18), defScope (top 18), [], []⟩,
  ⟨("fault_in", none), "fault_in", "fault_in", defArgs (top 20), defBody (top 20), defScope (top 20), [], []⟩,
  ⟨("without_noughts", none), "without_noughts", "without_noughts", defArgs (top 21), defBody (top 21), defScope (top 21), [], []⟩,
  ⟨("Book", some "__init__"), "__init__", "Book.__init__", defArgs (cbody (top 22) 1), defBody (cbody (top 22) 1), defScope (cbody (top 22) 1), [], []⟩,
  ⟨("_law_rt_made", none), "_law_rt_made", "_law_rt_made", defArgs (top 47), defBody (top 47), defScope (top 47), [], []⟩,
  ⟨("is_integer_text", none), "is_integer_text", "is_integer_text", defArgs (top 33), defBody (top 33), defScope (top 33), [], []⟩,
  ⟨("is_line", none), "is_line", "is_line", defArgs (top 36), defBody (top 36), defScope (top 36), [], []⟩,
  ⟨("key_of", none), "key_of", "key_of", defArgs (top 37), defBody (top 37), defScope (top 37), [], []⟩,
  ⟨("lines_read", none), "lines_read", "lines_read", defArgs (top 38), defBody (top 38), defScope (top 38), [], []⟩,
  ⟨("lines_of", none), "lines_of", "lines_of", defArgs (top 34), defBody (top 34), defScope (top 34), [], []⟩,
  ⟨("require_book", none), "require_book", "require_book", defArgs (top 23), defBody (top 23), defScope (top 23), [], []⟩,
  ⟨("write_book", none), "write_book", "write_book", defArgs (top 35), defBody (top 35), defScope (top 35), [], []⟩,
  ⟨("read_book", none), "read_book", "read_book", defArgs (top 39), defBody (top 39), defScope (top 39), [], []⟩,
  ⟨("is_plain_days", none), "is_plain_days", "is_plain_days", defArgs (top 28), defBody (top 28), defScope (top 28), [], []⟩,
  ⟨("read_days", none), "read_days", "read_days", defArgs (top 41), defBody (top 41), defScope (top 41), [], []⟩,
  ⟨("require_days", none), "require_days", "require_days", defArgs (top 29), defBody (top 29), defScope (top 29), [], []⟩,
  ⟨("write_days", none), "write_days", "write_days", defArgs (top 40), defBody (top 40), defScope (top 40), [], []⟩,
  ⟨("_law_right", none), "_law_right", "_law_right", defArgs (top 49), defBody (top 49), defScope (top 49), [], []⟩,
  ⟨("law", none), "law", "law", defArgs (top 50), defBody (top 50), defScope (top 50), [], []⟩]
def sn : List SupD := [⟨.parse, "ParseError.__init__", defArgs (cbody (top 5) 0), defBody (cbody (top 5) 0), defScope (cbody (top 5) 0)⟩]
def fileN : Str := "/claim/cut.py"
abbrev hk : PySem.W.Hook := hookY 5 (faOf glos frees nums txts errs) fnL (tabs.map (·.1)) (exOf fileN clss alls mths tabs sn) sn
def ob (s : PySem.W.SharedT) : AlY := obsY 5 (faOf glos frees nums txts errs) fnL (tabs.map (·.1)) (exOf fileN clss alls mths tabs sn) sn (HandSHeadRun.getT s)
theorem ob_eq (s : PySem.W.SharedT) : ob s = hk.obs s.abs := obsY_eq (HandSHeadRun.getT_eq s)
def names0 : List Str := ["_wall", "__name__", "RotaError", "InvalidBook", "InvalidRound", "ParseError", "UnknownName", "MAX_NAME", "FIRST_SIGNS", "NEXT_SIGNS", "is_integer", "is_name", "MAX_ROOMS", "MAX_KINDS", "MOST_WAYS", "is_room_tuple", "is_told", "are_rooms", "fault_in", "without_noughts", "Book", "require_book", "require_kind", "require_room", "MAX_DAYS", "is_plain_days", "require_days", "SORTS", "MAX_SIGNS", "is_integer_text"]
def names1 : List Str := ["lines_of", "write_book", "is_line", "key_of", "lines_read", "read_book", "write_days", "read_days", "_law_dice", "_law_roll", "_law_pick", "_law_rt_drawn", "_law_rt_made", "_law_met", "_law_right"]
def names : List Str := names0 ++ names1
theorem run (w : World) : HandSHeadRun.RunEq R (PySem.W.view R.prog [50]) hk ob 4000 names w := by
  intro os
  kernel_rfl
theorem law_fn {w : World} {K : PySem.W.Frag} {mg : Str → Option Value} {h : Heap} (c : SaysY (faOf glos frees nums txts errs) fnL (tabs.map (·.1)) (exOf fileN clss alls mths tabs sn) sn w h K) (X : K.In h) (G : h.Ns mainGlobals mg) :
    ∃ fd : FuncData, (∀ (s : Shared) (u : Value), BindsTo s fd ⟨[u], []⟩ [(("script" : Str), u)]) ∧ ∀ base : Heap, K.In base → base.Ns mainGlobals mg → (∀ q ∈ tabs, LamX.TabB base mg (He.cT K q.1).1 (He.cT K q.1).2) →
      FnOk PySem.Challenge.rw_roundsalike_k76_errors_of_texts.prog w K mg base (L2.CX PySem.Challenge.rw_roundsalike_k76_errors_of_texts.prog w) 10 (He.ga K "law") fd [("script" : Str)] (spM K mg 1 mf_law) := by
  have gf := gf_of c X G
  have ge := ge_of c
  obtain ⟨fd__law_dice, D__law_dice⟩ := c.defs (List.mem_of_getElem? (i := 0) rfl)
  obtain ⟨fd__law_met, D__law_met⟩ := c.defs (List.mem_of_getElem? (i := 1) rfl)
  obtain ⟨fd__law_roll, D__law_roll⟩ := c.defs (List.mem_of_getElem? (i := 2) rfl)
  obtain ⟨fd__law_pick, D__law_pick⟩ := c.defs (List.mem_of_getElem? (i := 3) rfl)
  obtain ⟨fd__law_rt_drawn, D__law_rt_drawn⟩ := c.defs (List.mem_of_getElem? (i := 4) rfl)
  obtain ⟨fd_Book_table_told, D_Book_table_told⟩ := c.defs (List.mem_of_getElem? (i := 5) rfl)
  obtain ⟨fd_is_name, D_is_name⟩ := c.defs (List.mem_of_getElem? (i := 6) rfl)
  obtain ⟨fd_is_room_tuple, D_is_room_tuple⟩ := c.defs (List.mem_of_getElem? (i := 7) rfl)
  obtain ⟨fd_are_rooms, D_are_rooms⟩ := c.defs (List.mem_of_getElem? (i := 8) rfl)
  obtain ⟨fd_is_integer, D_is_integer⟩ := c.defs (List.mem_of_getElem? (i := 9) rfl)
  obtain ⟨fd_is_told, D_is_told⟩ := c.defs (List.mem_of_getElem? (i := 10) rfl)
  obtain ⟨fd_fault_in, D_fault_in⟩ := c.defs (List.mem_of_getElem? (i := 11) rfl)
  obtain ⟨fd_without_noughts, D_without_noughts⟩ := c.defs (List.mem_of_getElem? (i := 12) rfl)
  obtain ⟨fd_Book___init__, D_Book___init__⟩ := c.defs (List.mem_of_getElem? (i := 13) rfl)
  obtain ⟨fd__law_rt_made, D__law_rt_made⟩ := c.defs (List.mem_of_getElem? (i := 14) rfl)
  obtain ⟨fd_is_integer_text, D_is_integer_text⟩ := c.defs (List.mem_of_getElem? (i := 15) rfl)
  obtain ⟨fd_is_line, D_is_line⟩ := c.defs (List.mem_of_getElem? (i := 16) rfl)
  obtain ⟨fd_key_of, D_key_of⟩ := c.defs (List.mem_of_getElem? (i := 17) rfl)
  obtain ⟨fd_lines_read, D_lines_read⟩ := c.defs (List.mem_of_getElem? (i := 18) rfl)
  obtain ⟨fd_lines_of, D_lines_of⟩ := c.defs (List.mem_of_getElem? (i := 19) rfl)
  obtain ⟨fd_require_book, D_require_book⟩ := c.defs (List.mem_of_getElem? (i := 20) rfl)
  obtain ⟨fd_write_book, D_write_book⟩ := c.defs (List.mem_of_getElem? (i := 21) rfl)
  obtain ⟨fd_read_book, D_read_book⟩ := c.defs (List.mem_of_getElem? (i := 22) rfl)
  obtain ⟨fd_is_plain_days, D_is_plain_days⟩ := c.defs (List.mem_of_getElem? (i := 23) rfl)
  obtain ⟨fd_read_days, D_read_days⟩ := c.defs (List.mem_of_getElem? (i := 24) rfl)
  obtain ⟨fd_require_days, D_require_days⟩ := c.defs (List.mem_of_getElem? (i := 25) rfl)
  obtain ⟨fd_write_days, D_write_days⟩ := c.defs (List.mem_of_getElem? (i := 26) rfl)
  obtain ⟨fd__law_right, D__law_right⟩ := c.defs (List.mem_of_getElem? (i := 27) rfl)
  obtain ⟨fd_law, D_law⟩ := c.defs (List.mem_of_getElem? (i := 28) rfl)
  refine ⟨fd_law, fun s u => (FunD.bindsA (ps := [("script" : Str)]) D_law fun _ _ _ _ _ _ us hl => match us, hl with | [_], _ => rfl) s [u] rfl, fun base kb nb tb => ?_⟩
  have GX : GK K mg base clss errs mths (tabs.map (·.1)) := gk_of c X G (by decide) (by decide) tb
  have GI0 : GI PySem.Challenge.rw_roundsalike_k76_errors_of_texts.prog w K mg base alls owns := by
    refine ⟨ge.exm, fun e he => ?_, fun e he => ?_⟩
    · simp only [owns, List.mem_cons, List.not_mem_nil, or_false] at he
      rcases he with rfl
      · exact errI_of (ge.sup _ (List.mem_of_getElem? (i := 0) rfl)) rfl (gf.glo _ (by decide)) (by decide) (NdefX.nscope_by rfl) rfl (fun _ _ _ _ _ us hl => match us, hl with | [_, _], _ => rfl) rfl rfl rfl rfl (gf.free _ (by decide)) rfl rfl (by decide) (by decide)
    · simp only [owns, List.mem_cons, List.not_mem_nil, or_false] at he
      rcases he with rfl
      · exact ⟨(ge.sup _ (List.mem_of_getElem? (i := 0) rfl)).xf, (ge.sup _ (List.mem_of_getElem? (i := 0) rfl)).no⟩
  have F__law_dice := ok__law_dice gf GX GI0  D__law_dice (gf.glo _ (by decide))
  have F__law_roll := ok__law_roll gf GX GI0  D__law_roll (gf.glo _ (by decide))
  have F__law_pick := ok__law_pick gf GX GI0 F__law_roll D__law_pick (gf.glo _ (by decide))
  have F__law_rt_drawn := ok__law_rt_drawn gf GX GI0 F__law_pick D__law_rt_drawn (gf.glo _ (by decide))
  have F_Book_table_told := ok_Book_table_told gf GX GI0  D_Book_table_told
  have F_is_name := ok_is_name gf GX GI0  D_is_name (gf.glo _ (by decide))
  have F_is_room_tuple := ok_is_room_tuple gf GX GI0 F_is_name D_is_room_tuple (gf.glo _ (by decide))
  have F_are_rooms := ok_are_rooms gf GX GI0  D_are_rooms (gf.glo _ (by decide))
  have F_is_integer := ok_is_integer gf GX GI0  D_is_integer (gf.glo _ (by decide))
  have F_is_told := ok_is_told gf GX GI0 F_are_rooms F_is_integer D_is_told (gf.glo _ (by decide))
  have F_fault_in := ok_fault_in gf GX GI0 F_is_name F_is_room_tuple F_is_told D_fault_in (gf.glo _ (by decide))
  have F_without_noughts := ok_without_noughts gf GX GI0  D_without_noughts (gf.glo _ (by decide))
  have F_Book___init__ := ok_Book___init__ gf GX GI0 F_Book_table_told F_fault_in F_without_noughts D_Book___init__
  have F__law_rt_made := ok__law_rt_made gf GX GI0 F_Book___init__ D__law_rt_made (gf.glo _ (by decide))
  have F_is_integer_text := ok_is_integer_text gf GX GI0  D_is_integer_text (gf.glo _ (by decide))
  have F_is_line := ok_is_line gf GX GI0 F_is_integer_text F_is_name D_is_line (gf.glo _ (by decide))
  have F_key_of := ok_key_of gf GX GI0  D_key_of (gf.glo _ (by decide))
  have F_lines_read := ok_lines_read gf GX GI0 F_is_line F_key_of D_lines_read (gf.glo _ (by decide))
  have F_lines_of := ok_lines_of gf GX GI0  D_lines_of (gf.glo _ (by decide))
  have F_require_book := ok_require_book gf GX GI0  D_require_book (gf.glo _ (by decide))
  have F_write_book := ok_write_book gf GX GI0 F_lines_of F_require_book D_write_book (gf.glo _ (by decide))
  have F_read_book := ok_read_book gf GX GI0 F_Book___init__ F_lines_read F_write_book D_read_book (gf.glo _ (by decide))
  have F_is_plain_days := ok_is_plain_days gf GX GI0  D_is_plain_days (gf.glo _ (by decide))
  have F_read_days := ok_read_days gf GX GI0 F_is_name F_is_plain_days F_require_book D_read_days (gf.glo _ (by decide))
  have F_require_days := ok_require_days gf GX GI0 F_is_plain_days D_require_days (gf.glo _ (by decide))
  have F_write_days := ok_write_days gf GX GI0 F_require_book F_require_days D_write_days (gf.glo _ (by decide))
  have F__law_right := ok__law_right gf GX GI0 D__law_met F__law_pick F__law_roll F__law_rt_drawn F__law_rt_made F_read_book F_read_days F_write_book F_write_days D__law_right (gf.glo _ (by decide))
  exact ok_law gf GX GI0 F__law_dice F__law_right D_law
end M
open PySem PySem.W PySem.Calls PyProof.Rows
set_option maxHeartbeats 0 in
theorem PySem.Challenge.cw_roundsalike_k76_errors_of_texts_holds : PySem.Challenge.rw_roundsalike_k76_errors_of_texts.Holds := by
  w_on; o_law
  refine HandSHeadRun.head_any (r := OpenLaw.row PySem.Challenge.rw_roundsalike_k76_errors_of_texts) (q := view (OpenLaw.row PySem.Challenge.rw_roundsalike_k76_errors_of_texts).prog [50]) (H := M.hk) (ob := M.ob) (M := 4000) (loose := M.names) (d := HandSHeadRun.topDef (OpenLaw.row PySem.Challenge.rw_roundsalike_k76_errors_of_texts).prog 50) (kwd := []) M.ob_eq
    (by kernel_rfl) (fun s => by kernel_rfl) M.run (by kernel_rfl) (by kernel_rfl) (by kernel_rfl) (by rfl) (by first | assumption | decide +kernel) (by decide +kernel) ⟨rfl, rfl, rfl, rfl, rfl, by decide +kernel⟩ ?hw ?hc
  case hw => w_witness2
  case hc =>
    refine LamX.walk_ofTsE (l := PySem.Challenge.rw_roundsalike_k76_errors_of_texts) (n := 63) (k := 10) (x := "script") (CX := fun w => L2.CX PySem.Challenge.rw_roundsalike_k76_errors_of_texts.prog w) rfl (by decide) (by kernel_rfl) ⟨rfl, by decide, by decide⟩ ?F (fun _ _ _ _ _ ⟨_, _, _, _, _, _, _, _, _, _, _, _, z⟩ => z)
    intro w mg fa h Y G hmg0
    obtain ⟨K, KX, c⟩ := Y
    have hmg : mg ("law" : PySem.Str) = some (.ref fa) := by
      have e : (HandSHeadRun.topDef (OpenLaw.row PySem.Challenge.rw_roundsalike_k76_errors_of_texts).prog 50).name = ("law" : PySem.Str) := by kernel_rfl
      rw [← e]
      exact hmg0
    have gf := T.gf_of c KX G
    have efa : He.ga K "law" = fa := by
      have z := (gf.glo "law" (by decide)).symm.trans hmg
      cases z
      rfl
    obtain ⟨fd, hb, hF⟩ := M.law_fn c KX G
    rw [efa] at hF
    refine ⟨K, KX, T.lawAt (tabs := M.tabs) (fd := fd) (mf := M.mf_law) KX (T.nd_of c) (fun q hq => (c.tab _ (List.mem_map.mpr ⟨q, hq, rfl⟩)).2.2) (fun q hq => (c.tab _ (List.mem_map.mpr ⟨q, hq, rfl⟩)).2.1) (fun q hq => (c.tab _ (List.mem_map.mpr ⟨q, hq, rfl⟩)).1) hb hF (by have z := M.plain; exact z)⟩
end
