import PyProof.Rows.All
import Wide.All
import OpenK.AllK
import Wide.FinOn
import HandS.ForMost
import HandS.ForSpec
import HandS.CallSlots
import HandS.Lambda
import HandS.TryMany
import HandS.ExcInit
import HandS.TupAny
import HandS.TupLe
import HandS.Deep
import HandS.More
import HandS.WrittenGet
import KE.KLam
import HandS.SuiteRaise
import HandS.ExcOwn
import PyProof.CodeObjX
import KE.KNest
import HandS.Nested
import KE.DataMinMax
import KE.DataCmp
import HandS.Strs
import HandS.Style
import HandS.Iter
import HandS.Sort
import HandS.Steps
import HandS.GenOver
import HandS.GenList
import KE.GoesEnumKw
import HandS.SortKw
import HandS.RevTup
import HandS.Codes
import HandS.Rev
import HandS.Replace
import HandS.RaiseMore
import PyProof.ListStr
import PyProof.CollectStr
import HandS.TupLen
import HandS.WordsDict
import KE.KDictKeyed
import HandS.StrMore
import PyProof.StrOps2
import KE.KExcSuper
import HandS.ExcInitHot
import KE.DataMinKey
import KE.KEqDict
import KE.SortKeyHeap
import HandS.Keys
import KE.GoesZip
import KE.GoesEnum
import KE.GoesMore
import HandS.Conv
import PyProof.Rows.StrStep
import KE.KDictDisplayH
import HandS.ExcField
import KE.SortData
import PyProof.NeKinds
import PyProof.Rows.SumAny
import PyProof.WalksMore
import KE.KDictZip
import KE.KDictExact
import HandS.DictTup
import KE.DataFind
import HandS.ListItems
import KE.KDictSum
import HandS.ExcIs
import HandS.IsInst
import KE.KExcIs
import HandS.SetFor
import HandS.EndTab
import KE.KNestM
import PySem.Challenge.RW_flaghall_k23_a_desk
set_option Elab.async false
set_option linter.all false
set_option maxRecDepth 100000
namespace DL
open PySem L2
/-- deep values -/
inductive D where
  | non
  | bl (b : Bool)
  | int (i : Int)
  | str (s : List Nat)
  | lst (xs : List D)
  | tup (xs : List D)
  | dic (kvs : List (D × D))
  | cdic (kvs : List (List Nat × D))
  | ins (c : Nat) (fs : List D)
  | dice
  | fn (n : Nat)
  /-- a tuple whose object is known -/
  | ktup (xs : List D)
  /-- a tuple of the program's own constants -/
  | ctup (xs : List D)
  /-- a dict whose keys are tuples of ints and texts -/
  | tdic (kvs : List (D × D))
  deriving Inhabited
structure Exc where
  cls : Nat
  arg : D
/-- what a computation comes to; roll m k: some number below m is drawn -/
inductive R (α : Type) where
  | ok (a : α)
  | err (e : Exc)
  | stuck
  | roll (m : Nat) (k : Nat → R α)
namespace R
variable {α β : Type}
def bind : R α → (α → R β) → R β
  | .ok a, k => k a
  | .err e, _ => .err e
  | .stuck, _ => .stuck
  | .roll m f, k => .roll m fun i => (f i).bind k
instance : Monad R where
  pure := .ok
  bind := R.bind
@[simp] theorem ok_bind (a : α) (k : α → R β) : (R.ok a >>= k) = k a := rfl
@[simp] theorem err_bind (e : Exc) (k : α → R β) : ((R.err e : R α) >>= k) = .err e := rfl
@[simp] theorem stuck_bind (k : α → R β) : ((R.stuck : R α) >>= k) = .stuck := rfl
@[simp] theorem roll_bind (m : Nat) (f : Nat → R α) (k : α → R β) : (R.roll m f >>= k) = .roll m fun i => f i >>= k := rfl
@[simp] theorem pure_eq (a : α) : (pure a : R α) = .ok a := rfl
end R
def Wp {α : Type} : R α → (α → Prop) → (Exc → Prop) → Prop
  | .ok a, Q, _ => Q a
  | .err e, _, E => E e
  | .stuck, _, _ => False
  | .roll m k, Q, E => ∀ i, i < m → Wp (k i) Q E
section
variable {α β : Type} {Q Q' : α → Prop} {E E' : Exc → Prop}
theorem Wp.mono : ∀ {m : R α}, Wp m Q E → (∀ a, Q a → Q' a) → (∀ e, E e → E' e) → Wp m Q' E'
  | .ok a, h, q, _ => q a h
  | .err e, h, _, q => q e h
  | .stuck, h, _, _ => h
  | .roll _ _, h, q, q' => fun i hi => Wp.mono (h i hi) q q'
theorem Wp.thn {m : R α} (h : Wp m Q E) (q : ∀ a, Q a → Q' a) : Wp m Q' E := h.mono q fun _ x => x
theorem Wp.bind {k : α → R β} {Qb : β → Prop} : ∀ {m : R α}, Wp (m >>= k) Qb E → Wp m (fun a => Wp (k a) Qb E) E
  | .ok _, h => h
  | .err _, h => h
  | .stuck, h => h
  | .roll _ _, h => fun i hi => Wp.bind (h i hi)
theorem Wp.of_bind {k : α → R β} {Qb : β → Prop} : ∀ {m : R α}, Wp m (fun a => Wp (k a) Qb E) E → Wp (m >>= k) Qb E
  | .ok _, h => h
  | .err _, h => h
  | .stuck, h => h
  | .roll _ _, h => fun i hi => Wp.of_bind (h i hi)
end
structure Gm where
  K : PySem.W.Frag
  w : World
  cls : Nat → Addr
  flds : Nat → List Str
  fns : Nat → Addr
  xcls : Nat → Addr
  xfld : Nat → Option Str
  tabs : List (Addr × Str)
  /-- lambda (true) or generator (false) by the place in the text -/
  kd : Nat → Nat → Bool
  /-- the frames of code objects made since, from the innermost on: code object, its table, the prefix of names -/
  subs : List (Addr × Addr × Str)
  /-- classes whose instances have no dict -/
  bare : Nat → Bool := fun _ => false
abbrev Gm.sub (G : Gm) (x : Addr × Addr × Str) : Gm := { G with subs := x :: G.subs }
/-- a key of a dict -/
def D.key : D → Option Key
  | .int i => some (.inl i)
  | .str s => some (.inr ⟨s.toArray⟩)
  | _ => none
/-- a key that is a tuple -/
def keysK : List D → Option (List Key)
  | [] => some []
  | d :: ds => match d.key, keysK ds with
    | some k, some ks => some (k :: ks)
    | _, _ => none
def D.tkey : D → Option (List Key)
  | .tup ds => keysK ds
  | _ => none
mutual
def Rep (G : Gm) (dl : Addr) (S : Hp) : D → V → Prop
  | .non, v => v = .non
  | .bl b, v => v = .bl b
  | .int i, v => v = .int i
  | .str s, v => v = .str ⟨s.toArray⟩
  | .lst ds, v => ∃ a vs, v = .ref a ∧ S a = some (.lst vs) ∧ RepL G dl S ds vs
  | .tup ds, v => ∃ a vs, v = .ref a ∧ S a = some (.tup vs) ∧ RepL G dl S ds vs
  | .ctup ds, v => ∃ a vs, v = .ref a ∧ SqT G.K S a vs ∧ RepL G dl S ds vs
  | .dic kvs, v => ∃ (a : Addr) (o : Obj) (kv : List (Key × V)), v = .ref a ∧ S a = some (.frz o (.dK kv)) ∧ RepK G dl S kvs kv
  | .tdic kvs, v => ∃ (a : Addr) (o : Obj) (kv : List (List Key × V)), v = .ref a ∧ S a = some (.frz o (.dT kv)) ∧ RepT G dl S kvs kv
  | .cdic kvs, v => ∃ a, v = .ref a ∧ RepC G dl S a kvs
  | .ins c ds, v => ∃ a dx vs, v = .ref a ∧ S a = some (.ins (G.cls c) dx ((G.flds c).zip vs)) ∧ (G.flds c).length = vs.length ∧ RepL G dl S ds vs
  | .dice, v => v = .ref dl
  | .fn n, v => v = .ref (G.fns n)
  | .ktup ds, v => ∃ a vs o, v = .ref a ∧ S a = some (.frz o (.tup vs)) ∧ o.cls = .type "tuple" ∧ o.dict = none ∧ RepL G dl S ds vs
def RepL (G : Gm) (dl : Addr) (S : Hp) : List D → List V → Prop
  | [], vs => vs = []
  | d :: ds, vs => ∃ v r, vs = v :: r ∧ Rep G dl S d v ∧ RepL G dl S ds r
def RepK (G : Gm) (dl : Addr) (S : Hp) : List (D × D) → List (Key × V) → Prop
  | [], vs => vs = []
  | (k, d) :: ds, vs => ∃ x v r, vs = (x, v) :: r ∧ k.key = some x ∧ Rep G dl S d v ∧ RepK G dl S ds r
def RepT (G : Gm) (dl : Addr) (S : Hp) : List (D × D) → List (List Key × V) → Prop
  | [], vs => vs = []
  | (k, d) :: ds, vs => ∃ x v r, vs = (x, v) :: r ∧ k.tkey = some x ∧ Rep G dl S d v ∧ RepT G dl S ds r
def RepC (G : Gm) (dl : Addr) (S : Hp) (a : Addr) : List (List Nat × D) → Prop
  | [] => True
  | (k, d) :: ds => (∃ v, KDct G.K G.w a ⟨k.toArray⟩ v ∧ Rep G dl S d v) ∧ RepC G dl S a ds
end
/-- all but tables of code objects stays -/
abbrev GrowS (S S' : Hp) : Prop := LamX.ExtN S S'
theorem GrowS.rd {S S' : Hp} {a : Addr} {u : HO} (g : GrowS S S') (n : ∀ ps, u ≠ .tbl ps) (h : Rd S a u) : Rd S' a u := by
  rcases h with h | ⟨o, h⟩
  · exact .inl (g a _ h n)
  · exact .inr ⟨o, g a _ h fun ps z => by cases z⟩
theorem GrowS.sql {K : PySem.W.Frag} {S S' : Hp} {a : Addr} {xs : List V} (g : GrowS S S') (h : SqL K S a xs) : SqL K S' a xs := by
  rcases h with h | h
  · exact .inl (g.rd (fun ps z => by cases z) h)
  · exact .inr h
theorem GrowS.sqt {K : PySem.W.Frag} {S S' : Hp} {a : Addr} {xs : List V} (g : GrowS S S') (h : SqT K S a xs) : SqT K S' a xs := by
  rcases h with h | h
  · exact .inl (g.rd (fun ps z => by cases z) h)
  · exact .inr h
mutual
theorem Rep.mono {G : Gm} {dl : Addr} {S S' : Hp} (g : GrowS S S') : ∀ (d : D) {v : V}, Rep G dl S d v → Rep G dl S' d v
  | .non, v, h => by unfold Rep at *; exact h
  | .bl b, v, h => by unfold Rep at *; exact h
  | .int i, v, h => by unfold Rep at *; exact h
  | .str s, v, h => by unfold Rep at *; exact h
  | .lst ds, v, h => by
    unfold Rep at *
    obtain ⟨a, vs, e, q, r⟩ := h
    exact ⟨a, vs, e, g a _ q (fun ps z => by cases z), RepL.mono g ds r⟩
  | .tup ds, v, h => by
    unfold Rep at *
    obtain ⟨a, vs, e, q, r⟩ := h
    exact ⟨a, vs, e, g a _ q (fun ps z => by cases z), RepL.mono g ds r⟩
  | .ctup ds, v, h => by
    unfold Rep at *
    obtain ⟨a, vs, e, q, r⟩ := h
    exact ⟨a, vs, e, g.sqt q, RepL.mono g ds r⟩
  | .tdic kvs, v, h => by
    unfold Rep at *
    obtain ⟨a, o, kv, e, q, r⟩ := h
    exact ⟨a, o, kv, e, g a _ q (fun ps z => by cases z), RepT.mono g kvs r⟩
  | .dic kvs, v, h => by
    unfold Rep at *
    obtain ⟨a, o, kv, e, q, r⟩ := h
    exact ⟨a, o, kv, e, g a _ q (fun ps z => by cases z), RepK.mono g kvs r⟩
  | .cdic kvs, v, h => by
    unfold Rep at *
    obtain ⟨a, e, r⟩ := h
    exact ⟨a, e, RepC.mono g kvs r⟩
  | .ins c ds, v, h => by
    unfold Rep at *
    obtain ⟨a, dx, vs, e, q, l, r⟩ := h
    exact ⟨a, dx, vs, e, g a _ q (fun ps z => by cases z), l, RepL.mono g ds r⟩
  | .dice, v, h => by unfold Rep at *; exact h
  | .fn n, v, h => by unfold Rep at *; exact h
  | .ktup ds, v, h => by
    unfold Rep at *
    obtain ⟨a, vs, o, e, q, c, d, r⟩ := h
    exact ⟨a, vs, o, e, g a _ q (fun ps z => by cases z), c, d, RepL.mono g ds r⟩
theorem RepL.mono {G : Gm} {dl : Addr} {S S' : Hp} (g : GrowS S S') : ∀ (ds : List D) {vs : List V}, RepL G dl S ds vs → RepL G dl S' ds vs
  | [], vs, h => by unfold RepL at *; exact h
  | d :: ds, vs, h => by
    unfold RepL at *
    obtain ⟨v, r, e, h1, h2⟩ := h
    exact ⟨v, r, e, Rep.mono g d h1, RepL.mono g ds h2⟩
theorem RepK.mono {G : Gm} {dl : Addr} {S S' : Hp} (g : GrowS S S') : ∀ (ds : List (D × D)) {vs : List (Key × V)}, RepK G dl S ds vs → RepK G dl S' ds vs
  | [], vs, h => by unfold RepK at *; exact h
  | (k, d) :: ds, vs, h => by
    unfold RepK at *
    obtain ⟨x, v, r, e, k, h1, h2⟩ := h
    exact ⟨x, v, r, e, k, Rep.mono g d h1, RepK.mono g ds h2⟩
theorem RepT.mono {G : Gm} {dl : Addr} {S S' : Hp} (g : GrowS S S') : ∀ (ds : List (D × D)) {vs : List (List Key × V)}, RepT G dl S ds vs → RepT G dl S' ds vs
  | [], vs, h => by unfold RepT at *; exact h
  | (k, d) :: ds, vs, h => by
    unfold RepT at *
    obtain ⟨x, v, r, e, k, h1, h2⟩ := h
    exact ⟨x, v, r, e, k, Rep.mono g d h1, RepT.mono g ds h2⟩
theorem RepC.mono {G : Gm} {dl : Addr} {S S' : Hp} (g : GrowS S S') {a : Addr} : ∀ (ds : List (List Nat × D)), RepC G dl S a ds → RepC G dl S' a ds
  | [], h => by unfold RepC at *; exact h
  | (k, d) :: ds, h => by
    unfold RepC at *
    obtain ⟨⟨v, h1, h2⟩, h3⟩ := h
    exact ⟨⟨v, h1, Rep.mono g d h2⟩, RepC.mono g ds h3⟩
end
section
variable {G : Gm} {dl : Addr} {S : Hp}
theorem RepL.length : ∀ {ds : List D} {vs : List V}, RepL G dl S ds vs → vs.length = ds.length
  | [], vs, h => by unfold RepL at h; subst h; rfl
  | d :: ds, vs, h => by
    unfold RepL at h
    obtain ⟨v, r, rfl, _, h2⟩ := h
    rw [List.length_cons, List.length_cons, RepL.length h2]
theorem RepL.nil : RepL G dl S [] [] := by unfold RepL; rfl
theorem RepL.cons {d : D} {ds : List D} {v : V} {vs : List V} (h : Rep G dl S d v) (r : RepL G dl S ds vs) : RepL G dl S (d :: ds) (v :: vs) := by
  unfold RepL; exact ⟨v, vs, rfl, h, r⟩
theorem RepL.append : ∀ {ds es : List D} {vs us : List V}, RepL G dl S ds vs → RepL G dl S es us → RepL G dl S (ds ++ es) (vs ++ us)
  | [], es, vs, us, h, q => by unfold RepL at h; subst h; exact q
  | d :: ds, es, vs, us, h, q => by
    unfold RepL at h
    obtain ⟨v, r, rfl, h1, h2⟩ := h
    exact RepL.cons h1 (RepL.append h2 q)
theorem RepL.get : ∀ (ds : List D) (vs : List V) (i : Nat) (v : V), RepL G dl S ds vs → vs[i]? = some v → ∃ d, ds[i]? = some d ∧ Rep G dl S d v
  | [], vs, i, v, h, e => by unfold RepL at h; subst h; simp at e
  | d :: ds, vs, i, v, h, e => by
    unfold RepL at h
    obtain ⟨u, r, rfl, h1, h2⟩ := h
    cases i with
    | zero => simp at e; subst e; exact ⟨d, rfl, h1⟩
    | succ i => exact RepL.get ds r i v h2 (by simpa using e)
theorem RepL.getD : ∀ (ds : List D) (vs : List V) (i : Nat) (d : D), RepL G dl S ds vs → ds[i]? = some d → ∃ v, vs[i]? = some v ∧ Rep G dl S d v
  | [], vs, i, v, h, e => by simp at e
  | d' :: ds, vs, i, d, h, e => by
    unfold RepL at h
    obtain ⟨u, r, rfl, h1, h2⟩ := h
    cases i with
    | zero => simp at e; subst e; exact ⟨u, rfl, h1⟩
    | succ i => exact RepL.getD ds r i d h2 (by simpa using e)
theorem RepL.take : ∀ {ds : List D} {vs : List V} (n : Nat), RepL G dl S ds vs → RepL G dl S (ds.take n) (vs.take n)
  | _, _, 0, _ => by simp only [List.take_zero]; exact RepL.nil
  | [], vs, n + 1, h => by unfold RepL at h; subst h; exact RepL.nil
  | d :: ds, vs, n + 1, h => by
    unfold RepL at h
    obtain ⟨u, r, rfl, h1, h2⟩ := h
    exact RepL.cons h1 (RepL.take n h2)
theorem RepL.drop : ∀ {ds : List D} {vs : List V} (n : Nat), RepL G dl S ds vs → RepL G dl S (ds.drop n) (vs.drop n)
  | _, _, 0, h => h
  | [], vs, n + 1, h => by unfold RepL at h; subst h; exact RepL.nil
  | d :: ds, vs, n + 1, h => by
    unfold RepL at h
    obtain ⟨u, r, rfl, h1, h2⟩ := h
    exact RepL.drop n h2
theorem RepL.set : ∀ {ds : List D} {vs : List V} {d : D} {v : V} (n : Nat), RepL G dl S ds vs → Rep G dl S d v → RepL G dl S (ds.set n d) (vs.set n v)
  | [], vs, d, v, n, h, _ => by unfold RepL at h; subst h; exact RepL.nil
  | d' :: ds, vs, d, v, 0, h, q => by
    unfold RepL at h
    obtain ⟨u, r, rfl, h1, h2⟩ := h
    exact RepL.cons q h2
  | d' :: ds, vs, d, v, n + 1, h, q => by
    unfold RepL at h
    obtain ⟨u, r, rfl, h1, h2⟩ := h
    exact RepL.cons h1 (RepL.set n h2 q)
end
/-- without some addresses -/
def cut (H : Hp) (Z : List Addr) : Hp := fun a => if a ∈ Z then none else H a
theorem cut_in {H : Hp} {Z : List Addr} {a : Addr} (h : a ∈ Z) : cut H Z a = none := if_pos h
theorem cut_out {H : Hp} {Z : List Addr} {a : Addr} (h : a ∉ Z) : cut H Z a = H a := if_neg h
theorem cut_some {H : Hp} {Z : List Addr} {a : Addr} {o : HO} (h : cut H Z a = some o) : a ∉ Z ∧ H a = some o := by
  unfold cut at h
  split at h
  · cases h
  · exact ⟨by assumption, h⟩
theorem cut_grow (H : Hp) (Z : List Addr) : GrowS (cut H Z) H := fun a o h _ => (cut_some h).2
theorem cut_sub {H : Hp} {Z Z' : List Addr} (h : ∀ a ∈ Z', a ∈ Z) : GrowS (cut H Z) (cut H Z') := fun a o e _ => by
  obtain ⟨h1, h2⟩ := cut_some e
  rw [cut_out fun q => h1 (h a q)]
  exact h2
def Grow (dl : Addr) (H H' : Hp) : Prop := ∀ a o, H a = some o → a ≠ dl → (∀ ps, o ≠ .tbl ps) → H' a = some o
theorem Grow.refl (dl : Addr) (H : Hp) : Grow dl H H := fun _ _ h _ _ => h
theorem Grow.trans {dl : Addr} {H H1 H2 : Hp} (a : Grow dl H H1) (b : Grow dl H1 H2) : Grow dl H H2 := fun c o h n m => b c o (a c o h n m) n m
theorem Grow.new {dl : Addr} {H : Hp} {p : Addr} {o : HO} (h : H p = none) : Grow dl H (upd H p o) := fun a u e _ _ => by
  rw [upd_ne (ne_of_none e h)]; exact e
theorem Grow.cut {dl : Addr} {H H' : Hp} {Z : List Addr} (g : Grow dl H H') (hz : dl ∈ Z) : GrowS (cut H Z) (cut H' Z) := fun a o e n => by
  obtain ⟨h1, h2⟩ := cut_some e
  rw [cut_out h1]
  exact g a o h2 (fun q => h1 (q ▸ hz)) n
def isX : HO → Bool
  | .tbl _ => true
  | .ext _ => true
  | _ => false
/-- the object at c is a code object of the name q, its table at P -/
def CodeN (c : Addr) (q : Str) (P : Addr) : HO := .ext fun h => (∃ (oc : Obj) (vs : Array Value) (t : Tok), h.get? c = some oc ∧ oc.data = .fields vs ∧ vs[1]? = some (.str q t)) ∧ PySem.W.CodeHd h c P
/-- the name of a code object made in a frame of the prefix q -/
def nam_ (q : Str) : Bool → Str
  | true => q ++ "<lambda>"
  | false => q ++ "<genexpr>"
/-- the prefix of its frames -/
def pre_ (q : Str) : Bool → Str
  | true => q ++ "<lambda>" ++ ".<locals>."
  | false => q ++ "<genexpr>."
/-- a code object made: its address, name, prefix, table -/
abbrev Cob := Addr × Str × Str × Addr
/-- the table at P is that of frames of the prefix q: T those told, C those made since -/
def TQ (T : List (Addr × Str)) (C : List Cob) (P : Addr) (q : Str) : Prop := (P, q) ∈ T ∨ ∃ c n, (c, n, q, P) ∈ C
structure CTC (kd : Nat → Nat → Bool) (T : List (Addr × Str)) (C : List Cob) (H : Hp) : Prop where
  obj : ∀ k ∈ C, H k.1 = some (CodeN k.1 k.2.1 k.2.2.2)
  tab : ∀ P q, TQ T C P q → ∃ ps : Array Value, H P = some (.tbl ps) ∧ TriplesOk ps.toList ∧ ∀ (pos : Pos) (cv : Value), codeAmong pos ps.toList = some cv → ∃ c P2, cv = .ref c ∧ (c, nam_ q (kd pos.line pos.col), pre_ q (kd pos.line pos.col), P2) ∈ C
  unq : ∀ P q q', TQ T C P q → TQ T C P q' → q = q'
def CT (kd : Nat → Nat → Bool) (T : List (Addr × Str)) (S : List (Addr × Addr × Str)) (H : Hp) : Prop := (∃ C, CTC kd (T ++ S.map (·.2)) C H) ∧ ∀ x ∈ S, ∃ n, H x.1 = some (CodeN x.1 n x.2.1)
section
variable {kd : Nat → Nat → Bool} {T : List (Addr × Str)} {S : List (Addr × Addr × Str)} {C : List Cob} {H H' : Hp}
theorem CTC.same (g : CTC kd T C H) (e : ∀ b o, isX o = true → H b = some o → H' b = some o) : CTC kd T C H' :=
  ⟨fun k hk => e _ _ rfl (g.obj k hk), fun P q h => let ⟨ps, h1, h2, h3⟩ := g.tab P q h; ⟨ps, e _ _ rfl h1, h2, h3⟩, g.unq⟩
theorem CT.same (g : CT kd T S H) (e : ∀ b o, isX o = true → H b = some o → H' b = some o) : CT kd T S H' :=
  ⟨let ⟨C, h⟩ := g.1; ⟨C, h.same e⟩, fun x hx => let ⟨n, h⟩ := g.2 x hx; ⟨n, e _ _ rfl h⟩⟩
/-- a thing that is none of these is written -/
theorem CT.upd {a : Addr} {o u : HO} (g : CT kd T S H) (h : H a = some o) (ho : isX o = false) : CT kd T S (upd H a u) := g.same fun b v hv e => by
  rw [upd_ne]
  · exact e
  · intro z
    rw [z, h] at e
    cases e
    rw [ho] at hv
    cases hv
theorem CT.cut {a : Addr} {o : HO} (g : CT kd T S H) (h : H a = some o) (ho : isX o = false) : CT kd T S (cut H [a]) := g.same fun b v hv e => by
  rw [cut_out]
  · exact e
  · intro z
    rw [List.mem_singleton.mp z, h] at e
    cases e
    rw [ho] at hv
    cases hv
/-- at the beginning -/
theorem CT.nil (hU : ∀ p ∈ T, ∀ q ∈ T, p.1 = q.1 → p.2 = q.2) (hT : ∀ p ∈ T, H p.1 = some (.tbl #[])) : CT kd T [] H := by
  have tq : ∀ P q, TQ (T ++ []) [] P q → (P, q) ∈ T := fun P q h => by
    rw [List.append_nil] at h
    exact h.elim id fun ⟨c, n, z⟩ => by cases z
  refine ⟨⟨[], fun k hk => (by cases hk), fun P q h => ⟨#[], hT _ (tq P q h), True.intro, fun pos cv hc => ?_⟩, fun P q q' h1 h2 => hU _ (tq P q h1) _ (tq P q' h2) rfl⟩, fun x hx => by cases hx⟩
  have z : codeAmong pos [] = some cv := hc
  simp [codeAmong] at z
/-- the innermost frame is left -/
theorem CT.drop {x : Addr × Addr × Str} (g : CT kd T (x :: S) H) : CT kd T S H := by
  obtain ⟨⟨C, h⟩, h2⟩ := g
  have tq : ∀ P q, TQ (T ++ S.map (·.2)) C P q → TQ (T ++ (x :: S).map (·.2)) C P q := fun P q h => h.elim (fun h => .inl (by
    rcases List.mem_append.mp h with h | h
    · exact List.mem_append_left _ h
    · exact List.mem_append_right _ (List.mem_cons_of_mem _ h))) .inr
  exact ⟨⟨C, h.obj, fun P q z => h.tab P q (tq P q z), fun P q q' z z' => h.unq P q q' (tq P q z) (tq P q' z')⟩, fun y hy => h2 y (List.mem_cons_of_mem _ hy)⟩
end
def DiceOk (H : Hp) (dl : Addr) : Prop := ∃ x y z : Int, H dl = some (.lst [.int x, .int y, .int z])
structure GlOk (G : Gm) (dl : Addr) (H : Hp) : Prop where
  dice : DiceOk H dl
  tab : CT G.kd G.tabs G.subs H
theorem GlOk.same {G : Gm} {dl : Addr} {H H' : Hp} (g : GlOk G dl H) (e : ∀ b o, H b = some o → H' b = some o) : GlOk G dl H' := by
  obtain ⟨x, y, z, h⟩ := g.dice
  exact ⟨⟨x, y, z, e _ _ h⟩, g.tab.same fun b o _ => e b o⟩
theorem same_new {H : Hp} {p : Addr} {o : HO} (h : H p = none) : ∀ b u, H b = some u → (upd H p o) b = some u := fun b u e => by
  rw [upd_ne (ne_of_none e h)]; exact e
theorem GlOk.new {G : Gm} {dl : Addr} {H : Hp} {p : Addr} {o : HO} (g : GlOk G dl H) (h : H p = none) : GlOk G dl (upd H p o) := g.same (same_new h)
inductive Cell where
  | un
  | val (d : D)
  | own (d : D)
abbrev LE := List Cell
def OwnAt (G : Gm) (dl : Addr) (S : Hp) (d : D) (o : Option HO) : Prop := match d with
  | .lst ds => ∃ vs, o = some (.lst vs) ∧ RepL G dl S ds vs
  | .dic kvs => ∃ (kv : List (Key × V)), o = some (.dK kv) ∧ RepK G dl S kvs kv
  | .ins c ds => ∃ (dx : Addr) (vs : List V), o = some (.ins (G.cls c) dx ((G.flds c).zip vs)) ∧ vs.length ≤ (G.flds c).length ∧ RepL G dl S ds vs
  | .tdic kvs => ∃ (kv : List (List Key × V)), o = some (.dT kv) ∧ RepT G dl S kvs kv
  | _ => False
/-- the self of an __init__ stands in slot 0, under a mark of its own -/
def kee (i : Nat) : D → Nat
  | .ins _ _ => 1000000
  | _ => i
def keeOk (i : Nat) : D → Prop
  | .ins _ _ => i = 0
  | _ => i ≠ 1000000
theorem kee_inj {i j : Nat} {d e : D} (h1 : keeOk i d) (h2 : keeOk j e) (h : kee i d = kee j e) : i = j := by
  cases d <;> cases e <;> simp_all [kee, keeOk]
def Slot (G : Gm) (dl : Addr) (Z : List Addr) (O : List (Nat × Addr)) (H : Hp) (i : Nat) (x : Option (Option V)) : Cell → Prop
  | .un => True
  | .val d => ∃ v, x = some (some v) ∧ Rep G dl (cut H Z) d v
  | .own d => ∃ a, (kee i d, a) ∈ O ∧ x = some (some (.ref a)) ∧ OwnAt G dl (cut H Z) d (H a) ∧ keeOk i d
/-- tables of code objects, tuples -/
inductive NK where
  | tbl (ps : Array Value)
  | tup (xs : List V)
def NK.ho : NK → HO
  | .tbl ps => .tbl ps
  | .tup xs => .tup xs
abbrev NT (o : HO) : Prop := ∀ t : NK, o ≠ t.ho
theorem NT.tb {o : HO} (h : NT o) : ∀ ps, o ≠ .tbl ps := fun ps => h (.tbl ps)
theorem NT.lst (xs : List V) : NT (.lst xs) := fun t z => by cases t <;> cases z
theorem NT.dK (xs : List (Key × V)) : NT (.dK xs) := fun t z => by cases t <;> cases z
theorem NT.dT (xs : List (List Key × V)) : NT (.dT xs) := fun t z => by cases t <;> cases z
/-- the state at hand: r the slots as data, O the addresses of owned lists and dicts, Z all that is not to be leant on -/
structure At (G : Gm) (dl : Addr) (Z : List Addr) (O : List (Nat × Addr)) (r : LE) (sg : St) (H : Hp) : Prop where
  gl : GlOk G dl H
  dz : dl ∈ Z
  live : ∀ a ∈ Z, ∃ o, H a = some o ∧ NT o
  own : ∀ p ∈ O, p.2 ∈ Z ∧ p.2 ≠ dl
  inj : ∀ p ∈ O, ∀ q ∈ O, p.2 = q.2 → p = q
  len : r.length = sg.length
  slot : ∀ i c, r[i]? = some c → Slot G dl Z O H i sg[i]? c
theorem OwnAt.mono {G : Gm} {dl : Addr} {S S' : Hp} {d : D} {o : Option HO} (g : GrowS S S') (h : OwnAt G dl S d o) : OwnAt G dl S' d o := by
  unfold OwnAt at *
  split at h
  · obtain ⟨vs, e, r⟩ := h; exact ⟨vs, e, r.mono g⟩
  · obtain ⟨kv, e, r⟩ := h; exact ⟨kv, e, r.mono g⟩
  · obtain ⟨dx, vs, e, k, r⟩ := h; exact ⟨dx, vs, e, k, r.mono g⟩
  · obtain ⟨kv, e, r⟩ := h; exact ⟨kv, e, r.mono g⟩
  · exact h
theorem OwnAt.notTbl {G : Gm} {dl : Addr} {S : Hp} {d : D} {o : Option HO} (h : OwnAt G dl S d o) : ∃ u, o = some u ∧ NT u := by
  unfold OwnAt at h
  split at h
  · obtain ⟨vs, e, r⟩ := h; exact ⟨_, e, fun ps z => by cases ps <;> cases z⟩
  · obtain ⟨kv, e, r⟩ := h; exact ⟨_, e, fun ps z => by cases ps <;> cases z⟩
  · obtain ⟨dx, vs, e, k, r⟩ := h; exact ⟨_, e, fun ps z => by cases ps <;> cases z⟩
  · obtain ⟨kv, e, r⟩ := h; exact ⟨_, e, fun ps z => by cases ps <;> cases z⟩
  · exact h.elim
theorem At.grow {G : Gm} {dl : Addr} {Z : List Addr} {O : List (Nat × Addr)} {r : LE} {sg : St} {H H' : Hp} (h : At G dl Z O r sg H) (g : Grow dl H H') (gl : GlOk G dl H') : At G dl Z O r sg H' := by
  refine ⟨gl, h.dz, fun a ha => ?_, h.own, h.inj, h.len, fun i c e => ?_⟩
  · by_cases q : a = dl
    · obtain ⟨x, y, z, e⟩ := gl.dice
      exact ⟨_, by rw [q]; exact e, fun ps z => by cases ps <;> cases z⟩
    · obtain ⟨o, e, n⟩ := h.live a ha
      exact ⟨o, g a o e q n.tb, n⟩
  · have := h.slot i c e
    cases c with
    | un => trivial
    | val d =>
      obtain ⟨v, e, q⟩ := this
      exact ⟨v, e, q.mono (g.cut h.dz)⟩
    | own d =>
      obtain ⟨a, ha, e, q, ko⟩ := this
      obtain ⟨u, hu, nt⟩ := q.notTbl
      refine ⟨a, ha, e, ?_, ko⟩
      rw [g a u hu (h.own _ ha).2 nt.tb, ← hu]
      exact q.mono (g.cut h.dz)
/-- what of an exception is known -/
def XRep (G : Gm) (dl : Addr) (S : Hp) (e : Exc) (cls : Value) (dx : Option Addr) (H : Hp) : Prop :=
  cls = .ref (G.xcls e.cls) ∧ match G.xfld e.cls with
    | none => e.arg = .non ∧ (G.bare e.cls = true → dx = none)
    | some f => ∃ d v, dx = some d ∧ H d = some (.xd [(f, v)]) ∧ Rep G dl S e.arg v
def tD (G : Gm) (W : WX) (f : LE → R D) : TE := fun sg H Q => ∃ dl Z O r, At G dl Z O r sg H ∧
  Wp (f r) (fun d => ∀ v H', Grow dl H H' → GlOk G dl H' → Rep G dl (cut H' Z) d v → Q v H')
    (fun e => ∀ cls dx H', Grow dl H H' → GlOk G dl H' → XRep G dl (cut H' Z) e cls dx H' → W cls dx sg H')
/-- a new list -/
def tF (G : Gm) (W : WX) (f : LE → R (List D)) : TE := fun sg H Q => ∃ dl Z O r, At G dl Z O r sg H ∧
  Wp (f r) (fun ds => ∀ p vs H', Grow dl H H' → GlOk G dl H' → H' p = none → RepL G dl (cut H' Z) ds vs → Q (.ref p) (upd H' p (.lst vs)))
    (fun e => ∀ cls dx H', Grow dl H H' → GlOk G dl H' → XRep G dl (cut H' Z) e cls dx H' → W cls dx sg H')
def tT (G : Gm) (W : WX) (f : LE → R Bool) : TT := fun sg H Q => ∃ dl Z O r, At G dl Z O r sg H ∧
  Wp (f r) (fun b => ∀ H', Grow dl H H' → GlOk G dl H' → Q b H')
    (fun e => ∀ cls dx H', Grow dl H H' → GlOk G dl H' → XRep G dl (cut H' Z) e cls dx H' → W cls dx sg H')
def tA (G : Gm) (W : WX) (f : LE → R (List D)) : TA := fun sg H Q => ∃ dl Z O r, At G dl Z O r sg H ∧
  Wp (f r) (fun ds => ∀ vs H', Grow dl H H' → GlOk G dl H' → RepL G dl (cut H' Z) ds vs → Q vs H')
    (fun e => ∀ cls dx H', Grow dl H H' → GlOk G dl H' → XRep G dl (cut H' Z) e cls dx H' → W cls dx sg H')
/-- an expression that may be an owned list or dict, read at once -/
def RepP (G : Gm) (dl : Addr) (H : Hp) (Z : List Addr) (d : D) (v : V) : Prop :=
  Rep G dl (cut H Z) d v ∨ ∃ a, v = .ref a ∧ a ∈ Z ∧ a ≠ dl ∧ OwnAt G dl (cut H Z) d (H a)
def tP (G : Gm) (W : WX) (f : LE → R D) : TE := fun sg H Q => ∃ dl Z O r, At G dl Z O r sg H ∧
  Wp (f r) (fun d => ∀ v H', Grow dl H H' → GlOk G dl H' → RepP G dl H' Z d v → Q v H')
    (fun e => ∀ cls dx H', Grow dl H H' → GlOk G dl H' → XRep G dl (cut H' Z) e cls dx H' → W cls dx sg H')
abbrev DE (X : Cx) (G : Gm) (W : WX) (e : Expr) (f : LE → R D) : Prop := PE X e (tD G W f)
abbrev DF (X : Cx) (G : Gm) (W : WX) (e : Expr) (f : LE → R (List D)) : Prop := PE X e (tF G W f)
abbrev DP (X : Cx) (G : Gm) (W : WX) (e : Expr) (f : LE → R D) : Prop := PE X e (tP G W f)
abbrev DT (X : Cx) (G : Gm) (W : WX) (e : Expr) (f : LE → R Bool) : Prop := PT X e (tT G W f)
abbrev DW (X : Cx) (G : Gm) (W : WX) (e : Expr) (f : LE → R Bool) : Prop := PW X e (tT G W f)
abbrev DA (X : Cx) (G : Gm) (W : WX) (es : List Expr) (f : LE → R (List D)) : Prop := PA X es (tA G W f)
theorem PE_imp {X : Cx} {e : Expr} {t t' : TE} (h : PE X e t) (i : ∀ sg H Q, t' sg H Q → t sg H Q) : PE X e t' := ⟨fun pins s sg H Q I q => h.run pins s sg H Q I (i _ _ _ q)⟩
theorem PT_imp {X : Cx} {e : Expr} {t t' : TT} (h : PT X e t) (i : ∀ sg H Q, t' sg H Q → t sg H Q) : PT X e t' := ⟨fun pins s sg H Q I q => h.run pins s sg H Q I (i _ _ _ q)⟩
theorem PW_imp {X : Cx} {e : Expr} {t t' : TT} (h : PW X e t) (i : ∀ sg H Q, t' sg H Q → t sg H Q) : PW X e t' := ⟨fun wh pins s sg H Q I q => h.run wh pins s sg H Q I (i _ _ _ q)⟩
theorem PA_imp {X : Cx} {e : List Expr} {t t' : TA} (h : PA X e t) (i : ∀ sg H Q, t' sg H Q → t sg H Q) : PA X e t' := ⟨fun pos pins s sg H Q I q => h.run pos pins s sg H Q I (i _ _ _ q)⟩
theorem PS_imp {X : Cx} {e : Stmt} {t t' : TS} (h : PS X e t) (i : ∀ De sg H, t' De sg H → t De sg H) : PS X e t' := ⟨fun pins s sg H De I q => h.run pins s sg H De I (i _ _ _ q)⟩
theorem PSs_imp {X : Cx} {e : List Stmt} {t t' : TS} (h : PSs X e t) (i : ∀ De sg H, t' De sg H → t De sg H) : PSs X e t' := ⟨fun pins s sg H De I q => h.run pins s sg H De I (i _ _ _ q)⟩
inductive Out where
  | nx (r : LE)
  | rt (d : D)
  | bk (r : LE)
  | ct (r : LE)
  | ex (e : Exc) (r : LE)
def Free (H : Hp) (a : Addr) : Prop := ∀ o, H a = some o → ∃ ps, o = .tbl ps
theorem Free.of {H : Hp} {a : Addr} (h : H a = none) : Free H a := fun o e => by rw [h] at e; cases e
structure Stp (dl : Addr) (Z : List Addr) (O : List (Nat × Addr)) (H : Hp) (Z' : List Addr) (O' : List (Nat × Addr)) (H' : Hp) : Prop where
  fr : ∀ a o, H a = some o → a ≠ dl → (∀ p ∈ O, p.2 ≠ a) → (∀ ps, o ≠ .tbl ps) → H' a = some o
  op : ∀ p ∈ O', (∃ q ∈ O, q.2 = p.2) ∨ Free H p.2
  zk : ∀ a ∈ Z, (∀ p ∈ O, p.2 ≠ a) → a ∈ Z'
  zn : ∀ a ∈ Z', a ∈ Z ∨ Free H a
  sf : ∀ a, (1000000, a) ∈ O' → (1000000, a) ∈ O
  dom : ∀ a, Free H' a → Free H a
theorem Stp.refl {dl : Addr} {Z : List Addr} {O : List (Nat × Addr)} {H : Hp} : Stp dl Z O H Z O H :=
  ⟨fun _ _ h _ _ _ => h, fun p hp => .inl ⟨p, hp, rfl⟩, fun _ h _ => h, fun _ h => .inl h, fun _ h => h, fun _ h => h⟩
theorem Grow.dom {G : Gm} {dl : Addr} {H H' : Hp} (g : Grow dl H H') (gl : GlOk G dl H') : ∀ a, Free H' a → Free H a := fun a f o q => by
  by_cases d : a = dl
  · obtain ⟨x, y, z, h⟩ := gl.dice
    obtain ⟨ps, e⟩ := f _ (d ▸ h)
    cases e
  · by_cases t : ∃ ps, o = .tbl ps
    · exact t
    · exact f o (g a o q d fun ps z => t ⟨ps, z⟩)
theorem Stp.of_grow {G : Gm} {dl : Addr} {Z : List Addr} {O : List (Nat × Addr)} {H H' : Hp} (g : Grow dl H H') (gl : GlOk G dl H') : Stp dl Z O H Z O H' :=
  ⟨fun a o h n _ t => g a o h n t, fun p hp => .inl ⟨p, hp, rfl⟩, fun _ h _ => h, fun _ h => .inl h, fun _ h => h, g.dom gl⟩
theorem Stp.trans {G : Gm} {dl : Addr} {Z Z1 Z2 : List Addr} {O O1 O2 : List (Nat × Addr)} {r : LE} {sg : St} {H H1 H2 : Hp} (hz : At G dl Z O r sg H) (a : Stp dl Z O H Z1 O1 H1) (b : Stp dl Z1 O1 H1 Z2 O2 H2) : Stp dl Z O H Z2 O2 H2 := by
  have key : ∀ c, (∃ o, H c = some o ∧ ∀ ps, o ≠ .tbl ps) → (∀ p ∈ O, p.2 ≠ c) → ∀ p ∈ O1, p.2 ≠ c := fun c ⟨o, ho, nt⟩ hn p hp e => by
    rcases a.op p hp with ⟨q, hq, eq⟩ | q
    · exact hn q hq (eq.trans e)
    · obtain ⟨ps, z⟩ := q o (e ▸ ho)
      exact nt ps z
  refine ⟨fun c o h n m t => b.fr c o (a.fr c o h n m t) n (key c ⟨o, h, t⟩ m) t, fun p hp => ?_, fun c hc m => b.zk c (a.zk c hc m) (key c (let ⟨o, e, n⟩ := hz.live c hc; ⟨o, e, n.tb⟩) m), fun c hc => (b.zn c hc).elim (a.zn c) fun f => .inr (a.dom c f), fun c h => a.sf c (b.sf c h), fun c h => a.dom c (b.dom c h)⟩
  rcases b.op p hp with ⟨q, hq, eq⟩ | q
  · rcases a.op q hq with ⟨q', h1, h2⟩ | h1
    · exact .inl ⟨q', h1, h2.trans eq⟩
    · exact .inr (eq ▸ h1)
  · exact .inr (a.dom _ q)
theorem Stp.cut {G : Gm} {dl : Addr} {Z Z' : List Addr} {O O' : List (Nat × Addr)} {r : LE} {sg : St} {H H' : Hp} (A : At G dl Z O r sg H) (s : Stp dl Z O H Z' O' H') : GrowS (cut H Z) (cut H' Z') := fun a o e n => by
  obtain ⟨e1, e2⟩ := cut_some e
  have hz : a ∉ Z' := fun hz => by
    rcases s.zn a hz with h | h
    · exact e1 h
    · obtain ⟨ps, q⟩ := h o e2
      exact n ps q
  rw [cut_out hz]
  exact s.fr a o e2 (fun q => e1 (by rw [q]; exact A.dz)) (fun p hp q => e1 (by rw [← q]; exact (A.own p hp).1)) n
/-- what is wanted behind a statement -/
def SPost (G : Gm) (W : WX) (De : Ends) (dl : Addr) (Z : List Addr) (O : List (Nat × Addr)) (H : Hp) : Out → Prop
  | .nx r' => ∀ Z' O' sg' H', Stp dl Z O H Z' O' H' → At G dl Z' O' r' sg' H' → De.nx sg' H'
  | .bk r' => ∀ Z' O' sg' H', Stp dl Z O H Z' O' H' → At G dl Z' O' r' sg' H' → De.bk sg' H'
  | .ct r' => ∀ Z' O' sg' H', Stp dl Z O H Z' O' H' → At G dl Z' O' r' sg' H' → De.ct sg' H'
  | .rt d => ∀ Z' O' v H', Stp dl Z O H Z' O' H' → GlOk G dl H' → Rep G dl (cut H' Z') d v → De.rt v H'
  | .ex e r' => ∀ Z' O' sg' H' cls dx, Stp dl Z O H Z' O' H' → At G dl Z' O' r' sg' H' → XRep G dl (cut H' Z') e cls dx H' → W cls dx sg' H'
theorem SPost.trans {G : Gm} {W : WX} {De : Ends} {dl : Addr} {Z Z1 : List Addr} {O O1 : List (Nat × Addr)} {r : LE} {sg : St} {H H1 : Hp} (A : At G dl Z O r sg H) (st : Stp dl Z O H Z1 O1 H1) : ∀ {o : Out}, SPost G W De dl Z O H o → SPost G W De dl Z1 O1 H1 o
  | .nx r', h => fun Z' O' sg' H' s a => h Z' O' sg' H' (Stp.trans A st s) a
  | .bk r', h => fun Z' O' sg' H' s a => h Z' O' sg' H' (Stp.trans A st s) a
  | .ct r', h => fun Z' O' sg' H' s a => h Z' O' sg' H' (Stp.trans A st s) a
  | .rt d, h => fun Z' O' v H' s g a => h Z' O' v H' (Stp.trans A st s) g a
  | .ex e r', h => fun Z' O' sg' H' c d s a x => h Z' O' sg' H' c d (Stp.trans A st s) a x
/-- a statement's reading: F the state as data -/
def tS (G : Gm) (W : WX) (F : LE → R Out) : TS := fun De sg H => ∃ dl Z O r, At G dl Z O r sg H ∧ Wp (F r) (SPost G W De dl Z O H) (fun _ => False)
abbrev DS (X : Cx) (G : Gm) (W : WX) (st : Stmt) (F : LE → R Out) : Prop := PS X st (tS G W F)
abbrev DSs (X : Cx) (G : Gm) (W : WX) (sts : List Stmt) (F : LE → R Out) : Prop := PSs X sts (tS G W F)
end DL
set_option Elab.async false
set_option linter.all false
set_option maxRecDepth 100000
namespace DL
open PySem L2
section
variable {G : Gm} {dl : Addr} {Z : List Addr} {O : List (Nat × Addr)} {r : LE} {sg : St} {H H' H1 H2 : Hp} {W : WX} {d : D} {v : V}
theorem At.out (A : At G dl Z O r sg H) {p : Addr} (h : H p = none) : p ∉ Z := fun hz => by
  obtain ⟨o, e, _⟩ := A.live p hz
  rw [h] at e; cases e
theorem At.notdl (A : At G dl Z O r sg H) {p : Addr} (h : H p = none) : p ≠ dl := fun e => A.out h (e ▸ A.dz)
theorem RepP.grow (A : At G dl Z O r sg H) (g : Grow dl H H') (h : RepP G dl H Z d v) : RepP G dl H' Z d v := by
  rcases h with h | ⟨a, e, hz, hd, q⟩
  · exact .inl (h.mono (g.cut A.dz))
  · obtain ⟨u, hu, nt⟩ := q.notTbl
    refine .inr ⟨a, e, hz, hd, ?_⟩
    rw [g a u hu hd nt.tb, ← hu]
    exact q.mono (g.cut A.dz)
theorem RepP.of (h : Rep G dl (cut H Z) d v) : RepP G dl H Z d v := .inl h
/-- a new object -/
theorem Rep.tup_new (A : At G dl Z O r sg H) {p : Addr} {ds : List D} {vs : List V} (h : H p = none) (q : RepL G dl (cut H Z) ds vs) : Rep G dl (cut (upd H p (.tup vs)) Z) (.tup ds) (.ref p) := by
  unfold Rep
  refine ⟨p, vs, rfl, (by rw [cut_out (A.out h), upd_same]), q.mono ((Grow.new h).cut A.dz)⟩
theorem Rep.lst_new (A : At G dl Z O r sg H) {p : Addr} {ds : List D} {vs : List V} (h : H p = none) (q : RepL G dl (cut H Z) ds vs) : Rep G dl (cut (upd H p (.lst vs)) Z) (.lst ds) (.ref p) := by
  unfold Rep
  refine ⟨p, vs, rfl, by rw [cut_out (A.out h), upd_same], q.mono ((Grow.new h).cut A.dz)⟩
/-- a list read: tracked -/
theorem RepP.lst {ds : List D} (h : RepP G dl H Z (.lst ds) v) : ∃ a vs, v = .ref a ∧ H a = some (.lst vs) ∧ RepL G dl (cut H Z) ds vs := by
  rcases h with h | ⟨a, e, hz, hd, q⟩
  · unfold Rep at h
    obtain ⟨a, vs, e, q, rl⟩ := h
    exact ⟨a, vs, e, (cut_some q).2, rl⟩
  · obtain ⟨vs, e2, rl⟩ := q
    exact ⟨a, vs, e, e2, rl⟩
theorem RepP.tup {ds : List D} (h : RepP G dl H Z (.tup ds) v) : ∃ a vs, v = .ref a ∧ SqT G.K H a vs ∧ RepL G dl (cut H Z) ds vs := by
  rcases h with h | ⟨a, e, hz, hd, q⟩
  · unfold Rep at h
    obtain ⟨a, vs, e, q, rl⟩ := h
    exact ⟨a, vs, e, (cut_grow H Z).sqt (SqT.of q), rl⟩
  · exact q.elim
theorem RepP.str {x : List Nat} (h : RepP G dl H Z (.str x) v) : v = .str ⟨x.toArray⟩ := by
  rcases h with h | ⟨a, e, hz, hd, q⟩
  · unfold Rep at h; exact h
  · exact q.elim
theorem RepP.int {x : Int} (h : RepP G dl H Z (.int x) v) : v = .int x := by
  rcases h with h | ⟨a, e, hz, hd, q⟩
  · unfold Rep at h; exact h
  · exact q.elim
theorem RepP.bl {x : Bool} (h : RepP G dl H Z (.bl x) v) : v = .bl x := by
  rcases h with h | ⟨a, e, hz, hd, q⟩
  · unfold Rep at h; exact h
  · exact q.elim
theorem RepP.non (h : RepP G dl H Z .non v) : v = .non := by
  rcases h with h | ⟨a, e, hz, hd, q⟩
  · unfold Rep at h; exact h
  · exact q.elim
theorem Rep.int_ {S : Hp} {x : Int} : Rep G dl S (.int x) (.int x) := by unfold Rep; rfl
theorem Rep.bl_ {S : Hp} {x : Bool} : Rep G dl S (.bl x) (.bl x) := by unfold Rep; rfl
theorem Rep.non_ {S : Hp} : Rep G dl S .non .non := by unfold Rep; rfl
theorem Rep.str_ {S : Hp} {x : List Nat} : Rep G dl S (.str x) (.str ⟨x.toArray⟩) := by unfold Rep; rfl
/-- what is wanted of an error, behind a step -/
theorem epost (g1 : Grow dl H H1) {e : Exc} (h : ∀ cls dx H', Grow dl H H' → GlOk G dl H' → XRep G dl (cut H' Z) e cls dx H' → W cls dx sg H') :
    ∀ cls dx H', Grow dl H1 H' → GlOk G dl H' → XRep G dl (cut H' Z) e cls dx H' → W cls dx sg H' := fun cls dx H' g k x => h cls dx H' (g1.trans g) k x
end
def var (i : Nat) : LE → R D := fun r => match r[i]? with
  | some (.val d) => .ok d
  | _ => .stuck
def varP (i : Nat) : LE → R D := fun r => match r[i]? with
  | some (.val d) => .ok d
  | some (.own d) => .ok d
  | _ => .stuck
def cst (d : D) : LE → R D := fun _ => .ok d
section
variable {X : Cx} {G : Gm} {W : WX} {ex a b c : Expr} {es : List Expr} {f g : LE → R D} {pos p0 : Pos}
theorem DE.p (h : DE X G W ex f) : DP X G W ex f := PE_imp h fun sg H Q ⟨dl, Z, O, r, A, q⟩ => ⟨dl, Z, O, r, A, q.thn fun d h v H' g k rp => h v H' g k (.inl rp)⟩
theorem DF.e {f : LE → R (List D)} (h : DF X G W ex f) : DE X G W ex (fun r => (f r) >>= fun ds => .ok (.lst ds)) := PE_imp h fun sg H Q ⟨dl, Z, O, r, A, q⟩ => by
  refine ⟨dl, Z, O, r, A, q.bind.thn fun ds h p vs H' g k hp rl => ?_⟩
  exact h (.ref p) _ (g.trans (Grow.new hp)) (k.new hp) ((A.grow g k).gl |> fun _ => Rep.lst_new (A.grow g k) hp rl)
theorem de_var (i : Nat) {x : Str} (hN : X.N[i]? = some x := by rfl) (hv : Vis X.env.scope x := by first | exact Or.inl rfl | exact Or.inr (Or.inl rfl) | exact Or.inr (Or.inr rfl)) (hd : (x == ("__debug__" : Str)) = false := by decide)
    (hcd : (x == ("__classdict__" : Str)) = false := by decide) : DE X G W (.Name x pos) (var i) := PE_imp (pe_var hN hv hd hcd) fun sg H Q ⟨dl, Z, O, r, A, q⟩ => by
  unfold var at q
  split at q
  · rename_i d e
    obtain ⟨v, e1, rp⟩ := A.slot i _ e
    exact ⟨v, e1, q v H (.refl _ _) A.gl rp⟩
  · exact q.elim
theorem dp_var (i : Nat) {x : Str} (hN : X.N[i]? = some x := by rfl) (hv : Vis X.env.scope x := by first | exact Or.inl rfl | exact Or.inr (Or.inl rfl) | exact Or.inr (Or.inr rfl)) (hd : (x == ("__debug__" : Str)) = false := by decide)
    (hcd : (x == ("__classdict__" : Str)) = false := by decide) : DP X G W (.Name x pos) (varP i) := PE_imp (pe_var hN hv hd hcd) fun sg H Q ⟨dl, Z, O, r, A, q⟩ => by
  unfold varP at q
  split at q
  · rename_i d e
    obtain ⟨v, e1, rp⟩ := A.slot i _ e
    exact ⟨v, e1, q v H (.refl _ _) A.gl (.inl rp)⟩
  · rename_i d e
    obtain ⟨a, ha, e1, rp, _⟩ := A.slot i _ e
    exact ⟨_, e1, q _ H (.refl _ _) A.gl (.inr ⟨a, rfl, (A.own _ ha).1, (A.own _ ha).2, rp⟩)⟩
  · exact q.elim
theorem de_of {t : TE} {d : D} {v : V} (h : PE X ex (tC v)) (rp : ∀ dl S, Rep G dl S d v) : DE X G W ex (cst d) := PE_imp h fun sg H Q ⟨dl, Z, O, r, A, q⟩ => q v H (.refl _ _) A.gl (rp _ _)
theorem de_int {i j} : DE X G W (.Constant (.int i) j pos) (cst (.int i)) := de_of (t := tC .non) pe_int fun _ _ => Rep.int_
theorem de_bl {b j} : DE X G W (.Constant (.bool b) j pos) (cst (.bl b)) := de_of (t := tC .non) pe_bl fun _ _ => Rep.bl_
theorem de_non {j} : DE X G W (.Constant .none j pos) (cst .non) := de_of (t := tC .non) pe_non fun _ _ => Rep.non_
theorem de_str {x : Str} {j} (s : List Nat) (hx : x = ⟨s.toArray⟩ := by rfl) : DE X G W (.Constant (.str x) j pos) (cst (.str s)) := by
  subst hx; exact de_of (t := tC .non) pe_str fun _ _ => Rep.str_
theorem de_glob {x : Str} {v : V} {u : Value} {d : D} (hm : X.mg x = some u) (rv : RelV v u) (rp : ∀ dl S, Rep G dl S d v) (hg : Gl X x := by rfl) (hd : (x == ("__debug__" : Str)) = false := by decide) : DE X G W (.Name x pos) (cst d) :=
  de_of (t := tC .non) (pe_glob hg hm rv hd) rp
def OpD (X : Cx) (G : Gm) (fo : Value → Value → Sem Value) (g : D → D → R D) : Prop :=
  ∃ rr : R2, OpR X fo rr ∧ ∀ (dl : Addr) (Z : List Addr) (O : List (Nat × Addr)) (r : LE) (sg : St) (x y : D) (vx vy : V) (H : Hp) (Q : VK) (E : Exc → Prop), At G dl Z O r sg H → RepP G dl H Z x vx → RepP G dl H Z y vy →
    Wp (g x y) (fun d => ∀ v H', Grow dl H H' → GlOk G dl H' → Rep G dl (cut H' Z) d v → Q v H') E → rr vx vy H Q
theorem OpR.or {f : Value → Value → Sem Value} {r1 r2 : R2} (h1 : OpR X f r1) (h2 : OpR X f r2) : OpR X f (fun x y H Q => r1 x y H Q ∨ r2 x y H Q) := fun pins s sg H x y v u Q I rx ry h => by
  rcases h with h | h
  · exact h1 pins s sg H x y v u Q I rx ry h
  · exact h2 pins s sg H x y v u Q I rx ry h
theorem op_core {rr : R2} {gg : D → D → R D} (hop : ∀ (dl : Addr) (Z : List Addr) (O : List (Nat × Addr)) (r : LE) (sg : St) (x y : D) (vx vy : V) (H : Hp) (Q : VK) (E : Exc → Prop), At G dl Z O r sg H → RepP G dl H Z x vx → RepP G dl H Z y vy →
    Wp (gg x y) (fun d => ∀ v H', Grow dl H H' → GlOk G dl H' → Rep G dl (cut H' Z) d v → Q v H') E → rr vx vy H Q) {sg : St} {H : Hp} {Q : VK} (h : tD G W (fun r => do let x ← f r; let y ← g r; gg x y) sg H Q) : tOp rr (tP G W f) (tP G W g) sg H Q := by
  obtain ⟨dl, Z, O, r, A, q⟩ := h
  refine ⟨dl, Z, O, r, A, q.bind.thn fun x hx vx H1 g1 k1 rx => ?_⟩
  refine ⟨dl, Z, O, r, A.grow g1 k1, hx.bind.mono (fun y hy vy H2 g2 k2 ry => ?_) fun e he => epost g1 he⟩
  refine hop dl Z O r sg x y vx vy H2 Q _ ((A.grow g1 k1).grow g2 k2) (rx.grow (A.grow g1 k1) g2) ry (hy.thn fun d hd v H' g k rp => hd v H' ((g1.trans g2).trans g) k rp)
theorem de_op {op : Operator} {gg : D → D → R D} (ho : OpD X G (binaryOp op) gg) (ha : DP X G W a f) (hb : DP X G W b g) : DE X G W (.BinOp a op b pos) (fun r => do let x ← f r; let y ← g r; gg x y) := by
  obtain ⟨rr, h1, h2⟩ := ho
  exact PE_imp (pe_op h1 ha hb) fun sg H Q h => op_core h2 h
theorem de_cmp {op : CmpOp} {gg : D → D → R D} (ho : OpD X G (compareOp op) gg) (ha : DP X G W a f) (hb : DP X G W b g) (hm : behindInMarks op b = false := by first | exact nomark _ | rfl) : DE X G W (.Compare a [op] [b] pos) (fun r => do let x ← f r; let y ← g r; gg x y) := by
  obtain ⟨rr, h1, h2⟩ := ho
  exact PE_imp (pe_cmpR h1 ha hb hm) fun sg H Q h => op_core h2 h
/-- a value as a bool -/
def asB : D → R Bool
  | .bl b => .ok b
  | _ => .stuck
theorem tT_of {t : TE} {ff : LE → R D} (hd : ∀ sg H Q, tD G W ff sg H Q → t sg H Q) {sg : St} {H : Hp} {Q : Bool → Hp → Prop} (h : tT G W (fun r => ff r >>= asB) sg H Q) : t sg H (fun x H' => ∃ k, x = .bl k ∧ Q k H') := by
  obtain ⟨dl, Z, O, r, A, q⟩ := h
  refine hd _ _ _ ⟨dl, Z, O, r, A, q.bind.thn fun d h v H' g1 k1 rp => ?_⟩
  cases d <;> first | exact h.elim | skip
  rename_i k
  have := (RepP.of rp).bl
  exact ⟨k, this, h H' g1 k1⟩
theorem dt_cmp {op : CmpOp} {gg : D → D → R D} (ho : OpD X G (compareOp op) gg) (ha : DP X G W a f) (hb : DP X G W b g) (hm : behindInMarks op b = false := by first | exact nomark _ | rfl) : DT X G W (.Compare a [op] [b] pos) (fun r => (do let x ← f r; let y ← g r; gg x y) >>= asB) := by
  obtain ⟨rr, h1, h2⟩ := ho
  exact PT_imp (pt_cmpR h1 ha hb hm) fun sg H Q h => tT_of (t := tOp rr (tP G W f) (tP G W g)) (fun sg H Q h => op_core h2 h) h
/-- any other expression that gives a bool, as a test -/
theorem dt_val (h : DE X G W ex f) (he : ∀ whole, isTrue ex X.env whole = (do let v ← whole; standAt ex.pos; holding [v] (truthy v)) := by intro _; rfl) : DT X G W ex (fun r => f r >>= asB) :=
  PT_imp (pt_val h he) fun sg H Q q => tT_of (t := tD G W f) (fun _ _ _ z => z) q
end
end DL
set_option Elab.async false
set_option linter.all false
set_option maxRecDepth 100000
namespace DL
open PySem L2
mutual
def D.eqb : D → D → Bool
  | .non, .non => true
  | .bl a, .bl b => a == b
  | .bl a, .int j => (if a then 1 else 0) == j
  | .int i, .bl b => i == (if b then 1 else 0)
  | .int i, .int j => i == j
  | .str x, .str y => x == y
  | .lst xs, .lst ys => D.eqbs xs ys
  | .tup xs, .tup ys => D.eqbs xs ys
  | _, _ => false
def D.eqbs : List D → List D → Bool
  | [], [] => true
  | x :: xs, y :: ys => D.eqb x y && D.eqbs xs ys
  | _, _ => false
end
mutual
/-- plain data, at most n deep -/
def D.sh : D → Nat → Bool
  | .non, _ => true
  | .bl _, _ => true
  | .int _, _ => true
  | .str s, _ => s.all (· < 0x110000)
  | .lst xs, n => match n with
    | 0 => false
    | n + 1 => D.shs xs n
  | .tup xs, n => match n with
    | 0 => false
    | n + 1 => D.shs xs n
  | _, _ => false
def D.shs : List D → Nat → Bool
  | [], _ => true
  | x :: xs, n => D.sh x n && D.shs xs n
end
mutual
def D.toP : D → PyData
  | .bl b => .bool b
  | .int i => .int i
  | .str s => .str ⟨s.toArray⟩
  | .lst xs => .list (D.toPs xs)
  | .tup xs => .tuple (D.toPs xs)
  | .ctup xs => .tuple (D.toPs xs)
  | _ => .none
def D.toPs : List D → List PyData
  | [] => []
  | x :: xs => D.toP x :: D.toPs xs
end
mutual
theorem sh_lay : ∀ (d : D) (n : Nat), d.sh n = true → (d.toP).canLay0 = true ∧ (d.toP).depth ≤ n
  | .non, n, h => by simp [D.toP, PyData.canLay0, PyData.depth]
  | .bl b, n, h => by simp [D.toP, PyData.canLay0, PyData.depth]
  | .int i, n, h => by simp [D.toP, PyData.canLay0, PyData.depth]
  | .str s, n, h => by
    simp only [D.sh] at h
    refine ⟨?_, by simp [D.toP, PyData.depth]⟩
    simp only [D.toP, PyData.canLay0, PyData.strOk]
    simpa using h
  | .lst xs, 0, h => by simp [D.sh] at h
  | .lst xs, n + 1, h => by
    simp only [D.sh] at h
    have := shs_lay xs n h
    simp only [D.toP, PyData.canLay0, PyData.depth]
    exact ⟨this.1, by omega⟩
  | .tup xs, 0, h => by simp [D.sh] at h
  | .tup xs, n + 1, h => by
    simp only [D.sh] at h
    have := shs_lay xs n h
    simp only [D.toP, PyData.canLay0, PyData.depth]
    exact ⟨this.1, by omega⟩
  | .dic _, n, h => by simp [D.sh] at h
  | .cdic _, n, h => by simp [D.sh] at h
  | .ins _ _, n, h => by simp [D.sh] at h
  | .dice, n, h => by simp [D.sh] at h
  | .fn _, n, h => by simp [D.sh] at h
theorem shs_lay : ∀ (ds : List D) (n : Nat), D.shs ds n = true → PyData.canLayAll0 (D.toPs ds) = true ∧ PyData.depthAll (D.toPs ds) ≤ n
  | [], n, h => by simp [D.toPs, PyData.canLayAll0, PyData.depthAll]
  | d :: ds, n, h => by
    simp only [D.shs, Bool.and_eq_true] at h
    have h1 := sh_lay d n h.1
    have h2 := shs_lay ds n h.2
    simp only [D.toPs, PyData.canLayAll0, PyData.depthAll, h1.1, h2.1, Bool.and_self, true_and]
    exact Nat.max_le.mpr ⟨h1.2, h2.2⟩
end
theorem sh_shaped {d : D} (h : d.sh 64 = true) : SeqAt.shaped d.toP = true := by
  have := sh_lay d 64 h
  unfold SeqAt.shaped
  rw [this.1, decide_eq_true this.2]; rfl
mutual
theorem eqb_eqv : ∀ (x y : D) (n m : Nat), x.sh n = true → y.sh m = true → PyData.eqv x.toP y.toP = D.eqb x y
  | .non, y, n, m, hx, hy => by cases y <;> simp_all [D.toP, D.eqb, PyData.eqv, D.sh]
  | .bl b, y, n, m, hx, hy => by cases y <;> simp_all [D.toP, D.eqb, PyData.eqv, D.sh]
  | .int i, y, n, m, hx, hy => by cases y <;> simp_all [D.toP, D.eqb, PyData.eqv, D.sh]
  | .str s, y, n, m, hx, hy => by
    cases y <;> simp_all [D.toP, D.eqb, PyData.eqv, D.sh]
    rw [Bool.eq_iff_iff]; simp
  | .lst xs, y, n, m, hx, hy => by
    cases y <;> first | (simp_all [D.toP, D.eqb, PyData.eqv, D.sh]; done) | skip
    rename_i ys
    cases n <;> first | (simp [D.sh] at hx; done) | skip
    cases m <;> first | (simp [D.sh] at hy; done) | skip
    simp only [D.sh] at hx hy
    simp only [D.toP, D.eqb, PyData.eqv]
    exact eqbs_eqv xs ys _ _ hx hy
  | .tup xs, y, n, m, hx, hy => by
    cases y <;> first | (simp_all [D.toP, D.eqb, PyData.eqv, D.sh]; done) | skip
    rename_i ys
    cases n <;> first | (simp [D.sh] at hx; done) | skip
    cases m <;> first | (simp [D.sh] at hy; done) | skip
    simp only [D.sh] at hx hy
    simp only [D.toP, D.eqb, PyData.eqv]
    exact eqbs_eqv xs ys _ _ hx hy
  | .dic _, y, n, m, hx, hy => by simp [D.sh] at hx
  | .cdic _, y, n, m, hx, hy => by simp [D.sh] at hx
  | .ins _ _, y, n, m, hx, hy => by simp [D.sh] at hx
  | .dice, y, n, m, hx, hy => by simp [D.sh] at hx
  | .fn _, y, n, m, hx, hy => by simp [D.sh] at hx
theorem eqbs_eqv : ∀ (xs ys : List D) (n m : Nat), D.shs xs n = true → D.shs ys m = true → PyData.eqvAll (D.toPs xs) (D.toPs ys) = D.eqbs xs ys
  | [], [], n, m, hx, hy => by simp [D.toPs, D.eqbs, PyData.eqvAll]
  | [], y :: ys, n, m, hx, hy => by simp [D.toPs, D.eqbs, PyData.eqvAll]
  | x :: xs, [], n, m, hx, hy => by simp [D.toPs, D.eqbs, PyData.eqvAll]
  | x :: xs, y :: ys, n, m, hx, hy => by
    simp only [D.shs, Bool.and_eq_true] at hx hy
    simp only [D.toPs, D.eqbs, PyData.eqvAll, eqb_eqv x y n m hx.1 hy.1, eqbs_eqv xs ys n m hx.2 hy.2]
end
section
variable {G : Gm} {dl : Addr} {S H : Hp} {Z : List Addr}
mutual
theorem Rep.dp (g : GrowS S H) : ∀ (d : D) (n : Nat) {v : V}, d.sh n = true → Rep G dl S d v → Dp G.K H v d.toP
  | .non, n, v, h, q => by unfold Rep at q; subst q; exact .non
  | .bl b, n, v, h, q => by unfold Rep at q; subst q; exact .bl b
  | .int i, n, v, h, q => by unfold Rep at q; subst q; exact .int i
  | .str s, n, v, h, q => by unfold Rep at q; subst q; exact .str _
  | .lst xs, 0, v, h, q => by simp [D.sh] at h
  | .lst xs, n + 1, v, h, q => by
    unfold Rep at q
    obtain ⟨a, vs, rfl, h1, h2⟩ := q
    simp only [D.sh] at h
    exact .lst (SqL.of (g a _ h1 fun ps z => by cases z)) (RepL.dp g xs n h h2)
  | .tup xs, 0, v, h, q => by simp [D.sh] at h
  | .tup xs, n + 1, v, h, q => by
    unfold Rep at q
    obtain ⟨a, vs, rfl, h1, h2⟩ := q
    simp only [D.sh] at h
    exact .tup (g.sqt (SqT.of h1)) (RepL.dp g xs n h h2)
  | .dic _, n, v, h, q => by simp [D.sh] at h
  | .cdic _, n, v, h, q => by simp [D.sh] at h
  | .ins _ _, n, v, h, q => by simp [D.sh] at h
  | .dice, n, v, h, q => by simp [D.sh] at h
  | .fn _, n, v, h, q => by simp [D.sh] at h
theorem RepL.dp (g : GrowS S H) : ∀ (ds : List D) (n : Nat) {vs : List V}, D.shs ds n = true → RepL G dl S ds vs → DpAll G.K H vs (D.toPs ds)
  | [], n, vs, h, q => by unfold RepL at q; subst q; exact .nil
  | d :: ds, n, vs, h, q => by
    unfold RepL at q
    obtain ⟨v, r, rfl, h1, h2⟩ := q
    simp only [D.shs, Bool.and_eq_true] at h
    exact .cons (Rep.dp g d n h.1 h1) (RepL.dp g ds n h.2 h2)
end
theorem RepP.dp {d : D} {n : Nat} {v : V} (h : d.sh n = true) (q : RepP G dl H Z d v) : Dp G.K H v d.toP := by
  rcases q with q | ⟨a, rfl, hz, hd, q⟩
  · exact Rep.dp (cut_grow H Z) d n h q
  · cases d <;> first | exact q.elim | (simp [D.sh] at h; done) | skip
    rename_i xs
    obtain ⟨vs, e, rl⟩ := q
    cases n <;> first | (simp [D.sh] at h; done) | skip
    simp only [D.sh] at h
    exact .lst (SqL.of e) (RepL.dp (cut_grow H Z) xs _ h rl)
end
/-- scalars of kinds that == tells apart -/
def D.sc : D → D → Bool
  | .non, .non => true | .non, .int _ => true | .int _, .non => true | .non, .bl _ => true | .bl _, .non => true | .non, .str _ => true | .str _, .non => true
  | .int _, .int _ => true | .bl _, .bl _ => true | .str _, .str _ => true
  | .int _, .str _ => true | .str _, .int _ => true | .bl _, .str _ => true | .str _, .bl _ => true
  | _, _ => false
def eqD (x y : D) : R D := if (x.sc y || (x.sh 64 && y.sh 64)) = true then .ok (.bl (x.eqb y)) else .stuck
def neD (x y : D) : R D := if (x.sc y || (x.sh 64 && y.sh 64)) = true then .ok (.bl (!x.eqb y)) else .stuck
section
variable {X : Cx} {G : Gm}
theorem RepP.sc {dl : Addr} {H : Hp} {Z : List Addr} {x y : D} {vx vy : V} (h : x.sc y = true) (hx : RepP G dl H Z x vx) (hy : RepP G dl H Z y vy) : scal vx vy = true ∧ decide (vx = vy) = x.eqb y := by
  cases x <;> cases y <;> first | (simp [D.sc] at h; done) | skip
  all_goals first
    | (cases hx.non; cases hy.non; simp [scal, D.eqb]; done)
    | (cases hx.non; cases hy.int; simp [scal, D.eqb]; done)
    | (cases hx.non; cases hy.bl; simp [scal, D.eqb]; done)
    | (cases hx.non; cases hy.str; simp [scal, D.eqb]; done)
    | (cases hx.int; cases hy.non; simp [scal, D.eqb]; done)
    | (cases hx.int; cases hy.int; simp [scal, D.eqb, Bool.beq_eq_decide_eq]; done)
    | (cases hx.int; cases hy.str; simp [scal, D.eqb]; done)
    | (cases hx.bl; cases hy.non; simp [scal, D.eqb]; done)
    | (cases hx.bl; cases hy.bl; simp [scal, D.eqb, Bool.beq_eq_decide_eq]; done)
    | (cases hx.bl; cases hy.str; simp [scal, D.eqb]; done)
    | (cases hx.str; cases hy.non; simp [scal, D.eqb]; done)
    | (cases hx.str; cases hy.int; simp [scal, D.eqb]; done)
    | (cases hx.str; cases hy.bl; simp [scal, D.eqb]; done)
    | (cases hx.str; cases hy.str; simp only [scal, D.eqb, true_and]; rw [Bool.eq_iff_iff]; simp; done)
theorem op_eq_d (hG : G.K = X.K) (hu : X.A.units + 64 < cLine) : OpD X G (compareOp .Eq) eqD := by
  refine ⟨_, OpR.or op_eq (op_eqD hu), fun dl Z O r sg x y vx vy H Q E A hx hy h => ?_⟩
  unfold eqD at h
  split at h
  · rename_i hc
    rw [Bool.or_eq_true, Bool.and_eq_true] at hc
    rcases hc with hc | ⟨h1, h2⟩
    · obtain ⟨e1, e2⟩ := hx.sc hc hy
      refine .inl ⟨e1, ?_⟩
      rw [e2]; exact h _ H (.refl _ _) A.gl Rep.bl_
    · refine .inr ⟨x.toP, y.toP, hG ▸ hx.dp h1, hG ▸ hy.dp h2, sh_shaped h1, sh_shaped h2, ?_⟩
      rw [eqb_eqv x y _ _ h1 h2]; exact h _ H (.refl _ _) A.gl Rep.bl_
  · exact h.elim
theorem op_ne_d (hG : G.K = X.K) (hu : X.A.units + 64 < cLine) : OpD X G (compareOp .NotEq) neD := by
  refine ⟨_, OpR.or op_ne (op_neD hu), fun dl Z O r sg x y vx vy H Q E A hx hy h => ?_⟩
  unfold neD at h
  split at h
  · rename_i hc
    rw [Bool.or_eq_true, Bool.and_eq_true] at hc
    rcases hc with hc | ⟨h1, h2⟩
    · obtain ⟨e1, e2⟩ := hx.sc hc hy
      refine .inl ⟨e1, ?_⟩
      rw [e2]; exact h _ H (.refl _ _) A.gl Rep.bl_
    · refine .inr ⟨x.toP, y.toP, hG ▸ hx.dp h1, hG ▸ hy.dp h2, sh_shaped h1, sh_shaped h2, ?_⟩
      rw [eqb_eqv x y _ _ h1 h2]; exact h _ H (.refl _ _) A.gl Rep.bl_
  · exact h.elim
def subD : D → D → R D
  | .int i, .int j => .ok (.int (i - j))
  | _, _ => .stuck
def fdivD : D → D → R D
  | .int i, .int j => if 0 < j ∧ j < 1073741824 then .ok (.int (i / j)) else .stuck
  | _, _ => .stuck
def modD : D → D → R D
  | .int i, .int j => if 0 < j then .ok (.int (i % j)) else .stuck
  | _, _ => .stuck
def ltD : D → D → R D
  | .int i, .int j => .ok (.bl (decide (i < j)))
  | .str i, .str j => .ok (.bl (decide (i < j)))
  | _, _ => .stuck
def leD : D → D → R D
  | .int i, .int j => .ok (.bl (decide (i ≤ j)))
  | .str i, .str j => .ok (.bl (!decide (j < i)))
  | _, _ => .stuck
def gtD : D → D → R D
  | .int i, .int j => .ok (.bl (decide (j < i)))
  | .str i, .str j => .ok (.bl (decide (j < i)))
  | _, _ => .stuck
def geD : D → D → R D
  | .int i, .int j => .ok (.bl (decide (j ≤ i)))
  | .str i, .str j => .ok (.bl (!decide (i < j)))
  | _, _ => .stuck
theorem op_sub_d : OpD X G (binaryOp .Sub) subD := by
  refine ⟨_, op_sub, fun dl Z O r sg x y vx vy H Q E A hx hy h => ?_⟩
  unfold subD at h
  split at h
  · exact ⟨_, _, hx.int, hy.int, h _ H (.refl _ _) A.gl Rep.int_⟩
  · exact h.elim
theorem op_fdiv_d : OpD X G (binaryOp .FloorDiv) fdivD := by
  refine ⟨_, op_fdiv, fun dl Z O r sg x y vx vy H Q E A hx hy h => ?_⟩
  unfold fdivD at h
  split at h
  · split at h
    · rename_i hc
      exact ⟨_, _, hx.int, hy.int, hc, h _ H (.refl _ _) A.gl Rep.int_⟩
    · exact h.elim
  · exact h.elim
theorem op_mod_d : OpD X G (binaryOp .Mod) modD := by
  refine ⟨_, op_mod, fun dl Z O r sg x y vx vy H Q E A hx hy h => ?_⟩
  unfold modD at h
  split at h
  · split at h
    · rename_i hc
      exact ⟨_, _, hx.int, hy.int, hc, h _ H (.refl _ _) A.gl Rep.int_⟩
    · exact h.elim
  · exact h.elim
theorem op_lt_d : OpD X G (compareOp .Lt) ltD := by
  refine ⟨_, OpR.or op_lt op_lt_str, fun dl Z O r sg x y vx vy H Q E A hx hy h => ?_⟩
  unfold ltD at h
  split at h
  · exact .inl ⟨_, _, hx.int, hy.int, h _ H (.refl _ _) A.gl Rep.bl_⟩
  · exact .inr ⟨_, _, hx.str, hy.str, h _ H (.refl _ _) A.gl Rep.bl_⟩
  · exact h.elim
theorem op_le_d : OpD X G (compareOp .LtE) leD := by
  refine ⟨_, OpR.or op_le op_le_str, fun dl Z O r sg x y vx vy H Q E A hx hy h => ?_⟩
  unfold leD at h
  split at h
  · exact .inl ⟨_, _, hx.int, hy.int, h _ H (.refl _ _) A.gl Rep.bl_⟩
  · exact .inr ⟨_, _, hx.str, hy.str, h _ H (.refl _ _) A.gl Rep.bl_⟩
  · exact h.elim
theorem op_gt_d : OpD X G (compareOp .Gt) gtD := by
  refine ⟨_, OpR.or op_gt op_gt_str, fun dl Z O r sg x y vx vy H Q E A hx hy h => ?_⟩
  unfold gtD at h
  split at h
  · exact .inl ⟨_, _, hx.int, hy.int, h _ H (.refl _ _) A.gl Rep.bl_⟩
  · exact .inr ⟨_, _, hx.str, hy.str, h _ H (.refl _ _) A.gl Rep.bl_⟩
  · exact h.elim
theorem op_ge_d : OpD X G (compareOp .GtE) geD := by
  refine ⟨_, OpR.or op_ge op_ge_str, fun dl Z O r sg x y vx vy H Q E A hx hy h => ?_⟩
  unfold geD at h
  split at h
  · exact .inl ⟨_, _, hx.int, hy.int, h _ H (.refl _ _) A.gl Rep.bl_⟩
  · exact .inr ⟨_, _, hx.str, hy.str, h _ H (.refl _ _) A.gl Rep.bl_⟩
  · exact h.elim
end
def addD : D → D → R D
  | .int i, .int j => .ok (.int (i + j))
  | .str a, .str b => if a.length + b.length ≤ 16777216 then .ok (.str (a ++ b)) else .stuck
  | .lst a, .lst b => if a.length + b.length ≤ 16777216 then .ok (.lst (a ++ b)) else .stuck
  | .tup a, .tup b => if a.length + b.length ≤ 16777216 then .ok (.tup (a ++ b)) else .stuck
  | _, _ => .stuck
def mulD : D → D → R D
  | .int i, .int j => if (-(18446744073709551616) < i ∧ i < 18446744073709551616) ∨ (-(18446744073709551616) < j ∧ j < 18446744073709551616) then .ok (.int (i * j)) else .stuck
  | _, _ => .stuck
section
variable {X : Cx} {G : Gm}
theorem str_add (a b : List Nat) : (⟨a.toArray⟩ : Str) ++ ⟨b.toArray⟩ = ⟨(a ++ b).toArray⟩ := by
  show Str.mk (a.toArray ++ b.toArray) = _
  simp
theorem op_mul_d : OpD X G (binaryOp .Mult) mulD := by
  refine ⟨_, op_mul, fun dl Z O r sg x y vx vy H Q E A hx hy h => ?_⟩
  unfold mulD at h
  split at h
  · split at h
    · rename_i hc
      exact ⟨_, _, hx.int, hy.int, (by unfold CMul; omega), h _ H (.refl _ _) A.gl Rep.int_⟩
    · exact h.elim
  · exact h.elim
theorem op_add_d (hG : G.K = X.K) : OpD X G (binaryOp .Add) addD := by
  refine ⟨_, OpR.or op_add (OpR.or op_add_str (OpR.or op_cat op_catA)), fun dl Z O r sg x y vx vy H Q E A hx hy h => ?_⟩
  unfold addD at h
  split at h
  · exact .inl ⟨_, _, hx.int, hy.int, h _ H (.refl _ _) A.gl Rep.int_⟩
  · split at h
    · rename_i a b hc
      refine .inr (.inl ⟨_, _, hx.str, hy.str, by rw [sizeLine_eq]; simpa [Str.length] using hc, ?_⟩)
      rw [str_add]
      exact h _ H (.refl _ _) A.gl Rep.str_
    · exact h.elim
  · split at h
    · rename_i a b hc
      obtain ⟨p, vs, rfl, h1, r1⟩ := hx.lst
      obtain ⟨q, us, rfl, h2, r2⟩ := hy.lst
      refine .inr (.inr (.inl ⟨_, _, _, _, rfl, rfl, h1, h2, by rw [sizeLine_eq, r1.length, r2.length]; exact hc, fun l hl => ?_⟩))
      exact h _ _ (.new hl) (A.gl.new hl) (Rep.lst_new A hl (r1.append r2))
    · exact h.elim
  · split at h
    · rename_i a b hc
      obtain ⟨p, vs, rfl, h1, r1⟩ := hx.tup
      obtain ⟨q, us, rfl, h2, r2⟩ := hy.tup
      have e1 := r1.length
      have e2 := r2.length
      refine .inr (.inr (.inr ⟨_, _, _, _, rfl, rfl, hG ▸ h1, hG ▸ h2, by rw [sizeLine_eq, e1, e2]; exact hc, fun z => ?_, fun z1 z2 => ?_, fun _ _ l hl => ?_⟩))
      · subst z
        have : a = [] := List.length_eq_zero_iff.mp e1.symm
        subst this
        rcases hy with hy | ⟨_, _, _, _, hy⟩
        · exact h _ H (.refl _ _) A.gl hy
        · exact hy.elim
      · subst z2
        have : b = [] := List.length_eq_zero_iff.mp e2.symm
        subst this
        rcases hx with hx | ⟨_, _, _, _, hx⟩
        · rw [List.append_nil] at h
          exact h _ H (.refl _ _) A.gl hx
        · exact hx.elim
      · exact h _ _ (.new hl) (A.gl.new hl) (Rep.tup_new A hl (r1.append r2))
    · exact h.elim
  · exact h.elim
end
end DL
set_option Elab.async false
set_option linter.all false
set_option maxRecDepth 100000
namespace DL
open PySem L2 PySem.Spec PyProof.Rows
def andT (f g : LE → R Bool) : LE → R Bool := fun r => do if (← f r) then g r else .ok false
def orT (f g : LE → R Bool) : LE → R Bool := fun r => do if (← f r) then .ok true else g r
def notT (f : LE → R Bool) : LE → R Bool := fun r => do let b ← f r; .ok (!b)
def andV (f g : LE → R D) : LE → R D := fun r => do
  match ← f r with
  | .bl true => g r
  | .bl false => .ok (.bl false)
  | _ => .stuck
def orV (f g : LE → R D) : LE → R D := fun r => do
  match ← f r with
  | .bl true => .ok (.bl true)
  | .bl false => g r
  | _ => .stuck
def notV (f : LE → R D) : LE → R D := fun r => do
  match ← f r with
  | .bl b => .ok (.bl (!b))
  | _ => .stuck
def iteE (c : LE → R Bool) (f g : LE → R D) : LE → R D := fun r => do if (← c r) then f r else g r
section
variable {X : Cx} {G : Gm} {W : WX} {ex a b c : Expr} {rest : List Expr} {f g : LE → R D} {h k : LE → R Bool} {pos : Pos}
theorem dw_and1 (ha : DT X G W a h) : DW X G W (.BoolOp .And [a] pos) h := pw_and1 ha
theorem dw_or1 (ha : DT X G W a h) : DW X G W (.BoolOp .Or [a] pos) h := pw_or1 ha
theorem dw_and (ha : DT X G W a h) (hb : DW X G W (.BoolOp .And (b :: rest) pos) k) : DW X G W (.BoolOp .And (a :: b :: rest) pos) (andT h k) := PW_imp (pw_and ha hb) fun sg H Q ⟨dl, Z, O, r, A, q⟩ => by
  refine ⟨dl, Z, O, r, A, q.bind.thn fun b hb H1 g1 k1 => ?_⟩
  cases b with
  | true => exact ⟨dl, Z, O, r, A.grow g1 k1, hb.mono (fun b q H2 g2 k2 => q H2 (g1.trans g2) k2) fun e => epost g1⟩
  | false => exact hb H1 g1 k1
theorem dw_or (ha : DT X G W a h) (hb : DW X G W (.BoolOp .Or (b :: rest) pos) k) : DW X G W (.BoolOp .Or (a :: b :: rest) pos) (orT h k) := PW_imp (pw_or ha hb) fun sg H Q ⟨dl, Z, O, r, A, q⟩ => by
  refine ⟨dl, Z, O, r, A, q.bind.thn fun b hb H1 g1 k1 => ?_⟩
  cases b with
  | true => exact hb H1 g1 k1
  | false => exact ⟨dl, Z, O, r, A.grow g1 k1, hb.mono (fun b q H2 g2 k2 => q H2 (g1.trans g2) k2) fun e => epost g1⟩
theorem dt_w (h' : DW X G W ex h) : DT X G W ex h := h'.pt
theorem dt_not (ha : DT X G W a h) : DT X G W (.UnaryOp .Not a pos) (notT h) := PT_imp (pt_not ha) fun sg H Q ⟨dl, Z, O, r, A, q⟩ =>
  ⟨dl, Z, O, r, A, q.bind.thn fun b hb H1 g1 k1 => hb H1 g1 k1⟩
theorem de_one {op} (ha : DE X G W a f) : DE X G W (.BoolOp op [a] pos) f := pe_one ha
theorem de_and (ha : DE X G W a f) (hb : DE X G W (.BoolOp .And (b :: rest) pos) g) : DE X G W (.BoolOp .And (a :: b :: rest) pos) (andV f g) := PE_imp (pe_and ha hb) fun sg H Q ⟨dl, Z, O, r, A, q⟩ => by
  refine ⟨dl, Z, O, r, A, q.bind.thn fun d hd v H1 g1 k1 rp => ?_⟩
  split at hd
  · exact ⟨true, (RepP.of rp).bl, ⟨dl, Z, O, r, A.grow g1 k1, hd.mono (fun d q v H2 g2 k2 => q v H2 (g1.trans g2) k2) fun e => epost g1⟩⟩
  · exact ⟨false, (RepP.of rp).bl, hd _ H1 g1 k1 Rep.bl_⟩
  · exact hd.elim
theorem de_if (hc : DT X G W c h) (ha : DE X G W a f) (hb : DE X G W b g) : DE X G W (.IfExp c a b pos) (iteE h f g) := PE_imp (pe_ifExp hc ha hb) fun sg H Q ⟨dl, Z, O, r, A, q⟩ => by
  refine ⟨dl, Z, O, r, A, q.bind.thn fun b hb H1 g1 k1 => ?_⟩
  cases b with
  | true => exact ⟨dl, Z, O, r, A.grow g1 k1, hb.mono (fun d q v H2 g2 k2 => q v H2 (g1.trans g2) k2) fun e => epost g1⟩
  | false => exact ⟨dl, Z, O, r, A.grow g1 k1, hb.mono (fun d q v H2 g2 k2 => q v H2 (g1.trans g2) k2) fun e => epost g1⟩
def chainE (f1 f2 f3 : LE → R D) (g g' : D → D → R D) : LE → R D := fun r => do
  let x ← f1 r
  let y ← f2 r
  match ← g x y with
  | .bl true => do
    let w ← f3 r
    g' y w
  | .bl false => .ok (.bl false)
  | _ => .stuck
theorem chain_core {f1 f2 f3 : LE → R D} {g1 g2 : D → D → R D} {r1 r2 : R2}
    (h1 : ∀ (dl : Addr) (Z : List Addr) (O : List (Nat × Addr)) (r : LE) (sg : L2.St) (x y : D) (vx vy : V) (H : Hp) (Q : VK) (E : Exc → Prop), At G dl Z O r sg H → RepP G dl H Z x vx → RepP G dl H Z y vy →
      Wp (g1 x y) (fun d => ∀ v H', Grow dl H H' → GlOk G dl H' → Rep G dl (cut H' Z) d v → Q v H') E → r1 vx vy H Q)
    (h2 : ∀ (dl : Addr) (Z : List Addr) (O : List (Nat × Addr)) (r : LE) (sg : L2.St) (x y : D) (vx vy : V) (H : Hp) (Q : VK) (E : Exc → Prop), At G dl Z O r sg H → RepP G dl H Z x vx → RepP G dl H Z y vy →
      Wp (g2 x y) (fun d => ∀ v H', Grow dl H H' → GlOk G dl H' → Rep G dl (cut H' Z) d v → Q v H') E → r2 vx vy H Q) {sg : L2.St} {H : Hp} {Q : VK} (h : tD G W (chainE f1 f2 f3 g1 g2) sg H Q) :
    tChain r1 r2 (tP G W f1) (tP G W f2) (tP G W f3) sg H Q := by
  obtain ⟨dl, Z, O, r, A, q⟩ := h
  refine ⟨dl, Z, O, r, A, q.bind.thn fun x hx vx H1 q1 k1 rx => ?_⟩
  have A1 := A.grow q1 k1
  refine ⟨dl, Z, O, r, A1, hx.bind.mono (fun y hy vy H2 q2 k2 ry => ?_) fun e he => epost q1 he⟩
  have A2 := A1.grow q2 k2
  refine h1 dl Z O r sg x y vx vy H2 _ _ A2 (rx.grow A1 q2) ry (hy.bind.thn fun z hz v H3 q3 k3 rz => ?_)
  have A3 := A2.grow q3 k3
  split at hz
  · refine ⟨true, (RepP.of rz).bl, ?_⟩
    rw [if_pos rfl]
    refine ⟨dl, Z, O, r, A3, hz.bind.mono (fun w hw vw H4 q4 k4 rw_ => ?_) fun e he => epost ((q1.trans q2).trans q3) he⟩
    exact h2 dl Z O r sg y w vy vw H4 Q _ (A3.grow q4 k4) ((ry.grow A2 q3).grow A3 q4) rw_ (hw.thn fun d hd v H' g k rp => hd v H' ((((q1.trans q2).trans q3).trans q4).trans g) k rp)
  · refine ⟨false, (RepP.of rz).bl, ?_⟩
    rw [if_neg Bool.false_ne_true]
    exact hz _ H3 ((q1.trans q2).trans q3) k3 Rep.bl_
  · exact hz.elim
theorem de_chain {op op' : CmpOp} {f1 f2 f3 : LE → R D} {g1 g2 : D → D → R D} (ho : OpD X G (compareOp op) g1) (ho' : OpD X G (compareOp op') g2) (ha : DP X G W a f1) (hb : DP X G W b f2) (hc : DP X G W c f3)
    (hm : lastMarks [op, op'] [b, c] = false := by with_unfolding_all rfl) : DE X G W (.Compare a [op, op'] [b, c] pos) (chainE f1 f2 f3 g1 g2) := by
  obtain ⟨r1, h1, h2⟩ := ho
  obtain ⟨r2, h3, h4⟩ := ho'
  exact PE_imp (pe_chain h1 h3 ha hb hc hm) fun sg H Q h => chain_core h2 h4 h
theorem dt_chain {op op' : CmpOp} {f1 f2 f3 : LE → R D} {g1 g2 : D → D → R D} (ho : OpD X G (compareOp op) g1) (ho' : OpD X G (compareOp op') g2) (ha : DP X G W a f1) (hb : DP X G W b f2) (hc : DP X G W c f3)
    (hm : lastMarks [op, op'] [b, c] = false := by with_unfolding_all rfl) : DT X G W (.Compare a [op, op'] [b, c] pos) (fun r => chainE f1 f2 f3 g1 g2 r >>= asB) := by
  obtain ⟨r1, h1, h2⟩ := ho
  obtain ⟨r2, h3, h4⟩ := ho'
  exact PT_imp (pt_chain h1 h3 ha hb hc hm) fun sg H Q h => tT_of (t := tChain r1 r2 (tP G W f1) (tP G W f2) (tP G W f3)) (fun sg H Q h => chain_core h2 h4 h) h
end
def anil : LE → R (List D) := fun _ => .ok []
def acons (f : LE → R D) (fs : LE → R (List D)) : LE → R (List D) := fun r => do
  let x ← f r
  let xs ← fs r
  .ok (x :: xs)
def tupE (fs : LE → R (List D)) : LE → R D := fun r => do
  let ds ← fs r
  if ds.length ≤ 16777216 then .ok (.tup ds) else .stuck
def lstE (fs : LE → R (List D)) : LE → R (List D) := fun r => do
  let ds ← fs r
  if ds.length ≤ 16777216 then .ok ds else .stuck
section
variable {X : Cx} {G : Gm} {W : WX} {ex a b c : Expr} {es : List Expr} {f g : LE → R D} {fs : LE → R (List D)} {pos : Pos}
theorem da_nil : DA X G W [] anil := PA_imp pa_nil fun sg H Q ⟨dl, Z, O, r, A, q⟩ => q [] H (.refl _ _) A.gl RepL.nil
theorem da_cons (ha : DE X G W a f) (hs : DA X G W es fs) (hst : starEach (a :: es) X.env = (false, eval a X.env) :: starEach es X.env := by rfl) : DA X G W (a :: es) (acons f fs) := PA_imp (pa_cons ha hs hst) fun sg H Q ⟨dl, Z, O, r, A, q⟩ => by
  refine ⟨dl, Z, O, r, A, q.bind.thn fun x hx v H1 g1 k1 rp => ?_⟩
  refine ⟨dl, Z, O, r, A.grow g1 k1, hx.bind.mono (fun xs hxs vs H2 g2 k2 rl => ?_) fun e => epost g1⟩
  exact hxs (v :: vs) H2 (g1.trans g2) k2 (RepL.cons (rp.mono (g2.cut A.dz)) rl)
theorem de_tup {x1} (h : DA X G W es fs) : DE X G W (.Tuple es x1 pos) (tupE fs) := PE_imp (pe_tup h) fun sg H Q ⟨dl, Z, O, r, A, q⟩ => by
  refine ⟨dl, Z, O, r, A, q.bind.thn fun ds hd vs H1 g1 k1 rl => ?_⟩
  split at hd
  · rename_i hc
    refine ⟨by rw [sizeLine_eq, rl.length]; exact hc, fun p hp => ?_⟩
    exact hd _ _ (g1.trans (.new hp)) (k1.new hp) (Rep.tup_new (A.grow g1 k1) hp rl)
  · exact hd.elim
theorem df_lst (h : DA X G W es fs) : DF X G W (.List es pos) (lstE fs) := PE_imp (pe_lst h) fun sg H Q ⟨dl, Z, O, r, A, q⟩ => by
  refine ⟨dl, Z, O, r, A, q.bind.thn fun ds hd vs H1 g1 k1 rl => ?_⟩
  split at hd
  · rename_i hc
    exact ⟨by rw [sizeLine_eq, rl.length]; exact hc, fun p hp => hd p vs H1 g1 k1 hp rl⟩
  · exact hd.elim
/-- the place of a field: by the class -/
def fldD (fx : Nat → Option Nat) : D → R D
  | .ins c ds => match fx c with
    | some j => match ds[j]? with
      | some d => .ok d
      | none => .stuck
    | none => .stuck
  | _ => .stuck
theorem lookup_zip : ∀ {ns : List Str} {vs : List V} {j : Nat} {x : Str} {v : V}, ns.Nodup → ns[j]? = some x → vs[j]? = some v → (ns.zip vs).lookup x = some v
  | [], _, _, _, _, _, h, _ => by simp at h
  | _ :: _, [], _, _, _, _, _, h => by simp at h
  | n :: ns, u :: vs, 0, x, v, nd, h1, h2 => by
    simp at h1 h2
    subst h1 h2
    simp [List.lookup]
  | n :: ns, u :: vs, j + 1, x, v, nd, h1, h2 => by
    have hne : x ≠ n := fun e => by
      subst e
      exact (List.nodup_cons.mp nd).1 (List.mem_of_getElem? (by simpa using h1))
    rw [List.zip_cons_cons, List.lookup_cons]
    have : (x == n) = false := beq_eq_false_iff_ne.mpr hne
    rw [this]
    exact lookup_zip (List.nodup_cons.mp nd).2 (by simpa using h1) (by simpa using h2)
def FldOk (X : Cx) (G : Gm) (m : Str) (fx : Nat → Option Nat) : Prop := ∀ c j, fx c = some j → Cls X.K (G.cls c) ∧ NoAttr X.K (G.cls c) m ∧ (G.flds c)[j]? = some m ∧ (G.flds c).Nodup
theorem de_fld {m : Str} {fx : Nat → Option Nat} (hx : FldOk X G m fx) (ha : DE X G W a f) (hb : attributeBase a m X.env (eval a X.env) = eval a X.env := by rfl) : DE X G W (.Attribute a m pos) (fun r => f r >>= fldD fx) := PE_imp (pe_fld ha hb) fun sg H Q ⟨dl, Z, O, r, A, q⟩ => by
  refine ⟨dl, Z, O, r, A, q.bind.thn fun x hx' v H1 g1 k1 rp => ?_⟩
  unfold fldD at hx'
  split at hx'
  · rename_i c ds
    split at hx'
    · rename_i j hj
      split at hx'
      · rename_i d hd
        unfold Rep at rp
        obtain ⟨a, dx, vs, rfl, e, hl, rl⟩ := rp
        obtain ⟨h1, h2, h3, h4⟩ := hx c j hj
        obtain ⟨u, hu, ru⟩ := RepL.getD ds vs j d rl hd
        exact ⟨a, G.cls c, dx, _, u, rfl, (cut_some e).2, h1, h2, lookup_zip h4 h3 hu, hx' u H1 g1 k1 ru⟩
      · exact hx'.elim
    · exact hx'.elim
  · exact hx'.elim
def ixD : D → D → R D
  | .lst xs, .int i => match atI xs i with
    | some d => .ok d
    | none => .stuck
  | .tup xs, .int i => match atI xs i with
    | some d => .ok d
    | none => .stuck
  | .str s, .int i => if s.length ≤ 16777216 then (match atI s i with
    | some c => .ok (.str [c])
    | none => .stuck) else .stuck
  | _, _ => .stuck
theorem atI_rep {G : Gm} {dl : Addr} {S : Hp} {ds : List D} {vs : List V} {i : Int} {d : D} (rl : RepL G dl S ds vs) (h : atI ds i = some d) : ∃ v, atI vs i = some v ∧ Rep G dl S d v := by
  unfold atI at *
  rw [rl.length]
  cases e : ixN ds.length i with
  | none => rw [e] at h; cases h
  | some j =>
    rw [e] at h
    exact RepL.getD ds vs j d rl h
end
end DL
set_option Elab.async false
set_option linter.all false
set_option maxRecDepth 100000
set_option maxHeartbeats 1000000
namespace LG
open PySem PySem.Spec PyProof.Rows L2
abbrev St := L2.St
/-- the contexts, one behind the other, from v on -/
def ChL : List (Addr × Obj) → Value → Prop
  | [], v => v = .none
  | q :: r, v => v = .ref q.1 ∧ ∃ vs u, q.2.data = .fields vs ∧ vs[2]? = some u ∧ ChL r u
/-- the contexts of an object stand in B, untracked -/
def CtxC (B : Heap) (H : Hp) (o : Obj) : Prop := ∀ vs, o.data = .fields vs → ∃ v cs, vs[2]? = some v ∧ ChL cs v ∧ ∀ q ∈ cs, B.get? q.1 = some q.2 ∧ H q.1 = none
theorem steady_ctxC {B : Heap} {H : Hp} : PXN.Steady1 (CtxC B H) := fun o v h => by
  obtain ⟨c, d, dt, sl⟩ := o
  cases dt with
  | fields vs0 =>
    intro vs e
    have e2 : vs0.setIfInBounds 1 v = vs := Data.fields.inj e
    have e3 : (vs0.setIfInBounds 1 v)[2]? = vs0[2]? := by
      first
      | exact Array.getElem?_setIfInBounds_ne (by decide)
      | simp [Array.getElem?_setIfInBounds]
    rw [← e2, e3]
    exact h vs0 rfl
  | _ =>
    intro vs e
    first
    | exact Data.noConfusion e
    | cases e
/-- what is kept of the exception's object -/
def Zg (B : Heap) (H : Hp) (cls : Value) (d : Option Addr) : Obj → Prop := fun o => o.cls = cls ∧ o.dict = d ∧ CtxC B H o
theorem Zg.steady {B : Heap} {H : Hp} {cls : Value} {d : Option Addr} : PXN.Steady1 (Zg B H cls d) := fun o v h => ⟨PXN.steady_cls o v h.1, PXN.steady_dict o v h.2.1, steady_ctxC o v h.2.2⟩
theorem Zg.ofN {B : Heap} {H : Hp} {cls : Value} {d : Option Addr} {o : Obj} (h : L2N.Zn cls d o) : Zg B H cls d o := ⟨h.1, h.2.1, fun vs e => ⟨.none, [], h.2.2 vs e, rfl, fun q hq => nomatch hq⟩⟩
theorem Zg.zc {B : Heap} {H : Hp} {cls : Value} {d : Option Addr} {o : Obj} (h : Zg B H cls d o) : Zc cls d o := ⟨h.1, h.2.1⟩
theorem Zg.sub {B B' : Heap} {H : Hp} {cls : Value} {d : Option Addr} {o : Obj} (h : Zg B H cls d o) (k : ∀ b u vs, B.get? b = some u → u.data = .fields vs → B'.get? b = some u) : Zg B' H cls d o := by
  refine ⟨h.1, h.2.1, fun vs e => ?_⟩
  obtain ⟨v, cs, h1, h2, h3⟩ := h.2.2 vs e
  refine ⟨v, cs, h1, h2, fun q hq => ⟨?_, (h3 q hq).2⟩⟩
  have fld : ∀ {cs : List (Addr × Obj)} {v : Value}, ChL cs v → ∀ q ∈ cs, ∃ vs, q.2.data = .fields vs := by
    intro cs
    induction cs with
    | nil => intro v _ q hq; cases hq
    | cons p r ih =>
      intro v hc q hq
      obtain ⟨_, vs, u, k1, _, k3⟩ := hc
      rcases List.mem_cons.mp hq with rfl | hq
      · exact ⟨vs, k1⟩
      · exact ih k3 q hq
  obtain ⟨ws, hw⟩ := fld h2 q hq
  exact k _ _ ws (h3 q hq).1 hw
theorem sky_imp {B : Heap} {l : List Env} {a L : Addr} {Z Z' : Obj → Prop} {h : Heap} (z : ∀ o, Z o → Z' o) (x : Sky B l a Z L h) : Sky B l a Z' L h := by
  rcases x with ⟨hB, hn, hl, oe, vs, he, hz, r⟩ | f | ⟨k1, k2, k3, k4⟩
  · exact .inl ⟨hB, hn, hl, oe, vs, he, z _ hz, r⟩
  · exact .inr (.inl (L2H.flyingZ_imp z f))
  · exact .inr (.inr ⟨k1, k2, k3, L2H.tracedZ_imp z k4⟩)
/-- an exception in the air of X: sI is the state without it -/
def XE (X : Cx) (W : WX) (u : Value) (s' : Shared) : Prop :=
  ∃ (a : Addr) (B : Heap) (sI : Shared) (pins : List (Addr × Obj)) (σ : St) (H : Hp) (cls : Value) (d : Option Addr),
    u = .ref a ∧ Inv X pins σ H sI ∧ (∀ b o, sI.heap.get? b = some o → b ∉ frs X.stack → B.get? b = some o) ∧ sI.heap.UpToSlots s'.heap ∧
      Sky B X.stack a (Zg B H cls d) X.env.locals s'.heap ∧ H a = none ∧ s'.os = sI.os ∧ AllBare s'.gens ∧ W cls d σ H
def Takes (X : Cx) (W : WX) : Prop := ∀ u s', XE X W u s' → X.xe u s'
theorem XE.toL2 {X : Cx} {W : WX} {u : Value} {s' : Shared} (x : XE X W u s') : L2.XE X W u s' := by
  obtain ⟨a, B, sI, pins, σ, H, cls, d, e, I, nb, up, sky, r⟩ := x
  exact ⟨a, B, sI, pins, σ, H, cls, d, e, I, nb, up, sky_imp (fun _ z => z.zc) sky, r⟩
theorem XE.ofN {X : Cx} {W : WX} {u : Value} {s' : Shared} (x : L2N.XE X W u s') : XE X W u s' := by
  obtain ⟨a, B, sI, pins, σ, H, cls, d, e, I, nb, up, sky, r⟩ := x
  exact ⟨a, B, sI, pins, σ, H, cls, d, e, I, nb, up, sky_imp (fun _ z => Zg.ofN z) sky, r⟩
theorem Takes.ofL2 {X : Cx} {W : WX} (t : L2.Takes X W) : Takes X W := fun u s' x => t u s' x.toL2
theorem Takes.toN {X : Cx} {W : WX} (t : Takes X W) : L2N.Takes X W := fun u s' x => t u s' (.ofN x)
theorem Takes.imp {X : Cx} {W W' : WX} (t : Takes X W) (h : ∀ c d σ H, W' c d σ H → W c d σ H) : Takes X W' := fun u s' ⟨a, B, sI, pins, σ, H, cls, d, e, I, nb, up, sky, na, os, ag, w⟩ =>
  t u s' ⟨a, B, sI, pins, σ, H, cls, d, e, I, nb, up, sky, na, os, ag, h _ _ _ _ w⟩
/-- behind a call that let an exception out -/
def CX (P : Program) (w : World) (outer : List Env) (H : Hp) (s : Shared) (E : XK) (u : Value) (s' : Shared) : Prop :=
  ∃ (a : Addr) (B : Heap) (H' : Hp) (cls : Value) (d : Option Addr), u = .ref a ∧ HandSPX.FlyingZ B outer a (Zg B H' cls d) s'.heap ∧ HOk P w H' B ∧ UB (frs outer) H H' s.heap B s'.heap ∧ H' a = none ∧ s'.os = s.os ∧ AllBare s'.gens ∧ E cls d H'
theorem CX.toL2 {P : Program} {w : World} {outer : List Env} {H : Hp} {s : Shared} {E : XK} {u : Value} {s' : Shared} (c : CX P w outer H s E u s') : L2.CX P w outer H s E u s' := by
  obtain ⟨a, B, H', cls, d, e, fl, r⟩ := c
  exact ⟨a, B, H', cls, d, e, L2H.flyingZ_imp (fun _ z => z.zc) fl, r⟩
theorem FnOk.weaken {P : Program} {w : World} {K : PySem.W.Frag} {mg : Str → Option Value} {base : Heap} {k : Nat} {f : Addr} {fd : FuncData} {ps : List Str} {sp : Sp} (F : FnOk P w K mg base (CX P w) k f fd ps sp) : FnOk P w K mg base (L2.CX P w) k f fd ps sp :=
  ⟨F.len, fun A outer s H args us vs Q E hr e0 b r h => codeAny_mono (F.run A outer s H args us vs Q E hr e0 b r h) fun r s' q => by
    cases r with
    | ok f => cases f <;> exact q
    | error e => exact CX.toL2 q⟩
section
variable {X : Cx} {pins : List (Addr × Obj)} {σ : St} {H : Hp} {sI s s' : Shared} {B : Heap} {W : WX} {E : XK}
/-- a call's exception is in our air -/
theorem XE.of_call (I : Inv X pins σ H s) (hW : ∀ cls d H', E cls d H' → W cls d σ H') {u : Value} (c : CX X.prog X.w X.stack H s E u s') : XE X W u s' := by
  obtain ⟨a, B, H', cls, d, rfl, fl, hok, ub, na, os, ag, hE⟩ := c
  obtain ⟨G, g1, g2⟩ := restrict s'.heap fun b => (B.get? b).isSome || decide (b ∈ frs X.stack)
  have st : B.StaysIn s'.heap := fl.1
  have inB : ∀ b o, B.get? b = some o → G.get? b = some o := fun b o e => (g1 b (by simp [e])).trans (st b o e)
  have inF : ∀ b, b ∈ frs X.stack → G.get? b = s'.heap.get? b := fun b hb => g1 b (by simp [hb])
  have back : ∀ b o, G.get? b = some o → s'.heap.get? b = some o ∧ ((B.get? b).isSome = true ∨ b ∈ frs X.stack) := fun b o e => by
    cases q : ((B.get? b).isSome || decide (b ∈ frs X.stack)) with
    | false => rw [g2 b q] at e; cases e
    | true => exact ⟨(g1 b q) ▸ e, by simpa [Bool.or_eq_true] using q⟩
  have J : Inv X pins σ H' { s with heap := G, gens := s'.gens, drawn := s'.drawn, toks := s'.toks } := by
    refine I.call (ch := []) ⟨fun b o e n hb _ => inB b o (ub.keep b o e n hb), fun b o e n hb _ => ?_, fun b o e n _ => ub.free b o e n, fun b o e _ => ?_, ub.tups, ub.frzs, ub.tbls⟩ (hok.kept inB) ag (fun _ z => nomatch z)
    · obtain ⟨sl, q⟩ := ub.slot b o e hb
      exact ⟨sl, (inF b hb).trans q⟩
    · by_cases hb : b ∈ frs X.stack
      · obtain ⟨sl, q⟩ := ub.slot b o e hb
        exact ⟨_, (inF b hb).trans q⟩
      · obtain ⟨o', q⟩ := ub.there b o e hb
        exact ⟨o', inB b o' q⟩
  refine ⟨a, B, _, pins, σ, H', cls, d, rfl, J, fun b o e hb => ?_, Heap.UpToSlots.of_keeps fun b o e => (back b o e).1, .inr (.inl fl), na, os, ag, hW _ _ _ hE⟩
  obtain ⟨e', h⟩ := back b o e
  rcases h with h | h
  · obtain ⟨o', q⟩ := Option.isSome_iff_exists.mp h
    have z := st b o' q
    rw [e'] at z; cases z
    exact q
  · exact absurd h hb
/-- a new exception is in our air -/
theorem XE.new {a : Addr} {oe : Obj} {vs : Array Value} {cls : Value} {d : Option Addr} (I : Inv X pins σ H sI) (k : ∀ b o, sI.heap.get? b = some o → s'.heap.get? b = some o) (hne : sI.heap.get? a = none) (he : s'.heap.get? a = some oe)
    (hc : oe.cls = cls) (hdd : oe.dict = d) (hd : oe.data = .fields vs) (h1 : vs[1]? = some .none) {v : Value} {cs : List (Addr × Obj)} (h2 : vs[2]? = some v) (hch : ChL cs v) (hcs : ∀ q ∈ cs, sI.heap.get? q.1 = some q.2 ∧ H q.1 = none ∧ q.1 ∉ frs X.stack)
    (na : H a = none) (os : s'.os = sI.os) (ag : AllBare s'.gens) (w : W cls d σ H) : XE X W (.ref a) s' := by
  refine ⟨a, PySem.W.hideAll sI.heap (frs X.stack), sI, pins, σ, H, cls, d, rfl, I, fun b o e hb => PySem.W.hideAll_get _ e hb, Heap.UpToSlots.of_keeps k,
    .inl ⟨fun b o e => k b o (PySem.W.of_hideAll _ e), ?_, ?_, oe, vs, he, ⟨hc, hdd, fun ws e => ?_⟩, hd, h1⟩, na, os, ag, w⟩
  · cases q : (PySem.W.hideAll sI.heap (frs X.stack)).get? a with
    | none => rfl
    | some o =>
      have z := PySem.W.of_hideAll _ q
      rw [hne] at z; cases z
  · exact Heap.FunFrames.of_keeps (fun b o e _ => ⟨o, k b o e, rfl⟩) (funFrames_none I.stack fun b hb => PySem.W.hideAll_none _ hb)
  · rw [hd] at e
    cases e
    exact ⟨v, cs, h2, hch, fun q hq => ⟨PySem.W.hideAll_get _ (hcs q hq).1 (hcs q hq).2.2, (hcs q hq).2.1⟩⟩
/-- it leaves the def -/
theorem XE.leave (hs : X.stack = X.env :: X.outer) (hf : X.env.frame = some X.env.locals) (hex : X.ex = []) {E₁ : Value → Shared → Prop} (hW : ∀ cls d σ H, W cls d σ H → E cls d H) {u : Value} (x : XE X W u s') :
    wpAny (model X.prog X.w) X.A (leaving X.env u) (fun _ s'' => CX X.prog X.w X.outer X.H_0 X.s_0 E u s'') E₁ s' := by
  obtain ⟨a, B, sI, pins, σ, H, cls, d, rfl, I, nb, up, sky, na, os, ag, w⟩ := x
  have hfr : X.A.frames = some (X.env :: X.outer) := by rw [I.ok.frames, hs]
  have old : ∀ b o, X.s_0.heap.get? b = some o → b ∉ X.fs → b ∉ frs X.stack := fun b o e hb hm =>
    (List.mem_cons.mp (I.stkSub b hm)).elim (fun z => absurd (z ▸ Nat.lt_of_lt_of_le (Heap.lt_size e) I.ok.above) (Nat.lt_irrefl _)) hb
  have nex : ∀ b, b ∉ X.ex := fun b hb => by rw [hex] at hb; cases hb
  have fin : ∀ h', HandSPX.FlyingZ B X.outer a (Zg B H cls d) h' → s'.heap.UpToSlots h' → CX X.prog X.w X.outer X.H_0 X.s_0 E (.ref a) { s' with heap := h' } := fun h' fl up' => by
    refine ⟨a, B, H, cls, d, rfl, fl, I.inGround nb, ⟨fun b o e n hb => nb b o (I.base.keep b o e n hb (nex b)) (old b o e hb), fun b o e hb => ?_, fun b o e n => I.base.free b o e n (nex b), fun b o e hb => ?_, I.base.tups, I.base.frzs, I.base.tbls⟩,
      na, os.trans I.os, ag, hW _ _ _ _ w⟩
    · obtain ⟨_, o₀, e₀, hnf⟩ := I.ok.funs.mem hb
      rw [e] at e₀; cases e₀
      obtain ⟨sl, e1⟩ := I.base.slot b o e (I.ok.frf b hb) hb (nex b)
      obtain ⟨sl2, e2⟩ := up b _ e1 hnf
      obtain ⟨sl3, e3⟩ := up' b _ e2 hnf
      exact ⟨sl3, e3⟩
    · obtain ⟨o', e1⟩ := I.base.there b o e (nex b)
      exact ⟨o', nb b o' e1 (old b o e hb)⟩
  rw [hs] at sky
  rcases sky with ⟨hB, hn, hl, oe, vs, he, hz, hd, h1⟩ | fl | hd
  · exact PXN.leaving_firstZ Zg.steady hfr hl hf he hB hn hd h1 hz fin
  · exact PXN.leaves_onZ Zg.steady hfr hf fl fin
  · exact HandSPX.leaves_heldZ hf hd fin
theorem takes_of (hs : X.stack = X.env :: X.outer) (hf : X.env.frame = some X.env.locals) (hex : X.ex = []) {E₁ : Value → Shared → Prop}
    (hx : X.xe = fun e s' => wpAny (model X.prog X.w) X.A (leaving X.env e) (fun _ s'' => CX X.prog X.w X.outer X.H_0 X.s_0 E e s'') E₁ s') : Takes X (fun cls d _ H => E cls d H) := fun u s' x => by
  rw [hx]
  exact XE.leave (W := fun cls d _ H => E cls d H) (E := E) hs hf hex (fun _ _ _ _ h => h) x
end
theorem passAt {X : Cx} {W : WX} (tk : Takes X W) (σ : St) : PassesAt (CX X.prog X.w) X σ (WE W σ) := fun _ _ _ e s' I c => tk e s' (XE.of_call I (fun _ _ _ h => h) c)
theorem takes0 {X : Cx} : Takes X (fun _ _ _ _ => False) := Takes.ofL2 LamX.takes0
/-- where nothing is handled -/
theorem ps_raise {X : Cx} {W : WX} {e : Expr} {t : St → Hp → XK → Prop} {pos : Pos} (hc : X.calm = true) (tk : Takes X W) (he : L2N.PMk X e t) : PS X (.Raise (some e) none pos) (fun _ σ H => t σ H fun cls d H' => W cls d σ H') := L2N.ps_raise hc tk.toN he
end LG
set_option Elab.async false
set_option linter.all false
set_option maxRecDepth 100000
set_option maxHeartbeats 1000000
namespace LG
open PySem PySem.Spec PyProof.Rows L2 HotX
/-- a chain of n objects from v on, as it stands in B -/
def Chn (B : Heap) : Nat → Value → Prop
  | 0, v => v = .none
  | n + 1, v => ∃ x o vs u, v = .ref x ∧ B.get? x = some o ∧ o.data = .fields vs ∧ vs[2]? = some u ∧ Chn B n u
theorem chn_of {B : Heap} : ∀ {cs : List (Addr × Obj)} {v : Value}, ChL cs v → (∀ q ∈ cs, B.get? q.1 = some q.2) → Chn B cs.length v
  | [], _, h, _ => h
  | q :: r, _, ⟨h1, vs, u, h2, h3, h4⟩, hb => ⟨q.1, q.2, vs, u, h1, hb q List.mem_cons_self, h2, h3, chn_of h4 fun p hp => hb p (List.mem_cons_of_mem _ hp)⟩
section
variable {prog : Program} {w : World} {E : Value → Shared → Prop} {s : Shared}
/-- the chain is walked; slow is never behind its end -/
theorem unchain_go {a : Addr} {B : Heap} (hB : B.StaysIn s.heap) (na : B.get? a = none) : ∀ (k m : Nat) (x y : Addr) (tg : Bool) {A : Around} {R : Result → Shared → Prop}, k ≤ m → Chn B (k + 1) (.ref x) → Chn B (m + 1) (.ref y) → R (.ok (.ret .none)) s →
    codeAny (model prog w) A (.builtin "proto.unchain" ⟨[.ref a, .ref x, .ref y, .bool tg], []⟩) R s := by
  intro k
  induction k with
  | zero =>
    intro m x y tg A R _ hx _ hr
    obtain ⟨x', o, vs, u, e1, e2, e3, e4, e5⟩ := hx
    cases e1
    have e5 : u = .none := e5
    subst e5
    refine codeAny_builtin HotX.entry_unchain ?_
    show wpAny _ _ (field (.ref x) 2 >>= _) _ _ s
    refine wpAny_bind (wpAny_field (hB _ _ e2) e3 e4 ?_)
    rw [if_pos (show (Value.none == Value.none) = true from rfl)]
    first
    | exact wpAny_bind (wpAny_pure (wpAny_pure hr))
    | exact wpAny_bind (wpAny_pure hr)
    | exact wpAny_pure hr
  | succ k ih =>
    intro m x y tg A R hkm hx hy hr
    obtain ⟨x', o, vs, u, e1, e2, e3, e4, e5⟩ := hx
    cases e1
    obtain ⟨x2, o2, vs2, u2, f1, f2, f3, f4, f5⟩ := id e5
    subst f1
    obtain ⟨y', o', vs', u', g1, g2, g3, g4, g5⟩ := id hy
    cases g1
    have nxa : x2 ≠ a := fun z => by rw [z, na] at f2; cases f2
    refine codeAny_builtin HotX.entry_unchain ?_
    show wpAny _ _ (field (.ref x) 2 >>= _) _ _ s
    refine wpAny_bind (wpAny_field (hB _ _ e2) e3 e4 ?_)
    rw [if_neg (show ¬ ((Value.ref x2 == Value.none) = true) from by simp), if_neg (show ¬ ((Value.ref x2 == Value.ref a) = true) from by simp [nxa])]
    by_cases hxy : x2 = y
    · rw [if_pos (show (Value.ref x2 == Value.ref y) = true from by simp [hxy])]
      refine wpAny_bind (wpAny_rule ?_)
      first
      | exact wpAny_bind (wpAny_pure (wpAny_pure hr))
      | exact wpAny_bind (wpAny_pure hr)
      | exact wpAny_pure hr
    · rw [if_neg (show ¬ ((Value.ref x2 == Value.ref y) = true) from by simp [hxy])]
      cases tg with
      | false =>
        rw [if_neg (by decide)]
        refine wpAny_bind (wpAny_pure ?_)
        refine wpAny_pure ⟨by first | kernel_rfl | decide | (simp [Code.quiet]; decide), ?_⟩
        exact ih m x2 y true (Nat.le_of_succ_le hkm) e5 hy hr
      | true =>
        rw [if_pos rfl]
        refine wpAny_bind (wpAny_field (hB _ _ g2) g3 g4 ?_)
        obtain ⟨m', rfl⟩ : ∃ m', m = m' + 1 := ⟨m - 1, by omega⟩
        obtain ⟨y2, o3, vs3, u3, k1, k2, k3, k4, k5⟩ := id g5
        subst k1
        refine wpAny_pure ⟨by first | kernel_rfl | decide | (simp [Code.quiet]; decide), ?_⟩
        exact ih m' x2 y2 false (by omega) e5 g5 hr
theorem raiseNew_chain {α : Type} {A : Around} {a x1 : Addr} {n : Nat} {oe : Obj} {vs : Array Value} {B : Heap} {Q : α → Shared → Prop} (hh : A.handled = some (.ref x1)) (hB : B.StaysIn s.heap) (na : B.get? a = none) (hc : Chn B (n + 1) (.ref x1)) (ha : s.heap.get? a = some oe) (da : oe.data = .fields vs) (hi : 2 < vs.size)
    (hE : E (.ref a) { s with heap := s.heap.update a (Obj.mapFields (·.setIfInBounds 2 (.ref x1))) }) : wpAny (model prog w) A (raiseNew (.ref a) : Sem α) Q E s := by
  have hne : x1 ≠ a := fun z => by
    obtain ⟨x', o, _, _, e1, e2, _⟩ := hc
    cases e1
    rw [z, na] at e2; cases e2
  unfold raiseNew
  refine wpAny_bind (wpAny_handled ?_)
  rw [hh]
  have un : ∀ {Q' : Value → Shared → Prop}, Q' .none s → wpAny (model prog w) A (holding [Value.ref a] (runValue (.builtin "proto.unchain" ⟨[.ref a, .ref x1, .ref x1, .bool false], []⟩))) Q' E s := fun {Q'} q =>
    wpAny_holding (wpAny_runValue (unchain_go hB na n n x1 x1 false (Nat.le_refl _) hc hc q))
  have hb : (Value.ref x1 != Value.ref a) = true := ref_bne hne
  first
  | (show wpAny _ _ (if (Value.ref x1 != Value.ref a) = true then _ else _) _ _ _
     rw [if_pos hb]
     first
     | exact wpAny_bind (un (wpAny_bind (chained ha da hi (wpAny_throw hE))))
     | exact wpAny_bind (wpAny_bind (un (chained ha da hi (wpAny_throw hE)))))
  | (refine wpAny_bind ?_
     show wpAny _ _ (if (Value.ref x1 != Value.ref a) = true then _ else _) _ _ _
     rw [if_pos hb]
     exact wpAny_bind (un (chained ha da hi (wpAny_throw hE))))
theorem raise_made_chain {A : Around} {env : Env} {x : Sem Value} {Q : Flow → Shared → Prop} {x1 : Addr} (hh : A.handled = some (.ref x1))
    (h : wpAny (model prog w) A x (fun v s₁ => ∃ a oe vs cls, v = .ref a ∧ s₁.heap.get? a = some oe ∧ oe.cls = cls ∧ oe.data = .fields vs ∧ vs[1]? = some .none ∧ 2 < vs.size ∧ (∃ B n, B.StaysIn s₁.heap ∧ B.get? a = none ∧ Chn B (n + 1) (.ref x1)) ∧
      PySem.W.Looks (model prog w) s₁.heap (isSubtype cls (.type "BaseException")) true ∧ PySem.W.Looks (model prog w) s₁.heap (typeOf cls) (.type "type") ∧ E (.ref a) { s₁ with heap := s₁.heap.update a (Obj.mapFields (·.setIfInBounds 2 (.ref x1))) }) E s) :
    wpAny (model prog w) A (raiseStmt env (some x) none) Q E s := by
  unfold raiseStmt
  dsimp only
  refine wpAny_bind (wpAny_mono h (fun v s₁ h₁ => ?_) fun _ _ x => x)
  obtain ⟨a, oe, vs, cls, rfl, ha, hcls, hd, h1, hi, ⟨B, n, hB, na, hc⟩, L1, L3, hE⟩ := h₁
  have LT : PySem.W.Looks (model prog w) s₁.heap (typeOf (.ref a)) cls := fun A Q E s k q => wpAny_typeOf_ref (k _ _ ha) (by rw [hcls]; exact q)
  have LI : PySem.W.Looks (model prog w) s₁.heap (isInstance (.ref a) (.type "BaseException")) true := LT.andThen L1
  have hnt : ∀ {Q' : Bool → Shared → Prop}, Q' false s₁ → wpAny (model prog w) A (isType (.ref a)) Q' E s₁ := by
    intro Q' hq
    simp only [isType, loadHead]
    refine wpAny_bind (wpAny_loadPart ha ?_)
    rw [hd]; exact wpAny_pure hq
  refine wpAny_bind (wpAny_pure ?_)
  dsimp only
  refine wpAny_bind (wpAny_holding ?_)
  unfold excFromValue isExcClass
  refine wpAny_bind (wpAny_bind (hnt ?_))
  simp only [Bool.false_eq_true, if_false]
  refine wpAny_pure ?_
  simp only [Bool.false_eq_true, if_false]
  refine wpAny_bind (LI.here ?_)
  simp only [if_true]
  refine wpAny_pure ?_
  refine wpAny_bind (hnt ?_)
  simp only [Bool.false_eq_true, if_false]
  unfold raisedInstance
  refine wpAny_bind (wpAny_bind (LT.here (wpAny_bind (L3.here ?_))))
  rw [if_pos (beq_self_eq_true _)]
  refine wpAny_pure ?_
  unfold setFlight
  refine wpAny_bind (wpAny_bind (wpAny_field ha hd h1 ?_))
  rw [if_neg (by decide)]
  refine wpAny_pure ?_
  exact raiseNew_chain hh hB na hc ha hd hi hE
end
/-- the context bears the handled exception with its chain -/
def HotG (X : Cx) : Prop := ∃ (p : Addr × Obj) (ps : List (Addr × Obj)), X.A.handled = some (.ref p.1) ∧ ChL (p :: ps) (.ref p.1) ∧ ∀ q ∈ p :: ps, q ∈ X.pn
theorem ps_raiseG {X : Cx} {W : WX} {e : Expr} {t : St → Hp → XK → Prop} {pos : Pos} (hc : HotG X) (tk : Takes X W) (he : L2N.PMk X e t) : PS X (.Raise (some e) none pos) (fun _ σ H => t σ H fun cls d H' => W cls d σ H') := by
  refine ⟨fun pins s σ H D I h => ?_⟩
  obtain ⟨p, ps, hh, hch, hin⟩ := hc
  show wpAny _ _ (do standAt pos; raiseStmt X.env (some (do let v ← eval e X.env; standAt pos; pure v)) none) _ _ _
  refine wpAny_bind (wpAny_standAt (raise_made_chain hh (wpAny_bind (wpAny_mono (he pins s σ H _ I h) (fun u s1 hu => wpAny_bind (wpAny_standAt (wpAny_pure ?_))) fun _ _ x => x))))
  obtain ⟨a, oe, vs, sI, H', cls, d, rfl, J, k, hne, ha, hz, hd, h1, na, os, ag, r, q⟩ := hu
  obtain ⟨r1, r2⟩ := r (model X.prog X.w) s1.heap (J.kIn.keeps k)
  have pin : ∀ q ∈ p :: ps, sI.heap.get? q.1 = some q.2 ∧ H' q.1 = none ∧ q.1 ∉ frs X.stack := fun q hq => by
    have P := J.pin q (List.mem_append_left _ (hin q hq))
    exact ⟨P.1, P.2.1, fun hm => (List.mem_cons.mp (J.stkSub q.1 hm)).elim P.2.2.1 P.2.2.2.1⟩
  have hi : 2 < vs.size := (Array.getElem?_eq_some_iff.mp (hz.2.2 vs hd)).1
  have e1 : (vs.setIfInBounds 2 (Value.ref p.1))[1]? = some Value.none := by
    have e3 : (vs.setIfInBounds 2 (Value.ref p.1))[1]? = vs[1]? := by
      first
      | exact Array.getElem?_setIfInBounds_ne (by decide)
      | simp [Array.getElem?_setIfInBounds]
    rw [e3]
    exact h1
  have e2 : (vs.setIfInBounds 2 (Value.ref p.1))[2]? = some (Value.ref p.1) := by
    first
    | exact Array.getElem?_setIfInBounds_self_of_lt hi
    | simp [Array.getElem?_setIfInBounds, hi]
  refine ⟨a, oe, vs, cls, rfl, ha, hz.1, hd, h1, hi, ⟨sI.heap, ps.length, k, hne, chn_of hch fun q hq => (pin q hq).1⟩, r1, r2, tk _ _ (XE.new J (fun b u z => ?_) hne (Heap.get?_update_self _ ha (Obj.isFreed_of_fields (Obj.data_mapFields hd _))) ((Obj.cls_mapFields ..).trans hz.1) ((HandSPX.dict_mapFields ..).trans hz.2.1) (Obj.data_mapFields hd _) e1 e2 hch pin na os ag q)⟩
  have nab : a ≠ b := fun y => by
    rw [← y, hne] at z
    cases z
  show (s1.heap.update a (Obj.mapFields (·.setIfInBounds 2 (.ref p.1)))).get? b = some u
  rw [Heap.get?_update_other _ _ nab]
  exact k b u z
end LG
set_option Elab.async false
set_option linter.all false
set_option maxRecDepth 100000
set_option maxHeartbeats 1000000
namespace LG
open PySem PySem.Spec PyProof.Rows L2
abbrev suiteX (X : Cx) (a : Addr) (pn : List (Addr × Obj)) : Cx := { X with A := X.A.mark (some (.ref a)), calm := false, pn := pn }
section
variable {X : Cx} {pins : List (Addr × Obj)} {σ : St} {H : Hp} {s : Shared}
theorem ok_suite (ok : X.Ok) (a : Addr) (pn : List (Addr × Obj)) : (suiteX X a pn).Ok :=
  ⟨ok.mod, ok.kind, ok.glob, ok.blt, ok.above, ok.inj, ok.has, ok.cab, (fun z => absurd (show false = true from z) Bool.false_ne_true), ok.frames, ok.stk, ok.exf, ok.bs, ok.bsz, ok.noex, ok.exfs, ok.funs, ok.frf⟩
theorem inv_suite {a : Addr} {pn : List (Addr × Obj)} (I : Inv X pins σ H s) (h : ∀ q ∈ pn, s.heap.get? q.1 = some q.2 ∧ H q.1 = none ∧ q.1 ≠ X.env.locals ∧ q.1 ∉ X.fs ∧ ∀ v, q.2.data ≠ .cell v) : Inv (suiteX X a pn) [] σ H s :=
  ⟨ok_suite I.ok a pn, I.os, I.bare, I.base, I.loc, I.cell, I.free, I.freeC, fun p hp => h p (by rw [List.append_nil] at hp; exact hp), I.hok, I.len⟩
theorem inv_unsuite {a : Addr} {pn pn' : List (Addr × Obj)} (ok : X.Ok) (hs : ∀ q ∈ X.pn ++ pins, q ∈ pn) (I : Inv (suiteX X a pn) pn' σ H s) : Inv X pins σ H s :=
  ⟨ok, I.os, I.bare, I.base, I.loc, I.cell, I.free, I.freeC, fun p hp => I.pin p (List.mem_append_left _ (hs p hp)), I.hok, I.len⟩
end
theorem chl_fld : ∀ {cs : List (Addr × Obj)} {v : Value}, ChL cs v → ∀ q ∈ cs, ∃ vs, q.2.data = .fields vs
  | [], _, _, q, hq => nomatch hq
  | p :: r, _, ⟨_, vs, u, k1, _, k3⟩, q, hq => by
    rcases List.mem_cons.mp hq with rfl | hq
    · exact ⟨vs, k1⟩
    · exact chl_fld k3 q hq
inductive HdsOk (X : Cx) (Wout : WX) : List ExceptHandler → List (Value × (Addr → Value → Option Addr → TS)) → Prop
  | nil : HdsOk X Wout [] []
  | cons {x : Str} {c : Value} {ts : Addr → Value → Option Addr → TS} {b₀ : Stmt} {suite : List Stmt} {np pos' : Pos} {hds : List ExceptHandler} {l : List (Value × (Addr → Value → Option Addr → TS))} (hc : Names X x c)
      (hsu : ∀ (a : Addr) (cls : Value) (d : Option Addr) (pn : List (Addr × Obj)), HotG (suiteX X a pn) → Takes (suiteX X a pn) Wout → PSs (suiteX X a pn) (b₀ :: suite) (ts a cls d)) (r : HdsOk X Wout hds l) :
      HdsOk X Wout (.ExceptHandler (some (.Name x np)) none (b₀ :: suite) pos' :: hds) ((c, ts) :: l)
section
variable {X : Cx} {body : List Stmt} {h₀ : ExceptHandler} {hds : List ExceptHandler} {l : List (Value × (Addr → Value → Option Addr → TS))} {pos : Pos} {tb : WX → TS} {Wout : WX}
theorem ps_try_many (hs : X.stack = X.env :: X.outer) (hf : X.env.frame = some X.env.locals) (hpa : ∀ hd : Option Value, PassesOwnAt (model X.prog X.w) (X.A.mark hd) X.A X.env X.xe) (tk : Takes X Wout)
    (hb : ∀ (W : WX) (pn : List (Addr × Obj)) (xe : Value → Shared → Prop), Takes (X.tr pn xe) W → PassesOwn (model X.prog X.w) X.A X.env xe → PSs (X.tr pn xe) body (tb W))
    (hh : HdsOk X Wout (h₀ :: hds) l) : PS X (.Try body (h₀ :: hds) [] [] pos) (fun D σ H => tb (wMany X.K Wout D l) D σ H) := by
  refine ⟨fun pins s σ H D I h => ?_⟩
  have ok := I.ok
  have hfr : X.A.frames = some (X.env :: X.outer) := by rw [ok.frames, hs]
  refine wpAny_Try_except ?_
  refine wpAny_mono ((hb (wMany X.K Wout D l) (X.pn ++ pins) (fun e s₁ => wpAny (model X.prog X.w) X.A (noteFrame e X.env) (fun _ s₂ => wpAny (model X.prog X.w) X.A (setFlight e none) (fun _ s₃ =>
    wpAny (model X.prog X.w) X.A (handleBy e X.env (h₀ :: hds)) (SP X pins D) X.xe s₃) X.xe s₂) X.xe s₁) (fun u s' xx => ?_) PassesOwn.looking).run [] s σ H D (I.toTry _) h) (fun f s1 hsp => ?_) (fun e s1 he => he)
  · obtain ⟨a, B, sI, pins', σ', H', cls, d, rfl, J', nb, up, sky, na, os, ag, w⟩ := xx
    have J : Inv X pins σ' H' sI := J'.ofTry ok
    have sky' : Sky B (X.env :: X.outer) a (Zg B H' cls d) X.env.locals s'.heap := by rw [← hs]; exact sky
    show wpAny (model X.prog X.w) X.A (noteFrame (.ref a) X.env) _ _ _
    refine L2N.Sky.land Zg.steady hfr hf sky' fun h3 fl3 up3 => ?_
    have offFr : ∀ {h : Heap} {b : Addr} {o : Obj} {vs : Array Value}, h.FunFrames B (X.env :: X.outer) → h.get? b = some o → o.data = .fields vs → b ≠ X.env.locals ∧ b ∉ X.fs := fun {h b o vs} ff e dd => by
      have nf : b ∉ frs (X.env :: X.outer) := fun hm => by
        obtain ⟨_, o', e', hnf⟩ := ff.mem hm
        rw [e] at e'; cases e'
        exact hnf _ dd
      refine ⟨fun z => nf (List.mem_filterMap.mpr ⟨X.env, List.mem_cons_self, by rw [hf, z]⟩), fun hm => ?_⟩
      obtain ⟨e, he, q⟩ := List.mem_filterMap.mp hm
      exact nf (List.mem_filterMap.mpr ⟨e, List.mem_cons_of_mem _ he, q⟩)
    have J3 : Inv X pins σ' H' { s' with heap := h3 } := J.landed nb fl3.1 (up.trans up3) os ag
    -- the suite's state
    have land : ∀ {h4 : Heap}, HandSPX.FlyingZ B (X.env :: X.outer) a (Zg B H' cls d) h4 → Inv X pins σ' H' { s' with heap := h4 } → ∃ pn, (∀ q ∈ X.pn ++ pins, q ∈ pn) ∧ HotG (suiteX X a pn) ∧ Inv (suiteX X a pn) [] σ' H' { s' with heap := h4 } := by
      intro h4 fl4 J4
      obtain ⟨oe4, vs4, he4, hz4, hd4⟩ := fl4.there
      obtain ⟨v, cs, c1, c2, c3⟩ := hz4.2.2 vs4 hd4
      have hch : ChL ((a, oe4) :: cs) (.ref a) := ⟨rfl, vs4, v, hd4, c1, c2⟩
      have hall : ∀ q ∈ (a, oe4) :: cs, h4.get? q.1 = some q.2 ∧ H' q.1 = none := fun q hq => by
        rcases List.mem_cons.mp hq with rfl | hq
        · exact ⟨he4, na⟩
        · exact ⟨fl4.1 _ _ (c3 q hq).1, (c3 q hq).2⟩
      refine ⟨((a, oe4) :: cs) ++ (X.pn ++ pins), fun q hq => List.mem_append_right _ hq, ⟨(a, oe4), cs, rfl, hch, fun q hq => List.mem_append_left _ hq⟩, inv_suite J4 fun q hq => ?_⟩
      rcases List.mem_append.mp hq with hq | hq
      · obtain ⟨ws, hw⟩ := chl_fld hch q hq
        have P := offFr fl4.2.2.1 (hall q hq).1 hw
        exact ⟨(hall q hq).1, (hall q hq).2, P.1, P.2, fun v z => by rw [hw] at z; cases z⟩
      · exact J4.pin q hq
    obtain ⟨oe3, vs3, he3, hz3, hd3⟩ := fl3.there
    obtain ⟨pn3, _, _, S3⟩ := land fl3 J3
    have go : ∀ {hds' : List ExceptHandler} {l' : List (Value × (Addr → Value → Option Addr → TS))}, HdsOk X Wout hds' l' → wMany X.K Wout D l' cls d σ' H' →
        wpAny (model X.prog X.w) X.A (handleBy (.ref a) X.env hds') (SP X pins D) X.xe { s' with heap := h3 } := by
      intro hds' l' hk
      induction hk with
      | nil =>
        intro w
        refine wpAny_handleBy_nil ?_
        obtain ⟨k1, k2, k3, oe, vs, T, oT, ts', he, hz, hd, h1, hr⟩ := id fl3
        unfold PySem.passOn
        refine wpAny_bind (wpAny_field he hd h1 ?_)
        rw [if_neg (show ¬ ((Value.ref T == Value.none) = true) from by simp)]
        have fin : wpAny (model X.prog X.w) X.A (setFlight (.ref a) X.env.frame) (fun _ s4 => wpAny (model X.prog X.w) X.A (throw (.ref a) : Sem Flow) (SP X pins D) X.xe s4) X.xe { s' with heap := h3 } := by
          rw [hf]
          refine HandSPX.setFlight_upZ fl3 fun h4 hh4 up4 => wpAny_throw (tk _ _ ?_)
          exact ⟨a, B, sI, pins, σ', H', cls, d, rfl, J, nb, (up.trans up3).trans up4, .inr (.inr (by rw [hs]; exact hh4)), na, os, ag, w⟩
        first
          | exact wpAny_bind (wpAny_pure (wpAny_bind fin))
          | exact wpAny_bind fin
      | @cons x c ts b₀ suite np pos' hds2 l2 hc hsu r ih =>
        intro w
        obtain ⟨b, hb1, hyes, hno⟩ := w
        refine wpAny_handleBy_cons (codeAny_handlers_test ?_) (by intro q; cases q)
        have LT : PySem.W.Looks (model X.prog X.w) h3 (typeOf (.ref a)) cls := fun A Q E s k q => wpAny_typeOf_ref (k _ _ he3) (by rw [hz3.1]; exact q)
        have LM := PySem.W.exm_one (M := model X.prog X.w) (J3.kIn) LT hb1
        have test : ∀ {Q : Value → Shared → Prop} {E : Value → Shared → Prop}, Q c { s' with heap := h3 } → wpAny (model X.prog X.w) (X.A.mark (some (.ref a))) (eval (.Name x np) X.env) Q E { s' with heap := h3 } := fun {Q E} q => by
          obtain ⟨hg, hdbg, hm | ⟨hm, hv, hnn⟩⟩ := hc
          · exact ld_glob (X := suiteX X a pn3) S3 hg hm q hdbg
          · exact ld_blt (X := suiteX X a pn3) S3 hg hm hv q hnn hdbg
        refine test (LM.here ?_)
        cases b with
        | true =>
          refine codeAny_handlers_suite ?_
          refine HandSPX.lands_againZ fl3 fun h4 fl4 up4 => ?_
          obtain ⟨pn4, sub4, hot4, S4⟩ := land fl4 (J.landed nb fl4.1 ((up.trans up3).trans up4) os ag)
          have tk4 : Takes (suiteX X a pn4) Wout := fun u2 s2 ⟨a2, B2, sI2, pn2, σ2, H2, cls2, d2, e2, I2, r2⟩ => tk u2 s2 ⟨a2, B2, sI2, pins, σ2, H2, cls2, d2, e2, inv_unsuite ok sub4 I2, r2⟩
          refine wpAny_mono ((hsu a cls d pn4 hot4 tk4).run [] _ _ H' _ S4 (hyes rfl a na)) (fun f s6 hsp => ?_) (fun e6 s6 z => hpa (some (.ref a)) e6 s6 z)
          cases f with
          | next =>
            obtain ⟨σ6, H6, S6, q6⟩ := hsp
            exact ⟨_, _, inv_unsuite ok sub4 S6, q6⟩
          | brk =>
            obtain ⟨σ6, H6, S6, q6⟩ := hsp
            exact ⟨_, _, inv_unsuite ok sub4 S6, q6⟩
          | cont =>
            obtain ⟨σ6, H6, S6, q6⟩ := hsp
            exact ⟨_, _, inv_unsuite ok sub4 S6, q6⟩
          | ret u =>
            obtain ⟨v6, σ6, H6, S6, r6, q6⟩ := hsp
            exact ⟨_, _, _, inv_unsuite ok sub4 S6, r6, q6⟩
        | false =>
          show wpAny _ X.A (handleBy (.ref a) X.env hds2) _ _ _
          exact ih (hno rfl)
    exact go hh w
  · cases f with
    | next =>
      obtain ⟨σ', H', J', q⟩ := hsp
      exact wpAny_execs_nil ⟨σ', H', J'.ofTry ok, q⟩
    | brk =>
      obtain ⟨σ', H', J', q⟩ := hsp
      exact ⟨σ', H', J'.ofTry ok, q⟩
    | cont =>
      obtain ⟨σ', H', J', q⟩ := hsp
      exact ⟨σ', H', J'.ofTry ok, q⟩
    | ret u =>
      obtain ⟨v, σ', H', J', r, q⟩ := hsp
      exact ⟨v, σ', H', J'.ofTry ok, r, q⟩
end
end LG
namespace DL
open PySem L2
abbrev Takes (X : Cx) (W : WX) : Prop := LG.Takes X W
abbrev XE (X : Cx) (W : WX) (u : Value) (s' : Shared) : Prop := LG.XE X W u s'
theorem passAt {X : Cx} {W : WX} (tk : Takes X W) (σ : L2.St) : PassesAt (LG.CX X.prog X.w) X σ (WE W σ) := LG.passAt tk σ
end DL
set_option Elab.async false
set_option linter.all false
set_option maxRecDepth 100000
namespace DL
open PySem L2 PySem.Spec PyProof.Rows
abbrev Live (Z : List Addr) (H : Hp) : Prop := ∀ a ∈ Z, ∃ o, H a = some o ∧ NT o
/-- a def's promise: it comes to g of what its arguments are -/
def spD (G : Gm) (n : Nat) (g : List D → R D) : Sp := fun vs H Q E => vs.length = n ∧ ∃ dl Z ds, GlOk G dl H ∧ dl ∈ Z ∧ Live Z H ∧ RepL G dl (cut H Z) ds vs ∧
  Wp (g ds) (fun d => ∀ v H', Grow dl H H' → GlOk G dl H' → Rep G dl (cut H' Z) d v → Q v H')
    (fun e => ∀ cls dx H', Grow dl H H' → GlOk G dl H' → XRep G dl (cut H' Z) e cls dx H' → E cls dx H')
/-- an __init__'s promise: the instance at a is made to g of the arguments -/
def spI (G : Gm) (c n : Nat) (g : List D → R D) : Sp := fun vs H Q E => vs.length = n + 1 ∧ ∃ dl Z ds a dx us, vs = .ref a :: us ∧ H a = some (.ins (G.cls c) dx []) ∧ a ∉ Z ∧ GlOk G dl H ∧ dl ∈ Z ∧ Live Z H ∧ RepL G dl (cut H (a :: Z)) ds us ∧
  Wp (g ds) (fun d => ∀ H', (∀ b o, H b = some o → b ≠ dl → b ≠ a → (∀ ps, o ≠ .tbl ps) → H' b = some o) → GlOk G dl H' → Rep G dl (cut H' Z) d (.ref a) → Q .non H')
    (fun e => ∀ cls dx H', (∀ b o, H b = some o → b ≠ dl → b ≠ a → (∀ ps, o ≠ .tbl ps) → H' b = some o) → GlOk G dl H' → XRep G dl (cut H' Z) e cls dx H' → E cls dx H')
section
variable (P : Program) (w : World) (K : PySem.W.Frag) (mg : Str → Option Value) (base : Heap)
structure FnD (G : Gm) (k : Nat) (x : Str) (f : Addr) (n : Nat) (g : List D → R D) : Prop where
  ex : ∃ (fd : FuncData) (ps : List Str), ps.length = n ∧ FnOk P w K mg base (LG.CX P w) k f fd ps (spD G n g) ∧ Binds K fd ps []
  len : ∀ ds Q E, Wp (g ds) Q E → ds.length = n
  kp : PySem.W.keepIn K (.ref f) = true
  at_ : mg x = some (.ref f)
structure MeD (G : Gm) (k : Nat) (c : Nat) (m : Str) (n : Nat) (g : List D → R D) : Prop where
  ex : ∃ (f : Addr) (fd : FuncData) (ps : List Str), ps.length = n ∧ FnOk P w K mg base (LG.CX P w) k f fd ps (spD G n g) ∧ Binds K fd ps [] ∧ Meth K (G.cls c) m f
  len : ∀ ds Q E, Wp (g ds) Q E → ds.length = n
  cl : Cls K (G.cls c)
  nf : m ∉ G.flds c
structure MkD (G : Gm) (k : Nat) (c : Nat) (x : Str) (n : Nat) (g : List D → R D) : Prop where
  ex : ∃ (f : Addr) (fd : FuncData) (ps : List Str), ps.length = n + 1 ∧ FnOk P w K mg base (LG.CX P w) k f fd ps (spI G c n g) ∧ Binds K fd ps [] ∧ Mk K (G.cls c) f
  len : ∀ ds Q E, Wp (g ds) Q E → ds.length = n
  at_ : mg x = some (.ref (G.cls c))
end
section
variable {X : Cx} {G : Gm} {W : WX} {ex o : Expr} {es : List Expr} {f : LE → R D} {fs : LE → R (List D)} {g : List D → R D} {pos apos p : Pos} {x m : Str} {k n c : Nat} {fa : Addr}
theorem call_core (hl : ∀ ds Q E, Wp (g ds) Q E → ds.length = n) {sg : L2.St} {H : Hp} {Q : VK} (h : tD G W (fun r => fs r >>= g) sg H Q) : tCallS (spD G n g) (WE W) (tA G W fs) sg H Q := by
  obtain ⟨dl, Z, O, r, A, q⟩ := h
  refine ⟨dl, Z, O, r, A, q.bind.thn fun ds hd vs H1 g1 k1 rl => ?_⟩
  refine ⟨by rw [rl.length]; exact hl ds _ _ hd, dl, Z, ds, k1, A.dz, (A.grow g1 k1).live, rl, ?_⟩
  exact hd.mono (fun d q v H2 g2 k2 rp => q v H2 (g1.trans g2) k2 rp) fun e he cls dx H2 g2 k2 xr => he cls dx H2 (g1.trans g2) k2 xr
theorem de_call (F : FnD X.prog X.w X.K X.mg X.base G k x fa n g) (hr : Room k X.A) (tk : Takes X W) (ha : DA X G W (ex :: es) fs) (hg : Gl X x := by rfl)
    (hdb : (x == ("__debug__" : Str)) = false := by decide) (he : starEach (ex :: es) X.env = (false, eval ex X.env) :: starEach es X.env := by rfl) (hpl : (backTo pos (starEach es X.env)).any (·.1) = false := by rfl) :
    DE X G W (.Call (.Name x p) (ex :: es) [] pos) (fun r => fs r >>= g) := by
  obtain ⟨⟨fd, ps, hn, ok, hb⟩, hl, kp, hm⟩ := F
  exact PE_imp (pe_callS ok hr hg hm kp hb (fun sg => passAt tk sg) ha hdb he hpl) fun sg H Q h => call_core hl h
theorem lookup_none_zip {m : Str} : ∀ {ns : List Str} {vs : List V}, m ∉ ns → (ns.zip vs).lookup m = none
  | [], _, _ => by simp
  | _ :: _, [], _ => by simp
  | a :: ns, v :: vs, h => by
    rw [List.zip_cons_cons, List.lookup_cons]
    have : (m == a) = false := beq_eq_false_iff_ne.mpr fun e => h (e ▸ List.mem_cons_self)
    rw [this]
    exact lookup_none_zip fun z => h (List.mem_cons_of_mem _ z)
/-- the receiver is of the class c -/
def isC (c : Nat) : D → R D
  | .ins c' fs => if c' = c then .ok (.ins c fs) else .stuck
  | _ => .stuck
def tMethS (C : Addr) (m : Str) (sp : Sp) (E : L2.St → XK) (ta : TE) (t : TA) : TE := fun sg H Q => ta sg H fun x H1 => ∃ a dx fs, x = .ref a ∧ H1 a = some (.ins C dx fs) ∧ fs.lookup m = none ∧ t sg H1 fun vs H2 => sp (x :: vs) H2 Q (E sg)
section
variable {CX : CXT} {C fm : Addr} {fd : FuncData} {ps : List Str} {sp : Sp} {E : L2.St → XK} {ta : TE} {t : TA}
theorem pe_meth_s {pl : Sem Bool} (he : PE X o ta) (c : Cls X.K C) (hm : Meth X.K C m fm) (F : FnOk X.prog X.w X.K X.mg X.base CX k fm fd ps sp) (hr : Room k X.A) (hb : Binds X.K fd ps []) (hx : ∀ sg, PassesAt CX X sg (E sg)) (ha : PA X (ex :: es) t)
    (hst : starEach (ex :: es) X.env = (false, eval ex X.env) :: starEach es X.env) (hpl : (backTo pos (starEach es X.env)).any (·.1) = false)
    (ht : eval (.Call (.Attribute o m apos) (ex :: es) [] pos) X.env = (do
      let ov ← eval o X.env
      standAt apos.atName
      let (f, first) ← holding [ov] (getMethod ov m pl)
      callWith pos f first (backTo pos (starEach (ex :: es) X.env)) (backToKw pos (keywordEach [] X.env)))) :
    PE X (.Call (.Attribute o m apos) (ex :: es) [] pos) (tMethS C m sp E ta t) := by
  refine ⟨fun pins s sg H Q I h => PySem.W.methodCall_KW (pl := pl) (thn (he.run pins s sg H _ I h) fun u s1 ⟨x, H1, I1, rx, a, dx, fs, e1, ea, l, q⟩ => ?_) ht⟩
  subst e1
  obtain rfl : u = Value.ref a := rx
  refine getmeth_ok I1 ea c hm l (PySem.W.callWith_K (first := [.ref a]) (h₀ := X.base) I.ok.mod.kin hm.kp (thn (ha.run pos pins s1 sg H1 _ I1 q) fun us s2 ⟨vs, H2, I2, r, q2⟩ => ⟨I2.kIn, ?_⟩) hst hpl)
  exact run_fnS (us := .ref a :: us) (vs := .ref a :: vs) F hr hb (hx sg) I2 (.cons rfl r) q2
theorem pe_meth0_s {pl : Sem Bool} (he : PE X o ta) (c : Cls X.K C) (hm : Meth X.K C m fm) (F : FnOk X.prog X.w X.K X.mg X.base CX k fm fd ps sp) (hr : Room k X.A) (hb : Binds X.K fd ps []) (hx : ∀ sg, PassesAt CX X sg (E sg))
    (ht : eval (.Call (.Attribute o m apos) [] [] pos) X.env = (do
      let ov ← eval o X.env
      standAt apos.atName
      let (f, first) ← holding [ov] (getMethod ov m pl)
      callWith pos f first (backTo pos (starEach [] X.env)) (backToKw pos (keywordEach [] X.env)))) :
    PE X (.Call (.Attribute o m apos) [] [] pos) (tMethS C m sp E ta tNil) := by
  refine ⟨fun pins s sg H Q I h => PySem.W.methodCall_KW (pl := pl) (thn (he.run pins s sg H _ I h) fun u s1 ⟨x, H1, I1, rx, a, dx, fs, e1, ea, l, q⟩ => ?_) ht⟩
  subst e1
  obtain rfl : u = Value.ref a := rx
  exact getmeth_ok I1 ea c hm l (PySem.W.callWith_K0 (first := [.ref a]) I1.kIn hm.kp (run_fnS (us := [.ref a]) (vs := [.ref a]) F hr hb (hx sg) I1 (.cons rfl .nil) q))
/-- C(..), what is raised wished at the slots -/
def tMakeS (C : Addr) (sp : Sp) (E : L2.St → XK) (t : TA) : TE := fun sg H Q => t sg H fun vs H1 => ∀ x dx, H1 x = none → H1 dx = none → dx ≠ x →
  sp (.ref x :: vs) (upd (upd H1 dx (.own x)) x (.ins C dx [])) (fun v H2 => v = .non ∧ Q (.ref x) H2) (E sg)
theorem run_make_s {pins : List (Addr × Obj)} {sg : L2.St} {H : Hp} {s : Shared} {Q : VK} {us : List Value} {vs : List V} (M : Mk X.K C fm) (F : FnOk X.prog X.w X.K X.mg X.base CX k fm fd ps sp) (hr : Room (k + 1) X.A) (hb : Binds X.K fd ps [])
    (hx : PassesAt CX X sg (E sg)) (I : Inv X pins sg H s) (r : Vals vs us)
    (h : ∀ x dx, H x = none → H dx = none → dx ≠ x → sp (.ref x :: vs) (upd (upd H dx (.own x)) x (.ins C dx [])) (fun v H2 => v = .non ∧ Q (.ref x) H2) (E sg)) :
    wpAny (model X.prog X.w) X.A (call (.ref C) us) (EP X pins sg Q) X.xe s := by
  have hq := h (s.heap.objs.size + 1) s.heap.objs.size (I.hok.fresh (Nat.le_succ _)) (I.hok.fresh (Nat.le_refl _)) (Nat.ne_of_lt (Nat.lt_succ_self _))
  have I2 := Inv.made (C := C) I
  have r2 : Vals (V.ref (s.heap.objs.size + 1) :: vs) (Value.ref (s.heap.objs.size + 1) :: us) := .cons rfl r
  have hl : (Value.ref (s.heap.objs.size + 1) :: us).length = ps.length := by
    rw [← r2.length]; exact F.len _ _ _ _ hq
  have bd := hb _ (Value.ref (s.heap.objs.size + 1) :: us) I2.kIn (by rw [List.append_nil]; exact hl)
  rw [List.append_nil] at bd
  refine wpAny_call (make_map (f := fm) I.kIn M.makes M.init (beq_iff_eq.mp M.fn) (codeAny_mono (F.run _ X.stack _ _ ⟨Value.ref (s.heap.objs.size + 1) :: us, []⟩ _ _ _ (E sg) (hr.make C us []) (I2.env0.make C us []) bd r2 hq) fun r s' hq' => ?_))
  cases r with
  | error e => exact hx pins _ _ e s' I2 hq'
  | ok fl =>
    cases fl with
    | ret u =>
      obtain ⟨v, H', I3, rv, ev, q3⟩ := I2.after hq'
      subst ev
      exact ⟨rv, ⟨V.ref (s.heap.objs.size + 1), H', I3, rfl, q3⟩⟩
    | next => exact hq'.elim
    | brk => exact hq'.elim
    | cont => exact hq'.elim
theorem pe_make_s (M : Mk X.K C fm) (F : FnOk X.prog X.w X.K X.mg X.base CX k fm fd ps sp) (hr : Room (k + 1) X.A) (hg : Gl X x) (hm : X.mg x = some (.ref C)) (hb : Binds X.K fd ps []) (hx : ∀ sg, PassesAt CX X sg (E sg))
    (ha : PA X (ex :: es) t) (hdb : (x == ("__debug__" : Str)) = false) (he : starEach (ex :: es) X.env = (false, eval ex X.env) :: starEach es X.env) (hpl : (backTo pos (starEach es X.env)).any (·.1) = false) :
    PE X (.Call (.Name x p) (ex :: es) [] pos) (tMakeS C sp E t) :=
  ⟨fun pins s sg H Q I h => wpAny_Call_Name_kw (ld_glob I hg hm (PySem.W.callWith_K (h₀ := X.base) I.ok.mod.kin M.kp (thn (ha.run pos pins s sg H _ I h) fun us s1 ⟨vs, H1, I1, r, q⟩ => ⟨I1.kIn, run_make_s M F hr hb (hx sg) I1 r q⟩) he hpl) hdb)⟩
end
theorem isC_wp {d : D} {Q : D → Prop} {E : Exc → Prop} (h : Wp (isC c d) Q E) : ∃ fs, d = .ins c fs ∧ Q d := by
  unfold isC at h
  split at h
  · split at h
    · rename_i e
      subst e
      exact ⟨_, rfl, h⟩
    · exact h.elim
  · exact h.elim
theorem meth_core (nf : m ∉ G.flds c) (hl : ∀ ds Q E, Wp (g ds) Q E → ds.length = n) {sg : L2.St} {H : Hp} {Q : VK} (h : tD G W (fun r => do let x ← f r; let x ← isC c x; let ds ← fs r; g (x :: ds)) sg H Q) :
    tMethS (G.cls c) m (spD G n g) (WE W) (tD G W f) (tA G W fs) sg H Q := by
  obtain ⟨dl, Z, O, r, A, q⟩ := h
  refine ⟨dl, Z, O, r, A, q.bind.thn fun d hd v H1 g1 k1 rp => ?_⟩
  obtain ⟨fs', rfl, hd⟩ := isC_wp hd.bind
  have A1 := A.grow g1 k1
  have rp2 := rp
  unfold Rep at rp2
  obtain ⟨a, dx, vs, rfl, e, hlen, rl⟩ := rp2
  refine ⟨a, dx, _, rfl, (cut_some e).2, lookup_none_zip nf, dl, Z, O, r, A1, hd.bind.mono (fun ds hds us H2 g2 k2 ru => ?_) fun e => epost g1⟩
  have rl2 := RepL.cons (rp.mono (g2.cut A.dz)) ru
  refine ⟨by rw [rl2.length]; exact hl _ _ _ hds, dl, Z, _, k2, A.dz, (A1.grow g2 k2).live, rl2, ?_⟩
  exact hds.mono (fun d q v H3 g3 k3 rp => q v H3 ((g1.trans g2).trans g3) k3 rp) fun e he cls dx H3 g3 k3 xr => he cls dx H3 ((g1.trans g2).trans g3) k3 xr
theorem de_meth {pl : Sem Bool} (M : MeD X.prog X.w X.K X.mg X.base G k c m n g) (hr : Room k X.A) (tk : Takes X W) (ho : DE X G W o f) (ha : DA X G W (ex :: es) fs)
    (hst : starEach (ex :: es) X.env = (false, eval ex X.env) :: starEach es X.env := by rfl) (hpl : (backTo pos (starEach es X.env)).any (·.1) = false := by rfl)
    (ht : eval (.Call (.Attribute o m apos) (ex :: es) [] pos) X.env = (do
      let ov ← eval o X.env
      standAt apos.atName
      let (f, first) ← holding [ov] (getMethod ov m pl)
      callWith pos f first (backTo pos (starEach (ex :: es) X.env)) (backToKw pos (keywordEach [] X.env))) := by rfl) :
    DE X G W (.Call (.Attribute o m apos) (ex :: es) [] pos) (fun r => do let x ← f r; let x ← isC c x; let ds ← fs r; g (x :: ds)) := by
  obtain ⟨⟨fa, fd, ps, hn, ok, hb, mt⟩, hl, cl, nf⟩ := M
  exact PE_imp (pe_meth_s ho cl mt ok hr hb (fun sg => passAt tk sg) ha hst hpl ht) fun sg H Q h => meth_core nf hl h
theorem de_meth0 {pl : Sem Bool} (M : MeD X.prog X.w X.K X.mg X.base G k c m n g) (hr : Room k X.A) (tk : Takes X W) (ho : DE X G W o f)
    (ht : eval (.Call (.Attribute o m apos) [] [] pos) X.env = (do
      let ov ← eval o X.env
      standAt apos.atName
      let (f, first) ← holding [ov] (getMethod ov m pl)
      callWith pos f first (backTo pos (starEach [] X.env)) (backToKw pos (keywordEach [] X.env))) := by rfl) :
    DE X G W (.Call (.Attribute o m apos) [] [] pos) (fun r => do let x ← f r; let x ← isC c x; g [x]) := by
  obtain ⟨⟨fa, fd, ps, hn, ok, hb, mt⟩, hl, cl, nf⟩ := M
  refine PE_imp (pe_meth0_s ho cl mt ok hr hb (fun sg => passAt tk sg) ht) fun sg H Q ⟨dl, Z, O, r, A, q⟩ => ?_
  refine ⟨dl, Z, O, r, A, q.bind.thn fun d hd v H1 g1 k1 rp => ?_⟩
  obtain ⟨fs', rfl, hd⟩ := isC_wp hd.bind
  have rp2 := rp
  unfold Rep at rp2
  obtain ⟨a, dx, vs, rfl, e, hlen, rl⟩ := rp2
  refine ⟨a, dx, _, rfl, (cut_some e).2, lookup_none_zip nf, ?_⟩
  have rl2 := RepL.cons rp RepL.nil
  refine ⟨by rw [rl2.length]; exact hl _ _ _ hd, dl, Z, _, k1, A.dz, (A.grow g1 k1).live, rl2, ?_⟩
  exact hd.mono (fun d q v H3 g3 k3 rp => q v H3 (g1.trans g3) k3 rp) fun e he cls dx H3 g3 k3 xr => he cls dx H3 (g1.trans g3) k3 xr
theorem de_make (M : MkD X.prog X.w X.K X.mg X.base G k c x n g) (hr : Room (k + 1) X.A) (tk : Takes X W) (ha : DA X G W (ex :: es) fs) (hg : Gl X x := by rfl)
    (hdb : (x == ("__debug__" : Str)) = false := by decide) (he : starEach (ex :: es) X.env = (false, eval ex X.env) :: starEach es X.env := by rfl) (hpl : (backTo pos (starEach es X.env)).any (·.1) = false := by rfl) :
    DE X G W (.Call (.Name x p) (ex :: es) [] pos) (fun r => fs r >>= g) := by
  obtain ⟨⟨fa, fd, ps, hn, ok, hb, mk⟩, hl, hm⟩ := M
  refine PE_imp (pe_make_s mk ok hr hg hm hb (fun sg => passAt tk sg) ha hdb he hpl) fun sg H Q ⟨dl, Z, O, r, A, q⟩ => ?_
  refine ⟨dl, Z, O, r, A, q.bind.thn fun ds hd vs H1 g1 k1 rl a dx na nd nad => ?_⟩
  have A1 := A.grow g1 k1
  have same : ∀ b o, H1 b = some o → (upd (upd H1 dx (.own a)) a (.ins (G.cls c) dx [])) b = some o := fun b o e => by
    rw [upd_ne (ne_of_none e na), upd_ne (ne_of_none e nd)]; exact e
  have k2 : GlOk G dl (upd (upd H1 dx (.own a)) a (.ins (G.cls c) dx [])) := k1.same same
  have hcut : GrowS (cut H1 Z) (cut (upd (upd H1 dx (.own a)) a (.ins (G.cls c) dx [])) (a :: Z)) := fun b o e n => by
    obtain ⟨e1, e2⟩ := cut_some e
    have hb : b ∉ a :: Z := fun z => by
      rcases List.mem_cons.mp z with z | z
      · exact ne_of_none e2 na z
      · exact e1 z
    rw [cut_out hb]
    exact same b o e2
  refine ⟨by rw [List.length_cons, rl.length]; exact congrArg (· + 1) (hl ds _ _ hd), dl, Z, ds, a, dx, vs, rfl, upd_same, A1.out na, k2, A.dz, fun b hb => ?_, rl.mono hcut, ?_⟩
  · obtain ⟨o, e, nt⟩ := A1.live b hb
    exact ⟨o, same b o e, nt⟩
  · have fr : ∀ H2 : Hp, (∀ b o, (upd (upd H1 dx (.own a)) a (.ins (G.cls c) dx [])) b = some o → b ≠ dl → b ≠ a → (∀ ps, o ≠ .tbl ps) → H2 b = some o) → Grow dl H1 H2 := fun H2 h b o e n nt => h b o (same b o e) n (ne_of_none e na) nt
    exact hd.mono (fun d q H2 h2 k3 rp => ⟨rfl, q _ H2 (g1.trans (fr H2 h2)) k3 rp⟩) fun e he cls dx' H2 h2 k3 xr => he cls dx' H2 (g1.trans (fr H2 h2)) k3 xr
end
end DL
set_option Elab.async false
set_option linter.all false
set_option maxRecDepth 100000
namespace DL
open PySem L2 PySem.Spec PyProof.Rows
/-- an expression's result in a statement: what is raised ends it -/
def R.onS {α : Type} : R α → LE → (α → R Out) → R Out
  | .ok a, _, k => k a
  | .err e, r, _ => .ok (.ex e r)
  | .stuck, _, _ => .stuck
  | .roll m f, r, k => .roll m fun i => (f i).onS r k
section
variable {α : Type}
@[simp] theorem onS_ok (a : α) (r : LE) (k : α → R Out) : (R.ok a).onS r k = k a := rfl
@[simp] theorem onS_err (e : Exc) (r : LE) (k : α → R Out) : (R.err e : R α).onS r k = .ok (.ex e r) := rfl
@[simp] theorem onS_stuck (r : LE) (k : α → R Out) : (R.stuck : R α).onS r k = .stuck := rfl
@[simp] theorem onS_roll (m : Nat) (f : Nat → R α) (r : LE) (k : α → R Out) : (R.roll m f).onS r k = .roll m fun i => (f i).onS r k := rfl
theorem onS_wp {Q : Out → Prop} {E : Exc → Prop} {r : LE} {k : α → R Out} : ∀ {m : R α}, Wp (m.onS r k) Q E → Wp m (fun a => Wp (k a) Q E) (fun e => Q (.ex e r))
  | .ok _, h => h
  | .err _, h => h
  | .stuck, h => h
  | .roll _ _, h => fun i hi => onS_wp (h i hi)
end
def skipS : LE → R Out := fun r => .ok (.nx r)
def seqS (F K : LE → R Out) : LE → R Out := fun r => do
  match ← F r with
  | .nx r' => K r'
  | o => .ok o
def retS (f : LE → R D) : LE → R Out := fun r => (f r).onS r fun d => .ok (.rt d)
def dropS (f : LE → R D) : LE → R Out := fun r => (f r).onS r fun _ => .ok (.nx r)
def ifS (c : LE → R Bool) (F K : LE → R Out) : LE → R Out := fun r => (c r).onS r fun b => if b then F r else K r
def frz (i : Nat) (r : LE) : LE := match r[i]? with
  | some (.own (.lst ds)) => r.set i (.val (.lst ds))
  | some (.own (.dic ds)) => r.set i (.val (.dic ds))
  | some (.own (.tdic ds)) => r.set i (.val (.tdic ds))
  | _ => r
section
variable {G : Gm} {dl : Addr} {Z : List Addr} {O : List (Nat × Addr)} {r : LE} {sg : L2.St} {H H1 : Hp} {W : WX} {d : D} {v : V} {De : Ends}
/-- an expression's error, in a statement -/
theorem spost_ex (A : At G dl Z O r sg H) {e : Exc} (h : SPost G W De dl Z O H (.ex e r)) : ∀ cls dx H', Grow dl H H' → GlOk G dl H' → XRep G dl (cut H' Z) e cls dx H' → W cls dx sg H' :=
  fun cls dx H' g k x => h Z O sg H' cls dx (Stp.of_grow g k) (A.grow g k) x
theorem set_get {α : Type} {l : List α} {i j : Nat} {a b : α} (h : (l.set i a)[j]? = some b) : (j = i ∧ b = a ∧ i < l.length) ∨ (j ≠ i ∧ l[j]? = some b) := by
  by_cases e : i = j
  · subst e
    by_cases q : i < l.length
    · rw [List.getElem?_set_self q] at h
      exact .inl ⟨rfl, (Option.some.inj h).symm, q⟩
    · rw [List.getElem?_eq_none (by simpa using q)] at h; cases h
  · rw [List.getElem?_set_ne e] at h
    exact .inr ⟨fun z => e z.symm, h⟩
theorem At.set_val (A : At G dl Z O r sg H) (i : Nat) (rp : Rep G dl (cut H Z) d v) : At G dl Z O (r.set i (.val d)) (sg.set i (some v)) H := by
  refine ⟨A.gl, A.dz, A.live, A.own, A.inj, by rw [List.length_set, List.length_set, A.len], fun j c e => ?_⟩
  rcases set_get e with ⟨rfl, rfl, hl⟩ | ⟨hn, e2⟩
  · exact ⟨v, List.getElem?_set_self (by rw [← A.len]; exact hl), rp⟩
  · rw [List.getElem?_set_ne (fun z => hn z.symm)]
    exact A.slot j c e2
theorem At.set_un (A : At G dl Z O r sg H) (i : Nat) (x : Option V) : At G dl Z O (r.set i .un) (sg.set i x) H := by
  refine ⟨A.gl, A.dz, A.live, A.own, A.inj, by rw [List.length_set, List.length_set, A.len], fun j c e => ?_⟩
  rcases set_get e with ⟨rfl, rfl, hl⟩ | ⟨hn, e2⟩
  · trivial
  · rw [List.getElem?_set_ne (fun z => hn z.symm)]
    exact A.slot j c e2
theorem cut_new {p : Addr} {o : HO} (h : H p = none) : GrowS (cut H Z) (cut (upd H p o) (p :: Z)) := fun b u e n => by
  obtain ⟨e1, e2⟩ := cut_some e
  have hb : b ≠ p := ne_of_none e2 h
  rw [cut_out (by simp only [List.mem_cons, not_or]; exact ⟨hb, e1⟩), upd_ne hb]
  exact e2
theorem At.set_own (A : At G dl Z O r sg H) (i : Nat) {p : Addr} {o : HO} (hp : H p = none) (ow : OwnAt G dl (cut H Z) d (some o)) (hk : kee i d = i ∧ keeOk i d) : At G dl (p :: Z) ((i, p) :: O) (r.set i (.own d)) (sg.set i (some (.ref p))) (upd H p o) := by
  obtain ⟨u, hu, nt⟩ := ow.notTbl
  cases hu
  refine ⟨A.gl.new hp, List.mem_cons_of_mem _ A.dz, fun a ha => ?_, fun q hq => ?_, fun q hq q' hq' e => ?_, by rw [List.length_set, List.length_set, A.len], fun j c e => ?_⟩
  · rcases List.mem_cons.mp ha with rfl | ha
    · exact ⟨o, upd_same, nt⟩
    · obtain ⟨u, e, n⟩ := A.live a ha
      exact ⟨u, by rw [upd_ne (ne_of_none e hp)]; exact e, n⟩
  · rcases List.mem_cons.mp hq with rfl | hq
    · exact ⟨List.mem_cons_self, A.notdl hp⟩
    · exact ⟨List.mem_cons_of_mem _ (A.own q hq).1, (A.own q hq).2⟩
  · have no : ∀ q ∈ O, q.2 ≠ p := fun q hq z => A.out hp (z ▸ (A.own q hq).1)
    rcases List.mem_cons.mp hq with rfl | hq
    · rcases List.mem_cons.mp hq' with rfl | hq'
      · rfl
      · exact (no _ hq' e.symm).elim
    · rcases List.mem_cons.mp hq' with rfl | hq'
      · exact (no _ hq e).elim
      · exact A.inj q hq q' hq' e
  · rcases set_get e with ⟨rfl, rfl, hl⟩ | ⟨hn, e2⟩
    · refine ⟨p, by rw [hk.1]; exact List.mem_cons_self, List.getElem?_set_self (by rw [← A.len]; exact hl), ?_, hk.2⟩
      rw [upd_same]
      exact ow.mono (cut_new hp)
    · rw [List.getElem?_set_ne (fun z => hn z.symm)]
      have := A.slot j c e2
      cases c with
      | un => trivial
      | val d =>
        obtain ⟨v, e, q⟩ := this
        exact ⟨v, e, q.mono (cut_new hp)⟩
      | own d =>
        obtain ⟨a, ha, e, q, ko⟩ := this
        refine ⟨a, List.mem_cons_of_mem _ ha, e, ?_, ko⟩
        have hap : a ≠ p := fun z => A.out hp (by rw [← z]; exact (A.own _ ha).1)
        rw [upd_ne hap]
        exact q.mono (cut_new hp)
theorem Stp.new {p : Addr} {o : HO} {i : Nat} (A : At G dl Z O r sg H) (hp : H p = none) (hi : i ≠ 1000000) : Stp dl Z O H (p :: Z) ((i, p) :: O) (upd H p o) :=
  ⟨fun a u e _ _ _ => by rw [upd_ne (ne_of_none e hp)]; exact e, fun q hq => by
    rcases List.mem_cons.mp hq with rfl | hq
    · exact .inr (Free.of hp)
    · exact .inl ⟨q, hq, rfl⟩, fun a ha _ => List.mem_cons_of_mem _ ha, fun a ha => (List.mem_cons.mp ha).elim (fun e => .inr (by rw [e]; exact Free.of hp)) .inl, fun a ha => (List.mem_cons.mp ha).elim (fun e => (hi (congrArg Prod.fst e).symm).elim) id, fun a f u e => f u (by rw [upd_ne (ne_of_none e hp)]; exact e)⟩
/-- an owned thing is written -/
theorem At.write {d' : D} {o : HO} {i : Nat} {a : Addr} (A : At G dl Z O r sg H) (hi : r[i]? = some (.own d)) (ha : (kee i d, a) ∈ O) (hs : sg[i]? = some (some (.ref a))) (ow : OwnAt G dl (cut H Z) d' (some o)) (hk : kee i d' = kee i d) (ko' : keeOk i d') : At G dl Z O (r.set i (.own d')) sg (upd H a o) := by
  obtain ⟨u, hu, nt⟩ := ow.notTbl
  cases hu
  obtain ⟨haz, had⟩ := A.own _ ha
  obtain ⟨o0, ho0, nt0⟩ := A.live a haz
  have gcut : GrowS (cut H Z) (cut (upd H a o) Z) := fun b u e n => by
    obtain ⟨e1, e2⟩ := cut_some e
    have hba : b ≠ a := fun z => e1 (by rw [z]; exact haz)
    rw [cut_out e1, upd_ne hba]
    exact e2
  obtain ⟨x, y, z, hd⟩ := A.gl.dice
  have ho0x : isX o0 = false := by
    obtain ⟨a', ha', hs', q, _⟩ := A.slot i _ hi
    have ea : a' = a := by rw [hs] at hs'; cases hs'; rfl
    subst ea
    rw [ho0] at q
    unfold OwnAt at q
    split at q
    · obtain ⟨_, z, _⟩ := q; cases z; rfl
    · obtain ⟨_, z, _⟩ := q; cases z; rfl
    · obtain ⟨_, _, z, _⟩ := q; cases z; rfl
    · obtain ⟨_, z, _⟩ := q; cases z; rfl
    · exact q.elim
  refine ⟨⟨⟨x, y, z, by rw [upd_ne (fun e => had e.symm)]; exact hd⟩, A.gl.tab.upd ho0 ho0x⟩, A.dz, fun b hb => ?_, A.own, A.inj, by rw [List.length_set, A.len], fun j c e => ?_⟩
  · by_cases e : b = a
    · rw [e]; exact ⟨o, upd_same, nt⟩
    · obtain ⟨u, h1, h2⟩ := A.live b hb
      exact ⟨u, by rw [upd_ne e]; exact h1, h2⟩
  · rcases set_get e with ⟨rfl, rfl, hl⟩ | ⟨hn, e2⟩
    · exact ⟨a, by rw [hk]; exact ha, hs, by rw [upd_same]; exact ow.mono gcut, ko'⟩
    · have := A.slot j c e2
      cases c with
      | un => trivial
      | val d =>
        obtain ⟨v, e, q⟩ := this
        exact ⟨v, e, q.mono gcut⟩
      | own d =>
        obtain ⟨b, hb, e, q, ko⟩ := this
        refine ⟨b, hb, e, ?_, ko⟩
        obtain ⟨_, _, _, _, koi⟩ := A.slot i _ hi
        have hba : b ≠ a := fun z => hn (kee_inj ko koi (congrArg Prod.fst (A.inj _ hb _ ha z)))
        rw [upd_ne hba]
        exact q.mono gcut
theorem Stp.write {o : HO} {k : Nat} {a : Addr} (ha : (k, a) ∈ O) (nt : ∀ ps, o ≠ .tbl ps) : Stp dl Z O H Z O (upd H a o) :=
  ⟨fun b u e _ m _ => by rw [upd_ne fun z => m _ ha z.symm]; exact e, fun q hq => .inl ⟨q, hq, rfl⟩, fun _ h _ => h, fun _ h => .inl h, fun _ h => h, fun b f u e => by
    by_cases z : b = a
    · obtain ⟨ps, e2⟩ := f o (by rw [z, upd_same])
      exact (nt ps e2).elim
    · exact f u (by rw [upd_ne z]; exact e)⟩
/-- a dict -/
def isDct : HO → Prop
  | .dK _ => True
  | .dT _ => True
  | _ => False
/-- an owned thing is let go: from now on read alone; a dict is locked then -/
theorem At.freeze {i : Nat} (A : At G dl Z O r sg H) : (∃ Z' O', At G dl Z' O' (frz i r) sg H ∧ Stp dl Z O H Z' O' H) ∨
    ∃ a u, H a = some u ∧ isDct u ∧ ∀ od, ∃ Z' O', At G dl Z' O' (frz i r) sg (upd H a (.frz od u)) ∧ Stp dl Z O H Z' O' (upd H a (.frz od u)) := by
  have stpF : ∀ (a : Addr) (k : Nat) (H2 : Hp), (k, a) ∈ O → Stp dl Z O H2 (Z.filter (· ≠ a)) (O.filter (·.2 ≠ a)) H2 := fun a k H2 ha =>
    ⟨fun _ _ h _ _ _ => h, fun q hq => .inl ⟨q, (List.mem_filter.mp hq).1, rfl⟩, fun b hb m => List.mem_filter.mpr ⟨hb, by simpa using fun e : b = a => m _ ha e.symm⟩, fun b hb => .inl (List.mem_filter.mp hb).1, fun b hb => (List.mem_filter.mp hb).1, fun _ h => h⟩
  unfold frz
  split
  · rename_i ds hi
    left
    obtain ⟨a, ha, hs, ow, koi⟩ := A.slot i _ hi
    obtain ⟨haz, had⟩ := A.own _ ha
    have hsub : GrowS (cut H Z) (cut H (Z.filter (· ≠ a))) := cut_sub fun b hb => (List.mem_filter.mp hb).1
    have hout : cut H (Z.filter (· ≠ a)) a = H a := cut_out fun hb => by simp at hb
    refine ⟨Z.filter (· ≠ a), O.filter (·.2 ≠ a), ⟨A.gl, List.mem_filter.mpr ⟨A.dz, by simpa using fun e : dl = a => had e.symm⟩, fun b hb => A.live b (List.mem_filter.mp hb).1, fun q hq => ?_, fun q hq q' hq' => A.inj q (List.mem_filter.mp hq).1 q' (List.mem_filter.mp hq').1, by rw [List.length_set, A.len], fun j c e => ?_⟩, stpF a _ H ha⟩
    · obtain ⟨h1, h2⟩ := List.mem_filter.mp hq
      exact ⟨List.mem_filter.mpr ⟨(A.own q h1).1, h2⟩, (A.own q h1).2⟩
    · rcases set_get e with ⟨rfl, rfl, hl⟩ | ⟨hn, e2⟩
      · obtain ⟨vs, e, rl⟩ := ow
        refine ⟨.ref a, hs, ?_⟩
        unfold Rep
        exact ⟨a, vs, rfl, by rw [hout]; exact e, rl.mono hsub⟩
      · have := A.slot j c e2
        cases c with
        | un => trivial
        | val d =>
          obtain ⟨v, e, q⟩ := this
          exact ⟨v, e, q.mono hsub⟩
        | own d =>
          obtain ⟨b, hb, e, q, ko⟩ := this
          refine ⟨b, List.mem_filter.mpr ⟨hb, ?_⟩, e, q.mono hsub, ko⟩
          simpa using fun z : b = a => hn (kee_inj ko koi (congrArg Prod.fst (A.inj _ hb _ ha z)))
  · rename_i ds hi
    right
    obtain ⟨a, ha, hs, ow, koi⟩ := A.slot i _ hi
    obtain ⟨haz, had⟩ := A.own _ ha
    obtain ⟨kv, e0, rl⟩ := ow
    refine ⟨a, .dK kv, e0, trivial, fun od => ?_⟩
    have hsub : GrowS (cut H Z) (cut (upd H a (.frz od (.dK kv))) (Z.filter (· ≠ a))) := fun b u e n => by
      obtain ⟨e1, e2⟩ := cut_some e
      have hba : b ≠ a := fun z => e1 (by rw [z]; exact haz)
      rw [cut_out fun hb => e1 (List.mem_filter.mp hb).1, upd_ne hba]
      exact e2
    have hout : cut (upd H a (.frz od (.dK kv))) (Z.filter (· ≠ a)) a = some (.frz od (.dK kv)) := by
      rw [cut_out fun hb => by simp at hb, upd_same]
    obtain ⟨x, y, z, hd⟩ := A.gl.dice
    refine ⟨Z.filter (· ≠ a), O.filter (·.2 ≠ a), ⟨⟨⟨x, y, z, by rw [upd_ne (fun e => had e.symm)]; exact hd⟩, A.gl.tab.upd e0 rfl⟩, List.mem_filter.mpr ⟨A.dz, by simpa using fun e : dl = a => had e.symm⟩, fun b hb => ?_, fun q hq => ?_, fun q hq q' hq' => A.inj q (List.mem_filter.mp hq).1 q' (List.mem_filter.mp hq').1, by rw [List.length_set, A.len], fun j c e => ?_⟩,
      Stp.trans A (Stp.write (o := .frz od (.dK kv)) ha fun ps z => by cases z) (stpF a _ _ ha)⟩
    · obtain ⟨h1, h2⟩ := List.mem_filter.mp hb
      obtain ⟨u, h3, h4⟩ := A.live b h1
      exact ⟨u, by rw [upd_ne (by simpa using h2)]; exact h3, h4⟩
    · obtain ⟨h1, h2⟩ := List.mem_filter.mp hq
      exact ⟨List.mem_filter.mpr ⟨(A.own q h1).1, h2⟩, (A.own q h1).2⟩
    · rcases set_get e with ⟨rfl, rfl, hl⟩ | ⟨hn, e2⟩
      · refine ⟨.ref a, hs, ?_⟩
        unfold Rep
        exact ⟨a, od, kv, rfl, hout, rl.mono hsub⟩
      · have := A.slot j c e2
        cases c with
        | un => trivial
        | val d =>
          obtain ⟨v, e, q⟩ := this
          exact ⟨v, e, q.mono hsub⟩
        | own d =>
          obtain ⟨b, hb, e, q, ko⟩ := this
          have hba : b ≠ a := fun z => hn (kee_inj ko koi (congrArg Prod.fst (A.inj _ hb _ ha z)))
          refine ⟨b, List.mem_filter.mpr ⟨hb, by simpa using hba⟩, e, ?_, ko⟩
          rw [upd_ne hba]
          exact q.mono hsub
  · rename_i ds hi
    right
    obtain ⟨a, ha, hs, ow, koi⟩ := A.slot i _ hi
    obtain ⟨haz, had⟩ := A.own _ ha
    obtain ⟨kv, e0, rl⟩ := ow
    refine ⟨a, .dT kv, e0, trivial, fun od => ?_⟩
    have hsub : GrowS (cut H Z) (cut (upd H a (.frz od (.dT kv))) (Z.filter (· ≠ a))) := fun b u e n => by
      obtain ⟨e1, e2⟩ := cut_some e
      have hba : b ≠ a := fun z => e1 (by rw [z]; exact haz)
      rw [cut_out fun hb => e1 (List.mem_filter.mp hb).1, upd_ne hba]
      exact e2
    have hout : cut (upd H a (.frz od (.dT kv))) (Z.filter (· ≠ a)) a = some (.frz od (.dT kv)) := by
      rw [cut_out fun hb => by simp at hb, upd_same]
    obtain ⟨x, y, z, hd⟩ := A.gl.dice
    refine ⟨Z.filter (· ≠ a), O.filter (·.2 ≠ a), ⟨⟨⟨x, y, z, by rw [upd_ne (fun e => had e.symm)]; exact hd⟩, A.gl.tab.upd e0 rfl⟩, List.mem_filter.mpr ⟨A.dz, by simpa using fun e : dl = a => had e.symm⟩, fun b hb => ?_, fun q hq => ?_, fun q hq q' hq' => A.inj q (List.mem_filter.mp hq).1 q' (List.mem_filter.mp hq').1, by rw [List.length_set, A.len], fun j c e => ?_⟩,
      Stp.trans A (Stp.write (o := .frz od (.dT kv)) ha fun ps z => by cases z) (stpF a _ _ ha)⟩
    · obtain ⟨h1, h2⟩ := List.mem_filter.mp hb
      obtain ⟨u, h3, h4⟩ := A.live b h1
      exact ⟨u, by rw [upd_ne (by simpa using h2)]; exact h3, h4⟩
    · obtain ⟨h1, h2⟩ := List.mem_filter.mp hq
      exact ⟨List.mem_filter.mpr ⟨(A.own q h1).1, h2⟩, (A.own q h1).2⟩
    · rcases set_get e with ⟨rfl, rfl, hl⟩ | ⟨hn, e2⟩
      · refine ⟨.ref a, hs, ?_⟩
        unfold Rep
        exact ⟨a, od, kv, rfl, hout, rl.mono hsub⟩
      · have := A.slot j c e2
        cases c with
        | un => trivial
        | val d =>
          obtain ⟨v, e, q⟩ := this
          exact ⟨v, e, q.mono hsub⟩
        | own d =>
          obtain ⟨b, hb, e, q, ko⟩ := this
          have hba : b ≠ a := fun z => hn (kee_inj ko koi (congrArg Prod.fst (A.inj _ hb _ ha z)))
          refine ⟨b, List.mem_filter.mpr ⟨hb, by simpa using hba⟩, e, ?_, ko⟩
          rw [upd_ne hba]
          exact q.mono hsub
  · exact .inl ⟨Z, O, A, Stp.refl⟩
end
end DL
set_option Elab.async false
set_option linter.all false
set_option maxRecDepth 100000
namespace DL
open PySem L2 PySem.Spec PyProof.Rows
/-- a value for a name: read alone (val), or a new list or dict of one's own (own) -/
def tK (G : Gm) (W : WX) (f : LE → R Cell) : TE := fun sg H Q => ∃ dl Z O r, At G dl Z O r sg H ∧
  Wp (f r) (fun c => match c with
    | .val d => ∀ v H', Grow dl H H' → GlOk G dl H' → Rep G dl (cut H' Z) d v → Q v H'
    | .own d => ∀ p o H', Grow dl H H' → GlOk G dl H' → H' p = none → OwnAt G dl (cut H' Z) d (some o) → (∀ i, i ≠ 1000000 → kee i d = i ∧ keeOk i d) → Q (.ref p) (upd H' p o)
    | .un => False)
    (fun e => ∀ cls dx H', Grow dl H H' → GlOk G dl H' → XRep G dl (cut H' Z) e cls dx H' → W cls dx sg H')
abbrev DK (X : Cx) (G : Gm) (W : WX) (e : Expr) (f : LE → R Cell) : Prop := PE X e (tK G W f)
def valK (f : LE → R D) : LE → R Cell := fun r => f r >>= fun d => .ok (.val d)
def ownK (f : LE → R (List D)) : LE → R Cell := fun r => f r >>= fun ds => .ok (.own (.lst ds))
def okK : Cell → R Cell
  | .un => .stuck
  | .val d => .ok (.val d)
  | .own d => .ok (.own d)
def setK (i : Nat) (f : LE → R Cell) : LE → R Out := fun r => (f r >>= okK).onS r fun c => .ok (.nx (r.set i c))
def parK (i j : Nat) (f g : LE → R Cell) : LE → R Out := fun r => (f r >>= okK).onS r fun c => (g r >>= okK).onS r fun c' => .ok (.nx ((r.set i c).set j c'))
def tGd (G : Gm) (gd : D → LE → Option LE) (is : List Nat) : TG := fun v sg H Q => ∃ dl Z O r d, At G dl Z O r sg H ∧ Rep G dl (cut H Z) d v ∧ ∃ r', gd d r = some r' ∧
  ∀ sg', sg'.length = sg.length → (∀ j, j ∉ is → sg'[j]? = sg[j]?) → At G dl Z O r' sg' H → Q sg' H
abbrev DG (X : Cx) (G : Gm) (tg : Expr) (gd : D → LE → Option LE) (is : List Nat) : Prop := PG X tg (tGd G gd is)
def tGs (G : Gm) (gs : List D → LE → Option LE) (is : List Nat) : TGs := fun vs sg H Q => ∃ dl Z O r ds, At G dl Z O r sg H ∧ RepL G dl (cut H Z) ds vs ∧ ∃ r', gs ds r = some r' ∧
  ∀ sg', sg'.length = sg.length → (∀ j, j ∉ is → sg'[j]? = sg[j]?) → At G dl Z O r' sg' H → Q sg' H
abbrev DGs (X : Cx) (G : Gm) (tg : List Expr) (gs : List D → LE → Option LE) (is : List Nat) : Prop := PGs X tg (tGs G gs is)
def gN (i : Nat) : D → LE → Option LE := fun d r => some (r.set i (.val d))
def gNil_ : List D → LE → Option LE
  | [], r => some r
  | _, _ => none
def gCons_ (g : D → LE → Option LE) (gs : List D → LE → Option LE) : List D → LE → Option LE
  | d :: ds, r => (g d r).bind (gs ds)
  | [], _ => none
def gTup_ (n : Nat) (gs : List D → LE → Option LE) : D → LE → Option LE
  | .tup ds, r => if ds.length = n then gs ds r else none
  | _, _ => none
def asgS (f : LE → R D) (gd : D → LE → Option LE) : LE → R Out := fun r => (f r).onS r fun d => match gd d r with
  | some r' => .ok (.nx r')
  | none => .stuck
theorem PG_imp {X : Cx} {e : Expr} {t t' : TG} (h : PG X e t) (i : ∀ v sg H Q, t' v sg H Q → t v sg H Q) : PG X e t' := ⟨fun pins s sg H v u Q I r q => h.run pins s sg H v u Q I r (i _ _ _ _ q)⟩
theorem PGs_imp {X : Cx} {e : List Expr} {t t' : TGs} (h : PGs X e t) (i : ∀ v sg H Q, t' v sg H Q → t v sg H Q) : PGs X e t' := ⟨fun pins s sg H v u Q I r q => h.run pins s sg H v u Q I r (i _ _ _ _ q)⟩
section
variable {X : Cx} {G : Gm} {W : WX} {ex a b c : Expr} {es : List Expr} {f : LE → R D} {fk fk2 : LE → R Cell} {fs : LE → R (List D)} {h : LE → R Bool} {F K : LE → R Out} {st : Stmt} {rest : List Stmt} {pos pos' : Pos} {x y : Str} {i j : Nat}
theorem DE.k (q : DE X G W ex f) : DK X G W ex (valK f) := PE_imp q fun sg H Q ⟨dl, Z, O, r, A, q⟩ => ⟨dl, Z, O, r, A, q.bind.thn fun d z => z⟩
theorem DF.k (q : DF X G W ex fs) : DK X G W ex (ownK fs) := PE_imp q fun sg H Q ⟨dl, Z, O, r, A, q⟩ => ⟨dl, Z, O, r, A, q.bind.thn fun ds z p vs H' g k hp rl => z p (.lst vs) H' g k hp ⟨vs, rfl, rl⟩ fun i hi => ⟨rfl, hi⟩⟩
theorem dss_nil : DSs X G W [] skipS := PSs_imp pss_nil fun De sg H ⟨dl, Z, O, r, A, q⟩ => q Z O sg H Stp.refl A
theorem dss_cons (h1 : DS X G W st F) (h2 : DSs X G W rest K) : DSs X G W (st :: rest) (seqS F K) := PSs_imp (pss_cons h1 h2) fun De sg H ⟨dl, Z, O, r, A, q⟩ => by
  refine ⟨dl, Z, O, r, A, q.bind.thn fun o ho => ?_⟩
  cases o with
  | nx r' => exact fun Z' O' sg' H' s A' => ⟨dl, Z', O', r', A', ho.thn fun o z => SPost.trans A s z⟩
  | bk r' => exact ho
  | ct r' => exact ho
  | rt d => exact ho
  | ex e r' => exact ho
theorem dss_one (h1 : DS X G W st F) : DSs X G W [st] F := PSs_imp (pss_one h1) fun _ _ _ z => z
/-- a dict may be locked ahead -/
def tLk1 (t : TS) : TS := fun De sg H => t De sg H ∨ ∃ a u, H a = some u ∧ isDct u ∧ ∀ od, t De sg (upd H a (.frz od u))
theorem ps_lk1 {X : Cx} {st : Stmt} {t : TS} (h : PS X st t) : PS X st (tLk1 t) := ⟨fun pins s sg H De I q => by
  rcases q with q | ⟨a, u, e, hu, q⟩
  · exact h.run pins s sg H De I q
  · obtain ⟨od, I1⟩ := I.lock e (by cases u <;> first | exact hu.elim | exact trivial)
    exact h.run pins s sg _ De I1 (q od)⟩
/-- slot i is read alone from here on -/
theorem DS.frz_ (i : Nat) (h1 : DS X G W st F) : DS X G W st (fun r => F (frz i r)) := PS_imp (ps_lk1 h1) fun De sg H ⟨dl, Z, O, r, A, q⟩ => by
  rcases A.freeze (i := i) with ⟨Z', O', A', s⟩ | ⟨a, u, e, hu, k⟩
  · exact .inl ⟨dl, Z', O', _, A', q.thn fun o z => SPost.trans A s z⟩
  · refine .inr ⟨a, u, e, hu, fun od => ?_⟩
    obtain ⟨Z', O', A', s⟩ := k od
    exact ⟨dl, Z', O', _, A', q.thn fun o z => SPost.trans A s z⟩
theorem ds_set (i : Nat) (he : DK X G W ex fk) (hti : i ≠ 1000000 := by decide) (hN : X.N.Nodup) (hi : X.N[i]? = some x := by rfl) (hx : Loc X.env.scope x := by first | exact Or.inl rfl | exact Or.inr rfl) (hs : swapsWith ex (some (.Name x pos')) pos.line X.env = pure false := by rfl)
    (hf : X.fn x = true ∨ X.env.scope.names.lookup x = some .local := by first | exact .inl rfl | exact .inr rfl) : DS X G W (.Assign [.Name x pos'] ex pos) (setK i fk) := PS_imp (ps_set hN hi hx he hs hf) fun De sg H ⟨dl, Z, O, r, A, q⟩ => by
  refine ⟨dl, Z, O, r, A, (onS_wp q).bind.mono (fun c hc => ?_) fun e he => spost_ex A he⟩
  cases c with
  | val d => exact fun v H1 g1 k1 rp => hc Z O _ H1 (Stp.of_grow g1 k1) ((A.grow g1 k1).set_val i rp)
  | own d => exact fun p o H1 g1 k1 hp ow hk => hc _ _ _ _ (Stp.trans A (Stp.of_grow g1 k1) (Stp.new (A.grow g1 k1) hp hti)) ((A.grow g1 k1).set_own i hp ow (hk i hti))
  | un => exact hc.elim
theorem ds_ret (he : DE X G W ex f) : DS X G W (.Return (some ex) pos) (retS f) := PS_imp (ps_ret he) fun De sg H ⟨dl, Z, O, r, A, q⟩ =>
  ⟨dl, Z, O, r, A, (onS_wp q).mono (fun d hd v H1 g1 k1 rp => hd Z O v H1 (Stp.of_grow g1 k1) k1 rp) fun e he => spost_ex A he⟩
theorem ds_expr (he : DE X G W ex f) (hs : swapsWith ex none pos.line X.env = pure false := by rfl) : DS X G W (.Expr ex pos) (dropS f) := PS_imp (ps_expr he hs) fun De sg H ⟨dl, Z, O, r, A, q⟩ =>
  ⟨dl, Z, O, r, A, (onS_wp q).mono (fun d hd v H1 g1 k1 rp => hd Z O sg H1 (Stp.of_grow g1 k1) (A.grow g1 k1)) fun e he => spost_ex A he⟩
theorem ds_if {sa sb : List Stmt} (hc : DT X G W c h) (ha : DSs X G W sa F) (hb : DSs X G W sb K) : DS X G W (.If c sa sb pos) (ifS h F K) := PS_imp (ps_if hc ha hb) fun De sg H ⟨dl, Z, O, r, A, q⟩ => by
  refine ⟨dl, Z, O, r, A, (onS_wp q).mono (fun b hb H1 g1 k1 => ?_) fun e he => spost_ex A he⟩
  cases b with
  | true => exact ⟨dl, Z, O, r, A.grow g1 k1, hb.thn fun o z => SPost.trans A (Stp.of_grow g1 k1) z⟩
  | false => exact ⟨dl, Z, O, r, A.grow g1 k1, hb.thn fun o z => SPost.trans A (Stp.of_grow g1 k1) z⟩
theorem dg_name (i : Nat) (hN : X.N.Nodup) (hi : X.N[i]? = some x := by rfl) (hx : Loc X.env.scope x := by first | exact Or.inl rfl | exact Or.inr rfl) (hf : X.fn x = true ∨ X.env.scope.names.lookup x = some .local := by first | exact .inl rfl | exact .inr rfl) :
    DG X G (.Name x pos) (gN i) [i] := PG_imp (pg_name hN hi hx hf) fun v sg H Q ⟨dl, Z, O, r, d, A, rp, r', hr, q⟩ => by
  cases hr
  exact q _ (List.length_set ..) (fun j hj => List.getElem?_set_ne (by simpa using fun e : i = j => hj (by simp [e]))) (A.set_val i rp)
theorem dgs_nil : DGs X G [] gNil_ [] := PGs_imp pgs_nil fun vs sg H Q ⟨dl, Z, O, r, ds, A, rl, r', hr, q⟩ => by
  cases ds with
  | nil =>
    cases hr
    unfold RepL at rl
    exact ⟨rl, q sg rfl (fun _ _ => rfl) A⟩
  | cons d ds => cases hr
theorem dgs_cons {g1 : D → LE → Option LE} {gs : List D → LE → Option LE} {is js : List Nat} (h1 : DG X G ex g1 is) (h2 : DGs X G es gs js)
    (hs : (assignEach (ex :: es) X.env).map (·.2) = assign ex X.env :: (assignEach es X.env).map (·.2) := by rfl) : DGs X G (ex :: es) (gCons_ g1 gs) (is ++ js) := PGs_imp (pgs_cons h1 h2 hs) fun vs sg H Q ⟨dl, Z, O, r, ds, A, rl, r', hr, q⟩ => by
  cases ds with
  | nil => cases hr
  | cons d ds =>
    unfold RepL at rl
    obtain ⟨v, us, rfl, rp, rl⟩ := rl
    change (g1 d r).bind (gs ds) = some r' at hr
    cases e : g1 d r with
    | none => rw [e] at hr; cases hr
    | some r1 =>
      rw [e] at hr
      refine ⟨v, us, rfl, dl, Z, O, r, d, A, rp, r1, e, fun sg1 l1 s1 A1 => ?_⟩
      refine ⟨dl, Z, O, r1, ds, A1, rl, r', hr, fun sg2 l2 s2 A2 => q sg2 (l2.trans l1) (fun j hj => ?_) A2⟩
      rw [List.mem_append, not_or] at hj
      rw [s2 j hj.2, s1 j hj.1]
theorem dg_tup {gs : List D → LE → Option LE} {is : List Nat} {k : Nat} {n : Nat} (hG : G.K = X.K) (hc : X.calm = true) (h : DGs X G es gs is) (hn : (assignEach es X.env).length = n := by rfl) (hst : (assignEach es X.env).findIdx? (·.1) = none := by rfl) :
    DG X G (.Tuple es k pos) (gTup_ n gs) is := PG_imp (pg_tup hc h hn hst) fun v sg H Q ⟨dl, Z, O, r, d, A, rp, r', hr, q⟩ => by
  cases d <;> first | (cases hr; done) | skip
  rename_i ds
  change (if ds.length = n then gs ds r else none) = some r' at hr
  split at hr
  · rename_i hl
    unfold Rep at rp
    obtain ⟨a, vs, rfl, e, rl⟩ := rp
    exact ⟨a, vs, rfl, hG ▸ (cut_grow H Z).sqt (SqT.of e), by rw [rl.length]; exact hl, dl, Z, O, r, ds, A, rl, r', hr, q⟩
  · cases hr
theorem At.aside {dl : Addr} {Z : List Addr} {O : List (Nat × Addr)} {r : LE} {sg : L2.St} {H : Hp} (A : At G dl Z O r sg H) {p : Addr} {o : HO} (hp : H p = none) (nt : NT o) : At G dl (p :: Z) O r sg (upd H p o) := by
  refine ⟨A.gl.new hp, List.mem_cons_of_mem _ A.dz, fun a ha => ?_, fun q hq => ⟨List.mem_cons_of_mem _ (A.own q hq).1, (A.own q hq).2⟩, A.inj, A.len, fun j c e => ?_⟩
  · rcases List.mem_cons.mp ha with rfl | ha
    · exact ⟨o, upd_same, nt⟩
    · obtain ⟨u, e, n⟩ := A.live a ha
      exact ⟨u, by rw [upd_ne (ne_of_none e hp)]; exact e, n⟩
  · have := A.slot j c e
    cases c with
    | un => trivial
    | val d =>
      obtain ⟨v, e, q⟩ := this
      exact ⟨v, e, q.mono (cut_new hp)⟩
    | own d =>
      obtain ⟨a, ha, e, q, ko⟩ := this
      have hap : a ≠ p := fun z => A.out hp (by rw [← z]; exact (A.own _ ha).1)
      refine ⟨a, ha, e, ?_, ko⟩
      rw [upd_ne hap]
      exact q.mono (cut_new hp)
theorem XRep.mono {dl : Addr} {S S' : Hp} {e : Exc} {cls : Value} {dx : Option Addr} {H : Hp} (g : GrowS S S') (x : XRep G dl S e cls dx H) : XRep G dl S' e cls dx H := by
  unfold XRep at *
  refine ⟨x.1, ?_⟩
  have x2 := x.2
  split
  · rename_i hn; rw [hn] at x2; exact x2
  · rename_i f hf
    rw [hf] at x2
    obtain ⟨d, v, h1, h2, h3⟩ := x2
    exact ⟨d, v, h1, h2, h3.mono g⟩
theorem ds_par (i j : Nat) (hc : X.calm = true) (hN : X.N.Nodup) {px py pt pt2 : Pos} {kt k2 : Nat} (hij : i ≠ j) (hti : i ≠ 1000000) (htj : j ≠ 1000000) (ha : DK X G W a fk) (hb : DK X G W b fk2)
    (hx : X.env.scope.names.lookup x = some .local := by rfl) (hy : X.env.scope.names.lookup y = some .local := by rfl) (hi : X.N[i]? = some x := by rfl) (hj : X.N[j]? = some y := by rfl)
    (hw : swappedStores [.Tuple [.Name x px, .Name y py] kt pt] (.Tuple [a, b] k2 pt2) X.env = pure (some [x, y]) := by rfl)
    (hs : swapsWithSole [.Tuple [.Name x px, .Name y py] kt pt] (.Tuple [a, b] k2 pt2) pos.line X.env = pure false := by rfl)
    (s1 : starEach [a, b] X.env = (false, eval a X.env) :: starEach [b] X.env := by rfl) (s2 : starEach [b] X.env = (false, eval b X.env) :: starEach [] X.env := by rfl) :
    DS X G W (.Assign [.Tuple [.Name x px, .Name y py] kt pt] (.Tuple [a, b] k2 pt2) pos) (parK i j fk fk2) := PS_imp (ps_par hc hN hi hj hij hx hy (pa_cons ha (pa_cons hb pa_nil s2) s1) hw hs) fun De sg H ⟨dl, Z, O, r, A, q⟩ => by
  refine ⟨dl, Z, O, r, A, (onS_wp q).bind.mono (fun c hc => ?_) fun e he => spost_ex A he⟩
  cases c with
  | val d =>
    intro v H1 g1 k1 rp
    have A1 := A.grow g1 k1
    refine ⟨dl, Z, O, r, A1, (onS_wp hc).bind.mono (fun c' hc' => ?_) fun e he => epost g1 (spost_ex A he)⟩
    cases c' with
    | val d' =>
      intro v' H2 g2 k2 rp'
      exact ⟨v, v', rfl, hc' Z O _ H2 (Stp.of_grow (g1.trans g2) k2) (((A1.grow g2 k2).set_val i (rp.mono (g2.cut A.dz))).set_val j rp')⟩
    | own d' =>
      intro p o H2 g2 k2 hp ow hk
      have A2 := (A1.grow g2 k2).set_val i (rp.mono (g2.cut A.dz))
      exact ⟨v, _, rfl, hc' _ _ _ _ (Stp.trans A (Stp.of_grow (g1.trans g2) k2) (Stp.new A2 hp htj)) (A2.set_own j hp ow (hk j htj))⟩
    | un => exact hc'.elim
  | own d =>
    intro p o H1 g1 k1 hp ow hk
    obtain ⟨_, ho, nt⟩ := ow.notTbl
    cases ho
    have A1 := A.grow g1 k1
    have B1 := A1.aside hp nt
    have B2 := A1.set_own i hp ow (hk i hti)
    have hs1 : Stp dl Z O H (p :: Z) ((i, p) :: O) (upd H1 p o) := Stp.trans A (Stp.of_grow g1 k1) (Stp.new A1 hp hti)
    refine ⟨dl, p :: Z, O, r, B1, (onS_wp hc).bind.mono (fun c' hc' => ?_) fun e he cls dx H2 g2 k2 xr => ?_⟩
    · cases c' with
      | val d' =>
        intro v' H2 g2 k2 rp'
        exact ⟨_, v', rfl, hc' _ _ _ H2 (Stp.trans A hs1 (Stp.of_grow g2 k2)) ((B2.grow g2 k2).set_val j rp')⟩
      | own d' =>
        intro p' o' H2 g2 k2 hp' ow' hk'
        exact ⟨_, _, rfl, hc' _ _ _ _ (Stp.trans A hs1 (Stp.trans B2 (Stp.of_grow g2 k2) (Stp.new (B2.grow g2 k2) hp' htj))) ((B2.grow g2 k2).set_own j hp' ow' (hk' j htj))⟩
      | un => exact hc'.elim
    · exact spost_ex A he cls dx H2 ((g1.trans (.new hp)).trans g2) k2 (xr.mono (cut_sub fun a ha => List.mem_cons_of_mem _ ha))
  | un => exact hc.elim
end
end DL
set_option Elab.async false
set_option linter.all false
set_option maxRecDepth 100000
namespace DL
open PySem L2 PySem.Spec PyProof.Rows
/-- the iterator J hands out ds, as long as B -/
structure WalkE (G : Gm) (dl : Addr) (J : It) (ds : List D) (B : List Addr → Hp → Prop) : Prop where
  mono : ∀ Z Z' H H', GrowS (cut H Z) (cut H' Z') → Grow dl H H' → B Z H → B Z' H'
  go : ∀ i Z H, B Z H → i < ds.length → J.go i H
  stop : ∀ i Z H, B Z H → ds.length ≤ i → J.stop i H
  yld : ∀ i Z O r sg H x H', At G dl Z O r sg H → B Z H → J.yld i H x H' → ∀ d, ds[i]? = some d → Grow dl H H' ∧ (∀ G2 : Gm, GlOk G2 dl H → GlOk G2 dl H') ∧ Rep G dl (cut H' Z) d x
structure WalkS (G : Gm) (dl : Addr) (J : It) (ds : List D) (B : List Addr → Hp → Prop) : Prop extends WalkE G dl J ds B where
  monoS : ∀ Z Z' H H', GrowS (cut H Z) (cut H' Z') → B Z H → B Z' H'
def tIs (G : Gm) (W : WX) (f : LE → R (List D)) : TI := fun sg H Rr => ∃ dl Z O r, At G dl Z O r sg H ∧
  Wp (f r) (fun ds => ∀ J B H', Grow dl H H' → GlOk G dl H' → WalkS G dl J ds B → B Z H' → Rr J H')
    (fun e => ∀ cls dx H', Grow dl H H' → GlOk G dl H' → XRep G dl (cut H' Z) e cls dx H' → W cls dx sg H')
def tIe (G : Gm) (W : WX) (f : LE → R (List D)) : TI := fun sg H Rr => ∃ dl Z O r, At G dl Z O r sg H ∧
  Wp (f r) (fun ds => ∀ J B H', Grow dl H H' → GlOk G dl H' → WalkE G dl J ds B → B Z H' → Rr J H')
    (fun e => ∀ cls dx H', Grow dl H H' → GlOk G dl H' → XRep G dl (cut H' Z) e cls dx H' → W cls dx sg H')
abbrev DI (X : Cx) (G : Gm) (W : WX) (tg iter : Expr) (f : LE → R (List D)) : Prop := PI X tg iter (tIs G W f)
abbrev DIe (X : Cx) (G : Gm) (W : WX) (tg iter : Expr) (f : LE → R (List D)) : Prop := PI X tg iter (tIe G W f)
theorem PI_imp {X : Cx} {tg e : Expr} {t t' : TI} (h : PI X tg e t) (i : ∀ sg H Q, t' sg H Q → t sg H Q) : PI X tg e t' := ⟨fun pins s sg H Q I q => h.run pins s sg H Q I (i _ _ _ q)⟩
theorem DI.e {X : Cx} {G : Gm} {W : WX} {tg iter : Expr} {f : LE → R (List D)} (h : DI X G W tg iter f) : DIe X G W tg iter f :=
  PI_imp h fun sg H Q ⟨dl, Z, O, r, A, q⟩ => ⟨dl, Z, O, r, A, q.thn fun ds z J B H' g k w b => z J B H' g k w.toWalkE b⟩
def lstD : D → R (List D)
  | .lst ds => .ok ds
  | _ => .stuck
def tupD : D → R (List D)
  | .tup ds => .ok ds
  | _ => .stuck
section
variable {X : Cx} {G : Gm} {W : WX} {tg iter : Expr} {f : LE → R D} {pos p : Pos}
theorem walk_list {dl a : Addr} {ds : List D} {vs : List V} : WalkS G dl (Itl G.K a) ds (fun Z H => cut H Z a = some (.lst vs) ∧ RepL G dl (cut H Z) ds vs) where
  mono := fun Z Z' H H' g _ h => ⟨g a _ h.1 (fun ps z => by cases z), h.2.mono g⟩
  monoS := fun Z Z' H H' g h => ⟨g a _ h.1 (fun ps z => by cases z), h.2.mono g⟩
  go := fun i Z H h hi => by
    have := h.2.length
    exact ⟨vs, vs[i]'(by omega), SqL.of (cut_some h.1).2, by simp⟩
  stop := fun i Z H h hi => ⟨vs, SqL.of (cut_some h.1).2, by have := h.2.length; omega⟩
  yld := fun i Z O r sg H x H' A h hy d hd => by
    obtain ⟨rfl, hy⟩ := hy
    obtain ⟨v, h1, h2⟩ := RepL.getD ds vs i d h.2 hd
    have h3 := hy vs (SqL.of (cut_some h.1).2)
    rw [h1] at h3
    cases h3
    exact ⟨.refl _ _, fun _ k => k, h2⟩
theorem walk_tup {dl a : Addr} {ds : List D} {vs : List V} : WalkS G dl (Itt G.K a) ds (fun Z H => SqT G.K (cut H Z) a vs ∧ RepL G dl (cut H Z) ds vs) where
  mono := fun Z Z' H H' g _ h => ⟨g.sqt h.1, h.2.mono g⟩
  monoS := fun Z Z' H H' g h => ⟨g.sqt h.1, h.2.mono g⟩
  go := fun i Z H h hi => by
    have := h.2.length
    exact ⟨vs, vs[i]'(by omega), (cut_grow H Z).sqt h.1, by simp⟩
  stop := fun i Z H h hi => ⟨vs, (cut_grow H Z).sqt h.1, by have := h.2.length; omega⟩
  yld := fun i Z O r sg H x H' A h hy d hd => by
    obtain ⟨rfl, hy⟩ := hy
    obtain ⟨v, h1, h2⟩ := RepL.getD ds vs i d h.2 hd
    have h3 := hy vs ((cut_grow _ Z).sqt h.1)
    rw [h1] at h3
    cases h3
    exact ⟨.refl _ _, fun _ k => k, h2⟩
theorem di_tup (hG : G.K = X.K) (h : DE X G W iter f) : DI X G W tg iter (fun r => f r >>= tupD) := PI_imp (pi_tup h) fun sg H Q ⟨dl, Z, O, r, A, q⟩ => by
  refine ⟨dl, Z, O, r, A, q.bind.thn fun d hd v H1 g1 k1 rp => ?_⟩
  unfold tupD at hd
  split at hd
  · unfold Rep at rp
    obtain ⟨a, vs, rfl, e, rl⟩ := rp
    refine ⟨a, rfl, ⟨vs, hG ▸ (cut_grow H1 Z).sqt (SqT.of e)⟩, ?_⟩
    rw [← hG]
    exact hd _ _ H1 g1 k1 walk_tup ⟨SqT.of e, rl⟩
  · exact hd.elim
/-- range(..): the ints -/
def rangeL (lo : Int) (n : Nat) : List D := (List.range n).map fun (i : Nat) => D.int (lo + (i : Int))
def rng1 : List D → R (List D)
  | [.int j] => if j < 1073741824 ∧ -(1073741824) < j then .ok (rangeL 0 j.toNat) else .stuck
  | _ => .stuck
def rng2 : List D → R (List D)
  | [.int i, .int j] => if j < 1073741824 ∧ -(1073741824) < j ∧ i < 1073741824 ∧ -(1073741824) < i then .ok (rangeL i (j - i).toNat) else .stuck
  | _ => .stuck
theorem rangeL_get {lo : Int} {n i : Nat} {d : D} (h : (rangeL lo n)[i]? = some d) : d = .int (lo + (i : Int)) := by
  unfold rangeL at h
  rw [List.getElem?_map] at h
  cases e : (List.range n)[i]? with
  | none => rw [e] at h; cases h
  | some k =>
    rw [e] at h
    cases h
    obtain ⟨h1, h2⟩ := List.getElem?_eq_some_iff.mp e
    rw [List.getElem_range] at h2
    rw [h2]
theorem walk_rng {dl : Addr} {lo : Int} {n : Nat} : WalkS G dl (Itr lo n) (rangeL lo n) (fun _ _ => True) where
  mono := fun _ _ _ _ _ _ _ => trivial
  monoS := fun _ _ _ _ _ _ => trivial
  go := fun i Z H h hi => by
    show i < n
    unfold rangeL at hi; simpa using hi
  stop := fun i Z H h hi => by
    show n ≤ i
    unfold rangeL at hi; simpa using hi
  yld := fun i Z O r sg H x H' A h hy d hd => by
    obtain ⟨rfl, rfl⟩ := hy
    rw [rangeL_get hd]
    exact ⟨.refl _ _, fun _ k => k, Rep.int_⟩
theorem RepL.one_int {dl : Addr} {S : Hp} {j : Int} {vs : List V} (h : RepL G dl S [.int j] vs) : vs = [.int j] := by
  unfold RepL at h
  obtain ⟨v, r, rfl, h1, h2⟩ := h
  unfold Rep at h1
  unfold RepL at h2
  rw [h1, h2]
theorem di_rng1 {a : Expr} {fs : LE → R (List D)} (hg : Gl X "range") (hm : X.mg "range" = none) (ha : DA X G W [a] fs) (hs : starEach [a] X.env = [(false, eval a X.env)] := by rfl) : DI X G W tg (.Call (.Name "range" p) [a] [] pos) (fun r => fs r >>= rng1) :=
  PI_imp (pi_range1 hg hm ha hs) fun sg H Q ⟨dl, Z, O, r, A, q⟩ => by
    refine ⟨dl, Z, O, r, A, q.bind.thn fun ds hd vs H1 g1 k1 rl => ?_⟩
    unfold rng1 at hd
    split at hd
    · split at hd
      · rename_i j hj
        exact ⟨j, rl.one_int, by omega, by omega, hd _ _ H1 g1 k1 walk_rng trivial⟩
      · exact hd.elim
    · exact hd.elim
theorem di_rng2 {a b : Expr} {fs : LE → R (List D)} (hg : Gl X "range") (hm : X.mg "range" = none) (ha : DA X G W [a, b] fs) (hs : starEach [a, b] X.env = [(false, eval a X.env), (false, eval b X.env)] := by rfl) (hs2 : starEach [b] X.env = [(false, eval b X.env)] := by rfl) :
    DI X G W tg (.Call (.Name "range" p) [a, b] [] pos) (fun r => fs r >>= rng2) :=
  PI_imp (pi_range2 hg hm ha hs hs2) fun sg H Q ⟨dl, Z, O, r, A, q⟩ => by
    refine ⟨dl, Z, O, r, A, q.bind.thn fun ds hd vs H1 g1 k1 rl => ?_⟩
    unfold rng2 at hd
    split at hd
    · split at hd
      · rename_i i j hj
        unfold RepL at rl
        obtain ⟨v, us, rfl, h1, rl⟩ := rl
        have := rl.one_int
        subst this
        unfold Rep at h1
        subst h1
        exact ⟨i, j, rfl, ⟨by omega, by omega, by omega, by omega⟩, hd _ _ H1 g1 k1 walk_rng trivial⟩
      · exact hd.elim
    · exact hd.elim
end
def loopS (gd : D → LE → Option LE) (body : LE → R Out) : List D → LE → R Out
  | [], r => .ok (.nx r)
  | d :: ds, r => match gd d r with
    | none => .stuck
    | some r' => do
      match ← body r' with
      | .nx r2 => loopS gd body ds r2
      | .ct r2 => loopS gd body ds r2
      | .bk r2 => .ok (.nx r2)
      | .rt d => .ok (.rt d)
      | .ex e r2 => .ok (.ex e r2)
def forS (fi : LE → R (List D)) (gd : D → LE → Option LE) (body : LE → R Out) : LE → R Out := fun r => (fi r).onS r fun ds => loopS gd body ds r
section
variable {X : Cx} {G : Gm} {W : WX} {tg iter : Expr} {fi : LE → R (List D)} {gd : D → LE → Option LE} {is : List Nat} {F : LE → R Out} {body : List Stmt} {pos : Pos}
theorem ds_for (hp : PassesOwn (model X.prog X.w) X.A X.env X.xe) (hc : X.calm = true) (hi : DI X G W tg iter fi) (hg : DG X G tg gd is) (hb : DSs X G W body F)
    (hs : ∀ x, foldedSetIterable iter X.env x = pure x := by intro _; rfl) : DS X G W (.For tg iter body [] pos) (forS fi gd F) := PS_imp (ps_for hp hc hi hg hb hs) fun De sg H ⟨dl, Z, O, r, A, q⟩ => by
  refine ⟨dl, Z, O, r, A, (onS_wp q).mono (fun ds hds J B H1 g1 k1 wk hB => ?_) fun e he => spost_ex A he⟩
  have A1 := A.grow g1 k1
  have s1 : Stp dl Z O H Z O H1 := Stp.of_grow g1 k1
  refine ⟨fun i m sg' H' => m = ds.length - i ∧ i ≤ ds.length ∧ ∃ Z' O' r', At G dl Z' O' r' sg' H' ∧ Stp dl Z O H Z' O' H' ∧ B Z' H' ∧ Wp (loopS gd F (ds.drop i) r') (SPost G W De dl Z O H) (fun _ => False),
    ⟨ds.length, by simp, Nat.zero_le _, Z, O, r, A1, s1, hB, by simpa using hds⟩, ?_⟩
  rintro i m sg' H' ⟨rfl, hi', Z', O', r', A', s', hB', hw⟩
  by_cases hlt : i < ds.length
  · have hdrop : ds.drop i = ds[i] :: ds.drop (i + 1) := List.drop_eq_getElem_cons hlt
    rw [hdrop] at hw
    refine .inr ⟨wk.go i Z' H' hB' hlt, fun sg2 H2 => i + 1 ≤ ds.length ∧ ∃ Z' O' r', At G dl Z' O' r' sg2 H2 ∧ Stp dl Z O H Z' O' H2 ∧ B Z' H2 ∧ Wp (loopS gd F (ds.drop (i + 1)) r') (SPost G W De dl Z O H) (fun _ => False), fun sg2 H2 h2 => ⟨ds.length - (i + 1), by omega, rfl, h2⟩, fun x H2 hy => ?_⟩
    obtain ⟨g2, k2, rp⟩ := wk.yld i Z' O' r' sg' H' x H2 A' hB' hy ds[i] (by simp)
    have k2 := k2 _ A'.gl
    have A2 := A'.grow g2 k2
    have s2 : Stp dl Z O H Z' O' H2 := Stp.trans A s' (Stp.of_grow g2 k2)
    have hB2 : B Z' H2 := wk.mono _ _ _ _ (g2.cut A'.dz) g2 hB'
    unfold loopS at hw
    cases hgd : gd ds[i] r' with
    | none => rw [hgd] at hw; exact hw.elim
    | some r2 =>
      rw [hgd] at hw
      refine ⟨dl, Z', O', r', ds[i], A2, rp, r2, hgd, fun sg3 _ _ A3 => ⟨dl, Z', O', r2, A3, hw.bind.thn fun o ho => ?_⟩⟩
      have step : ∀ {r3 : LE}, Wp (loopS gd F (ds.drop (i + 1)) r3) (SPost G W De dl Z O H) (fun _ => False) → ∀ Z4 O4 sg4 H4, Stp dl Z' O' H2 Z4 O4 H4 → At G dl Z4 O4 r3 sg4 H4 →
          i + 1 ≤ ds.length ∧ ∃ Z' O' r', At G dl Z' O' r' sg4 H4 ∧ Stp dl Z O H Z' O' H4 ∧ B Z' H4 ∧ Wp (loopS gd F (ds.drop (i + 1)) r') (SPost G W De dl Z O H) (fun _ => False) := fun hw4 Z4 O4 sg4 H4 s4 A4 =>
        ⟨hlt, Z4, O4, _, A4, Stp.trans A s2 s4, wk.monoS _ _ _ _ (Stp.cut A3 s4) hB2, hw4⟩
      cases o with
      | nx r3 => exact step ho
      | ct r3 => exact step ho
      | bk r3 => exact fun Z4 O4 sg4 H4 s4 A4 => ho Z4 O4 sg4 H4 (Stp.trans A s2 s4) A4
      | rt d => exact SPost.trans A s2 ho
      | ex e r3 => exact SPost.trans A s2 ho
  · have e : i = ds.length := by omega
    subst e
    rw [List.drop_length] at hw
    exact .inl ⟨wk.stop _ Z' H' hB' (Nat.le_refl _), hw Z' O' sg' H' s' A'⟩
end
end DL
set_option Elab.async false
set_option linter.all false
set_option maxRecDepth 100000
namespace DL
open PySem L2 PySem.Spec PyProof.Rows
/-- what is raised is not served here -/
def R.calm {α : Type} : R α → R α
  | .ok a => .ok a
  | .err _ => .stuck
  | .stuck => .stuck
  | .roll m f => .roll m fun i => (f i).calm
@[simp] theorem calm_ok {α : Type} (a : α) : (R.ok a).calm = .ok a := rfl
@[simp] theorem calm_roll {α : Type} (m : Nat) (f : Nat → R α) : (R.roll m f).calm = .roll m fun i => (f i).calm := rfl
theorem calm_wp {α : Type} {Q : α → Prop} {E E' : Exc → Prop} : ∀ {m : R α}, Wp m.calm Q E → Wp m Q E'
  | .ok _, h => h
  | .err _, h => h.elim
  | .stuck, h => h.elim
  | .roll _ _, h => fun i hi => calm_wp (h i hi)
/-- the comprehension's own names forgotten -/
def wipeL (r : LE) : List Nat → LE
  | [] => r
  | v :: vs => (wipeL r vs).set v .un
def W0 : WX := fun _ _ _ _ => False
def loopC (gd : D → LE → Option LE) (tt : LE → R Bool) (te : LE → R D) (r : LE) : List D → R (List D)
  | [] => .ok []
  | d :: ds => match gd d r with
    | none => .stuck
    | some r' => do
      if (← (tt r').calm) then do
        let y ← (te r').calm
        let ys ← loopC gd tt te r ds
        .ok (y :: ys)
      else loopC gd tt te r ds
def compF (fi : LE → R (List D)) (gd : D → LE → Option LE) (tt : LE → R Bool) (te : LE → R D) (vs : List Nat) : LE → R (List D) := fun r => do
  let ds ← fi r
  if ds.length ≤ 16777216 then loopC gd tt te (wipeL r vs) ds else .stuck
def yesT : LE → R Bool := fun _ => .ok true
section
variable {G : Gm} {dl : Addr} {Z : List Addr} {O : List (Nat × Addr)} {r : LE} {sg : L2.St} {H : Hp}
theorem At.wipe (A : At G dl Z O r sg H) : ∀ vs : List Nat, At G dl Z O (wipeL r vs) (wipe sg vs) H
  | [] => A
  | v :: vs => (At.wipe A vs).set_un v none
theorem wipe_get {sg : L2.St} {j : Nat} : ∀ {vs : List Nat}, j ∉ vs → (wipe sg vs)[j]? = sg[j]?
  | [], _ => rfl
  | v :: vs, h => by
    rw [List.mem_cons, not_or] at h
    unfold wipe
    rw [List.getElem?_set_ne fun e => h.1 e.symm]
    exact wipe_get h.2
theorem wipe_at {sg : L2.St} {j : Nat} : ∀ {vs : List Nat}, j ∈ vs → j < sg.length → (wipe sg vs)[j]? = some none
  | [], h, _ => by cases h
  | v :: vs, h, hl => by
    unfold wipe
    by_cases e : v = j
    · subst e
      rw [List.getElem?_set_self (by rw [wipe_length]; exact hl)]
    · rw [List.getElem?_set_ne e]
      rcases List.mem_cons.mp h with h | h
      · exact (e h.symm).elim
      · exact wipe_at h hl
theorem wipe_same {sg sg' : L2.St} {vs : List Nat} (hl : sg'.length = sg.length) (h : ∀ j, j ∉ vs → sg'[j]? = sg[j]?) : L2.wipe sg' vs = L2.wipe sg vs := by
  refine List.ext_getElem? fun j => ?_
  by_cases e : j ∈ vs
  · by_cases q : j < sg.length
    · rw [wipe_at e q, wipe_at e (by omega)]
    · rw [List.getElem?_eq_none (by rw [wipe_length]; omega), List.getElem?_eq_none (by rw [wipe_length]; omega)]
  · rw [wipe_get e, wipe_get e, h j e]
theorem wipe_wipe {sg : L2.St} (vs : List Nat) : L2.wipe (L2.wipe sg vs) vs = L2.wipe sg vs := wipe_same (wipe_length ..) fun j h => wipe_get h
/-- H without p -/
theorem upd_cut {H : Hp} {p : Addr} {o : HO} (h : H p = some o) : upd (cut H [p]) p o = H := by
  funext b
  unfold upd cut
  by_cases e : b = p
  · subst e; simp [h]
  · simp [e]
end
section
variable {X : Cx} {G : Gm} {W : WX} {tg iter : Expr} {fi : LE → R (List D)} {gd : D → LE → Option LE} {is vs : List Nat} {tt : LE → R Bool} {te : LE → R D}
theorem lc_core_d (hsub : ∀ j ∈ is, j ∈ vs) {sg : L2.St} {H : Hp} {Q : VK} (h : tF G W (compF fi gd tt te vs) sg H Q) : tLc (tIe G W fi) (tGd G gd is) (tT G W0 tt) (tD G W0 te) vs sg H Q := by
  obtain ⟨dl, Z, O, r, A, q⟩ := h
  refine ⟨dl, Z, O, r, A, q.bind.thn fun ds hds J B H1 g1 k1 wk hB D hD => ?_⟩
  have A1 := A.grow g1 k1
  split at hds
  case isFalse => exact hds.elim
  rename_i hlen
  have nt : ∀ (xs : List V) ps, HO.lst xs ≠ HO.tbl ps := fun _ _ z => by cases z
  have B1 : At G dl (D :: Z) O r sg (upd H1 D (.lst [])) := A1.aside hD (NT.lst [])
  have hDZ := A1.out hD
  have hDd := A1.notdl hD
  have hB1 : B (D :: Z) (upd H1 D (.lst [])) := wk.mono _ _ _ _ (cut_new hD) (.new hD) hB
  -- the state between turns
  let St : Nat → Hp → Prop := fun i H' => i ≤ ds.length ∧ ∃ acc us, At G dl (D :: Z) O r sg H' ∧ Grow dl H1 H' ∧ B (D :: Z) H' ∧ H' D = some (.lst us) ∧ RepL G dl (cut H' (D :: Z)) acc us ∧ acc.length ≤ i ∧
    Wp (loopC gd tt te (wipeL r vs) (ds.drop i)) (fun ys => ∀ p us H2, Grow dl H H2 → GlOk G dl H2 → H2 p = none → RepL G dl (cut H2 Z) (acc ++ ys) us → Q (.ref p) (upd H2 p (.lst us))) (fun e => ∀ cls dx H', Grow dl H H' → GlOk G dl H' → XRep G dl (cut H' Z) e cls dx H' → W cls dx sg H')
  refine ⟨fun i m H' => m = ds.length - i ∧ St i H', ⟨ds.length, by simp, Nat.zero_le _, [], [], B1, .new hD, hB1, upd_same, RepL.nil, Nat.le_refl _, by simpa using hds⟩, ?_⟩
  rintro i m H' ⟨rfl, hi', acc, us, A', gH, hB', hDu, rl, hal, hw⟩
  by_cases hlt : i < ds.length
  · have hdrop : ds.drop i = ds[i] :: ds.drop (i + 1) := List.drop_eq_getElem_cons hlt
    rw [hdrop] at hw
    refine .inr ⟨wk.go i _ H' hB' hlt, St (i + 1), fun H2 h2 => ⟨ds.length - (i + 1), by omega, rfl, h2⟩, fun x H2 hy => ?_⟩
    obtain ⟨g2, k2, rp⟩ := wk.yld i _ O r sg H' x H2 A' hB' hy ds[i] (by simp)
    have k2 := k2 _ A'.gl
    have A2 := A'.grow g2 k2
    unfold loopC at hw
    cases hgd : gd ds[i] (wipeL r vs) with
    | none => rw [hgd] at hw; exact hw.elim
    | some r2 =>
      rw [hgd] at hw
      refine ⟨dl, D :: Z, O, wipeL r vs, ds[i], A2.wipe vs, rp, r2, hgd, fun sg3 hl3 hs3 A3 => ⟨?_, ?_⟩⟩
      · exact (wipe_same hl3 fun j hj => hs3 j fun z => hj (hsub j z)).trans (wipe_wipe vs)
      refine ⟨dl, D :: Z, O, r2, A3, (calm_wp hw.bind).mono (fun b hb H3 g3 k3 => ?_) fun e he => he⟩
      have A3' := A3.grow g3 k3
      have D3 : H2 D = some (.lst us) := g2 D _ hDu hDd (nt _)
      have D3' : H3 D = some (.lst us) := g3 D _ D3 hDd (nt _)
      have C3 : At G dl (D :: Z) O r sg H3 := A2.grow g3 k3
      cases b with
      | false =>
        refine ⟨hlt, acc, us, C3, (gH.trans g2).trans g3, wk.mono _ _ _ _ (g3.cut A2.dz) g3 (wk.mono _ _ _ _ (g2.cut A'.dz) g2 hB'), D3', rl.mono ((g2.trans g3).cut A'.dz), by omega, hb⟩
      | true =>
        refine ⟨dl, D :: Z, O, r2, A3', (calm_wp hb.bind).mono (fun y hy2 v H4 g4 k4 rp4 => ?_) fun e he => he⟩
        have D4 : H4 D = some (.lst us) := g4 D _ D3' hDd (nt _)
        have C4 : At G dl (D :: Z) O r sg H4 := C3.grow g4 k4
        have hz : us.length < sizeLine := by rw [sizeLine_eq, rl.length]; omega
        have gall : Grow dl H1 H4 := ((gH.trans g2).trans g3).trans g4
        have gcutD : ∀ xs, GrowS (cut H4 (D :: Z)) (cut (upd H4 D (.lst xs)) (D :: Z)) := fun xs b o e n => by
          obtain ⟨e1, e2⟩ := cut_some e
          have hbD : b ≠ D := fun z => e1 (by rw [z]; exact List.mem_cons_self)
          rw [cut_out e1, upd_ne hbD]; exact e2
        have gD : Grow dl H1 (upd H4 D (.lst (us ++ [v]))) := fun b o e n nt' => by
          rw [upd_ne (ne_of_none e hD)]; exact gall b o e n nt'
        have gl5 : GlOk G dl (upd H4 D (.lst (us ++ [v]))) := by
          obtain ⟨x1, y1, z1, hd1⟩ := k4.dice
          exact ⟨⟨x1, y1, z1, by rw [upd_ne fun e => hDd e.symm]; exact hd1⟩, k4.tab.upd D4 rfl⟩
        have A5 : At G dl (D :: Z) O r sg (upd H4 D (.lst (us ++ [v]))) := by
          refine ⟨gl5, C4.dz, fun b hb => ?_, C4.own, C4.inj, C4.len, fun j c e => ?_⟩
          · by_cases e : b = D
            · rw [e]; exact ⟨_, upd_same, NT.lst _⟩
            · obtain ⟨u, h1, h2⟩ := C4.live b hb
              exact ⟨u, by rw [upd_ne e]; exact h1, h2⟩
          · have := C4.slot j c e
            cases c with
            | un => trivial
            | val d =>
              obtain ⟨v, e, q⟩ := this
              exact ⟨v, e, q.mono (gcutD _)⟩
            | own d =>
              obtain ⟨a, ha, e, q, ko⟩ := this
              have haD : a ≠ D := fun z => hDZ (by rw [← z]; exact (A.own _ ha).1)
              refine ⟨a, ha, e, ?_, ko⟩
              rw [upd_ne haD]; exact q.mono (gcutD _)
        refine ⟨us, D4, hz, hlt, acc ++ [y], us ++ [v], A5, gD, wk.mono _ _ _ _ (fun b o e n => ?_) gD hB, upd_same, ?_, by rw [List.length_append]; simp; omega, ?_⟩
        · obtain ⟨e1, e2⟩ := cut_some e
          have hbD : b ≠ D := ne_of_none e2 hD
          have hbl : b ≠ dl := fun z => e1 (by rw [z]; exact A.dz)
          rw [cut_out (by rw [List.mem_cons, not_or]; exact ⟨hbD, e1⟩)]
          exact gD b o e2 hbl n
        · exact RepL.append (rl.mono ((((g2.trans g3).trans g4).cut A'.dz).trans (gcutD _))) (RepL.cons (rp4.mono (gcutD _)) RepL.nil)
        · exact hy2.bind.thn fun ys hys => by rw [List.append_assoc]; exact hys
  · have e : i = ds.length := by omega
    subst e
    rw [List.drop_length] at hw
    refine .inl ⟨wk.stop _ _ H' hB' (Nat.le_refl _), ?_⟩
    have hw2 : ∀ p us H2, Grow dl H H2 → GlOk G dl H2 → H2 p = none → RepL G dl (cut H2 Z) (acc ++ []) us → Q (.ref p) (upd H2 p (.lst us)) := hw
    rw [List.append_nil] at hw2
    have := hw2 D us (cut H' [D]) (fun b o e n nt' => ?_) ?_ (cut_in (by simp)) ?_
    · rw [upd_cut hDu] at this; exact this
    · have e1 := g1 b o e n nt'
      rw [cut_out (by simpa using ne_of_none e1 hD)]
      exact gH b o e1 n nt'
    · obtain ⟨x1, y1, z1, hd1⟩ := A'.gl.dice
      exact ⟨⟨x1, y1, z1, by rw [cut_out (by simpa using fun e : dl = D => hDd e.symm)]; exact hd1⟩, A'.gl.tab.cut hDu rfl⟩
    · refine rl.mono fun b o e n => ?_
      obtain ⟨e1, e2⟩ := cut_some e
      rw [List.mem_cons, not_or] at e1
      rw [cut_out e1.2, cut_out (by simpa using e1.1)]
      exact e2
abbrev DTs (X : Cx) (G : Gm) (W : WX) (ifs : List Expr) (f : LE → R Bool) : Prop := PTs X ifs (tT G W f)
theorem dts_nil : DTs X G W [] yesT := ⟨fun pins s sg H Q I ⟨dl, Z, O, r, A, q⟩ => pts_nil.run pins s sg H Q I (q H (.refl _ _) A.gl)⟩
theorem dts_one {c : Expr} (h : DT X G W c tt) : DTs X G W [c] tt := pts_one h
/-- [elt for tg in iter if ..] -/
theorem df_comp {elt : Expr} {ifs : List Expr} {scope : Scope} {own : List (Str × Nat)} {pos : Pos} (hc : X.calm = true) (hN : X.N.Nodup) (hi : DIe X G W tg iter fi) (ok : BlkOk X.N X.env.scope scope own)
    (hg : ∀ (s : Shared) (H : Hp) (C : Addr) (cl : List (Str × Addr)) (fp : List Addr), DG (X.blk s H scope (compEnvC scope cl C X.env) fp) G tg gd is)
    (ht : ∀ (s : Shared) (H : Hp) (C : Addr) (cl : List (Str × Addr)) (fp : List Addr), DTs (X.blk s H scope (compEnvC scope cl C X.env) fp) G W0 ifs tt)
    (he : ∀ (s : Shared) (H : Hp) (C : Addr) (cl : List (Str × Addr)) (fp : List Addr), DE (X.blk s H scope (compEnvC scope cl C X.env) fp) G W0 elt te)
    (hsub : ∀ j ∈ is, j ∈ own.map (·.2)) (hs : ∀ x, foldedSetIterable iter X.env x = pure x := by intro _; rfl) :
    DF X G W (.ListComp elt [⟨tg, iter, ifs, 0⟩] scope pos) (compF fi gd tt te (own.map (·.2))) := PE_imp (pe_lc hc hN hi ok hg ht he hs) fun sg H Q h => lc_core_d hsub h
/-- y = [elt for tg in iter if ..], y a plain local, on one line: y one's own -/
theorem ds_setcomp (i : Nat) {y : Str} {py : Pos} {elt : Expr} {ifs : List Expr} {scope : Scope} {own : List (Str × Nat)} {pos spos : Pos} (hc : X.calm = true) (hN : X.N.Nodup) (hi : DIe X G W tg iter fi) (ok : BlkOk X.N X.env.scope scope own)
    (hg : ∀ (s : Shared) (H : Hp) (C : Addr) (cl : List (Str × Addr)) (fp : List Addr), DG (X.blk s H scope (compEnvC scope cl C X.env) fp) G tg gd is)
    (ht : ∀ (s : Shared) (H : Hp) (C : Addr) (cl : List (Str × Addr)) (fp : List Addr), DTs (X.blk s H scope (compEnvC scope cl C X.env) fp) G W0 ifs tt)
    (he : ∀ (s : Shared) (H : Hp) (C : Addr) (cl : List (Str × Addr)) (fp : List Addr), DE (X.blk s H scope (compEnvC scope cl C X.env) fp) G W0 elt te)
    (hsub : ∀ j ∈ is, j ∈ own.map (·.2)) (hti : i ≠ 1000000) (hsw : swapsWith (.ListComp elt [⟨tg, iter, ifs, 0⟩] scope pos) (some (.Name y py)) spos.line X.env = pure true)
    (hy : X.N[i]? = some y := by rfl) (hyl : X.env.scope.names.lookup y = some .local := by rfl) (hs : ∀ x, foldedSetIterable iter X.env x = pure x := by intro _; rfl) :
    DS X G W (.Assign [.Name y py] (.ListComp elt [⟨tg, iter, ifs, 0⟩] scope pos) spos) (setK i (ownK (compF fi gd tt te (own.map (·.2))))) := PS_imp (ps_setLc hc hN hy hyl hsw hi ok hg ht he hs) fun De sg H ⟨dl, Z, O, r, A, q⟩ => by
  refine lc_core_d (W := W) hsub ⟨dl, Z, O, r, A, (onS_wp q).bind.bind.mono (fun ds hd p us H1 g1 k1 hp rl => ?_) fun e he => spost_ex A he⟩
  exact hd _ _ _ _ (Stp.trans A (Stp.of_grow g1 k1) (Stp.new (A.grow g1 k1) hp hti)) ((A.grow g1 k1).set_own i hp ⟨us, rfl, rl⟩ ⟨rfl, hti⟩)
end
end DL
set_option Elab.async false
set_option linter.all false
set_option maxRecDepth 100000
namespace DL
open PySem L2 PySem.Spec PyProof.Rows
def appS (i : Nat) (f : LE → R D) : LE → R Out := fun r => match r[i]? with
  | some (.own (.lst ds)) => (f r).onS r fun d => if ds.length < 16777216 then .ok (.nx (r.set i (.own (.lst (ds ++ [d]))))) else .stuck
  | _ => .stuck
/-- self.x = ..: the next field -/
def fldS (fx : Nat → Option Nat) (f : LE → R D) : LE → R Out := fun r => match (r[0]? : Option Cell) with
  | some (Cell.own (D.ins c ds)) => (f r).onS r fun d => (match fx c with
    | some j => if ds.length = j then .ok (.nx (r.set 0 (.own (.ins c (ds ++ [d]))))) else .stuck
    | none => .stuck)
  | _ => .stuck
section
variable {X : Cx} {G : Gm} {W : WX} {ex ek : Expr} {f k : LE → R D} {pos apos p p1 p2 : Pos} {x m : Str}
theorem ds_append (i : Nat) (ha : DE X G W ex f) (hN : X.N[i]? = some x := by rfl) (hv : Vis X.env.scope x := by first | exact Or.inl rfl | exact Or.inr (Or.inl rfl) | exact Or.inr (Or.inr rfl)) (hd : (x == ("__debug__" : Str)) = false := by decide)
    (hcd : (x == ("__classdict__" : Str)) = false := by decide) (hs : swapsWith (.Call (.Attribute (.Name x p1) "append" apos) [ex] [] p) none pos.line X.env = pure false := by rfl)
    (hbase : attributeBase (.Name x p1) "append" X.env (eval (.Name x p1) X.env) = eval (.Name x p1) X.env := by rfl)
    (hfew : ((backTo p (starEach [ex] X.env)).all (fun x => !x.1) && (backToKw p (keywordEach [] X.env)).all (fun x => x.1.isSome)
      && decide ([ex].length + ([] : List Keyword).length + (if ([] : List Keyword).isEmpty then 0 else 1) < 30)) = true := by rfl)
    (hline : (apos.endLine == p.line) = true := by rfl) (hst : starEach [ex] X.env = (false, eval ex X.env) :: starEach [] X.env := by rfl) :
    DS X G W (.Expr (.Call (.Attribute (.Name x p1) "append" apos) [ex] [] p) pos) (appS i f) := by
  refine PS_imp (ps_expr (pe_bm PySem.F.plainAttrs_list PySem.F.slot_list_append PySem.F.type_list_append mt_append (pe_var hN hv hd hcd) (pa_cons ha pa_nil hst) hbase hfew hline hst (by rfl)) hs) fun De sg H ⟨dl, Z, O, r, A, q⟩ => ?_
  unfold appS at q
  split at q
  case h_2 => exact q.elim
  rename_i ds hr
  obtain ⟨a, ha', hs', ⟨vs, e, rl⟩, ko⟩ := A.slot i _ hr
  obtain ⟨haz, had⟩ := A.own _ ha'
  refine ⟨.ref a, hs', .inl ⟨rfl, vs, SqL.of e⟩, dl, Z, O, r, A, (onS_wp q).mono (fun d hd' v H1 g1 k1 rp => ?_) fun e he => spost_ex A he⟩
  have A1 := A.grow g1 k1
  have e1 : H1 a = some (.lst vs) := g1 a _ e had (fun ps z => by cases z)
  split at hd'
  case isFalse => exact hd'.elim
  rename_i hlen
  refine ⟨a, vs, v, rfl, rfl, e1, by rw [sizeLine_eq, rl.length]; exact hlen, ?_⟩
  refine hd' Z O sg _ (Stp.trans A (Stp.of_grow g1 k1) (Stp.write ha' fun ps z => by cases z)) (A1.write hr ha' hs' ⟨_, rfl, RepL.append (rl.mono (g1.cut A.dz)) (RepL.cons rp RepL.nil)⟩ rfl ko)
theorem putF_zip {m : Str} {v : V} : ∀ {ns : List Str} {vs : List V}, ns.Nodup → ns[vs.length]? = some m → putF m v (ns.zip vs) = ns.zip (vs ++ [v])
  | [], vs, _, h => by simp at h
  | n :: ns, [], _, h => by simp at h; subst h; simp [putF]
  | n :: ns, u :: vs, nd, h => by
    have hm : ns[vs.length]? = some m := by simpa using h
    have hne : n ≠ m := fun e => by
      subst e
      exact (List.nodup_cons.mp nd).1 (List.mem_of_getElem? hm)
    show (if n = m then _ else (n, u) :: putF m v (ns.zip vs)) = _
    rw [if_neg hne, putF_zip (List.nodup_cons.mp nd).2 hm]
    rfl
theorem ds_field {fx : Nat → Option Nat} (hx : FldOk X G m fx) (hsz : ∀ c, (G.flds c).length ≤ 900) (ha : DE X G W ex f) (hN : X.N[0]? = some x := by rfl) (hv : Vis X.env.scope x := by first | exact Or.inl rfl | exact Or.inr (Or.inl rfl) | exact Or.inr (Or.inr rfl)) (hd : (x == ("__debug__" : Str)) = false := by decide)
    (hcd : (x == ("__classdict__" : Str)) = false := by decide) (hs : swapsWith ex (some (.Attribute (.Name x p1) m p2)) pos.line X.env = pure false := by rfl) :
    DS X G W (.Assign [.Attribute (.Name x p1) m p2] ex pos) (fldS fx f) := by
  refine PS_imp (ps_fld (pe_var hN hv hd hcd) ha hs) fun De sg H ⟨dl, Z, O, r, A, q⟩ => ?_
  unfold fldS at q
  split at q
  case h_2 => exact q.elim
  rename_i c ds hr
  obtain ⟨a, ha', hs', ⟨dx, vs, e, hle, rl⟩, ko⟩ := A.slot 0 _ hr
  obtain ⟨haz, had⟩ := A.own _ ha'
  refine ⟨dl, Z, O, r, A, (onS_wp q).mono (fun d hd' v H1 g1 k1 rp => ?_) fun e he => spost_ex A he⟩
  have A1 := A.grow g1 k1
  have e1 := g1 a _ e had (fun ps z => by cases z)
  cases hj : fx c with
  | none => rw [hj] at hd'; exact hd'.elim
  | some j =>
    rw [hj] at hd'
    change Wp (if ds.length = j then R.ok (Out.nx (r.set 0 (Cell.own (D.ins c (ds ++ [d]))))) else R.stuck) _ _ at hd'
    split at hd'
    case isFalse => exact hd'.elim
    rename_i hl
    obtain ⟨h1, h2, h3, h4⟩ := hx c j hj
    have hvl := rl.length
    have hjl : j < (G.flds c).length := (List.getElem?_eq_some_iff.mp h3).1
    refine ⟨.ref a, hs', a, G.cls c, dx, _, rfl, e1, h1, h2, ?_, ?_⟩
    · rw [List.length_zip]
      have := hsz c
      omega
    · rw [putF_zip h4 (by rw [hvl, hl]; exact h3)]
      exact hd' Z O sg _ (Stp.trans A (Stp.of_grow g1 k1) (Stp.write ha' fun ps z => by cases z)) (A1.write hr ha' hs' ⟨dx, _, rfl, by rw [List.length_append, List.length_singleton]; omega, RepL.append (rl.mono (g1.cut A.dz)) (RepL.cons rp RepL.nil)⟩ rfl ko)
def errS (e : Exc) : LE → R Out := fun r => .ok (.ex e r)
theorem ds_raise {bmB : List Value} {B newId initId : String} {C : Addr} {s : Str} {j : Nat} (c : Nat) (tk : Takes X W) (hc : X.calm = true) (F : PySem.ExcBaseFacts B newId initId bmB) (hC : G.xcls c = C) (hx : G.xfld c = none) (hq : PySem.W.excIn X.K C bmB newId = true) (gC : X.mg x = some (.ref C)) (kC : PySem.W.keepIn X.K (.ref C) = true) (rs : Raises X (.ref C))
    (hg : Gl X x := by rfl) (hdb : (x == ("__debug__" : Str)) = false := by decide) : DS X G W (.Raise (some (.Call (.Name x p) [.Constant (.str s) j p2] [] p1)) none pos) (errS ⟨c, .non⟩) :=
  PS_imp (LG.ps_raise hc tk (L2N.pmk_own F hq gC kC rs hg hdb)) fun De sg H ⟨dl, Z, O, r, A, q⟩ => by
    subst hC
    exact q Z O sg H _ none Stp.refl A ⟨rfl, by rw [hx]; exact ⟨rfl, fun _ => rfl⟩⟩
/-- .. in an except suite -/
theorem ds_raiseH {bmB : List Value} {B newId initId : String} {C : Addr} {s : Str} {j : Nat} (c : Nat) (tk : Takes X W) (hc : LG.HotG X) (F : PySem.ExcBaseFacts B newId initId bmB) (hC : G.xcls c = C) (hx : G.xfld c = none) (hq : PySem.W.excIn X.K C bmB newId = true) (gC : X.mg x = some (.ref C)) (kC : PySem.W.keepIn X.K (.ref C) = true) (rs : Raises X (.ref C))
    (hg : Gl X x := by rfl) (hdb : (x == ("__debug__" : Str)) = false := by decide) : DS X G W (.Raise (some (.Call (.Name x p) [.Constant (.str s) j p2] [] p1)) none pos) (errS ⟨c, .non⟩) :=
  PS_imp (LG.ps_raiseG hc tk (L2N.pmk_own F hq gC kC rs hg hdb)) fun De sg H ⟨dl, Z, O, r, A, q⟩ => by
    subst hC
    exact q Z O sg H _ none Stp.refl A ⟨rfl, by rw [hx]; exact ⟨rfl, fun _ => rfl⟩⟩
end
end DL
set_option Elab.async false
set_option linter.all false
set_option maxRecDepth 100000
namespace DL
open PySem L2 PySem.Spec PyProof.Rows
/-- a def of n arguments and m names, by its body -/
def runF (n m : Nat) (F : LE → R Out) (ds : List D) : R D := if ds.length = n then (do
  match ← (F (ds.map Cell.val ++ List.replicate (m - n) Cell.un)).calm with
  | .nx _ => .ok .non
  | .rt d => .ok d
  | .ex e _ => .err e
  | _ => .stuck) else .stuck
/-- an __init__: what self becomes -/
def runI (c k n m : Nat) (F : LE → R Out) (ds : List D) : R D := if ds.length = n then (do
  match ← (F (Cell.own (.ins c []) :: (ds.map Cell.val ++ List.replicate (m - n - 1) Cell.un))).calm with
  | .nx r => (match (r[0]? : Option Cell) with
    | some (Cell.own (D.ins c' fs)) => if c' = c ∧ fs.length = k then .ok (.ins c fs) else .stuck
    | _ => .stuck)
  | .ex e _ => .err e
  | _ => .stuck) else .stuck
theorem runF_len {n m : Nat} {F : LE → R Out} : ∀ ds Q E, Wp (runF n m F ds) Q E → ds.length = n := fun ds Q E h => by
  unfold runF at h
  split at h
  · assumption
  · exact h.elim
theorem runI_len {c k n m : Nat} {F : LE → R Out} : ∀ ds Q E, Wp (runI c k n m F ds) Q E → ds.length = n := fun ds Q E h => by
  unfold runI at h
  split at h
  · assumption
  · exact h.elim
/-- the wish of a def's body -/
abbrev WD (E : XK) : WX := fun cls d _ H' => E cls d H'
section
variable {P : Program} {w : World} {K : PySem.W.Frag} {mg : Str → Option Value} {base : Heap} {G : Gm} {x qual : Str} {st : Stmt} {f : Addr} {fd : FuncData} {N ps : List Str} {k n m c nf : Nat} {F : LE → R Out}
abbrev cxD (P : Program) (w : World) (K : PySem.W.Frag) (mg : Str → Option Value) (base : Heap) (N : List Str) (qual : Str) (st : Stmt) (f : Addr) (cdv : Value) (A : Around) (outer : List Env) (s : Shared) (H : Hp) (E : XK) : Cx :=
  cxOf (LG.CX P w) P w K mg base N qual (defScope st) f cdv A outer s H E
theorem takes_cxD {cdv A outer s H E} : Takes (cxD P w K mg base N qual st f cdv A outer s H E) (WD E) := LG.takes_of rfl rfl rfl rfl
theorem owns_cxD {cdv A outer s H E} : PassesOwn (model P w) (cxD P w K mg base N qual st f cdv A outer s H E).A (cxD P w K mg base N qual st f cdv A outer s H E).env (cxD P w K mg base N qual st f cdv A outer s H E).xe := passes_of rfl
theorem start_get {vs : List V} {ds : List D} {dl : Addr} {Z : List Addr} {H : Hp} (rl : RepL G dl (cut H Z) ds vs) (hl : vs.length = n) (hN : N.length = m) {O : List (Nat × Addr)} : ∀ i c, (ds.map Cell.val ++ List.replicate (m - n) Cell.un)[i]? = some c → Slot G dl Z O H i (L2.start N vs)[i]? c := fun i c e => by
  have hl2 := rl.length
  by_cases hi : i < ds.length
  · rw [List.getElem?_append_left (by simpa using hi), List.getElem?_map, List.getElem?_eq_getElem hi] at e
    cases e
    obtain ⟨v, h1, h2⟩ := RepL.getD ds vs i ds[i] rl (by simp)
    refine ⟨v, ?_, h2⟩
    unfold L2.start
    rw [List.getElem?_append_left (by rw [List.length_map]; omega), List.getElem?_map, h1]
    rfl
  · rw [List.getElem?_append_right (by simpa using hi), List.getElem?_replicate] at e
    split at e
    · cases e; trivial
    · cases e
theorem fun_okG {qual : Str} {sp : Sp} (Fn : Fun K x qual st f fd) (S : FnScope N ps (defScope st)) (len : ∀ vs H Q E, sp vs H Q E → vs.length = ps.length)
    (hbody : ∀ (cdv : Value) (A : Around) (outer : List Env) (s : Shared) (H : Hp) (vs : List V) (Q : VK) (E : XK), Room k (A.deeper (envOfC qual (defScope st) s.heap.objs.size f cdv)) → sp vs H Q E →
      ∃ t, PSs (cxD P w K mg base N qual st f cdv A outer s H E) (defBody st) t ∧ t { nx := fun _ H' => Q .non H', rt := Q } (L2.start N vs) H) : FnOk P w K mg base (LG.CX P w) (k + 1) f fd ps sp := by
  obtain ⟨oc, od, kV, doc, pm, an, cdv, ct, osl, rfl, lk, hcd⟩ := Fn.ex
  exact fn_of lk hcd S len fun A outer s H vs Q E hr hsp => hbody cdv A outer s H vs Q E hr hsp
theorem fnOk_of (Fn : Fun K x qual st f fd) (S : FnScope N ps (defScope st)) (hn : ps.length = n) (hm : N.length = m)
    (hb : ∀ cdv A outer s H E, Room k (A.deeper (envOfC qual (defScope st) s.heap.objs.size f cdv)) → DSs (cxD P w K mg base N qual st f cdv A outer s H E) G (WD E) (defBody st) F) :
    FnOk P w K mg base (LG.CX P w) (k + 1) f fd ps (spD G n (runF n m F)) := by
  refine fun_okG Fn S (fun vs H Q E h => by rw [hn]; exact h.1) fun cdv A outer s H vs Q E hr h => ⟨_, hb cdv A outer s H E hr, ?_⟩
  obtain ⟨hl, dl, Z, ds, gl, dz, live, rl, hw⟩ := h
  unfold runF at hw
  split at hw
  case isFalse => exact hw.elim
  rename_i hdl
  have hpl : ps.length ≤ N.length := by have := congrArg List.length S.pre; rw [List.length_take] at this; omega
  have A0 : At G dl Z [] (ds.map Cell.val ++ List.replicate (m - n) Cell.un) (L2.start N vs) H := by
    refine ⟨gl, dz, live, fun p hp => (by cases hp), fun p hp => (by cases hp), ?_, start_get rl hl hm⟩
    unfold L2.start
    rw [List.length_append, List.length_map, List.length_replicate, List.length_append, List.length_map, List.length_replicate]
    omega
  have gr : ∀ {Z' O' H'}, Stp dl Z [] H Z' O' H' → Grow dl H H' := fun s a o e n nt => s.fr a o e n (fun p hp => (by cases hp)) nt
  have gz : ∀ {Z' O' H'}, Stp dl Z [] H Z' O' H' → GrowS (cut H' Z') (cut H' Z) := fun s => cut_sub fun a ha => s.zk a ha fun p hp => (by cases hp)
  refine ⟨dl, Z, [], _, A0, (calm_wp hw.bind).thn fun o ho => ?_⟩
  cases o with
  | nx r => exact fun Z' O' sg' H' s A' => ho _ _ (gr s) A'.gl Rep.non_
  | rt d => exact fun Z' O' v H' s g rp => ho _ _ (gr s) g (rp.mono (gz s))
  | ex e r => exact fun Z' O' sg' H' cls dx s A' xr => ho cls dx H' (gr s) A'.gl (xr.mono (gz s))
  | bk r => exact ho.elim
  | ct r => exact ho.elim
theorem fnD_of (Fn : Fun K x qual st f fd) (S : FnScope N ps (defScope st)) (bd : Binds K fd ps []) (hx : mg x = some (.ref f)) (hn : ps.length = n) (hm : N.length = m)
    (hb : ∀ cdv A outer s H E, Room k (A.deeper (envOfC qual (defScope st) s.heap.objs.size f cdv)) → DSs (cxD P w K mg base N qual st f cdv A outer s H E) G (WD E) (defBody st) F) :
    FnD P w K mg base G (k + 1) x f n (runF n m F) := ⟨⟨fd, ps, hn, fnOk_of Fn S hn hm hb, bd⟩, runF_len, Fn.kp, hx⟩
theorem meD_of (Fn : Fun K x qual st f fd) (S : FnScope N ps (defScope st)) (bd : Binds K fd ps []) (mt : Meth K (G.cls c) x f) (cl : Cls K (G.cls c)) (nf : x ∉ G.flds c) (hn : ps.length = n) (hm : N.length = m)
    (hb : ∀ cdv A outer s H E, Room k (A.deeper (envOfC qual (defScope st) s.heap.objs.size f cdv)) → DSs (cxD P w K mg base N qual st f cdv A outer s H E) G (WD E) (defBody st) F) :
    MeD P w K mg base G (k + 1) c x n (runF n m F) := ⟨⟨f, fd, ps, hn, fnOk_of Fn S hn hm hb, bd, mt⟩, runF_len, cl, nf⟩
end
end DL
set_option Elab.async false
set_option linter.all false
set_option maxRecDepth 100000
set_option maxHeartbeats 1000000
namespace DL
open PySem L2 LamX PySem.Spec PyProof.Rows
theorem codeN_ne {c P : Addr} {q : Str} (ps : Array Value) : CodeN c q P ≠ .tbl ps := fun z => by
  unfold CodeN at z
  cases z
theorem codeN_at {P : Program} {w : World} {H : Hp} {h : Heap} {c P2 : Addr} {q : Str} (hok : HOk P w H h) (e : H c = some (CodeN c q P2)) :
    (∃ (oc : Obj) (vs : Array Value) (t : Tok), h.get? c = some oc ∧ oc.data = .fields vs ∧ vs[1]? = some (.str q t)) ∧ PySem.W.CodeHd h c P2 := (hok c _ e).1
/-- the frame at hand: its code object c, the table at P -/
structure Mkr (X : Cx) (G : Gm) (c P : Addr) : Prop where
  code : X.env.code = .ref c
  mem : (P, X.env.qual) ∈ G.tabs ++ G.subs.map (·.2)
  bm0 : ∃ P0, X.base.BuiltinsAt X.mg P0
  hd : ∀ {pins : List (Addr × Obj)} {σ : L2.St} {H : Hp} {s : Shared}, Inv X pins σ H s → CT G.kd G.tabs G.subs H → PySem.W.CodeHd s.heap c P
theorem mk_def {X : Cx} {G : Gm} {c P : Addr} (TB : TabB X.base X.mg c P) (hcode : X.env.code = .ref c) (hm : (P, X.env.qual) ∈ G.tabs) : Mkr X G c P :=
  ⟨hcode, List.mem_append_left _ hm, ⟨P, TB.bm⟩, fun I _ => TB.code.keeps I.bk⟩
/-- a frame of a code object made since -/
theorem mk_sub {X Y : Cx} {G : Gm} {c P c' P2 : Addr} {q : Str} (M : Mkr X G c P) (hb : Y.base = X.base) (hmg : Y.mg = X.mg) (hcode : Y.env.code = .ref c') (hq : Y.env.qual = q) : Mkr Y (G.sub (c', P2, q)) c' P2 :=
  ⟨hcode, List.mem_append_right _ (by rw [hq]; exact List.mem_cons_self), by rw [hb, hmg]; exact M.bm0, fun I g => by
    obtain ⟨n, h⟩ := g.2 _ List.mem_cons_self
    exact (codeN_at I.hok h).2⟩
section
variable {X : Cx} {G : Gm} {c P : Addr} {pins : List (Addr × Obj)} {σ : L2.St} {H : Hp} {s : Shared}
theorem Mkr.tab (M : Mkr X G c P) (I : Inv X pins σ H s) (g : CT G.kd G.tabs G.subs H) : ∃ (C : List Cob) (ps : Array Value), CTC G.kd (G.tabs ++ G.subs.map (·.2)) C H ∧ H P = some (.tbl ps) ∧ s.heap.get? P = some { cls := .none, data := .fields ps } ∧ TriplesOk ps.toList ∧
    s.heap.BuiltinsAt X.mg P ∧ mainGlobals ≠ P ∧ ∀ (pos : Pos) (cv : Value), codeAmong pos ps.toList = some cv → ∃ c P2, cv = .ref c ∧ (c, nam_ X.env.qual (G.kd pos.line pos.col), pre_ X.env.qual (G.kd pos.line pos.col), P2) ∈ C := by
  obtain ⟨⟨C, hC⟩, _⟩ := id g
  obtain ⟨ps, h1, h2, h3⟩ := hC.tab P X.env.qual (.inl M.mem)
  have hP : s.heap.get? P = some { cls := .none, data := .fields ps } := I.hok P _ h1
  refine ⟨C, ps, hC, h1, hP, h2, ?_, fun z => ?_, h3⟩
  · obtain ⟨P0, bm, o, e1, e2, e3, _, e5, e6, e7, e8⟩ := M.bm0
    refine ⟨bm, o, e1, e2, e3, fun z => ?_, I.bk _ _ e5, e6, e7, e8⟩
    have e9 := I.bk _ _ e5
    rw [z, hP] at e9
    cases e9
    cases e8
  · obtain ⟨o, es, ep, e, hd, _⟩ := I.mod.glob.keeps I.bk
    rw [z, hP] at e
    cases e
    cases hd
/-- the maker's table has grown; the new code object and its empty table are known -/
theorem inv_code {q : Str} {P2 c' : Addr} {ps more : Array Value} {h' : Heap} {t' : Nat} (I : Inv X pins σ H s) (hP : H P = some (.tbl ps)) (kp : ∀ b o, b ≠ P → s.heap.get? b = some o → h'.get? b = some o)
    (hm : h'.get? P = some { cls := .none, data := .fields (ps ++ more) }) (hc : s.heap.objs.size ≤ c') (hn : ∃ (oc : Obj) (vs : Array Value) (t : Tok), h'.get? c' = some oc ∧ oc.data = .fields vs ∧ vs[1]? = some (.str q t))
    (hcd : PySem.W.CodeHd h' c' P2) (hP2 : s.heap.objs.size ≤ P2) (ht : h'.get? P2 = some { cls := .none, data := .fields #[] }) :
    Inv X pins σ (upd (upd (upd H P (.tbl (ps ++ more))) c' (CodeN c' q P2)) P2 (.tbl #[])) { s with heap := h', toks := t' } := by
  have nC : H c' = none := I.hok.fresh hc
  have nT : H P2 = none := I.hok.fresh hP2
  have cP2 : c' ≠ P2 := by obtain ⟨_, _, _, _, _, _, _, _, _, _, _, _, _, _, _, _, _, _, z⟩ := hcd; exact z
  have nPc : P ≠ c' := ne_of_none hP nC
  have nPt : P ≠ P2 := ne_of_none hP nT
  have hx : ∀ b, b ≠ P → b ≠ c' → b ≠ P2 → (upd (upd (upd H P (.tbl (ps ++ more))) c' (CodeN c' q P2)) P2 (.tbl #[])) b = H b := fun b h1 h2 h3 => by rw [upd_ne h3, upd_ne h2, upd_ne h1]
  have hxP : (upd (upd (upd H P (.tbl (ps ++ more))) c' (CodeN c' q P2)) P2 (.tbl #[])) P = some (.tbl (ps ++ more)) := by rw [upd_ne nPt, upd_ne nPc, upd_same]
  have hxc : (upd (upd (upd H P (.tbl (ps ++ more))) c' (CodeN c' q P2)) P2 (.tbl #[])) c' = some (CodeN c' q P2) := by rw [upd_ne cP2, upd_same]
  have oP : ∀ b u, H b = some u → (∀ z, u ≠ .tbl z) → b ≠ P := fun b u e n z => n ps (Option.some.inj (e.symm.trans (z ▸ hP)))
  have eP : ∀ b, H b = none → b ≠ P := fun b e z => by rw [z, hP] at e; cases e
  have ol : ∀ b o, s.heap.get? b = some o → b ≠ c' ∧ b ≠ P2 := fun b o e =>
    ⟨fun z => Nat.lt_irrefl _ (Nat.lt_of_lt_of_le (Heap.lt_size e) (z ▸ hc)), fun z => Nat.lt_irrefl _ (Nat.lt_of_lt_of_le (Heap.lt_size e) (z ▸ hP2))⟩
  have on : ∀ b u, H b = some u → b ≠ c' ∧ b ≠ P2 := fun b u e => ⟨ne_of_none e nC, ne_of_none e nT⟩
  refine I.step (g' := s.gens) (d' := s.drawn) (ch := []) (fun b z => absurd z (by simp)) (fun b o _ _ _ e n => kp b o (eP b n) e) (fun b o _ _ _ e n => ⟨o.slots, kp b o (eP b n) e⟩)
    (fun b o _ e n => (hx b (eP b n) (ol b o e).1 (ol b o e).2).trans n) (fun b o _ e => ?there) (fun b xs e => (hx b (oP b _ e fun _ z => by cases z) (on b _ e).1 (on b _ e).2).trans e)
    (fun b o u e => (hx b (oP b _ e fun _ z => by cases z) (on b _ e).1 (on b _ e).2).trans e) (fun b qs e => ?tbls) (fun m z => ?ns) (fun b u e => ?hok) I.bare
  case there =>
    by_cases z : b = P
    · exact ⟨_, z ▸ hm⟩
    · exact ⟨o, kp b o z e⟩
  case tbls =>
    by_cases z : b = P
    · subst z
      rw [hP] at e
      cases e
      exact ⟨more, hxP⟩
    · exact ⟨#[], by rw [hx b z (on b _ e).1 (on b _ e).2, e]; simp⟩
  case ns =>
    obtain ⟨ob, es, ep, e, r⟩ := z
    exact ⟨ob, es, ep, kp _ _ (eP _ I.free) e, r⟩
  case hok =>
    by_cases z1 : b = P2
    · subst z1
      rw [upd_same] at e
      cases e
      exact ht
    by_cases z2 : b = c'
    · subst z2
      rw [hxc] at e
      cases e
      obtain ⟨oc, vs, t, e1, e2, e3⟩ := hn
      refine ⟨⟨⟨oc, vs, t, e1, e2, e3⟩, hcd⟩, ⟨oc, e1⟩, fun h1 h2 hq st => ?_⟩
      obtain ⟨⟨oc, vs, t, a1, a2, a3⟩, o, us, file, tf, flags, tg, inF, text, tt, b1, b2⟩ := hq
      exact ⟨⟨oc, vs, t, st _ a1, a2, a3⟩, o, us, file, tf, flags, tg, inF, text, tt, st _ b1, b2⟩
    by_cases z3 : b = P
    · subst z3
      rw [hxP] at e
      cases e
      exact hm
    rw [hx b z3 z2 z1] at e
    refine (I.hok b u e).stay (fun d v hd y => kp d v ?_ y) (fun d y => (hx d (oP d _ y fun _ z => by cases z) (on d _ y).1 (on d _ y).2).trans y) fun d xs y => (hx d (oP d _ y fun _ z => by cases z) (on d _ y).1 (on d _ y).2).trans y
    rcases hd with y | y
    · rw [y]; exact z3
    · exact oP d _ y fun _ z => by cases z
/-- .. and all tables stay well -/
theorem ct_code {C : List Cob} {ps : Array Value} {c' P2 : Addr} {pos : Pos} (hC : CTC G.kd (G.tabs ++ G.subs.map (·.2)) C H) (hm : (P, X.env.qual) ∈ G.tabs ++ G.subs.map (·.2)) (hP : H P = some (.tbl ps)) (ht : TriplesOk ps.toList) (nC : H c' = none) (nT : H P2 = none) (cP2 : c' ≠ P2)
    (h3 : ∀ (pos : Pos) (cv : Value), codeAmong pos ps.toList = some cv → ∃ c P2, cv = .ref c ∧ (c, nam_ X.env.qual (G.kd pos.line pos.col), pre_ X.env.qual (G.kd pos.line pos.col), P2) ∈ C) :
    CTC G.kd (G.tabs ++ G.subs.map (·.2)) ((c', nam_ X.env.qual (G.kd pos.line pos.col), pre_ X.env.qual (G.kd pos.line pos.col), P2) :: C)
      (upd (upd (upd H P (.tbl (ps ++ #[rawInt pos.line, rawInt pos.col, .ref c']))) c' (CodeN c' (nam_ X.env.qual (G.kd pos.line pos.col)) P2)) P2 (.tbl #[])) := by
  have nPc : P ≠ c' := ne_of_none hP nC
  have nPt : P ≠ P2 := ne_of_none hP nT
  have eL : (ps ++ #[rawInt pos.line, rawInt pos.col, .ref c']).toList = ps.toList ++ [rawInt pos.line, rawInt pos.col, .ref c'] := by simp
  have old : ∀ p q, TQ (G.tabs ++ G.subs.map (·.2)) C p q → p ≠ P2 := fun p q h z => by
    obtain ⟨us, e, _⟩ := hC.tab p q h
    rw [z, nT] at e
    cases e
  have tq : ∀ p q, TQ (G.tabs ++ G.subs.map (·.2)) ((c', nam_ X.env.qual (G.kd pos.line pos.col), pre_ X.env.qual (G.kd pos.line pos.col), P2) :: C) p q → (p = P2 ∧ q = pre_ X.env.qual (G.kd pos.line pos.col)) ∨ TQ (G.tabs ++ G.subs.map (·.2)) C p q := fun p q h => by
    rcases h with h | ⟨d, n, h⟩
    · exact .inr (.inl h)
    · rcases List.mem_cons.mp h with z | z
      · cases z
        exact .inl ⟨rfl, rfl⟩
      · exact .inr (.inr ⟨d, n, z⟩)
  refine ⟨fun k hk => ?_, fun p q h => ?_, fun p q q' h h' => ?_⟩
  · rcases List.mem_cons.mp hk with z | z
    · subst z
      show upd _ P2 _ c' = _
      rw [upd_ne cP2, upd_same]
    · have e := hC.obj k z
      rw [upd_ne (ne_of_none e nT), upd_ne (ne_of_none e nC), upd_ne (fun y => by rw [y, hP] at e; exact absurd (Option.some.inj e).symm (codeN_ne ps)), e]
  · rcases tq p q h with ⟨rfl, rfl⟩ | h
    · refine ⟨#[], upd_same, True.intro, fun pos' cv hc => ?_⟩
      have z : codeAmong pos' [] = some cv := hc
      simp [codeAmong] at z
    · obtain ⟨us, e1, e2, e3⟩ := hC.tab p q h
      by_cases z : p = P
      · subst z
        have hq : q = X.env.qual := hC.unq p q X.env.qual h (.inl hm)
        subst hq
        rw [hP] at e1
        cases e1
        refine ⟨_, by rw [upd_ne nPt, upd_ne nPc, upd_same], by rw [eL]; exact PySem.TriplesOk_snoc _ _ _ _ ht, fun pos' cv hc => ?_⟩
        rw [eL] at hc
        rcases NdefX.among_app2 _ ht hc with z | ⟨z, z1, z2⟩
        · obtain ⟨d, P3, y1, y2⟩ := e3 pos' cv z
          exact ⟨d, P3, y1, List.mem_cons_of_mem _ y2⟩
        · refine ⟨c', P2, z, ?_⟩
          rw [z1, z2]
          exact List.mem_cons_self
      · refine ⟨us, by rw [upd_ne (old p q h), upd_ne (ne_of_none e1 nC), upd_ne z, e1], e2, fun pos' cv hc => ?_⟩
        obtain ⟨d, P3, y1, y2⟩ := e3 pos' cv hc
        exact ⟨d, P3, y1, List.mem_cons_of_mem _ y2⟩
  · rcases tq p q h with ⟨y1, y2⟩ | y
    · rcases tq p q' h' with ⟨_, z2⟩ | z
      · rw [y2, z2]
      · exact absurd y1 (old p q' z)
    · rcases tq p q' h' with ⟨z1, z2⟩ | z
      · exact absurd z1 (old p q y)
      · exact hC.unq p q q' y z
theorem ct_ext {ps more : Array Value} {c' P2 : Addr} {q : Str} (hP : H P = some (.tbl ps)) (nC : H c' = none) (nT : H P2 = none) : ExtN H (upd (upd (upd H P (.tbl (ps ++ more))) c' (CodeN c' q P2)) P2 (.tbl #[])) := fun b o e n => by
  rw [upd_ne (ne_of_none e nT), upd_ne (ne_of_none e nC), upd_ne (fun z => n ps (by rw [z, hP] at e; exact (Option.some.inj e).symm)), e]
/-- a table of the frame entered is one of those -/
theorem ct_sub {C : List Cob} {c' P2 : Addr} {n q : Str} {H1 : Hp} (hC : CTC G.kd (G.tabs ++ G.subs.map (·.2)) C H1) (h : (c', n, q, P2) ∈ C) (h2 : ∀ x ∈ G.subs, ∃ n, H1 x.1 = some (CodeN x.1 n x.2.1)) : CT G.kd (G.sub (c', P2, q)).tabs (G.sub (c', P2, q)).subs H1 := by
  have tq : ∀ p r, TQ (G.tabs ++ ((c', P2, q) :: G.subs).map (·.2)) C p r → TQ (G.tabs ++ G.subs.map (·.2)) C p r := fun p r z => by
    rcases z with z | z
    · rcases List.mem_append.mp z with z | z
      · exact .inl (List.mem_append_left _ z)
      · rcases List.mem_cons.mp z with z | z
        · cases z
          exact .inr ⟨c', n, h⟩
        · exact .inl (List.mem_append_right _ z)
    · exact .inr z
  refine ⟨⟨C, hC.obj, fun p r z => hC.tab p r (tq p r z), fun p r r' z z' => hC.unq p r r' (tq p r z) (tq p r' z')⟩, fun x hx => ?_⟩
  rcases List.mem_cons.mp hx with z | z
  · subst z
    exact ⟨n, hC.obj _ h⟩
  · exact h2 x z
end
end DL
set_option Elab.async false
set_option linter.all false
set_option maxRecDepth 100000
set_option maxHeartbeats 1000000
namespace DL
open PySem L2 LamX PySem.Spec PyProof.Rows
section
variable {M : Model} {A : Around} {E : Value → Shared → Prop} {Q : Value → Shared → Prop} {s : Shared} {env : Env} {c P : Addr} {ps : Array Value} {mg : Str → Option Value}
/-- a lambda's function object, its code object new: the new one's own table is told too -/
theorem lam_fresh {nm ql : Str} {prm : Arguments} {bd : Expr} {sc : Scope} {cl : List (Str × Addr)} {at_ : Pos} {ln : Nat} (k1 : closureFor sc env = pure cl) (k2 : env.globals = mainGlobals) (k3 : s.heap.Ns mainGlobals mg) (k4 : env.code = .ref c)
    (k5 : PySem.W.CodeHd s.heap c P) (k6 : s.heap.get? P = some { cls := .none, data := .fields ps }) (k7 : TriplesOk ps.toList) (k8 : codeAmong at_ ps.toList = none) (k9 : mainGlobals ≠ P) (k10 : s.heap.BuiltinsAt mg P)
    (go : ∀ (c' P2 : Addr) (ctv : Value) (g : Heap) (tk : Tok), Heap.ExtBut P s.heap g → s.heap.objs.size ≤ c' → c' < g.objs.size → g.CodeRec (.ref c') ql → g.get? P = some { cls := .none, data := .fields (ps ++ #[rawInt at_.line, rawInt at_.col, .ref c']) } →
      s.heap.objs.size ≤ P2 → PySem.W.CodeHd g c' P2 → g.get? P2 = some { cls := .none, data := .fields #[] } →
      Q (.ref g.objs.size) { s with heap := g.push (PySem.W.kla_obj nm ql prm bd sc cl ((mg "__name__").getD .none) c' ctv), toks := tk }) :
    wpAny M A (makeFunction nm ql prm (.expr bd) sc env [] [] [] at_ ln) Q E s := by
  obtain ⟨bm, ob, b1, b2, _, b3, b4, b5, b6, b7⟩ := k10
  rw [makeFunction_eq]
  simp only [List.zip_nil_right, List.filterMap_nil, List.isEmpty_nil, if_true, pure_bind]
  unfold makeTail
  rw [k1, k2]
  refine wpAny_bind (wpAny_pure ?_)
  have fin : ∀ (h0 : Heap) (ctv : Value), (∀ b o, s.heap.get? b = some o → h0.get? b = some o) → s.heap.objs.size ≤ h0.objs.size → h0.Ns mainGlobals mg → ∀ (s1 : Shared), s1 = { s with heap := h0, toks := s1.toks } →
      wpAny M A (functionCode env at_ ln nm ql prm sc (.expr bd)) (fun cd s2 => ∃ (c' P2 : Addr) (g : Heap) (tk : Tok), cd = .ref c' ∧ s2 = { s with heap := g, toks := tk } ∧ Heap.ExtBut P s.heap g ∧ s.heap.objs.size ≤ c' ∧ c' < g.objs.size ∧ g.CodeRec (.ref c') ql ∧
        g.get? P = some { cls := .none, data := .fields (ps ++ #[rawInt at_.line, rawInt at_.col, .ref c']) } ∧ s.heap.objs.size ≤ P2 ∧ PySem.W.CodeHd g c' P2 ∧ g.get? P2 = some { cls := .none, data := .fields #[] } ∧ g.Ns mainGlobals mg) E s1 := fun h0 ctv e0 z0 n0 s1 es => by
    have eh : s1.heap = h0 := by rw [es]
    have a1 := k5.keeps e0
    have a2 := e0 _ _ k6
    rw [← eh] at a1 a2 n0 z0
    refine wpAny_functionCodeX k4 (a1.code a2 k7) (a1.tab a2) k8 fun c' g tk hx hge hlt _ hrec htb hnew => ?_
    obtain ⟨P2, y1, y2, y3⟩ := hnew
    refine ⟨c', P2, g, tk, rfl, by rw [es], fun b o hb e => hx b o hb (by rw [eh]; exact e0 _ _ e), Nat.le_trans z0 hge, hlt, hrec, htb.2, Nat.le_trans z0 y1, PySem.W.CodeHd.of y2 y3, y3.2, n0.extBut hx k9⟩
  cases cl with
  | nil =>
    simp only [List.isEmpty_nil, if_true]
    refine wpAny_bind (wpAny_pure (wpAny_bind (wpAny_mono (fin s.heap .none (fun _ _ e => e) (Nat.le_refl _) k3 s rfl) (fun cd s2 hq => ?_) fun _ _ e => e)))
    obtain ⟨c', P2, g, tk, rfl, rfl, q1, q2, q3, q4, q5, q6, q7, q8, q9⟩ := hq
    refine wpAny_bind (wpAny_builtinsFor q9 b1 b2 (q1 _ _ b3 b4) b5 b6 b7 (wpAny_bind (wpAny_nsGet q9 ?_)))
    exact wpAny_bind (wpAny_pure (wpAny_newObj_type (go c' P2 .none g tk q1 q2 q3 q4 q5 q6 q7 q8) (by size_fits)))
  | cons x xs =>
    simp only [List.isEmpty_cons, Bool.false_eq_true, if_false]
    refine wpAny_bind (wpAny_newTextTuple (wpAny_bind (wpAny_mono (fin _ .none (fun b o e => Heap.get?_push_of_some _ e) (by rw [Heap.size_push]; omega) (k3.push _) _ rfl) (fun cd s2 hq => ?_) fun _ _ e => e)))
    obtain ⟨c', P2, g, tk, rfl, rfl, q1, q2, q3, q4, q5, q6, q7, q8, q9⟩ := hq
    refine wpAny_bind (wpAny_builtinsFor q9 b1 b2 (q1 _ _ b3 b4) b5 b6 b7 (wpAny_bind (wpAny_nsGet q9 ?_)))
    exact wpAny_bind (wpAny_pure (wpAny_newObj_type (go c' P2 _ g tk q1 q2 q3 q4 q5 q6 q7 q8) (by size_fits)))
end
section
variable {X : Cx} {G : Gm} {c P : Addr} {pins : List (Addr × Obj)} {σ : L2.St} {H : Hp} {s : Shared}
/-- the function f made of a lambda here: its code object c' with the table P2 -/
structure LamMade (X : Cx) (G : Gm) (H : Hp) (pins : List (Addr × Obj)) (σ : L2.St) (params : Arguments) (body : Expr) (scope : Scope) (f c' P2 : Addr) (pm ctv : Value) (H1 : Hp) (s' : Shared) : Prop where
  inv : Inv X pins σ H1 s'
  ext : ExtN H H1
  tab : CT G.kd (G.sub (c', P2, X.env.qual ++ "<lambda>" ++ ".<locals>.")).tabs (G.sub (c', P2, X.env.qual ++ "<lambda>" ++ ".<locals>.")).subs H1
  obj : s'.heap.get? f = some (PySem.W.kla_obj "<lambda>" (X.env.qual ++ "<lambda>") params body scope (cloFrom X.env.cells scope.names []) pm c' ctv)
  new : H1 f = none
  nfr : f ∉ frs X.stack
  cod : H1 c' = some (CodeN c' (X.env.qual ++ "<lambda>") P2)
theorem lam_make {params : Arguments} {body : Expr} {scope : Scope} {pos : Pos} {E : Value → Shared → Prop} {Q : Value → Shared → Prop} (I : Inv X pins σ H s) (M : Mkr X G c P) (g : CT G.kd G.tabs G.subs H) (hk : G.kd pos.line pos.col = true) (hdef : defaultsOf params X.env = ([], []))
    (hfree : ∀ y ∈ scope.names, y.2 = .free → ∃ c, X.env.cells.lookup y.1 = some c) (h : ∀ f c' P2 pm ctv H1 s', LamMade X G H pins σ params body scope f c' P2 pm ctv H1 s' → Q (.ref f) s') :
    wpAny (model X.prog X.w) X.A (eval (.Lambda params body scope pos) X.env) Q E s := by
  obtain ⟨C, ps, hC, hP, hP', ht, hb, hgP, h3⟩ := M.tab I g
  have hcd := M.hd I g
  refine PySem.W.kla_eval hdef ?_
  have nofr : ∀ f, s.heap.objs.size ≤ f → f ∉ frs X.stack := fun f hf z => (List.mem_cons.mp (I.stkSub _ z)).elim (fun e => Nat.lt_irrefl _ (Nat.lt_of_lt_of_le I.lt (e ▸ hf))) (I.nofs hf)
  cases hc : codeAmong pos ps.toList with
  | none =>
    refine lam_fresh (mg := X.mg) (closure_ok hfree) I.ok.glob (I.mod.glob.keeps I.bk) M.code hcd hP' ht hc hgP hb fun c' P2 ctv g' tk q1 q2 q3 q4 q5 q6 q7 q8 => ?_
    obtain ⟨c2, oc, vs, t, e2, hoc, hd, hv⟩ := q4
    cases e2
    have nC : H c' = none := I.hok.fresh q2
    have nT : H P2 = none := I.hok.fresh q6
    have cP2 : c' ≠ P2 := by obtain ⟨_, _, _, _, _, _, _, _, _, _, _, _, _, _, _, _, _, _, z⟩ := id q7; exact z
    have hsz : s.heap.objs.size ≤ g'.objs.size := Nat.le_trans q2 (Nat.le_of_lt q3)
    have ekd : nam_ X.env.qual (G.kd pos.line pos.col) = X.env.qual ++ "<lambda>" := by rw [hk]; rfl
    have ekp : pre_ X.env.qual (G.kd pos.line pos.col) = X.env.qual ++ "<lambda>" ++ ".<locals>." := by rw [hk]; rfl
    have hC1 := ct_code (X := X) (G := G) (pos := pos) hC M.mem hP ht nC nT cP2 h3
    rw [ekd, ekp] at hC1
    have hE := ct_ext (ps := ps) (more := #[rawInt pos.line, rawInt pos.col, .ref c']) (c' := c') (P2 := P2) (q := X.env.qual ++ "<lambda>") hP nC nT
    have I1 := inv_code (t' := tk) (more := #[rawInt pos.line, rawInt pos.col, .ref c']) (q := X.env.qual ++ "<lambda>") (h' := g'.push (PySem.W.kla_obj "<lambda>" (X.env.qual ++ "<lambda>") params body scope (cloFrom X.env.cells scope.names []) ((X.mg "__name__").getD .none) c' ctv)) I hP
      (fun b o hb e => Heap.get?_push_of_some _ (q1 b o hb e)) (Heap.get?_push_of_some _ q5) q2 ⟨oc, vs, t, Heap.get?_push_of_some _ hoc, hd, hv⟩ (q7.keeps fun b o e => Heap.get?_push_of_some _ e) q6 (Heap.get?_push_of_some _ q8)
    refine h g'.objs.size c' P2 ((X.mg "__name__").getD .none) ctv _ _ ⟨I1, hE, ct_sub hC1 List.mem_cons_self fun x hx => ?_, Heap.get?_push_size _ rfl, ?_, nofr _ hsz, by rw [upd_ne cP2, upd_same]⟩
    · obtain ⟨n, e⟩ := g.2 x hx
      exact ⟨n, hE _ _ e codeN_ne⟩
    · have hl2 : P2 < g'.objs.size := Heap.lt_size q8
      rw [upd_ne (Nat.ne_of_gt hl2), upd_ne (Nat.ne_of_gt q3), upd_ne (Nat.ne_of_gt (Nat.lt_of_lt_of_le (Heap.lt_size hP') hsz))]
      exact I.hok.fresh hsz
  | some cv =>
    obtain ⟨c', P2, e, hm⟩ := h3 pos cv hc
    subst e
    rw [hk] at hm
    have hm : (c', X.env.qual ++ "<lambda>", X.env.qual ++ "<lambda>" ++ ".<locals>.", P2) ∈ C := hm
    refine PySem.W.kla_makeFunctionHit (mg := X.mg) (c := c) (P := P) (ps := ps) (closure_ok hfree) I.ok.glob (I.mod.glob.keeps I.bk) M.code hcd hP' ht hc hb fun ctv g' tk hx hsz => ?_
    have I1 : Inv X pins σ H { s with heap := g'.push (PySem.W.kla_obj "<lambda>" (X.env.qual ++ "<lambda>") params body scope (cloFrom X.env.cells scope.names []) ((X.mg "__name__").getD .none) c' ctv), toks := tk } := I.kept fun b o e => Heap.get?_push_of_some _ (hx b o e)
    exact h g'.objs.size c' P2 ((X.mg "__name__").getD .none) ctv H _ ⟨I1, ExtN.refl H, ct_sub hC hm g.2, Heap.get?_push_size _ rfl, I.hok.fresh hsz, nofr _ hsz, hC.obj _ hm⟩
end
end DL
set_option Elab.async false
set_option linter.all false
set_option maxRecDepth 100000
namespace DL
open PySem L2 LamX PySem.Spec PyProof.Rows
/-- what the clauses give back, one after the other -/
def wSel (K : PySem.W.Frag) (Q : VK) : List (Addr × Str) → Value → Hp → Prop
  | [], _, _ => False
  | (C, s) :: r, cls, H => ∃ b, PySem.W.exmOne K cls (.ref C) = some b ∧ (b = true → Q (.str s) H) ∧ (b = false → wSel K Q r cls H)
def TTm (K : PySem.W.Frag) (l : List (Addr × Str)) : (XK → Hp → VK → Prop) → Hp → VK → Prop := fun tl H Q => tl (fun cls _ H' => wSel K Q l cls H') H Q
def hdl (l : List (Addr × Str)) : List (Value × (Addr → Value → Option Addr → TS)) := l.map fun p => (.ref p.1, fun _ _ _ => tRet (tC (.str p.2)))
theorem wSel_many {K : PySem.W.Frag} {Q : VK} {De : Ends} (hq : ∀ v H, Q v H → De.rt v H) : ∀ {l : List (Addr × Str)} {cls : Value} {d : Option Addr} {sg : L2.St} {H : Hp}, wSel K Q l cls H → wMany K (fun _ _ _ _ => False) De (hdl l) cls d sg H
  | [], _, _, _, _, h => h
  | (C, s) :: r, cls, d, sg, H, ⟨b, e, h1, h2⟩ => ⟨b, e, fun hb a _ => hq _ _ (h1 hb), fun hb => wSel_many hq (h2 hb)⟩
inductive HdT (X : Cx) (sg : Scope) : List ExceptHandler → List (Addr × Str) → Prop
  | nil : HdT X sg [] []
  | cons {e : Str} {C : Addr} {s : Str} {j : Nat} {p4 p5 p6 p7 : Pos} {hds : List ExceptHandler} {l : List (Addr × Str)} (h1 : sg.names.lookup e = some .globalImplicit) (h2 : X.mg e = some (.ref C)) (h3 : (e == ("__debug__" : Str)) = false) (t : HdT X sg hds l) :
      HdT X sg (.ExceptHandler (some (.Name e p4)) none [.Return (some (.Constant (.str s) j p5)) p6] p7 :: hds) ((C, s) :: l)
section
variable {X : Cx}
/-- x, a def that calls what it got: a calls it; Kn: what is known of the made lambda's code; TT: what it makes of the lambda's reading -/
def GivesN (X : Cx) (Ng : List Str) (x : Str) (sg : Scope) (g : Addr) (cdg : Value) (bg : List Stmt) (a : Str) (TT : (XK → Hp → VK → Prop) → Hp → VK → Prop) : Prop :=
  ∀ (f : Addr) (Kn : Hp → Prop) (s : Shared) (H : Hp) (Q : VK) (tl : XK → Hp → VK → Prop),
    (∀ (W : WX) (pn : List (Addr × Obj)) (xe : Value → Shared → Prop) (Ech : XK) (q1 q2 : Pos), L2.Takes ((cxOf C8.CX0 X.prog X.w X.K X.mg X.base Ng x sg g cdg X.A X.stack s H C8.E0).tr pn xe) W → (∀ cls d sY HY, Ech cls d HY → W cls d sY HY) →
      PE ((cxOf C8.CX0 X.prog X.w X.K X.mg X.base Ng x sg g cdg X.A X.stack s H C8.E0).tr pn xe) (.Call (.Name a q1) [] [] q2) (fun sY HY QY => sY[0]? = some (some (.ref f)) ∧ Kn HY ∧ tl Ech HY QY)) →
    Kn H → TT tl H Q → ∃ t, PSs (cxOf C8.CX0 X.prog X.w X.K X.mg X.base Ng x sg g cdg X.A X.stack s H C8.E0).nox bg t ∧ t { nx := fun _ HY => Q .non HY, rt := Q } (L2.start Ng [.ref f]) H
theorem told_many {Ng : List Str} {x a : Str} {sg : Scope} {g : Addr} {cdg : Value} {p1 p2 p3 p8 : Pos} {h₀ : ExceptHandler} {hds : List ExceptHandler} {l : List (Addr × Str)} (hh : HdT X sg (h₀ :: hds) l) (h0 : ∀ f : Addr, (L2.start Ng [V.ref f])[0]? = some (some (V.ref f))) :
    GivesN X Ng x sg g cdg [.Try [.Return (some (.Call (.Name a p1) [] [] p2)) p3] (h₀ :: hds) [] [] p8] a (TTm X.K l) := by
  intro f Kn s H Q tl act hc h
  have hk : ∀ {hs : List ExceptHandler} {l : List (Addr × Str)}, HdT X sg hs l → HdsOk (cxOf C8.CX0 X.prog X.w X.K X.mg X.base Ng x sg g cdg X.A X.stack s H C8.E0).nox hs (hdl l) := fun {hs l} hh => by
    induction hh with
    | nil => exact .nil
    | cons h1 h2 h3 t ih => exact .cons ⟨h1, h3, .inl h2⟩ (fun a oe cls d pn _ _ => pss_one (ps_ret pe_str)) ih
  refine ⟨_, pss_one (ps_try_many (X := (cxOf C8.CX0 X.prog X.w X.K X.mg X.base Ng x sg g cdg X.A X.stack s H C8.E0).nox)
      (tb := fun W De sg' H' => ∃ Ech : XK, (∀ cls d s2 H2, Ech cls d H2 → W cls d s2 H2) ∧ sg'[0]? = some (some (.ref f)) ∧ Kn H' ∧ tl Ech H' De.rt)
      rfl rfl LamX.takes0 (fun W pn xe tk _ => ?_) (hk hh)), ?_⟩
  · refine ⟨fun pins s' sg' H' De I ⟨Ech, hW, h1, h2, h3⟩ => ?_⟩
    exact (pss_one (ps_ret (pos := p3) (act W pn xe Ech p1 p2 tk hW))).run pins s' sg' H' De I ⟨h1, h2, h3⟩
  · exact ⟨fun cls _ H' => wSel X.K Q l cls H', fun cls d s2 H2 hw => wSel_many (fun _ _ z => z) hw, h0 f, hc, h⟩
/-- an error told by its word -/
def toldD (l : List (Nat × List Nat)) : R D → R D
  | .ok d => .ok d
  | .err e => match l.lookup e.cls with
    | some s => .ok (.str s)
    | none => .stuck
  | .stuck => .stuck
  | .roll m f => .roll m fun i => toldD l (f i)
@[simp] theorem toldD_ok (l : List (Nat × List Nat)) (d : D) : toldD l (.ok d) = .ok d := rfl
/-- the clauses part the classes -/
def ExmOk (K : PySem.W.Frag) (G : Gm) (ks : List Nat) : Prop := ∀ i ∈ ks, ∀ j ∈ ks, PySem.W.exmOne K (.ref (G.xcls i)) (.ref (G.xcls j)) = some (i == j)
theorem wSel_of {K : PySem.W.Frag} {G : Gm} {Q : VK} {H : Hp} {i : Nat} {s : List Nat} : ∀ {l : List (Nat × List Nat)} (ks : List Nat), ExmOk K G ks → i ∈ ks → (∀ j ∈ l.map (·.1), j ∈ ks) → l.lookup i = some s → Q (.str ⟨s.toArray⟩) H → wSel K Q (l.map fun p => (G.xcls p.1, (⟨p.2.toArray⟩ : Str))) (.ref (G.xcls i)) H
  | [], ks, _, _, _, h, _ => by cases h
  | (j, t) :: l, ks, hx, hi, hl, h, q => by
    refine ⟨i == j, hx i hi j (hl j (by simp)), fun hb => ?_, fun hb => ?_⟩
    · rw [List.lookup_cons, hb] at h
      cases h
      exact q
    · rw [List.lookup_cons, hb] at h
      exact wSel_of ks hx hi (fun j hj => hl j (List.mem_cons_of_mem _ hj)) h q
theorem lookup_mem {i : Nat} {s : List Nat} : ∀ {l : List (Nat × List Nat)}, l.lookup i = some s → i ∈ l.map (·.1)
  | [], h => by cases h
  | p :: l, h => by
    rw [List.lookup_cons] at h
    split at h
    · rename_i hh
      exact List.mem_map.mpr ⟨p, List.mem_cons_self, (beq_iff_eq.mp hh).symm⟩
    · exact List.mem_cons_of_mem _ (lookup_mem h)
theorem takes_lam {A outer s H E scope f c'} : Takes (lamCx X A outer s H E scope f c') (WD E) := LG.Takes.ofL2 (L2.takes_of rfl rfl rfl rfl)
theorem Grow.ofExt {dl : Addr} {H H' : Hp} (e : ExtN H H') : Grow dl H H' := fun a o h _ nt => e a o h nt
theorem GlOk.ofExt {G : Gm} {dl : Addr} {H H' : Hp} (k : GlOk G dl H) (e : ExtN H H') (t : CT G.kd G.tabs G.subs H') : GlOk G dl H' := by
  obtain ⟨x, y, z, h⟩ := k.dice
  exact ⟨⟨x, y, z, e _ _ h fun ps z => by cases z⟩, t⟩
section
variable {G : Gm} {x : Addr × Addr × Str} {dl : Addr} {S H : Hp}
mutual
theorem rep_sub : ∀ {d : D} {v : V}, Rep (G.sub x) dl S d v ↔ Rep G dl S d v
  | .non, v => by unfold Rep; exact Iff.rfl
  | .bl b, v => by unfold Rep; exact Iff.rfl
  | .int i, v => by unfold Rep; exact Iff.rfl
  | .str s, v => by unfold Rep; exact Iff.rfl
  | .lst ds, v => by unfold Rep; exact exists_congr fun a => exists_congr fun vs => and_congr Iff.rfl (and_congr Iff.rfl repL_sub)
  | .tup ds, v => by unfold Rep; exact exists_congr fun a => exists_congr fun vs => and_congr Iff.rfl (and_congr Iff.rfl repL_sub)
  | .dic kvs, v => by unfold Rep; exact exists_congr fun a => exists_congr fun o => exists_congr fun kv => and_congr Iff.rfl (and_congr Iff.rfl repK_sub)
  | .ctup ds, v => by unfold Rep; exact exists_congr fun a => exists_congr fun vs => and_congr Iff.rfl (and_congr Iff.rfl repL_sub)
  | .tdic kvs, v => by unfold Rep; exact exists_congr fun a => exists_congr fun o => exists_congr fun kv => and_congr Iff.rfl (and_congr Iff.rfl repT_sub)
  | .cdic kvs, v => by unfold Rep; exact exists_congr fun a => and_congr Iff.rfl repC_sub
  | .ins c ds, v => by unfold Rep; exact exists_congr fun a => exists_congr fun dx => exists_congr fun vs => and_congr Iff.rfl (and_congr Iff.rfl (and_congr Iff.rfl repL_sub))
  | .dice, v => by unfold Rep; exact Iff.rfl
  | .fn n, v => by unfold Rep; exact Iff.rfl
  | .ktup ds, v => by unfold Rep; exact exists_congr fun a => exists_congr fun vs => exists_congr fun o => and_congr Iff.rfl (and_congr Iff.rfl (and_congr Iff.rfl (and_congr Iff.rfl repL_sub)))
theorem repL_sub : ∀ {ds : List D} {vs : List V}, RepL (G.sub x) dl S ds vs ↔ RepL G dl S ds vs
  | [], vs => by unfold RepL; exact Iff.rfl
  | d :: ds, vs => by unfold RepL; exact exists_congr fun v => exists_congr fun r => and_congr Iff.rfl (and_congr rep_sub repL_sub)
theorem repK_sub : ∀ {ds : List (D × D)} {vs : List (Key × V)}, RepK (G.sub x) dl S ds vs ↔ RepK G dl S ds vs
  | [], vs => by unfold RepK; exact Iff.rfl
  | (k, d) :: ds, vs => by unfold RepK; exact exists_congr fun y => exists_congr fun v => exists_congr fun r => and_congr Iff.rfl (and_congr Iff.rfl (and_congr rep_sub repK_sub))
theorem repT_sub : ∀ {ds : List (D × D)} {vs : List (List Key × V)}, RepT (G.sub x) dl S ds vs ↔ RepT G dl S ds vs
  | [], vs => by unfold RepT; exact Iff.rfl
  | (k, d) :: ds, vs => by unfold RepT; exact exists_congr fun y => exists_congr fun v => exists_congr fun r => and_congr Iff.rfl (and_congr Iff.rfl (and_congr rep_sub repT_sub))
theorem repC_sub : ∀ {a : Addr} {ds : List (List Nat × D)}, RepC (G.sub x) dl S a ds ↔ RepC G dl S a ds
  | a, [] => by unfold RepC; exact Iff.rfl
  | a, (k, d) :: ds => by unfold RepC; exact and_congr (exists_congr fun v => and_congr Iff.rfl rep_sub) repC_sub
end
theorem ownAt_sub {d : D} {o : Option HO} : OwnAt (G.sub x) dl S d o ↔ OwnAt G dl S d o := by
  unfold OwnAt
  split
  · exact exists_congr fun vs => and_congr Iff.rfl repL_sub
  · exact exists_congr fun kv => and_congr Iff.rfl repK_sub
  · exact exists_congr fun dx => exists_congr fun vs => and_congr Iff.rfl (and_congr Iff.rfl repL_sub)
  · exact exists_congr fun kv => and_congr Iff.rfl repT_sub
  · exact Iff.rfl
theorem GlOk.drop (k : GlOk (G.sub x) dl H) : GlOk G dl H := ⟨k.dice, k.tab.drop⟩
theorem GlOk.enter (k : GlOk G dl H) (t : CT (G.sub x).kd (G.sub x).tabs (G.sub x).subs H) : GlOk (G.sub x) dl H := ⟨k.dice, t⟩
variable {Z : List Addr} {O : List (Nat × Addr)} {r : LE} {sg : L2.St}
theorem slot_sub {i : Nat} {y : Option (Option V)} : ∀ {c : Cell}, Slot (G.sub x) dl Z O H i y c ↔ Slot G dl Z O H i y c
  | .un => Iff.rfl
  | .val d => exists_congr fun v => and_congr Iff.rfl rep_sub
  | .own d => exists_congr fun a => and_congr Iff.rfl (and_congr Iff.rfl (and_congr ownAt_sub Iff.rfl))
theorem At.drop (A : At (G.sub x) dl Z O r sg H) : At G dl Z O r sg H := ⟨A.gl.drop, A.dz, A.live, A.own, A.inj, A.len, fun i c e => slot_sub.mp (A.slot i c e)⟩
theorem At.enter (A : At G dl Z O r sg H) (t : CT (G.sub x).kd (G.sub x).tabs (G.sub x).subs H) : At (G.sub x) dl Z O r sg H := ⟨A.gl.enter t, A.dz, A.live, A.own, A.inj, A.len, fun i c e => slot_sub.mpr (A.slot i c e)⟩
end
section
variable {pins : List (Addr × Obj)} {σ : L2.St} {H : Hp} {s : Shared}
/-- the call, in the def that got the lambda -/
theorem act_pe {CXg : CXT} {Eg : XK} {Ng : List Str} {qg : Str} {sg : Scope} {g f c' P2 : Addr} {cdg pm ctv : Value} {prm : Arguments} {bd : Expr} {sc : Scope} {k i : Nat} {a : Str} {pn : List (Addr × Obj)} {xe : Value → Shared → Prop} {W : WX} {Ech : XK} {tb : TE} {q1 q2 : Pos}
    (I : Inv X pins σ H s) (L : LamS X.env.scope sc) (hf : s.heap.get? f = some (PySem.W.kla_obj "<lambda>" (X.env.qual ++ "<lambda>") prm bd sc (cloFrom X.env.cells sc.names []) pm c' ctv)) (hfn : H f = none) (hfr : f ∉ frs X.stack)
    (hbind : bindArgs (PySem.W.kla_fn "<lambda>" (X.env.qual ++ "<lambda>") prm bd sc (cloFrom X.env.cells sc.names []) pm (.ref c') ctv) ⟨[], []⟩ = pure [])
    (tk : L2.Takes ((cxOf CXg X.prog X.w X.K X.mg X.base Ng qg sg g cdg X.A X.stack s H Eg).tr pn xe) W) (hW : ∀ cls d sY HY, Ech cls d HY → W cls d sY HY) (hr : Room (k + 1) (X.A.deeper (envOfC qg sg s.heap.objs.size g cdg)))
    (hbody : ∀ (A : Around) (outer : List Env) (s : Shared) (H : Hp), Room k (A.deeper (lamEnv X sc s.heap.objs.size f c')) → PE (lamCx X A outer s H Ech sc f c') bd tb)
    (hN : Ng[i]? = some a) (hv : Vis sg a) (hd : (a == ("__debug__" : Str)) = false := by decide) (hcd : (a == ("__classdict__" : Str)) = false := by decide) :
    PE ((cxOf CXg X.prog X.w X.K X.mg X.base Ng qg sg g cdg X.A X.stack s H Eg).tr pn xe) (.Call (.Name a q1) [] [] q2)
      (fun sY HY QY => sY[i]? = some (some (.ref f)) ∧ HY c' = some (CodeN c' (X.env.qual ++ "<lambda>") P2) ∧ tb σ HY QY) := by
  refine ⟨fun pinsY sY oY HY QY IY ⟨w1, w2, w3⟩ => wpAny_Call_Name_kw (thn ((pe_var (pos := q1) (i := i) hN hv hd hcd).run pinsY sY oY HY (fun v HB => v = .ref f ∧ HB = HY) IY ⟨.ref f, w1, rfl, rfl⟩) fun u sB ⟨v, HB, IB, rB, qB⟩ => ?_)⟩
  obtain ⟨rfl, rfl⟩ := qB
  obtain rfl : u = Value.ref f := rB
  have oB : sB.heap.get? f = some (PySem.W.kla_obj "<lambda>" (X.env.qual ++ "<lambda>") prm bd sc (cloFrom X.env.cells sc.names []) pm c' ctv) := IB.base.keep f _ hf hfn hfr fun z => nomatch (show f ∈ ([] : List Addr) from z)
  have rc : codeAny (model X.prog X.w) (X.A.deeper (envOfC qg sg s.heap.objs.size g cdg)) (.call (.ref f) ⟨[], []⟩) (CR (L2.CX X.prog X.w) (envOfC qg sg s.heap.objs.size g cdg :: X.stack) X.prog X.w HB sB QY Ech) sB := by
    obtain ⟨oc, vs, t, y1, y2, y3⟩ := (codeN_at IB.hok w2).1
    refine PySem.W.kla_callFunE hr.depth oB rfl L.co L.gen rfl ⟨c', oc, vs, t, rfl, y1, y2, y3⟩ ?_
    rw [hbind]
    refine wpAny_pure (wpAny_newFunctionEnv (fun y hy => (L.own y hy).2) (fun y hy => absurd hy (by simp)) (fun hB hns hsb => ⟨IB.nolimit.fresh _ hsb, ?_⟩) L.kind)
    show codeAny _ _ (.expr bd (lamEnv X sc sB.heap.objs.size f c')) _ _
    refine PySem.W.kla_codeExpr (wpAny_mono ((hbody _ _ sB HB (hr.deeper _)).run [] _ _ HB QY (lam_start2 (tk := sB.toks + ([] : List (Str × Value)).length) I L IB.env0 hr.hd IB.base hns fun b o e => hsb.extBut b o (Nat.ne_of_lt (Heap.lt_size e)) (Heap.get?_push_of_some _ e)) w3) (fun v sZ hq => ?_) fun e sZ hq => hq)
    obtain ⟨wv, HZ, JZ, rZ, qZ⟩ := hq
    exact ⟨wv, HZ, JZ.os, JZ.bare, JZ.base, JZ.hok, rZ, qZ⟩
  refine PySem.W.callWith_F0 ⟨_, _, _, _, oB⟩ (wpAny_call (codeAny_mono rc fun r sZ hq => ?_))
  cases r with
  | error e => exact passes_call tk hW pinsY oY HB sB e sZ IB hq
  | ok fl =>
    cases fl with
    | ret u => exact IB.after hq
    | next | brk | cont => exact False.elim hq
/-- what a lambda handed on is read as: t, by the frame of its code -/
def tLamN (G : Gm) (q : Str) (TT : (XK → Hp → VK → Prop) → Hp → VK → Prop) (t : Addr × Addr × Str → XK → TE) : TE := fun σ H Q => CT G.kd G.tabs G.subs H ∧
  ∀ H1 c' P2, ExtN H H1 → CT (G.sub (c', P2, q)).kd (G.sub (c', P2, q)).tabs (G.sub (c', P2, q)).subs H1 → TT (fun Ech HY QY => t (c', P2, q) Ech σ HY QY) H1 Q
theorem pe_lamN {G : Gm} {TT : (XK → Hp → VK → Prop) → Hp → VK → Prop} {x a : Str} {g c P : Addr} {k : Nat} {pg : Arguments} {bg : List Stmt} {sg : Scope} {dV kV doc pm cdv ct oc : Value} {an od : Option Addr} {osl : Array (Option Value)} {Ng : List Str}
    {prm : Arguments} {bd : Expr} {sc : Scope} {t : Addr × Addr × Str → XK → TE} {p lpos pos : Pos} (hg : Gl X x) (hm : X.mg x = some (.ref g)) (hk : PySem.W.keepIn X.K (.ref g) = true)
    (lk : X.K.lookup g = some ⟨oc, od, .func (PySem.W.fnOf x x pg bg sg dV kV doc pm an cdv ct), osl⟩) (hcg : PySem.W.codeIn X.K cdv x = true) (hb : L2.Binds X.K (PySem.W.fnOf x x pg bg sg dV kV doc pm an cdv ct) [a] []) (Sg : FnScope Ng [a] sg) (hNg : Ng[0]? = some a) (hva : Vis sg a)
    (hG : GivesN X Ng x sg g cdv bg a TT) (M : Mkr X G c P) (hkd : G.kd lpos.line lpos.col = true) (hr : Room (k + 2) X.A) (L : LamS X.env.scope sc) (hdef : defaultsOf prm X.env = ([], []))
    (hbind : ∀ (q : Str) (cl : List (Str × Addr)) (pm cv ctv : Value), bindArgs (PySem.W.kla_fn "<lambda>" q prm bd sc cl pm cv ctv) ⟨[], []⟩ = pure [])
    (hbody : ∀ (A : Around) (outer : List Env) (s : Shared) (H : Hp) (Ech : XK) (f c' P2 : Addr), Room k (A.deeper (lamEnv X sc s.heap.objs.size f c')) → PE (lamCx X A outer s H Ech sc f c') bd (t (c', P2, X.env.qual ++ "<lambda>" ++ ".<locals>.") Ech))
    (hdb : (x == ("__debug__" : Str)) = false := by decide) (hd : (a == ("__debug__" : Str)) = false := by decide) (hcd : (a == ("__classdict__" : Str)) = false := by decide) :
    PE X (.Call (.Name x p) [.Lambda prm bd sc lpos] [] pos) (tLamN G (X.env.qual ++ "<lambda>" ++ ".<locals>.") TT t) := by
  refine ⟨fun pins s σ H Q I ⟨hT, h⟩ => wpAny_Call_Name_kw (ld_glob I hg hm ?_ hdb)⟩
  refine PySem.W.callWith_K (h₀ := X.base) I.ok.mod.kin hk ?_ (by rfl) (by rfl)
  show wpAny _ _ (spliced ((false, eval (.Lambda prm bd sc lpos) X.env) :: backTo pos (starEach [] X.env))) _ _ s
  refine Calls.spliced_cons (lam_make I M hT hkd hdef (L.has I.ok) fun f c' P2 pm' ctv H1 sA mA => ?_)
  refine Calls.spliced_nil ⟨mA.inv.kIn, ?_⟩
  refine wpAny_call (codeAny_mono (R := CR C8.CX0 X.stack X.prog X.w H1 sA Q C8.E0) ?_ fun r sB hq => ?_)
  · refine run_ofS (N := Ng) (ps := [a]) (us := [.ref f]) (vs := [.ref f]) lk hcg Sg hr mA.inv.env0 (hb sA [.ref f] mA.inv.kIn rfl) (.cons rfl .nil) rfl fun hrA => ?_
    obtain ⟨tA, htA, hqA⟩ := hG f (fun HY => HY c' = some (CodeN c' (X.env.qual ++ "<lambda>") P2)) sA H1 Q (fun Ech HY QY => t (c', P2, X.env.qual ++ "<lambda>" ++ ".<locals>.") Ech σ HY QY)
      (fun W pn xe Ech q1 q2 tk hW => act_pe (i := 0) mA.inv L mA.obj mA.new mA.nfr (hbind _ _ _ _ _) tk hW hrA (fun A outer s H hrB => hbody A outer s H Ech f c' P2 hrB) hNg hva hd hcd) mA.cod (h H1 c' P2 mA.ext mA.tab)
    exact ⟨tA, htA.nox, hqA⟩
  · cases r with
    | error e => exact (show False from hq).elim
    | ok fl =>
      cases fl with
      | ret u => exact mA.inv.after hq
      | next | brk | cont => exact False.elim hq
end
end
end DL
set_option Elab.async false
set_option linter.all false
set_option maxRecDepth 100000
namespace DL
open PySem L2 PySem.Spec PyProof.Rows
def RepPL (G : Gm) (dl : Addr) (H : Hp) (Z : List Addr) : List D → List V → Prop
  | [], vs => vs = []
  | d :: ds, vs => ∃ v r, vs = v :: r ∧ RepP G dl H Z d v ∧ RepPL G dl H Z ds r
theorem RepPL.grow {G : Gm} {dl : Addr} {Z : List Addr} {O : List (Nat × Addr)} {r : LE} {sg : L2.St} {H H' : Hp} (A : At G dl Z O r sg H) (g : Grow dl H H') : ∀ {ds : List D} {vs : List V}, RepPL G dl H Z ds vs → RepPL G dl H' Z ds vs
  | [], _, h => h
  | d :: ds, vs, ⟨v, r, e, h1, h2⟩ => ⟨v, r, e, h1.grow A g, RepPL.grow A g h2⟩
def tAp (G : Gm) (W : WX) (f : LE → R (List D)) : TA := fun sg H Q => ∃ dl Z O r, At G dl Z O r sg H ∧
  Wp (f r) (fun ds => ∀ vs H', Grow dl H H' → GlOk G dl H' → RepPL G dl H' Z ds vs → Q vs H')
    (fun e => ∀ cls dx H', Grow dl H H' → GlOk G dl H' → XRep G dl (cut H' Z) e cls dx H' → W cls dx sg H')
abbrev DAp (X : Cx) (G : Gm) (W : WX) (es : List Expr) (f : LE → R (List D)) : Prop := PA X es (tAp G W f)
/-- a call of a built-in by values -/
def CallD (X : Cx) (G : Gm) (fv : Value) (g : List D → R D) : Prop := ∃ rr : List V → Hp → VK → Prop, CallR X fv rr ∧
  ∀ (dl : Addr) (Z : List Addr) (O : List (Nat × Addr)) (r : LE) (sg : L2.St) (ds : List D) (vs : List V) (H : Hp) (Q : VK) (E : Exc → Prop), At G dl Z O r sg H → RepPL G dl H Z ds vs →
    Wp (g ds) (fun d => ∀ v H', Grow dl H H' → GlOk G dl H' → Rep G dl (cut H' Z) d v → Q v H') E → rr vs H Q
/-- .. that gives a new list -/
def CallF (X : Cx) (G : Gm) (fv : Value) (g : List D → R (List D)) : Prop := ∃ rr : List V → Hp → VK → Prop, CallR X fv rr ∧
  ∀ (dl : Addr) (Z : List Addr) (O : List (Nat × Addr)) (r : LE) (sg : L2.St) (ds : List D) (vs : List V) (H : Hp) (Q : VK) (E : Exc → Prop), At G dl Z O r sg H → RepPL G dl H Z ds vs →
    Wp (g ds) (fun ds => ∀ p vs H', Grow dl H H' → GlOk G dl H' → H' p = none → RepL G dl (cut H' Z) ds vs → Q (.ref p) (upd H' p (.lst vs))) E → rr vs H Q
section
variable {X : Cx} {G : Gm} {W : WX} {ex a b : Expr} {es : List Expr} {f : LE → R D} {fs : LE → R (List D)} {g : List D → R D} {gl : List D → R (List D)} {pos p : Pos} {x : Str} {id T : String}
theorem dap_nil : DAp X G W [] anil := PA_imp pa_nil fun sg H Q ⟨dl, Z, O, r, A, q⟩ => q [] H (.refl _ _) A.gl rfl
theorem dap_cons (ha : DP X G W a f) (hs : DAp X G W es fs) (hst : starEach (a :: es) X.env = (false, eval a X.env) :: starEach es X.env := by rfl) : DAp X G W (a :: es) (acons f fs) := PA_imp (pa_cons ha hs hst) fun sg H Q ⟨dl, Z, O, r, A, q⟩ => by
  refine ⟨dl, Z, O, r, A, q.bind.thn fun x hx v H1 g1 k1 rp => ?_⟩
  refine ⟨dl, Z, O, r, A.grow g1 k1, hx.bind.mono (fun xs hxs vs H2 g2 k2 rl => ?_) fun e => epost g1⟩
  exact hxs (v :: vs) H2 (g1.trans g2) k2 ⟨v, vs, rfl, rp.grow (A.grow g1 k1) g2, rl⟩
theorem de_callB (hc : CallD X G (.builtin id) g) (hm : X.mg x = none) (hv : bootBuiltins x = some (.builtin id)) (ha : DAp X G W (ex :: es) fs) (hg : Gl X x := by rfl) (hn : x ≠ "__name__" := by decide) (hdb : (x == ("__debug__" : Str)) = false := by decide)
    (he : starEach (ex :: es) X.env = (false, eval ex X.env) :: starEach es X.env := by rfl) (hpl : (backTo pos (starEach es X.env)).any (·.1) = false := by rfl) : DE X G W (.Call (.Name x p) (ex :: es) [] pos) (fun r => fs r >>= g) := by
  obtain ⟨rr, h1, h2⟩ := hc
  refine PE_imp (pe_callB h1 hg hm hv ha hn hdb he hpl) fun sg H Q ⟨dl, Z, O, r, A, q⟩ => ⟨dl, Z, O, r, A, q.bind.thn fun ds hd vs H1 g1 k1 rl => ?_⟩
  exact h2 dl Z O r sg ds vs H1 Q _ (A.grow g1 k1) rl (hd.thn fun d h v H' g' k' rp => h v H' (g1.trans g') k' rp)
theorem de_callT (hc : CallD X G (.type T) g) (hm : X.mg x = none) (hv : bootBuiltins x = some (.type T)) (ha : DAp X G W (ex :: es) fs) (hg : Gl X x := by rfl) (hn : x ≠ "__name__" := by decide) (hdb : (x == ("__debug__" : Str)) = false := by decide)
    (he : starEach (ex :: es) X.env = (false, eval ex X.env) :: starEach es X.env := by rfl) (hpl : (backTo pos (starEach es X.env)).any (·.1) = false := by rfl) : DE X G W (.Call (.Name x p) (ex :: es) [] pos) (fun r => fs r >>= g) := by
  obtain ⟨rr, h1, h2⟩ := hc
  refine PE_imp (pe_callTy h1 hg hm hv ha hn hdb he hpl) fun sg H Q ⟨dl, Z, O, r, A, q⟩ => ⟨dl, Z, O, r, A, q.bind.thn fun ds hd vs H1 g1 k1 rl => ?_⟩
  exact h2 dl Z O r sg ds vs H1 Q _ (A.grow g1 k1) rl (hd.thn fun d h v H' g' k' rp => h v H' (g1.trans g') k' rp)
theorem df_callT (hc : CallF X G (.type T) gl) (hm : X.mg x = none) (hv : bootBuiltins x = some (.type T)) (ha : DAp X G W (ex :: es) fs) (hg : Gl X x := by rfl) (hn : x ≠ "__name__" := by decide) (hdb : (x == ("__debug__" : Str)) = false := by decide)
    (he : starEach (ex :: es) X.env = (false, eval ex X.env) :: starEach es X.env := by rfl) (hpl : (backTo pos (starEach es X.env)).any (·.1) = false := by rfl) : DF X G W (.Call (.Name x p) (ex :: es) [] pos) (fun r => fs r >>= gl) := by
  obtain ⟨rr, h1, h2⟩ := hc
  refine PE_imp (pe_callTy h1 hg hm hv ha hn hdb he hpl) fun sg H Q ⟨dl, Z, O, r, A, q⟩ => ⟨dl, Z, O, r, A, q.bind.thn fun ds hd vs H1 g1 k1 rl => ?_⟩
  exact h2 dl Z O r sg ds vs H1 Q _ (A.grow g1 k1) rl (hd.thn fun d h p vs H' g' k' hp rl => h p vs H' (g1.trans g') k' hp rl)
def lenD : List D → R D
  | [.str s] => if s.length ≤ 16777216 then .ok (.int s.length) else .stuck
  | [.lst xs] => .ok (.int xs.length)
  | [.tup xs] => .ok (.int xs.length)
  | _ => .stuck
def tupleD : List D → R D
  | [.lst xs] => .ok (.tup xs)
  | [.tup xs] => .ok (.tup xs)
  | _ => .stuck
theorem RepPL.one {dl : Addr} {H : Hp} {Z : List Addr} {d : D} {vs : List V} (h : RepPL G dl H Z [d] vs) : ∃ v, vs = [v] ∧ RepP G dl H Z d v := by
  obtain ⟨v, r, rfl, h1, h2⟩ := h
  cases (show r = [] from h2)
  exact ⟨v, rfl, h1⟩
theorem cd_len (hG : G.K = X.K) : CallD X G (.builtin "len") lenD := by
  refine ⟨_, call_len, fun dl Z O r sg ds vs H Q E A rl h => ?_⟩
  unfold lenD at h
  split at h
  · split at h
    · rename_i s hs
      obtain ⟨v, rfl, rp⟩ := rl.one
      refine ⟨v, s.length, rfl, ?_, h _ H (.refl _ _) A.gl Rep.int_⟩
      rw [rp.str]
      exact ⟨by rw [sizeLine_eq]; simpa [Str.length] using hs, by simp [Str.length]⟩
    · exact h.elim
  · obtain ⟨v, rfl, rp⟩ := rl.one
    obtain ⟨a, us, rfl, e, rl'⟩ := rp.lst
    refine ⟨_, us.length, rfl, .inl ⟨us, SqL.of e, rfl⟩, ?_⟩
    rw [rl'.length]
    exact h _ H (.refl _ _) A.gl Rep.int_
  · obtain ⟨v, rfl, rp⟩ := rl.one
    obtain ⟨a, us, rfl, e, rl'⟩ := rp.tup
    refine ⟨_, us.length, rfl, .inr ⟨us, hG ▸ e, rfl⟩, ?_⟩
    rw [rl'.length]
    exact h _ H (.refl _ _) A.gl Rep.int_
  · exact h.elim
theorem cd_tuple (hG : G.K = X.K) : CallD X G (.type "tuple") tupleD := by
  refine ⟨_, call_tuple_of, fun dl Z O r sg ds vs H Q E A rl h => ?_⟩
  unfold tupleD at h
  split at h
  · obtain ⟨v, rfl, rp⟩ := rl.one
    obtain ⟨a, us, rfl, e, rl'⟩ := rp.lst
    exact ⟨a, us, rfl, .inl ⟨SqL.of e, fun l hl => h _ _ (.new hl) (A.gl.new hl) (Rep.tup_new A hl rl')⟩⟩
  · obtain ⟨v, rfl, rp⟩ := rl.one
    obtain ⟨a, us, rfl, e, rl'⟩ := rp.tup
    rcases rp with rp | ⟨_, _, _, _, rp⟩
    · exact ⟨a, us, rfl, .inr ⟨hG ▸ e, h _ _ (.refl _ _) A.gl rp⟩⟩
    · exact rp.elim
  · exact h.elim
theorem Vals_back {xs : List V} {us : List Value} {i : Nat} {u : Value} (r : Vals xs us) (e : us[i]? = some u) : ∃ x, xs[i]? = some x ∧ RelV x u := by
  have hl := r.length
  obtain ⟨h1, h2⟩ := List.getElem?_eq_some_iff.mp e
  have hx : xs[i]? = some (xs[i]'(by omega)) := by simp
  obtain ⟨u', h3, h4⟩ := r.get hx
  rw [e] at h3
  cases h3
  exact ⟨_, hx, h4⟩
theorem CallR.or {f : Value} {r1 r2 : List V → Hp → VK → Prop} (h1 : CallR X f r1) (h2 : CallR X f r2) : CallR X f (fun vs H Q => r1 vs H Q ∨ r2 vs H Q) := fun pins s sg H xs us Q I r h => by
  rcases h with h | h
  · exact h1 pins s sg H xs us Q I r h
  · exact h2 pins s sg H xs us Q I r h
end
end DL
set_option Elab.async false
set_option linter.all false
set_option maxRecDepth 100000
namespace DL
open PySem L2 PySem.Spec PyProof.Rows
def D.key1 : D → Bool
  | .int _ => true
  | .str _ => true
  | _ => false
def D.keq : D → D → Bool
  | .int i, .int j => i == j
  | .str s, .str t => s == t
  | _, _ => false
theorem keq_key {a b : D} {x y : Key} (h1 : a.key = some x) (h2 : b.key = some y) : a.keq b = decide (x = y) := by
  cases a <;> simp [D.key] at h1 <;> subst h1 <;> cases b <;> simp [D.key] at h2 <;> subst h2 <;> rw [Bool.eq_iff_iff] <;> simp [D.keq]
def getD (kvs : List (D × D)) (k : D) : Option D := (kvs.find? fun p => p.1.keq k).map (·.2)
/-- x in y -/
def inB (x : D) : D → R Bool
  | .lst ys => if x.sh 62 && D.shs ys 62 then .ok (ys.any fun z => z.eqb x) else .stuck
  | .tup ys => if x.sh 62 && D.shs ys 62 then .ok (ys.any fun z => z.eqb x) else .stuck
  | .str t => match x with
    | .str [c] => .ok (decide (c ∈ t))
    | _ => .stuck
  | .dic kvs => if x.key1 then .ok ((getD kvs x).isSome) else .stuck
  | _ => .stuck
def inD (x y : D) : R D := inB x y >>= fun b => .ok (.bl b)
def notInD (x y : D) : R D := inB x y >>= fun b => .ok (.bl (!b))
theorem toPs_any {x : D} {n : Nat} (hx : x.sh n = true) : ∀ {ys : List D} {m : Nat}, D.shs ys m = true → ((D.toPs ys).any fun z => PyData.eqv z x.toP) = ys.any fun z => z.eqb x
  | [], m, h => rfl
  | y :: ys, m, h => by
    simp only [D.shs, Bool.and_eq_true] at h
    simp only [D.toPs, List.any_cons, toPs_any hx h.2, eqb_eqv y x m n h.1 hx]
mutual
theorem sh_mono : ∀ (d : D) (n m : Nat), n ≤ m → d.sh n = true → d.sh m = true
  | .non, _, _, _, _ => rfl
  | .bl _, _, _, _, _ => rfl
  | .int _, _, _, _, _ => rfl
  | .str s, n, m, _, h => by simpa [D.sh] using h
  | .lst xs, n, m, h1, h2 => by
    cases n <;> first | (simp [D.sh] at h2; done) | skip
    cases m <;> first | omega | skip
    simp only [D.sh] at h2 ⊢
    exact shs_mono xs _ _ (by omega) h2
  | .tup xs, n, m, h1, h2 => by
    cases n <;> first | (simp [D.sh] at h2; done) | skip
    cases m <;> first | omega | skip
    simp only [D.sh] at h2 ⊢
    exact shs_mono xs _ _ (by omega) h2
  | .dic _, n, m, _, h => by simp [D.sh] at h
  | .cdic _, n, m, _, h => by simp [D.sh] at h
  | .ins _ _, n, m, _, h => by simp [D.sh] at h
  | .dice, n, m, _, h => by simp [D.sh] at h
  | .fn _, n, m, _, h => by simp [D.sh] at h
theorem shs_mono : ∀ (ds : List D) (n m : Nat), n ≤ m → D.shs ds n = true → D.shs ds m = true
  | [], _, _, _, _ => rfl
  | d :: ds, n, m, h1, h2 => by
    simp only [D.shs, Bool.and_eq_true] at h2 ⊢
    exact ⟨sh_mono d n m h1 h2.1, shs_mono ds n m h1 h2.2⟩
end
section
variable {X : Cx} {G : Gm} {W : WX}
/-- x in a tuple of data -/
def rInTD (K : PySem.W.Frag) (neg : Bool) : R2 := fun x y H Q => ∃ d ds, Dp K H x d ∧ Dp K H y (.tuple ds) ∧ SeqAt.shaped d = true ∧ SeqAt.shaped (.tuple ds) = true ∧ Q (.bl (if neg then !ds.any fun z => PyData.eqv z d else ds.any fun z => PyData.eqv z d)) H
theorem room_tup {A : Around} {ds : List PyData} {d : PyData} (sd : SeqAt.shaped d = true) (hu : A.units + 66 < cLine) : A.units + 1 + min (PyData.depthAll ds) d.depth < cLine := by
  have := SeqAt.depth_of_shaped sd
  omega
theorem op_inTD (hu : X.A.units + 66 < cLine) : OpR X (compareOp .In) (rInTD X.K false) := by
  intro pins s sg H x y v u Q I rx ry ⟨d, ds, hd, he, sd, se, q⟩
  obtain ⟨as, r1⟩ := Dp.reads I d x v hd rx
  obtain ⟨bs, r2⟩ := Dp.reads I (.tuple ds) y u he ry
  exact SeqAt.in_tuple_reads r2 r1 (SeqAt.canLay_of_shaped se) (SeqAt.canLay_of_shaped sd) (room_tup sd hu) ⟨.bl _, H, I, rfl, q⟩
theorem op_notInTD (hu : X.A.units + 66 < cLine) : OpR X (compareOp .NotIn) (rInTD X.K true) := by
  intro pins s sg H x y v u Q I rx ry ⟨d, ds, hd, he, sd, se, q⟩
  obtain ⟨as, r1⟩ := Dp.reads I d x v hd rx
  obtain ⟨bs, r2⟩ := Dp.reads I (.tuple ds) y u he ry
  exact SeqAt.notIn_tuple_reads r2 r1 (SeqAt.canLay_of_shaped se) (SeqAt.canLay_of_shaped sd) (room_tup sd hu) ⟨.bl _, H, I, rfl, q⟩
def rInDc (neg : Bool) : R2 := fun x y H Q => ∃ a o, y = .ref a ∧ DGet H a x o ∧ Q (.bl (if neg then !o.isSome else o.isSome)) H
theorem op_inDc (hu : X.A.units + 66 < cLine) : OpR X (compareOp .In) (rInDc false) := by
  intro pins s sg H x y v u Q I rx ry ⟨a, o, ey, g, q⟩
  subst ey
  obtain rfl : u = Value.ref a := ry
  exact d_in (by omega) I g rx fun s3 I3 => ⟨.bl o.isSome, H, I3, rfl, q⟩
theorem op_notInDc (hu : X.A.units + 66 < cLine) : OpR X (compareOp .NotIn) (rInDc true) := by
  intro pins s sg H x y v u Q I rx ry ⟨a, o, ey, g, q⟩
  subst ey
  obtain rfl : u = Value.ref a := ry
  exact d_notIn (by omega) I g rx fun s3 I3 => ⟨.bl (!o.isSome), H, I3, rfl, q⟩
theorem key_kV {d : D} {x : Key} {dl : Addr} {H : Hp} {Z : List Addr} {v : V} (h : d.key = some x) (rp : RepP G dl H Z d v) : v = kV x := by
  cases d <;> simp [D.key] at h <;> subst h
  · rw [rp.int]; rfl
  · rw [rp.str]; rfl
theorem key1_key {d : D} (h : d.key1 = true) : ∃ x, d.key = some x := by
  cases d <;> simp [D.key1] at h
  · exact ⟨_, rfl⟩
  · exact ⟨_, rfl⟩
theorem RepP.dic {dl : Addr} {H : Hp} {Z : List Addr} {v : V} {kvs : List (D × D)} (h : RepP G dl H Z (.dic kvs) v) : ∃ a kv, v = .ref a ∧ Rd H a (.dK kv) ∧ RepK G dl (cut H Z) kvs kv := by
  rcases h with h | ⟨a, e, hz, hd, q⟩
  · unfold Rep at h
    obtain ⟨a, o, kv, e, q, rl⟩ := h
    exact ⟨a, kv, e, .inr ⟨o, cut_grow H Z a _ q fun ps z => by cases z⟩, rl⟩
  · obtain ⟨kv, e2, rl⟩ := q
    exact ⟨a, kv, e, .inl e2, rl⟩
theorem getD_of {dl : Addr} {S : Hp} {k : D} {x : Key} (hk : k.key = some x) : ∀ {kvs : List (D × D)} {kv : List (Key × V)}, RepK G dl S kvs kv → (getD kvs k = none ∧ valV kv x = none) ∨ ∃ d v, getD kvs k = some d ∧ valV kv x = some v ∧ Rep G dl S d v
  | [], kv, h => by
    unfold RepK at h
    subst h
    exact .inl ⟨rfl, rfl⟩
  | (k', d) :: kvs, kv, h => by
    unfold RepK at h
    obtain ⟨y, v, r, rfl, hk', rp, h2⟩ := h
    have e := keq_key hk' hk
    by_cases q : y = x
    · refine .inr ⟨d, v, ?_, valV_pos q, rp⟩
      unfold getD
      rw [List.find?_cons, show k'.keq k = true by rw [e]; exact decide_eq_true q]
      rfl
    · have e2 : k'.keq k = false := by rw [e]; exact decide_eq_false q
      have h3 : getD ((k', d) :: kvs) k = getD kvs k := by
        unfold getD
        rw [List.find?_cons, e2]
      rw [h3, valV_neg q]
      exact getD_of hk h2
theorem in_core {neg : Bool} {rr : R2} (hG : G.K = X.K)
    (hL : ∀ {x y : V} {H : Hp} {Q : VK} {d : PyData} {ds : List PyData}, Dp X.K H x d → Dp X.K H y (.list ds) → SeqAt.shaped d = true → SeqAt.shaped (.list ds) = true → Q (.bl (if neg then !ds.any fun z => PyData.eqv z d else ds.any fun z => PyData.eqv z d)) H → rr x y H Q)
    (hT : ∀ {x y : V} {H : Hp} {Q : VK}, rInTD X.K neg x y H Q → rr x y H Q) (hS : ∀ {c : Nat} {z : Str} {H : Hp} {Q : VK}, Q (.bl (if neg then !decide (c ∈ z.cps.toList) else decide (c ∈ z.cps.toList))) H → rr (.str ⟨#[c]⟩) (.str z) H Q) (hD : ∀ {x y : V} {H : Hp} {Q : VK}, rInDc neg x y H Q → rr x y H Q)
    (dl : Addr) (Z : List Addr) (O : List (Nat × Addr)) (r : LE) (sg : L2.St) (x y : D) (vx vy : V) (H : Hp) (Q : VK) (E : Exc → Prop) (A : At G dl Z O r sg H) (hx : RepP G dl H Z x vx) (hy : RepP G dl H Z y vy)
    (h : Wp (inB x y >>= fun b => R.ok (D.bl (if neg then !b else b))) (fun d => ∀ v H', Grow dl H H' → GlOk G dl H' → Rep G dl (cut H' Z) d v → Q v H') E) : rr vx vy H Q := by
  unfold inB at h
  split at h
  · split at h
    · rename_i ys hc
      rw [Bool.and_eq_true] at hc
      have e := toPs_any hc.1 hc.2
      refine hL (d := x.toP) (ds := D.toPs ys) (hG ▸ hx.dp hc.1) (hG ▸ (RepP.dp (n := 63) (by simpa [D.sh] using hc.2) hy)) (sh_shaped (sh_mono _ _ _ (by decide) hc.1)) (sh_shaped (d := .lst ys) (by simpa [D.sh] using shs_mono _ _ 63 (by decide) hc.2)) ?_
      rw [e]
      exact h _ H (.refl _ _) A.gl Rep.bl_
    · exact h.elim
  · split at h
    · rename_i ys hc
      rw [Bool.and_eq_true] at hc
      have e := toPs_any hc.1 hc.2
      refine hT ⟨x.toP, D.toPs ys, hG ▸ hx.dp hc.1, hG ▸ (RepP.dp (n := 63) (by simpa [D.sh] using hc.2) hy), sh_shaped (sh_mono _ _ _ (by decide) hc.1), sh_shaped (d := .tup ys) (by simpa [D.sh] using shs_mono _ _ 63 (by decide) hc.2), ?_⟩
      rw [e]
      exact h _ H (.refl _ _) A.gl Rep.bl_
    · exact h.elim
  · split at h
    · rename_i t _ c
      rw [hx.str, hy.str]
      refine hS ?_
      have := h (.bl (if neg then !decide (c ∈ t) else decide (c ∈ t))) H (.refl _ _) A.gl Rep.bl_
      simpa using this
    · exact h.elim
  · split at h
    · rename_i kvs hk1
      obtain ⟨k, hk⟩ := key1_key hk1
      obtain ⟨a, kv, rfl, hrd, rk⟩ := hy.dic
      refine hD ⟨a, valV kv k, rfl, .inl ⟨kv, k, hrd, key_kV hk hx, rfl⟩, ?_⟩
      have hsome : (valV kv k).isSome = (getD kvs x).isSome := by
        rcases getD_of hk rk with ⟨e1, e2⟩ | ⟨d, v, e1, e2, _⟩ <;> simp [e1, e2]
      rw [hsome]
      exact h _ H (.refl _ _) A.gl Rep.bl_
    · exact h.elim
  · exact h.elim
theorem op_in_d (hG : G.K = X.K) (hu : X.A.units + 70 < cLine) : OpD X G (compareOp .In) inD := by
  refine ⟨_, OpR.or (op_inD (by omega)) (OpR.or (op_inTD (by omega)) (OpR.or op_in_sign (op_inDc (by omega)))), ?_⟩
  exact in_core (neg := false) hG (fun h1 h2 h3 h4 q => .inl ⟨_, _, h1, h2, h3, h4, q⟩) (fun h => .inr (.inl h)) (fun q => .inr (.inr (.inl ⟨_, _, rfl, rfl, q⟩))) (fun h => .inr (.inr (.inr h)))
theorem op_notin_d (hG : G.K = X.K) (hu : X.A.units + 70 < cLine) : OpD X G (compareOp .NotIn) notInD := by
  refine ⟨_, OpR.or (op_notInD (by omega)) (OpR.or (op_notInTD (by omega)) (OpR.or op_notIn_sign (op_notInDc (by omega)))), ?_⟩
  exact in_core (neg := true) hG (fun h1 h2 h3 h4 q => .inl ⟨_, _, h1, h2, h3, h4, q⟩) (fun h => .inr (.inl h)) (fun q => .inr (.inr (.inl ⟨_, _, rfl, rfl, q⟩))) (fun h => .inr (.inr (.inr h)))
end
end DL
set_option Elab.async false
set_option linter.all false
set_option maxRecDepth 100000
namespace DL
open PySem L2 PySem.Spec PyProof.Rows
def getC (kvs : List (List Nat × D)) (k : List Nat) : Option D := (kvs.find? fun p => p.1 == k).map (·.2)
def subI (x y : D) : R D := match x with
  | .dic kvs => if y.key1 then (match getD kvs y with
    | some d => .ok d
    | none => .stuck) else .stuck
  | .cdic kvs => match y with
    | .str s => match getC kvs s with
      | some d => .ok d
      | none => .stuck
    | _ => .stuck
  | x => ixD x y
section
variable {X : Cx} {G : Gm} {W : WX} {ex a b : Expr} {es : List Expr} {f g : LE → R D} {fs : LE → R (List D)} {pos p : Pos} {dl : Addr} {S H : Hp} {Z : List Addr}
def rIxDK : R2 := fun x y H Q => ∃ a v, x = .ref a ∧ DGet H a y (some v) ∧ Q v H
theorem ix_dict (hu : X.A.units + 1 < cLine) : IxR X rIxDK := by
  intro value slice pins s sg H x y v u Q I rx ry h hs
  obtain ⟨p, r, rfl, g, q⟩ := h
  obtain rfl : v = Value.ref p := rx
  exact tail_any (dict_typeIs I g) PySem.F.slot_dict_getitem.lookup (d_getItem hu I g ry fun w' s3 I3 rw' => ⟨r, H, I3, rw', q⟩) hs
theorem RepP.cdic {v : V} {kvs : List (List Nat × D)} (h : RepP G dl H Z (.cdic kvs) v) : ∃ a, v = .ref a ∧ RepC G dl (cut H Z) a kvs := by
  rcases h with h | ⟨a, e, hz, hd, q⟩
  · unfold Rep at h
    exact h
  · exact q.elim
theorem getC_of {a : Addr} {k : List Nat} {d : D} : ∀ {kvs : List (List Nat × D)}, RepC G dl S a kvs → getC kvs k = some d → ∃ v, KDct G.K G.w a ⟨k.toArray⟩ v ∧ Rep G dl S d v
  | [], h, e => by simp [getC] at e
  | (k', d') :: kvs, h, e => by
    unfold RepC at h
    unfold getC at e
    rw [List.find?_cons] at e
    by_cases q : k' = k
    · subst q
      simp at e
      subst e
      exact h.1
    · rw [show (k' == k) = false from beq_eq_false_iff_ne.mpr q] at e
      exact getC_of h.2 e
theorem de_sub (hG : G.K = X.K) (hw : G.w = X.w) (hu : X.A.units + 70 < cLine) (ha : DP X G W a f) (hb : DP X G W b g) (hs : PlainIx b) : DE X G W (.Subscript a b pos) (fun r => do let x ← f r; let y ← g r; subI x y) := by
  refine PE_imp (pe_ix (IxR.or (ix_dict (by omega)) (IxR.or ix_kdict ix_seq)) ha hb hs) fun sg H Q h => ?_
  refine op_core (fun dl Z O r sg x y vx vy H Q E A hx hy h => ?_) h
  cases x with
  | dic kvs =>
    unfold subI at h
    dsimp only at h
    split at h
    · rename_i hk1
      obtain ⟨kk, hk⟩ := key1_key hk1
      obtain ⟨a, kv, rfl, hrd, rk⟩ := hx.dic
      split at h
      · rename_i d hd
        rcases getD_of hk rk with ⟨e1, e2⟩ | ⟨d', v, e1, e2, rp⟩
        · rw [e1] at hd; cases hd
        · rw [e1] at hd
          cases hd
          exact .inl ⟨a, v, rfl, .inl ⟨kv, kk, hrd, key_kV hk hy, e2.symm⟩, h v H (.refl _ _) A.gl rp⟩
      · exact h.elim
    · exact h.elim
  | cdic kvs =>
    cases y <;> first | exact h.elim | skip
    rename_i s
    unfold subI at h
    dsimp only at h
    split at h
    · rename_i d hd
      obtain ⟨a, rfl, rc⟩ := hx.cdic
      obtain ⟨v, kd, rp⟩ := getC_of rc hd
      exact .inr (.inl ⟨a, ⟨s.toArray⟩, v, rfl, hy.str, hG ▸ hw ▸ kd, h v H (.refl _ _) A.gl rp⟩)
    · exact h.elim
  | lst xs =>
    cases y <;> first | exact h.elim | skip
    rename_i i
    unfold subI ixD at h
    dsimp only at h
    split at h
    · rename_i d hd
      obtain ⟨p, vs, rfl, h1, rl⟩ := hx.lst
      obtain ⟨v, h2, rp⟩ := atI_rep rl hd
      exact .inr (.inr (.inl ⟨p, vs, i, v, rfl, hy.int, SqL.of h1, h2, h v H (.refl _ _) A.gl rp⟩))
    · exact h.elim
  | tup xs =>
    cases y <;> first | exact h.elim | skip
    rename_i i
    unfold subI ixD at h
    dsimp only at h
    split at h
    · rename_i d hd
      obtain ⟨p, vs, rfl, h1, rl⟩ := hx.tup
      obtain ⟨v, h2, rp⟩ := atI_rep rl hd
      exact .inr (.inr (.inr (.inl ⟨p, vs, i, v, rfl, hy.int, hG ▸ h1, h2, h v H (.refl _ _) A.gl rp⟩)))
    · exact h.elim
  | str s =>
    cases y <;> first | exact h.elim | skip
    rename_i i
    unfold subI ixD at h
    dsimp only at h
    split at h
    · rename_i hz
      split at h
      · rename_i c hc
        refine .inr (.inr (.inr (.inr ⟨_, i, c, hx.str, hy.int, by rw [sizeLine_eq]; simpa [Str.length] using hz, hc, ?_⟩)))
        exact h _ H (.refl _ _) A.gl (Rep.str_ (x := [c]))
      · exact h.elim
    · exact h.elim
  | non => cases y <;> exact h.elim
  | bl b => cases y <;> exact h.elim
  | int b => cases y <;> exact h.elim
  | ins c b => cases y <;> exact h.elim
  | dice => cases y <;> exact h.elim
  | fn b => cases y <;> exact h.elim
  | ktup b => cases y <;> exact h.elim
  | ctup b => cases y <;> exact h.elim
  | tdic b => cases y <;> exact h.elim
def negD : D → R D
  | .int i => .ok (.int (-i))
  | _ => .stuck
def isT (T : String) : D → R D
  | .str s => if T = "str" then .ok (.str s) else .stuck
  | .lst xs => if T = "list" then .ok (.lst xs) else .stuck
  | .dic xs => if T = "dict" then .ok (.dic xs) else .stuck
  | _ => .stuck
def TyW (K : PySem.W.Frag) (T : String) (x : V) (H : Hp) : Prop := tyV K T x H ∨ (T = "dict" ∧ ∃ p kvs, x = .ref p ∧ Rd H p (.dK kvs))
theorem tyW_is {pins : List (Addr × Obj)} {sg : L2.St} {H : Hp} {s : Shared} {T : String} {x : V} {v : Value} (I : Inv X pins sg H s) (r : RelV x v) (ty : TyW X.K T x H) :
    s.TypeIs v T ∧ ∀ a, v = .ref a → ∃ ob, s.heap.get? a = some ob ∧ ob.dict = none := by
  rcases ty with ty | ⟨rfl, p, kvs, rfl, hd⟩
  · exact tyV_is I r ty
  · cases r
    obtain ⟨_, _, vs, _, dd⟩ := dk_rd I.hok hd
    refine ⟨dd.typeIs, fun b q => ?_⟩
    cases q
    obtain ⟨ob, _, _, h1, h2, _⟩ := dd
    exact ⟨ob, h1, h2.2.1⟩
theorem isT_wp {T : String} {d : D} {Q : D → Prop} {E : Exc → Prop} (h : Wp (isT T d) Q E) : Q d ∧ ∀ (hG : G.K = X.K) {v : V}, RepP G dl H Z d v → TyW X.K T v H := by
  unfold isT at h
  split at h
  all_goals first | exact h.elim | skip
  all_goals split at h
  all_goals first | exact h.elim | skip
  all_goals rename_i e
  all_goals subst e
  all_goals refine ⟨h, fun hG v rp => ?_⟩
  · rw [rp.str]; exact .inl rfl
  · obtain ⟨a, vs, rfl, h1, _⟩ := rp.lst
    exact .inl (.inl ⟨rfl, vs, SqL.of h1⟩)
  · obtain ⟨a, kv, rfl, h1, _⟩ := rp.dic
    exact .inr ⟨rfl, a, kv, rfl, h1⟩
def tBMW (K : PySem.W.Frag) (T : String) (r : V → List V → Hp → VK → Prop) (to : TE) (t : TA) : TE := fun sg H Q => to sg H fun x H1 => TyW K T x H1 ∧ t sg H1 fun xs H2 => r x xs H2 Q
variable {o e : Expr} {to : TE} {t : TA} {name : Str} {apos cpos : Pos} {T id : String} {r : V → List V → Hp → VK → Prop}
theorem pe_bmw (pa : PlainAttrs T) (slot : PySem.Slot T name id) (hty : typeOf (.builtin id) = pure (.type "method_descriptor")) (hm : MtR X id r) (ho : PE X o to) (ha : PA X (e :: es) t)
    (hbase : attributeBase o name X.env (eval o X.env) = eval o X.env)
    (hfew : ((backTo cpos (starEach (e :: es) X.env)).all (fun x => !x.1) && (backToKw cpos (keywordEach [] X.env)).all (fun x => x.1.isSome)
      && decide ((e :: es).length + ([] : List Keyword).length + (if ([] : List Keyword).isEmpty then 0 else 1) < 30)) = true)
    (hline : (apos.endLine == cpos.line) = true) (hs : starEach (e :: es) X.env = (false, eval e X.env) :: starEach es X.env) (hplain : (backTo cpos (starEach es X.env)).any (·.1) = false) :
    PE X (.Call (.Attribute o name apos) (e :: es) [] cpos) (tBMW X.K T r to t) := by
  refine ⟨fun pins s sg H Q I h => ?_⟩
  refine wpAny_Call_method_late hbase hfew hline rfl (thn (ho.run pins s sg H _ I h) fun v s1 ⟨x, H1, I1, r1, ty, q1⟩ => ?_)
  obtain ⟨h1, h2⟩ := tyW_is I1 r1 ty
  refine ⟨T, id, pa, slot, hty, h1, h2, ?_⟩
  have hA := ha.run cpos pins s1 sg H1 _ I1 q1
  rw [hs] at hA ⊢
  refine Calls.callWith_builtin (by show (false || (backTo cpos (starEach es X.env)).any (·.1)) = false; rw [hplain] <;> rfl) (Calls.evalArgs_plain ?_)
  exact thn hA fun us s2 ⟨vs, H2, I2, r2, q2⟩ => hm pins s2 sg H2 x vs v us Q I2 r1 r2 q2
/-- a method of a built-in type -/
structure BmD (X : Cx) (G : Gm) (T : String) (m : Str) (g : D → List D → R D) : Prop where
  ex : ∃ (id : String) (rr : V → List V → Hp → VK → Prop), PySem.Slot T m id ∧ typeOf (.builtin id) = pure (.type "method_descriptor") ∧ MtR X id rr ∧
    ∀ (dl : Addr) (Z : List Addr) (O : List (Nat × Addr)) (r : LE) (sg : L2.St) (x : D) (vx : V) (ds : List D) (vs : List V) (H : Hp) (Q : VK) (E : Exc → Prop), At G dl Z O r sg H → RepP G dl H Z x vx → RepPL G dl H Z ds vs →
      Wp (g x ds) (fun d => ∀ v H', Grow dl H H' → GlOk G dl H' → Rep G dl (cut H' Z) d v → Q v H') E → rr vx vs H Q
  pa : PlainAttrs T
theorem de_bm {gg : D → List D → R D} (B : BmD X G T name gg) (hG : G.K = X.K) (ho : DP X G W o f) (ha : DAp X G W (e :: es) fs) (hbase : attributeBase o name X.env (eval o X.env) = eval o X.env := by rfl)
    (hfew : ((backTo cpos (starEach (e :: es) X.env)).all (fun x => !x.1) && (backToKw cpos (keywordEach [] X.env)).all (fun x => x.1.isSome)
      && decide ((e :: es).length + ([] : List Keyword).length + (if ([] : List Keyword).isEmpty then 0 else 1) < 30)) = true := by rfl)
    (hline : (apos.endLine == cpos.line) = true := by rfl) (hs : starEach (e :: es) X.env = (false, eval e X.env) :: starEach es X.env := by rfl) (hplain : (backTo cpos (starEach es X.env)).any (·.1) = false := by rfl) :
    DE X G W (.Call (.Attribute o name apos) (e :: es) [] cpos) (fun r => do let x ← f r; let x ← isT T x; let ds ← fs r; gg x ds) := by
  obtain ⟨⟨id, rr, slot, hty, hm, hc⟩, pa⟩ := B
  refine PE_imp (pe_bmw pa slot hty hm ho ha hbase hfew hline hs hplain) fun sg H Q ⟨dl, Z, O, r, A, q⟩ => ?_
  refine ⟨dl, Z, O, r, A, q.bind.thn fun x hx v H1 g1 k1 rp => ?_⟩
  obtain ⟨hx, ht⟩ := isT_wp (G := G) (X := X) (dl := dl) (H := H1) (Z := Z) hx.bind
  have A1 := A.grow g1 k1
  refine ⟨ht hG rp, dl, Z, O, r, A1, hx.bind.mono (fun ds hd vs H2 g2 k2 rl => ?_) fun e => epost g1⟩
  exact hc dl Z O r sg x v ds vs H2 Q _ (A1.grow g2 k2) (rp.grow A1 g2) rl (hd.thn fun d h w H' g' k' rp => h w H' ((g1.trans g2).trans g') k' rp)
end
end DL
set_option Elab.async false
set_option linter.all false
set_option maxRecDepth 100000
namespace DL
open PySem L2 PySem.Spec PyProof.Rows
section
variable {X : Cx} {G : Gm} {W : WX} {ex a b o e : Expr} {es : List Expr} {f g : LE → R D} {fs : LE → R (List D)} {pos p apos cpos : Pos} {dl : Addr} {S H : Hp} {Z : List Addr} {name x : Str}
theorem key_inj {a b : D} {x y : Key} (h1 : a.key = some x) (h2 : b.key = some y) : a.keq b = true ↔ x = y := by
  rw [keq_key h1 h2]; simp
theorem RepK.any : ∀ {kvs : List (D × D)} {kv : List (Key × V)} {k : D} {x : Key}, RepK G dl S kvs kv → k.key = some x → (kvs.any fun p => p.1.keq k) = (kv.any fun p => decide (p.1 = x))
  | [], kv, k, x, h, hk => by unfold RepK at h; subst h; rfl
  | (k', d) :: kvs, kv, k, x, h, hk => by
    unfold RepK at h
    obtain ⟨y, v, r, rfl, hk', rp, h2⟩ := h
    rw [List.any_cons, List.any_cons, keq_key hk' hk, RepK.any h2 hk]
theorem RepK.map : ∀ {kvs : List (D × D)} {kv : List (Key × V)} {k d : D} {x : Key} {v : V}, RepK G dl S kvs kv → k.key = some x → Rep G dl S d v →
    RepK G dl S (kvs.map fun p => if p.1.keq k then (p.1, d) else p) (kv.map fun p => if p.1 = x then (p.1, v) else p)
  | [], kv, k, d, x, v, h, hk, rv => by unfold RepK at h; subst h; unfold RepK; rfl
  | (k', d') :: kvs, kv, k, d, x, v, h, hk, rv => by
    unfold RepK at h
    obtain ⟨y, u, r, rfl, hk', rp, h2⟩ := h
    have q := RepK.map (v := v) (d := d) h2 hk rv
    rw [List.map_cons, List.map_cons]
    by_cases e : y = x
    · rw [if_pos ((key_inj hk' hk).mpr e), if_pos e]
      unfold RepK
      exact ⟨y, v, _, rfl, hk', rv, q⟩
    · rw [if_neg fun z => e ((key_inj hk' hk).mp z), if_neg e]
      unfold RepK
      exact ⟨y, u, _, rfl, hk', rp, q⟩
theorem RepK.length : ∀ {kvs : List (D × D)} {kv : List (Key × V)}, RepK G dl S kvs kv → kv.length = kvs.length
  | [], kv, h => by unfold RepK at h; subst h; rfl
  | (k', d') :: kvs, kv, h => by
    unfold RepK at h
    obtain ⟨y, u, r, rfl, _, _, h2⟩ := h
    rw [List.length_cons, List.length_cons, RepK.length h2]
/-- the pairs of a display -/
inductive DPs (X : Cx) (G : Gm) (W : WX) (pos : Pos) : List (Option Expr) → List Expr → List ((LE → R D) × (LE → R D)) → Prop
  | nil : DPs X G W pos [] [] []
  | cons {k v : Expr} {ks : List (Option Expr)} {vs : List Expr} {f g : LE → R D} {fs : List ((LE → R D) × (LE → R D))} (hk : DE X G W k f) (hv : DE X G W v g) (h : DPs X G W pos ks vs fs) : DPs X G W pos (some k :: ks) (v :: vs) ((f, g) :: fs)
theorem DPs.len {ks : List (Option Expr)} {vs : List Expr} {fs : List ((LE → R D) × (LE → R D))} (h : DPs X G W pos ks vs fs) : fs.length = ks.length := by
  induction h with
  | nil => rfl
  | cons _ _ _ ih => rw [List.length_cons, List.length_cons, ih]
end
end DL
set_option Elab.async false
set_option linter.all false
set_option maxRecDepth 100000
namespace DL
open PySem L2 PySem.Spec PyProof.Rows
/-- _law_roll -/
def rollD : List D → R D
  | [.dice, .int m] => if 0 < m ∧ m < 1000000000 then .roll m.toNat (fun i => .ok (.int (i : Nat))) else .stuck
  | _ => .stuck
theorem rollD_len : ∀ ds Q E, Wp (rollD ds) Q E → ds.length = 2 := fun ds Q E h => by
  unfold rollD at h
  split at h
  · rfl
  · exact h.elim
/-- what a roll is asked: any number below m may come -/
theorem roll_of {G : Gm} {dl : Addr} {Z : List Addr} {ds : List D} {vs : List V} {H : Hp} {Q : VK} {E : XK} (gl : GlOk G dl H) (dz : dl ∈ Z) (rl : RepL G dl (cut H Z) ds vs)
    (h : Wp (rollD ds) (fun d => ∀ v H', Grow dl H H' → GlOk G dl H' → Rep G dl (cut H' Z) d v → Q v H') (fun e => ∀ cls dx H', Grow dl H H' → GlOk G dl H' → XRep G dl (cut H' Z) e cls dx H' → E cls dx H')) :
    ∃ (m x y z : Int), vs = [.ref dl, .int m] ∧ 0 < m ∧ m < 1000000000 ∧ H dl = some (.lst [.int x, .int y, .int z]) ∧ ∀ (r : Int) (H' : Hp), 0 ≤ r → r < m → (∃ a b c : Int, H' = upd H dl (.lst [.int a, .int b, .int c])) → Q (.int r) H' := by
  unfold rollD at h
  split at h
  · rename_i m
    split at h
    · rename_i hm
      obtain ⟨x, y, z, hd⟩ := gl.dice
      unfold RepL at rl
      obtain ⟨v1, r1, rfl, h1, rl⟩ := rl
      unfold RepL at rl
      obtain ⟨v2, r2, rfl, h2, rl⟩ := rl
      unfold RepL at rl
      subst rl
      unfold Rep at h1 h2
      subst h1 h2
      refine ⟨m, x, y, z, rfl, hm.1, hm.2, hd, fun r H' h0 h1 ⟨a, b, c, e⟩ => ?_⟩
      subst e
      have e : r = ((r.toNat : Nat) : Int) := by omega
      rw [e]
      exact h r.toNat (by omega) _ _ (fun p o hp n nt => by rw [upd_ne n]; exact hp) ⟨⟨a, b, c, upd_same⟩, gl.tab.upd hd rfl⟩ Rep.int_
    · exact h.elim
  · exact h.elim
/-- a new dice -/
def spDice : Sp := fun vs H Q _ => ∃ c : Int, vs = [.int c] ∧ ∀ p (x y z : Int), H p = none → Q (.ref p) (upd H p (.lst [.int x, .int y, .int z]))
/-- one round's dice -/
def spRounds (K : PySem.W.Frag) : Sp := fun vs H Q _ => ∃ (a : Addr) (ns : List Int), vs = [.ref a, .int 1] ∧ SqL K H a (ns.map V.int) ∧
  ∀ (H' : Hp) (l d : Addr) (x y z : Int), (∀ b o, H b = some o → H' b = some o) → l ≠ d → H' l = some (.lst [.ref d]) → H' d = some (.lst [.int x, .int y, .int z]) → Q (.ref l) H'
/-- what is asked of the law -/
def spLaw (K : PySem.W.Frag) (T : List (Addr × Str)) : Sp := fun vs H Q _ => ∃ (a : Addr) (ns : List Int), vs = [.ref a] ∧ SqL K H a (ns.map V.int) ∧ (∀ p ∈ T, H p.1 = some (.tbl #[])) ∧ ∀ H', Q (.bl true) H'
/-- the slots when the round begins -/
def r0 (m : Nat) : LE := .un :: .val .dice :: List.replicate (m - 2) .un
theorem law_core {G : Gm} {W : WX} {N : List Str} {F : LE → R Out} {m : Nat} {a : Addr} {ns : List Int} {H : Hp} {Q : VK} {E : L2.St → XK} {nx0 : L2.St → Hp → Prop} (hm : N.length = m) (h2 : 2 ≤ m) (hS : SqL G.K H a (ns.map V.int)) (hT : ∀ p ∈ G.tabs, H p.1 = some (.tbl #[])) (hU : ∀ p ∈ G.tabs, ∀ q ∈ G.tabs, p.1 = q.1 → p.2 = q.2) (hS0 : G.subs = []) (k : ∀ H', Q (.bl true) H')
    (hF : Wp (F (r0 m)) (fun o => ∃ r, o = .nx r ∨ o = .ct r) (fun _ => False)) :
    tSeq (tFor (iList G.K (tCallS (spRounds G.K) E (tCons (tVar 0) (tCons (tC (.int 1)) tNil)))) (gName 1) (tS G W F)) (tRet (tC (.bl true))) { nx := nx0, rt := Q } (L2.start N [.ref a]) H := by
  obtain ⟨b0, b1, N', rfl⟩ : ∃ b0 b1 N', N = b0 :: b1 :: N' := by
    match N, hm with
    | b0 :: b1 :: N', _ => exact ⟨b0, b1, N', rfl⟩
    | [_], hm => simp at hm; omega
    | [], hm => simp at hm; omega
  refine ⟨_, rfl, a, ns, rfl, hS, fun H1 l d x y z e1 nld hl hd => ⟨l, rfl, ⟨_, SqL.of hl⟩, ?_⟩⟩
  refine for_list (K := G.K) (a := l) (xs := [V.ref d]) (fun i sg H' => H' l = some (.lst [.ref d]) ∧ (i = 0 → sg = L2.start (b0 :: b1 :: N') [.ref a] ∧ H' = H1)) ⟨hl, fun _ => ⟨rfl, rfl⟩⟩ (fun i sg H' _ p => SqL.of p.1) (fun i v sg H' hi p => ?_) (fun sg H' p => k _)
  obtain ⟨p1, p2⟩ := p
  cases i with
  | succ i => simp at hi
  | zero =>
    cases hi
    obtain ⟨rfl, rfl⟩ := p2 rfl
    refine ⟨d, [d], [], r0 m, ?_, hF.mono (fun o ho => ?_) fun _ z => z⟩
    · refine ⟨⟨⟨x, y, z, hd⟩, hS0 ▸ CT.nil hU fun p hp => e1 _ _ (hT p hp)⟩, List.mem_singleton.mpr rfl, fun b hb => ?_, fun p hp => (by cases hp), fun p hp => (by cases hp), ?_, fun j c e => ?_⟩
      · rw [List.mem_singleton] at hb
        subst hb
        exact ⟨_, hd, fun ps z => by cases ps <;> cases z⟩
      · simp [r0, L2.start] at hm ⊢
        omega
      · match j, e with
        | 0, e => cases e; trivial
        | 1, e =>
          cases e
          exact ⟨.ref d, rfl, by unfold Rep; rfl⟩
        | j + 2, e =>
          have e' : (List.replicate (m - 2) Cell.un)[j]? = some c := e
          rw [List.getElem?_replicate] at e'
          split at e'
          · cases e'; trivial
          · cases e'
    · have keep : ∀ {Z' O' H2}, Stp d [d] [] H' Z' O' H2 → H2 l = some (.lst [.ref d]) := fun s => s.fr l _ p1 nld (fun p hp => by cases hp) fun ps z => by cases z
      obtain ⟨r, rfl | rfl⟩ := ho
      · exact fun Z' O' sg' H2 s A => ⟨keep s, fun h => by cases h⟩
      · exact fun Z' O' sg' H2 s A => ⟨keep s, fun h => by cases h⟩
end DL
set_option Elab.async false
set_option linter.all false
set_option maxRecDepth 100000
namespace DL
open PySem L2 LamX PySem.Spec PyProof.Rows
section
variable {P : Program} {w : World} {K : PySem.W.Frag} {mg : Str → Option Value} {base : Heap} {G : Gm} {x qual : Str} {st : Stmt} {f : Addr} {fd : FuncData} {N ps : List Str} {k n m c nf : Nat} {F : LE → R Out}
structure FunE (K : PySem.W.Frag) (x qual : Str) (st : Stmt) (f : Addr) (ps : List Str) : Prop where
  ex : ∃ fd : FuncData, L2.Fun K x qual st f fd ∧ L2.Binds K fd ps []
/-- its code object stands at c -/
structure FunC (K : PySem.W.Frag) (x qual : Str) (st : Stmt) (f c : Addr) (ps : List Str) : Prop where
  ex : ∃ (oc : Value) (od : Option Addr) (kV doc pm : Value) (an : Option Addr) (ct : Value) (osl : Array (Option Value)),
    K.lookup f = some ⟨oc, od, .func (PySem.W.fnOf x qual (defArgs st) (defBody st) (defScope st) .none kV doc pm an (.ref c) ct), osl⟩ ∧
    ∀ us : List Value, us.length = ps.length → bindArgs (PySem.W.fnOf x qual (defArgs st) (defBody st) (defScope st) .none kV doc pm an (.ref c) ct) ⟨us, []⟩ = pure (ps.zip us)
  cd : PySem.W.codeIn K (.ref c) qual = true
  kp : PySem.W.keepIn K (.ref f) = true
theorem funE_of {oc : Value} {od an : Option Addr} {osl : Array (Option Value)} {kV doc pm cdv ct : Value} (l : K.lookup f = some ⟨oc, od, .func (PySem.W.fnOf x qual (defArgs st) (defBody st) (defScope st) .none kV doc pm an cdv ct), osl⟩) (c : PySem.W.codeIn K cdv qual = true) (kp : PySem.W.keepIn K (.ref f) = true)
    (h : ∀ us : List Value, us.length = ps.length → bindArgs (PySem.W.fnOf x qual (defArgs st) (defBody st) (defScope st) .none kV doc pm an cdv ct) ⟨us, []⟩ = pure (ps.zip us)) : FunE K x qual st f ps := ⟨_, L2.fun_mk l c kp, .all h⟩
theorem funC_of {c : Addr} {oc : Value} {od an : Option Addr} {osl : Array (Option Value)} {kV doc pm ct : Value} (l : K.lookup f = some ⟨oc, od, .func (PySem.W.fnOf x qual (defArgs st) (defBody st) (defScope st) .none kV doc pm an (.ref c) ct), osl⟩) (cd : PySem.W.codeIn K (.ref c) qual = true) (kp : PySem.W.keepIn K (.ref f) = true)
    (h : ∀ us : List Value, us.length = ps.length → bindArgs (PySem.W.fnOf x qual (defArgs st) (defBody st) (defScope st) .none kV doc pm an (.ref c) ct) ⟨us, []⟩ = pure (ps.zip us)) : FunC K x qual st f c ps := ⟨⟨oc, od, kV, doc, pm, an, ct, osl, l, h⟩, cd, kp⟩
theorem fn_read (S : FnScope N ps (defScope st)) (hn : ps.length = n) (hm : N.length = m) {vs : List V} {H : Hp} {Q : VK} {E : XK} (h : spD G n (runF n m F) vs H Q E) :
    tS G (WD E) F { nx := fun _ H' => Q .non H', rt := Q } (L2.start N vs) H := by
  obtain ⟨hl, dl, Z, ds, gl, dz, live, rl, hw⟩ := h
  unfold runF at hw
  split at hw
  case isFalse => exact hw.elim
  rename_i hdl
  have hpl : ps.length ≤ N.length := by have := congrArg List.length S.pre; rw [List.length_take] at this; omega
  have A0 : At G dl Z [] (ds.map Cell.val ++ List.replicate (m - n) Cell.un) (L2.start N vs) H := by
    refine ⟨gl, dz, live, fun p hp => (by cases hp), fun p hp => (by cases hp), ?_, start_get rl hl hm⟩
    unfold L2.start
    rw [List.length_append, List.length_map, List.length_replicate, List.length_append, List.length_map, List.length_replicate]
    omega
  have gr : ∀ {Z' O' H'}, Stp dl Z [] H Z' O' H' → Grow dl H H' := fun s a o e n nt => s.fr a o e n (fun p hp => (by cases hp)) nt
  have gz : ∀ {Z' O' H'}, Stp dl Z [] H Z' O' H' → GrowS (cut H' Z') (cut H' Z) := fun s => cut_sub fun a ha => s.zk a ha fun p hp => (by cases hp)
  refine ⟨dl, Z, [], _, A0, (calm_wp hw.bind).thn fun o ho => ?_⟩
  cases o with
  | nx r => exact fun Z' O' sg' H' s A' => ho _ _ (gr s) A'.gl Rep.non_
  | rt d => exact fun Z' O' v H' s g rp => ho _ _ (gr s) g (rp.mono (gz s))
  | ex e r => exact fun Z' O' sg' H' cls dx s A' xr => ho cls dx H' (gr s) A'.gl (xr.mono (gz s))
  | bk r => exact ho.elim
  | ct r => exact ho.elim
theorem fnD_E (Fn : FunE K x qual st f ps) (S : FnScope N ps (defScope st)) (hx : mg x = some (.ref f)) (hn : ps.length = n) (hm : N.length = m)
    (hb : ∀ cdv A outer s H E, Room k (A.deeper (envOfC qual (defScope st) s.heap.objs.size f cdv)) → DSs (cxD P w K mg base N qual st f cdv A outer s H E) G (WD E) (defBody st) F) :
    FnD P w K mg base G (k + 1) x f n (runF n m F) := by
  obtain ⟨fd, Fn, bd⟩ := Fn
  exact fnD_of Fn S bd hx hn hm hb
theorem fnD_C {c : Addr} (Fn : FunC K x qual st f c ps) (S : FnScope N ps (defScope st)) (hx : mg x = some (.ref f)) (hn : ps.length = n) (hm : N.length = m)
    (hb : ∀ A outer s H E, Room k (A.deeper (envOfC qual (defScope st) s.heap.objs.size f (.ref c))) → DSs (cxD P w K mg base N qual st f (.ref c) A outer s H E) G (WD E) (defBody st) F) :
    FnD P w K mg base G (k + 1) x f n (runF n m F) := by
  obtain ⟨⟨oc, od, kV, doc, pm, an, ct, osl, lk, bd⟩, cd, kp⟩ := Fn
  exact ⟨⟨_, ps, hn, fn_of lk cd S (fun vs H Q E h => by rw [hn]; exact h.1) fun A outer s H vs Q E hr h => ⟨_, hb A outer s H E hr, fn_read S hn hm h⟩, .all bd⟩, runF_len, kp, hx⟩
theorem meD_E (Fn : FunE K x qual st f ps) (S : FnScope N ps (defScope st)) (mt : Meth K (G.cls c) x f) (cl : Cls K (G.cls c)) (nf : x ∉ G.flds c) (hn : ps.length = n) (hm : N.length = m)
    (hb : ∀ cdv A outer s H E, Room k (A.deeper (envOfC qual (defScope st) s.heap.objs.size f cdv)) → DSs (cxD P w K mg base N qual st f cdv A outer s H E) G (WD E) (defBody st) F) :
    MeD P w K mg base G (k + 1) c x n (runF n m F) := by
  obtain ⟨fd, Fn, bd⟩ := Fn
  exact meD_of Fn S bd mt cl nf hn hm hb
def exmB (K : PySem.W.Frag) (xc : Nat → Addr) (ks : List Nat) : Bool := ks.all fun i => ks.all fun j => PySem.W.exmOne K (.ref (xc i)) (.ref (xc j)) == some (i == j)
theorem exm_by {ks : List Nat} (h : exmB K G.xcls ks = true) : ExmOk K G ks := fun i hi j hj => by
  unfold exmB at h
  rw [List.all_eq_true] at h
  have h2 := h i hi
  rw [List.all_eq_true] at h2
  exact beq_iff_eq.mp (h2 j hj)
end
end DL
set_option Elab.async false
set_option linter.all false
set_option maxRecDepth 100000
namespace DL
open PySem L2 PySem.Spec PyProof.Rows
def opE (g : D → D → R D) (f k : LE → R D) : LE → R D := fun r => do let x ← f r; let y ← k r; g x y
def cmpT (g : D → D → R D) (f k : LE → R D) : LE → R Bool := fun r => (do let x ← f r; let y ← k r; g x y) >>= asB
def valT (f : LE → R D) : LE → R Bool := fun r => f r >>= asB
def chainT (f1 f2 f3 : LE → R D) (g g' : D → D → R D) : LE → R Bool := fun r => chainE f1 f2 f3 g g' r >>= asB
def callE (g : List D → R D) (fs : LE → R (List D)) : LE → R D := fun r => fs r >>= g
def callF (g : List D → R (List D)) (fs : LE → R (List D)) : LE → R (List D) := fun r => fs r >>= g
def methE (c : Nat) (g : List D → R D) (f : LE → R D) (fs : LE → R (List D)) : LE → R D := fun r => do let x ← f r; let x ← isC c x; let ds ← fs r; g (x :: ds)
def meth0E (c : Nat) (g : List D → R D) (f : LE → R D) : LE → R D := fun r => do let x ← f r; let x ← isC c x; g [x]
def fldE (fx : Nat → Option Nat) (f : LE → R D) : LE → R D := fun r => f r >>= fldD fx
def subE (f k : LE → R D) : LE → R D := fun r => do let x ← f r; let y ← k r; subI x y
def negE (f : LE → R D) : LE → R D := fun r => do let x ← f r; negD x
def bmE (T : String) (gg : D → List D → R D) (f : LE → R D) (fs : LE → R (List D)) : LE → R D := fun r => do let x ← f r; let x ← isT T x; let ds ← fs r; gg x ds
def kbmE (d : D) (gg : D → List D → R D) (fs : LE → R (List D)) : LE → R D := fun r => do let ds ← fs r; gg d ds
def toldE (l : List (Nat × List Nat)) (f : LE → R D) : LE → R D := fun r => toldD l (f r)
def lE (f : LE → R (List D)) : LE → R D := fun r => (f r) >>= fun ds => .ok (.lst ds)
def itL (f : LE → R D) : LE → R (List D) := fun r => f r >>= lstD
def itT (f : LE → R D) : LE → R (List D) := fun r => f r >>= tupD
def rng1E (fs : LE → R (List D)) : LE → R (List D) := fun r => fs r >>= rng1
def rng2E (fs : LE → R (List D)) : LE → R (List D) := fun r => fs r >>= rng2
def frzS (i : Nat) (F : LE → R Out) : LE → R Out := fun r => F (frz i r)
def par3S (i j l : Nat) (f g h : LE → R D) : LE → R Out := fun r => (f r).onS r fun a => (g r).onS r fun b => (h r).onS r fun c => .ok (.nx (((r.set i (.val a)).set j (.val b)).set l (.val c)))
theorem huD {k : Nat} {A : Around} (hr : Room k A) : A.units + 70 < cLine := by have := hr.un; omega
theorem huD64 {k : Nat} {A : Around} (hr : Room k A) : A.units + 64 < cLine := by have := hr.un; omega
theorem takes0D {X : Cx} : Takes X W0 := LG.takes0
end DL
set_option Elab.async false
set_option linter.all false
set_option maxRecDepth 100000
namespace DL
open PySem L2 PySem.Spec PyProof.Rows
mutual
def isD (K : PySem.W.Frag) : D → Value → Bool
  | .non, u => match u with
    | .none => true
    | _ => false
  | .bl b, u => match u with
    | .bool c => b == c
    | _ => false
  | .int i, u => match u with
    | .int j _ => i == j
    | _ => false
  | .str s, u => match u with
    | .str z _ => z == ⟨s.toArray⟩
    | _ => false
  | .ctup ds, u => match u with
    | .ref a => match K.lookup a with
      | some ⟨.type T, _, .seq its _, _⟩ => T == "tuple" && decide (its.size ≤ 16777216) && isDs K ds its.toList
      | _ => false
    | _ => false
  | _, _ => false
def isDs (K : PySem.W.Frag) : List D → List Value → Bool
  | [], us => match us with
    | [] => true
    | _ => false
  | d :: ds, us => match us with
    | u :: us => isD K d u && isDs K ds us
    | [] => false
end
section
variable {G : Gm} {K : PySem.W.Frag}
mutual
theorem isD_rep (hG : G.K = K) : ∀ (d : D) (u : Value), isD K d u = true → ∃ v, RelV v u ∧ ∀ dl S, Rep G dl S d v
  | .non, u, h => by
    unfold isD at h
    split at h
    · exact ⟨.non, rfl, fun _ _ => Rep.non_⟩
    · cases h
  | .bl b, u, h => by
    unfold isD at h
    split at h
    · rw [beq_iff_eq] at h; subst h; exact ⟨.bl _, rfl, fun _ _ => Rep.bl_⟩
    · cases h
  | .int i, u, h => by
    unfold isD at h
    split at h
    · rw [beq_iff_eq] at h; subst h; exact ⟨.int _, ⟨_, rfl⟩, fun _ _ => Rep.int_⟩
    · cases h
  | .str s, u, h => by
    unfold isD at h
    split at h
    · rw [beq_iff_eq] at h; subst h; exact ⟨.str _, ⟨_, rfl⟩, fun _ _ => Rep.str_⟩
    · cases h
  | .ctup ds, u, h => by
    unfold isD at h
    split at h
    · rename_i a
      split at h
      · rename_i T dd its n sl hk
        rw [Bool.and_eq_true, Bool.and_eq_true, beq_iff_eq, decide_eq_true_eq] at h
        obtain ⟨⟨rfl, hz⟩, h⟩ := h
        obtain ⟨vs, r, q⟩ := isDs_rep hG ds _ h
        refine ⟨.ref a, rfl, fun dl S => ?_⟩
        unfold Rep
        exact ⟨a, vs, rfl, .inr ⟨_, its, n, hG ▸ hk, rfl, rfl, by rw [sizeLine_eq]; exact hz, r⟩, q dl S⟩
      · cases h
    · cases h
  | .lst _, _, h => by unfold isD at h; cases h
  | .dic _, _, h => by unfold isD at h; cases h
  | .cdic _, _, h => by unfold isD at h; cases h
  | .ins _ _, _, h => by unfold isD at h; cases h
  | .dice, _, h => by unfold isD at h; cases h
  | .fn _, _, h => by unfold isD at h; cases h
theorem isDs_rep (hG : G.K = K) : ∀ (ds : List D) (us : List Value), isDs K ds us = true → ∃ vs, Vals vs us ∧ ∀ dl S, RepL G dl S ds vs
  | [], us, h => by
    unfold isDs at h
    split at h
    · exact ⟨[], .nil, fun _ _ => RepL.nil⟩
    · cases h
  | d :: ds, us, h => by
    unfold isDs at h
    split at h
    · rename_i u us
      rw [Bool.and_eq_true] at h
      obtain ⟨v, r1, q1⟩ := isD_rep hG d u h.1
      obtain ⟨vs, r2, q2⟩ := isDs_rep hG ds us h.2
      exact ⟨v :: vs, .cons r1 r2, fun dl S => RepL.cons (q1 dl S) (q2 dl S)⟩
    · cases h
end
/-- a name of the top, written data -/
structure GlD (G : Gm) (mg : Str → Option Value) (x : Str) (d : D) : Prop where
  ex : ∃ (u : Value) (v : V), mg x = some u ∧ RelV v u ∧ ∀ dl S, Rep G dl S d v
theorem glD_of {mg : Str → Option Value} {x : Str} {d : D} {u : Value} (hG : G.K = K) (hm : mg x = some u) (h : isD K d u = true) : GlD G mg x d := by
  obtain ⟨v, r, q⟩ := isD_rep hG d u h
  exact ⟨u, v, hm, r, q⟩
end
section
variable {X : Cx} {G : Gm} {W : WX}
theorem de_gl {x : Str} {pos : Pos} {d : D} (h : GlD G X.mg x d) (hg : Gl X x := by rfl) (hd : (x == ("__debug__" : Str)) = false := by decide) : DE X G W (.Name x pos) (cst d) := by
  obtain ⟨u, v, hm, rv, rp⟩ := h
  exact de_glob hm rv rp hg hd
end
end DL
set_option Elab.async false
set_option linter.all false
set_option maxRecDepth 100000
namespace DL
theorem var_eq (i : Nat) (r : LE) : var i r = match r[i]? with
  | some (.val d) => .ok d
  | _ => .stuck := rfl
@[simp] theorem cst_eq (d : D) (r : LE) : cst d r = .ok d := rfl
@[simp] theorem opE_eq (g : D → D → R D) (f k : LE → R D) (r : LE) : opE g f k r = f r >>= fun x => k r >>= fun y => g x y := rfl
@[simp] theorem cmpT_eq (g : D → D → R D) (f k : LE → R D) (r : LE) : cmpT g f k r = (f r >>= fun x => k r >>= fun y => g x y) >>= asB := rfl
@[simp] theorem valT_eq (f : LE → R D) (r : LE) : valT f r = f r >>= asB := rfl
@[simp] theorem callE_eq (g : List D → R D) (fs : LE → R (List D)) (r : LE) : callE g fs r = fs r >>= g := rfl
@[simp] theorem methE_eq (c : Nat) (g : List D → R D) (f : LE → R D) (fs : LE → R (List D)) (r : LE) : methE c g f fs r = f r >>= fun x => isC c x >>= fun x => fs r >>= fun ds => g (x :: ds) := rfl
@[simp] theorem meth0E_eq (c : Nat) (g : List D → R D) (f : LE → R D) (r : LE) : meth0E c g f r = f r >>= fun x => isC c x >>= fun x => g [x] := rfl
@[simp] theorem fldE_eq (fx : Nat → Option Nat) (f : LE → R D) (r : LE) : fldE fx f r = f r >>= fldD fx := rfl
@[simp] theorem subE_eq (f k : LE → R D) (r : LE) : subE f k r = f r >>= fun x => k r >>= fun y => subI x y := rfl
@[simp] theorem negE_eq (f : LE → R D) (r : LE) : negE f r = f r >>= negD := rfl
@[simp] theorem negD_int (i : Int) : negD (.int i) = .ok (.int (-i)) := rfl
@[simp] theorem bmE_eq (T : String) (gg : D → List D → R D) (f : LE → R D) (fs : LE → R (List D)) (r : LE) : bmE T gg f fs r = f r >>= fun x => isT T x >>= fun x => fs r >>= fun ds => gg x ds := rfl
@[simp] theorem kbmE_eq (d : D) (gg : D → List D → R D) (fs : LE → R (List D)) (r : LE) : kbmE d gg fs r = fs r >>= fun ds => gg d ds := rfl
@[simp] theorem toldE_eq (l : List (Nat × List Nat)) (f : LE → R D) (r : LE) : toldE l f r = toldD l (f r) := rfl
@[simp] theorem lE_eq (f : LE → R (List D)) (r : LE) : lE f r = f r >>= fun ds => .ok (.lst ds) := rfl
@[simp] theorem itL_eq (f : LE → R D) (r : LE) : itL f r = f r >>= lstD := rfl
@[simp] theorem itT_eq (f : LE → R D) (r : LE) : itT f r = f r >>= tupD := rfl
@[simp] theorem lstD_eq (ds : List D) : lstD (.lst ds) = .ok ds := rfl
@[simp] theorem tupD_eq (ds : List D) : tupD (.tup ds) = .ok ds := rfl
@[simp] theorem rng1E_eq (fs : LE → R (List D)) (r : LE) : rng1E fs r = fs r >>= rng1 := rfl
@[simp] theorem frzS_eq (i : Nat) (F : LE → R Out) (r : LE) : frzS i F r = F (frz i r) := rfl
@[simp] theorem anil_eq (r : LE) : anil r = .ok [] := rfl
@[simp] theorem acons_eq (f : LE → R D) (fs : LE → R (List D)) (r : LE) : acons f fs r = f r >>= fun x => fs r >>= fun xs => .ok (x :: xs) := rfl
@[simp] theorem tupE_eq (fs : LE → R (List D)) (r : LE) : tupE fs r = fs r >>= fun ds => if ds.length ≤ 16777216 then .ok (.tup ds) else .stuck := rfl
@[simp] theorem lstE_eq (fs : LE → R (List D)) (r : LE) : lstE fs r = fs r >>= fun ds => if ds.length ≤ 16777216 then .ok ds else .stuck := rfl
@[simp] theorem iteE_eq (c : LE → R Bool) (f g : LE → R D) (r : LE) : iteE c f g r = c r >>= fun b => if b = true then f r else g r := rfl
@[simp] theorem andT_eq (f g : LE → R Bool) (r : LE) : andT f g r = f r >>= fun b => if b = true then g r else .ok false := rfl
@[simp] theorem orT_eq (f g : LE → R Bool) (r : LE) : orT f g r = f r >>= fun b => if b = true then .ok true else g r := rfl
@[simp] theorem notT_eq (f : LE → R Bool) (r : LE) : notT f r = f r >>= fun b => .ok (!b) := rfl
@[simp] theorem asB_bl (b : Bool) : asB (.bl b) = .ok b := rfl
def andK (x : D) (k : R D) : R D := match x with
  | .bl true => k
  | .bl false => .ok (.bl false)
  | _ => .stuck
def orK (x : D) (k : R D) : R D := match x with
  | .bl true => .ok (.bl true)
  | .bl false => k
  | _ => .stuck
@[simp] theorem andK_bl (b : Bool) (k : R D) : andK (.bl b) k = if b = true then k else .ok (.bl false) := by cases b <;> rfl
@[simp] theorem orK_bl (b : Bool) (k : R D) : orK (.bl b) k = if b = true then .ok (.bl true) else k := by cases b <;> rfl
@[simp] theorem andV_eq (f g : LE → R D) (r : LE) : andV f g r = f r >>= fun x => andK x (g r) := by
  unfold andV
  congr 1
@[simp] theorem orV_eq (f g : LE → R D) (r : LE) : orV f g r = f r >>= fun x => orK x (g r) := by
  unfold orV
  congr 1
@[simp] theorem notV_bl (f : LE → R D) (r : LE) (b : Bool) (h : f r = .ok (.bl b)) : notV f r = .ok (.bl (!b)) := by
  unfold notV
  rw [h]
  rfl
@[simp] theorem seqS_eq (F K : LE → R Out) (r : LE) : seqS F K r = F r >>= fun o => match o with
  | .nx r' => K r'
  | o => .ok o := rfl
@[simp] theorem skipS_eq (r : LE) : skipS r = .ok (.nx r) := rfl
@[simp] theorem retS_eq (f : LE → R D) (r : LE) : retS f r = (f r).onS r fun d => .ok (.rt d) := rfl
@[simp] theorem ifS_eq (c : LE → R Bool) (F K : LE → R Out) (r : LE) : ifS c F K r = (c r).onS r fun b => if b = true then F r else K r := by
  unfold ifS
  congr 1
@[simp] theorem valK_eq (f : LE → R D) (r : LE) : valK f r = f r >>= fun d => .ok (.val d) := rfl
@[simp] theorem ownK_eq (f : LE → R (List D)) (r : LE) : ownK f r = f r >>= fun d => .ok (.own (.lst d)) := rfl
@[simp] theorem okK_val (d : D) : okK (.val d) = .ok (.val d) := rfl
@[simp] theorem okK_own (d : D) : okK (.own d) = .ok (.own d) := rfl
@[simp] theorem setK_eq (i : Nat) (f : LE → R Cell) (r : LE) : setK i f r = (f r >>= okK).onS r fun c => .ok (.nx (r.set i c)) := rfl
@[simp] theorem parK_eq (i j : Nat) (f g : LE → R Cell) (r : LE) : parK i j f g r = (f r >>= okK).onS r fun c => (g r >>= okK).onS r fun c' => .ok (.nx ((r.set i c).set j c')) := rfl
@[simp] theorem par3S_eq (i j l : Nat) (f g h : LE → R D) (r : LE) : par3S i j l f g h r = (f r).onS r fun a => (g r).onS r fun b => (h r).onS r fun c => .ok (.nx (((r.set i (.val a)).set j (.val b)).set l (.val c))) := rfl
@[simp] theorem errS_eq (e : Exc) (r : LE) : errS e r = .ok (.ex e r) := rfl
@[simp] theorem forS_eq (fi : LE → R (List D)) (gd : D → LE → Option LE) (body : LE → R Out) (r : LE) : forS fi gd body r = (fi r).onS r fun ds => loopS gd body ds r := rfl
@[simp] theorem ite_onS {α : Type} (c : Prop) [Decidable c] (a b : R α) (r : LE) (k : α → R Out) : (if c then a else b).onS r k = if c then a.onS r k else b.onS r k := by split <;> rfl
@[simp] theorem ite_bind {α β : Type} (c : Prop) [Decidable c] (a b : R α) (k : α → R β) : (if c then a else b) >>= k = if c then a >>= k else b >>= k := by split <;> rfl
@[simp] theorem ite_calm {α : Type} (c : Prop) [Decidable c] (a b : R α) : (if c then a else b).calm = if c then a.calm else b.calm := by split <;> rfl
@[simp] theorem calm_err {α : Type} (e : Exc) : (R.err e : R α).calm = .stuck := rfl
@[simp] theorem calm_stuck {α : Type} : (R.stuck : R α).calm = .stuck := rfl
/-- what a body's end is to the caller -/
def fin : Out → R D
  | .nx _ => .ok .non
  | .rt d => .ok d
  | .ex e _ => .err e
  | _ => .stuck
@[simp] theorem fin_nx (r : LE) : fin (.nx r) = .ok .non := rfl
@[simp] theorem fin_rt (d : D) : fin (.rt d) = .ok d := rfl
@[simp] theorem fin_ex (e : Exc) (r : LE) : fin (.ex e r) = .err e := rfl
theorem runF_eq (n m : Nat) (F : LE → R Out) (ds : List D) (h : ds.length = n) : runF n m F ds = (F (ds.map Cell.val ++ List.replicate (m - n) Cell.un)).calm >>= fin := by
  unfold runF
  rw [if_pos h]
  rfl
@[simp] theorem isC_eq (c : Nat) (fs : List D) : isC c (.ins c fs) = .ok (.ins c fs) := by simp [isC]
@[simp] theorem addD_int (i j : Int) : addD (.int i) (.int j) = .ok (.int (i + j)) := rfl
@[simp] theorem subD_int (i j : Int) : subD (.int i) (.int j) = .ok (.int (i - j)) := rfl
@[simp] theorem ltD_int (i j : Int) : ltD (.int i) (.int j) = .ok (.bl (decide (i < j))) := rfl
@[simp] theorem leD_int (i j : Int) : leD (.int i) (.int j) = .ok (.bl (decide (i ≤ j))) := rfl
@[simp] theorem gtD_int (i j : Int) : gtD (.int i) (.int j) = .ok (.bl (decide (j < i))) := rfl
@[simp] theorem geD_int (i j : Int) : geD (.int i) (.int j) = .ok (.bl (decide (j ≤ i))) := rfl
@[simp] theorem eqD_int (i j : Int) : eqD (.int i) (.int j) = .ok (.bl (i == j)) := by simp [eqD, D.sc, D.eqb]
@[simp] theorem neD_int (i j : Int) : neD (.int i) (.int j) = .ok (.bl (!(i == j))) := by simp [neD, D.sc, D.eqb]
@[simp] theorem eqD_bl (i j : Bool) : eqD (.bl i) (.bl j) = .ok (.bl (i == j)) := by simp [eqD, D.sc, D.eqb]
@[simp] theorem neD_bl (i j : Bool) : neD (.bl i) (.bl j) = .ok (.bl (!(i == j))) := by simp [neD, D.sc, D.eqb]
@[simp] theorem eqD_str (i j : List Nat) : eqD (.str i) (.str j) = .ok (.bl (i == j)) := by simp [eqD, D.sc, D.eqb]
@[simp] theorem neD_str (i j : List Nat) : neD (.str i) (.str j) = .ok (.bl (!(i == j))) := by simp [neD, D.sc, D.eqb]
@[simp] theorem eqD_tup2 (a b c d : Int) : eqD (.tup [.int a, .int b]) (.tup [.int c, .int d]) = .ok (.bl (a == c && b == d)) := by simp [eqD, D.sc, D.sh, D.shs, D.eqb, D.eqbs]
@[simp] theorem neD_tup2 (a b c d : Int) : neD (.tup [.int a, .int b]) (.tup [.int c, .int d]) = .ok (.bl (!(a == c && b == d))) := by simp [neD, D.sc, D.sh, D.shs, D.eqb, D.eqbs]
@[simp] theorem compF_eq (fi : LE → R (List D)) (gd : D → LE → Option LE) (tt : LE → R Bool) (te : LE → R D) (vs : List Nat) (r : LE) : compF fi gd tt te vs r = fi r >>= fun ds => if ds.length ≤ 16777216 then loopC gd tt te (wipeL r vs) ds else .stuck := rfl
@[simp] theorem yesT_eq (r : LE) : yesT r = .ok true := rfl
@[simp] theorem loopC_nil (gd : D → LE → Option LE) (tt : LE → R Bool) (te : LE → R D) (r : LE) : loopC gd tt te r [] = .ok [] := rfl
theorem loopC_cons (gd : D → LE → Option LE) (tt : LE → R Bool) (te : LE → R D) (r : LE) (d : D) (ds : List D) : loopC gd tt te r (d :: ds) = match gd d r with
    | none => .stuck
    | some r' => (tt r').calm >>= fun b => if b = true then (te r').calm >>= fun y => loopC gd tt te r ds >>= fun ys => .ok (y :: ys) else loopC gd tt te r ds := by
  rw [loopC.eq_2]
  try (cases gd d r <;> rfl)
@[simp] theorem gN_eq (i : Nat) (d : D) (r : LE) : gN i d r = some (r.set i (.val d)) := rfl
@[simp] theorem subl2_0 (a b : D) : subI (.lst [a, b]) (.int 0) = .ok a := rfl
@[simp] theorem subl2_1 (a b : D) : subI (.lst [a, b]) (.int 1) = .ok b := rfl
@[simp] theorem sub2_0 (a b : D) : subI (.tup [a, b]) (.int 0) = .ok a := rfl
@[simp] theorem sub2_1 (a b : D) : subI (.tup [a, b]) (.int 1) = .ok b := rfl
@[simp] theorem Wp_ok {α : Type} (a : α) (Q : α → Prop) (E : Exc → Prop) : Wp (.ok a) Q E = Q a := rfl
@[simp] theorem Wp_err {α : Type} (e : Exc) (Q : α → Prop) (E : Exc → Prop) : Wp (.err e : R α) Q E = E e := rfl
@[simp] theorem Wp_stuck {α : Type} (Q : α → Prop) (E : Exc → Prop) : Wp (.stuck : R α) Q E = False := rfl
@[simp] theorem Wp_roll {α : Type} (m : Nat) (k : Nat → R α) (Q : α → Prop) (E : Exc → Prop) : Wp (.roll m k) Q E = ∀ i, i < m → Wp (k i) Q E := rfl
end DL
set_option Elab.async false
set_option linter.all false
set_option maxRecDepth 100000
namespace DL
open PySem L2 PySem.Spec PyProof.Rows
section
variable {X : Cx} {G : Gm} {W : WX} {F : LE → R Out} {body : List Stmt} {h₀ : ExceptHandler} {hds : List ExceptHandler} {pos : Pos}
def hdD (G : Gm) (W : WX) (l : List (Nat × (LE → R Out))) : List (Value × (Addr → Value → Option Addr → TS)) := l.map fun p => (.ref (G.xcls p.1), fun _ _ _ => tS G W p.2)
theorem hds_nil : LG.HdsOk X W [] (hdD G W []) := .nil
theorem hds_cons {i : Nat} {C : Addr} {x : Str} {b₀ : Stmt} {suite : List Stmt} {np pos' : Pos} {l : List (Nat × (LE → R Out))} {K : LE → R Out} (hC : G.xcls i = C) (hm : X.mg x = some (.ref C)) (hsu : ∀ (a : Addr) (pn : List (Addr × Obj)), LG.HotG (LG.suiteX X a pn) → Takes (LG.suiteX X a pn) W → DSs (LG.suiteX X a pn) G W (b₀ :: suite) K) (r : LG.HdsOk X W hds (hdD G W l))
    (hg : Gl X x := by rfl) (hdb : (x == ("__debug__" : Str)) = false := by decide) : LG.HdsOk X W (.ExceptHandler (some (.Name x np)) none (b₀ :: suite) pos' :: hds) (hdD G W ((i, K) :: l)) := by
  subst hC
  exact .cons ⟨hg, hdb, .inl hm⟩ (fun a cls d pn hot tk => hsu a pn hot tk) r
end
end DL
set_option Elab.async false
set_option linter.all false
set_option maxRecDepth 100000
namespace DL
open PySem L2 PySem.Spec PyProof.Rows
theorem RepL.dropLast {G : Gm} {dl : Addr} {S : Hp} {ds : List D} {vs : List V} (h : RepL G dl S ds vs) : RepL G dl S ds.dropLast vs.dropLast := by
  rw [List.dropLast_eq_take, List.dropLast_eq_take, h.length]
  exact RepL.take _ h
section
variable {X : Cx} {G : Gm} {W : WX} {a b c : Expr} {f g h : LE → R D} {fk : LE → R Cell} {pos apos p p1 p2 : Pos} {x y z : Str}
def del (H : Hp) (p : Addr) : Hp := fun a => if a = p then none else H a
end
end DL
set_option Elab.async false
set_option linter.all false
set_option maxRecDepth 100000
namespace DL
open PySem L2 PySem.Spec PyProof.Rows
section
variable {X : Cx} {G : Gm} {W : WX} {dl : Addr} {S : Hp}
theorem RepL.of_strs : ∀ (ss : List (List Nat)), RepL G dl S (ss.map D.str) ((ss.map fun z => (⟨z.toArray⟩ : Str)).map V.str)
  | [] => RepL.nil
  | s :: r => RepL.cons Rep.str_ (RepL.of_strs r)
theorem CallR.or_ {f : Value} {r1 r2 : List V → Hp → VK → Prop} (h1 : CallR X f r1) (h2 : CallR X f r2) : CallR X f (fun vs H Q => r1 vs H Q ∨ r2 vs H Q) := fun pins s sg H vs us Q I r q => q.elim (h1 pins s sg H vs us Q I r) (h2 pins s sg H vs us Q I r)
variable {ex : Expr} {es : List Expr} {fs : LE → R (List D)} {gl : List D → R (List D)} {pos p : Pos} {x : Str} {id : String}
end
end DL
set_option Elab.async false
set_option linter.all false
set_option maxRecDepth 100000
namespace DL
open PySem L2 PySem.Spec PyProof.Rows
theorem DpAll.at_ {K : PySem.W.Frag} {H : Hp} : ∀ {us : List V} {ds : List PyData} {j : Nat} {x : V} {z : PyData}, DpAll K H us ds → us[j]? = some x → ds[j]? = some z → Dp K H x z
  | _, _, j, x, z, .nil, e, _ => by simp at e
  | _, _, 0, x, z, .cons h _, e, e2 => by
    cases (show some _ = some x from e)
    cases (show some _ = some z from e2)
    exact h
  | _, _, j + 1, x, z, .cons _ h, e, e2 => DpAll.at_ (j := j) h (by simpa using e) (by simpa using e2)
end DL
set_option Elab.async false
set_option linter.all false
set_option maxRecDepth 100000
namespace DL
open PySem L2 PySem.Spec PyProof.Rows
end DL
set_option Elab.async false
set_option linter.all false
set_option maxRecDepth 100000
namespace DL
open PySem L2 PySem.Spec PyProof.Rows
def Mild {α : Type} (m : R α) : Prop := ∀ (Q : α → Prop) (E E' : Exc → Prop), Wp m Q E → Wp m Q E'
theorem Mild.ok {α : Type} (a : α) : Mild (R.ok a) := fun _ _ _ h => h
theorem Mild.stuck {α : Type} : Mild (R.stuck : R α) := fun _ _ _ h => h
theorem Mild.calm {α : Type} : ∀ (m : R α), Mild m.calm
  | .ok _ => fun _ _ _ h => h
  | .err _ => fun _ _ _ h => h
  | .stuck => fun _ _ _ h => h
  | .roll n k => fun Q E E' h i hi => Mild.calm (k i) Q E E' (h i hi)
theorem Mild.bind {α β : Type} {m : R α} {k : α → R β} (h : Mild m) (q : ∀ a, Mild (k a)) : Mild (m >>= k) := fun Q E E' w =>
  Wp.of_bind (h _ E E' (w.bind.thn fun a z => q a Q E E' z))
section
variable {X : Cx} {G : Gm} {W : WX} {tg iter : Expr} {f : LE → R D} {dl : Addr} {pos p apos cpos tpos : Pos} {elts : List Expr} {kk : Nat}
theorem keys_at {S S' : Hp} : ∀ {kvs : List (D × D)} {kv : List (Key × V)}, RepK G dl S kvs kv → ∀ (i : Nat) {e : D} {k : Key} {v : V}, (kvs.map (·.1))[i]? = some e → kv[i]? = some (k, v) → Rep G dl S' e (kV k)
  | [], kv, h, i, e, k, v, he, h1 => by simp at he
  | (q1, q2) :: kvs, kv, h, i, e, k, v, he, h1 => by
    unfold RepK at h
    obtain ⟨x, w, t, rfl, hk1, _, hk2⟩ := h
    cases i with
    | zero =>
      cases he
      cases h1
      cases q1 <;> first | (cases hk1; done) | skip
      · cases hk1; exact Rep.int_
      · cases hk1; exact Rep.str_
    | succ i => exact keys_at hk2 i (by simpa using he) (by simpa using h1)
theorem walk_keys {d : Addr} {o : Obj} {kv : List (Key × V)} {kvs : List (D × D)} : WalkS G dl (Itk d o kv) (kvs.map (·.1)) (fun Z H => cut H Z d = some (.frz o (.dK kv)) ∧ RepK G dl (cut H Z) kvs kv) where
  mono := fun Z Z' H H' g _ h => ⟨g d _ h.1 (fun ps z => by cases z), h.2.mono g⟩
  monoS := fun Z Z' H H' g h => ⟨g d _ h.1 (fun ps z => by cases z), h.2.mono g⟩
  go := fun i Z H h hi => by
    have := h.2.length
    rw [List.length_map] at hi
    exact ⟨(cut_some h.1).2, by omega⟩
  stop := fun i Z H h hi => by
    have := h.2.length
    rw [List.length_map] at hi
    exact ⟨(cut_some h.1).2, by omega⟩
  yld := fun i Z O r sg H x H' A h hy e he => by
    obtain ⟨rfl, k, v, h1, rfl⟩ := hy
    exact ⟨.refl _ _, fun _ k => k, keys_at h.2 i he h1⟩
end
end DL
set_option Elab.async false
set_option linter.all false
set_option maxRecDepth 100000
namespace DL
open PySem L2 PySem.Spec PyProof.Rows
end DL
set_option Elab.async false
set_option linter.all false
set_option maxRecDepth 100000
namespace DL
open PySem
end DL
set_option Elab.async false
set_option linter.all false
set_option maxRecDepth 100000
namespace DL
open PySem L2 PySem.Spec PyProof.Rows
def lenX : List D → R D
  | [.dic kvs] => .ok (.int kvs.length)
  | ds => lenD ds
section
variable {X : Cx} {G : Gm} {W : WX}
theorem cr_lenK : CallR X (.builtin "len") (fun xs H Q => ∃ (a : Addr) (kvs : List (Key × V)), xs = [.ref a] ∧ Rd H a (.dK kvs) ∧ Q (.int kvs.length) H) := by
  intro pins s sg H xs us Q I r h
  obtain ⟨a, kvs, rfl, e, q⟩ := h
  obtain ⟨u, rfl, ru⟩ := vals1 r
  obtain rfl : u = Value.ref a := ru
  exact d_len I e fun t s' I' => ⟨.int _, H, I', ⟨t, rfl⟩, q⟩
theorem cd_lenX (hG : G.K = X.K) : CallD X G (.builtin "len") lenX := by
  obtain ⟨rr, h1, h2⟩ := cd_len (X := X) (G := G) hG
  refine ⟨_, CallR.or cr_lenK h1, fun dl Z O r sg ds vs H Q E A rl h => ?_⟩
  unfold lenX at h
  split at h
  · obtain ⟨v, rfl, rp⟩ := rl.one
    obtain ⟨a, kv, rfl, hrd, rk⟩ := rp.dic
    refine .inl ⟨a, kv, rfl, hrd, ?_⟩
    rw [rk.length]
    exact h _ H (.refl _ _) A.gl Rep.int_
  · exact .inr (h2 dl Z O r sg ds vs H Q E A rl h)
end
end DL
set_option Elab.async false
set_option linter.all false
set_option maxRecDepth 100000
namespace DL
theorem Wp_onS {α : Type} {Q : Out → Prop} {r : LE} {k : α → R Out} : ∀ {m : R α}, Wp m (fun a => Wp (k a) Q (fun _ => False)) (fun e => Q (.ex e r)) → Wp (m.onS r k) Q (fun _ => False)
  | .ok _, h => h
  | .err _, h => h
  | .stuck, h => h
  | .roll _ _, h => fun i hi => Wp_onS (h i hi)
theorem Wp_seq {F K : LE → R Out} {r : LE} {Q : Out → Prop} : Wp (F r) (fun o => match o with
    | .nx r' => Wp (K r') Q (fun _ => False)
    | o => Q o) (fun _ => False) → Wp (seqS F K r) Q (fun _ => False) := fun h => by
  rw [seqS_eq]
  refine Wp.of_bind (h.thn fun o ho => ?_)
  cases o <;> exact ho
theorem Wp_setK {i : Nat} {f : LE → R D} {r : LE} {Q : Out → Prop} (h : Wp (f r) (fun d => Q (.nx (r.set i (.val d)))) (fun e => Q (.ex e r))) : Wp (setK i (valK f) r) Q (fun _ => False) := by
  rw [setK_eq, valK_eq]
  refine Wp_onS ?_
  refine Wp.of_bind (Wp.of_bind (h.thn fun d hd => ?_))
  exact hd
/-- the ends of a body: ways P lets through -/
structure Go (P : Out → Prop) (F : LE → R Out) (r : LE) : Prop where
  h : Wp (F r) P (fun _ => False)
theorem Go.cons {P : Out → Prop} {S F K : LE → R Out} {r r2 : LE} (e : S = seqS F K) (h : F r = .ok (.nx r2)) (k : Go P K r2) : Go P S r := by
  subst e
  refine ⟨Wp_seq ?_⟩
  rw [h]
  exact k.h
end DL
set_option Elab.async false
set_option linter.all false
set_option maxRecDepth 100000
namespace DL
open PySem L2 PySem.Spec PyProof.Rows
def cutD {α : Type} (xs : List α) (lo hi : Option Int) : List α := (xs.drop (HT.sIx xs.length 0 lo)).take (HT.sIx xs.length xs.length hi - HT.sIx xs.length 0 lo)
def slI (x : D) (lo hi : Option Int) : R D := match x with
  | .str s => if s.length ≤ 16777216 then .ok (.str (cutD s lo hi)) else .stuck
  | .tup xs => .ok (.tup (cutD xs lo hi))
  | .lst xs => .ok (.lst (cutD xs lo hi))
  | _ => .stuck
def tO (G : Gm) (W : WX) (p : LE → R (Option Int)) : TO := fun sg H Q => ∃ dl Z O r, At G dl Z O r sg H ∧
  Wp (p r) (fun o => ∀ H', Grow dl H H' → GlOk G dl H' → Q o H') (fun e => ∀ cls dx H', Grow dl H H' → GlOk G dl H' → XRep G dl (cut H' Z) e cls dx H' → W cls dx sg H')
abbrev DO (X : Cx) (G : Gm) (W : WX) (e : Option Expr) (p : LE → R (Option Int)) : Prop := PO X e (tO G W p)
def noP : LE → R (Option Int) := fun _ => .ok none
def someP (f : LE → R D) : LE → R (Option Int) := fun r => f r >>= fun d => match d with
  | .int i => .ok (some i)
  | _ => .stuck
def sliceE (f : LE → R D) (l h : LE → R (Option Int)) : LE → R D := fun r => do let x ← f r; let a ← l r; let b ← h r; slI x a b
section
variable {X : Cx} {G : Gm} {W : WX} {a b : Expr} {f : LE → R D} {lo hi : Option Expr} {l h : LE → R (Option Int)} {pos p2 : Pos}
theorem PO_imp {e : Option Expr} {t t' : TO} (h : PO X e t) (i : ∀ sg H Q, t' sg H Q → t sg H Q) : PO X e t' := ⟨fun pins s sg H Q I q => h.run pins s sg H Q I (i _ _ _ q)⟩
theorem do_none : DO X G W none noP := PO_imp po_none fun sg H Q ⟨dl, Z, O, r, A, q⟩ => q H (.refl _ _) A.gl
theorem do_some (ha : DP X G W a f) : DO X G W (some a) (someP f) := PO_imp (po_some ha) fun sg H Q ⟨dl, Z, O, r, A, q⟩ => by
  refine ⟨dl, Z, O, r, A, q.bind.thn fun d hd v H1 g1 k1 rp => ?_⟩
  cases d <;> first | exact hd.elim | skip
  rename_i i
  exact ⟨i, rp.int, hd H1 g1 k1⟩
theorem RepL.cut_ {dl : Addr} {S : Hp} {ds : List D} {vs : List V} (rl : RepL G dl S ds vs) (lo hi : Option Int) : RepL G dl S (cutD ds lo hi) (cutV vs lo hi) := by
  unfold cutD cutV
  rw [rl.length]
  exact RepL.take _ (RepL.drop _ rl)
theorem cutS_of (s : List Nat) (lo hi : Option Int) : cutS ⟨s.toArray⟩ lo hi = ⟨(cutD s lo hi).toArray⟩ := by
  unfold cutS cutD
  simp [Str.length]
theorem cut_whole {α : Type} (xs : List α) (lo hi : Option Int) (h : HT.sIx xs.length 0 lo = 0 ∧ HT.sIx xs.length xs.length hi = xs.length) : cutD xs lo hi = xs := by
  unfold cutD
  rw [h.1, h.2]
  simp
theorem de_slice (hG : G.K = X.K) (ha : DP X G W a f) (hl : DO X G W lo l) (hh : DO X G W hi h) : DE X G W (.Subscript a (.Slice lo hi none p2) pos) (sliceE f l h) := by
  refine PE_imp (pe_slice (SlR.or (SlR.or sl_str sl_tupA) sl_list) ha hl hh) fun sg H Q ⟨dl, Z, O, r, A, q⟩ => ?_
  refine ⟨dl, Z, O, r, A, q.bind.thn fun x hx v H1 g1 k1 rp => ?_⟩
  have A1 := A.grow g1 k1
  refine ⟨dl, Z, O, r, A1, hx.bind.mono (fun o1 ho1 H2 g2 k2 => ?_) fun e => epost g1⟩
  have A2 := A1.grow g2 k2
  refine ⟨dl, Z, O, r, A2, ho1.bind.mono (fun o2 ho2 H3 g3 k3 => ?_) fun e => epost (g1.trans g2)⟩
  have A3 := A2.grow g3 k3
  have rp3 := rp.grow A1 (g2.trans g3)
  have g := (g1.trans g2).trans g3
  cases x <;> first | exact ho2.elim | skip
  · rename_i s
    change Wp (if s.length ≤ 16777216 then R.ok (D.str (cutD s o1 o2)) else R.stuck) _ _ at ho2
    split at ho2
    case isFalse => exact ho2.elim
    rename_i hz
    refine .inl (.inl ⟨⟨s.toArray⟩, rp3.str, by rw [sizeLine_eq]; simpa [Str.length] using hz, ?_⟩)
    rw [cutS_of]
    exact ho2 _ H3 g k3 Rep.str_
  · rename_i xs
    obtain ⟨p, us, rfl, hl, rl⟩ := rp3.lst
    refine .inr ⟨p, us, rfl, SqL.of hl, fun p' hp => ?_⟩
    exact ho2 _ _ (g.trans (.new hp)) (k3.new hp) (Rep.lst_new A3 hp (rl.cut_ o1 o2))
  · rename_i xs
    obtain ⟨p, us, rfl, hl, rl⟩ := rp3.tup
    have hlen := rl.length
    refine .inl (.inr ⟨p, us, rfl, hG ▸ hl, fun hw => ?_, fun hw p' hp => ?_⟩)
    · rw [hlen] at hw
      have e := cut_whole xs o1 o2 hw
      change Wp (R.ok (D.tup (cutD xs o1 o2))) _ _ at ho2
      rw [e] at ho2
      rcases rp3 with rp3 | ⟨_, _, _, _, own⟩
      · exact ho2 _ H3 g k3 rp3
      · exact own.elim
    · exact ho2 _ _ (g.trans (.new hp)) (k3.new hp) (Rep.tup_new A3 hp (rl.cut_ o1 o2))
end
end DL
set_option Elab.async false
set_option linter.all false
set_option maxRecDepth 100000
namespace DL
open PySem L2 PySem.Spec PyProof.Rows
def iaddD : D → D → R D
  | .int i, .int j => .ok (.int (i + j))
  | .str a, .str b => if a.length + b.length ≤ 16777216 then .ok (.str (a ++ b)) else .stuck
  | _, _ => .stuck
section
variable {X : Cx} {G : Gm} {W : WX} {a b : Expr} {f g : LE → R D} {pos pos' p : Pos} {x : Str}
theorem oi_add : OpD X G (inplaceOp .Add) iaddD := by
  refine ⟨_, OpR.or (opI0 (g := fun i j => i + j) fun _ _ _ _ _ _ _ q => iadd_int q) (in_addS : OpR X (inplaceOp .Add) rAddS), fun dl Z O r sg x y vx vy H Q E A hx hy h => ?_⟩
  unfold iaddD at h
  split at h
  · exact .inl ⟨_, _, hx.int, hy.int, h _ H (.refl _ _) A.gl Rep.int_⟩
  · split at h
    · rename_i a b hc
      refine .inr ⟨_, _, hx.str, hy.str, by rw [sizeLine_eq]; simpa [Str.length] using hc, ?_⟩
      rw [str_add]
      exact h _ H (.refl _ _) A.gl Rep.str_
    · exact h.elim
  · exact h.elim
theorem ds_aug (i : Nat) {op : Operator} {gg : D → D → R D} (ho : OpD X G (inplaceOp op) gg) (hN : X.N.Nodup) (he : DE X G W a f) (hi : X.N[i]? = some x := by rfl) (hx : Loc X.env.scope x := by first | exact Or.inl rfl | exact Or.inr rfl)
    (hf : X.fn x = true ∨ X.env.scope.names.lookup x = some .local := by first | exact .inl rfl | exact .inr rfl) : DS X G W (.AugAssign (.Name x pos') op a pos) (setK i (valK (opE gg (var i) f))) := by
  obtain ⟨rr, h1, h2⟩ := ho
  refine PS_imp (ps_aug hN hi hx he (ti := rr) h1 hf) fun De sg H ⟨dl, Z, O, r, A, q⟩ => ?_
  have q1 := (onS_wp q).bind.bind
  have hv : ∃ d, r[i]? = some (.val d) := by
    cases hc : r[i]? with
    | none => rw [show opE gg (var i) f r = (var i r >>= fun x => f r >>= fun y => gg x y) from rfl, var_eq, hc] at q1; exact q1.elim
    | some c =>
      cases c with
      | val d => exact ⟨d, rfl⟩
      | un => rw [show opE gg (var i) f r = (var i r >>= fun x => f r >>= fun y => gg x y) from rfl, var_eq, hc] at q1; exact q1.elim
      | own d => rw [show opE gg (var i) f r = (var i r >>= fun x => f r >>= fun y => gg x y) from rfl, var_eq, hc] at q1; exact q1.elim
  obtain ⟨d, hd⟩ := hv
  obtain ⟨v, hs, rp⟩ := A.slot i _ hd
  rw [show opE gg (var i) f r = (var i r >>= fun x => f r >>= fun y => gg x y) from rfl, var_eq, hd] at q1
  refine ⟨v, hs, dl, Z, O, r, A, (show Wp (f r >>= fun y => gg d y) _ _ from q1).bind.mono (fun y hy u H1 g1 k1 ru => ?_) fun e he => spost_ex A he⟩
  have A1 := A.grow g1 k1
  refine h2 dl Z O r sg d y v u H1 _ (fun e => SPost G W De dl Z O H (.ex e r)) A1 (.of (rp.mono (g1.cut A.dz))) (.of ru) (hy.thn fun z hz w H2 g2 k2 rw_ => ?_)
  exact hz Z O _ H2 (Stp.of_grow (g1.trans g2) k2) ((A1.grow g2 k2).set_val i rw_)
def isNone : D → R D
  | .non => .ok (.bl true)
  | .int _ => .ok (.bl false)
  | .str _ => .ok (.bl false)
  | .bl _ => .ok (.bl false)
  | .tup _ => .ok (.bl false)
  | .lst _ => .ok (.bl false)
  | _ => .stuck
def isNE (f : LE → R D) : LE → R D := fun r => f r >>= isNone
def notNE (f : LE → R D) : LE → R D := fun r => f r >>= fun x => isNone x >>= fun y => match y with
  | .bl b => .ok (.bl (!b))
  | _ => .stuck
theorem isNone_rep {dl : Addr} {H : Hp} {Z : List Addr} {d : D} {v : V} {Q : D → Prop} {E : Exc → Prop} (rp : RepP G dl H Z d v) (h : Wp (isNone d) Q E) : Q (.bl (decide (v = .non))) := by
  cases d <;> first | exact h.elim | skip
  · rcases rp with rp | ⟨_, _, _, _, own⟩
    · unfold Rep at rp; subst rp; exact h
    · exact own.elim
  · rw [rp.bl]; exact h
  · rw [rp.int]; exact h
  · rw [rp.str]; exact h
  · obtain ⟨p, us, rfl, _⟩ := rp.lst; exact h
  · obtain ⟨p, us, rfl, _⟩ := rp.tup; exact h
end
end DL
set_option Elab.async false
set_option linter.all false
set_option maxRecDepth 100000
set_option maxHeartbeats 1000000
namespace DL
open PySem L2 PySem.Spec PyProof.Rows GenW
/-- the context of a generator expression's frame, run over A; s, H: ahead of the frame; fp: the iterator's records -/
abbrev genCx (X : Cx) (A : Around) (s : Shared) (H : Hp) (env : Env) (fp : List Addr) : Cx :=
  { X with A := A, s_0 := s, H_0 := H, env := env, outer := X.stack, stack := env :: X.stack, ex := fp, fn := fun x => env.scope.names.lookup x == some .cell, calm := true, pn := [], xe := fun _ _ => False }
/-- its names -/
structure GenOk (scope : Scope) : Prop where
  co : scope.isCoroutine = false
  dot : scope.names.lookup (".0" : Str) = some NameKind.local
def genOkC (scope : Scope) : Bool := !scope.isCoroutine && decide (scope.names.lookup (".0" : Str) = some NameKind.local)
theorem genOk_by {scope : Scope} (h : genOkC scope = true) : GenOk scope := by
  unfold genOkC at h
  simp only [Bool.and_eq_true, Bool.not_eq_true', decide_eq_true_eq] at h
  exact ⟨h.1, h.2⟩
/-- the cells of a generator's frame at L -/
abbrev genCl (X : Cx) (scope : Scope) (L : Addr) : List (Str × Addr) := cellsFrom (L + 1) scope.names (cloFrom X.env.cells scope.names [])
/-- a frame laid at L -/
structure GenAt (names : List (Str × NameKind)) (clo : List (Str × Addr)) (L : Addr) (h0 h5 : Heap) : Prop where
  ns : ∃ m, h5.Ns L m
  kp : ∀ b o, h0.get? b = some o → h5.get? b = some o
  cells : ∀ y c, (cellsFrom (L + 1) names clo).lookup y = some c → (y, c) ∈ clo ∨ ((y, NameKind.cell) ∈ names ∧ L + 1 ≤ c ∧ h5.IsCell c none)
  sz : L < h5.objs.size
theorem GenAt.push {names : List (Str × NameKind)} {clo : List (Str × Addr)} {L : Addr} {h0 h5 h6 : Heap} (h : GenAt names clo L h0 h5) (k : ∀ b o, h5.get? b = some o → h6.get? b = some o) (hz : h5.objs.size ≤ h6.objs.size) : GenAt names clo L h0 h6 :=
  ⟨h.ns.elim fun m hm => ⟨m, hm.keeps k⟩, fun b o e => k b o (h.kp b o e), fun y c e => (h.cells y c e).elim .inl fun ⟨a, b, z⟩ => .inr ⟨a, b, z.keeps k⟩, Nat.lt_of_lt_of_le h.sz hz⟩
theorem gen_env {M : Model} {A : Around} {scope : Scope} {ql : Str} {it code : Value} {clo : List (Str × Addr)} {bi g : Addr} {E : Value → Shared → Prop} {Q : Env → Shared → Prop} {s : Shared} (h0 : scope.names.lookup (".0" : Str) = some NameKind.local) (hk : scope.kind = .function)
    (h : ∀ h5 tk, GenAt scope.names clo s.heap.objs.size s.heap h5 → Q (newEnv scope s.heap.objs.size g (cellsFrom (s.heap.objs.size + 1) scope.names clo) ql none code none bi) { s with heap := h5, toks := tk }) :
    wpAny M A (newFunctionEnv scope g clo [(".0", it)] ql none code none bi) Q E s := by
  simp only [newFunctionEnv, Option.isSome_none, Bool.false_eq_true, if_false]
  refine wpAny_bind (wpAny_alloc ?_)
  refine wpAny_bind (wpAny_layCells _ (fun name kind cells => by cases hkc : kind == NameKind.cell <;> simp [hkc]) _ _ _ _ ?_)
  have hz : (s.heap.push { cls := .type "frame", data := .dict #[] }).objs.size = s.heap.objs.size + 1 := Heap.size_push ..
  rw [show ({ s with heap := s.heap.push { cls := .type "frame", data := .dict #[] } } : Shared).heap.objs.size = s.heap.objs.size + 1 from hz]
  rw [List.forIn_cons]
  have hns : (pushCells (s.heap.push { cls := .type "frame", data := .dict #[] }) scope.names).Ns s.heap.objs.size fun _ => none := (Heap.Ns.new s.heap (.type "frame")).keeps (pushCells_keeps _ _)
  have hp : (scope.kind == .class || (scope.kind == .module && s.heap.objs.size != g)) = false := by rw [hk]; rfl
  refine wpAny_bind (wpAny_bind (wpAny_bind (wpAny_storeName_local (m := fun _ => none) h0 hns (fun h5 hn5 hs5 => wpAny_pure ?_) hp)))
  show wpAny M A (forIn [] _ _) _ _ _
  rw [List.forIn_nil]
  refine wpAny_pure (wpAny_pure (h h5 _ ⟨⟨_, hn5⟩, fun b o e => ?_, fun y c e => ?_, ?_⟩))
  · exact hs5.extBut b o (Nat.ne_of_lt (Heap.lt_size e)) (pushCells_keeps _ _ _ _ (Heap.get?_push_of_some _ e))
  · rw [← hz] at e
    rcases cells_mem (PySem.mem_of_lookup e) with hm | ⟨h1, h2, h3⟩
    · exact .inl hm
    · rw [hz] at h2
      exact .inr ⟨h1, h2, h3.sameBut hs5 (Nat.ne_of_gt h2)⟩
  · obtain ⟨o, _, _, ho, _⟩ := id hn5
    exact Heap.lt_size ho
section
variable {X : Cx} {pins : List (Addr × Obj)} {σ : L2.St} {H : Hp} {s : Shared}
theorem inv_gens {G : Array GenState} (I : Inv X pins σ H s) (hg : AllBare G) : Inv X pins σ H { s with gens := G } :=
  ⟨I.ok, I.os, hg, I.base, I.loc, I.cell, I.free, I.freeC, I.pin, I.hok, I.len⟩
theorem gen_start {A : Around} {scope : Scope} {own : List (Str × Nat)} {fp : List Addr} {code : Value} {h5 : Heap} {G : Array GenState} {tk : Nat} (I : Inv X pins σ H s) (ok : BlkOk X.N X.env.scope scope own) (hN : X.N.Nodup)
    (hfp : ∀ b ∈ fp, FpOk X pins H b ∧ b < s.heap.objs.size) (hh : A.handled = none) (hfr : A.frames = some (genEnv scope (genCl X scope s.heap.objs.size) s.heap.objs.size code builtinsNs X.env :: X.stack))
    (ga : GenAt scope.names (cloFrom X.env.cells scope.names []) s.heap.objs.size s.heap h5) (hG : AllBare G) :
    Inv (genCx X A s H (genEnv scope (genCl X scope s.heap.objs.size) s.heap.objs.size code builtinsNs X.env) fp) [] (wipe σ (own.map (·.2))) H { s with gens := G, toks := tk, heap := h5 } := by
  have kp := ga.kp
  have hfree : ∀ y ∈ scope.names, y.2 = .free → ∃ c, X.env.cells.lookup y.1 = some c := fun y hy e => by
    rcases ok.free y hy e with k | k
    · exact I.ok.has _ (.inl k)
    · exact I.ok.has _ (.inr k)
  have cm : ∀ {y c}, (y, c) ∈ cloFrom X.env.cells scope.names [] → X.env.cells.lookup y = some c ∧ c < s.heap.objs.size := fun {y c} hm => by
    rcases cloFrom_mem hm with hm | ⟨h1, h2⟩
    · cases hm
    · obtain ⟨c1, hc⟩ := hfree _ h1 rfl
      have hc : X.env.cells.lookup y = some c1 := hc
      have e2 : c = c1 := by
        rw [h2, hc] <;> rfl
      obtain ⟨w, z⟩ := I.cell _ _ hc
      rw [e2]
      exact ⟨hc, z.lt⟩
  have mem : ∀ {y c}, (genCl X scope s.heap.objs.size).lookup y = some c → (X.env.cells.lookup y = some c ∧ c < s.heap.objs.size) ∨ ((y, NameKind.cell) ∈ scope.names ∧ s.heap.objs.size + 1 ≤ c ∧ h5.IsCell c none) := fun {y c} e => (ga.cells y c e).elim (fun hm => .inl (cm hm)) .inr
  have look : ∀ {y}, scope.names.lookup y = some .free → ∃ c, (genCl X scope s.heap.objs.size).lookup y = some c ∧ X.env.cells.lookup y = some c := fun {y} hl => by
    have hy : (y, NameKind.free) ∈ scope.names := PySem.mem_of_lookup hl
    obtain ⟨c', e'⟩ := mem_lookup (cells_acc (names := scope.names) (n := s.heap.objs.size + 1) (cloFrom_has (cells := X.env.cells) (acc := []) hy))
    refine ⟨c', e', ?_⟩
    rcases ga.cells y c' e' with hm | ⟨h1, _, _⟩
    · exact (cm hm).1
    · have := ok.uniq _ h1
      rw [hl] at this; cases this
  have cellK : ∀ {c : Addr} {v : Option Value}, s.heap.IsCell c v → h5.IsCell c v := fun {c v} ⟨o, ho, hd⟩ => ⟨o, kp _ _ ho, hd⟩
  obtain ⟨m5, hns⟩ := ga.ns
  refine ⟨⟨I.ok.mod, ok.kind, I.ok.glob, rfl, Nat.le_refl _, fun y z c e1 e2 => ?_, fun y hy => ?_, fun y c z e => ?_, fun _ => hh, hfr, .inr ⟨rfl, rfl⟩, fun b hb => ⟨?_, fun y c e z => ?_⟩, I.bs, Nat.le_trans I.ok.bsz I.sz, fun b o e hb => ?_, fun b hb z => ?_, I.stack, I.stkFree⟩,
    rfl, hG, Un.kept kp, ⟨_, hns, fun i y av e1 e2 e3 => ?_⟩, fun y c e => ?_, I.hok.fresh (Nat.le_refl _), fun y c e => ?_, fun q hq => absurd (show q ∈ ([] : List (Addr × Obj)) ++ [] from hq) (by simp), I.hok.kept kp, by rw [wipe_length]; exact I.len⟩
  · have e1 : (cellsFrom (s.heap.objs.size + 1) scope.names (cloFrom X.env.cells scope.names [])).lookup y = some c := e1
    have e2 : (cellsFrom (s.heap.objs.size + 1) scope.names (cloFrom X.env.cells scope.names [])).lookup z = some c := e2
    have hz : (s.heap.push { cls := .type "frame", data := .dict #[] }).objs.size = s.heap.objs.size + 1 := Heap.size_push ..
    rw [← hz] at e1 e2
    refine cells_inj (fun p hp => ?_) (fun y z c a b => I.ok.inj y z c (cm a).1 (cm b).1) (PySem.mem_of_lookup e1) (PySem.mem_of_lookup e2)
    rw [hz]
    exact Nat.lt_succ_of_lt (cm (y := p.1) (c := p.2) hp).2
  · have hy : scope.names.lookup y = some .cell ∨ scope.names.lookup y = some .free := hy
    rcases hy with hy | hy
    · obtain ⟨c, hm⟩ := cells_has (n := s.heap.objs.size + 1) (acc := cloFrom X.env.cells scope.names []) (PySem.mem_of_lookup hy)
      exact mem_lookup hm
    · obtain ⟨c, h1, _⟩ := look hy
      exact ⟨c, h1⟩
  · have z : (scope.names.lookup y == some NameKind.cell) = true := z
    have z : scope.names.lookup y = some .cell := by simpa using z
    rcases ga.cells y c e with hm | ⟨_, h2, _⟩
    · rcases cloFrom_mem hm with hm | ⟨h1, _⟩
      · cases hm
      · have q := ok.uniq _ h1
        rw [z] at q; cases q
    · exact Nat.le_of_succ_le h2
  · exact Nat.ne_of_lt (hfp b hb).2
  · rcases mem e with ⟨h1, _⟩ | ⟨_, h1, _⟩
    · exact (hfp b hb).1.2.2.2.2.1 y c h1 z
    · have h2 : s.heap.objs.size + 1 ≤ b := by rw [← z]; exact h1
      exact absurd (Nat.lt_of_lt_of_le (hfp b hb).2 (Nat.le_of_succ_le h2)) (Nat.lt_irrefl _)
  · rcases (hfp b hb).1.2.2.2.1 with z | z
    · exact I.ok.noex b o e z
    · exact absurd (Nat.lt_of_lt_of_le (Heap.lt_size e) (Nat.le_trans I.ok.bsz z)) (Nat.lt_irrefl _)
  · rcases List.mem_cons.mp (I.stkSub b z) with z | z
    · exact (hfp b hb).1.2.1 z
    · exact (hfp b hb).1.2.2.1 z
  · obtain ⟨e2, hne⟩ := wipe_some e2
    have hfr : scope.names.lookup y = some .free := by
      have no : ¬ (scope.names.lookup y = some .local ∨ scope.names.lookup y = some .cell) := fun hh => by
        have hm : (y, NameKind.local) ∈ scope.names ∨ (y, NameKind.cell) ∈ scope.names := hh.elim (fun z => .inl (PySem.mem_of_lookup z)) fun z => .inr (PySem.mem_of_lookup z)
        have e' : y ∈ own.map (·.1) ∨ y ∉ X.N := hm.elim (fun z => ok.own _ z (.inl rfl)) fun z => ok.own _ z (.inr rfl)
        rcases e' with e' | e'
        · obtain ⟨p, hp, hpy⟩ := List.mem_map.mp e'
          have e3 := ok.ix p hp
          have : p.1 = y := hpy
          rw [this] at e3
          exact hne (List.mem_map.mpr ⟨p, hp, nodup_ix hN e3 e1⟩)
        · exact e' (List.mem_of_getElem? e1)
      have e3 : Vis scope y := e3
      rcases e3 with e3 | e3 | e3
      · exact (no (.inl e3)).elim
      · exact (no (.inr e3)).elim
      · exact e3
    obtain ⟨m, hn, hl⟩ := I.loc
    have hvis : Vis X.env.scope y := (ok.free _ (PySem.mem_of_lookup hfr) rfl).elim (fun k => .inr (.inl k)) (fun k => .inr (.inr k))
    obtain ⟨w, r, q⟩ := hl i y av e1 e2 hvis
    obtain ⟨c2, h2, c1⟩ := look hfr
    refine ⟨w, r, .inr ⟨.inr hfr, c2, h2, ?_⟩⟩
    rcases q with ⟨k, _⟩ | ⟨_, c', e', z⟩
    · have k : X.env.scope.names.lookup y = some .local := k
      rcases ok.free _ (PySem.mem_of_lookup hfr) rfl with k' | k' <;> rw [show X.env.scope.names.lookup y = _ from k'] at k <;> cases k
    · rw [c1] at e'
      cases e'
      exact cellK z
  · rcases mem e with ⟨h1, _⟩ | ⟨_, _, z⟩
    · obtain ⟨w, z⟩ := I.cell y c h1
      exact ⟨w, cellK z⟩
    · exact ⟨_, z⟩
  · rcases mem e with ⟨h1, _⟩ | ⟨_, h1, _⟩
    · exact I.freeC y c h1
    · exact I.hok.fresh (Nat.le_of_succ_le h1)
end
end DL
set_option Elab.async false
set_option linter.all false
set_option maxRecDepth 100000
set_option maxHeartbeats 1000000
namespace DL
open PySem L2 PySem.Spec PyProof.Rows GenW
/-- the consumer's turn while the generator sleeps: only its own records at S change -/
structure Slp (S : List Addr) (s s' : Shared) : Prop where
  os : s'.os = s.os
  bare : AllBare s'.gens
  keep : ∀ b o, b ∉ S → s.heap.get? b = some o → s'.heap.get? b = some o
/-- the consumer's records as they stand -/
structure Held (S : List Addr) (ps : List (Addr × Obj)) (s : Shared) : Prop where
  at_ : ps.map (·.1) = S
  ok : ∀ p ∈ ps, s.heap.get? p.1 = some p.2 ∧ ∀ v, p.2.data ≠ .cell v
/-- the generator's own things: Xg its context, pa its object (pinned), S the consumer's records, the iterator -/
structure Ge where
  Xg : Cx
  pa : Addr × Obj
  S : List Addr
  σ0 : L2.St
  fp : List Addr
  it : Addr
  tn : Nat → Heap → Prop
  J : It
  vs : List Nat
/-- between two turns -/
structure GInv (g : Ge) (i : Nat) (ps : List (Addr × Obj)) (H : Hp) (s : Shared) : Prop where
  at_ : ps.map (·.1) = g.S
  inv : Inv g.Xg (g.pa :: ps) g.σ0 H s
  tn : g.tn i s.heap
  fp : ∀ b ∈ g.fp, H b = none
/-- at the end -/
structure GEnd (g : Ge) (ps : List (Addr × Obj)) (H : Hp) (s : Shared) : Prop where
  at_ : ps.map (·.1) = g.S
  inv : Inv g.Xg (g.pa :: ps) g.σ0 H s
  fp : ∀ b ∈ g.fp, H b = none
theorem GInv.end {g : Ge} {i : Nat} {ps : List (Addr × Obj)} {H : Hp} {s : Shared} (h : GInv g i ps H s) : GEnd g ps H s := ⟨h.at_, h.inv, h.fp⟩
theorem GEnd.held {g : Ge} {ps : List (Addr × Obj)} {H : Hp} {s : Shared} (h : GEnd g ps H s) : Held g.S ps s := ⟨h.at_, fun p hp =>
  let z := h.inv.pin p (List.mem_append_right _ (List.mem_cons_of_mem _ hp)); ⟨z.1, z.2.2.2.2⟩⟩
structure GeOk (g : Ge) (tg : Expr) : Prop where
  pn : g.Xg.pn = []
  ex : g.Xg.ex = g.fp
  calm : g.Xg.calm = true
  xe : g.Xg.xe = fun _ _ => False
  turn : Turn g.Xg.prog g.Xg.w g.Xg.K tg g.J g.fp g.it g.tn
  apart : ∀ b ∈ g.S, g.Xg.s_0.heap.objs.size ≤ b ∧ b ≠ g.Xg.env.locals ∧ b ≠ g.pa.1 ∧ b ∉ g.fp ∧ ∀ x c, g.Xg.env.cells.lookup x = some c → c ≠ b
  gen : g.pa.1 ∉ g.fp
section
variable {g : Ge} {tg : Expr} {i : Nat} {H : Hp} {s s' : Shared} {ps ps' : List (Addr × Obj)}
theorem GeOk.fpok (k : GeOk g tg) {σ' : L2.St} {ps : List (Addr × Obj)} (hps : ps.map (·.1) = g.S) (I : Inv g.Xg (g.pa :: ps) σ' H s) (hn : ∀ b ∈ g.fp, H b = none) : ∀ b ∈ g.fp, FpOk g.Xg (g.pa :: ps) H b := fun b hb => by
  have hx : b ∈ g.Xg.ex := by rw [k.ex]; exact hb
  refine ⟨hn b hb, (I.ok.exf b hx).1, I.ok.exfs b hx, .inl hx, fun x c e => (I.ok.exf b hx).2 x c e, fun p hp => ?_⟩
  rw [k.pn, List.nil_append] at hp
  rcases List.mem_cons.mp hp with z | z
  · rw [z]
    exact fun e => k.gen (by rw [e]; exact hb)
  · have hm : p.1 ∈ g.S := by rw [← hps]; exact List.mem_map.mpr ⟨p, z, rfl⟩
    exact fun e => (k.apart p.1 hm).2.2.2.1 (by rw [e]; exact hb)
/-- behind the consumer's turn -/
theorem GInv.slept (k : GeOk g tg) (h : GInv g i ps H s) (z : Slp g.S s s') (hd : Held g.S ps' s') : GInv g i ps' H s' := by
  obtain ⟨hps, I, st, hn⟩ := h
  have pinS : ∀ b ∈ g.S, ∃ o, s.heap.get? b = some o ∧ H b = none ∧ b ≠ g.Xg.env.locals ∧ b ∉ g.Xg.fs := fun b hb => by
    rw [← hps] at hb
    obtain ⟨p, hp, e⟩ := List.mem_map.mp hb
    obtain ⟨h1, h2, h3, h4, _⟩ := I.pin p (List.mem_append_right _ (List.mem_cons_of_mem _ hp))
    rw [← e]
    exact ⟨_, h1, h2, h3, h4⟩
  have pinA := I.pin g.pa (List.mem_append_right _ List.mem_cons_self)
  have I0 : Inv g.Xg [g.pa] g.σ0 H s := I.pins_of fun p hp => by
    rw [List.mem_singleton.mp hp]
    exact pinA
  have nt : ∀ b u, H b = some u → b ∉ g.S := fun b u q hb => by
    obtain ⟨_, _, h2, _⟩ := pinS b hb
    rw [h2] at q; cases q
  have hz := z
  obtain ⟨z1, z2, z3⟩ := z
  obtain ⟨hh, G, d, t, o⟩ := s'
  have ho : o = s.os := z1
  subst ho
  have J : Inv g.Xg [g.pa] g.σ0 H { s with heap := hh, gens := G, drawn := d, toks := t } := by
    refine I0.step (g' := G) (t' := t) (d' := d) (ch := g.S) (fun b hb => ?_)
      (fun b ob _ _ hc q _ => z3 b ob hc q) (fun b ob _ _ hc q _ => ⟨ob.slots, z3 b ob hc q⟩) (fun _ _ _ _ n => n) (fun b ob hc q => ⟨ob, z3 b ob hc q⟩)
      (fun _ _ q => q) (fun _ _ _ q => q) (fun b ps q => ⟨#[], by rw [q]; simp⟩) (fun m hm => ?_) (fun b u q => ?_) z2
    · obtain ⟨a1, a2, a3, a4, a5⟩ := k.apart b hb
      refine ⟨.inr a1, a2, a5, fun p hp => ?_⟩
      rw [k.pn, List.nil_append] at hp
      rw [List.mem_singleton.mp hp]
      exact fun e => a3 e.symm
    · obtain ⟨ob, es, ep, ho, r⟩ := hm
      exact ⟨ob, es, ep, z3 _ ob (fun hb => (k.apart _ hb).2.1 rfl) ho, r⟩
    · refine (I0.hok b u q).stay (fun c v hc y => z3 c v ?_ y) (fun _ y => y) fun _ _ y => y
      rcases hc with y | y
      · rw [y]; exact nt b u q
      · exact nt c _ y
  have hp' : ∀ p ∈ ps', hh.get? p.1 = some p.2 ∧ H p.1 = none ∧ p.1 ≠ g.Xg.env.locals ∧ p.1 ∉ g.Xg.fs ∧ ∀ v, p.2.data ≠ .cell v := fun p hp => by
    obtain ⟨q1, q2⟩ := hd.ok p hp
    obtain ⟨_, _, h2, h3, h4⟩ := pinS p.1 (by rw [← hd.at_]; exact List.mem_map.mpr ⟨p, hp, rfl⟩)
    exact ⟨q1, h2, h3, h4, q2⟩
  refine ⟨hd.at_, J.pins_of fun p hp => ?_, k.turn.keep _ _ _ st fun b hb o e => z3 b o (fun hb2 => (k.apart b hb2).2.2.2.1 hb) e, hn⟩
  rcases List.mem_cons.mp hp with z | z
  · rw [z]
    exact J.pin g.pa (List.mem_append_right _ List.mem_cons_self)
  · exact hp' p z
/-- what is told at a yield, at the end -/
def GYld (g : Ge) (N : Nat) (Rest : Nat → List (Addr × Obj) → Hp → Prop) (Yl : Nat → List (Addr × Obj) → V → Hp → Prop) : Protocol := fun n s₀ v s kap =>
  ∃ i x H ps, N ≤ n + (i + 1) ∧ RelV x v ∧ GInv g (i + 1) ps H s ∧ Held g.S ps s₀ ∧ Yl i ps x H ∧ ∀ s' ps', Slp g.S s s' → Held g.S ps' s' → Rest (i + 1) ps' H → kap (.send .none) s'
abbrev GDn (g : Ge) (Dn : List (Addr × Obj) → Hp → Prop) : GenEnd := fun n s₀ r s => r = .ok .next ∧ ∃ H ps, GEnd g ps H s ∧ Held g.S ps s₀ ∧ Dn ps H
theorem compTurn_ge (elt target iter : Expr) (ifs : List Expr) (scope : Scope) (pos : Pos) (it acc : Value) (env : Env) :
    compTurn (.GeneratorExp elt [⟨target, iter, ifs, 0⟩] scope pos) 0 it acc env = (do
      standAt iter.pos
      match ← pyNext it with
      | none => pure (.done .next)
      | some v =>
        letOwnedTupleGo target it v
        assign target env v
        let ok ← forIn ifs true fun c r => if r = true then do let ok ← isTrue c env (eval c env); pure (ForInStep.yield ok) else pure (ForInStep.yield r)
        if ok then
          (do let v ← eval elt env; standAt elt.pos; let _ ← yieldOut env v)
        again (.compLoop (.GeneratorExp elt [⟨target, iter, ifs, 0⟩] scope pos) 0 it acc env)) := by rfl
theorem seg_ge {A : Around} {elt iter : Expr} {ifs : List Expr} {scope : Scope} {pos : Pos} {gd : TG} {tt : TT} {te : TE} {N : Nat} {Rest : Nat → List (Addr × Obj) → Hp → Prop} {Dn : List (Addr × Obj) → Hp → Prop} {Yl : Nat → List (Addr × Obj) → V → Hp → Prop} (k : GeOk g tg)
    (hA : A.over (.compLoop (.GeneratorExp elt [⟨tg, iter, ifs, 0⟩] scope pos) 0 (.ref g.it) .none g.Xg.env) [] = g.Xg.A) (hco : g.Xg.env.scope.isCoroutine = false)
    (hg : PG g.Xg tg gd) (ht : PTs g.Xg ifs tt) (he : PE g.Xg elt te) (hw0 : wipe g.σ0 g.vs = g.σ0)
    (turn : ∀ i ps H, ps.map (·.1) = g.S → Rest i ps H → (g.J.stop i H ∧ Dn ps H) ∨ (i < N ∧ g.J.go i H ∧ ∀ x H', g.J.yld i H x H' → gd x g.σ0 H' fun σ2 H2 => wipe σ2 g.vs = g.σ0 ∧ tt σ2 H2 fun b H3 => if b = true then te σ2 H3 fun y H4 => Yl i ps y H4 else Rest (i + 1) ps H3)) :
    ∀ (m i n : Nat) (s₀ s : Shared) (H : Hp) (ps : List (Addr × Obj)), N - i = m → m ≤ n → GInv g i ps H s → Held g.S ps s₀ → Rest i ps H →
      Seg (model g.Xg.prog g.Xg.w) A (GDn g Dn) (GYld g N Rest Yl) n s₀ (.compLoop (.GeneratorExp elt [⟨tg, iter, ifs, 0⟩] scope pos) 0 (.ref g.it) .none g.Xg.env)
        ((model g.Xg.prog g.Xg.w).den (.compLoop (.GeneratorExp elt [⟨tg, iter, ifs, 0⟩] scope pos) 0 (.ref g.it) .none g.Xg.env)) [] s := by
  have noE : ∀ {α : Type} {Kx : Value → Shared → Prop} {t : Sem α} {Q : α → Shared → Prop} {s : Shared}, wpAny (model g.Xg.prog g.Xg.w) g.Xg.A t Q g.Xg.xe s → wpAny (model g.Xg.prog g.Xg.w) g.Xg.A t Q Kx s := fun h => by
    rw [k.xe] at h
    exact wpAny_mono h (fun _ _ e => e) fun _ _ e => e.elim
  have stop_ : ∀ (i n : Nat) (s₀ s : Shared) (H : Hp) (ps : List (Addr × Obj)), GInv g i ps H s → Held g.S ps s₀ → g.J.stop i H → Dn ps H →
      Seg (model g.Xg.prog g.Xg.w) A (GDn g Dn) (GYld g N Rest Yl) n s₀ (.compLoop (.GeneratorExp elt [⟨tg, iter, ifs, 0⟩] scope pos) 0 (.ref g.it) .none g.Xg.env)
        ((model g.Xg.prog g.Xg.w).den (.compLoop (.GeneratorExp elt [⟨tg, iter, ifs, 0⟩] scope pos) 0 (.ref g.it) .none g.Xg.env)) [] s := by
    intro i n s₀ s H ps hI h0 stop hd
    obtain ⟨hps, I, st, hnn⟩ := hI
    show Seg _ A _ _ _ s₀ _ ((compTurn (.GeneratorExp elt [⟨tg, iter, ifs, 0⟩] scope pos) 0 (.ref g.it) .none g.Xg.env).onRaise (leaving g.Xg.env)) [] s
    rw [compTurn_ge, Sem.onRaise_eq_wrap]
    refine seg_bind_wrap (wpAny_standAt ?_)
    refine seg_bind_wrap ?_
    rw [hA]
    refine thn (k.turn.done g.Xg rfl rfl rfl k.calm i _ s _ H _ I (k.fpok hps I hnn) st stop) fun r s1 ⟨hr, I1⟩ => ?_
    subst hr
    exact seg_end (.ok .next) ⟨rfl, H, ps, ⟨hps, I1, hnn⟩, h0, hd⟩
  intro m
  induction m with
  | zero =>
    intro i n s₀ s H ps hm hn hI h0 hR
    rcases turn i ps H hI.at_ hR with ⟨stop, hd⟩ | ⟨hlt, _⟩
    · exact stop_ i n s₀ s H ps hI h0 stop hd
    · omega
  | succ m ih =>
    intro i n s₀ s H ps hm hn hI h0 hR
    rcases turn i ps H hI.at_ hR with ⟨stop, hd⟩ | ⟨hlt, go, step⟩
    · exact stop_ i n s₀ s H ps hI h0 stop hd
    obtain ⟨hps, I, st, hnn⟩ := hI
    obtain ⟨n, rfl⟩ : ∃ n', n = n' + 1 := ⟨n - 1, by omega⟩
    show Seg _ A _ _ _ s₀ _ ((compTurn (.GeneratorExp elt [⟨tg, iter, ifs, 0⟩] scope pos) 0 (.ref g.it) .none g.Xg.env).onRaise (leaving g.Xg.env)) [] s
    rw [compTurn_ge, Sem.onRaise_eq_wrap]
    refine seg_bind_wrap (wpAny_standAt ?_)
    refine seg_bind_wrap ?_
    rw [hA]
    refine thn (k.turn.item g.Xg rfl rfl rfl k.calm i _ s _ H _ I (k.fpok hps I hnn) st go) fun r s1 ⟨u, hr, h1⟩ => ?_
    subst hr
    refine seg_bind_wrap ?_
    rw [hA]
    refine thn h1 fun _ s2 ⟨x, H2, I2, r2, y2, st2, n2⟩ => ?_
    have I2' := I2.pinned (k.fpok hps I2 n2) (k.turn.obj _ _ st2)
    refine seg_bind_wrap ?_
    rw [hA]
    refine noE (thn (hg.run _ s2 _ H2 x u _ I2' r2 (step x H2 y2)) fun _ s3 ⟨σ3, H3, I3, hw3, q3⟩ => ?_)
    refine seg_bind_wrap ?_
    rw [hA]
    refine noE (thn (ht.run _ s3 σ3 H3 _ I3 q3) fun b s4 ⟨H4, I4, q4⟩ => ?_)
    -- the turn's end
    have fin : ∀ {s' : Shared} {H' : Hp}, Inv g.Xg (g.pa :: ps ++ pinsAt g.fp s2.heap) σ3 H' s' → GInv g (i + 1) ps H' s' := fun {s' H'} I' => by
      have pin' : ∀ b ∈ g.fp, ∀ o, s2.heap.get? b = some o → s'.heap.get? b = some o ∧ H' b = none := fun b hb o e =>
        let z := I'.pin (b, o) (List.mem_append_right _ (List.mem_append_right _ (mem_pinsAt hb e)))
        ⟨z.1, z.2.1⟩
      have hl : g.σ0.length = σ3.length := by rw [← hw3, wipe_length]
      refine ⟨hps, (I'.unpinned (pins := g.pa :: ps)).weak hl (fun j v e => ?_), k.turn.keep _ _ _ st2 fun b hb o e => (pin' b hb o e).1, fun b hb => ?_⟩
      · rw [← hw3] at e
        exact (wipe_some e).1
      · obtain ⟨o, e, _⟩ := k.turn.obj _ _ st2 b hb
        exact (pin' b hb o e).2
    cases b with
    | false =>
      simp only [Bool.false_eq_true, if_false] at q4 ⊢
      exact seg_again rfl (ih (i + 1) (n + 1) s₀ s4 H4 ps (by omega) (by omega) (fin I4) h0 q4)
    | true =>
      simp only [if_true] at q4 ⊢
      have hy : ∀ v, yieldOut g.Xg.env v = yieldValue v := fun v => by simp only [yieldOut, hco, Bool.false_eq_true, if_false]
      simp only [hy]
      rw [Sem.bind_eq_wrap', Sem.bind_eq_wrap', Sem.wrap_wrap, Sem.wrap_wrap]
      refine seg_wrap ?_
      rw [hA]
      refine noE (thn (he.run _ s4 σ3 H4 _ I4 q4) fun z s5 ⟨yv, H5, I5, r5, q5⟩ => ?_)
      refine seg_at (seg_yield rfl rfl rfl ⟨i, yv, H5, ps, by omega, r5, fin I5, h0, q5, fun s'' ps' hz hd' hR' => ?_⟩)
      exact seg_again rfl (ih (i + 1) n s'' s'' H5 ps' (by omega) (by omega) ((fin I5).slept k hz hd') hd' hR')
theorem seg_ge0 {A : Around} {elt iter : Expr} {ifs : List Expr} {scope : Scope} {pos : Pos} {N n : Nat} {Rest : Nat → List (Addr × Obj) → Hp → Prop} {Dn : List (Addr × Obj) → Hp → Prop} {Yl : Nat → List (Addr × Obj) → V → Hp → Prop} {s₀ : Shared} (k : GeOk g tg)
    (hI : GInv g 0 ps H s)
    (loop : Seg (model g.Xg.prog g.Xg.w) A (GDn g Dn) (GYld g N Rest Yl) n s₀ (.compLoop (.GeneratorExp elt [⟨tg, iter, ifs, 0⟩] scope pos) 0 (.ref g.it) .none g.Xg.env)
        ((model g.Xg.prog g.Xg.w).den (.compLoop (.GeneratorExp elt [⟨tg, iter, ifs, 0⟩] scope pos) 0 (.ref g.it) .none g.Xg.env)) [] s) :
    Seg (model g.Xg.prog g.Xg.w) A (GDn g Dn) (GYld g N Rest Yl) n s₀ (.compStart (.GeneratorExp elt [⟨tg, iter, ifs, 0⟩] scope pos) 0 (.ref g.it) .none g.Xg.env)
        ((model g.Xg.prog g.Xg.w).den (.compStart (.GeneratorExp elt [⟨tg, iter, ifs, 0⟩] scope pos) 0 (.ref g.it) .none g.Xg.env)) [] s := by
  obtain ⟨hps, I, st, hnn⟩ := hI
  show Seg _ A _ _ _ s₀ _ ((compStart (.GeneratorExp elt [⟨tg, iter, ifs, 0⟩] scope pos) 0 (.ref g.it) .none g.Xg.env).onRaise (leaving g.Xg.env)) [] s
  unfold compStart
  rw [Sem.onRaise_eq_wrap]
  show Seg _ A _ _ _ s₀ _ ((ask >>= _).wrap _ _ _ _) [] s
  refine seg_bind_wrap (wpAny_askSetting ?_)
  split
  · exact seg_again rfl loop
  · first
      | exact seg_bind_wrap (wpAny_rule (seg_bind_wrap (wpAny_standAt (seg_bind_wrap (k.turn.self _ 0 s _ _ st (seg_again rfl loop))))))
      | (refine seg_bind_wrap (wpAny_rule ?_); show Seg _ A _ _ _ s₀ _ ((standAt iter.pos >>= _).wrap _ _ _ _) [] s; exact seg_bind_wrap (wpAny_standAt (seg_bind_wrap (k.turn.self _ 0 s _ _ st (seg_again rfl loop)))))
/-- ready to be woken, n times at most -/
def GAt (g : Ge) (N : Nat) (Rest : Nat → List (Addr × Obj) → Hp → Prop) (Dn : List (Addr × Obj) → Hp → Prop) (Yl : Nat → List (Addr × Obj) → V → Hp → Prop) (gi : Nat) (A : Around) (n i : Nat) (ps : List (Addr × Obj)) (H : Hp) (s : Shared) : Prop :=
  GInv g i ps H s ∧ ∃ gs, s.gens[gi]? = some gs ∧ ∀ s' ps', Slp g.S s s' → Held g.S ps' s' → Rest i ps' H → gs.Goes (model g.Xg.prog g.Xg.w) A (GDn g Dn) (GYld g N Rest Yl) n (.send .none) s'
theorem GInv.obj (h : GInv g i ps H s) : s.heap.get? g.pa.1 = some g.pa.2 := (h.inv.pin g.pa (List.mem_append_right _ List.mem_cons_self)).1
theorem Slp.gens {S : List Addr} {G : Array GenState} (hG : AllBare G) : Slp S s { s with gens := G } := ⟨rfl, hG, fun _ _ _ e => e⟩
theorem GAt.slept {N n : Nat} {Rest : Nat → List (Addr × Obj) → Hp → Prop} {Dn : List (Addr × Obj) → Hp → Prop} {Yl : Nat → List (Addr × Obj) → V → Hp → Prop} {gi : Nat} {A : Around} (k : GeOk g tg) (h : GAt g N Rest Dn Yl gi A n i ps H s) (z : Slp g.S s s') (hd : Held g.S ps' s') (hg : s'.gens[gi]? = s.gens[gi]?) : GAt g N Rest Dn Yl gi A n i ps' H s' := by
  obtain ⟨h1, gs, h2, h4⟩ := h
  exact ⟨h1.slept k z hd, gs, by rw [hg]; exact h2, fun s'' ps'' z' => h4 s'' ps'' ⟨z'.os.trans z.os, z'.bare, fun b o hb e => z'.keep b o hb (z.keep b o hb e)⟩⟩
theorem held_inj {S : List Addr} (h : Held S ps s) (h' : Held S ps' s) : ps = ps' := by
  obtain ⟨a, b⟩ := h
  obtain ⟨a', b'⟩ := h'
  refine List.ext_getElem? fun j => ?_
  have e : (ps.map (·.1))[j]? = (ps'.map (·.1))[j]? := by rw [a, a']
  rw [List.getElem?_map, List.getElem?_map] at e
  cases h1 : ps[j]? with
  | none =>
    cases h2 : ps'[j]? with
    | none => rfl
    | some q => rw [h1, h2] at e; cases e
  | some p =>
    cases h2 : ps'[j]? with
    | none => rw [h1, h2] at e; cases e
    | some q =>
      rw [h1, h2] at e
      have e1 : p.1 = q.1 := Option.some.inj e
      have e2 := (b p (List.mem_of_getElem? h1)).1
      have e3 := (b' q (List.mem_of_getElem? h2)).1
      rw [e1, e3] at e2
      have e4 : q.2 = p.2 := Option.some.inj e2
      rw [show p = q from Prod.ext e1 e4.symm]
theorem ge_next {A : Around} {N n : Nat} {Rest : Nat → List (Addr × Obj) → Hp → Prop} {Dn : List (Addr × Obj) → Hp → Prop} {Yl : Nat → List (Addr × Obj) → V → Hp → Prop} {gi : Nat} {Q : Option Value → Shared → Prop} {E : Value → Shared → Prop} (k : GeOk g tg) (hgen : ∀ h : Heap, h.get? g.pa.1 = some g.pa.2 → h.IsGen g.pa.1 gi)
    (hh : A.handled = none) (hroom : A.depth < recursionLimit) (h : GAt g N Rest Dn Yl gi A.in1 n i ps H s) (hR : Rest i ps H)
    (hY : ∀ j x v H' s', RelV x v → Yl j ps x H' → GInv g (j + 1) ps H' s' → (∀ s'' ps', Slp g.S s' s'' → Held g.S ps' s'' → s''.gens[gi]? = s'.gens[gi]? → Rest (j + 1) ps' H' → ∃ n', n = n' + 1 ∧ GAt g N Rest Dn Yl gi A.in1 n' (j + 1) ps' H' s'') → Q (some v) s')
    (hD : ∀ H' s', GEnd g ps H' s' → Dn ps H' → Q none s') : wpAny (model g.Xg.prog g.Xg.w) A (pyNext (.ref g.pa.1)) Q E s := by
  obtain ⟨hI, gs, hgs, hgo⟩ := h
  have hlt : gi < s.gens.size := by
    rcases Nat.lt_or_ge gi s.gens.size with h' | h'
    · exact h'
    · rw [Array.getElem?_eq_none h'] at hgs; cases hgs
  have hh0 : Held g.S ps (s.setGen gi .running) := ⟨hI.end.held.at_, hI.end.held.ok⟩
  refine wpAny_gsz (n := gi + 1) hlt ?_
  refine wpAny_pyNext_genexpQ (P := fun _ s₀ s₁ => ∃ H ps, GEnd g ps H s₁ ∧ Held g.S ps s₀ ∧ Dn ps H) (Y := GYld g N Rest Yl) hh hI.inv.nolimit hroom (hgen _ hI.obj) hgs (hgo _ ps (Slp.gens (allBare_setGen hI.inv.bare rfl)) hh0 hR) (fun v s₁ gs' hb hv => ?_) (fun s₁ hp h' hk => ?_)
  · obtain ⟨j, x, H', ps1, hn', rv, hI', hs0, hy, hkap⟩ := hv
    obtain rfl := held_inj hs0 hh0
    intro hsz
    have hsz' : gi < s₁.gens.size := by
      have := setGen_size s₁ gi gs'
      omega
    have slp : Slp g.S s₁ (s₁.setGen gi gs') := Slp.gens (allBare_setGen hI'.inv.bare hb)
    have hI2 : GInv g (j + 1) ps1 H' (s₁.setGen gi gs') := hI'.slept k slp ⟨hI'.end.held.at_, hI'.end.held.ok⟩
    refine hY j x v H' _ rv hy hI2 fun s'' ps' hz hd hg hR => ?_
    have hz1 : Slp g.S s₁ s'' := ⟨hz.os, hz.bare, fun b o hb e => hz.keep b o hb e⟩
    cases n with
    | zero => exact (hkap s'' ps' hz1 hd hR).elim
    | succ n =>
      refine ⟨n, rfl, hI2.slept k hz hd, gs', by rw [hg]; simp [Shared.setGen, hsz'], fun s3 ps3 hz3 hd3 hR3 => ?_⟩
      exact hkap s3 ps3 ⟨hz3.os.trans hz1.os, hz3.bare, fun b o hb e => hz3.keep b o hb (hz1.keep b o hb e)⟩ hd3 hR3
  · obtain ⟨H', ps1, ⟨hps, I, hnn⟩, hs0, hd⟩ := hp
    obtain rfl := held_inj hs0 hh0
    intro _
    exact hD H' _ ⟨hps, (inv_gens I (allBare_setGen I.bare rfl)).kept (t' := s₁.toks) hk, hnn⟩ hd
end
end DL
set_option Elab.async false
set_option linter.all false
set_option maxRecDepth 100000
set_option maxHeartbeats 1000000
namespace DL
open PySem L2 PySem.Spec PyProof.Rows GenW
theorem gen_made {M : Model} {A : Around} {E : Value → Shared → Prop} {s : Shared} {env : Env} {elt target iter : Expr} {ifs : List Expr} {scope : Scope} {cl : List (Str × Addr)} {pos : Pos} {Q : Value → Shared → Prop}
    (hco : scope.isCoroutine = false) (hclos : closureFor scope env = pure cl) (h0 : scope.names.lookup (".0" : Str) = some NameKind.local) (hkind : scope.kind = .function)
    (hroom : A.depth < recursionLimit)
    (h : wpAny M A (eval iter env) (fun xv s₁ => wpAny M A (pyIter xv) (fun it s₂ => s₂.heap.NoLimit ∧
      wpAny M A (genexprCode env pos (env.qual ++ "<genexpr>") scope) (fun code s₃ => wpAny M A (builtinsFor env.globals env.builtins) (fun bi s₄ =>
        ∀ h' tk1 tk2 tk3, GenAt scope.names cl s₄.heap.objs.size s₄.heap h' →
          Q (.ref h'.objs.size) { s₄ with
            gens := s₄.gens.push (.fresh (.compStart (.GeneratorExp elt [⟨target, iter, ifs, 0⟩] scope pos) 0 it .none (genEnv scope (cellsFrom (s₄.heap.objs.size + 1) scope.names cl) s₄.heap.objs.size code bi env))),
            toks := tk3,
            heap := h'.push { cls := .type "generator", data := .fields #[.int s₄.gens.size 0, .str "<genexpr>" tk1, .str (env.qual ++ "<genexpr>") tk2] } }) E s₃) E s₂) E s₁) E s)
    (hs : ∀ x, genFold iter env x = pure x) :
    wpAny M A (eval (.GeneratorExp elt [⟨target, iter, ifs, 0⟩] scope pos) env) Q E s := by
  rw [eval_GeneratorExp1 _ _ _ _ _ _ _ hco, hclos]
  refine wpAny_bind (wpAny_mono h (fun xv s₁ h₁ => ?_) fun _ _ e => e)
  refine wpAny_bind (wpAny_standAt ?_)
  refine wpAny_bind (wpAny_of_eq (hs xv) ?_)
  refine wpAny_bind (wpAny_holding (wpAny_mono h₁ (fun it s₂ h₂ => ?_) fun _ _ e => e))
  refine wpAny_bind (wpAny_enterFrame h₂.1 hroom ?_)
  refine wpAny_bind (wpAny_pure ?_)
  refine wpAny_bind (wpAny_mono h₂.2 (fun code s₃ h₃ => ?_) fun _ _ e => e)
  refine wpAny_bind (wpAny_mono h₃ (fun bi s₄ h₄ => ?_) fun _ _ e => e)
  refine wpAny_bind (gen_env h0 hkind fun h' tk ga => ?_)
  simp only [newGenerator, newFields]
  refine wpAny_bind (wpAny_newGen (wpAny_bind (wpAny_mkText (wpAny_bind (wpAny_mkText (wpAny_newObj_type ?_ (by size_fits)))))))
  exact h₄ h' _ _ _ ga
/-- a generator has been made: s4 the state ahead of its frame -/
structure GNew (X : Cx) (pins : List (Addr × Obj)) (σ : L2.St) (elt tg iter : Expr) (ifs : List Expr) (scope : Scope) (gpos : Pos) (H4 : Hp) (J : It) (a : Addr) (s5 : Shared) (code : Value) : Prop where
  ex : ∃ (s4 : Shared) (it : Addr) (fp : List Addr) (tn : Nat → Heap → Prop) (gs : GenState) (tk : Nat) (h5 : Heap) (ob : Obj),
    Inv X pins σ H4 s4 ∧ Turn X.prog X.w X.K tg J fp it tn ∧ tn 0 s4.heap ∧ (∀ b ∈ fp, FpOk X pins H4 b ∧ b < s4.heap.objs.size) ∧
    gs = .fresh (.compStart (.GeneratorExp elt [⟨tg, iter, ifs, 0⟩] scope gpos) 0 (.ref it) .none (genEnv scope (genCl X scope s4.heap.objs.size) s4.heap.objs.size code builtinsNs X.env)) ∧
    s5 = { s4 with gens := s4.gens.push gs, toks := tk, heap := h5 } ∧ GenAt scope.names (cloFrom X.env.cells scope.names []) s4.heap.objs.size s4.heap h5 ∧ s4.heap.objs.size < a ∧ h5.get? a = some ob ∧
    (∀ h : Heap, h.get? a = some ob → h.IsGen a s4.gens.size) ∧ ∀ v, ob.data ≠ .cell v
section
variable {X : Cx} {pins : List (Addr × Obj)} {σ : L2.St} {H : Hp} {s : Shared}
theorem ge_make {G : Gm} {c P : Addr} {elt tg iter : Expr} {ifs : List Expr} {scope : Scope} {gpos : Pos} {own : List (Str × Nat)} {wi : TI} {Q : Value → Shared → Prop} {k : Nat}
    (I : Inv X pins σ H s) (hr : Room k X.A) (M : Mkr X G c P) (hkd : G.kd gpos.line gpos.col = false)
    (hi : PI X tg iter wi) (ok : BlkOk X.N X.env.scope scope own) (gk : GenOk scope) (hs : ∀ v, genFold iter X.env v = pure v)
    {Rr : It → Hp → Prop} (h : wi σ H Rr) (hRr : ∀ J H1, Rr J H1 → CT G.kd G.tabs G.subs H1 ∧ ∀ H2 c' P2, LamX.ExtN H1 H2 → CT G.kd (G.sub (c', P2, X.env.qual ++ "<genexpr>.")).tabs (G.sub (c', P2, X.env.qual ++ "<genexpr>.")).subs H2 → ∀ a s5, GNew X pins σ elt tg iter ifs scope gpos H2 J a s5 (.ref c') → Q (.ref a) s5) :
    wpAny (model X.prog X.w) X.A (eval (.GeneratorExp elt [⟨tg, iter, ifs, 0⟩] scope gpos) X.env) Q X.xe s := by
  have hfree : ∀ y ∈ scope.names, y.2 = .free → ∃ c, X.env.cells.lookup y.1 = some c := fun y hy e => by
    rcases ok.free y hy e with k | k
    · exact I.ok.has _ (.inl k)
    · exact I.ok.has _ (.inr k)
  refine gen_made gk.co (closure_ok hfree) gk.dot ok.kind hr.depth (thn (hi.run pins s σ H _ I h) fun xv s1 hx => thn hx fun itv s2 h2 => ?_) hs
  obtain ⟨it, fp, tn, J, H2, e, I2, Tu, st2, f2, hRj⟩ := h2
  obtain ⟨hT, q⟩ := hRr J H2 hRj
  subst e
  refine ⟨I2.nolimit, ?_⟩
  obtain ⟨C, ps, hC, hP, hP', ht, hbt, hgP, h3⟩ := M.tab I2 hT
  have cd : PySem.W.CodeHd s2.heap c P := M.hd I2 hT
  have sz : ∀ b ∈ fp, b < s2.heap.objs.size := fun b hb => by
    obtain ⟨o, e, _⟩ := Tu.obj _ _ st2 b hb
    exact Heap.lt_size e
  -- behind the code
  have cont : ∀ (c' P2 : Addr) (s4 : Shared) (H4 : Hp), Inv X pins σ H4 s4 → LamX.ExtN H2 H4 → CT G.kd (G.sub (c', P2, X.env.qual ++ "<genexpr>.")).tabs (G.sub (c', P2, X.env.qual ++ "<genexpr>.")).subs H4 → s4.gens = s2.gens → (∀ b o, b ≠ P → s2.heap.get? b = some o → s4.heap.get? b = some o) → (∀ b ∈ fp, H4 b = none) → s2.heap.objs.size ≤ s4.heap.objs.size →
      wpAny (model X.prog X.w) X.A (builtinsFor X.env.globals X.env.builtins) (fun bi s₄ =>
        ∀ h' tk1 tk2 tk3, GenAt scope.names (cloFrom X.env.cells scope.names []) s₄.heap.objs.size s₄.heap h' →
          Q (.ref h'.objs.size) { s₄ with
            gens := s₄.gens.push (.fresh (.compStart (.GeneratorExp elt [⟨tg, iter, ifs, 0⟩] scope gpos) 0 (.ref it) .none (genEnv scope (genCl X scope s₄.heap.objs.size) s₄.heap.objs.size (.ref c') bi X.env))),
            toks := tk3,
            heap := h'.push { cls := .type "generator", data := .fields #[.int s₄.gens.size 0, .str "<genexpr>" tk1, .str (X.env.qual ++ "<genexpr>") tk2] } }) X.xe s4 := by
    intro c' P2 s4 H4 I4 e4 t4 g4 k4 n4 z4
    obtain ⟨P0, bm, ob, e1, e2, e3, e4', e5, e6, e7, e8⟩ := M.bm0
    refine wpAny_builtinsFor (m := X.mg) (by rw [I4.ok.glob]; exact I4.mod.glob.keeps I4.bk) e1 e2 (I4.bk _ _ e5) e6 e7 e8 ?_
    intro h' tk1 tk2 tk3 ga
    refine q H4 c' P2 e4 t4 h'.objs.size _ ⟨⟨s4, it, fp, tn, _, _, _, { cls := .type "generator", data := .fields #[.int s4.gens.size 0, .str "<genexpr>" tk1, .str (X.env.qual ++ "<genexpr>") tk2] }, I4, Tu, ?_, fun b hb => ?_, rfl, rfl, ga.push (fun b o e => Heap.get?_push_of_some _ e) (by rw [Heap.size_push]; exact Nat.le_succ _), ga.sz, Heap.get?_push_size _ rfl, fun h hh => ⟨_, _, _, hh, rfl, rfl, rfl⟩, fun v e => by cases e⟩⟩
    · refine Tu.keep _ _ _ st2 fun b hb o e => k4 b o (fun z => ?_) e
      have := (f2 b hb).1
      rw [z, hP] at this
      cases this
    · exact ⟨⟨n4 b hb, (f2 b hb).2⟩, Nat.lt_of_lt_of_le (sz b hb) z4⟩
  cases hc : codeAmong gpos ps.toList with
  | none =>
    refine wpAny_genexprCodeX M.code (cd.code hP' ht) (cd.tab hP') hc fun c' h' tk hx hge hlt hco hrec htab hnew => ?_
    obtain ⟨c2, oc, vs, t, e2, hoc, hd, hv⟩ := hrec
    cases e2
    obtain ⟨P2, y1, y2, y3⟩ := hnew
    have hcd2 := PySem.W.CodeHd.of y2 y3
    have hszz : s2.heap.objs.size ≤ h'.objs.size := Nat.le_trans hge (Nat.le_of_lt hlt)
    have nC : H2 c' = none := I2.hok.fresh hge
    have nT : H2 P2 = none := I2.hok.fresh y1
    have cP2 : c' ≠ P2 := by obtain ⟨_, _, _, _, _, _, _, _, _, _, _, _, _, _, _, _, _, _, z⟩ := id hcd2; exact z
    have ekd : nam_ X.env.qual (G.kd gpos.line gpos.col) = X.env.qual ++ "<genexpr>" := by rw [hkd]; rfl
    have ekp : pre_ X.env.qual (G.kd gpos.line gpos.col) = X.env.qual ++ "<genexpr>." := by rw [hkd]; rfl
    have hC1 := ct_code (X := X) (G := G) (pos := gpos) hC M.mem hP ht nC nT cP2 h3
    rw [ekd, ekp] at hC1
    have hE := ct_ext (ps := ps) (more := #[rawInt gpos.line, rawInt gpos.col, .ref c']) (c' := c') (P2 := P2) (q := X.env.qual ++ "<genexpr>") hP nC nT
    have I3 := inv_code (t' := tk) (more := #[rawInt gpos.line, rawInt gpos.col, .ref c']) (q := X.env.qual ++ "<genexpr>") (h' := h') I2 hP hx htab.2 hge ⟨oc, vs, t, hoc, hd, hv⟩ hcd2 y1 y3.2
    refine cont c' P2 _ _ I3 hE (ct_sub hC1 List.mem_cons_self fun x hx => ?_) rfl hx (fun b hb => ?_) hszz
    · obtain ⟨n, e⟩ := hT.2 x hx
      exact ⟨n, hE _ _ e codeN_ne⟩
    · have n1 : b ≠ c' := fun z => Nat.lt_irrefl _ (Nat.lt_of_lt_of_le (sz b hb) (by rw [z]; exact hge))
      have n3 : b ≠ P2 := fun z => Nat.lt_irrefl _ (Nat.lt_of_lt_of_le (sz b hb) (by rw [z]; exact y1))
      have n2 : b ≠ P := fun z => by
        have := (f2 b hb).1
        rw [z, hP] at this
        cases this
      rw [upd_ne n3, upd_ne n1, upd_ne n2]
      exact (f2 b hb).1
  | some cv =>
    obtain ⟨c', P2, e, hm⟩ := h3 gpos cv hc
    subst e
    rw [hkd] at hm
    refine wpAny_genexprCode_hit M.code (cd.code hP' ht) hc ?_
    exact cont c' P2 s2 H2 I2 (LamX.ExtN.refl H2) (ct_sub hC hm hT.2) rfl (fun b o _ e => e) (fun b hb => (f2 b hb).1) (Nat.le_refl _)
/-- the around of the element: over the consumer's loop -/
abbrev genA (X : Cx) (elt tg iter : Expr) (ifs : List Expr) (scope : Scope) (gpos : Pos) (it : Addr) (env : Env) : Around := X.A.in1.in1.over (.compLoop (.GeneratorExp elt [⟨tg, iter, ifs, 0⟩] scope gpos) 0 (.ref it) .none env) []
theorem genA_room {k : Nat} {elt tg iter : Expr} {ifs : List Expr} {scope : Scope} {gpos : Pos} {it : Addr} {env : Env} (hr : Room (k + 1) X.A) : Room k (genA X elt tg iter ifs scope gpos it env) :=
  ⟨hr.hd, by have := hr.dp; show X.A.depth + 1 + 3 * k + 5 < _; omega, by have := hr.un; show X.A.units + 5 + 16 * k + 200 < _; omega⟩
theorem genA_frames {elt tg iter : Expr} {ifs : List Expr} {scope : Scope} {gpos : Pos} {it : Addr} {env : Env} {st : List Env} (h : X.A.frames = some st) : (genA X elt tg iter ifs scope gpos it env).frames = some (env :: st) := by
  show pushEnvs [env] X.A.frames = _
  rw [h]
  rfl
theorem ge_ready {code : Value} {k N : Nat} {elt tg iter : Expr} {ifs : List Expr} {scope : Scope} {gpos : Pos} {own : List (Str × Nat)} {H4 : Hp} {J : It} {a : Addr} {s5 s6 : Shared} {gd : TG} {tt : TT} {te : TE} {Rest : Nat → List (Addr × Obj) → Hp → Prop} {Dn : List (Addr × Obj) → Hp → Prop} {Yl : Nat → List (Addr × Obj) → V → Hp → Prop}
    (hr : Room (k + 1) X.A) (hN : X.N.Nodup) (ok : BlkOk X.N X.env.scope scope own) (gk : GenOk scope) (hnew : GNew X pins σ elt tg iter ifs scope gpos H4 J a s5 code)
    (hg : ∀ (A : Around) (s : Shared) (H : Hp) (C : Addr) (cl : List (Str × Addr)) (fp : List Addr), Room k A → PG (genCx X A s H (genEnv scope cl C code builtinsNs X.env) fp) tg gd)
    (ht : ∀ (A : Around) (s : Shared) (H : Hp) (C : Addr) (cl : List (Str × Addr)) (fp : List Addr), Room k A → PTs (genCx X A s H (genEnv scope cl C code builtinsNs X.env) fp) ifs tt)
    (he : ∀ (A : Around) (s : Shared) (H : Hp) (C : Addr) (cl : List (Str × Addr)) (fp : List Addr), Room k A → PE (genCx X A s H (genEnv scope cl C code builtinsNs X.env) fp) elt te)
    {S : List Addr} {ps : List (Addr × Obj)} (turn : ∀ i ps H, ps.map (·.1) = S → Rest i ps H → (J.stop i H ∧ Dn ps H) ∨ (i < N ∧ J.go i H ∧ ∀ x H', J.yld i H x H' → gd x (wipe σ (own.map (·.2))) H' fun σ2 H2 => wipe σ2 (own.map (·.2)) = wipe σ (own.map (·.2)) ∧ tt σ2 H2 fun b H3 => if b = true then te σ2 H3 fun y H4 => Yl i ps y H4 else Rest (i + 1) ps H3))
    (hS : ∀ b ∈ S, s5.heap.objs.size ≤ b) (hps : Held S ps s6) (kp : ∀ b o, s5.heap.get? b = some o → s6.heap.get? b = some o) (e6 : ∃ h6 t6, s6 = { s5 with heap := h6, toks := t6 }) :
    ∃ g : Ge, g.pa.1 = a ∧ g.S = S ∧ g.Xg.prog = X.prog ∧ g.Xg.w = X.w ∧ GeOk g tg ∧ (∃ gi, (∀ h : Heap, h.get? g.pa.1 = some g.pa.2 → h.IsGen g.pa.1 gi) ∧ GAt g N Rest Dn Yl gi X.A.in1.in1 N 0 ps H4 s6) ∧ ∀ ps H' s', GEnd g ps H' s' → Inv X pins σ H' s' := by
  obtain ⟨s4, it, fp, tn, gs, tk, h5, ob, I4, Tu, st4, f4, rfl, rfl, ga, ha, hob, hgen, hnc⟩ := hnew.ex
  have k5 := ga.kp
  obtain ⟨h6, t6, rfl⟩ := e6
  generalize hgv : genEnv scope (genCl X scope s4.heap.objs.size) s4.heap.objs.size code builtinsNs X.env = gv
  have hC : gv.locals = s4.heap.objs.size := by rw [← hgv]; rfl
  have hG : AllBare (s4.gens.push (.fresh (.compStart (.GeneratorExp elt [⟨tg, iter, ifs, 0⟩] scope gpos) 0 (.ref it) .none gv))) := I4.bare.push rfl
  have I5 := gen_start (A := genA X elt tg iter ifs scope gpos it gv) (code := code) (tk := tk) I4 ok hN f4 hr.hd (by rw [hgv]; exact genA_frames I4.ok.frames) ga hG
  rw [hgv] at I5
  have I6 : Inv (genCx X (genA X elt tg iter ifs scope gpos it gv) s4 H4 gv fp) [] (wipe σ (own.map (·.2))) H4 { s4 with gens := s4.gens.push (.fresh (.compStart (.GeneratorExp elt [⟨tg, iter, ifs, 0⟩] scope gpos) 0 (.ref it) .none gv)), toks := t6, heap := h6 } := I5.kept (t' := t6) (h' := h6) kp
  have hz5 : s4.heap.objs.size < h5.objs.size := Nat.lt_trans ha (Heap.lt_size hob)
  have young : ∀ b, s4.heap.objs.size ≤ b → H4 b = none ∧ b ∉ frs X.stack := fun b hb => ⟨I4.hok.fresh hb, fun z => by
    rcases List.mem_cons.mp (I4.stkSub b z) with z | z
    · exact absurd (Nat.lt_of_lt_of_le I4.lt hb) (by rw [z]; exact Nat.lt_irrefl _)
    · exact I4.nofs hb z⟩
  have bigS : ∀ b ∈ S, s4.heap.objs.size ≤ b ∧ a < b := fun b hb => by
    have h1 : h5.objs.size ≤ b := hS b hb
    exact ⟨Nat.le_trans (Nat.le_of_lt hz5) h1, Nat.lt_of_lt_of_le (Heap.lt_size hob) h1⟩
  have I7 : Inv (genCx X (genA X elt tg iter ifs scope gpos it gv) s4 H4 gv fp) ((a, ob) :: ps) (wipe σ (own.map (·.2))) H4 { s4 with gens := s4.gens.push (.fresh (.compStart (.GeneratorExp elt [⟨tg, iter, ifs, 0⟩] scope gpos) 0 (.ref it) .none gv)), toks := t6, heap := h6 } := I6.pins_of fun p hp => by
    rcases List.mem_cons.mp hp with z | z
    · rw [z]
      obtain ⟨y1, y2⟩ := young a (Nat.le_of_lt ha)
      exact ⟨kp _ _ hob, y1, by show a ≠ gv.locals; rw [hC]; exact Nat.ne_of_gt ha, y2, hnc⟩
    · obtain ⟨q2, q3⟩ := hps.ok p z
      have q1 : p.1 ∈ S := by rw [← hps.at_]; exact List.mem_map.mpr ⟨p, z, rfl⟩
      obtain ⟨y1, y2⟩ := young p.1 (bigS _ q1).1
      exact ⟨q2, y1, by show p.1 ≠ gv.locals; rw [hC]; exact Nat.ne_of_gt (Nat.lt_trans ha (bigS _ q1).2), y2, q3⟩
  have nfp : ∀ b ∈ fp, H4 b = none := fun b hb => (f4 b hb).1.1
  have st6 : tn 0 h6 := Tu.keep _ _ _ st4 fun b _ o e => kp b o (k5 b o e)
  let g : Ge := { Xg := genCx X (genA X elt tg iter ifs scope gpos it gv) s4 H4 gv fp, pa := (a, ob), S := S, σ0 := wipe σ (own.map (·.2)), fp := fp, it := it, tn := tn, J := J, vs := own.map (·.2) }
  have gok : GeOk g tg := by
    refine ⟨rfl, rfl, rfl, rfl, Tu, fun b hb => ⟨(bigS b hb).1, ?_, Nat.ne_of_gt (bigS b hb).2, fun z => ?_, fun x c e z => ?_⟩, fun z => ?_⟩
    · show b ≠ gv.locals
      rw [hC]
      exact Nat.ne_of_gt (Nat.lt_trans ha (bigS b hb).2)
    · exact absurd (Nat.lt_of_lt_of_le (f4 b z).2 (bigS b hb).1) (Nat.lt_irrefl _)
    · obtain ⟨v, zc⟩ := I5.cell x c e
      have h1 : c < h5.objs.size := zc.lt
      have h2 : h5.objs.size ≤ b := hS b hb
      rw [z] at h1
      exact absurd (Nat.lt_of_lt_of_le h1 h2) (Nat.lt_irrefl _)
    · exact absurd (Nat.lt_trans (f4 a z).2 ha) (Nat.lt_irrefl _)
  have hI : GInv g 0 ps H4 { s4 with gens := s4.gens.push (.fresh (.compStart (.GeneratorExp elt [⟨tg, iter, ifs, 0⟩] scope gpos) 0 (.ref it) .none gv)), toks := t6, heap := h6 } := ⟨hps.at_, I7, st6, nfp⟩
  have room := genA_room (elt := elt) (tg := tg) (iter := iter) (ifs := ifs) (scope := scope) (gpos := gpos) (it := it) (env := gv) hr
  refine ⟨g, rfl, rfl, rfl, rfl, gok, ⟨s4.gens.size, hgen, hI, _, Array.getElem?_push_size .., fun s' ps' hz hd hR => ⟨rfl, ?_⟩⟩, fun ps H' s' ⟨_, I', hn'⟩ => ?_⟩
  · have hI' := hI.slept gok hz hd
    refine seg_ge0 gok hI' (seg_ge gok rfl ?_ ?_ ?_ ?_ ?_ turn N 0 N s' s' H4 ps' (Nat.sub_zero _) (Nat.le_refl _) hI' hd hR)
    · show gv.scope.isCoroutine = false
      rw [← hgv]; exact gk.co
    · have := hg (genA X elt tg iter ifs scope gpos it gv) s4 H4 s4.heap.objs.size (genCl X scope s4.heap.objs.size) fp room
      rw [hgv] at this; exact this
    · have := ht (genA X elt tg iter ifs scope gpos it gv) s4 H4 s4.heap.objs.size (genCl X scope s4.heap.objs.size) fp room
      rw [hgv] at this; exact this
    · have := he (genA X elt tg iter ifs scope gpos it gv) s4 H4 s4.heap.objs.size (genCl X scope s4.heap.objs.size) fp room
      rw [hgv] at this; exact this
    · exact wipe_wipe _
  · exact I4.call' (ch := fp) I'.os I'.base I'.hok I'.bare fun b hb => ⟨(f4 b hb).1.2.2.2.1, (f4 b hb).1.2.1, (f4 b hb).1.2.2.2.2.1, (f4 b hb).1.2.2.2.2.2⟩
def YlB (Qx : Hp → Prop) (Rest : Nat → List (Addr × Obj) → Hp → Prop) (x : Bool) (i : Nat) (ps : List (Addr × Obj)) (y : V) (H : Hp) : Prop := ∃ c, y = .bl c ∧ if c = x then Qx H else Rest (i + 1) ps H
theorem any_loop {g : Ge} {tg : Expr} {N gi : Nat} {A : Around} {Rest : Nat → List (Addr × Obj) → Hp → Prop} {Qx Dn : Hp → Prop} {R : Result → Shared → Prop} (k : GeOk g tg) (hS : g.S = []) (hgen : ∀ h : Heap, h.get? g.pa.1 = some g.pa.2 → h.IsGen g.pa.1 gi) (hh : A.handled = none) (hroom : A.depth < recursionLimit)
    (hx : ∀ ps H' s', GEnd g ps H' s' → Qx H' → R (.ok (.ret (.bool true))) s') (hd : ∀ ps H' s', GEnd g ps H' s' → Dn H' → R (.ok (.ret (.bool false))) s') : ∀ (n i : Nat) (ps : List (Addr × Obj)) (H : Hp) (s : Shared),
    GAt g N Rest (fun _ => Dn) (YlB Qx Rest true) gi A.in1.in1 n i ps H s → Rest i ps H → codeAny (model g.Xg.prog g.Xg.w) A (.builtin "any.loop" ⟨[.ref g.pa.1], []⟩) R s := by
  intro n
  induction n using Nat.strongRecOn with
  | ind n ih =>
    intro i ps H s hG hR
    refine codeAny_builtin F.entry_any_loop ?_
    rw [Around.under_plainId F.plain_any_loop _]
    show wpAny _ A.in1 (pyNext (.ref g.pa.1) >>= _) _ _ s
    refine wpAny_bind (ge_next (A := A.in1) k hgen hh hroom hG hR (fun j x v H' s' rv hy hI next => ?_) fun H' s' hE hD => ?_)
    · obtain ⟨c, rfl, hc⟩ := hy
      obtain rfl : v = Value.bool c := rv
      refine wpAny_bind (wpAny_holding (wpAny_truthy_bool ?_))
      refine wpAny_bind (wpAny_letGo ?_)
      cases c with
      | false =>
        simp only [Bool.false_eq_true, if_false] at hc ⊢
        obtain ⟨n', hn', hG'⟩ := next s' ps ⟨rfl, hI.inv.bare, fun _ _ _ e => e⟩ hI.end.held rfl hc
        exact wpAny_pure ⟨plainId_quiet F.plain_any_loop _, ih n' (by omega) (j + 1) ps H' s' hG' hc⟩
      | true =>
        simp only [if_true] at hc ⊢
        exact wpAny_bind (wpAny_rule (wpAny_pure (hx ps H' s' hI.end hc)))
    · exact wpAny_bind (wpAny_rule (wpAny_pure (hd ps H' s' hE hD)))
/-- any(elt for tg in iter if ..), all(..): x the value that ends it -/
abbrev Fr_ := Addr × Addr × Str
def tAnyE (G : Gm) (q : Str) (x : Bool) (wi : TI) (gd : Fr_ → TG) (tt : Fr_ → TT) (te : Fr_ → TE) (vs : List Nat) : TE := fun σ H Q => wi σ H fun J H1 => CT G.kd G.tabs G.subs H1 ∧ ∀ H2 c' P2, LamX.ExtN H1 H2 → CT G.kd (G.sub (c', P2, q)).tabs (G.sub (c', P2, q)).subs H2 → ∃ (N : Nat) (Rest : Nat → Hp → Prop), Rest 0 H2 ∧
  ∀ i H, Rest i H → (J.stop i H ∧ Q (.bl (!x)) H) ∨ (i < N ∧ J.go i H ∧ ∀ v H', J.yld i H v H' → gd (c', P2, q) v (wipe σ vs) H' fun σ2 H3 => wipe σ2 vs = wipe σ vs ∧ tt (c', P2, q) σ2 H3 fun b H4 => if b = true then te (c', P2, q) σ2 H4 fun y H5 => ∃ c, y = .bl c ∧ (if c = x then Q (.bl x) H5 else Rest (i + 1) H5) else Rest (i + 1) H4)
theorem pe_anyE {G : Gm} {c P : Addr} {elt tg iter : Expr} {ifs : List Expr} {scope : Scope} {gpos p pos : Pos} {own : List (Str × Nat)} {wi : TI} {gd : Fr_ → TG} {tt : Fr_ → TT} {te : Fr_ → TE} {k : Nat}
    (hr : Room (k + 1) X.A) (hgl : Gl X "any") (hm : X.mg "any" = none) (M : Mkr X G c P) (hkd : G.kd gpos.line gpos.col = false) (hN : X.N.Nodup)
    (hi : PI X tg iter wi) (ok : BlkOk X.N X.env.scope scope own) (gk : GenOk scope)
    (hg : ∀ (c' P2 : Addr) (A : Around) (s : Shared) (H : Hp) (C : Addr) (cl : List (Str × Addr)) (fp : List Addr), Room k A → PG (genCx X A s H (genEnv scope cl C (.ref c') builtinsNs X.env) fp) tg (gd (c', P2, X.env.qual ++ "<genexpr>.")))
    (ht : ∀ (c' P2 : Addr) (A : Around) (s : Shared) (H : Hp) (C : Addr) (cl : List (Str × Addr)) (fp : List Addr), Room k A → PTs (genCx X A s H (genEnv scope cl C (.ref c') builtinsNs X.env) fp) ifs (tt (c', P2, X.env.qual ++ "<genexpr>.")))
    (he : ∀ (c' P2 : Addr) (A : Around) (s : Shared) (H : Hp) (C : Addr) (cl : List (Str × Addr)) (fp : List Addr), Room k A → PE (genCx X A s H (genEnv scope cl C (.ref c') builtinsNs X.env) fp) elt (te (c', P2, X.env.qual ++ "<genexpr>.")))
    (hs : ∀ v, genFold iter X.env v = pure v)
    (hse : starEach [.GeneratorExp elt [⟨tg, iter, ifs, 0⟩] scope gpos] X.env = (false, eval (.GeneratorExp elt [⟨tg, iter, ifs, 0⟩] scope gpos) X.env) :: starEach [] X.env := by rfl) :
    PE X (.Call (.Name "any" p) [.GeneratorExp elt [⟨tg, iter, ifs, 0⟩] scope gpos] [] pos) (tAnyE G (X.env.qual ++ "<genexpr>.") true wi gd tt te (own.map (·.2))) := by
  refine ⟨fun pins s σ H Q I h => ?_⟩
  refine wpAny_Call_Name_kw (ld_blt I hgl hm boot_any ?_)
  refine PyProof.Rows.callWith_builtin1 ?_ hse (by rfl)
  rw [hse]
  show wpAny _ _ (spliced ((false, eval (.GeneratorExp elt [⟨tg, iter, ifs, 0⟩] scope gpos) X.env) :: backTo pos (starEach [] X.env))) _ _ s
  refine Calls.spliced_cons (ge_make I hr M hkd hi ok gk hs h fun J H1 h1 => ⟨h1.1, fun H2 c' P2 x2 t2 a s5 hnew => ?_⟩)
  refine Calls.spliced_nil ?_
  obtain ⟨N, Rest, hR0, turn⟩ := h1.2 H2 c' P2 x2 t2
  obtain ⟨g, ea, eS, ep, ew, gok, ⟨gi, hgen, hG⟩, back⟩ := ge_ready (N := N) (Rest := fun i _ H => Rest i H) (Dn := fun _ H => Q (.bl false) H) (Yl := YlB (Q (.bl true)) (fun i _ H => Rest i H) true) (S := []) (ps := []) hr hN ok gk hnew (hg c' P2) (ht c' P2) (he c' P2)
    (fun i ps H _ hR => turn i H hR) (fun b hb => by cases hb) ⟨rfl, fun p hp => by cases hp⟩ (fun _ _ e => e) ⟨s5.heap, s5.toks, rfl⟩
  refine call_function_tree F.kind_any F.plain_any F.entry_any (F.args_any1 _) ?_
  unfold Builtin.«any»
  refine wpAny_bind (m := oneArg "any" _) (wpAny_pure ?_)
  rw [← ea, ← ep, ← ew]
  refine wpAny_bind (wpAny_pyIter_gen (hgen _ hG.1.obj) ?_)
  exact wpAny_pure ⟨plainId_quiet F.plain_any_loop _, any_loop gok eS hgen hr.hd hr.depth (fun ps H' s' hE q => ⟨.bl true, H', back ps H' s' hE, rfl, q⟩) (fun ps H' s' hE q => ⟨.bl false, H', back ps H' s' hE, rfl, q⟩) N 0 [] H2 s5 hG hR0⟩
end
end DL
set_option Elab.async false
set_option linter.all false
set_option maxRecDepth 100000
set_option maxHeartbeats 1000000
namespace DL
open PySem L2 PySem.Spec PyProof.Rows GenW
def anyC (x : Bool) (gd : D → LE → Option LE) (tt : LE → R Bool) (te : LE → R D) (r : LE) : List D → R Bool
  | [] => .ok (!x)
  | d :: ds => match gd d r with
    | none => .stuck
    | some r' => do
      if (← (tt r').calm) then do
        match ← (te r').calm with
        | .bl c => if c = x then .ok x else anyC x gd tt te r ds
        | _ => .stuck
      else anyC x gd tt te r ds
def anyE (x : Bool) (fi : LE → R (List D)) (gd : D → LE → Option LE) (tt : LE → R Bool) (te : LE → R D) (vs : List Nat) : LE → R D := fun r => do
  let ds ← fi r
  let b ← anyC x gd tt te (wipeL r vs) ds
  .ok (.bl b)
theorem ext_grow {dl : Addr} {H H' : Hp} (e : LamX.ExtN H H') : Grow dl H H' := fun a o h _ n => e a o h n
section
variable {X : Cx} {G : Gm} {W : WX} {tg iter : Expr} {fi : LE → R (List D)} {gd : D → LE → Option LE} {is vs : List Nat} {tt : LE → R Bool} {te : LE → R D}
theorem any_core_d (q_ : Str) (x : Bool) (hsub : ∀ j ∈ is, j ∈ vs) {sg : L2.St} {H : Hp} {Q : VK} (h : tD G W (anyE x fi gd tt te vs) sg H Q) : tAnyE G q_ x (tIe G W fi) (fun y => tGd (G.sub y) gd is) (fun y => tT (G.sub y) W0 tt) (fun y => tD (G.sub y) W0 te) vs sg H Q := by
  obtain ⟨dl, Z, O, r, A, q⟩ := h
  refine ⟨dl, Z, O, r, A, q.bind.thn fun ds hds J B H1 g1 k1 wk hB => ⟨k1.tab, fun H2 c' P2 x2 t2 => ?_⟩⟩
  have k2 : GlOk G dl H2 := k1.ofExt x2 t2.drop
  have A1 := A.grow g1 k1
  have g2 : Grow dl H1 H2 := ext_grow x2
  have A2 := (A1.grow g2 k2).enter t2
  have hds := hds.bind
  refine ⟨ds.length, fun i H' => i ≤ ds.length ∧ At (G.sub (c', P2, q_)) dl Z O r sg H' ∧ Grow dl H H' ∧ B Z H' ∧
    Wp (anyC x gd tt te (wipeL r vs) (ds.drop i)) (fun b => ∀ v H2, Grow dl H H2 → GlOk G dl H2 → Rep G dl (cut H2 Z) (.bl b) v → Q v H2) (fun e => ∀ cls dx H', Grow dl H H' → GlOk G dl H' → XRep G dl (cut H' Z) e cls dx H' → W cls dx sg H'),
    ⟨Nat.zero_le _, A2, g1.trans g2, wk.mono _ _ _ _ (g2.cut A.dz) g2 hB, by simpa using hds⟩, ?_⟩
  rintro i H' ⟨hi', A', gH, hB', hw⟩
  by_cases hlt : i < ds.length
  · have hdrop : ds.drop i = ds[i] :: ds.drop (i + 1) := List.drop_eq_getElem_cons hlt
    rw [hdrop] at hw
    refine .inr ⟨hlt, wk.go i Z H' hB' hlt, fun v H3 hy => ?_⟩
    obtain ⟨g3, k3, rp⟩ := wk.yld i Z O r sg H' v H3 A'.drop hB' hy ds[i] (by simp)
    have A3 := A'.grow g3 (k3 _ A'.gl)
    unfold anyC at hw
    cases hgd : gd ds[i] (wipeL r vs) with
    | none => rw [hgd] at hw; exact hw.elim
    | some r2 =>
      rw [hgd] at hw
      refine ⟨dl, Z, O, wipeL r vs, ds[i], A3.wipe vs, rep_sub.mpr rp, r2, hgd, fun sg3 hl3 hs3 A4 => ⟨?_, ?_⟩⟩
      · exact (wipe_same hl3 fun j hj => hs3 j fun z => hj (hsub j z)).trans (wipe_wipe vs)
      refine ⟨dl, Z, O, r2, A4, (calm_wp hw.bind).mono (fun b hb H4 g4 k4 => ?_) fun e he => he⟩
      have A5 := A4.grow g4 k4
      have C4 : At (G.sub (c', P2, q_)) dl Z O r sg H4 := A3.grow g4 k4
      have gg : Grow dl H H4 := (gH.trans g3).trans g4
      have hB4 : B Z H4 := wk.mono _ _ _ _ (g4.cut A.dz) g4 (wk.mono _ _ _ _ (g3.cut A.dz) g3 hB')
      cases b with
      | false => exact ⟨hlt, C4, gg, hB4, hb⟩
      | true =>
        refine ⟨dl, Z, O, r2, A5, (calm_wp hb.bind).mono (fun y hy2 w H5 g5 k5 rp5 => ?_) fun e he => he⟩
        have C5 : At (G.sub (c', P2, q_)) dl Z O r sg H5 := C4.grow g5 k5
        have hB5 : B Z H5 := wk.mono _ _ _ _ (g5.cut A.dz) g5 hB4
        cases y with
        | bl c =>
          unfold Rep at rp5
          refine ⟨c, rp5, ?_⟩
          by_cases hc : c = x
          · rw [if_pos hc]
            have hy3 : Wp (if c = x then R.ok x else anyC x gd tt te (wipeL r vs) (ds.drop (i + 1))) _ _ := hy2
            rw [if_pos hc] at hy3
            exact hy3 (.bl x) H5 (gg.trans g5) k5.drop (by unfold Rep; rfl)
          · rw [if_neg hc]
            have hy3 : Wp (if c = x then R.ok x else anyC x gd tt te (wipeL r vs) (ds.drop (i + 1))) _ _ := hy2
            rw [if_neg hc] at hy3
            exact ⟨hlt, C5, gg.trans g5, hB5, hy3⟩
        | _ => exact hy2.elim
  · have e : i = ds.length := by omega
    subst e
    rw [List.drop_length] at hw
    exact .inl ⟨wk.stop _ _ H' hB' (Nat.le_refl _), hw (.bl (!x)) H' gH A'.gl.drop (by unfold Rep; rfl)⟩
abbrev GenC (X : Cx) (G : Gm) (k : Nat) (scope : Scope) (P : Cx → Gm → Prop) : Prop := ∀ (c' P2 : Addr) (A : Around) (s : Shared) (H : Hp) (C : Addr) (cl : List (Str × Addr)) (fp : List Addr), Room k A → Mkr (genCx X A s H (genEnv scope cl C (.ref c') builtinsNs X.env) fp) (G.sub (c', P2, X.env.qual ++ "<genexpr>.")) c' P2 → P (genCx X A s H (genEnv scope cl C (.ref c') builtinsNs X.env) fp) (G.sub (c', P2, X.env.qual ++ "<genexpr>."))
theorem GenC.mk {X : Cx} {G : Gm} {k : Nat} {scope : Scope} {P : Cx → Gm → Prop} {c P0 : Addr} (h : GenC X G k scope P) (M : Mkr X G c P0) : ∀ (c' P2 : Addr) (A : Around) (s : Shared) (H : Hp) (C : Addr) (cl : List (Str × Addr)) (fp : List Addr), Room k A → P (genCx X A s H (genEnv scope cl C (.ref c') builtinsNs X.env) fp) (G.sub (c', P2, X.env.qual ++ "<genexpr>.")) :=
  fun c' P2 A s H C cl fp hr => h c' P2 A s H C cl fp hr (mk_sub M rfl rfl rfl rfl)
theorem de_any {c P : Addr} {elt : Expr} {ifs : List Expr} {scope : Scope} {gpos p pos : Pos} {own : List (Str × Nat)} {k : Nat}
    (hr : Room (k + 1) X.A) (hgl : Gl X "any") (hm : X.mg "any" = none) (M : Mkr X G c P) (hN : X.N.Nodup)
    (hi : DIe X G W tg iter fi) (ok : BlkOk X.N X.env.scope scope own) (gk : GenOk scope)
    (hg : GenC X G k scope fun Y G => DG Y G tg gd is) (ht : GenC X G k scope fun Y G => DTs Y G W0 ifs tt) (he : GenC X G k scope fun Y G => DE Y G W0 elt te)
    (hsub : ∀ j ∈ is, j ∈ own.map (·.2)) (hkd : G.kd gpos.line gpos.col = false := by rfl) (hs : ∀ v, genFold iter X.env v = pure v := by intro _; rfl)
    (hse : starEach [.GeneratorExp elt [⟨tg, iter, ifs, 0⟩] scope gpos] X.env = (false, eval (.GeneratorExp elt [⟨tg, iter, ifs, 0⟩] scope gpos) X.env) :: starEach [] X.env := by rfl) :
    DE X G W (.Call (.Name "any" p) [.GeneratorExp elt [⟨tg, iter, ifs, 0⟩] scope gpos] [] pos) (anyE true fi gd tt te (own.map (·.2))) :=
  PE_imp (pe_anyE hr hgl hm M hkd hN hi ok gk (GenC.mk hg M) (GenC.mk ht M) (GenC.mk he M) hs hse) fun sg H Q h => any_core_d _ true hsub h
end
end DL
set_option Elab.async false
set_option linter.all false
set_option maxRecDepth 100000
set_option maxHeartbeats 1000000
namespace DL
open PySem L2 PySem.Spec PyProof.Rows GenW
end DL
set_option Elab.async false
set_option linter.all false
set_option maxRecDepth 100000
set_option maxHeartbeats 1000000
namespace DL
open PySem L2 PySem.Spec PyProof.Rows GenW
end DL
set_option Elab.async false
set_option linter.all false
set_option maxRecDepth 100000
namespace DL
open PySem L2 LamX PySem.Spec PyProof.Rows
section
variable {P : Program} {w : World} {K : PySem.W.Frag} {mg : Str → Option Value} {base : Heap} {G : Gm} {x qual : Str} {st : Stmt} {f : Addr} {fd : FuncData} {N ps : List Str} {k n m c nf : Nat} {F : LE → R Out}
theorem in_read (S : FnScope N ps (defScope st)) (hn : ps.length = n + 1) (hm : N.length = m) (hf : (G.flds c).length = nf) {vs : List V} {H : Hp} {Q : VK} {E : XK} (h : spI G c n (runI c nf n m F) vs H Q E) :
    tS G (WD E) F { nx := fun _ H' => Q .non H', rt := Q } (L2.start N vs) H := by
  obtain ⟨hl, dl, Z, ds, a, dx, us, rfl, ha, haZ, gl, dz, live, rl, hw⟩ := h
  unfold runI at hw
  split at hw
  case isFalse => exact hw.elim
  rename_i hdl
  have hpl : ps.length ≤ N.length := by have := congrArg List.length S.pre; rw [List.length_take] at this; omega
  have nta : ∀ fs ps, HO.ins (G.cls c) dx fs ≠ HO.tbl ps := fun _ _ z => by cases z
  have hadl : a ≠ dl := fun e => haZ (by rw [e]; exact dz)
  have A0 : At G dl (a :: Z) [(1000000, a)] (Cell.own (.ins c []) :: (ds.map Cell.val ++ List.replicate (m - n - 1) Cell.un)) (L2.start N (V.ref a :: us)) H := by
    refine ⟨gl, List.mem_cons_of_mem _ dz, fun b hb => ?_, fun p hp => ?_, fun p hp q hq e => ?_, ?_, fun i c' e => ?_⟩
    · rcases List.mem_cons.mp hb with rfl | hb
      · exact ⟨_, ha, fun t z => by cases t <;> cases z⟩
      · exact live b hb
    · rw [List.mem_singleton] at hp
      subst hp
      exact ⟨List.mem_cons_self, hadl⟩
    · rw [List.mem_singleton] at hp hq
      rw [hp, hq]
    · unfold L2.start
      have := rl.length
      rw [List.length_cons] at hl
      simp only [List.length_cons, List.length_append, List.length_map, List.length_replicate]
      omega
    · cases i with
      | zero =>
        cases e
        refine ⟨a, List.mem_singleton.mpr rfl, rfl, ?_, rfl⟩
        exact ⟨dx, [], by rw [ha]; simp, Nat.zero_le _, RepL.nil⟩
      | succ i =>
        have e' : (ds.map Cell.val ++ List.replicate (m - n - 1) Cell.un)[i]? = some c' := e
        have hl2 := rl.length
        by_cases hi : i < ds.length
        · rw [List.getElem?_append_left (by simpa using hi), List.getElem?_map, List.getElem?_eq_getElem hi] at e'
          cases e'
          obtain ⟨v, h1, h2⟩ := RepL.getD ds us i ds[i] rl (by simp)
          refine ⟨v, ?_, h2⟩
          unfold L2.start
          rw [List.getElem?_append_left (by rw [List.length_map, List.length_cons]; omega), List.getElem?_map, List.getElem?_cons_succ, h1]
          rfl
        · rw [List.getElem?_append_right (by simpa using hi), List.getElem?_replicate] at e'
          split at e'
          · cases e'; trivial
          · cases e'
  have gr : ∀ {Z' O' H'}, Stp dl (a :: Z) [(1000000, a)] H Z' O' H' → ∀ b o, H b = some o → b ≠ dl → b ≠ a → (∀ ps, o ≠ .tbl ps) → H' b = some o := fun s b o e n na nt => s.fr b o e n (fun p hp => by
    rw [List.mem_singleton] at hp
    subst hp
    exact fun e => na e.symm) nt
  have gz : ∀ {Z' O' H'}, Stp dl (a :: Z) [(1000000, a)] H Z' O' H' → GrowS (cut H' Z') (cut H' Z) := fun s => cut_sub fun b hb => s.zk b (List.mem_cons_of_mem _ hb) fun p hp => by
    rw [List.mem_singleton] at hp
    subst hp
    exact fun (e : a = b) => haZ (by rw [e]; exact hb)
  refine ⟨dl, a :: Z, [(1000000, a)], _, A0, (calm_wp hw.bind).thn fun o ho => ?_⟩
  cases o with
  | nx r =>
    intro Z' O' sg' H' s A'
    show Q .non H'
    change Wp (match (r[0]? : Option Cell) with | some (Cell.own (D.ins c' fs)) => if c' = c ∧ fs.length = nf then R.ok (D.ins c fs) else R.stuck | _ => R.stuck) _ _ at ho
    split at ho
    · rename_i c' fs hr0
      split at ho
      · rename_i hc
        obtain ⟨rfl, hfl⟩ := hc
        refine ho H' (gr s) A'.gl ?_
        obtain ⟨a', ha', hs', ⟨dx', vs', e', hle', rl'⟩, ko⟩ := A'.slot 0 _ hr0
        have hm' := s.sf a' ha'
        rw [List.mem_singleton] at hm'
        have haa : a' = a := congrArg Prod.snd hm'
        subst haa
        unfold Rep
        refine ⟨a', dx', vs', rfl, by rw [cut_out haZ]; exact e', by rw [hf, rl'.length]; exact hfl.symm, rl'.mono (gz s)⟩
      · exact ho.elim
    · exact ho.elim
  | rt d => exact ho.elim
  | ex e r => exact fun Z' O' sg' H' cls dx s A' xr => ho cls dx H' (gr s) A'.gl (xr.mono (gz s))
  | bk r => exact ho.elim
  | ct r => exact ho.elim
theorem mkD_C {cc : Addr} (Fn : FunC K "__init__" qual st f cc ps) (S : FnScope N ps (defScope st)) (mk : Mk K (G.cls c) f) (hx : mg x = some (.ref (G.cls c))) (hn : ps.length = n + 1) (hm : N.length = m) (hf : (G.flds c).length = nf)
    (hb : ∀ A outer s H E, Room k (A.deeper (envOfC qual (defScope st) s.heap.objs.size f (.ref cc))) → DSs (cxD P w K mg base N qual st f (.ref cc) A outer s H E) G (WD E) (defBody st) F) :
    MkD P w K mg base G (k + 1) c x n (runI c nf n m F) := by
  obtain ⟨⟨oc, od, kV, doc, pm, an, ct, osl, lk, bd⟩, cd, kp⟩ := Fn
  exact ⟨⟨f, _, ps, hn, fn_of lk cd S (fun vs H Q E h => by rw [hn]; exact h.1) fun A outer s H vs Q E hr h => ⟨_, hb A outer s H E hr, in_read S hn hm hf h⟩, .all bd, mk⟩, runI_len, hx⟩
/-- the law's own def -/
theorem law_V {cdv : Value} {m : Nat} {oc : Value} {od : Option Addr} {kV doc pm : Value} {an : Option Addr} {ct : Value} {osl : Array (Option Value)} (lk : K.lookup f = some ⟨oc, od, .func (PySem.W.fnOf "law" "law" (defArgs st) (defBody st) (defScope st) .none kV doc pm an cdv ct), osl⟩)
    (cd : PySem.W.codeIn K cdv "law" = true) (S : FnScope N ["script"] (defScope st)) (hm : N.length = m) (h2 : 2 ≤ m) (hG : G.K = K) (hU : ∀ p ∈ G.tabs, ∀ q ∈ G.tabs, p.1 = q.1 → p.2 = q.2) (hS0 : G.subs = []) (hF : Wp (F (r0 m)) (fun o => ∃ r, o = .nx r ∨ o = .ct r) (fun _ => False))
    (hb : ∀ A outer s H E, Room k (A.deeper (envOfC "law" (defScope st) s.heap.objs.size f cdv)) → ∃ E', PSs (cxD P w K mg base N "law" st f cdv A outer s H E) (defBody st) (tSeq (tFor (iList G.K (tCallS (spRounds G.K) E' (tCons (tVar 0) (tCons (tC (.int 1)) tNil)))) (gName 1) (tS G (WD E) F)) (tRet (tC (.bl true))))) :
    FnOk P w K mg base (L2.CX P w) (k + 1) f (PySem.W.fnOf "law" "law" (defArgs st) (defBody st) (defScope st) .none kV doc pm an cdv ct) ["script"] (spLaw K G.tabs) := by
  refine LG.FnOk.weaken ?_
  refine fn_of lk cd S (fun vs H Q E h => by obtain ⟨a, ns, rfl, _⟩ := h; rfl) fun A outer s H vs Q E hr h => ?_
  obtain ⟨E', hp⟩ := hb A outer s H E hr
  obtain ⟨a, ns, rfl, hS, hT, kq⟩ := h
  exact ⟨_, hp, law_core hm h2 (hG.symm ▸ hS) hT hU hS0 kq hF⟩
end
end DL
set_option Elab.async false
set_option linter.all false
set_option maxRecDepth 100000
set_option maxHeartbeats 1000000
namespace DL
open PySem L2 PySem.Spec PyProof.Rows
def strD : D → R (List D)
  | .str s => .ok (s.map fun c => .str [c])
  | _ => .stuck
theorem signs_get {s : List Nat} {i : Nat} {d : D} (h : (s.map fun c => D.str [c])[i]? = some d) : ∃ c, s[i]? = some c ∧ d = .str [c] := by
  rw [List.getElem?_map] at h
  cases e : s[i]? with
  | none => rw [e] at h; cases h
  | some c => rw [e] at h; cases h; exact ⟨c, rfl, rfl⟩
section
variable {X : Cx} {G : Gm} {W : WX} {tg iter : Expr} {f : LE → R D} {pos p : Pos}
theorem walk_str {dl : Addr} {s : List Nat} : WalkS G dl (Its ⟨s.toArray⟩) (s.map fun c => D.str [c]) (fun _ _ => True) where
  mono := fun _ _ _ _ _ _ _ => trivial
  monoS := fun _ _ _ _ _ _ => trivial
  go := fun i Z H h hi => by
    show i < s.toArray.size
    simpa using hi
  stop := fun i Z H h hi => by
    show s.toArray.size ≤ i
    simpa using hi
  yld := fun i Z O r sg H x H' A h hy d hd => by
    obtain ⟨rfl, c, hc, rfl⟩ := hy
    obtain ⟨c', hc', rfl⟩ := signs_get hd
    have hc2 : s.toArray[i]? = some c := hc
    rw [List.getElem?_toArray, hc'] at hc2
    cases hc2
    exact ⟨.refl _ _, fun _ k => k, Rep.str_⟩
theorem di_str (h : DE X G W iter f) : DI X G W tg iter (fun r => f r >>= strD) := PI_imp (pi_str h) fun sg H Q ⟨dl, Z, O, r, A, q⟩ => by
  refine ⟨dl, Z, O, r, A, q.bind.thn fun d hd v H1 g1 k1 rp => ?_⟩
  unfold strD at hd
  split at hd
  · rename_i s
    unfold Rep at rp
    subst rp
    exact ⟨_, rfl, hd _ _ H1 g1 k1 walk_str trivial⟩
  · exact hd.elim
/-- pairs counted from k, the items as they are fixed from the start -/
def Itq (k : Int) (xs : List V) : It := ⟨fun i _ => i < xs.length, fun i H v H' => ∃ T x, v = .ref T ∧ H T = none ∧ H' = upd H T (.tup [.int (k + (i : Nat)), x]) ∧ xs[i]? = some x, fun i _ => xs.length ≤ i⟩
def enumL (k : Int) (ds : List D) : List D := ds.mapIdx fun i d => .tup [.int (k + (i : Nat)), d]
theorem enumL_get {k : Int} {ds : List D} {i : Nat} {e : D} (h : (enumL k ds)[i]? = some e) : ∃ d, ds[i]? = some d ∧ e = .tup [.int (k + (i : Nat)), d] := by
  unfold enumL at h
  rw [List.getElem?_mapIdx] at h
  cases q : ds[i]? with
  | none => rw [q] at h; cases h
  | some d => rw [q] at h; cases h; exact ⟨d, rfl, rfl⟩
theorem enumL_len {k : Int} {ds : List D} : (enumL k ds).length = ds.length := by unfold enumL; simp
theorem walk_enumq {dl : Addr} {k : Int} {ds : List D} {vs : List V} {Z0 : List Addr} {H0 : Hp} (rl : RepL G dl (cut H0 Z0) ds vs) :
    WalkS G dl (Itq k vs) (enumL k ds) (fun Z H => GrowS (cut H0 Z0) (cut H Z)) where
  mono := fun _ _ _ _ g _ h => LamX.ExtN.trans h g
  monoS := fun _ _ _ _ g h => LamX.ExtN.trans h g
  go := fun i Z H h hi => by
    show i < vs.length
    rw [rl.length]; rw [enumL_len] at hi; exact hi
  stop := fun i Z H h hi => by
    show vs.length ≤ i
    rw [rl.length]; rw [enumL_len] at hi; exact hi
  yld := fun i Z O r sg H x H' A h hy e he => by
    obtain ⟨d, hd, rfl⟩ := enumL_get he
    obtain ⟨T, u, rfl, hT, rfl, hu⟩ := hy
    obtain ⟨u', hu', rp⟩ := RepL.getD ds vs i d rl hd
    rw [hu] at hu'; cases hu'
    have hTZ : T ∉ Z := A.out hT
    have gN : GrowS (cut H Z) (cut (upd H T (.tup [.int (k + (i : Nat)), u])) Z) := fun b o e n => by
      obtain ⟨e1, e2⟩ := cut_some e
      rw [cut_out e1, upd_ne (ne_of_none e2 hT)]; exact e2
    refine ⟨.new hT, fun _ k => k.new hT, ?_⟩
    unfold Rep
    refine ⟨T, _, rfl, (by rw [cut_out hTZ, upd_same]), RepL.cons Rep.int_ (RepL.cons ((rp.mono h).mono gN) RepL.nil)⟩
/-- over a text -/
theorem turn_enumT {P : Program} {w : World} {K : PySem.W.Frag} {elts : List Expr} {kk : Nat} {tpos : Pos} (k : Int) (x : Str) (t : Tok) (e it : Addr) :
    Turn P w K (.Tuple elts kk tpos) (Itq k (x.cps.toList.map fun c => V.str ⟨#[c]⟩)) [e, it] e (fun i h => (∃ old, IsEnum h e it (k + ((i : Nat) : Int)) old) ∧ h.IsStrIter it (strIterType x) x t i ∧ e ≠ it ∧ i ≤ x.cps.size) where
  mem := by simp
  obj := fun i h st b hb => by
    obtain ⟨⟨old, he⟩, ⟨o, ho, hc, hd⟩, _⟩ := st
    have e' : b = e ∨ b = it := by simpa using hb
    rcases e' with z | z
    · rw [z]; exact ⟨_, he, fun v q => nomatch q⟩
    · rw [z]; exact ⟨o, ho, fun v q => by rw [hd] at q; cases q⟩
  keep := fun i h h' st kk => let ⟨⟨old, he⟩, ⟨o, ho, r⟩, hne⟩ := st; ⟨⟨old, kk e (by simp) _ he⟩, ⟨o, kk it (by simp) o ho, r⟩, hne⟩
  item := by
    intro X hP hw hK hc i pins s σ H E I hf st hg
    subst hP hw hK
    obtain ⟨⟨old, he⟩, hit, hne, _⟩ := st
    have hi : i < x.cps.size := by
      have : i < (x.cps.toList.map fun c => V.str ⟨#[c]⟩).length := hg
      simpa using this
    have hel : e < s.heap.objs.size := Heap.lt_size he
    have hil : it < s.heap.objs.size := by obtain ⟨_, q, _⟩ := hit; exact Heap.lt_size q
    refine wpAny_pyNext_enum_itemC (Draws.text (A := X.A.in1) (I.ok.hd hc) it x t) he hit hi hne (by simpa using hne) fun u h' tk hu ho hit' hT hsz hk => ?_
    obtain ⟨c, tc, hcx, rfl⟩ := hu
    refine ⟨_, rfl, wpAny_letOwnedTupleGo_enum (s := { s with heap := h', toks := tk + 1 }) ho fun h'' he' sb => ?_⟩
    have hT2 : h''.get? s.heap.objs.size = some { cls := .type "tuple", data := .seq #[.int (k + ((i : Nat) : Int)) tk, .str ⟨#[c]⟩ tc] } := (sb.2 _ (Nat.ne_of_gt hel)).trans hT
    have new : ObjOk X.prog X.w (upd H s.heap.objs.size (.tup [.int (k + (i : Nat)), .str ⟨#[c]⟩])) h'' s.heap.objs.size (.tup [.int (k + (i : Nat)), .str ⟨#[c]⟩]) :=
      ⟨by show 2 ≤ sizeLine; decide, [.int (k + ((i : Nat) : Int)) tk, .str ⟨#[c]⟩ tc], .cons ⟨_, rfl⟩ (.cons ⟨_, rfl⟩ .nil), ⟨_, hT2, rfl, _, rfl⟩⟩
    have I1 : Inv X pins σ (upd H s.heap.objs.size (.tup [.int (k + (i : Nat)), .str ⟨#[c]⟩])) { s with heap := h'', toks := tk + 1 } :=
      I.turnedNew (ch := [e, it]) (fun b ob hb q => (sb.2 b (fun z => hb (by simp [z]))).trans (hk b ob (fun z => hb (by simp [z])) (fun z => hb (by simp [z])) q)) hf (Nat.le_refl _) new
    obtain ⟨oi, hoi, ri⟩ := id hit'
    refine ⟨.ref s.heap.objs.size, _, I1, rfl, ⟨_, .str ⟨#[c]⟩, rfl, I.hok.fresh (Nat.le_refl _), rfl, ?_⟩, ⟨⟨.str ⟨#[c]⟩ tc, ?_⟩, ⟨oi, (sb.2 it (Ne.symm hne)).trans hoi, ri⟩, hne, hi⟩, fun b hb => ?_⟩
    · rw [List.getElem?_map, Array.getElem?_toList, hcx]
      rfl
    · have e1 : k + ((i + 1 : Nat) : Int) = k + ((i : Nat) : Int) + 1 := by omega
      rw [e1]; exact he'
    · have hb' : b < s.heap.objs.size := by
        have e' : b = e ∨ b = it := by simpa using hb
        rcases e' with z | z
        · rw [z]; exact hel
        · rw [z]; exact hil
      rw [upd_ne (Nat.ne_of_lt hb')]
      exact (hf b hb).1
  done := by
    intro X hP hw hK hc i pins s σ H E I hf st hg
    subst hP hw hK
    obtain ⟨⟨old, he⟩, hit, hne, hle⟩ := st
    have hx : x.cps.size ≤ i := by
      have : (x.cps.toList.map fun c => V.str ⟨#[c]⟩).length ≤ i := hg
      simpa using this
    obtain ⟨f0, f1, f2, f3, f4, f5⟩ := hf it (by simp)
    obtain rfl : i = x.cps.size := by omega
    refine wpAny_pyNext_enum_endD (Draws.text (A := X.A.in1) (I.ok.hd hc) it x t) he hit fun h' eb => ⟨rfl, I.turned (t' := s.toks) (fun b o hb q => eb b o hb q) f0 f1 f3 f4 f5⟩
  self := fun A i s Q E st h => let ⟨⟨_, he⟩, _⟩ := st; wpAny_pyIter_enum he h
end
end DL
set_option Elab.async false
set_option linter.all false
set_option maxRecDepth 100000
set_option maxHeartbeats 1000000
namespace DL
open PySem L2 PySem.Spec PyProof.Rows
section
variable {X : Cx} {G : Gm} {W : WX} {e : Expr} {f : LE → R D} {te : TE} {p pos tpos kpos : Pos} {elts : List Expr} {kk : Nat}
def signsV (x : Str) : List V := x.cps.toList.map fun c => V.str ⟨#[c]⟩
def iEnumT (k : Int) (ta : TA) : TI := fun σ H R => ta σ H fun vs H1 => ∃ x, vs = [.str x] ∧ R (Itq k (signsV x)) H1
theorem enumT_at {pins : List (Addr × Obj)} {σ : L2.St} {H1 : Hp} {s1 : Shared} {x : Str} {t : Tok} {k : Int} {Rr : It → Hp → Prop} {h' : Heap} (I1 : Inv X pins σ H1 s1) (q : Rr (Itq k (signsV x)) H1)
    (he : IsEnum h' (s1.heap.objs.size + 1) s1.heap.objs.size k .none) (hit : h'.IsStrIter s1.heap.objs.size (strIterType x) x t 0) (hk : ∀ b o, s1.heap.get? b = some o → h'.get? b = some o) :
    PIE X pins σ (.Tuple elts kk tpos) Rr (.ref (s1.heap.objs.size + 1)) { s1 with heap := h' } := by
  have I2 : Inv X pins σ H1 { s1 with heap := h' } := I1.kept (t' := s1.toks) hk
  refine ⟨s1.heap.objs.size + 1, [s1.heap.objs.size + 1, s1.heap.objs.size], _, _, H1, rfl, I2, turn_enumT k x t (s1.heap.objs.size + 1) s1.heap.objs.size, ⟨⟨.none, by simpa using he⟩, hit, Nat.succ_ne_self _, Nat.zero_le _⟩, fun b hb => ?_, q⟩
  have e' : b = s1.heap.objs.size + 1 ∨ b = s1.heap.objs.size := by simpa using hb
  have hle : s1.heap.objs.size ≤ b := by
    rcases e' with z | z
    · rw [z]; exact Nat.le_add_right _ _
    · rw [z]; exact Nat.le_refl _
  exact I1.fpOk hle (I1.hok.fresh hle)
theorem pi_enumT {ta : TA} (hg : Gl X "enumerate") (hm : X.mg "enumerate" = none) (ha : PA X [e] ta) (hs : starEach [e] X.env = [(false, eval e X.env)] := by rfl) :
    PI X (.Tuple elts kk tpos) (.Call (.Name "enumerate" p) [e] [] pos) (iEnumT 0 ta) := by
  refine ⟨fun pins s σ H R I h => ?_⟩
  refine Call_ (ld_blt I hg hm boot_enumerate (PyProof.Rows.callWith_type1 (thn (ha.run pos pins s σ H _ I h) fun us s1 ⟨vs, H1, I1, r1, q1⟩ => ?_) hs rfl))
  obtain ⟨x, ex, q⟩ := q1
  subst ex
  cases r1 with
  | cons r rr =>
    cases rr
    obtain ⟨t, rfl⟩ := r
    exact call_enumerate_str fun h' he hit hsz hk => wpAny_pyIter_enum he (enumT_at I1 q he hit hk)
def enumTD (k : Int) : List D → R (List D)
  | [.str s] => .ok (enumL k (s.map fun c => .str [c]))
  | _ => .stuck
theorem signs_rep {G : Gm} {dl : Addr} {S : Hp} : ∀ {s : List Nat}, RepL G dl S (s.map fun c => D.str [c]) (s.map fun c => V.str ⟨#[c]⟩)
  | [] => RepL.nil
  | c :: s => RepL.cons Rep.str_ signs_rep
theorem enumT_core {k : Int} {fs : LE → R (List D)} {sg : L2.St} {H : Hp} {Rr : It → Hp → Prop} (h : tIs G W (fun r => fs r >>= enumTD k) sg H Rr) : iEnumT k (tA G W fs) sg H Rr := by
  obtain ⟨dl, Z, O, r, A, q⟩ := h
  refine ⟨dl, Z, O, r, A, q.bind.thn fun ds hd vs H1 g1 k1 rl => ?_⟩
  unfold enumTD at hd
  split at hd
  · rename_i s
    unfold RepL at rl
    obtain ⟨v, us, rfl, h1, h2⟩ := rl
    unfold Rep at h1
    unfold RepL at h2
    subst h1 h2
    refine ⟨_, rfl, hd _ _ H1 g1 k1 (walk_enumq (Z0 := Z) (H0 := H1) signs_rep) (LamX.ExtN.refl _)⟩
  · exact hd.elim
theorem di_enumT {fs : LE → R (List D)} (hg : Gl X "enumerate") (hm : X.mg "enumerate" = none) (ha : DA X G W [e] fs) (hs : starEach [e] X.env = [(false, eval e X.env)] := by rfl) :
    DI X G W (.Tuple elts kk tpos) (.Call (.Name "enumerate" p) [e] [] pos) (fun r => fs r >>= enumTD 0) := PI_imp (pi_enumT hg hm ha hs) fun sg H Q h => enumT_core h
end
end DL
set_option Elab.async false
set_option linter.all false
set_option maxRecDepth 100000
set_option maxHeartbeats 1000000
namespace DL
open PySem L2 PySem.Spec PyProof.Rows
def strsD : List D → Option (List (List Nat))
  | [] => some []
  | .str s :: ds => (strsD ds).map (s :: ·)
  | _ :: _ => none
theorem strsD_rep {G : Gm} {dl : Addr} {S : Hp} : ∀ {ds : List D} {ss : List (List Nat)} {vs : List V}, strsD ds = some ss → RepL G dl S ds vs → vs = (ss.map fun s => (⟨s.toArray⟩ : Str)).map V.str
  | [], ss, vs, h, rl => by
    cases h
    unfold RepL at rl
    exact rl
  | d :: ds, ss, vs, h, rl => by
    unfold RepL at rl
    obtain ⟨v, r, rfl, h1, h2⟩ := rl
    cases d with
    | str s =>
      unfold strsD at h
      cases e : strsD ds with
      | none => rw [e] at h; cases h
      | some ss' =>
        rw [e] at h
        cases h
        unfold Rep at h1
        rw [h1, strsD_rep e h2]
        rfl
    | _ => cases h
def joinOk (a : List Nat) (ss : List (List Nat)) : Bool := decide ((ss.map List.length).sum + ss.length * a.length ≤ 16777216)
def joinD : D → List D → R D
  | .str a, [.lst ds] => (match strsD ds with
    | some ss => if joinOk a ss then .ok (.str (TL.joinL a ss)) else .stuck
    | none => .stuck)
  | .str a, [.tup ds] => (match strsD ds with
    | some ss => if joinOk a ss then .ok (.str (TL.joinL a ss)) else .stuck
    | none => .stuck)
  | _, _ => .stuck
theorem join_fit {a : List Nat} {ss : List (List Nat)} (h : joinOk a ss = true) : ((ss.map fun s => (⟨s.toArray⟩ : Str)).map (·.length)).sum + (ss.map fun s => (⟨s.toArray⟩ : Str)).length * (⟨a.toArray⟩ : Str).length ≤ 16777216 := by
  unfold joinOk at h
  have h := of_decide_eq_true h
  have e : (ss.map fun s => (⟨s.toArray⟩ : Str)).map (·.length) = ss.map List.length := by
    rw [List.map_map]
    exact List.map_congr_left fun s _ => by simp [Str.length]
  rw [e, List.length_map]
  simpa [Str.length] using h
section
variable {X : Cx} {G : Gm}
theorem bm_join (hG : G.K = X.K) : BmD X G "str" "join" joinD := by
  refine ⟨⟨_, _, PySem.F.slot_str_join, PySem.F.type_str_join, mt_join, ?_⟩, PySem.F.plainAttrs_str⟩
  intro dl Z O r sg x vx ds vs H Q E A hx hds h
  unfold joinD at h
  split at h
  · rename_i a ds
    split at h
    · rename_i ss hss
      split at h
      · rename_i hf
        obtain ⟨v, rfl, hv⟩ := hds.one
        obtain ⟨p, us, rfl, hp, rl⟩ := hv.lst
        have := strsD_rep hss rl
        subst this
        refine ⟨_, p, _, hx.str, rfl, .inl (SqL.of hp), join_fit hf, ?_⟩
        rw [show Txt.join ⟨a.toArray⟩ (ss.map fun s => (⟨s.toArray⟩ : Str)) = ⟨(TL.joinL a ss).toArray⟩ from SX.join_S a ss]
        exact h _ H (.refl _ _) A.gl Rep.str_
      · exact h.elim
    · exact h.elim
  · rename_i a ds
    split at h
    · rename_i ss hss
      split at h
      · rename_i hf
        obtain ⟨v, rfl, hv⟩ := hds.one
        obtain ⟨p, us, rfl, hp, rl⟩ := hv.tup
        have := strsD_rep hss rl
        subst this
        refine ⟨_, p, _, hx.str, rfl, .inr (hG ▸ hp), join_fit hf, ?_⟩
        rw [show Txt.join ⟨a.toArray⟩ (ss.map fun s => (⟨s.toArray⟩ : Str)) = ⟨(TL.joinL a ss).toArray⟩ from SX.join_S a ss]
        exact h _ H (.refl _ _) A.gl Rep.str_
      · exact h.elim
    · exact h.elim
  · exact h.elim
end
end DL
set_option Elab.async false
set_option linter.all false
set_option maxRecDepth 100000
set_option maxHeartbeats 2000000
namespace DLR
open PySem PySem.Spec PyProof.Rows
def IsRs (h : Heap) (a : Addr) (x : Str) (t : Tok) (i : Int) : Prop := ∃ o, h.get? a = some o ∧ o.cls = .type "reversed" ∧ o.data = .fields #[.str x t, rawInt i]
theorem IsRs.at {h h' : Heap} {a : Addr} {x : Str} {t : Tok} {i : Int} (q : IsRs h a x t i) (e : ∀ o, h.get? a = some o → h'.get? a = some o) : IsRs h' a x t i := let ⟨o, ho, r⟩ := q; ⟨o, e _ ho, r⟩
section
variable {prog : Program} {w : World} {A : Around} {E : Value → Shared → Prop} {s : Shared} {x : Str} {t : Tok}
theorem IsRs.typeIs {a : Addr} {i : Int} (q : IsRs s.heap a x t i) : s.TypeIs (.ref a) "reversed" := let ⟨o, ho, hc, _⟩ := q; ⟨o, ho, hc⟩
end
end DLR
set_option Elab.async false
set_option linter.all false
set_option maxRecDepth 100000
set_option maxHeartbeats 2000000
namespace DL
open PySem L2 PySem.Spec PyProof.Rows
end DL
set_option Elab.async false
set_option linter.all false
set_option maxRecDepth 100000
set_option maxHeartbeats 1000000
namespace DL
open PySem L2 PySem.Spec PyProof.Rows
end DL
set_option Elab.async false
set_option linter.all false
set_option maxRecDepth 100000
set_option maxHeartbeats 1000000
namespace DL
open PySem L2 PySem.Spec PyProof.Rows
def sidxD : D → List D → R D
  | .str s, [.str [c]] => (match s.findIdx? (· == c) with
    | some i => .ok (.int i)
    | none => .stuck)
  | _, _ => .stuck
theorem occ_sign {s : List Nat} {c i : Nat} (h : s.findIdx? (· == c) = some i) : ∃ rest, Builtin.Str.occurrences ⟨s.toArray⟩ ⟨#[c]⟩ 0 (⟨s.toArray⟩ : Str).length 1 = i :: rest := by
  obtain ⟨hi, h1, h2⟩ := List.findIdx?_eq_some_iff_getElem.mp h
  have hat : ∀ k, StrLaws.At ⟨s.toArray⟩ ⟨#[c]⟩ (⟨s.toArray⟩ : Str).length k ↔ s[k]? = some c := fun k => StrLaws.subAt_one ⟨s.toArray⟩ c k
  have hc : s[i]? = some c := by rw [List.getElem?_eq_getElem hi]; simpa using h1
  rcases StrLaws.occ_head ⟨s.toArray⟩ ⟨#[c]⟩ 1 (Nat.le_refl _) with ⟨_, hn⟩ | ⟨j, r, e, hj, hk⟩
  · exact (hn i ((hat i).mpr hc)).elim
  · have hj' := (hat j).mp hj
    have : j = i := by
      rcases Nat.lt_trichotomy j i with q | q | q
      · have := h2 j q
        rw [List.getElem?_eq_getElem (by omega)] at hj'
        simp at this hj'
        exact (this hj').elim
      · exact q
      · exact (hk i q ((hat i).mpr hc)).elim
    subst this
    exact ⟨r, e⟩
def intX : List D → R D
  | [.int i] => .ok (.int i)
  | [.bl b] => .ok (.int (if b then 1 else 0))
  | [.str [c]] => if 48 ≤ c ∧ c ≤ 57 then .ok (.int ((c - 48 : Nat) : Int)) else .stuck
  | _ => .stuck
theorem intText_one {c : Nat} (h1 : 48 ≤ c) (h2 : c ≤ 57) : PySem.intText? ⟨#[c]⟩ = some ((c - 48 : Nat) : Int) := by
  have : c = 48 ∨ c = 49 ∨ c = 50 ∨ c = 51 ∨ c = 52 ∨ c = 53 ∨ c = 54 ∨ c = 55 ∨ c = 56 ∨ c = 57 := by omega
  rcases this with rfl | rfl | rfl | rfl | rfl | rfl | rfl | rfl | rfl | rfl <;> decide +kernel
section
variable {X : Cx} {G : Gm} {W : WX} {dl : Addr} {H : Hp} {Z : List Addr}
theorem bm_sindex : BmD X G "str" "index" sidxD := by
  refine ⟨⟨_, _, PySem.F.slot_str_index, PySem.F.type_str_index, mt_sindex, ?_⟩, PySem.F.plainAttrs_str⟩
  intro dl Z O r sg x vx ds vs H Q E A hx hds h
  unfold sidxD at h
  split at h
  · rename_i s c
    split at h
    · rename_i i hi
      obtain ⟨v, rfl, hv⟩ := hds.one
      obtain ⟨rest, ho⟩ := occ_sign hi
      exact ⟨_, _, i, rest, hx.str, by rw [hv.str], ho, h _ H (.refl _ _) A.gl Rep.int_⟩
    · exact h.elim
  · exact h.elim
end
end DL
set_option Elab.async false
set_option linter.all false
set_option maxRecDepth 100000
namespace DL
open PySem L2 PySem.Spec PyProof.Rows
def itS (f : LE → R D) : LE → R (List D) := fun r => f r >>= strD
def enumTE (k : Int) (fs : LE → R (List D)) : LE → R (List D) := fun r => fs r >>= enumTD k
/-- the law's round keeps the law, whatever is rolled -/
structure LawOk (F : LE → R Out) (m : Nat) : Prop where
  out : Wp (F (r0 m)) (fun o => ∃ r, o = .nx r ∨ o = .ct r) (fun _ => False)
section
variable {P : Program} {w : World} {K : PySem.W.Frag} {mg : Str → Option Value} {base : Heap} {G : Gm} {x qual : Str} {st : Stmt} {f : Addr} {fd : FuncData} {N ps : List Str} {k n m c nf : Nat} {F : LE → R Out}
theorem law_W {cdv : Value} {m : Nat} {oc : Value} {od : Option Addr} {kV doc pm : Value} {an : Option Addr} {ct : Value} {osl : Array (Option Value)} (lk : K.lookup f = some ⟨oc, od, .func (PySem.W.fnOf "law" "law" (defArgs st) (defBody st) (defScope st) .none kV doc pm an cdv ct), osl⟩)
    (cd : PySem.W.codeIn K cdv "law" = true) (S : FnScope N ["script"] (defScope st)) (hm : N.length = m) (h2 : 2 ≤ m) (hG : G.K = K) (hU : ∀ p ∈ G.tabs, ∀ q ∈ G.tabs, p.1 = q.1 → p.2 = q.2) (hS0 : G.subs = []) (hF : LawOk F m)
    (hb : ∀ A outer s H E, Room k (A.deeper (envOfC "law" (defScope st) s.heap.objs.size f cdv)) → ∃ E', PSs (cxD P w K mg base N "law" st f cdv A outer s H E) (defBody st) (tSeq (tFor (iList G.K (tCallS (spRounds G.K) E' (tCons (tVar 0) (tCons (tC (.int 1)) tNil)))) (gName 1) (tS G (WD E) F)) (tRet (tC (.bl true))))) :
    FnOk P w K mg base (L2.CX P w) (k + 1) f (PySem.W.fnOf "law" "law" (defArgs st) (defBody st) (defScope st) .none kV doc pm an cdv ct) ["script"] (spLaw K G.tabs) := by
  exact law_V lk cd S hm h2 hG hU hS0 hF.out hb
end
end DL
set_option Elab.async false
set_option linter.all false
set_option maxRecDepth 100000
namespace DL
open PySem L2 PySem.Spec PyProof.Rows
/-- every roll tried -/
def ckR {α : Type} : R α → (α → Bool) → Bool
  | .ok a, p => p a
  | .err _, _ => false
  | .stuck, _ => false
  | .roll m f, p => (List.range m).all fun i => ckR (f i) p
theorem ckR_wp {α : Type} : ∀ (m : R α) (p : α → Bool), ckR m p = true → Wp m (fun a => p a = true) (fun _ => False)
  | .ok a, p, h => h
  | .err _, p, h => by cases h
  | .stuck, p, h => by cases h
  | .roll m f, p, h => fun i hi => by
    have h : ((List.range m).all fun i => ckR (f i) p) = true := h
    rw [List.all_eq_true] at h
    exact ckR_wp (f i) p (h i (List.mem_range.mpr hi))
/-- (hidden from the unifier) -/
structure Ck {α : Type} (m : R α) (p : α → Bool) : Prop where
  h : ckR m p = true
theorem Ck.wp {α : Type} {m : R α} {p : α → Bool} (h : Ck m p) : Wp m (fun a => p a = true) (fun _ => False) := ckR_wp m p h.h
/-- statements in a row -/
def seqAll : List (LE → R Out) → (LE → R Out) → LE → R Out
  | [], K => K
  | S :: Ss, K => seqS S (seqAll Ss K)
/-- .. run to their end: the state behind them -/
def runAll : List (LE → R Out) → LE → R LE
  | [], r => .ok r
  | S :: Ss, r => S r >>= fun o => match o with
    | .nx r' => runAll Ss r'
    | _ => .stuck
structure GoP (P : Out → Prop) (F : LE → R Out) (r : LE) : Prop where
  h : Wp (F r) P (fun _ => False)
theorem runAll_wp {P : Out → Prop} {K : LE → R Out} {Q : LE → Prop} : ∀ (Ss : List (LE → R Out)) (r : LE), Wp (runAll Ss r) Q (fun _ => False) → (∀ r', Q r' → GoP P K r') → Wp (seqAll Ss K r) P (fun _ => False)
  | [], r, h, k => (k r h).h
  | S :: Ss, r, h, k => by
    show Wp (S r >>= fun o => match o with
      | .nx r' => seqAll Ss K r'
      | o => .ok o) _ _
    refine Wp.of_bind ((show Wp (S r >>= _) _ _ from h).bind.mono (fun o ho => ?_) fun _ z => z)
    cases o with
    | nx r' => exact runAll_wp Ss r' ho k
    | rt _ => exact ho.elim
    | ex _ _ => exact ho.elim
    | bk _ => exact ho.elim
    | ct _ => exact ho.elim
structure Wr {α : Type} (m : R α) (Q : α → Prop) : Prop where
  h : Wp m Q (fun _ => False)
theorem GoP.one {P : Out → Prop} {S F K : LE → R Out} {r : LE} {Q : LE → Prop} (e : F = seqS S K) (h : Wr (runAll [S] r) Q) (k : ∀ r', Q r' → GoP P K r') : GoP P F r := by
  subst e
  exact ⟨runAll_wp [S] r h.h k⟩
theorem Wr.run1 {i : Nat} {f : LE → R D} {r : LE} {Q : LE → Prop} (h : Wr (f r) (fun d => Q (r.set i (.val d)))) : Wr (runAll [setK i (valK f)] r) Q := by
  refine ⟨Wp.of_bind ((Wp_setK (h.h.mono (fun d hd => ?_) fun _ z => z.elim) : Wp (setK i (valK f) r) (fun o => ∃ r', o = .nx r' ∧ Q r') _).mono (fun o ho => ?_) fun _ z => z)⟩
  · exact ⟨_, rfl, hd⟩
  · obtain ⟨r', rfl, hq⟩ := ho
    exact hq
theorem LawOk.of {F : LE → R Out} {m : Nat} (g : GoP (fun o => ∃ r, o = .nx r ∨ o = .ct r) F (r0 m)) : LawOk F m := ⟨g.h⟩
end DL
set_option Elab.async false
set_option linter.all false
set_option maxRecDepth 100000
namespace DL
open PySem L2 PySem.Spec PyProof.Rows
end DL
set_option Elab.async false
set_option linter.all false
set_option maxRecDepth 100000
namespace DL
open PySem L2 PySem.Spec PyProof.Rows
def figF : Nat → Nat → List Nat → List Nat
  | 0, _, acc => acc
  | f + 1, n, acc => if n < 10 then (48 + n) :: acc else figF f (n / 10) ((48 + n % 10) :: acc)
theorem figF_is : ∀ (f n : Nat) (acc : List Nat), n < 10 ^ f → 0 < f → figF f n acc = TL.numL n ++ acc
  | 0, n, acc, _, h => absurd h (by omega)
  | f + 1, n, acc, h, _ => by
    unfold figF
    split
    · rename_i hn
      rw [TL.numL_lt hn]
      rfl
    · rename_i hn
      rw [TL.numL_step (by omega)]
      cases f with
      | zero => omega
      | succ f =>
        rw [figF_is (f + 1) (n / 10) _ (by rw [Nat.pow_succ] at h; omega) (by omega)]
        simp
def strOf : List D → R D
  | [.int i] => if 0 ≤ i ∧ i < 1000000000000000000 then .ok (.str (figF 18 i.toNat [])) else .stuck
  | [.str s] => .ok (.str s)
  | _ => .stuck
section
variable {X : Cx} {G : Gm}
theorem cd_str : CallD X G (.type "str") strOf := by
  refine ⟨_, CallR.or_ call_str_int SkE.call_str_str, fun dl Z O r sg ds vs H Q E A rl h => ?_⟩
  unfold strOf at h
  split at h
  · rename_i i
    split at h
    case isFalse => exact h.elim
    rename_i hi
    obtain ⟨v, rfl, rp⟩ := rl.one
    refine .inl ⟨i, by rw [rp.int], ?_, ?_⟩
    · by_cases hz : i.natAbs = 0
      · rw [hz]; decide
      · have : i.natAbs.log2 < 60 := (Nat.log2_lt hz).mpr (by omega)
        omega
    · have e : (toString i : Str) = ⟨(figF 18 i.toNat []).toArray⟩ := by
        rw [figF_is 18 i.toNat [] (by omega) (by omega), List.append_nil]
        obtain ⟨n, rfl⟩ := Int.eq_ofNat_of_zero_le hi.1
        exact SX.num_S n
      rw [e]
      exact h _ H (.refl _ _) A.gl Rep.str_
  · rename_i s
    obtain ⟨v, rfl, rp⟩ := rl.one
    exact .inr ⟨_, by rw [rp.str], h _ H (.refl _ _) A.gl Rep.str_⟩
  · exact h.elim
end
end DL
set_option Elab.async false
set_option linter.all false
set_option maxRecDepth 100000
set_option maxHeartbeats 1000000
namespace L2
open PySem PySem.Spec PyProof.Rows
section
variable {X : Cx}
def signsOf (x : Str) : List Str := x.cps.toList.map fun c => ⟨#[c]⟩
theorem strs_signs {x : Str} {acc : Array Value} (h : ItemsOf (SignAt x) acc x.cps.size) : StrsAre acc.toList (signsOf x) :=
  strs_at (by rw [Array.length_toList, h.1]; simp [signsOf]) fun j v e => by
    obtain ⟨c, u, e1, e2⟩ := h.2 j v (by rw [← Array.getElem?_toList]; exact e)
    refine ⟨⟨#[c]⟩, u, ?_, e2⟩
    unfold signsOf
    rw [List.getElem?_map, Array.getElem?_toList, e1]
    rfl
theorem call_list_S (hcalm : X.calm = true) : CallR X (.type "list") (fun xs H Q => ∃ (x : Str), xs = [.str x] ∧ x.length ≤ sizeLine ∧ ∀ p, H p = none → Q (.ref p) (upd H p (.lst ((signsOf x).map V.str)))) := by
  intro pins s σ H xs us Q I r q
  obtain ⟨x, ex, hz, q⟩ := q
  subst ex
  obtain ⟨u, eu, rx⟩ := vals1 r
  subst eu
  obtain ⟨t, rfl⟩ : ∃ t, u = Value.str x t := rx
  refine call_list_str (I.ok.hd hcalm) x t (hn := hz) fun h' tk acc c' hk hD hacc => ?_
  have hS := strs_signs hacc
  refine ⟨.ref s.heap.objs.size, upd H s.heap.objs.size (.lst ((signsOf x).map V.str)), I.laid (t' := tk) hk (Nat.le_refl _)
    (show ObjOk X.prog X.w _ _ _ (.lst ((signsOf x).map V.str)) from ⟨by simp [signsOf]; exact hz, acc.toList, c', vals_of_strs hS, by rw [Array.toArray_toList]; exact hD⟩), rfl, q _ (I.hok.fresh (Nat.le_refl _))⟩
end
end L2
namespace DL
open PySem L2 PySem.Spec PyProof.Rows
def signsD (s : List Nat) : List D := s.map fun c => .str [c]
def listX : List D → R (List D)
  | [.lst xs] => .ok xs
  | [.tup xs] => .ok xs
  | [.str s] => if s.length ≤ 16777216 then .ok (signsD s) else .stuck
  | [.dic kvs] => .ok (kvs.map (·.1))
  | _ => .stuck
section
variable {X : Cx} {G : Gm} {dl : Addr} {S : Hp}
theorem signsOf_eq (s : List Nat) : signsOf ⟨s.toArray⟩ = (s.map fun c => [c]).map fun z => (⟨z.toArray⟩ : Str) := by
  unfold signsOf
  rw [List.map_map]
  rfl
theorem signsD_eq (s : List Nat) : signsD s = (s.map fun c => [c]).map D.str := by
  unfold signsD
  rw [List.map_map]
  rfl
theorem RepK.keysD : ∀ {kvs : List (D × D)} {kv : List (Key × V)}, RepK G dl S kvs kv → RepL G dl S (kvs.map (·.1)) (kv.map fun p => kV p.1)
  | [], kv, h => by unfold RepK at h; subst h; exact RepL.nil
  | (k, d) :: r, kv, h => by
    unfold RepK at h
    obtain ⟨x, v, t, rfl, hk, _, h2⟩ := h
    refine RepL.cons ?_ (RepK.keysD h2)
    cases k with
    | int i => cases hk; exact Rep.int_
    | str s => cases hk; exact Rep.str_
    | _ => cases hk
theorem cf_listX (hG : G.K = X.K) (hc : X.calm = true) : CallF X G (.type "list") listX := by
  refine ⟨_, CallR.or_ call_list_of (CallR.or_ (call_list_S hc) (call_listD hc)), fun dl Z O r sg ds vs H Q E A rl h => ?_⟩
  unfold listX at h
  split at h
  · obtain ⟨v, rfl, rp⟩ := rl.one
    obtain ⟨a, us, rfl, e, rl'⟩ := rp.lst
    exact .inl ⟨a, us, rfl, .inl (SqL.of e), fun l hl => h l us H (.refl _ _) A.gl hl rl'⟩
  · obtain ⟨v, rfl, rp⟩ := rl.one
    obtain ⟨a, us, rfl, e, rl'⟩ := rp.tup
    exact .inl ⟨a, us, rfl, .inr (hG ▸ e), fun l hl => h l us H (.refl _ _) A.gl hl rl'⟩
  · rename_i s
    split at h
    case isFalse => exact h.elim
    rename_i hz
    obtain ⟨v, rfl, rp⟩ := rl.one
    refine .inr (.inl ⟨_, by rw [rp.str], by rw [sizeLine_eq]; simpa [Str.length] using hz, fun l hl => ?_⟩)
    refine h l _ H (.refl _ _) A.gl hl ?_
    rw [signsOf_eq, signsD_eq]
    exact RepL.of_strs _
  · obtain ⟨v, rfl, rp⟩ := rl.one
    obtain ⟨a, kv, rfl, hrd, rk⟩ := rp.dic
    exact .inr (.inr ⟨a, kv, rfl, hrd, fun l hl => h l _ H (.refl _ _) A.gl hl rk.keysD⟩)
  · exact h.elim
end
end DL
set_option Elab.async false
set_option linter.all false
set_option maxRecDepth 100000
set_option maxHeartbeats 1000000
namespace L2
open PySem PySem.Spec PyProof.Rows
end L2
namespace DL
open PySem L2 PySem.Spec PyProof.Rows
def keysD : List D → Option (List D)
  | [] => some []
  | .int i :: r => (keysD r).map (.int i :: ·)
  | .str s :: r => (keysD r).map (.str s :: ·)
  | _ :: _ => none
def keqsD : List D → List D → Bool
  | [], [] => true
  | a :: r, b :: t => a.keq b && keqsD r t
  | _, _ => false
end DL
set_option Elab.async false
set_option linter.all false
set_option maxRecDepth 100000
set_option maxHeartbeats 2000000
set_option Elab.async false
set_option linter.all false
set_option maxRecDepth 100000
set_option maxHeartbeats 2000000
namespace DL
open PySem L2 PySem.Spec PyProof.Rows
end DL
set_option Elab.async false
set_option linter.all false
set_option maxRecDepth 100000
set_option maxHeartbeats 2000000
namespace DL
open PySem L2 PySem.Spec PyProof.Rows
end DL
set_option Elab.async false
set_option linter.all false
set_option maxRecDepth 100000
set_option maxHeartbeats 2000000
namespace DL
open PySem L2 PySem.Spec PyProof.Rows
end DL
set_option Elab.async false
set_option linter.all false
set_option maxRecDepth 100000
set_option maxHeartbeats 2000000
namespace DSX
open PySem PySem.W PySem.Spec PySem.Calls PyProof.Rows L2
abbrev exE (C t0 : Addr) (d : Option Addr) : Obj := { cls := .ref C, dict := d, data := .fields #[.ref t0, .none, .none, .none, .bool false, .none] }
abbrev supBody (p0 p1 p2 p3 p4 p5 p6 p7 p8 p9 : Pos) (txt : Str) (j : Nat) (fx px : Str) : List Stmt :=
  [.Expr (.Call (.Attribute (.Call (.Name "super" p0) [] [] p1) "__init__" p2) [.Constant (.str txt) j p3] [] p4) p5, .Assign [.Attribute (.Name "self" p6) fx p7] (.Name px p8) p9]
section
variable {prog : Program} {w : World} {A : Around} {E : Value → Shared → Prop} {K : Frag} {mg mb : Str → Option Value} {R : Result → Shared → Prop} {h : Heap} {g : Array GenState} {dr : Drawn} {tk : Nat} {os : OsState}
/-- ValueError.__init__ bound to the exception, called -/
theorem call_mw {u x C t0 : Addr} {rest : List Value} {nm q : Str} {N : Addr} {bs bm : List Value} {hdct : Bool} {sn : List Str} {sub : List Value} {ab : Bool} {col : Option Bool} {dd : Option Addr} {k0 k1 k2 k3 k5 : Option Value} {Q : Value → Shared → Prop}
    (hC : h.get? C = some (excClassObj nm q C N bs bm hdct sn sub ab col dd k0 k1 k2 k3 k5 "ValueError.__new__")) (hx : h.get? x = some (exE C t0 none)) (hu : h.get? u = some (kxs_mw "ValueError.__init__" x)) (hz : rest.length ≤ sizeLine)
    (hq : ∀ h' t1, (∀ b o, b ≠ x → h.get? b = some o → h'.get? b = some o) → h'.get? x = some (exE C t1 none) → Q .none ⟨h', g, dr, tk, os⟩) :
    wpAny (model prog w) A (call (.ref u) rest) Q E ⟨h, g, dr, tk, os⟩ := by
  refine wpAny_call (codeAny_of_tree ?_)
  show wpAny _ A.in1 (callAny (.ref u) ⟨rest, []⟩) _ _ _
  simp only [callAny]
  refine wpAny_bind (wpAny_load hu ?_)
  simp only [kxs_mw, show (Value.type "method-wrapper" == Value.type "method" || Value.type "method-wrapper" == Value.type "builtin_function_or_method" || Value.type "method-wrapper" == Value.type "method-wrapper") = true by decide, if_true]
  refine KFB.if_so (by decide) ?_
  refine wpAny_bind (check_bound_init F.excBase_ValueError.toExcCallFacts hC hx rfl ?_)
  refine wpAny_bind (wpAny_pure (wpAny_pure ?_))
  refine ⟨plainId_quiet F.excBase_ValueError.init.plain _, codeAny_builtin F.excBase_ValueError.initEntry ?_⟩
  rw [Around.under_plainId F.excBase_ValueError.init.plain _]
  wp_walk
  refine hq _ h.objs.size (fun b o hb ho => ?_) ?_
  · rw [Heap.get?_update_other _ _ (Ne.symm hb)]
    exact Heap.get?_push_of_some _ ho
  · rw [Heap.get?_update_self _ (Heap.get?_push_of_some _ hx) rfl]
    rfl
/-- what the written part says of the class -/
structure SupC (prog : Program) (K : Frag) (mg : Str → Option Value) (C fI : Addr) (fd : FuncData) : Prop where
  oex : L2.OexC K C
  iC : findIn K (.ref C) "__init__" = some (some (.ref fI))
  tI : typeIn K (.ref fI) = some (.type "function")
  subC : mroIn K C (.ref C) = some true
  subV : subIn K (.ref C) (.type "ValueError") = some true
  supr : ks_superIn K C C "__init__" = some (some (.builtin "ValueError.__init__"))
  opq : nsIn K cStatics "thirdparty.any" = some none
  mgS : mg "super" = none
  fn : ∃ (p0 p1 p2 p3 p4 p5 p6 p7 p8 p9 : Pos) (txt : Str) (j : Nat) (fx px name qual file : Str) (tf : Tok) (params : Arguments) (scope : Scope) (dV kV doc pm ct oc ccl cl : Value) (an od cdd cld : Option Addr) (osl ccs csl : Array (Option Value)) (vs : Array Value) (cc cda : Addr) (ar : Arg),
    fd = ksFn name qual params (supBody p0 p1 p2 p3 p4 p5 p6 p7 p8 p9 txt j fx px) scope dV kV doc pm an (.ref cda) ct cc ∧
    K.lookup fI = some ⟨oc, od, .func fd, osl⟩ ∧ codeIn K (.ref cda) qual = true ∧ K.lookup cda = some ⟨ccl, cdd, .fields vs, ccs⟩ ∧ vs[2]? = some (.str file tf) ∧ ((prog.main.file : Str) == file) = true ∧
    K.lookup cc = some ⟨cl, cld, .cell (some (.ref C)), csl⟩ ∧ (params.posonlyargs ++ params.args).head? = some ar ∧ ar.arg = "self" ∧ px ≠ "self" ∧ findIn K (.ref C) fx = some none ∧
    scope.names.lookup ("super" : Str) = some .globalImplicit ∧ scope.names.lookup ("__class__" : Str) = some .free ∧ scope.names.lookup ("self" : Str) = some .local ∧ scope.names.lookup px = some .local ∧ (∀ x ∈ scope.names, x.2 ≠ .cell) ∧
    scope.isCoroutine = false ∧ scope.isGenerator = false ∧ scope.kind = .function ∧ (prog.main.scope.names.lookup ("super" : Str)).isSome = false ∧ (px == ("__debug__" : Str)) = false ∧ (p2.endLine == p4.line) = true ∧
    (∀ (s : Shared) (a u : Value), BindsTo s fd ⟨[a, u], []⟩ [("self", a), (px, u)])
end
end DSX
namespace DSX
open PySem PySem.W PySem.Spec PySem.Calls PyProof.Rows L2
section
variable {prog : Program} {w : World} {A : Around} {E : Value → Shared → Prop} {K : Frag} {mg mb : Str → Option Value} {R : Result → Shared → Prop} {h : Heap} {g : Array GenState} {dr : Drawn} {tk : Nat} {os : OsState}
theorem ld_loc {M : Model} {s : Shared} {env : Env} {m : Str → Option Value} {x : Str} {pos : Pos} {v : Value} {Q : Value → Shared → Prop} (hn : s.heap.Ns env.locals m) (hv : m x = some v) (h : Q v s)
    (hk : env.scope.kind = .function) (hl : env.kindOf x = some .local) (hd : (x == ("__debug__" : Str)) = false) : wpAny M A (eval (.Name x pos) env) Q E s := wpAny_Name (wpAny_loadName_local hk hl hn hv h) hd
theorem he_of {env : Env} {o e : Expr} {name : Str} {apos pos : Pos} (hl : (apos.endLine == pos.line) = true) (hs : starEach [e] env = [(false, eval e env)]) :
    eval (.Call (.Attribute o name apos) [e] [] pos) env = (do
      let ov ← attributeBase o name env (eval o env)
      standAt apos.atName
      let (f, first) ← holding [ov] (getMethod ov name (do return (← importBound o env).getD true))
      callWith pos f first (backTo pos (starEach [e] env)) []) := by
  rw [arm_eval_Call]
  have hf : methodCallForm ([e].length + ([] : List Keyword).length) (backTo pos (starEach [e] env)) (backToKw pos (keywordEach [] env)) = true := by rw [hs]; rfl
  unfold methodCall calleeOf methodCallPos
  rw [hf]
  simp only [hl, if_true, Bool.not_true, Bool.or_true, pure_bind]
  rfl
theorem sup_code {C fI x t0 : Addr} {fd : FuncData} {u : Value} (T : SupC prog K mg C fI fd) (X : K.In h) (glob : h.Ns mainGlobals mg) (blt : h.Ns builtinsNs mb) (hmb : ∀ y : Str, y ≠ "__name__" → mb y = bootBuiltins y) (lim : h.NoLimit) (hroom : A.depth < recursionLimit)
    (hx : h.get? x = some (exE C t0 none)) (hKx : K.lookup x = none)
    (hq : ∀ h' tk' d t1, (∀ b o, b ≠ x → h.get? b = some o → h'.get? b = some o) → h'.get? x = some (exE C t1 (some d)) → R (.ok (.ret .none)) ⟨h', g, dr, tk', os⟩) :
    codeAny (model prog w) A (.call (.ref fI) ⟨[.ref x, u], []⟩) R ⟨h, g, dr, tk, os⟩ := by
  obtain ⟨p0, p1, p2, p3, p4, p5, p6, p7, p8, p9, txt, j, fx, px, name, qual, file, tf, params, scope, dV, kV, doc, pm, ct, oc, ccl, cl, an, od, cdd, cld, osl, ccs, csl, vs, cc, cda, ar, rfl, lk, hcd, lcd, hvs, hfile, hcell, hp, hself, hps, noF, ks, kc, ksf, kp, hnc, hco, hgen, hk, htop, hdb, hline, hbind⟩ := T.fn
  obtain ⟨nm, q, N, bs, bm, sn, sub, ab, col, dd, k0, k1, k2, k3, k5, hC, hbm⟩ := T.oex.cls
  have hcl : clsIn K C = some { name := nm, bases := bs, mro := .ref C :: bm, ns := N, qualname := q, hasDict := true, slotNames := sn, subclasses := sub, abstract := ab, collection := col, hasDel := false } := by unfold clsIn; rw [hC] <;> rfl
  have xC : x ≠ C := fun z => by
    rw [z, X _ _ hC] at hx
    cases hx
  refine ks_codeAny_call_defAt (s := ⟨h, g, dr, tk, os⟩) hroom (X _ _ lk) rfl lim (codeRec_of X hcd) rfl (hbind _ _ _) hnc (fun y hy => ?_) (fun h₁ hns hk₁ => ?_) hco hgen hk
  · simp only [List.mem_cons, List.not_mem_nil, or_false] at hy
    rcases hy with rfl | rfl
    · exact ksf
    · exact kp
  have X1 : K.In h₁ := X.keeps hk₁
  have hx1 := hk₁ _ _ hx
  refine ks_wpAt_execs_cons (ks_wpAt_Expr_any (hi := by simp [interactive, callEnv, newEnv, hk]) (ks_wpAt_MethodCall (he := he_of hline rfl) (ks_wpAt_super_base (cc := cda) ks kc (by decide) rfl (hk₁ _ _ (X _ _ lk)) rfl hp rfl (hk₁ _ _ (X _ _ lcd)) rfl hvs hfile htop ?_)))
  refine ks_loadName_global hk ks (loadGlobal_builtin (glob.keeps hk₁) T.mgS (blt.keeps hk₁) ((hmb _ (by decide)).trans (by rfl)) ⟨rfl, ?_⟩)
  refine wpAny_loadName_free hk kc rfl ⟨_, hk₁ _ _ (X _ _ hcell), rfl⟩ ?_
  rw [hself]
  have hvs1 : ([(("self" : Str), Value.ref x), (px, u)] : List (Str × Value)).reverse.lookup ("self" : Str) = some (Value.ref x) := by
    show (match (("self" : Str) == px) with | true => some u | false => List.lookup ("self" : Str) [(("self" : Str), Value.ref x)]) = _
    rw [show (("self" : Str) == px) = false from beq_eq_false_iff_ne.mpr (Ne.symm hps)]
    rfl
  have hvs2 : ([(("self" : Str), Value.ref x), (px, u)] : List (Str × Value)).reverse.lookup px = some u := by
    show (match (px == px) with | true => some u | false => List.lookup px [(("self" : Str), Value.ref x)]) = _
    rw [beq_self_eq_true px]
  refine wpAny_loadName_local hk ksf hns (v := .ref x) hvs1 ?_
  refine ks_wpAny_isType_cls (hk₁ _ _ (X _ _ hC)) rfl ⟨rfl, ?_⟩
  refine ks_wpAny_call_super (hk₁ _ _ (X _ _ hC)) rfl hx1 rfl (fun c z => by cases z) (looks_mroIn X1 T.subC) (fun h₂ e₂ k₂ => ?_)
  have X2 : K.In h₂ := X1.keeps k₂
  have hx2 := k₂ _ _ hx1
  have I2 : InstAt h₂ x (exE C t0 none) C none := ⟨hx2, rfl, rfl, trivial⟩
  have hsup := T.supr
  unfold ks_superIn at hsup
  rw [hcl] at hsup
  refine kxs_getMethod kxs_ValueError e₂ (looks_opaque X2 T.opq) (fun A Q E s k q => wpAny_bind ((looks_clsIn X2 hcl) A _ E s k (wpAny_pure q))) rfl X2 hsup (I2.type.andThen (looks_subIn X2 T.subV)) xC (by decide) ?_
  have k3 : ∀ b o, h₂.get? b = some o → (h₂.push (kxs_mw "ValueError.__init__" x)).get? b = some o := fun b o e => Heap.get?_push_of_some _ e
  have hu3 : (h₂.push (kxs_mw "ValueError.__init__" x)).get? h₂.objs.size = some (kxs_mw "ValueError.__init__" x) := Heap.get?_push_size _ rfl
  refine kxs_callWith (i := "ValueError.__init__") (x := x) rfl (evalArgs_plain (args_cons (Calls.Constant_str (args_nil ⟨hu3, ?_⟩)) rfl))
  refine call_mw (k3 _ _ (k₂ _ _ (hk₁ _ _ (X _ _ hC)))) (k3 _ _ hx2) hu3 (by show 1 ≤ sizeLine; rw [sizeLine_eq]; omega) fun h₄ t1 k₄ hx4 => ?_
  have kk4 : ∀ b o, b ≠ x → h.get? b = some o → h₄.get? b = some o := fun b o hb e => k₄ b o hb (k3 _ _ (k₂ _ _ (hk₁ _ _ e)))
  have X4 : K.In h₄ := fun b o e => by
    by_cases hb : b = x
    · rw [hb, hKx] at e
      cases e
    · exact kk4 b o hb (X _ _ e)
  have hLx : h.objs.size ≠ x := Ne.symm (Nat.ne_of_lt (Heap.lt_size hx))
  have hns4 : h₄.Ns h.objs.size (fun y => ([(("self" : Str), Value.ref x), (px, u)] : List (Str × Value)).reverse.lookup y) := hns.at fun o e => k₄ _ _ hLx (k3 _ _ (k₂ _ _ e))
  show _root_.PySem.wpAt _ _ _ (execs [_] _) _ _ _
  refine ks_wpAt_execs_cons (ks_wpAt_Assign_Attr (wpAt_of_wpAny (ld_loc hns4 hvs2 (ld_loc hns4 hvs1 ?_ hk ksf (by decide)) hk kp hdb)))
  refine set_plain X4 (ox := exE C t1 none) (od := none) ⟨hx4, rfl, rfl, trivial⟩ T.oex.sa ?_
  refine HandSPX.exc_osa X4 hx4 hcl (show HandSPX.refsVE (.ref C :: bm) = true from hbm) rfl noF fun h' tk' dx k dn dne hx' hn => ?_
  show _root_.PySem.wpAt _ _ _ (execs [] _) _ _ _
  rw [execs_nil]
  exact wpAt_of_wpAny (wpAny_pure (hq h' _ dx t1 (fun b o hb e => k b o hb (kk4 b o hb e)) hx'))
end
end DSX
set_option Elab.async false
set_option linter.all false
set_option maxRecDepth 100000
set_option maxHeartbeats 2000000
namespace DL
open PySem L2 PySem.Spec PyProof.Rows DSX
def errES (c : Exc) (f : LE → R D) : LE → R Out := fun r => (f r).onS r fun _ => .ok (.ex c r)
section
variable {X : Cx} {G : Gm} {W : WX} {e : Expr} {f : LE → R D} {te : TE} {p p1 pos : Pos} {x : Str} {C fI : Addr} {fd : FuncData} {k : Nat}
theorem pmk_sup (T : SupC X.prog X.K X.mg C fI fd) (hr : L2H.RoomH (k + 1) X.A) (hg : Gl X x) (hm : X.mg x = some (.ref C)) (he : PE X e te)
    (hdb : (x == ("__debug__" : Str)) = false := by decide) (hs : starEach [e] X.env = (false, eval e X.env) :: starEach [] X.env := by rfl) (hpl : (backTo pos (starEach [] X.env)).any (·.1) = false := by rfl) :
    L2N.PMk X (.Call (.Name x p) [e] [] pos) (fun σ H Q => te σ H fun _ H1 => ∀ d, Q (.ref C) (some d) H1) := by
  intro pins s σ H Q I h
  obtain ⟨nm, q, N, bs, bm, sn, sub, ab, col, dd, k0, k1, k2, k3, k5, hC, hbm⟩ := T.oex.cls
  refine wpAny_Call_Name_kw (ld_glob I hg hm ?_ hdb)
  refine PySem.W.callWith_K (h₀ := X.base) I.ok.mod.kin T.oex.kC (args_cons (thn (he.run pins s σ H _ I h) fun u s1 hu => args_nil ?_) hs) hs hpl
  obtain ⟨v, H1, I1, r1, q1⟩ := hu
  refine ⟨I1.kIn, ?_⟩
  show wpAny _ _ (call (.ref C) [u]) _ _ _
  obtain ⟨mb, hb1, hb2⟩ := I1.mod.blt
  have hglob := I1.mod.glob.keeps I1.bk
  have hblt := hb1.keeps I1.bk
  have hlim := I1.mod.nolimit.keeps I1.bk
  obtain ⟨hp, g, dr, tk, os⟩ := s1
  have hsz : hp.objs.size ≤ hp.objs.size + 1 := Nat.le_succ _
  have hn : H1 (hp.objs.size + 1) = none := I1.hok.fresh hsz
  have kk : ∀ b o, hp.get? b = some o → ((hp.push (PySem.W.kdv_tup [u])).push (PySem.HandSPX.excO C hp.objs.size)).get? b = some o := fun b o e => Heap.get?_push_of_some _ (Heap.get?_push_of_some _ e)
  have hget : ((hp.push (PySem.W.kdv_tup [u])).push (PySem.HandSPX.excO C hp.objs.size)).get? (hp.objs.size + 1) = some (exE C hp.objs.size none) := by
    show _ = some (PySem.HandSPX.excO C hp.objs.size)
    heap_get
  have nlt : ∀ {b : Addr} {o : Obj}, hp.get? b = some o → b ≠ hp.objs.size + 1 := fun {b o} z y => by
    have := Heap.lt_size z
    rw [y] at this
    exact absurd this (Nat.not_lt.mpr (Nat.le_succ _))
  have hK : X.K.lookup (hp.objs.size + 1) = none := by
    cases z : X.K.lookup (hp.objs.size + 1) with
    | none => rfl
    | some o => exact absurd rfl (nlt (I1.kIn _ _ z))
  refine wpAny_call (PySem.HandSPX.call_own F.excBase_ValueError (fun Y => PySem.HandSPX.refsVE_contains Y bm hbm) (I1.kIn _ _ hC) (PySem.W.looks_findIn I1.kIn T.iC) (fun self => PySem.W.bind_fn I1.kIn self T.tI) (by show 1 ≤ sizeLine; rw [sizeLine_eq]; omega)
    (sup_code T (I1.kIn.keeps kk) (hglob.keeps kk) (hblt.keeps kk) hb2 (hlim.keeps kk) (hr.make C [u] []).depth hget hK fun h' tk' d t1 k' hx' => ?_))
  refine ⟨rfl, ?_⟩
  exact ⟨hp.objs.size + 1, exE C t1 (some d), _, ⟨hp, g, dr, tk, os⟩, H1, .ref C, some d, rfl, I1, fun b o z => k' b o (nlt z) (kk b o z), by
    cases z : hp.get? (hp.objs.size + 1) with
    | none => rfl
    | some o => exact absurd rfl (nlt z), hx', ⟨rfl, rfl, fun vs e => by cases e; rfl⟩, rfl, rfl, hn, rfl, I1.bare, raises_own T.oex.exC T.oex.tyC, q1 d⟩
theorem ds_raiseX (c : Nat) (tk : Takes X W) (hc : X.calm = true) (T : SupC X.prog X.K X.mg (G.xcls c) fI fd) (hx : G.xfld c = none) (hb : G.bare c = false) (hr : Room (k + 1) X.A) (gC : X.mg x = some (.ref (G.xcls c))) (he : DE X G W e f)
    (hg : Gl X x := by rfl) (hdb : (x == ("__debug__" : Str)) = false := by decide) (hs : starEach [e] X.env = (false, eval e X.env) :: starEach [] X.env := by rfl) (hpl : (backTo p1 (starEach [] X.env)).any (·.1) = false := by rfl) :
    DS X G W (.Raise (some (.Call (.Name x p) [e] [] p1)) none pos) (errES ⟨c, .non⟩ f) :=
  PS_imp (LG.ps_raise hc tk (pmk_sup T (L2H.roomH_of hr) hg gC he hdb hs hpl)) fun De sg H ⟨dl, Z, O, r, A, q⟩ =>
    ⟨dl, Z, O, r, A, (onS_wp q).mono (fun d hd v H1 g1 k1 rp dx => hd Z O sg H1 _ (some dx) (Stp.of_grow g1 k1) (A.grow g1 k1) ⟨rfl, by rw [hx]; exact ⟨rfl, fun z => by rw [hb] at z; cases z⟩⟩) fun e he => spost_ex A he⟩
theorem ds_raiseXH (c : Nat) (tk : Takes X W) (hc : LG.HotG X) (T : SupC X.prog X.K X.mg (G.xcls c) fI fd) (hx : G.xfld c = none) (hb : G.bare c = false) (hr : L2H.RoomH (k + 1) X.A) (gC : X.mg x = some (.ref (G.xcls c))) (he : DE X G W e f)
    (hg : Gl X x := by rfl) (hdb : (x == ("__debug__" : Str)) = false := by decide) (hs : starEach [e] X.env = (false, eval e X.env) :: starEach [] X.env := by rfl) (hpl : (backTo p1 (starEach [] X.env)).any (·.1) = false := by rfl) :
    DS X G W (.Raise (some (.Call (.Name x p) [e] [] p1)) none pos) (errES ⟨c, .non⟩ f) :=
  PS_imp (LG.ps_raiseG hc tk (pmk_sup T hr hg gC he hdb hs hpl)) fun De sg H ⟨dl, Z, O, r, A, q⟩ =>
    ⟨dl, Z, O, r, A, (onS_wp q).mono (fun d hd v H1 g1 k1 rp dx => hd Z O sg H1 _ (some dx) (Stp.of_grow g1 k1) (A.grow g1 k1) ⟨rfl, by rw [hx]; exact ⟨rfl, fun z => by rw [hb] at z; cases z⟩⟩) fun e he => spost_ex A he⟩
end
end DL
set_option Elab.async false
set_option linter.all false
set_option maxRecDepth 100000
set_option maxHeartbeats 2000000
namespace DSX
open PySem PySem.W PySem.Spec PySem.Calls PyProof.Rows L2 DL
def supCls (K : Frag) (C : Addr) : Bool := match K.lookup C with
  | some ⟨.type "type", _, .cls cd, sl⟩ => (match cd.mro, sl.toList with
    | .ref C' :: bm, [_, _, _, _, some (.builtin n), _] => C' == C && n == "ValueError.__new__" && !cd.hasDel && cd.hasDict && HandSPX.refsVE bm
    | _, _ => false)
  | _ => false
theorem supCls_of {K : Frag} {C : Addr} (q : supCls K C = true) : ∃ nm q N bs bm sn sub ab col dd k0 k1 k2 k3 k5, K.lookup C = some (excClassObj nm q C N bs bm true sn sub ab col dd k0 k1 k2 k3 k5 "ValueError.__new__") ∧ HandSPX.refsVE bm = true := by
  unfold supCls at q
  split at q
  · rename_i dd cd sl ho
    split at q
    · rename_i C' bm k0 k1 k2 k3 n k5 hm hs
      simp only [Bool.and_eq_true, beq_iff_eq, Bool.not_eq_true'] at q
      obtain ⟨⟨⟨⟨rfl, rfl⟩, hdel⟩, hd⟩, ht⟩ := q
      obtain ⟨nm, bs, mro, ns, qn, hd', sn, sub, ab, col, del⟩ := cd
      dsimp only at hm hdel hd
      subst hm hdel hd
      have hsl : sl = #[k0, k1, k2, k3, some (.builtin "ValueError.__new__"), k5] := by
        obtain ⟨l⟩ := sl
        simp only at hs
        rw [hs]
      subst hsl
      exact ⟨nm, qn, ns, bs, bm, sn, sub, ab, col, dd, k0, k1, k2, k3, k5, ho, ht⟩
    · cases q
  · cases q
theorem supC_of {prog : Program} {K : Frag} {mg : Str → Option Value} {C fI cc cda : Addr} {st : Stmt} {qual fx px file txt : Str} {p0 p1 p2 p3 p4 p5 p6 p7 p8 p9 : Pos} {j : Nat} {kV doc pm ct oc ccl cl : Value} {an od cdd cld : Option Addr} {osl ccs csl : Array (Option Value)} {vs : Array Value} {tf : Tok} {ar : Arg}
    (hcls : supCls K C = true) (sa : findIn K (.ref C) "__setattr__" = some (some (.builtin "object.__setattr__"))) (exC : subIn K (.ref C) (.type "BaseException") = some true) (tyC : typeIn K (.ref C) = some (.type "type")) (kC : keepIn K (.ref C) = true)
    (iC : findIn K (.ref C) "__init__" = some (some (.ref fI))) (tI : typeIn K (.ref fI) = some (.type "function")) (subC : mroIn K C (.ref C) = some true) (subV : subIn K (.ref C) (.type "ValueError") = some true) (supr : ks_superIn K C C "__init__" = some (some (.builtin "ValueError.__init__")))
    (opq : nsIn K cStatics "thirdparty.any" = some none) (mgS : mg "super" = none)
    (lk : K.lookup fI = some ⟨oc, od, .func (ksFn "__init__" qual (defArgs st) (defBody st) (defScope st) .none kV doc pm an (.ref cda) ct cc), osl⟩) (hcd : codeIn K (.ref cda) qual = true) (lcd : K.lookup cda = some ⟨ccl, cdd, .fields vs, ccs⟩) (hvs : vs[2]? = some (.str file tf)) (hfile : ((prog.main.file : Str) == file) = true)
    (hcell : K.lookup cc = some ⟨cl, cld, .cell (some (.ref C)), csl⟩) (noF : findIn K (.ref C) fx = some none) (htop : (prog.main.scope.names.lookup ("super" : Str)).isSome = false)
    (hb : defBody st = supBody p0 p1 p2 p3 p4 p5 p6 p7 p8 p9 txt j fx px) (hp : ((defArgs st).posonlyargs ++ (defArgs st).args).head? = some ar) (hself : ar.arg = "self") (hps : px ≠ "self")
    (ks : (defScope st).names.lookup ("super" : Str) = some .globalImplicit) (kc : (defScope st).names.lookup ("__class__" : Str) = some .free) (ksf : (defScope st).names.lookup ("self" : Str) = some .local) (kp : (defScope st).names.lookup px = some .local)
    (hnc : ∀ x ∈ (defScope st).names, x.2 ≠ .cell) (hco : (defScope st).isCoroutine = false) (hgen : (defScope st).isGenerator = false) (hk : (defScope st).kind = .function) (hdb : (px == ("__debug__" : Str)) = false) (hline : (p2.endLine == p4.line) = true)
    (hbind : ∀ us : List Value, us.length = 2 → bindArgs (ksFn "__init__" qual (defArgs st) (defBody st) (defScope st) .none kV doc pm an (.ref cda) ct cc) ⟨us, []⟩ = pure ([("self" : Str), px].zip us)) :
    ∃ fI fd, SupC prog K mg C fI fd := by
  refine ⟨fI, _, ⟨⟨supCls_of hcls, sa, exC, tyC, kC⟩, iC, tI, subC, subV, supr, opq, mgS,
    ⟨p0, p1, p2, p3, p4, p5, p6, p7, p8, p9, txt, j, fx, px, "__init__", qual, file, tf, defArgs st, defScope st, .none, kV, doc, pm, ct, oc, ccl, cl, an, od, cdd, cld, osl, ccs, csl, vs, cc, cda, ar, by rw [← hb], lk, hcd, lcd, hvs, hfile, hcell, hp, hself, hps, noF, ks, kc, ksf, kp, hnc, hco, hgen, hk, htop, hdb, hline, fun s a u => .of_eq (hbind [a, u] rfl)⟩⟩⟩
end DSX
namespace DL
open PySem L2 PySem.Spec PyProof.Rows DSX
section
variable {X : Cx} {G : Gm} {W : WX} {e : Expr} {f : LE → R D} {p p1 pos : Pos} {x : Str}
theorem ds_raiseS (c : Nat) (tk : Takes X W) (hc : X.calm = true) (T : ∃ fI fd, SupC X.prog X.K X.mg (G.xcls c) fI fd) (hx : G.xfld c = none) (hr : Room 1 X.A) (gC : X.mg x = some (.ref (G.xcls c))) (he : DE X G W e f)
    (hg : Gl X x := by rfl) (hdb : (x == ("__debug__" : Str)) = false := by decide) (hs : starEach [e] X.env = (false, eval e X.env) :: starEach [] X.env := by rfl) (hpl : (backTo p1 (starEach [] X.env)).any (·.1) = false := by rfl) (hb : G.bare c = false := by rfl) :
    DS X G W (.Raise (some (.Call (.Name x p) [e] [] p1)) none pos) (errES ⟨c, .non⟩ f) := by
  obtain ⟨fI, fd, T⟩ := T
  exact ds_raiseX (k := 0) c tk hc T hx hb hr gC he hg hdb hs hpl
theorem ds_raiseSH (c : Nat) (tk : Takes X W) (hc : LG.HotG X) (T : ∃ fI fd, SupC X.prog X.K X.mg (G.xcls c) fI fd) (hx : G.xfld c = none) (hr : L2H.RoomH 1 X.A) (gC : X.mg x = some (.ref (G.xcls c))) (he : DE X G W e f)
    (hg : Gl X x := by rfl) (hdb : (x == ("__debug__" : Str)) = false := by decide) (hs : starEach [e] X.env = (false, eval e X.env) :: starEach [] X.env := by rfl) (hpl : (backTo p1 (starEach [] X.env)).any (·.1) = false := by rfl) (hb : G.bare c = false := by rfl) :
    DS X G W (.Raise (some (.Call (.Name x p) [e] [] p1)) none pos) (errES ⟨c, .non⟩ f) := by
  obtain ⟨fI, fd, T⟩ := T
  exact ds_raiseXH (k := 0) c tk hc T hx hb hr gC he hg hdb hs hpl
end
end DL
set_option Elab.async false
set_option linter.all false
set_option maxRecDepth 100000
set_option maxHeartbeats 2000000
namespace DL
open PySem L2 PySem.Spec PyProof.Rows
end DL
set_option Elab.async false
set_option linter.all false
set_option maxRecDepth 100000
set_option maxHeartbeats 2000000
namespace DL
open PySem L2 PySem.Spec PyProof.Rows
end DL
set_option Elab.async false
set_option linter.all false
set_option maxRecDepth 100000
set_option maxHeartbeats 1000000
namespace DL
open PySem L2 LamX PySem.Spec PyProof.Rows
/-- one parameter a, no other name of its own; a may be captured -/
structure LamP (sc scope : Scope) (a : Str) : Prop where
  kind : scope.kind = .function
  co : scope.isCoroutine = false
  gen : scope.isGenerator = false
  own : ∀ y ∈ scope.names, y.2 = .local ∨ y.2 = .cell → y.1 = a
  free : ∀ y ∈ scope.names, y.2 = .free → sc.names.lookup y.1 = some .cell ∨ sc.names.lookup y.1 = some .free
  par : (scope.names.lookup a = some .local ∧ ∀ y ∈ scope.names, y.2 ≠ .cell) ∨ (scope.names.lookup a = some .cell ∧ (scope.names.filter fun y => decide (y.2 = .cell)) = [(a, .cell)])
section
variable {X : Cx} {pins : List (Addr × Obj)} {σ : L2.St} {H : Hp} {s : Shared}
theorem LamP.has {scope : Scope} {a : Str} (L : LamP X.env.scope scope a) (ok : X.Ok) : ∀ y ∈ scope.names, y.2 = .free → ∃ c, X.env.cells.lookup y.1 = some c := fun y hy e =>
  (L.free y hy e).elim (fun k => ok.has _ (.inl k)) fun k => ok.has _ (.inr k)
end
end DL
set_option Elab.async false
set_option linter.all false
set_option maxRecDepth 100000
set_option maxHeartbeats 1000000
namespace DL
open PySem L2 LamX PySem.Spec PyProof.Rows
end DL
set_option Elab.async false
set_option linter.all false
set_option maxRecDepth 100000
set_option maxHeartbeats 1000000
namespace DL
open PySem L2 LamX PySem.Spec PyProof.Rows
end DL
set_option Elab.async false
set_option linter.all false
set_option maxRecDepth 100000
set_option maxHeartbeats 1000000
namespace DL
open PySem L2 LamX PySem.Spec PyProof.Rows
end DL
set_option Elab.async false
set_option linter.all false
set_option maxRecDepth 100000
set_option maxHeartbeats 1000000
namespace DL
open PySem L2 LamX PySem.Spec PyProof.Rows
end DL
set_option Elab.async false
set_option linter.all false
set_option maxRecDepth 100000
set_option maxHeartbeats 1000000
namespace DL
open PySem L2 LamX PySem.Spec PyProof.Rows
end DL
set_option Elab.async false
set_option linter.all false
set_option maxRecDepth 100000
set_option maxHeartbeats 1000000
namespace DL
open PySem L2 LamX PySem.Spec PyProof.Rows
end DL
set_option Elab.async false
set_option linter.all false
set_option maxRecDepth 100000
set_option maxHeartbeats 1000000
namespace DL
open PySem L2 PySem.Spec PyProof.Rows
end DL
set_option Elab.async false
set_option linter.all false
set_option maxRecDepth 100000
set_option maxHeartbeats 1000000
namespace DL
open PySem L2 PySem.Spec PyProof.Rows
end DL
set_option Elab.async false
set_option linter.all false
set_option maxRecDepth 100000
set_option maxHeartbeats 1000000
namespace DL
open PySem L2 PySem.Spec PyProof.Rows
end DL
set_option Elab.async false
set_option linter.all false
set_option maxRecDepth 100000
namespace DL
open PySem L2 PySem.Spec PyProof.Rows
section
variable {X : Cx} {G : Gm} {W : WX} {a : Expr} {f : LE → R D} {pos p' : Pos} {j : Nat}
theorem dt_isN (ha : DP X G W a f) : DT X G W (.Compare a [.Is] [.Constant .none j p'] pos) (fun r => isNE f r >>= asB) :=
  PT_imp (pt_cmp (pc_isN ha) (by rfl)) fun sg H Q h => tT_of (fun sg H Q ⟨dl, Z, O, r, A, q⟩ => ⟨dl, Z, O, r, A, q.bind.thn fun d hd v H1 g1 k1 rp => isNone_rep rp hd _ H1 g1 k1 Rep.bl_⟩) h
theorem dt_notN (ha : DP X G W a f) : DT X G W (.Compare a [.IsNot] [.Constant .none j p'] pos) (fun r => notNE f r >>= asB) :=
  PT_imp (pt_cmp (pc_notN ha) (by rfl)) fun sg H Q h => tT_of (fun sg H Q ⟨dl, Z, O, r, A, q⟩ => ⟨dl, Z, O, r, A, q.bind.thn fun d hd v H1 g1 k1 rp => isNone_rep rp hd.bind _ H1 g1 k1 Rep.bl_⟩) h
end
end DL
set_option Elab.async false
set_option linter.all false
set_option maxRecDepth 100000
set_option maxHeartbeats 2000000
namespace DL
open PySem L2 PySem.Spec PyProof.Rows
def repD (s : List Nat) : Nat → List Nat
  | 0 => []
  | n + 1 => s ++ repD s n
end DL
set_option Elab.async false
set_option linter.all false
set_option maxRecDepth 100000
set_option maxHeartbeats 2000000
namespace DL
open PySem L2 LamX PySem.Spec PyProof.Rows PySem.W
end DL
set_option Elab.async false
set_option linter.all false
set_option maxRecDepth 100000
set_option maxHeartbeats 1000000
namespace DL
open PySem L2 LamX PySem.Spec PyProof.Rows PySem.W
section
variable {G : Gm} {dl : Addr} {S : Hp}
theorem RepL.pairs {β : Type} {f : β → D} {g : β → V} : ∀ {l : List β}, (∀ z ∈ l, Rep G dl S (f z) (g z)) → RepL G dl S (l.map f) (l.map g)
  | [], _ => RepL.nil
  | z :: l, h => RepL.cons (h z List.mem_cons_self) (RepL.pairs fun y hy => h y (List.mem_cons_of_mem _ hy))
end
end DL
set_option Elab.async false
set_option linter.all false
set_option maxRecDepth 100000
set_option maxHeartbeats 2000000
namespace DSX
open PySem PySem.W PySem.Spec PySem.Calls PyProof.Rows L2
end DSX
namespace DSX
open PySem PySem.W PySem.Spec PySem.Calls PyProof.Rows L2
end DSX
namespace DL
open PySem L2 PySem.Spec PyProof.Rows DSX
end DL
namespace DSX
open PySem PySem.W PySem.Spec PySem.Calls PyProof.Rows L2 DL
end DSX
namespace DL
open PySem L2 PySem.Spec PyProof.Rows DSX
end DL
set_option Elab.async false
set_option linter.all false
set_option maxRecDepth 100000
set_option maxHeartbeats 2000000
namespace DL
open PySem L2 PySem.Spec PyProof.Rows
inductive Src where
  | l (a : Addr)
  | t (a : Addr)
  | s (x : Str)
def Src.val : Src → V
  | .l a => .ref a
  | .t a => .ref a
  | .s x => .str x
def Src.at_ (K : PySem.W.Frag) (H : Hp) : Src → List V → Prop
  | .l a, vs => SqL K H a vs
  | .t a, vs => SqT K H a vs
  | .s x, vs => vs = signsV x
/-- its iterator at the address it, i items gone -/
def Src.it (h : Heap) (it : Addr) (i : Nat) : Src → Prop
  | .l a => h.IsListIter it a i ∧ a < it
  | .t a => h.IsTupleIter it a i ∧ a < it
  | .s x => ∃ t, h.IsStrIter it (strIterType x) x t i
def Src.fp : Src → List Addr
  | .l a => [a]
  | .t a => [a]
  | .s _ => []
theorem Src.it_at {h h' : Heap} {it : Addr} {i : Nat} : ∀ {S : Src}, S.it h it i → (∀ o, h.get? it = some o → h'.get? it = some o) → S.it h' it i
  | .l a, ⟨e, n⟩, k => ⟨e.at k, n⟩
  | .t a, ⟨e, n⟩, k => ⟨e.at k, n⟩
  | .s x, ⟨tk, o, e, r⟩, k => ⟨tk, o, k _ e, r⟩
theorem Src.it_obj {h : Heap} {it : Addr} {i : Nat} : ∀ {S : Src}, S.it h it i → ∃ o, h.get? it = some o ∧ ∀ v, o.data ≠ .cell v
  | .l a, ⟨⟨o, e, _, d⟩, _⟩ => ⟨o, e, fun v q => by rw [d] at q; cases q⟩
  | .t a, ⟨⟨o, e, _, d⟩, _⟩ => ⟨o, e, fun v q => by rw [d] at q; cases q⟩
  | .s x, ⟨tk, o, e, _, d⟩ => ⟨o, e, fun v q => by rw [d] at q; cases q⟩
section
variable {X : Cx} {pins : List (Addr × Obj)} {σ : L2.St} {H : Hp} {s : Shared}
theorem src_draws {S : Src} {vs : List V} {it : Addr} {i : Nat} {A : Around} (I : Inv X pins σ H s) (hh : A.handled = none) (h : S.at_ X.K H vs) (st : S.it s.heap it i) :
    ∃ (P : Nat → Value → Prop) (St : Nat → Heap → Prop), Draws X.prog X.w A it (it :: S.fp) vs.length P St ∧ St i s.heap ∧ (∀ j u, P j u → ∃ y, vs[j]? = some y ∧ RelV y u) ∧ ∀ j h', St j h' → S.it h' it j := by
  cases S with
  | l a =>
    obtain ⟨its, rv, pl, _⟩ := I.list h
    have D := Draws.list (prog := X.prog) (w := X.w) hh it a (Nat.ne_of_lt st.2) its.toArray
    have hl : its.toArray.size = vs.length := by rw [List.size_toArray, rv.length]
    rw [hl] at D
    exact ⟨_, _, D, ⟨st.1, pl.isList⟩, fun j u e => Vals_back rv (by simpa using e), fun j h' e => ⟨e.1, st.2⟩⟩
  | t a =>
    obtain ⟨its, rv, pl, _⟩ := I.tuple h
    have D := Draws.tuple (prog := X.prog) (w := X.w) hh it a (Nat.ne_of_lt st.2) its.toArray
    have hl : its.toArray.size = vs.length := by rw [List.size_toArray, rv.length]
    rw [hl] at D
    exact ⟨_, _, D, ⟨st.1, pl⟩, fun j u e => Vals_back rv (by simpa using e), fun j h' e => ⟨e.1, st.2⟩⟩
  | s x =>
    obtain ⟨t, st⟩ := st
    have D := Draws.text (prog := X.prog) (w := X.w) hh it x t
    have h : vs = signsV x := h
    have hl : x.cps.size = vs.length := by rw [h]; unfold signsV; simp
    rw [hl] at D
    refine ⟨_, _, D, st, fun j u e => ?_, fun j h' e => ⟨t, e⟩⟩
    obtain ⟨c, tc, hc, rfl⟩ := e
    refine ⟨.str ⟨#[c]⟩, ?_, ⟨tc, rfl⟩⟩
    rw [h]
    unfold signsV
    rw [List.getElem?_map, Array.getElem?_toList, hc]
    rfl
theorem src_begins {S : Src} {vs : List V} {u : Value} (I : Inv X pins σ H s) (h : S.at_ X.K H vs) (r : RelV S.val u) :
    ∃ (o : Obj) (Hh : Heap → Prop), Begins u o Hh ∧ Hh s.heap ∧ ∀ (h' : Heap) (it : Addr), s.heap.objs.size ≤ it → h'.get? it = some o → S.it h' it 0 := by
  cases S with
  | l a =>
    obtain ⟨its, rv, pl, _⟩ := I.list h
    obtain rfl : u = .ref a := r
    exact ⟨_, _, begins_list a its.toArray, pl.isList, fun h' it hi e => ⟨⟨_, e, rfl, rfl⟩, Nat.lt_of_lt_of_le pl.lt hi⟩⟩
  | t a =>
    obtain ⟨its, rv, pl, _⟩ := I.tuple h
    obtain rfl : u = .ref a := r
    exact ⟨_, _, begins_tuple a its.toArray, pl, fun h' it hi e => ⟨⟨_, e, rfl, rfl⟩, Nat.lt_of_lt_of_le (by obtain ⟨_, q, _⟩ := pl; exact Heap.lt_size q) hi⟩⟩
  | s x =>
    obtain ⟨t, rfl⟩ : ∃ t, u = .str x t := r
    exact ⟨_, _, begins_text x t, trivial, fun h' it hi e => ⟨t, _, e, rfl, rfl⟩⟩
theorem src_inj {S : Src} {vs ws : List V} (I : Inv X pins σ H s) (h : S.at_ X.K H vs) (k : S.at_ X.K H ws) : vs = ws := by
  cases S with
  | l a => exact I.list_inj h k
  | t a => exact I.tuple_inj h k
  | s x => exact (show vs = _ from h).trans (show ws = _ from k).symm
end
theorem src_fp_size {X : Cx} {pins : List (Addr × Obj)} {σ : L2.St} {H : Hp} {s : Shared} {S : Src} {vs : List V} (I : Inv X pins σ H s) (h : S.at_ X.K H vs) : ∀ b ∈ S.fp, b < s.heap.objs.size := by
  cases S with
  | l a =>
    intro b hb
    rw [List.mem_singleton.mp hb]
    obtain ⟨its, rv, pl, _⟩ := I.list h
    exact pl.lt
  | t a =>
    intro b hb
    rw [List.mem_singleton.mp hb]
    obtain ⟨its, rv, pl, _⟩ := I.tuple h
    obtain ⟨_, q, _⟩ := pl
    exact Heap.lt_size q
  | s x => intro b hb; cases hb
def Ite2 (K : PySem.W.Frag) (k : Int) (S : Src) (n : Nat) : It :=
  ⟨fun i H => i < n ∧ ∃ xs : List V, S.at_ K H xs ∧ xs.length = n,
    fun i H v H' => ∃ T x, v = .ref T ∧ H T = none ∧ H' = upd H T (.tup [.int (k + (i : Nat)), x]) ∧ ∀ xs, S.at_ K H xs → xs[i]? = some x,
    fun i H => n ≤ i ∧ ∃ xs : List V, S.at_ K H xs ∧ xs.length = n⟩
theorem turn_enum2 {P : Program} {w : World} {K : PySem.W.Frag} {elts : List Expr} {kk : Nat} {tpos : Pos} (k : Int) (S : Src) (n : Nat) (e it : Addr) (hef : e ∉ S.fp) (hne : e ≠ it) :
    Turn P w K (.Tuple elts kk tpos) (Ite2 K k S n) [e, it] e (fun i h => (∃ old, IsEnum h e it (k + ((i : Nat) : Int)) old) ∧ S.it h it i ∧ i ≤ n) where
  mem := by simp
  obj := fun i h st b hb => by
    obtain ⟨⟨old, he⟩, hit, _⟩ := st
    have e' : b = e ∨ b = it := by simpa using hb
    rcases e' with z | z
    · rw [z]; exact ⟨_, he, fun v q => nomatch q⟩
    · rw [z]; exact Src.it_obj hit
  keep := fun i h h' st kk => let ⟨⟨old, he⟩, hit, hl⟩ := st; ⟨⟨old, kk e (by simp) _ he⟩, Src.it_at hit fun o q => kk it (by simp) o q, hl⟩
  item := by
    intro X hP hw hK hc i pins s σ H E I hf st hg
    subst hP hw hK
    obtain ⟨⟨old, he⟩, hit, _⟩ := st
    obtain ⟨hi, xs, hx, rfl⟩ := hg
    have hel : e < s.heap.objs.size := Heap.lt_size he
    have hil : it < s.heap.objs.size := by obtain ⟨_, q, _⟩ := Src.it_obj hit; exact Heap.lt_size q
    obtain ⟨P1, St1, D1, b1, c1, d1⟩ := src_draws (A := X.A.in1) I (I.ok.hd hc) hx hit
    refine wpAny_pyNext_enum_itemC D1 he b1 hi hne (fun z => (List.mem_cons.mp z).elim hne hef) fun u h' tk hu ho hit' hT hsz hk => ?_
    obtain ⟨v, ev, rv⟩ := c1 _ _ hu
    refine ⟨_, rfl, wpAny_letOwnedTupleGo_enum (s := { s with heap := h', toks := tk + 1 }) ho fun h'' he' sb => ?_⟩
    have hT2 : h''.get? s.heap.objs.size = some { cls := .type "tuple", data := .seq #[.int (k + ((i : Nat) : Int)) tk, u] } := (sb.2 _ (Nat.ne_of_gt hel)).trans hT
    have new : ObjOk X.prog X.w (upd H s.heap.objs.size (.tup [.int (k + (i : Nat)), v])) h'' s.heap.objs.size (.tup [.int (k + (i : Nat)), v]) :=
      ⟨by show 2 ≤ sizeLine; decide, [.int (k + ((i : Nat) : Int)) tk, u], .cons ⟨_, rfl⟩ (.cons rv .nil), ⟨_, hT2, rfl, _, rfl⟩⟩
    have I1 : Inv X pins σ (upd H s.heap.objs.size (.tup [.int (k + (i : Nat)), v])) { s with heap := h'', toks := tk + 1 } :=
      I.turnedNew (ch := [e, it]) (fun b ob hb q => (sb.2 b (fun z => hb (by simp [z]))).trans (hk b ob (fun z => hb (by simp [z])) (fun z => hb (by simp [z])) q)) hf (Nat.le_refl _) new
    refine ⟨.ref s.heap.objs.size, _, I1, rfl, ⟨_, v, rfl, I.hok.fresh (Nat.le_refl _), rfl, fun l hl => by rw [src_inj I hl hx]; exact ev⟩, ⟨⟨u, ?_⟩, Src.it_at (d1 _ _ hit') fun o q => (sb.2 _ (Ne.symm hne)).trans q, hi⟩, fun b hb => ?_⟩
    · have e1 : k + ((i + 1 : Nat) : Int) = k + ((i : Nat) : Int) + 1 := by omega
      rw [e1]; exact he'
    · have hb' : b < s.heap.objs.size := by
        have e' : b = e ∨ b = it := by simpa using hb
        rcases e' with z | z
        · rw [z]; exact hel
        · rw [z]; exact hil
      rw [upd_ne (Nat.ne_of_lt hb')]
      exact (hf b hb).1
  done := by
    intro X hP hw hK hc i pins s σ H E I hf st hg
    subst hP hw hK
    obtain ⟨⟨old, he⟩, hit, hle⟩ := st
    obtain ⟨hi, xs, hx, rfl⟩ := hg
    obtain ⟨f0, f1, f2, f3, f4, f5⟩ := hf it (by simp)
    obtain rfl : i = xs.length := by omega
    obtain ⟨P1, St1, D1, b1, c1, d1⟩ := src_draws (A := X.A.in1) I (I.ok.hd hc) hx hit
    refine wpAny_pyNext_enum_endD D1 he b1 fun h' eb => ⟨rfl, I.turned (t' := s.toks) (fun b o hb q => eb b o hb q) f0 f1 f3 f4 f5⟩
  self := fun A i s Q E st h => let ⟨⟨_, he⟩, _⟩ := st; wpAny_pyIter_enum he h
theorem meets_enum1 {v : Value} {o : Obj} {Hh : Heap → Prop} (B : Begins v o Hh) :
    Meets (Builtin.«enumerate.__new__» ⟨[.type "enumerate", v], []⟩) (fun _ R s => Hh s.heap ∧ R (.ok (.ret (.ref (s.heap.push o).objs.size))) { s with heap := (s.heap.push o).push { cls := .type "enumerate", data := .fields #[.none, .bool false, .ref s.heap.objs.size, rawInt 0, .none, .none] } }) :=
  .of_wp fun prog w A R s h => by
    obtain ⟨hp, g, d, tk, os⟩ := s; obtain ⟨h1, h⟩ := h
    have hsub := sub_enumerate
    have q1 : ∀ {A' : Around} {E : Value → Shared → Prop} {Q : Value → Shared → Prop}, Q (.ref hp.objs.size) ⟨hp.push o, g, d, tk, os⟩ → wpAny (model prog w) A' (pyIter v) Q E ⟨hp, g, d, tk, os⟩ :=
      fun q => B.iter prog w _ _ ⟨hp, g, d, tk, os⟩ _ h1 q
    wp_walk using q1
    refine wpAny_stack_any fun st => wpAny_pure ?_
    split
    · rename_i c _ _ _ _ _
      cases (c == Value.type "enumerate")
      · wp_walk using q1
        exact ⟨_, rfl, h⟩
      · wp_walk using q1
        exact ⟨_, rfl, h⟩
    · wp_walk using q1
      exact ⟨_, rfl, h⟩
theorem call_enum1 {prog : Program} {w : World} {A : Around} {E : Value → Shared → Prop} {s : Shared} {v : Value} {o : Obj} {Hh : Heap → Prop} {Q : Value → Shared → Prop} (B : Begins v o Hh) (h1 : Hh s.heap)
    (h : ∀ h', IsEnum h' (s.heap.objs.size + 1) s.heap.objs.size 0 .none → h'.get? s.heap.objs.size = some o → (∀ b o, s.heap.get? b = some o → h'.get? b = some o) → Q (.ref (s.heap.objs.size + 1)) { s with heap := h' }) :
    wpAny (model prog w) A (call (.type "enumerate") [v]) Q E s := by
  refine callType_new F.called_enumerate (by decide) (F.typeCall_enumerate_1 _) (F.newCall_enumerate_1 _) (fun obj => F.args_object_init_2 obj _) F.entry_enumerate_new (meets_enum1 B) ⟨h1, ?_⟩
  have hz : (s.heap.push o).objs.size = s.heap.objs.size + 1 := Heap.size_push ..
  have he : IsEnum ((s.heap.push o).push { cls := .type "enumerate", data := .fields #[.none, .bool false, .ref s.heap.objs.size, rawInt 0, .none, .none] }) (s.heap.objs.size + 1) s.heap.objs.size 0 .none := by
    have := Heap.get?_push_size (s.heap.push o) (o := { cls := .type "enumerate", data := .fields #[.none, .bool false, .ref s.heap.objs.size, rawInt 0, .none, .none] }) rfl
    rw [hz] at this; exact this
  show _ ∧ _
  rw [hz]
  exact ⟨⟨_, he, rfl⟩, h _ he (Heap.get?_push_of_some _ (Heap.get?_push_size _ B.free)) fun b o x => Heap.get?_push_of_some _ (Heap.get?_push_of_some _ x)⟩
def iEnum2 (K : PySem.W.Frag) (ta : TA) : TI := fun σ H R => ta σ H fun vs H1 => ∃ S xs, vs = [Src.val S] ∧ S.at_ K H1 xs ∧ R (Ite2 K 0 S xs.length) H1
theorem pi_enum2 {X : Cx} {e : Expr} {ta : TA} {p pos tpos : Pos} {elts : List Expr} {kk : Nat} (hg : Gl X "enumerate") (hm : X.mg "enumerate" = none) (ha : PA X [e] ta) (hs : starEach [e] X.env = [(false, eval e X.env)] := by rfl) :
    PI X (.Tuple elts kk tpos) (.Call (.Name "enumerate" p) [e] [] pos) (iEnum2 X.K ta) := by
  refine ⟨fun pins s σ H R I h => ?_⟩
  refine Call_ (ld_blt I hg hm boot_enumerate (PyProof.Rows.callWith_type1 (thn (ha.run pos pins s σ H _ I h) fun us s1 ⟨vs, H1, I1, r1, q1⟩ => ?_) hs rfl))
  obtain ⟨S, xs, ex, hx, q⟩ := q1
  subst ex
  cases r1 with
  | cons r rr =>
    cases rr
    obtain ⟨o1, Hh1, B1, k1, j1⟩ := src_begins I1 hx r
    refine call_enum1 B1 k1 fun h' he g1 hk => wpAny_pyIter_enum he ?_
    have I2 : Inv X pins σ H1 { s1 with heap := h' } := I1.kept (t' := s1.toks) hk
    refine ⟨s1.heap.objs.size + 1, [s1.heap.objs.size + 1, s1.heap.objs.size], _, _, H1, rfl, I2, turn_enum2 0 S xs.length (s1.heap.objs.size + 1) s1.heap.objs.size (fun z => ?_) (Nat.succ_ne_self _), ⟨⟨.none, by simpa using he⟩, j1 _ _ (Nat.le_refl _) g1, Nat.zero_le _⟩, fun b hb => ?_, q⟩
    · exact absurd (src_fp_size I1 hx _ z) (Nat.not_lt.mpr (Nat.le_succ _))
    · have e' : b = s1.heap.objs.size + 1 ∨ b = s1.heap.objs.size := by simpa using hb
      have hle : s1.heap.objs.size ≤ b := by rcases e' with z | z <;> rw [z] <;> first | exact Nat.le_refl _ | exact Nat.le_add_right _ _
      exact I1.fpOk hle (I1.hok.fresh hle)
end DL
set_option Elab.async false
set_option linter.all false
set_option maxRecDepth 100000
set_option maxHeartbeats 1000000
namespace DL
open PySem L2 PySem.Spec PyProof.Rows
/-- what is drawn from a list, a tuple, a text -/
def itemsQ : D → Option (List D)
  | .lst ds => some ds
  | .tup ds => some ds
  | .str s => some (s.map fun c => .str [c])
  | _ => none
def enumQD : List D → R (List D)
  | [x] => match itemsQ x with
    | some ds => .ok (enumL 0 ds)
    | none => .stuck
  | _ => .stuck
def enumQE (fs : LE → R (List D)) : LE → R (List D) := fun r => fs r >>= enumQD
theorem Src.at_mono {K : PySem.W.Frag} {H H' : Hp} (g : GrowS H H') : ∀ {S : Src} {vs : List V}, S.at_ K H vs → S.at_ K H' vs
  | .l a, vs, h => g.sql h
  | .t a, vs, h => g.sqt h
  | .s x, vs, h => h
theorem src_of {G : Gm} {dl : Addr} {S : Hp} {d : D} {v : V} {ds : List D} (h : Rep G dl S d v) (e : itemsQ d = some ds) : ∃ Sr vs, v = Src.val Sr ∧ Sr.at_ G.K S vs ∧ RepL G dl S ds vs := by
  unfold itemsQ at e
  split at e
  · cases e
    unfold Rep at h
    obtain ⟨a, vs, rfl, q, r⟩ := h
    exact ⟨.l a, vs, rfl, SqL.of q, r⟩
  · cases e
    unfold Rep at h
    obtain ⟨a, vs, rfl, q, r⟩ := h
    exact ⟨.t a, vs, rfl, SqT.of q, r⟩
  · cases e
    unfold Rep at h
    subst h
    refine ⟨.s _, signsV _, rfl, rfl, ?_⟩
    unfold signsV
    exact signs_rep
  · cases e
section
variable {X : Cx} {G : Gm} {W : WX} {e e2 : Expr} {p pos tpos : Pos} {elts : List Expr} {kk : Nat} {fs : LE → R (List D)}
theorem walk_enum2 {dl : Addr} {S : Src} {ds : List D} {xs : List V} (l1 : xs.length = ds.length) :
    WalkS G dl (Ite2 G.K 0 S xs.length) (enumL 0 ds) (fun Z H => S.at_ G.K (cut H Z) xs ∧ RepL G dl (cut H Z) ds xs) where
  mono := fun _ _ _ _ g _ h => ⟨Src.at_mono g h.1, h.2.mono g⟩
  monoS := fun _ _ _ _ g h => ⟨Src.at_mono g h.1, h.2.mono g⟩
  go := fun i Z H h hi => by
    rw [enumL_len] at hi
    exact ⟨by omega, xs, Src.at_mono (cut_grow H Z) h.1, rfl⟩
  stop := fun i Z H h hi => by
    rw [enumL_len] at hi
    exact ⟨by omega, xs, Src.at_mono (cut_grow H Z) h.1, rfl⟩
  yld := fun i Z O r sg H x H' A h hy e he => by
    obtain ⟨d, hd, rfl⟩ := enumL_get he
    obtain ⟨T, u, rfl, hT, rfl, hu⟩ := hy
    obtain ⟨u', hu', rp⟩ := RepL.getD ds xs i d h.2 hd
    have e1 := hu xs (Src.at_mono (cut_grow H Z) h.1)
    rw [hu'] at e1; cases e1
    have hTZ : T ∉ Z := A.out hT
    have gN : GrowS (cut H Z) (cut (upd H T (.tup [.int (0 + (i : Nat)), u])) Z) := fun b o e n => by
      obtain ⟨e1, e2⟩ := cut_some e
      rw [cut_out e1, upd_ne (ne_of_none e2 hT)]; exact e2
    refine ⟨.new hT, fun _ k => k.new hT, ?_⟩
    unfold Rep
    exact ⟨T, _, rfl, (by rw [cut_out hTZ, upd_same]), RepL.cons Rep.int_ (RepL.cons (rp.mono gN) RepL.nil)⟩
theorem di_enum2 (hG : G.K = X.K) (hg : Gl X "enumerate") (hm : X.mg "enumerate" = none) (ha : DA X G W [e] fs) (hs : starEach [e] X.env = [(false, eval e X.env)] := by rfl) :
    DI X G W (.Tuple elts kk tpos) (.Call (.Name "enumerate" p) [e] [] pos) (enumQE fs) := PI_imp (pi_enum2 hg hm ha hs) fun sg H Q ⟨dl, Z, O, r, A, q⟩ => by
  refine ⟨dl, Z, O, r, A, q.bind.thn fun d hd vs1 H1 g1 k1 rl => ?_⟩
  unfold enumQD at hd
  split at hd
  · rename_i x
    unfold RepL at rl
    obtain ⟨v, us, rfl, h1, h2⟩ := rl
    unfold RepL at h2
    subst h2
    split at hd
    · rename_i ds e1
      obtain ⟨S1, xs, rfl, a1, r1⟩ := src_of h1 e1
      refine ⟨S1, xs, rfl, hG ▸ Src.at_mono (cut_grow H1 Z) a1, ?_⟩
      rw [← hG]
      exact hd _ _ H1 g1 k1 (walk_enum2 r1.length) ⟨a1, r1⟩
    · exact hd.elim
  · exact hd.elim
end
end DL
set_option Elab.async false
set_option linter.all false
set_option maxRecDepth 100000
set_option maxHeartbeats 1000000
namespace DL
open PySem L2 PySem.Spec PyProof.Rows
end DL
set_option Elab.async false
set_option linter.all false
set_option maxRecDepth 100000
set_option maxHeartbeats 1000000
namespace DL
open PySem L2 PySem.Spec PyProof.Rows
end DL
set_option Elab.async false
set_option linter.all false
set_option maxRecDepth 100000
set_option maxHeartbeats 1000000
namespace DL
open PySem L2 PySem.Spec PyProof.Rows
end DL
set_option Elab.async false
set_option linter.all false
set_option maxRecDepth 100000
set_option maxHeartbeats 1000000
namespace DL
open PySem L2 PySem.Spec PyProof.Rows
end DL
set_option Elab.async false
set_option linter.all false
set_option maxRecDepth 100000
set_option maxHeartbeats 1000000
namespace PySem
namespace HandSPX
end HandSPX
end PySem
namespace DL
open PySem L2 PySem.Spec PyProof.Rows HandSPX
end DL
set_option Elab.async false
set_option linter.all false
set_option maxRecDepth 100000
set_option maxHeartbeats 1000000
namespace DL
open PySem L2 PySem.Spec PyProof.Rows HandSPX
end DL
set_option Elab.async false
set_option linter.all false
set_option maxRecDepth 100000
set_option maxHeartbeats 1000000
namespace DL
open PySem L2 PySem.Spec PyProof.Rows HandSPX
end DL
set_option Elab.async false
set_option linter.all false
set_option maxRecDepth 100000
set_option maxHeartbeats 1000000
namespace DL
open PySem L2 PySem.Spec PyProof.Rows
end DL
set_option Elab.async false
set_option linter.all false
set_option maxRecDepth 100000
set_option maxHeartbeats 2000000
namespace DL
open PySem L2 PySem.Spec PyProof.Rows
theorem repL_texts {G : Gm} {dl : Addr} {S : Hp} : ∀ l : List (List Nat), RepL G dl S (l.map D.str) ((l.map SX.S).map V.str)
  | [] => RepL.nil
  | x :: l => RepL.cons Rep.str_ (repL_texts l)
def splitD : D → List D → R D
  | .str a, [.str b] => if b ≠ [] ∧ b.all (fun c => decide (c < 256)) = true ∧ a.length ≤ 16777000 then .ok (.lst ((TL.spl b 0 [] a).map D.str)) else .stuck
  | _, _ => .stuck
def zfillD : D → List D → R D
  | .str a, [.int i] => if PadOk i = true then .ok (.str (Txt.zfill (SX.S a) i).cps.toList) else .stuck
  | _, _ => .stuck
theorem rep_S {G : Gm} {dl : Addr} {S : Hp} (x : Str) : Rep G dl S (.str x.cps.toList) (.str x) := by unfold Rep; cases x; rfl
section
variable {X : Cx} {G : Gm}
theorem bm_split : BmD X G "str" "split" splitD := by
  refine ⟨⟨_, _, PySem.F.slot_str_split, PySem.F.type_str_split, mt_split, ?_⟩, PySem.F.plainAttrs_str⟩
  intro dl Z O r sg x vx ds vs H Q E A hx hds h
  unfold splitD at h
  split at h
  · rename_i a b
    split at h
    · rename_i hz
      obtain ⟨h1, h2, h3⟩ := hz
      obtain ⟨v, rfl, hv⟩ := hds.one
      refine ⟨_, _, hx.str, by rw [hv.str], ?_, ?_, fun p hp => ?_⟩
      · cases b with
        | nil => exact absurd rfl h1
        | cons c r => simp [Str.length]
      · rw [sizeLine_eq]; show a.toArray.size + 2 ≤ _; simp; omega
      · rw [show Txt.split ⟨a.toArray⟩ ⟨b.toArray⟩ = _ from SX.split_S (a := a) (b := b) h1 h2]
        exact h _ _ (.new hp) (A.gl.new hp) (Rep.lst_new A hp (repL_texts _))
    · exact h.elim
  · exact h.elim
theorem bm_zfill : BmD X G "str" "zfill" zfillD := by
  refine ⟨⟨_, _, PySem.F.slot_str_zfill, PySem.F.type_str_zfill, mt_zfill, ?_⟩, PySem.F.plainAttrs_str⟩
  intro dl Z O r sg x vx ds vs H Q E A hx hds h
  unfold zfillD at h
  split at h
  · rename_i a i
    split at h
    · rename_i hz
      obtain ⟨v, rfl, hv⟩ := hds.one
      exact ⟨_, _, hx.str, by rw [hv.int], hz, h _ H (.refl _ _) A.gl (rep_S _)⟩
    · exact h.elim
  · exact h.elim
end
end DL
set_option Elab.async false
set_option linter.all false
set_option maxRecDepth 100000
set_option maxHeartbeats 2000000
namespace L2
open PySem PySem.Spec PyProof.Rows
/-- a pair with a tracked tuple as its key -/
abbrev KeyP (H : Hp) (p : V × V) (q : List Key × V) : Prop := ∃ b, p.1 = .ref b ∧ H b = some (.tup (q.1.map kV)) ∧ p.2 = q.2
end L2
namespace DL
open PySem L2 PySem.Spec PyProof.Rows
def valG (kvs : List (List Key × D)) (k : List Key) : Option D := (kvs.find? fun kv => decide (kv.1 = k)).map (·.2)
abbrev RepG (G : Gm) (dl : Addr) (S : Hp) : List (List Key × D) → List (List Key × V) → Prop := Paired fun p q => p.1 = q.1 ∧ Rep G dl S p.2 q.2
section
variable {G : Gm} {dl : Addr} {S S' : Hp}
theorem RepG.any {kvs : List (List Key × D)} {kv : List (List Key × V)} (h : RepG G dl S kvs kv) (k : List Key) : (kvs.any fun z => decide (z.1 = k)) = kv.any fun z => decide (z.1 = k) := by
  induction h with
  | nil => rfl
  | cons h t ih => rw [List.any_cons, List.any_cons, ih, h.1]
theorem RepG.val {kvs : List (List Key × D)} {kv : List (List Key × V)} (h : RepG G dl S kvs kv) {k : List Key} {d : D} (e : valG kvs k = some d) : ∃ v, valV kv k = some v ∧ Rep G dl S d v := by
  induction h with
  | nil => cases e
  | @cons p q ps qs h t ih =>
    by_cases z : p.1 = k
    · have : valG (p :: ps) k = some p.2 := by simp [valG, List.find?_cons, z]
      rw [this] at e
      cases e
      exact ⟨q.2, valV_pos (h.1.symm.trans z), h.2⟩
    · have : valG (p :: ps) k = valG ps k := by simp [valG, List.find?_cons, z]
      rw [this] at e
      obtain ⟨v, h1, h2⟩ := ih e
      exact ⟨v, (valV_neg (fun y => z (h.1.trans y))).trans h1, h2⟩
end
/-- the pairs of a display, the keys tuples written down -/
inductive DPsT (X : Cx) (G : Gm) (W : WX) (pos : Pos) : List (Option Expr) → List Expr → List ((LE → R (List D)) × (LE → R D)) → Prop
  | nil : DPsT X G W pos [] [] []
  | cons {es : List Expr} {x1 : Nat} {p : Pos} {v : Expr} {ks : List (Option Expr)} {vs : List Expr} {f : LE → R (List D)} {g : LE → R D} {fs : List ((LE → R (List D)) × (LE → R D))} (hk : DA X G W es f) (hv : DE X G W v g) (h : DPsT X G W pos ks vs fs) : DPsT X G W pos (some (.Tuple es x1 p) :: ks) (v :: vs) ((f, g) :: fs)
section
variable {X : Cx} {G : Gm} {W : WX} {pos : Pos}
theorem DPsT.len {ks : List (Option Expr)} {vs : List Expr} {fs : List ((LE → R (List D)) × (LE → R D))} (h : DPsT X G W pos ks vs fs) : fs.length = ks.length := by
  induction h with
  | nil => rfl
  | cons _ _ _ ih => rw [List.length_cons, List.length_cons, ih]
theorem KeyP.grow {dl : Addr} {H H' : Hp} (g : Grow dl H H') {b : Addr} {xs : List V} (hd : b ≠ dl) (e : H b = some (.tup xs)) : H' b = some (.tup xs) := g b _ e hd fun ps z => by cases z
end
end DL
set_option Elab.async false
set_option linter.all false
set_option maxRecDepth 100000
set_option maxHeartbeats 2000000
namespace DL
open PySem L2 LamX PySem.Spec PyProof.Rows
end DL
set_option Elab.async false
set_option linter.all false
set_option maxRecDepth 100000
set_option maxHeartbeats 4000000
namespace DLR
open PySem PySem.Spec PyProof.Rows
section
variable {prog : Program} {w : World} {A : Around} {E : Value → Shared → Prop} {s : Shared}
theorem Walks.rt {t : Addr} {items : Array Value} (hh : A.handled = none) (it : Addr) (hne : t ≠ it) (hz : items.size ≤ sizeLine) :
    Walks prog w A it [it, t] [it] items.size (fun i v => items[items.size - 1 - i]? = some v) (fun i h => i ≤ items.size ∧ RT.IsRt h it t ((items.size : Int) - 1 - (i : Nat)) ∧ IsTup h t items) where
  sub := fun b hb => by simp at hb; simp [hb]
  frame := fun i h h' st k => ⟨st.1, st.2.1.at fun o e => k it (by simp) o e, by
    obtain ⟨o, e, c, n, d⟩ := st.2.2
    exact ⟨o, k t (by simp) o e, c, n, d⟩⟩
  item := fun i s Q E hi st hQ => by
    obtain ⟨_, st, ht⟩ := st
    have e1 : (items.size : Int) - 1 - ((i : Nat) : Int) = ((items.size - 1 - i : Nat) : Int) := by omega
    rw [e1] at st
    have hlt : items.size - 1 - i < items.size := by omega
    refine RT.next_rt_item st ht (x := items[items.size - 1 - i]) (by simp [hlt]) hz fun h' st' sb => ?_
    have e2 : ((items.size - 1 - i : Nat) : Int) - 1 = (items.size : Int) - 1 - ((i + 1 : Nat) : Int) := by omega
    rw [e2] at st'
    refine hQ _ h' _ (by simp [hlt]) ⟨hi, st', ?_⟩ fun b o hb e => (sb.2 b (fun z => hb (by simp [z]))).trans e
    obtain ⟨o, e, c, n, d⟩ := ht
    exact ⟨o, (sb.2 t hne).trans e, c, n, d⟩
  done := fun s Q E st hQ => by
    obtain ⟨_, st, ht⟩ := st
    have e1 : (items.size : Int) - 1 - ((items.size : Nat) : Int) = -1 := by omega
    rw [e1] at st
    exact RT.next_rt_end hh st fun h' eb => hQ h' s.toks fun b o hb e => eb b o (fun z => hb (by simp [z])) e
  self := fun i s Q E st h => RT.iter_rt st.2.1 h
theorem IsTup.keep {h h' : Heap} {t : Addr} {items : Array Value} (x : IsTup h t items) (k : ∀ o, h.get? t = some o → h'.get? t = some o) : IsTup h' t items := by
  obtain ⟨o, e, c⟩ := x
  exact ⟨o, k o e, c⟩
end
end DLR
namespace DL
open PySem L2 PySem.Spec PyProof.Rows
end DL
set_option Elab.async false
set_option linter.all false
set_option maxRecDepth 100000
set_option maxHeartbeats 1000000
namespace DL
open PySem L2 PySem.Spec PyProof.Rows
end DL
set_option Elab.async false
set_option linter.all false
set_option maxRecDepth 100000
set_option maxHeartbeats 1000000
namespace DL
open PySem L2 PySem.Spec PyProof.Rows PySem.W
theorem DpAll.length {K : PySem.W.Frag} {H : Hp} : ∀ {vs : List V} {ds : List PyData}, DpAll K H vs ds → vs.length = ds.length
  | _, _, .nil => rfl
  | _, _, .cons _ t => by simp [DL.DpAll.length t]
end DL
set_option Elab.async false
set_option linter.all false
set_option maxRecDepth 100000
set_option maxHeartbeats 1000000
namespace DL
open PySem L2 PySem.Spec PyProof.Rows
end DL
set_option Elab.async false
set_option linter.all false
set_option maxRecDepth 100000
set_option maxHeartbeats 1000000
namespace DL
open PySem L2 PySem.Spec PyProof.Rows
def eqZ (x y : D) : R D := match x, y with
  | .lst xs, .lst ys => if xs.length = ys.length then eqD (.lst xs) (.lst ys) else .ok (.bl false)
  | x, y => eqD x y
section
variable {X : Cx}
theorem op_eqLen (hu : X.A.units + 64 < cLine) : OpR X (compareOp .Eq) (fun x y H Q => ∃ a b xs ys, x = .ref a ∧ y = .ref b ∧ SqL X.K H a xs ∧ SqL X.K H b ys ∧ xs.length ≠ ys.length ∧ Q (.bl false) H) := by
  intro pins s σ H x y v u Q I rx ry ⟨a, b, xs, ys, ex, ey, ha, hb, hl, q⟩
  subst ex ey
  obtain rfl : v = Value.ref a := rx
  obtain rfl : u = Value.ref b := ry
  obtain ⟨is, rv, p, _⟩ := I.list ha
  obtain ⟨js, rw', p', _⟩ := I.list hb
  refine PySem.SeqAt.RcAt.lists_lengths p.isList p'.isList ?_ (by omega) _ _ _ _ ⟨.bl _, H, I, rfl, q⟩
  simp only [List.size_toArray, bne_iff_ne, ne_eq]
  rw [← rv.length, ← rw'.length]
  exact hl
end
section
variable {X : Cx} {G : Gm}
theorem op_eqZ_d (hG : G.K = X.K) (hu : X.A.units + 64 < cLine) : OpD X G (compareOp .Eq) eqZ := by
  obtain ⟨rr, h1, h2⟩ := op_eq_d hG hu
  refine ⟨_, OpR.or h1 (op_eqLen hu), fun dl Z O r sg x y vx vy H Q E A hx hy h => ?_⟩
  unfold eqZ at h
  split at h
  · split at h
    · exact .inl (h2 dl Z O r sg _ _ vx vy H Q E A hx hy h)
    · rename_i hl
      obtain ⟨a, us, rfl, e1, r1⟩ := hx.lst
      obtain ⟨b, ws, rfl, e2, r2⟩ := hy.lst
      exact .inr ⟨a, b, us, ws, rfl, rfl, SqL.of e1, SqL.of e2, by rw [r1.length, r2.length]; exact hl, h _ H (.refl _ _) A.gl Rep.bl_⟩
  · exact .inl (h2 dl Z O r sg _ _ vx vy H Q E A hx hy h)
end
theorem eqZ_nil (xs : List D) : eqZ (.lst xs) (.lst []) = .ok (.bl xs.isEmpty) := by
  cases xs with
  | nil => rfl
  | cons x xs => rfl
end DL
set_option Elab.async false
set_option linter.all false
set_option maxRecDepth 100000
set_option maxHeartbeats 2000000
namespace DL
open PySem L2 PySem.Spec PyProof.Rows
/-- a class without == of its own -/
structure CmpO (K : PySem.W.Frag) (C : Addr) : Prop where
  mro : PySem.W.mroIn K C (.type "object") = some true
  eq : PySem.W.findIn K (.ref C) "__eq__" = some (some (.builtin "object.__eq__"))
  ne : PySem.W.findIn K (.ref C) "__ne__" = some (some (.builtin "object.__ne__"))
theorem CmpO.of {K : PySem.W.Frag} {C : Addr} (h : PySem.W.makesIn K C = true) (h1 : PySem.W.findIn K (.ref C) "__eq__" = some (some (.builtin "object.__eq__"))) (h2 : PySem.W.findIn K (.ref C) "__ne__" = some (some (.builtin "object.__ne__"))) : CmpO K C := ⟨L2.mro_obj h, h1, h2⟩
end DL
set_option Elab.async false
set_option linter.all false
set_option maxRecDepth 100000
set_option maxHeartbeats 1000000
namespace DL
open PySem L2 PySem.Spec PyProof.Rows GenW
section
variable {g : Ge} {tg : Expr} {H : Hp} {s s' : Shared} {ps ps' po : List (Addr × Obj)} {σ : L2.St}
theorem fpOk_to {X : Cx} {pins pins' : List (Addr × Obj)} {H H' : Hp} {b : Addr} (h : FpOk X pins H b) (hn : H' b = none) (hp : pins'.map (·.1) = pins.map (·.1)) : FpOk X pins' H' b := by
  obtain ⟨_, f1, f2, f3, f4, f5⟩ := h
  refine ⟨hn, f1, f2, f3, f4, fun p hp' => ?_⟩
  rcases List.mem_append.mp hp' with z | z
  · exact f5 p (List.mem_append_left _ z)
  · have : p.1 ∈ pins.map (·.1) := by rw [← hp]; exact List.mem_map.mpr ⟨p, z, rfl⟩
    obtain ⟨q, hq, e⟩ := List.mem_map.mp this
    rw [← e]
    exact f5 q (List.mem_append_right _ hq)
/-- behind the consumer's turn, more pinned -/
theorem inv_slept (k : GeOk g tg) (hps : ps.map (·.1) = g.S) (hpo : ∀ p ∈ po, p.1 ∉ g.S) (I : Inv g.Xg (g.pa :: ps ++ po) σ H s) (z : Slp g.S s s') (hd : Held g.S ps' s') : Inv g.Xg (g.pa :: ps' ++ po) σ H s' := by
  have pinS : ∀ b ∈ g.S, ∃ o, s.heap.get? b = some o ∧ H b = none ∧ b ≠ g.Xg.env.locals ∧ b ∉ g.Xg.fs := fun b hb => by
    rw [← hps] at hb
    obtain ⟨p, hp, e⟩ := List.mem_map.mp hb
    obtain ⟨h1, h2, h3, h4, _⟩ := I.pin p (List.mem_append_right _ (List.mem_append_left _ (List.mem_cons_of_mem _ hp)))
    rw [← e]
    exact ⟨_, h1, h2, h3, h4⟩
  have I0 : Inv g.Xg (g.pa :: po) σ H s := I.pins_of fun p hp => by
    rcases List.mem_cons.mp hp with z | z
    · rw [z]; exact I.pin g.pa (List.mem_append_right _ (List.mem_append_left _ List.mem_cons_self))
    · exact I.pin p (List.mem_append_right _ (List.mem_append_right _ z))
  have nt : ∀ b u, H b = some u → b ∉ g.S := fun b u q hb => by
    obtain ⟨_, _, h2, _⟩ := pinS b hb
    rw [h2] at q; cases q
  obtain ⟨z1, z2, z3⟩ := z
  obtain ⟨hh, G, d, t, o⟩ := s'
  have ho : o = s.os := z1
  subst ho
  have J : Inv g.Xg (g.pa :: po) σ H { s with heap := hh, gens := G, drawn := d, toks := t } := by
    refine I0.step (g' := G) (t' := t) (d' := d) (ch := g.S) (fun b hb => ?_)
      (fun b ob _ _ hc q _ => z3 b ob hc q) (fun b ob _ _ hc q _ => ⟨ob.slots, z3 b ob hc q⟩) (fun _ _ _ _ n => n) (fun b ob hc q => ⟨ob, z3 b ob hc q⟩)
      (fun _ _ q => q) (fun _ _ _ q => q) (fun b ps q => ⟨#[], by rw [q]; simp⟩) (fun m hm => ?_) (fun b u q => ?_) z2
    · obtain ⟨a1, a2, a3, a4, a5⟩ := k.apart b hb
      refine ⟨.inr a1, a2, a5, fun p hp => ?_⟩
      rw [k.pn, List.nil_append] at hp
      rcases List.mem_cons.mp hp with z | z
      · rw [z]
        exact fun e => a3 e.symm
      · exact fun e => hpo p z (by rw [e]; exact hb)
    · obtain ⟨ob, es, ep, ho, r⟩ := hm
      exact ⟨ob, es, ep, z3 _ ob (fun hb => (k.apart _ hb).2.1 rfl) ho, r⟩
    · refine (I0.hok b u q).stay (fun c v hc y => z3 c v ?_ y) (fun _ y => y) fun _ _ y => y
      rcases hc with y | y
      · rw [y]; exact nt b u q
      · exact nt c _ y
  have hp' : ∀ p ∈ ps', hh.get? p.1 = some p.2 ∧ H p.1 = none ∧ p.1 ≠ g.Xg.env.locals ∧ p.1 ∉ g.Xg.fs ∧ ∀ v, p.2.data ≠ .cell v := fun p hp => by
    obtain ⟨q1, q2⟩ := hd.ok p hp
    obtain ⟨_, _, h2, h3, h4⟩ := pinS p.1 (by rw [← hd.at_]; exact List.mem_map.mpr ⟨p, hp, rfl⟩)
    exact ⟨q1, h2, h3, h4, q2⟩
  refine J.pins_of fun p hp => ?_
  rcases List.mem_append.mp hp with z | z
  · rcases List.mem_cons.mp z with z | z
    · rw [z]
      exact J.pin g.pa (List.mem_append_right _ List.mem_cons_self)
    · exact hp' p z
  · exact J.pin p (List.mem_append_right _ (List.mem_cons_of_mem _ z))
/-- the inner loop's things -/
structure In2 where
  po : List (Addr × Obj)
  fp : List Addr
  it : Addr
  tn : Nat → Heap → Prop
  J : It
  σ : L2.St
  hp : Heap
  i : Nat
/-- between two turns of the inner loop -/
structure G2 (g : Ge) (q : In2) (j : Nat) (ps : List (Addr × Obj)) (H : Hp) (s : Shared) : Prop where
  at_ : ps.map (·.1) = g.S
  inv : Inv g.Xg (g.pa :: ps ++ q.po) q.σ H s
  tn : q.tn j s.heap
  fp : ∀ b ∈ q.fp, FpOk g.Xg (g.pa :: ps ++ q.po) H b
structure In2Ok (g : Ge) (tg2 : Expr) (q : In2) : Prop where
  turn : Turn g.Xg.prog g.Xg.w g.Xg.K tg2 q.J q.fp q.it q.tn
  po : q.po = pinsAt g.fp q.hp
  out : g.tn q.i q.hp
  σ : q.σ.length = g.σ0.length
theorem In2Ok.apart {tg2 : Expr} {q : In2} (k : GeOk g tg) (o : In2Ok g tg2 q) : ∀ p ∈ q.po, p.1 ∉ g.S := fun p hp => by
  rw [o.po] at hp
  obtain ⟨hb, _⟩ := of_pinsAt hp
  exact fun hS => (k.apart p.1 hS).2.2.2.1 hb
/-- seen from outside -/
theorem G2.out {tg2 : Expr} {q : In2} (k : GeOk g tg) (o : In2Ok g tg2 q) {more : List (Addr × Obj)} (hps : ps.map (·.1) = g.S) (I : Inv g.Xg (g.pa :: ps ++ q.po ++ more) σ H s) (hl : g.σ0.length = σ.length) (hw : ∀ (j : Nat) v, g.σ0[j]? = some (some v) → σ[j]? = some (some v)) : GInv g q.i ps H s := by
  have pin' : ∀ b ∈ g.fp, ∀ ob, q.hp.get? b = some ob → s.heap.get? b = some ob ∧ H b = none := fun b hb ob e => by
    have z := I.pin (b, ob) (List.mem_append_right _ (List.mem_append_left _ (List.mem_append_right _ (by rw [o.po]; exact mem_pinsAt hb e))))
    exact ⟨z.1, z.2.1⟩
  refine ⟨hps, (Inv.unpinned (pins := g.pa :: ps) (pl := q.po ++ more) (by rw [← List.append_assoc]; exact I)).weak hl hw, k.turn.keep _ _ _ o.out fun b hb ob e => (pin' b hb ob e).1, fun b hb => ?_⟩
  obtain ⟨ob, e, _⟩ := k.turn.obj _ _ o.out b hb
  exact (pin' b hb ob e).2
theorem G2.slept {tg2 : Expr} {q : In2} {j : Nat} (k : GeOk g tg) (o : In2Ok g tg2 q) (h : G2 g q j ps H s) (z : Slp g.S s s') (hd : Held g.S ps' s') : G2 g q j ps' H s' := by
  obtain ⟨hps, I, st, hf⟩ := h
  have hmap : (g.pa :: ps' ++ q.po).map (·.1) = (g.pa :: ps ++ q.po).map (·.1) := by
    rw [List.map_append, List.map_append, List.map_cons, List.map_cons, hps, hd.at_]
  refine ⟨hd.at_, inv_slept k hps (o.apart k) I z hd, o.turn.keep _ _ _ st fun b hb ob e => z.keep b ob (fun hS => ?_) e, fun b hb => fpOk_to (hf b hb) (hf b hb).1 hmap⟩
  rw [← hps] at hS
  obtain ⟨p, hp, e2⟩ := List.mem_map.mp hS
  exact (hf b hb).2.2.2.2.2 p (List.mem_append_right _ (List.mem_append_left _ (List.mem_cons_of_mem _ hp))) e2
end
end DL
set_option Elab.async false
set_option linter.all false
set_option maxRecDepth 100000
set_option maxHeartbeats 1000000
namespace DL
open PySem L2 PySem.Spec PyProof.Rows GenW
end DL
set_option Elab.async false
set_option linter.all false
set_option maxRecDepth 100000
set_option maxHeartbeats 1000000
namespace DL
open PySem L2 PySem.Spec PyProof.Rows GenW
end DL
set_option Elab.async false
set_option linter.all false
set_option maxRecDepth 100000
set_option maxHeartbeats 1000000
namespace DL
open PySem L2 PySem.Spec PyProof.Rows GenW
end DL
set_option Elab.async false
set_option linter.all false
set_option maxRecDepth 100000
set_option maxHeartbeats 2000000
namespace DL
open PySem L2 PySem.Spec PyProof.Rows GenW
end DL
set_option Elab.async false
set_option linter.all false
set_option maxRecDepth 100000
set_option maxHeartbeats 1000000
namespace DL
open PySem L2 PySem.Spec PyProof.Rows
end DL
set_option Elab.async false
set_option linter.all false
set_option maxRecDepth 100000
set_option maxHeartbeats 2000000
namespace DL
open PySem L2 PySem.Spec PyProof.Rows
end DL
set_option Elab.async false
set_option linter.all false
set_option maxRecDepth 100000
set_option maxHeartbeats 1000000
namespace DL
open PySem L2 PySem.Spec PyProof.Rows PySem.W
end DL
set_option Elab.async false
set_option linter.all false
set_option maxRecDepth 100000
set_option maxHeartbeats 1000000
namespace DL
open PySem L2 PySem.Spec PyProof.Rows
end DL
set_option Elab.async false
set_option linter.all false
set_option maxRecDepth 100000
set_option maxHeartbeats 1000000
namespace L2
open PySem PySem.Spec PyProof.Rows
end L2
namespace DL
open PySem L2 PySem.Spec PyProof.Rows
end DL
set_option Elab.async false
set_option linter.all false
set_option maxRecDepth 100000
set_option maxHeartbeats 1000000
namespace DL
open PySem L2 LamX PySem.Spec PyProof.Rows PySem.W
end DL
set_option Elab.async false
set_option linter.all false
set_option maxRecDepth 100000
set_option maxHeartbeats 1000000
namespace DL
open PySem L2 PySem.Spec PyProof.Rows
end DL
set_option Elab.async false
set_option linter.all false
set_option maxRecDepth 100000
set_option maxHeartbeats 1000000
namespace DL
open PySem L2 PySem.Spec PyProof.Rows
section
variable {X : Cx} {G : Gm} {W : WX} {tg l e : Expr} {f : LE → R D} {p pos apos cpos : Pos}
def iAnyB (K : PySem.W.Frag) (tl : TE) : TI := fun σ H R => tl σ H fun x H1 => (∃ a, x = .ref a ∧ (((∃ xs, SqL K H1 a xs) ∧ R (Itl K a) H1) ∨ ((∃ xs, SqT K H1 a xs) ∧ R (Itt K a) H1) ∨ ∃ o kvs, H1 a = some (.frz o (.dK kvs)) ∧ R (Itk a o kvs) H1)) ∨ ∃ s : Str, x = .str s ∧ R (Its s) H1
theorem pi_anyB {tl : TE} (hl : PE X l tl) : PI X tg l (iAnyB X.K tl) := by
  refine ⟨fun pins s σ H R I h => ?_⟩
  refine thn (hl.run pins s σ H _ I h) fun v s1 ⟨x, H1, I1, r1, q1⟩ => ?_
  have hfp : ∀ b ∈ [s1.heap.objs.size], _ := fun b hb => by
    have e : b = s1.heap.objs.size := by simpa using hb
    subst e
    exact I1.fpOk (Nat.le_refl _) (I1.hok.fresh (Nat.le_refl _))
  rcases q1 with ⟨a, e, q⟩ | ⟨y, e, q⟩
  · subst e
    cases r1
    rcases q with ⟨⟨xs, hq⟩, q⟩ | ⟨⟨xs, hq⟩, q⟩ | ⟨o, kvs, hd, q⟩
    · obtain ⟨its, rv, p, hz⟩ := I1.list hq
      refine wpAny_pyIter_list p.isList ?_
      exact ⟨s1.heap.objs.size, [s1.heap.objs.size], _, _, H1, rfl, I1.kept (t' := s1.toks) fun b o e => Heap.get?_push_of_some _ e, turn_list a _, ⟨_, Heap.get?_push_size _ rfl, rfl, rfl⟩, hfp, q⟩
    · obtain ⟨its, rv, p, hz⟩ := I1.tuple hq
      refine wpAny_pyIter_tuple (show s1.heap.IsTuple a its.toArray from p) ?_
      exact ⟨s1.heap.objs.size, [s1.heap.objs.size], _, _, H1, rfl, I1.kept (t' := s1.toks) fun b o e => Heap.get?_push_of_some _ e, turn_tuple a _, ⟨_, Heap.get?_push_size _ rfl, rfl, rfl⟩, hfp, q⟩
    · obtain ⟨hs, hgd, hx, es, ep, vs, hdt, hsz, kv, hm⟩ := I1.frzK hd
      refine iter_keys hs hgd hx hdt (pi_one (tk := s1.toks) I1 _ (turn_keys _ hdt) ⟨_, Heap.get?_push_size _ rfl, rfl, ?_⟩ q)
      rw [hsz] <;> rfl
  · subst e
    obtain ⟨t, rfl⟩ := r1
    cases ha : y.cps.all (· < 128)
    · exact wpAny_pyIter_wide ha (pi_one (tk := s1.toks) I1 _ (turn_str _ y t "str_iterator" (.inr rfl)) ⟨_, Heap.get?_push_size _ rfl, rfl, rfl⟩ q)
    · exact wpAny_pyIter_ascii ha (pi_one (tk := s1.toks) I1 _ (turn_str _ y t "str_ascii_iterator" (.inl rfl)) ⟨_, Heap.get?_push_size _ rfl, rfl, rfl⟩ q)
def itemsB : D → R (List D)
  | .lst ds => .ok ds
  | .tup ds => .ok ds
  | .str s => strD (.str s)
  | .dic kvs => .ok (kvs.map (·.1))
  | _ => .stuck
def itB (f : LE → R D) : LE → R (List D) := fun r => f r >>= itemsB
theorem di_anyB (hG : G.K = X.K) (h : DE X G W l f) : DI X G W tg l (itB f) := PI_imp (pi_anyB h) fun sg H Q ⟨dl, Z, O, r, A, q⟩ => by
  refine ⟨dl, Z, O, r, A, q.bind.thn fun d hd v H1 g1 k1 rp => ?_⟩
  unfold itemsB at hd
  split at hd
  · unfold Rep at rp
    obtain ⟨a, vs, rfl, e, rl⟩ := rp
    refine .inl ⟨a, rfl, .inl ⟨⟨vs, SqL.of (cut_some e).2⟩, ?_⟩⟩
    rw [← hG]
    exact hd _ _ H1 g1 k1 walk_list ⟨e, rl⟩
  · unfold Rep at rp
    obtain ⟨a, vs, rfl, e, rl⟩ := rp
    refine .inl ⟨a, rfl, .inr (.inl ⟨⟨vs, hG ▸ (cut_grow H1 Z).sqt (SqT.of e)⟩, ?_⟩)⟩
    rw [← hG]
    exact hd _ _ H1 g1 k1 walk_tup ⟨SqT.of e, rl⟩
  · unfold Rep at rp
    subst rp
    exact .inr ⟨_, rfl, hd _ _ H1 g1 k1 walk_str trivial⟩
  · unfold Rep at rp
    obtain ⟨a, o, kv, rfl, e, rk⟩ := rp
    exact .inl ⟨a, rfl, .inr (.inr ⟨o, kv, (cut_some e).2, hd _ _ H1 g1 k1 walk_keys ⟨e, rk⟩⟩)⟩
  · exact hd.elim
end
end DL
set_option Elab.async false
set_option linter.all false
set_option maxRecDepth 100000
set_option maxHeartbeats 1000000
namespace DL
open PySem L2 LamX PySem.Spec PyProof.Rows
end DL
set_option Elab.async false
set_option linter.all false
set_option maxRecDepth 100000
set_option maxHeartbeats 1000000
namespace DL
open PySem L2 PySem.Spec PyProof.Rows
def D.tkq : D → D → Bool
  | .tup a, .tup b => keqsD a b
  | _, _ => false
theorem keysK_cons {d : D} {ds : List D} {ks : List Key} (h : keysK (d :: ds) = some ks) : ∃ k r, ks = k :: r ∧ d.key = some k ∧ keysK ds = some r := by
  unfold keysK at h
  split at h
  · rename_i k r e1 e2
    cases h
    exact ⟨k, r, rfl, e1, e2⟩
  · cases h
theorem keqsK : ∀ {a b : List D} {x y : List Key}, keysK a = some x → keysK b = some y → keqsD a b = decide (x = y)
  | [], [], x, y, h1, h2 => by cases h1; cases h2; rfl
  | [], d :: b, x, y, h1, h2 => by
    cases h1
    obtain ⟨k, r, rfl, _, _⟩ := keysK_cons h2
    rfl
  | d :: a, [], x, y, h1, h2 => by
    cases h2
    obtain ⟨k, r, rfl, _, _⟩ := keysK_cons h1
    rfl
  | d :: a, e :: b, x, y, h1, h2 => by
    obtain ⟨k, r, rfl, q1, q2⟩ := keysK_cons h1
    obtain ⟨k', r', rfl, q3, q4⟩ := keysK_cons h2
    unfold keqsD
    rw [keq_key q1 q3, keqsK q2 q4, Bool.eq_iff_iff]
    simp
theorem tkey_tup {a : D} {x : List Key} (h : a.tkey = some x) : ∃ ds, a = .tup ds ∧ keysK ds = some x := by
  cases a <;> first | (cases h; done) | skip
  exact ⟨_, rfl, h⟩
theorem tkq_key {a b : D} {x y : List Key} (h1 : a.tkey = some x) (h2 : b.tkey = some y) : a.tkq b = decide (x = y) := by
  obtain ⟨ds, rfl, q1⟩ := tkey_tup h1
  obtain ⟨es, rfl, q2⟩ := tkey_tup h2
  exact keqsK q1 q2
section
variable {X : Cx} {G : Gm} {W : WX} {dl : Addr} {S H : Hp} {Z : List Addr} {v : V}
theorem tkey_inj {a b : D} {x y : List Key} (h1 : a.tkey = some x) (h2 : b.tkey = some y) : a.tkq b = true ↔ x = y := by
  rw [tkq_key h1 h2]; simp
theorem RepT.any : ∀ {kvs : List (D × D)} {kv : List (List Key × V)} {k : D} {x : List Key}, RepT G dl S kvs kv → k.tkey = some x → (kvs.any fun p => p.1.tkq k) = (kv.any fun p => decide (p.1 = x))
  | [], kv, k, x, h, hk => by unfold RepT at h; subst h; rfl
  | (k', d) :: kvs, kv, k, x, h, hk => by
    unfold RepT at h
    obtain ⟨y, v, r, rfl, hk', rp, h2⟩ := h
    rw [List.any_cons, List.any_cons, tkq_key hk' hk, RepT.any h2 hk]
theorem RepT.map : ∀ {kvs : List (D × D)} {kv : List (List Key × V)} {k d : D} {x : List Key} {v : V}, RepT G dl S kvs kv → k.tkey = some x → Rep G dl S d v →
    RepT G dl S (kvs.map fun p => if p.1.tkq k then (p.1, d) else p) (kv.map fun p => if p.1 = x then (p.1, v) else p)
  | [], kv, k, d, x, v, h, hk, rv => by unfold RepT at h; subst h; unfold RepT; rfl
  | (k', d') :: kvs, kv, k, d, x, v, h, hk, rv => by
    unfold RepT at h
    obtain ⟨y, u, r, rfl, hk', rp, h2⟩ := h
    have q := RepT.map (v := v) (d := d) h2 hk rv
    rw [List.map_cons, List.map_cons]
    by_cases e : y = x
    · rw [if_pos ((tkey_inj hk' hk).mpr e), if_pos e]
      unfold RepT
      exact ⟨y, v, _, rfl, hk', rv, q⟩
    · rw [if_neg fun z => e ((tkey_inj hk' hk).mp z), if_neg e]
      unfold RepT
      exact ⟨y, u, _, rfl, hk', rp, q⟩
theorem RepT.length : ∀ {kvs : List (D × D)} {kv : List (List Key × V)}, RepT G dl S kvs kv → kv.length = kvs.length
  | [], kv, h => by unfold RepT at h; subst h; rfl
  | (k', d') :: kvs, kv, h => by
    unfold RepT at h
    obtain ⟨y, u, r, rfl, _, _, h2⟩ := h
    rw [List.length_cons, List.length_cons, RepT.length h2]
theorem RepP.tdic {kvs : List (D × D)} (h : RepP G dl H Z (.tdic kvs) v) : ∃ a kv, v = .ref a ∧ Rd H a (.dT kv) ∧ RepT G dl (cut H Z) kvs kv := by
  rcases h with h | ⟨a, e, hz, hd, q⟩
  · unfold Rep at h
    obtain ⟨a, o, kv, e, q, rl⟩ := h
    exact ⟨a, kv, e, .inr ⟨o, cut_grow H Z a _ q fun ps z => by cases z⟩, rl⟩
  · obtain ⟨kv, e2, rl⟩ := q
    exact ⟨a, kv, e, .inl e2, rl⟩
end
end DL
set_option Elab.async false
set_option linter.all false
set_option maxRecDepth 100000
set_option maxHeartbeats 1000000
namespace DL
open PySem L2 PySem.Spec PyProof.Rows PySem.W
end DL
set_option Elab.async false
set_option linter.all false
set_option maxRecDepth 100000
set_option maxHeartbeats 1000000
namespace L2
open PySem PySem.Spec PyProof.Rows
end L2
namespace DL
open PySem L2 PySem.Spec PyProof.Rows
end DL
set_option Elab.async false
set_option linter.all false
set_option maxRecDepth 100000
set_option maxHeartbeats 1000000
namespace L2
open PySem PySem.Spec PyProof.Rows
end L2
namespace DL
open PySem L2 PySem.Spec PyProof.Rows
end DL
set_option Elab.async false
set_option linter.all false
set_option maxRecDepth 100000
set_option maxHeartbeats 1000000
namespace DL
open PySem L2 PySem.Spec PyProof.Rows
end DL
set_option Elab.async false
set_option linter.all false
set_option maxRecDepth 100000
set_option maxHeartbeats 1000000
namespace L2
open PySem PySem.Spec PyProof.Rows
end L2
namespace DL
open PySem L2 PySem.Spec PyProof.Rows
def listK : List D → R (List D)
  | [.ktup xs] => .ok xs
  | [.ctup xs] => .ok xs
  | ds => listX ds
theorem RepP.ctup {G : Gm} {dl : Addr} {H : Hp} {Z : List Addr} {v : V} {ds : List D} (h : RepP G dl H Z (.ctup ds) v) : ∃ a vs, v = .ref a ∧ SqT G.K H a vs ∧ RepL G dl (cut H Z) ds vs := by
  rcases h with h | ⟨a, e, hz, hd, q⟩
  · unfold Rep at h
    obtain ⟨a, vs, e, q, rl⟩ := h
    exact ⟨a, vs, e, (cut_grow H Z).sqt q, rl⟩
  · exact q.elim
theorem RepP.ktup {G : Gm} {dl : Addr} {H : Hp} {Z : List Addr} {v : V} {ds : List D} (h : RepP G dl H Z (.ktup ds) v) : ∃ a vs o, v = .ref a ∧ H a = some (.frz o (.tup vs)) ∧ o.cls = .type "tuple" ∧ o.dict = none ∧ RepL G dl (cut H Z) ds vs := by
  rcases h with h | ⟨a, e, hz, hd, q⟩
  · unfold Rep at h
    obtain ⟨a, vs, o, e, q, h1, h2, rl⟩ := h
    exact ⟨a, vs, o, e, (cut_some q).2, h1, h2, rl⟩
  · exact q.elim
section
variable {X : Cx} {G : Gm}
theorem cf_listK (hG : G.K = X.K) (hc : X.calm = true) : CallF X G (.type "list") listK := by
  obtain ⟨rr, h1, h2⟩ := cf_listX hG hc
  refine ⟨_, CallR.or_ call_list_of h1, fun dl Z O r sg ds vs H Q E A rl h => ?_⟩
  unfold listK at h
  split at h
  · obtain ⟨v, rfl, rp⟩ := rl.one
    obtain ⟨a, us, o, rfl, e, _, _, rl'⟩ := rp.ktup
    exact .inl ⟨a, us, rfl, .inr (.inl (.inr ⟨o, e⟩)), fun l hl => h l us H (.refl _ _) A.gl hl rl'⟩
  · obtain ⟨v, rfl, rp⟩ := rl.one
    obtain ⟨a, us, rfl, e, rl'⟩ := rp.ctup
    exact .inl ⟨a, us, rfl, .inr (hG ▸ e), fun l hl => h l us H (.refl _ _) A.gl hl rl'⟩
  · exact .inr (h2 dl Z O r sg ds vs H Q E A rl h)
end
end DL
set_option Elab.async false
set_option linter.all false
set_option maxRecDepth 100000
set_option maxHeartbeats 1000000
namespace L2
open PySem PySem.Spec PyProof.Rows
end L2
namespace DL
open PySem L2 PySem.Spec PyProof.Rows
end DL
set_option Elab.async false
set_option linter.all false
set_option maxRecDepth 100000
set_option maxHeartbeats 1000000
namespace DL
open PySem L2 PySem.Spec PyProof.Rows
end DL
set_option Elab.async false
set_option linter.all false
set_option maxRecDepth 100000
set_option maxHeartbeats 1000000
namespace DL
open PySem L2 PySem.Spec PyProof.Rows
end DL
set_option Elab.async false
set_option linter.all false
set_option maxRecDepth 100000
set_option maxHeartbeats 1000000
namespace DL
open PySem L2 PySem.Spec PyProof.Rows
end DL
set_option Elab.async false
set_option linter.all false
set_option maxRecDepth 100000
set_option maxHeartbeats 1000000
namespace DL
open PySem L2 PySem.Spec PyProof.Rows PySem.W
end DL
set_option Elab.async false
set_option linter.all false
set_option maxRecDepth 100000
set_option maxHeartbeats 1000000
namespace DL
open PySem L2 PySem.Spec PyProof.Rows PySem.W
end DL
set_option Elab.async false
set_option linter.all false
set_option maxRecDepth 100000
set_option maxHeartbeats 1000000
set_option Elab.async false
set_option linter.all false
set_option maxRecDepth 100000
set_option maxHeartbeats 1000000
namespace DLZ
open PySem PySem.Spec PyProof.Rows PySem.W
def ZSt (h : Heap) (z TI TO : Addr) (as : List Addr) : Prop := (as = [] ∧ IsZip h z TI TO .none ∧ ∃ a1 a2, IsTupOf2 h TO a1 a2) ∨ ∃ T f rest, as = T :: rest ∧ IsZipHeld h z TI TO T f
structure ZG (P1 P2 : Nat → Value → Prop) (lo : Addr) (h : Heap) (as : List Addr) : Prop where
  rise : as.Pairwise (· < ·)
  above : ∀ a ∈ as, lo < a
  pairs : ∀ (j : Nat) (a : Addr), as[j]? = some a → ∃ x1 x2, P1 j x1 ∧ P2 j x2 ∧ IsTupOf2 h a x1 x2
theorem ZG.there {P1 P2 : Nat → Value → Prop} {lo : Addr} {h : Heap} {as : List Addr} (g : ZG P1 P2 lo h as) {a : Addr} (ha : a ∈ as) : a < h.objs.size := by
  obtain ⟨j, hj⟩ := List.mem_iff_getElem?.mp ha
  obtain ⟨_, _, _, _, e⟩ := g.pairs j a hj
  exact Heap.lt_size e
section
variable {prog : Program} {w : World} {A : Around} {E : Value → Shared → Prop} {s : Shared} {z TI TO i1 i2 : Addr} {fp1 fp2 : List Addr} {n1 n2 : Nat} {P1 P2 : Nat → Value → Prop} {St1 St2 : Nat → Heap → Prop}
theorem ZSt.keep {h h' : Heap} {as : List Addr} (x : ZSt h z TI TO as) (kz : ∀ o, h.get? z = some o → h'.get? z = some o) (kT : ∀ o, h.get? TO = some o → h'.get? TO = some o) : ZSt h' z TI TO as := by
  rcases x with ⟨e, hz, a1, a2, hTO⟩ | ⟨T, f, rest, e, hz⟩
  · exact .inl ⟨e, kz _ hz, a1, a2, kT _ hTO⟩
  · exact .inr ⟨T, f, rest, e, kz _ hz⟩
end
end DLZ
set_option Elab.async false
set_option linter.all false
set_option maxRecDepth 100000
set_option maxHeartbeats 1000000
namespace DL
open PySem L2 PySem.Spec PyProof.Rows PySem.W
inductive Sz where
  | q (S : Src)
  | d (a : Addr)
def Sz.val : Sz → V
  | .q S => S.val
  | .d a => .ref a
def Sz.at_ (K : PySem.W.Frag) (H : Hp) : Sz → List V → Prop
  | .q S, vs => S.at_ K H vs
  | .d a, vs => ∃ kvs : List (Key × V), Rd H a (.dK kvs) ∧ vs = kvs.map fun p => kV p.1
end DL
set_option Elab.async false
set_option linter.all false
set_option maxRecDepth 100000
set_option maxHeartbeats 1000000
namespace DL
open PySem L2 PySem.Spec PyProof.Rows
end DL
set_option Elab.async false
set_option linter.all false
set_option maxRecDepth 100000
set_option maxHeartbeats 1000000
namespace DL
open PySem L2 PySem.Spec PyProof.Rows
section
variable {X : Cx} {G : Gm} {W : WX} {F : LE → R Out} {body : List Stmt} {pos : Pos}
def sbF (z i j : Nat) : Bool := Nat.beq i j || Nat.beq j z
def SubOk (K : PySem.W.Frag) (G : Gm) (z : Nat) (ks : List Nat) : Prop := ∀ i ∈ ks, ∀ j ∈ ks, PySem.W.exmOne K (.ref (G.xcls i)) (.ref (G.xcls j)) = some (sbF z i j)
def subB (K : PySem.W.Frag) (xc : Nat → Addr) (z : Nat) (ks : List Nat) : Bool := ks.all fun i => ks.all fun j => PySem.W.exmOne K (.ref (xc i)) (.ref (xc j)) == some (sbF z i j)
theorem sub_by {K : PySem.W.Frag} {z : Nat} {ks : List Nat} (h : subB K G.xcls z ks = true) : SubOk K G z ks := fun i hi j hj => by
  unfold subB at h
  exact beq_iff_eq.mp (List.all_eq_true.mp (List.all_eq_true.mp h i hi) j hj)
def handS (z c : Nat) : List (Nat × (LE → R Out)) → Option (LE → R Out)
  | [] => none
  | (j, K) :: l => match sbF z c j with
    | true => some K
    | false => handS z c l
def tryUS (z : Nat) (ks : List Nat) (F : LE → R Out) (l : List (Nat × (LE → R Out))) : LE → R Out := fun r => do
  match ← F r with
  | .ex e r' => if ks.contains e.cls then (match handS z e.cls l with
    | some K => K r'
    | none => .ok (.ex e r')) else .stuck
  | o => .ok o
theorem wMany_sub {De : Ends} {dl : Addr} {Z' : List Addr} {O' : List (Nat × Addr)} {H' : Hp} {r' : LE} {sg' : L2.St} {e : Exc} {dx : Option Addr} {z : Nat} (ks : List Nat) (hx : SubOk X.K G z ks) (hi : e.cls ∈ ks) (A : At G dl Z' O' r' sg' H') : ∀ {l : List (Nat × (LE → R Out))}, (∀ j ∈ l.map (·.1), j ∈ ks) →
    Wp (match handS z e.cls l with
      | some K => K r'
      | none => .ok (.ex e r')) (SPost G W De dl Z' O' H') (fun _ => False) → (handS z e.cls l = none → W (.ref (G.xcls e.cls)) dx sg' H') → wMany X.K W De (hdD G W l) (.ref (G.xcls e.cls)) dx sg' H'
  | [], _, q, h0 => h0 rfl
  | (j, K) :: l, hl, q, h0 => by
    refine ⟨sbF z e.cls j, hx _ hi j (hl j (by simp)), fun hb a ha => ?_, fun hb => ?_⟩
    · unfold handS at q
      rw [hb] at q
      exact ⟨dl, Z', O', r', A, q⟩
    · unfold handS at q h0
      rw [hb] at q h0
      exact wMany_sub ks hx hi A (fun j hj => hl j (List.mem_cons_of_mem _ hj)) q h0
theorem ds_tryU {h₀ : ExceptHandler} {hds : List ExceptHandler} (z : Nat) (ks : List Nat) {l : List (Nat × (LE → R Out))} (hx : SubOk X.K G z ks) (hl : ∀ j ∈ l.map (·.1), j ∈ ks) (hs : X.stack = X.env :: X.outer) (hf : X.env.frame = some X.env.locals) (hpa : ∀ hd : Option Value, PassesOwnAt (model X.prog X.w) (X.A.mark hd) X.A X.env X.xe) (tk : Takes X W)
    (hb : ∀ (W' : WX) (pn : List (Addr × Obj)) (xe : Value → Shared → Prop), Takes (X.tr pn xe) W' → PassesOwn (model X.prog X.w) X.A X.env xe → DSs (X.tr pn xe) G W' body F)
    (hh : LG.HdsOk X W (h₀ :: hds) (hdD G W l)) : DS X G W (.Try body (h₀ :: hds) [] [] pos) (tryUS z ks F l) := PS_imp (LG.ps_try_many hs hf hpa tk (tb := fun W' => tS G W' F) hb hh) fun De sg H ⟨dl, Z, O, r, A, q⟩ => by
  refine ⟨dl, Z, O, r, A, q.bind.thn fun o ho => ?_⟩
  cases o with
  | nx r' => exact ho
  | bk r' => exact ho
  | ct r' => exact ho
  | rt d => exact ho
  | ex e r' =>
    intro Z' O' sg' H' cls dx s' A' xr
    have ho2 : Wp (if ks.contains e.cls then (match handS z e.cls l with
      | some K => K r'
      | none => .ok (.ex e r')) else .stuck) (SPost G W De dl Z O H) (fun _ => False) := ho
    split at ho2
    case isFalse => exact ho2.elim
    rename_i hk
    obtain ⟨rfl, xr2⟩ := id xr
    refine wMany_sub ks hx (by simpa using hk) A' hl (ho2.thn fun o z => SPost.trans A s' z) fun hn => ?_
    rw [hn] at ho2
    exact ho2 Z' O' sg' H' _ dx s' A' xr
end
end DL
set_option Elab.async false
set_option linter.all false
set_option maxRecDepth 100000
namespace DL
open PySem L2 PySem.Spec PyProof.Rows
def digN : Nat → List Nat → Nat
  | n, [] => n
  | n, c :: a => digN (n * 10 + (c - 48)) a
def intY : List D → R D
  | [.str a] => if a ≠ [] ∧ (a.all fun c => decide (48 ≤ c) && decide (c ≤ 57)) = true ∧ a.length ≤ 600 then .ok (.int (digN 0 a : Nat)) else .stuck
  | ds => intX ds
theorem digN_val (a : List Nat) : digN 0 a = NumText.digitsVal a := by
  have : ∀ (a : List Nat) (n : Nat), digN n a = a.foldl (fun n c => n * 10 + (c - 48)) n := fun a => by
    induction a with
    | nil => intro n; rfl
    | cons c a ih => intro n; exact ih _
  rw [this]
  rfl
section
variable {X : Cx} {G : Gm}
theorem cd_intY : CallD X G (.type "int") intY := by
  refine ⟨_, CallR.or_ call_int1 call_int_str, fun dl Z O r sg ds vs H Q E A rl h => ?_⟩
  unfold intY at h
  split at h
  · split at h
    case isFalse => exact h.elim
    rename_i a hc
    obtain ⟨v, rfl, rp⟩ := rl.one
    refine .inr ⟨_, _, by rw [rp.str], SX.int_S hc.2.1 hc.1 (by have := hc.2.2; omega), ?_, ?_⟩
    · show (SX.S a).length ≤ 640
      rw [SX.S_len]
      have := hc.2.2
      omega
    · rw [← digN_val]
      exact h _ H (.refl _ _) A.gl Rep.int_
  · unfold intX at h
    split at h
    · obtain ⟨v, rfl, rp⟩ := rl.one
      exact .inl (.inl ⟨_, by rw [rp.int], h _ H (.refl _ _) A.gl Rep.int_⟩)
    · obtain ⟨v, rfl, rp⟩ := rl.one
      exact .inl (.inr ⟨_, by rw [rp.bl], h _ H (.refl _ _) A.gl Rep.int_⟩)
    · split at h
      case isFalse => exact h.elim
      rename_i c hc
      obtain ⟨v, rfl, rp⟩ := rl.one
      exact .inr ⟨_, _, by rw [rp.str], intText_one hc.1 hc.2, by simp [Str.length], h _ H (.refl _ _) A.gl Rep.int_⟩
    · exact h.elim
end
end DL
set_option Elab.async false
set_option linter.all false
set_option maxRecDepth 100000
namespace DL
open PySem L2 PySem.Spec PyProof.Rows
def subC (x y : D) : R D := match x with
  | .ctup xs => ixD (.tup xs) y
  | _ => .stuck
end DL
set_option Elab.async false
set_option linter.all false
set_option maxRecDepth 100000
namespace DL
open PySem L2 PySem.Spec PyProof.Rows
theorem RepT.len {G : Gm} {dl : Addr} {S : Hp} : ∀ {kvs : List (D × D)} {kv : List (List Key × V)}, RepT G dl S kvs kv → kv.length = kvs.length
  | [], kv, h => by unfold RepT at h; subst h; rfl
  | (k, d) :: kvs, kv, h => by
    unfold RepT at h
    obtain ⟨x, v, r, rfl, _, _, h2⟩ := h
    rw [List.length_cons, List.length_cons, RepT.len h2]
end DL
set_option Elab.async false
set_option linter.all false
set_option maxRecDepth 100000
set_option maxHeartbeats 1000000
namespace DL
open PySem L2 PySem.Spec PyProof.Rows HandSPX
end DL
set_option Elab.async false
set_option linter.all false
set_option maxRecDepth 100000
set_option maxHeartbeats 1000000
namespace DL
open PySem L2 LamX PySem.Spec PyProof.Rows
/-- the exception's own dict, where it has one, is known -/
def DxOk (d : Option Addr) (H : Hp) : Prop := d = none ∨ ∃ dx f v, d = some dx ∧ H dx = some (.xd [(f, v)])
theorem DxOk.keeps {d : Option Addr} {H H' : Hp} (h : DxOk d H) (k : ∀ b o, H b = some o → H' b = some o) : DxOk d H' := h.imp id fun ⟨dx, f, v, e, q⟩ => ⟨dx, f, v, e, k _ _ q⟩
/-- what they come to -/
inductive KitL (K : PySem.W.Frag) (D : Addr) : List Value → List Bool → Prop
  | nil : KitL K D [] []
  | cons {cv : Value} {b : Bool} {cs : List Value} {bs : List Bool} (h : PySem.W.kitOne K (.ref D) cv = some b) (t : KitL K D cs bs) : KitL K D (cv :: cs) (b :: bs)
end DL
set_option Elab.async false
set_option linter.all false
set_option maxRecDepth 100000
set_option maxHeartbeats 1000000
namespace DL
open PySem L2 LamX PySem.Spec PyProof.Rows
abbrev KeepsH (H H' : Hp) : Prop := ∀ b o, H b = some o → H' b = some o
theorem KitL.split {K : PySem.W.Frag} {D : Addr} : ∀ {cs ds : List Value} {bs : List Bool}, KitL K D (cs ++ ds) bs → ∃ b1 b2, bs = b1 ++ b2 ∧ KitL K D cs b1 ∧ KitL K D ds b2
  | [], ds, bs, h => ⟨[], bs, rfl, .nil, h⟩
  | c :: cs, ds, bs, h => by
    cases h with
    | cons k t =>
      obtain ⟨b1, b2, rfl, h1, h2⟩ := KitL.split t
      exact ⟨_, b2, rfl, .cons k h1, h2⟩
theorem KitL.length {K : PySem.W.Frag} {D : Addr} : ∀ {cs : List Value} {bs : List Bool}, KitL K D cs bs → bs.length = cs.length
  | _, _, .nil => rfl
  | _, _, .cons _ t => by rw [List.length_cons, List.length_cons, t.length]
/-- what is known at a step of the suite -/
structure UndAt (K : PySem.W.Frag) (a : Addr) (cls : Value) (d : Option Addr) (D : Addr) (σ : L2.St) (H : Hp) : Prop where
  c : cls = .ref D
  x : L2.ExcC K D
  dx : DxOk d H
  s1 : σ[1]? = some (some (.ref a))
  ln : 2 < σ.length
theorem UndAt.go {K : PySem.W.Frag} {a : Addr} {cls : Value} {d : Option Addr} {D : Addr} {σ : L2.St} {H H' : Hp} {v : V} (u : UndAt K a cls d D σ H) (k : KeepsH H H') : UndAt K a cls d D (σ.set 2 (some v)) H' :=
  ⟨u.c, u.x, u.dx.keeps k, by rw [List.getElem?_set_ne (by decide)]; exact u.s1, by rw [List.length_set]; exact u.ln⟩
end DL
set_option Elab.async false
set_option linter.all false
set_option maxRecDepth 100000
set_option maxHeartbeats 1000000
namespace DL
open PySem L2 LamX PySem.Spec PyProof.Rows
/-- the function object f made of e -/
def LamF (X : Cx) (H : Hp) (pn : List (Addr × Obj)) (e : Expr) (f : Addr) : Prop := ∃ prm bd sc lpos c' P2 pm ctv, e = .Lambda prm bd sc lpos ∧
  (f, PySem.W.kla_obj "<lambda>" (X.env.qual ++ "<lambda>") prm bd sc (cloFrom X.env.cells sc.names []) pm c' ctv) ∈ pn ∧ f ∉ frs X.stack ∧ H c' = some (CodeN c' (X.env.qual ++ "<lambda>") P2)
inductive LamFs (X : Cx) (H : Hp) (pn : List (Addr × Obj)) : List Expr → List Addr → Prop
  | nil : LamFs X H pn [] []
  | cons {e : Expr} {f : Addr} {es : List Expr} {fs : List Addr} (h : LamF X H pn e f) (t : LamFs X H pn es fs) : LamFs X H pn (e :: es) (f :: fs)
section
variable {X : Cx} {G : Gm} {H H' : Hp} {pn pn' : List (Addr × Obj)}
theorem LamF.mono {e : Expr} {f : Addr} (h : LamF X H pn e f) (k : ∀ c q P, H c = some (CodeN c q P) → H' c = some (CodeN c q P)) (s : ∀ p ∈ pn, p ∈ pn') : LamF X H' pn' e f := by
  obtain ⟨prm, bd, sc, lpos, c', P2, pm, ctv, e, h1, h2, h3⟩ := h
  exact ⟨prm, bd, sc, lpos, c', P2, pm, ctv, e, s _ h1, h2, k _ _ _ h3⟩
theorem LamFs.mono (k : ∀ c q P, H c = some (CodeN c q P) → H' c = some (CodeN c q P)) (s : ∀ p ∈ pn, p ∈ pn') : ∀ {es : List Expr} {fs : List Addr}, LamFs X H pn es fs → LamFs X H' pn' es fs
  | _, _, .nil => .nil
  | _, _, .cons h t => .cons (h.mono k s) (t.mono k s)
theorem LamFs.at_ : ∀ {es : List Expr} {fs : List Addr} {i : Nat} {f : Addr}, LamFs X H pn es fs → fs[i]? = some f → ∃ e, es[i]? = some e ∧ LamF X H pn e f
  | _, _, i, f, .nil, h => by simp at h
  | e :: es, g :: fs, 0, f, .cons h t, q => by
    have : g = f := by simpa using q
    subst this
    exact ⟨e, rfl, h⟩
  | e :: es, g :: fs, i + 1, f, .cons h t, q => by
    have q' : fs[i]? = some f := by simpa using q
    obtain ⟨e', h1, h2⟩ := LamFs.at_ t q'
    exact ⟨e', by simpa using h1, h2⟩
theorem LamFs.length : ∀ {es : List Expr} {fs : List Addr}, LamFs X H pn es fs → fs.length = es.length
  | _, _, .nil => rfl
  | _, _, .cons _ t => by rw [List.length_cons, List.length_cons, t.length]
end
/-- the list of lambdas stands in slot iw -/
def WhatsAt (X : Cx) (pn : List (Addr × Obj)) (es : List Expr) (iw : Nat) (σ : L2.St) (H : Hp) : Prop := ∃ p fs, σ[iw]? = some (some (.ref p)) ∧ H p = some (.lst (fs.map V.ref)) ∧ LamFs X H pn es fs
section
variable {X : Cx} {G : Gm} {W : WX} {pn : List (Addr × Obj)} {es : List Expr} {iw ik : Nat} {σ : L2.St} {H H' : Hp}
theorem WhatsAt.grow {dl : Addr} (h : WhatsAt X pn es iw σ H) (g : Grow dl H H') (gl : GlOk G dl H) (he : es ≠ []) : WhatsAt X pn es iw σ H' := by
  obtain ⟨p, fs, h1, h2, h3⟩ := h
  obtain ⟨x, y, z, hd⟩ := gl.dice
  have np : p ≠ dl := fun q => by
    rw [q, hd] at h2
    have e := HO.lst.inj (Option.some.inj h2)
    cases fs with
    | nil => cases e
    | cons f fs => cases e
  refine ⟨p, fs, h1, g p _ h2 np (fun ps z => by cases z), h3.mono (fun c q P e => g c _ e (fun z => ?_) codeN_ne) fun _ h => h⟩
  rw [z, hd] at e
  cases e
theorem WhatsAt.set (h : WhatsAt X pn es iw σ H) (hn : ik ≠ iw) (v : Option V) : WhatsAt X pn es iw (σ.set ik v) H := by
  obtain ⟨p, fs, h1, h2⟩ := h
  exact ⟨p, fs, by rw [List.getElem?_set_ne hn]; exact h1, h2⟩
end
end DL
set_option Elab.async false
set_option linter.all false
set_option maxRecDepth 100000
set_option maxHeartbeats 1000000
namespace DL
open PySem L2 LamX PySem.Spec PyProof.Rows
inductive Bodies (X : Cx) (G : Gm) (k : Nat) : List Expr → List (LE → R D) → Prop
  | nil : Bodies X G k [] []
  | cons {prm : Arguments} {bd : Expr} {sc : Scope} {lpos : Pos} {fb : LE → R D} {es : List Expr} {fbs : List (LE → R D)} (L : LamS X.env.scope sc) (hdef : defaultsOf prm X.env = ([], [])) (hkd : G.kd lpos.line lpos.col = true)
      (hbind : ∀ (q : Str) (cl : List (Str × Addr)) (pm cv ctv : Value), bindArgs (PySem.W.kla_fn "<lambda>" q prm bd sc cl pm cv ctv) ⟨[], []⟩ = pure [])
      (hbody : ∀ (A : Around) (outer : List Env) (s : Shared) (H : Hp) (E : XK) (f c' : Addr), Room k (A.deeper (lamEnv X sc s.heap.objs.size f c')) → DE (lamCx X A outer s H E sc f c') G (WD E) bd fb)
      (t : Bodies X G k es fbs) : Bodies X G k (.Lambda prm bd sc lpos :: es) (fb :: fbs)
section
variable {X : Cx} {G : Gm} {k : Nat}
theorem Bodies.length : ∀ {es : List Expr} {fbs : List (LE → R D)}, Bodies X G k es fbs → es.length = fbs.length
  | _, _, .nil => rfl
  | _, _, .cons _ _ _ _ _ t => by rw [List.length_cons, List.length_cons, t.length]
theorem Bodies.at_ : ∀ {es : List Expr} {fbs : List (LE → R D)} {i : Nat} {fb : LE → R D}, Bodies X G k es fbs → fbs[i]? = some fb → ∃ prm bd sc lpos, es[i]? = some (.Lambda prm bd sc lpos) ∧ LamS X.env.scope sc ∧
    (∀ (q : Str) (cl : List (Str × Addr)) (pm cv ctv : Value), bindArgs (PySem.W.kla_fn "<lambda>" q prm bd sc cl pm cv ctv) ⟨[], []⟩ = pure []) ∧
    (∀ (A : Around) (outer : List Env) (s : Shared) (H : Hp) (E : XK) (f c' : Addr), Room k (A.deeper (lamEnv X sc s.heap.objs.size f c')) → DE (lamCx X A outer s H E sc f c') G (WD E) bd fb)
  | _, _, i, fb, .nil, h => by simp at h
  | _, _, 0, fb, .cons L hdef hkd hbind hbody t, h => by
    simp only [List.getElem?_cons_zero, Option.some.injEq] at h
    subst h
    exact ⟨_, _, _, _, rfl, L, hbind, hbody⟩
  | _, _, i + 1, fb, .cons L hdef hkd hbind hbody t, h => by
    obtain ⟨prm, bd, sc, lpos, h1, h2⟩ := t.at_ (i := i) (by simpa using h)
    exact ⟨prm, bd, sc, lpos, by simpa using h1, h2⟩
end
end DL
set_option Elab.async false
set_option linter.all false
set_option maxRecDepth 100000
set_option maxHeartbeats 1000000
namespace DL
open PySem L2 LamX PySem.Spec PyProof.Rows
end DL
set_option Elab.async false
set_option linter.all false
set_option maxRecDepth 100000
namespace DL
open PySem L2 PySem.Spec PyProof.Rows
section
variable {X : Cx} {G : Gm} {W : WX} {k c n : Nat} {x : Str} {g : List D → R D} {p pos : Pos} {C fm : Addr} {fd : FuncData} {ps : List Str} {sp : Sp} {CX : CXT} {E : L2.St → XK}
theorem pe_make_s0 (M : Mk X.K C fm) (F : FnOk X.prog X.w X.K X.mg X.base CX k fm fd ps sp) (hr : Room (k + 1) X.A) (hg : Gl X x) (hm : X.mg x = some (.ref C)) (hb : Binds X.K fd ps []) (hx : ∀ sg, PassesAt CX X sg (E sg)) (hdb : (x == ("__debug__" : Str)) = false) :
    PE X (.Call (.Name x p) [] [] pos) (tMakeS C sp E tNil) :=
  ⟨fun pins s sg H Q I h => wpAny_Call_Name_kw (ld_glob I hg hm (PySem.W.callWith_K0 I.kIn M.kp (run_make_s (us := []) M F hr hb (hx sg) I .nil h)) hdb)⟩
end
end DL
set_option Elab.async false
set_option linter.all false
set_option maxRecDepth 100000
set_option maxHeartbeats 1000000
namespace DL
open PySem L2 PySem.Spec PyProof.Rows PySem.W
end DL
set_option Elab.async false
set_option linter.all false
set_option maxRecDepth 100000
set_option maxHeartbeats 1000000
namespace DL
open PySem L2 PySem.Spec PyProof.Rows
section
variable {G : Gm} {dl : Addr} {Z Z' : List Addr} {O : List (Nat × Addr)} {r : LE} {sg : L2.St} {H H' : Hp}
theorem cut_upd_z {a : Addr} {o : HO} (h : a ∈ Z) : cut (upd H a o) Z = cut H Z := by
  funext b
  unfold cut
  by_cases e : b ∈ Z
  · rw [if_pos e, if_pos e]
  · have hb : b ≠ a := fun z => e (by rw [z]; exact h)
    rw [if_neg e, if_neg e, upd_ne hb]
/-- a list set aside is written -/
theorem At.upd_z {a : Addr} {us vs : List V} (A : At G dl Z O r sg H) (ha : a ∈ Z) (hd : a ≠ dl) (ho : ∀ q ∈ O, q.2 ≠ a) (e : H a = some (.lst us)) : At G dl Z O r sg (upd H a (.lst vs)) := by
  obtain ⟨x, y, z, hdl⟩ := A.gl.dice
  refine ⟨⟨⟨x, y, z, by rw [upd_ne (fun q => hd q.symm)]; exact hdl⟩, A.gl.tab.upd e rfl⟩, A.dz, fun b hb => ?_, A.own, A.inj, A.len, fun i c e => ?_⟩
  · by_cases q : b = a
    · rw [q, upd_same]; exact ⟨_, rfl, NT.lst _⟩
    · rw [upd_ne q]; exact A.live b hb
  · have := A.slot i c e
    cases c with
    | un => trivial
    | val d => obtain ⟨v, e, q⟩ := this; exact ⟨v, e, by rw [cut_upd_z ha]; exact q⟩
    | own d =>
      obtain ⟨b, hb, e, q, ko⟩ := this
      exact ⟨b, hb, e, by rw [cut_upd_z ha, upd_ne (ho _ hb)]; exact q, ko⟩
theorem At.un (A : At G dl Z O r sg H) (i : Nat) : At G dl Z O (r.set i .un) sg H :=
  ⟨A.gl, A.dz, A.live, A.own, A.inj, by rw [List.length_set, A.len], fun j c e => by
    rcases set_get e with ⟨rfl, rfl, hl⟩ | ⟨hn, e2⟩
    · trivial
    · exact A.slot j c e2⟩
end
/-- lists of scalars and the like, each at its place -/
inductive InnerAt (G : Gm) (dl : Addr) (S H : Hp) : List Addr → List (List D) → Prop
  | nil : InnerAt G dl S H [] []
  | cons {a : Addr} {as : List Addr} {us : List V} {ds : List D} {dss : List (List D)} (e : H a = some (.lst us)) (rl : RepL G dl S ds us) (t : InnerAt G dl S H as dss) : InnerAt G dl S H (a :: as) (ds :: dss)
section
variable {G : Gm} {dl : Addr} {S S' H H' : Hp}
theorem InnerAt.mono : ∀ {as : List Addr} {dss : List (List D)}, InnerAt G dl S H as dss → (∀ a ∈ as, H' a = H a) → GrowS S S' → InnerAt G dl S' H' as dss
  | _, _, .nil, _, _ => .nil
  | _, _, .cons e rl t, k, g => .cons (by rw [k _ List.mem_cons_self]; exact e) (rl.mono g) (t.mono (fun a ha => k a (List.mem_cons_of_mem _ ha)) g)
theorem InnerAt.length : ∀ {as : List Addr} {dss : List (List D)}, InnerAt G dl S H as dss → as.length = dss.length
  | _, _, .nil => rfl
  | _, _, .cons _ _ t => by rw [List.length_cons, List.length_cons, t.length]
theorem InnerAt.append : ∀ {as bs : List Addr} {dss ess : List (List D)}, InnerAt G dl S H as dss → InnerAt G dl S H bs ess → InnerAt G dl S H (as ++ bs) (dss ++ ess)
  | _, _, _, _, .nil, h => h
  | _, _, _, _, .cons e rl t, h => .cons e rl (t.append h)
theorem InnerAt.at_ : ∀ {as : List Addr} {dss : List (List D)} {i : Nat} {a : Addr} {ds : List D}, InnerAt G dl S H as dss → as[i]? = some a → dss[i]? = some ds → ∃ us, H a = some (.lst us) ∧ RepL G dl S ds us
  | _, _, i, a, ds, .nil, h, _ => by simp at h
  | _, _, 0, a, ds, .cons e rl t, h, h2 => by
    simp only [List.getElem?_cons_zero, Option.some.injEq] at h h2
    subst h h2
    exact ⟨_, e, rl⟩
  | _, _, i + 1, a, ds, .cons e rl t, h, h2 => t.at_ (i := i) (by simpa using h) (by simpa using h2)
theorem InnerAt.set : ∀ {as : List Addr} {dss : List (List D)} {i : Nat} {a : Addr} {ds : List D} {us : List V}, InnerAt G dl S H as dss → as.Nodup → as[i]? = some a → RepL G dl S ds us → InnerAt G dl S (upd H a (.lst us)) as (dss.set i ds)
  | _, _, i, a, ds, us, .nil, _, h, _ => by simp at h
  | b :: as, _, 0, a, ds, us, .cons e rl t, nd, h, r2 => by
    simp only [List.getElem?_cons_zero, Option.some.injEq] at h
    subst h
    have hn := (List.nodup_cons.mp nd).1
    exact .cons upd_same r2 (t.mono (fun c hc => upd_ne fun z => hn (z ▸ hc)) fun _ _ e _ => e)
  | b :: as, _, i + 1, a, ds, us, .cons e rl t, nd, h, r2 => by
    have h' : as[i]? = some a := by simpa using h
    have hn := (List.nodup_cons.mp nd).1
    have hb : b ≠ a := fun z => hn (z ▸ List.mem_of_getElem? h')
    exact .cons (by rw [upd_ne hb]; exact e) rl (t.set (List.nodup_cons.mp nd).2 h' r2)
/-- as stable lists -/
theorem InnerAt.rep {Z : List Addr} : ∀ {as : List Addr} {dss : List (List D)}, InnerAt G dl S H as dss → GrowS S (cut H Z) → (∀ a ∈ as, a ∉ Z) → RepL G dl (cut H Z) (dss.map D.lst) (as.map V.ref)
  | _, _, .nil, _, _ => RepL.nil
  | _, _, .cons e rl t, g, hz => RepL.cons (by unfold Rep; exact ⟨_, _, rfl, by rw [cut_out (hz _ List.mem_cons_self)]; exact e, rl.mono g⟩) (t.rep g fun a ha => hz a (List.mem_cons_of_mem _ ha))
end
/-- the lists at as within the list at p -/
structure DpH (G : Gm) (dl : Addr) (Z : List Addr) (H : Hp) (p : Addr) (as : List Addr) (dss : List (List D)) : Prop where
  top : H p = some (.lst (as.map V.ref))
  nd : (p :: as).Nodup
  el : InnerAt G dl (cut H (p :: as ++ Z)) H as dss
section
variable {G : Gm} {dl : Addr} {Z : List Addr} {O : List (Nat × Addr)} {r : LE} {sg : L2.St} {H H' : Hp} {p : Addr} {as : List Addr} {dss : List (List D)}
theorem DpH.grow (h : DpH G dl Z H p as dss) (A : At G dl (p :: as ++ Z) O r sg H) (hdl : dl ∈ Z) (hz : ∀ b ∈ p :: as, b ∉ Z) (g : Grow dl H H') : DpH G dl Z H' p as dss := by
  have nd : ∀ b ∈ p :: as, b ≠ dl := fun b hb z => hz b hb (z ▸ hdl)
  refine ⟨g p _ h.top (nd p List.mem_cons_self) (fun ps z => by cases z), h.nd, ?_⟩
  have key : ∀ {bs : List Addr} {ess : List (List D)}, InnerAt G dl (cut H (p :: as ++ Z)) H bs ess → (∀ b ∈ bs, b ∈ p :: as) → InnerAt G dl (cut H' (p :: as ++ Z)) H' bs ess := by
    intro bs ess hh
    induction hh with
    | nil => exact fun _ => .nil
    | cons e rl t ih => exact fun hs => .cons (g _ _ e (nd _ (hs _ List.mem_cons_self)) (fun ps z => by cases z)) (rl.mono (g.cut A.dz)) (ih fun b hb => hs b (List.mem_cons_of_mem _ hb))
  exact key h.el fun b hb => List.mem_cons_of_mem _ hb
/-- no more one's own: plain lists -/
theorem DpH.free (h : DpH G dl Z H p as dss) (A : At G dl (p :: as ++ Z) O r sg H) (hdl : dl ∈ Z) (hz : ∀ b ∈ p :: as, b ∉ Z) (ho : ∀ q ∈ O, q.2 ∉ p :: as) {i : Nat} (hs : sg[i]? = some (some (.ref p))) :
    At G dl Z O (r.set i (.val (.lst (dss.map D.lst)))) sg H := by
  have gs : GrowS (cut H (p :: as ++ Z)) (cut H Z) := fun b o e n => by
    obtain ⟨e1, e2⟩ := cut_some e
    rw [cut_out fun q => e1 (List.mem_append_right _ q)]
    exact e2
  refine ⟨A.gl, hdl, fun a ha => A.live a (List.mem_append_right _ ha), fun q hq => ⟨?_, (A.own q hq).2⟩, A.inj, by rw [List.length_set, A.len], fun j c e => ?_⟩
  · rcases List.mem_append.mp (A.own q hq).1 with z | z
    · exact (ho q hq z).elim
    · exact z
  · rcases set_get e with ⟨rfl, rfl, hl⟩ | ⟨hn, e2⟩
    · refine ⟨.ref p, hs, ?_⟩
      unfold Rep
      exact ⟨p, _, rfl, by rw [cut_out (hz p List.mem_cons_self)]; exact h.top, h.el.rep gs fun a ha => hz a (List.mem_cons_of_mem _ ha)⟩
    · have := A.slot j c e2
      cases c with
      | un => trivial
      | val d => obtain ⟨v, e, q⟩ := this; exact ⟨v, e, q.mono gs⟩
      | own d => obtain ⟨a, ha, e, q, ko⟩ := this; exact ⟨a, ha, e, q.mono gs, ko⟩
end
end DL
set_option Elab.async false
set_option linter.all false
set_option maxRecDepth 100000
set_option maxHeartbeats 1000000
namespace DL
open PySem L2 PySem.Spec PyProof.Rows
/-- all but the lists at as stays -/
def GrowB (dl : Addr) (as : List Addr) (H H' : Hp) : Prop := ∀ b o, H b = some o → b ≠ dl → b ∉ as → (∀ ps, o ≠ .tbl ps) → H' b = some o
section
variable {X : Cx} {G : Gm} {W : WX} {tt : LE → R Bool} {fx : LE → R D} {c ih ix : Nat} {x h : Str} {px ph p1 p2 p3 p4 p5 p6 : Pos} {j : Nat} {te ex : Expr}
theorem GrowB.refl (dl : Addr) (as : List Addr) (H : Hp) : GrowB dl as H H := fun _ _ e _ _ _ => e
theorem GrowB.trans {dl : Addr} {as : List Addr} {H H1 H2 : Hp} (a : GrowB dl as H H1) (b : GrowB dl as H1 H2) : GrowB dl as H H2 := fun c o e n m t => b c o (a c o e n m t) n m t
theorem GrowB.of {dl : Addr} {as : List Addr} {H H1 : Hp} (a : Grow dl H H1) : GrowB dl as H H1 := fun c o e n _ t => a c o e n t
end
end DL
set_option Elab.async false
set_option linter.all false
set_option maxRecDepth 100000
set_option maxHeartbeats 1000000
namespace DL
open PySem L2 PySem.Spec PyProof.Rows
end DL
set_option Elab.async false
set_option linter.all false
set_option maxRecDepth 100000
set_option maxHeartbeats 1000000
namespace DL
open PySem L2 PySem.Spec PyProof.Rows
end DL
set_option linter.all false
set_option maxRecDepth 100000
set_option maxHeartbeats 1000000
namespace DL
open PySem L2 PySem.Spec PyProof.Rows
end DL
set_option linter.all false
set_option maxRecDepth 100000
set_option maxHeartbeats 1000000
namespace DL
open PySem L2 PySem.Spec PyProof.Rows PySem.W
end DL
set_option linter.all false
set_option maxRecDepth 100000
set_option maxHeartbeats 1000000
namespace DL
open PySem L2 PySem.Spec PyProof.Rows
/-- the tuple v, its last item a list of one's own -/
def RepO (G : Gm) (dl : Addr) (H : Hp) (Z : List Addr) (O : List (Nat × Addr)) (d : D) (v : V) : Prop := ∃ (t : Addr) (vs : List V) (a : Addr) (us : List V) (ds xs : List D) (i : Nat),
  d = .tup (ds ++ [.lst xs]) ∧ v = .ref t ∧ H t = some (.tup (vs ++ [.ref a])) ∧ (i, a) ∈ O ∧ a ∈ Z ∧ a ≠ dl ∧ H a = some (.lst us) ∧ RepL G dl (cut H Z) ds vs ∧ RepL G dl (cut H Z) xs us
def SPostO (G : Gm) (W : WX) (De : Ends) (dl : Addr) (Z : List Addr) (O : List (Nat × Addr)) (H : Hp) : Out → Prop
  | .rt d => ∀ Z' O' v H', Stp dl Z O H Z' O' H' → GlOk G dl H' → RepO G dl H' Z' O' d v → De.rt v H'
  | o => SPost G W De dl Z O H o
theorem SPostO.trans {G : Gm} {W : WX} {De : Ends} {dl : Addr} {Z Z1 : List Addr} {O O1 : List (Nat × Addr)} {r : LE} {sg : L2.St} {H H1 : Hp} (A : At G dl Z O r sg H) (st : Stp dl Z O H Z1 O1 H1) : ∀ {o : Out}, SPostO G W De dl Z O H o → SPostO G W De dl Z1 O1 H1 o
  | .rt d, h => fun Z' O' v H' s g a => h Z' O' v H' (Stp.trans A st s) g a
  | .nx r', h => fun Z' O' sg' H' s a => h Z' O' sg' H' (Stp.trans A st s) a
  | .bk r', h => fun Z' O' sg' H' s a => h Z' O' sg' H' (Stp.trans A st s) a
  | .ct r', h => fun Z' O' sg' H' s a => h Z' O' sg' H' (Stp.trans A st s) a
  | .ex e r', h => fun Z' O' sg' H' c d s a x => h Z' O' sg' H' c d (Stp.trans A st s) a x
section
variable {X : Cx} {G : Gm} {W : WX} {F K : LE → R Out}
theorem At.take {dl : Addr} {Z : List Addr} {O : List (Nat × Addr)} {r : LE} {sg : L2.St} {H H' : Hp} {a : Addr} {us : List V} (A : At G dl Z O r sg H) (g : Grow dl H H') (gl : GlOk G dl H') (hf : Free H a) (hd : a ≠ dl) (ha : H' a = some (.lst us)) : At G dl (a :: Z) O r sg H' := by
  have ga : GrowS (cut H Z) (cut H' (a :: Z)) := fun b o e n => by
    obtain ⟨e1, e2⟩ := cut_some e
    have hba : b ≠ a := fun z => by
      obtain ⟨ps, z2⟩ := hf o (z ▸ e2)
      exact n ps z2
    rw [cut_out (fun z => (List.mem_cons.mp z).elim hba e1)]
    exact g b o e2 (fun z => e1 (z ▸ A.dz)) n
  refine ⟨gl, List.mem_cons_of_mem _ A.dz, fun b hb => ?_, fun q hq => ⟨List.mem_cons_of_mem _ (A.own q hq).1, (A.own q hq).2⟩, A.inj, A.len, fun j c e => ?_⟩
  · rcases List.mem_cons.mp hb with rfl | hb
    · exact ⟨_, ha, fun ps z => by cases ps <;> cases z⟩
    · exact (A.grow g gl).live b hb
  · have := A.slot j c e
    cases c with
    | un => trivial
    | val d =>
      obtain ⟨v, e, q⟩ := this
      exact ⟨v, e, q.mono ga⟩
    | own d =>
      obtain ⟨b, hb, e, q, ko⟩ := this
      obtain ⟨u, hu, nt⟩ := q.notTbl
      refine ⟨b, hb, e, ?_, ko⟩
      rw [g b u hu (A.own _ hb).2 nt.tb, ← hu]
      exact q.mono ga
variable {ex : Expr} {es : List Expr} {fs : LE → R (List D)} {g : List D → R D} {fa : Addr} {n k : Nat} {x x1 x2 x3 x4 : Str} {p p1 p2 p3 p4 pt pos pc : Pos} {kt : Nat}
end
end DL
set_option Elab.async false
set_option linter.all false
set_option maxRecDepth 100000
set_option maxHeartbeats 1000000
namespace DL
open PySem L2 PySem.Spec PyProof.Rows
end DL
set_option Elab.async false
set_option linter.all false
set_option maxRecDepth 100000
set_option maxHeartbeats 1000000
namespace DL
open PySem L2 PySem.Spec PyProof.Rows
end DL
set_option Elab.async false
set_option linter.all false
set_option maxRecDepth 100000
set_option maxHeartbeats 1000000
namespace DL
open PySem L2 PySem.Spec PyProof.Rows
end DL
set_option Elab.async false
set_option linter.all false
set_option maxRecDepth 100000
set_option maxHeartbeats 1000000
namespace DL
open PySem L2 PySem.Spec PyProof.Rows
end DL
set_option Elab.async false
set_option linter.all false
set_option maxRecDepth 100000
set_option maxHeartbeats 1000000
namespace DL
open PySem L2 PySem.Spec PyProof.Rows
end DL
set_option Elab.async false
set_option linter.all false
set_option maxRecDepth 100000
set_option maxHeartbeats 1000000
namespace DL
open PySem L2 PySem.Spec PyProof.Rows
end DL
set_option Elab.async false
set_option linter.all false
set_option maxRecDepth 100000
set_option maxHeartbeats 1000000
namespace DL
open PySem L2 PySem.Spec PyProof.Rows
structure KS where
  sh : List Nat
  ds : List (List Nat × List Nat)
  un : List (List Nat × List Nat)
def sV (s : List Nat) : V := .str ⟨s.toArray⟩
def prD (p : List Nat × List Nat) : D := .tup [.str p.1, .str p.2]
inductive PairsAt (H : Hp) : List (List Nat × List Nat) → List V → Prop
  | nil : PairsAt H [] []
  | cons {x : List Nat × List Nat} {l : List (List Nat × List Nat)} {t : Addr} {vs : List V} (h : H t = some (.tup [sV x.1, sV x.2])) (r : PairsAt H l vs) : PairsAt H (x :: l) (.ref t :: vs)
section
variable {G : Gm} {dl : Addr} {Z : List Addr} {O : List (Nat × Addr)} {r : LE} {sg : L2.St} {H H' : Hp}
theorem PairsAt.mono (k : ∀ t xs, H t = some (.tup xs) → H' t = some (.tup xs)) : ∀ {l : List (List Nat × List Nat)} {vs : List V}, PairsAt H l vs → PairsAt H' l vs
  | _, _, .nil => .nil
  | _, _, .cons h r => .cons (k _ _ h) (r.mono k)
theorem PairsAt.length : ∀ {l : List (List Nat × List Nat)} {vs : List V}, PairsAt H l vs → vs.length = l.length
  | _, _, .nil => rfl
  | _, _, .cons _ r => by rw [List.length_cons, List.length_cons, r.length]
theorem PairsAt.append : ∀ {l m : List (List Nat × List Nat)} {vs us : List V}, PairsAt H l vs → PairsAt H m us → PairsAt H (l ++ m) (vs ++ us)
  | _, _, _, _, .nil, h => h
  | _, _, _, _, .cons h r, q => .cons h (r.append q)
theorem PairsAt.split : ∀ {l : List (List Nat × List Nat)} {x : List Nat × List Nat} {vs : List V}, PairsAt H (l ++ [x]) vs → ∃ t us, vs = us ++ [.ref t] ∧ PairsAt H l us ∧ H t = some (.tup [sV x.1, sV x.2])
  | [], x, vs, h => by
    cases h with
    | cons h r => cases r; exact ⟨_, [], rfl, .nil, h⟩
  | y :: l, x, vs, h => by
    cases h with
    | cons h r =>
      obtain ⟨t, us, e, h1, h2⟩ := r.split
      exact ⟨t, _ :: us, by rw [e]; rfl, .cons h h1, h2⟩
theorem prD_rep {S : Hp} {x : List Nat × List Nat} {t : Addr} (h : S t = some (.tup [sV x.1, sV x.2])) : Rep G dl S (prD x) (.ref t) := by
  unfold prD Rep
  exact ⟨t, _, rfl, h, RepL.cons Rep.str_ (RepL.cons Rep.str_ RepL.nil)⟩
theorem PairsAt.rep (hz : ∀ t xs, H t = some (.tup xs) → t ∉ Z) : ∀ {l : List (List Nat × List Nat)} {vs : List V}, PairsAt H l vs → RepL G dl (cut H Z) (l.map prD) vs
  | _, _, .nil => RepL.nil
  | _, _, .cons h r => RepL.cons (prD_rep (by rw [cut_out (hz _ _ h)]; exact h)) (r.rep hz)
theorem At.tupZ (A : At G dl Z O r sg H) : ∀ t xs, H t = some (.tup xs) → t ∉ Z := fun t xs h z => by
  obtain ⟨o, e, nt⟩ := A.live t z
  rw [h] at e
  cases e
  exact nt (.tup xs) rfl
theorem GlOk.tupd (k : GlOk G dl H) : ∀ t xs, H t = some (.tup xs) → t ≠ dl := fun t xs h z => by
  obtain ⟨x, y, w, e⟩ := k.dice
  rw [z, e] at h
  cases h
theorem Grow.tup (g : Grow dl H H') (k : GlOk G dl H) : ∀ t xs, H t = some (.tup xs) → H' t = some (.tup xs) := fun t xs h => g t _ h (k.tupd t xs h) fun ps z => by cases z
/-- what stands at the places -/
structure Dsk (G : Gm) (c : Nat) (H : Hp) (a p q : Addr) (S : KS) : Prop where
  top : ∃ dx, H a = some (.ins (G.cls c) dx ((G.flds c).zip [sV S.sh, .ref p, .ref q]))
  dl : ∃ vs, H p = some (.lst vs) ∧ PairsAt H S.ds vs
  ul : ∃ vs, H q = some (.lst vs) ∧ PairsAt H S.un vs
  ne : p ≠ q
variable {c : Nat} {a p q : Addr} {S : KS}
theorem Dsk.ap (d : Dsk G c H a p q S) : a ≠ p := fun z => by
  obtain ⟨dx, e⟩ := d.top
  obtain ⟨vs, e2, _⟩ := d.dl
  rw [z, e2] at e
  cases e
theorem Dsk.aq (d : Dsk G c H a p q S) : a ≠ q := fun z => by
  obtain ⟨dx, e⟩ := d.top
  obtain ⟨vs, e2, _⟩ := d.ul
  rw [z, e2] at e
  cases e
theorem Dsk.keep (d : Dsk G c H a p q S) (k : ∀ b o, (b = a ∨ b = p ∨ b = q ∨ ∃ xs, o = .tup xs) → (∀ ps, o ≠ .tbl ps) → H b = some o → H' b = some o) : Dsk G c H' a p q S := by
  obtain ⟨⟨dx, e⟩, ⟨vs, e1, r1⟩, ⟨us, e2, r2⟩, ne⟩ := d
  have kt : ∀ t xs, H t = some (.tup xs) → H' t = some (.tup xs) := fun t xs h => k t _ (.inr (.inr (.inr ⟨xs, rfl⟩))) (fun ps z => by cases z) h
  exact ⟨⟨dx, k _ _ (.inl rfl) (fun ps z => by cases z) e⟩, ⟨vs, k _ _ (.inr (.inl rfl)) (fun ps z => by cases z) e1, r1.mono kt⟩, ⟨us, k _ _ (.inr (.inr (.inl rfl))) (fun ps z => by cases z) e2, r2.mono kt⟩, ne⟩
theorem Dsk.grow (d : Dsk G c H a p q S) (k : GlOk G dl H) (nd : a ≠ dl ∧ p ≠ dl ∧ q ≠ dl) (g : Grow dl H H') : Dsk G c H' a p q S := d.keep fun b o hb nt e => g b o e (by
  rcases hb with rfl | rfl | rfl | ⟨xs, rfl⟩
  · exact nd.1
  · exact nd.2.1
  · exact nd.2.2
  · exact k.tupd _ _ e) nt
def frzL (S : KS) : List D := [.str S.sh, .lst (S.ds.map prD), .lst (S.un.map prD)]
theorem Dsk.repL (d : Dsk G c H a p q S) (hz : ∀ t xs, H t = some (.tup xs) → t ∉ Z) (hp : p ∉ Z) (hq : q ∉ Z) : RepL G dl (cut H Z) (frzL S) [sV S.sh, .ref p, .ref q] := by
  obtain ⟨_, ⟨vs, e1, r1⟩, ⟨us, e2, r2⟩, ne⟩ := d
  refine RepL.cons Rep.str_ (RepL.cons ?_ (RepL.cons ?_ RepL.nil))
  · unfold Rep; exact ⟨p, vs, rfl, by rw [cut_out hp]; exact e1, r1.rep hz⟩
  · unfold Rep; exact ⟨q, us, rfl, by rw [cut_out hq]; exact e2, r2.rep hz⟩
/-- the state in a deed's own frame: self in slot 0, one's own -/
structure MSt (G : Gm) (c : Nat) (dl : Addr) (Z : List Addr) (r : LE) (sg : L2.St) (H : Hp) (a p q : Addr) (S : KS) : Prop where
  A : At G dl Z [(1000000, a)] r sg H
  r0 : r[0]? = some (.own (.ins c [.str S.sh, .fn p, .fn q]))
  dk : Dsk G c H a p q S
  pz : p ∈ Z
  qz : q ∈ Z
  pd : p ≠ dl
  qd : q ≠ dl
theorem MSt.s0 (M : MSt G c dl Z r sg H a p q S) : sg[0]? = some (some (.ref a)) := by
  obtain ⟨b, hb, e, _⟩ := M.A.slot 0 _ M.r0
  have := List.mem_singleton.mp hb
  cases this
  exact e
theorem MSt.az (M : MSt G c dl Z r sg H a p q S) : a ∈ Z := (M.A.own _ List.mem_cons_self).1
theorem MSt.ad (M : MSt G c dl Z r sg H a p q S) : a ≠ dl := (M.A.own _ List.mem_cons_self).2
theorem MSt.nd (M : MSt G c dl Z r sg H a p q S) : a ≠ dl ∧ p ≠ dl ∧ q ≠ dl := ⟨M.ad, M.pd, M.qd⟩
theorem MSt.grow (M : MSt G c dl Z r sg H a p q S) (g : Grow dl H H') (k : GlOk G dl H') : MSt G c dl Z r sg H' a p q S :=
  ⟨M.A.grow g k, M.r0, M.dk.grow M.A.gl M.nd g, M.pz, M.qz, M.pd, M.qd⟩
abbrev lessPQ (p q : Addr) (Z : List Addr) : List Addr := Z.filter fun b => b ≠ p ∧ b ≠ q
/-- to be read: the lists too -/
theorem MSt.frz (M : MSt G c dl Z r sg H a p q S) (hf : (G.flds c).length = 3) : At G dl (lessPQ p q Z) [(1000000, a)] (r.set 0 (.own (.ins c (frzL S)))) sg H := by
  have A := M.A
  have sub : ∀ b ∈ lessPQ p q Z, b ∈ Z := fun b hb => (List.mem_filter.mp hb).1
  have tz := A.tupZ
  refine ⟨A.gl, List.mem_filter.mpr ⟨A.dz, by simpa using ⟨fun z => M.pd z.symm, fun z => M.qd z.symm⟩⟩, fun b hb => A.live b (sub b hb), fun x hx => ?_, A.inj, by rw [List.length_set, A.len], fun j k e => ?_⟩
  · have := List.mem_singleton.mp hx
    cases this
    exact ⟨List.mem_filter.mpr ⟨M.az, by simpa using ⟨M.dk.ap, M.dk.aq⟩⟩, M.ad⟩
  · rcases set_get e with ⟨rfl, rfl, hl⟩ | ⟨hn, e2⟩
    · obtain ⟨dx, e1⟩ := M.dk.top
      exact ⟨a, List.mem_cons_self, M.s0, ⟨dx, _, e1, by rw [hf]; exact Nat.le_refl 3, M.dk.repL (fun t xs h z => tz t xs h (sub t z)) (fun z => by simp at z) (fun z => by simp at z)⟩, rfl⟩
    · have := A.slot j k e2
      have gs : GrowS (cut H Z) (cut H (lessPQ p q Z)) := cut_sub sub
      cases k with
      | un => trivial
      | val d => obtain ⟨v, e, q⟩ := this; exact ⟨v, e, q.mono gs⟩
      | own d => obtain ⟨b, hb, e, q, ko⟩ := this; exact ⟨b, hb, e, q.mono gs, ko⟩
end
def sfldD (fx : Nat → Option Nat) : LE → R D := fun r => match (r[0]? : Option Cell) with
  | some (Cell.own d) => fldD fx d
  | _ => .stuck
section
variable {X : Cx} {G : Gm} {W : WX} {m x : Str} {p1 p2 pos : Pos}
theorem de_sfld {fx : Nat → Option Nat} (hx : FldOk X G m fx) (hN : X.N[0]? = some x := by rfl) (hv : Vis X.env.scope x := by first | exact Or.inl rfl | exact Or.inr (Or.inl rfl) | exact Or.inr (Or.inr rfl)) (hd : (x == ("__debug__" : Str)) = false := by decide)
    (hcd : (x == ("__classdict__" : Str)) = false := by decide) (hb : attributeBase (.Name x p1) m X.env (eval (.Name x p1) X.env) = eval (.Name x p1) X.env := by rfl) :
    DE X G W (.Attribute (.Name x p1) m pos) (sfldD fx) := PE_imp (pe_fld (pe_var hN hv hd hcd) hb) fun sg H Q ⟨dl, Z, O, r, A, q⟩ => by
  unfold sfldD at q
  split at q
  case h_2 => exact q.elim
  rename_i d hr
  obtain ⟨a, ha, e0, ow, ko⟩ := A.slot 0 _ hr
  unfold fldD at q
  split at q
  · rename_i c ds
    split at q
    · rename_i j hj
      split at q
      · rename_i d hd
        obtain ⟨dx, vs, e, hl, rl⟩ := ow
        obtain ⟨h1, h2, h3, h4⟩ := hx c j hj
        obtain ⟨u, hu, ru⟩ := RepL.getD ds vs j d rl hd
        exact ⟨.ref a, e0, a, G.cls c, dx, _, u, rfl, e, h1, h2, lookup_zip h4 h3 hu, q u H (.refl _ _) A.gl ru⟩
      · exact q.elim
    · exact q.elim
  · exact q.elim
end
end DL
set_option Elab.async false
set_option linter.all false
set_option maxRecDepth 100000
set_option maxHeartbeats 1000000
namespace DL
open PySem L2 PySem.Spec PyProof.Rows
structure KOk (X : Cx) (G : Gm) (c : Nat) (f0 f1 f2 : Nat → Option Nat) : Prop where
  h0 : FldOk X G "shown" f0
  h1 : FldOk X G "deeds" f1
  h2 : FldOk X G "undone" f2
  e0 : f0 c = some 0
  e1 : f1 c = some 1
  e2 : f2 c = some 2
  len : (G.flds c).length = 3
  fn : ∀ n, G.fns n = n
theorem putF_set {m : Str} {v : V} : ∀ {ns : List Str} {vs : List V} {j : Nat}, ns.Nodup → ns[j]? = some m → j < vs.length → putF m v (ns.zip vs) = ns.zip (vs.set j v)
  | [], vs, j, _, h, _ => by simp at h
  | n :: ns, [], j, _, _, h => by simp at h
  | n :: ns, u :: vs, 0, nd, h, _ => by
    have : n = m := by simpa using h
    subst this
    simp [putF]
  | n :: ns, u :: vs, j + 1, nd, h, hj => by
    have h' : ns[j]? = some m := by simpa using h
    have hne : n ≠ m := fun e => by
      subst e
      exact (List.nodup_cons.mp nd).1 (List.mem_of_getElem? h')
    show (if n = m then _ else (n, u) :: putF m v (ns.zip vs)) = _
    rw [if_neg hne, putF_set (List.nodup_cons.mp nd).2 h' (by simpa using hj)]
    rfl
theorem GrowB.upd {dl : Addr} {as : List Addr} {H : Hp} {b : Addr} {o : HO} (hb : b ∈ as) : GrowB dl as H (L2.upd H b o) := fun x u e _ m _ => by
  have hx : x ≠ b := fun z => m (by rw [z]; exact hb)
  rw [upd_ne hx]
  exact e
section
variable {X : Cx} {G : Gm} {f0 f1 f2 : Nat → Option Nat} {dl : Addr} {Z : List Addr} {r : LE} {sg : L2.St} {H H' : Hp} {c : Nat} {a p q : Addr} {S : KS}
/-- self alone as it is, nothing owned -/
theorem MSt.un0 (M : MSt G c dl Z r sg H a p q S) : At G dl Z [] (r.set 0 .un) sg H := by
  have A := M.A
  refine ⟨A.gl, A.dz, A.live, fun x hx => (by cases hx), fun x hx => (by cases hx), by rw [List.length_set, A.len], fun j k e => ?_⟩
  rcases set_get e with ⟨rfl, rfl, hl⟩ | ⟨hn, e2⟩
  · trivial
  · have := A.slot j k e2
    cases k with
    | un => trivial
    | val d => exact this
    | own d =>
      obtain ⟨b, hb, e, q, ko⟩ := this
      have h1 : (kee j d, b) = (1000000, a) := List.mem_singleton.mp hb
      have h2 : kee j d = 1000000 := congrArg Prod.fst h1
      exfalso
      cases d <;> first | exact hn ko | exact ko h2
theorem stp_grow {Z' : List Addr} {O' : List (Nat × Addr)} (s : Stp dl Z [] H Z' O' H') : Grow dl H H' := fun a o e n nt => s.fr a o e n (fun p hp => (by cases hp)) nt
theorem stp_cut {Z' : List Addr} {O' : List (Nat × Addr)} (s : Stp dl Z [] H Z' O' H') : GrowS (cut H' Z') (cut H' Z) := cut_sub fun a ha => s.zk a ha fun p hp => (by cases hp)
theorem MSt.setv (M : MSt G c dl Z r sg H a p q S) {i : Nat} {d : D} {v : V} (hi : i ≠ 0) (rp : Rep G dl (cut H Z) d v) : MSt G c dl Z (r.set i (.val d)) (sg.set i (some v)) H a p q S :=
  ⟨M.A.set_val i rp, by rw [List.getElem?_set_ne hi]; exact M.r0, M.dk, M.pz, M.qz, M.pd, M.qd⟩
theorem MSt.on1 (M : MSt G c dl Z r sg H a p q S) {b : Addr} (h : b ≠ a) : ∀ x ∈ ([(1000000, a)] : List (Nat × Addr)), x.2 ≠ b := fun x hx => by
  have := List.mem_singleton.mp hx
  subst this
  exact fun z => h z.symm
theorem upd_tup {b : Addr} {us vs : List V} (e : H b = some (.lst us)) : ∀ t xs, H t = some (.tup xs) → (upd H b (.lst vs)) t = some (.tup xs) := fun t xs h => by
  rw [upd_ne fun z => by rw [z, e] at h; cases h]
  exact h
/-- the first list is written -/
theorem MSt.wp (M : MSt G c dl Z r sg H a p q S) {ds : List (List Nat × List Nat)} {vs : List V} (pr : PairsAt H ds vs) : MSt G c dl Z r sg (upd H p (.lst vs)) a p q { S with ds := ds } := by
  obtain ⟨us, e, _⟩ := M.dk.dl
  refine ⟨M.A.upd_z M.pz M.pd (M.on1 (fun z => M.dk.ap z.symm)) e, M.r0, ?_, M.pz, M.qz, M.pd, M.qd⟩
  obtain ⟨dx, e1⟩ := M.dk.top
  obtain ⟨ws, e2, r2⟩ := M.dk.ul
  exact ⟨⟨dx, by rw [upd_ne M.dk.ap]; exact e1⟩, ⟨vs, upd_same, pr.mono (upd_tup e)⟩, ⟨ws, by rw [upd_ne (fun z => M.dk.ne z.symm)]; exact e2, r2.mono (upd_tup e)⟩, M.dk.ne⟩
theorem MSt.wq (M : MSt G c dl Z r sg H a p q S) {ds : List (List Nat × List Nat)} {vs : List V} (pr : PairsAt H ds vs) : MSt G c dl Z r sg (upd H q (.lst vs)) a p q { S with un := ds } := by
  obtain ⟨us, e, _⟩ := M.dk.ul
  refine ⟨M.A.upd_z M.qz M.qd (M.on1 (fun z => M.dk.aq z.symm)) e, M.r0, ?_, M.pz, M.qz, M.pd, M.qd⟩
  obtain ⟨dx, e1⟩ := M.dk.top
  obtain ⟨ws, e2, r2⟩ := M.dk.dl
  exact ⟨⟨dx, by rw [upd_ne M.dk.aq]; exact e1⟩, ⟨ws, by rw [upd_ne M.dk.ne]; exact e2, r2.mono (upd_tup e)⟩, ⟨vs, upd_same, pr.mono (upd_tup e)⟩, M.dk.ne⟩
theorem upd_tupI {b : Addr} {C dx : Addr} {fs : List (Str × V)} {o : HO} (e : H b = some (.ins C dx fs)) : ∀ t xs, H t = some (.tup xs) → (upd H b o) t = some (.tup xs) := fun t xs h => by
  rw [upd_ne fun z => by rw [z, e] at h; cases h]
  exact h
/-- the instance itself is written -/
theorem MSt.wa (M : MSt G c dl Z r sg H a p q S) (hf : (G.flds c).length = 3) (fn : ∀ n, G.fns n = n) {sh : List Nat} {dx : Addr} : MSt G c dl Z (r.set 0 (.own (.ins c [.str sh, .fn p, .fn q]))) sg (upd H a (.ins (G.cls c) dx ((G.flds c).zip [sV sh, .ref p, .ref q]))) a p q { S with sh := sh } := by
  obtain ⟨d0, e⟩ := M.dk.top
  have hr : 0 < r.length := (List.getElem?_eq_some_iff.mp M.r0).1
  have ow : OwnAt G dl (cut H Z) (.ins c [.str sh, .fn p, .fn q]) (some (.ins (G.cls c) dx ((G.flds c).zip [sV sh, .ref p, .ref q]))) :=
    ⟨dx, [sV sh, .ref p, .ref q], rfl, by rw [hf]; exact Nat.le_refl 3, RepL.cons Rep.str_ (RepL.cons (by unfold Rep; rw [fn]) (RepL.cons (by unfold Rep; rw [fn]) RepL.nil))⟩
  refine ⟨M.A.write M.r0 List.mem_cons_self M.s0 ow rfl rfl, List.getElem?_set_self hr, ?_, M.pz, M.qz, M.pd, M.qd⟩
  obtain ⟨us, e1, r1⟩ := M.dk.dl
  obtain ⟨ws, e2, r2⟩ := M.dk.ul
  exact ⟨⟨dx, upd_same⟩, ⟨us, by rw [upd_ne (fun z => M.dk.ap z.symm)]; exact e1, r1.mono (upd_tupI e)⟩, ⟨ws, by rw [upd_ne (fun z => M.dk.aq z.symm)]; exact e2, r2.mono (upd_tupI e)⟩, M.dk.ne⟩
/-- a new second list -/
theorem MSt.wn (M : MSt G c dl Z r sg H a p q S) (hf : (G.flds c).length = 3) (fn : ∀ n, G.fns n = n) {p2 dx : Addr} (h2 : H p2 = none) :
    MSt G c dl (p2 :: Z) (r.set 0 (.own (.ins c [.str S.sh, .fn p, .fn p2]))) sg (upd (upd H p2 (.lst [])) a (.ins (G.cls c) dx ((G.flds c).zip [sV S.sh, .ref p, .ref p2]))) a p p2 { S with un := [] } := by
  obtain ⟨d0, e⟩ := M.dk.top
  obtain ⟨us, e1, r1⟩ := M.dk.dl
  have hr : 0 < r.length := (List.getElem?_eq_some_iff.mp M.r0).1
  have ow : OwnAt G dl (cut (upd H p2 (.lst [])) (p2 :: Z)) (.ins c [.str S.sh, .fn p, .fn p2]) (some (.ins (G.cls c) dx ((G.flds c).zip [sV S.sh, .ref p, .ref p2]))) :=
    ⟨dx, [sV S.sh, .ref p, .ref p2], rfl, by rw [hf]; exact Nat.le_refl 3, RepL.cons Rep.str_ (RepL.cons (by unfold Rep; rw [fn]) (RepL.cons (by unfold Rep; rw [fn]) RepL.nil))⟩
  have A1 := M.A.aside h2 (NT.lst [])
  have ap2 : a ≠ p2 := ne_of_none e h2
  have pp2 : p ≠ p2 := ne_of_none e1 h2
  refine ⟨A1.write M.r0 List.mem_cons_self M.s0 ow rfl rfl, List.getElem?_set_self hr, ?_, List.mem_cons_of_mem _ M.pz, List.mem_cons_self, M.pd, M.A.notdl h2⟩
  have kt : ∀ t xs, H t = some (.tup xs) → (upd (upd H p2 (.lst [])) a (.ins (G.cls c) dx ((G.flds c).zip [sV S.sh, .ref p, .ref p2]))) t = some (.tup xs) := fun t xs h => by
    have ha : t ≠ a := fun z => by rw [z, e] at h; cases h
    rw [upd_ne ha, upd_ne (ne_of_none h h2)]
    exact h
  exact ⟨⟨dx, upd_same⟩, ⟨us, by rw [upd_ne (fun z => M.dk.ap z.symm), upd_ne pp2]; exact e1, r1.mono kt⟩, ⟨[], by rw [upd_ne (fun z => ap2 z.symm), upd_same], .nil⟩, pp2⟩
theorem KOk.fld0 (K : KOk X G c f0 f1 f2) (M : MSt G c dl Z r sg H a p q S) {Q : VK} (h : Q (sV S.sh) H) : tFld X.K (tVar 0) "shown" sg H Q := by
  obtain ⟨dx, e⟩ := M.dk.top
  obtain ⟨k1, k2, k3, k4⟩ := K.h0 _ _ K.e0
  exact ⟨_, M.s0, a, G.cls c, dx, _, _, rfl, e, k1, k2, lookup_zip k4 k3 rfl, h⟩
theorem KOk.fld1 (K : KOk X G c f0 f1 f2) (M : MSt G c dl Z r sg H a p q S) {Q : VK} (h : Q (.ref p) H) : tFld X.K (tVar 0) "deeds" sg H Q := by
  obtain ⟨dx, e⟩ := M.dk.top
  obtain ⟨k1, k2, k3, k4⟩ := K.h1 _ _ K.e1
  exact ⟨_, M.s0, a, G.cls c, dx, _, _, rfl, e, k1, k2, lookup_zip k4 k3 rfl, h⟩
theorem KOk.fld2 (K : KOk X G c f0 f1 f2) (M : MSt G c dl Z r sg H a p q S) {Q : VK} (h : Q (.ref q) H) : tFld X.K (tVar 0) "undone" sg H Q := by
  obtain ⟨dx, e⟩ := M.dk.top
  obtain ⟨k1, k2, k3, k4⟩ := K.h2 _ _ K.e2
  exact ⟨_, M.s0, a, G.cls c, dx, _, _, rfl, e, k1, k2, lookup_zip k4 k3 rfl, h⟩
/-- self.shown = a text -/
theorem KOk.put0 (K : KOk X G c f0 f1 f2) {sh : List Nat} {u : List Nat} {dx : Addr} (e : H a = some (.ins (G.cls c) dx ((G.flds c).zip [sV u, .ref p, .ref q]))) {D : Ends} (h : D.nx sg (upd H a (.ins (G.cls c) dx ((G.flds c).zip [sV sh, .ref p, .ref q])))) :
    ∃ b C dx fs, V.ref a = .ref b ∧ H b = some (.ins C dx fs) ∧ Cls X.K C ∧ NoAttr X.K C "shown" ∧ fs.length < 1000 ∧ D.nx sg (upd H b (.ins C dx (putF "shown" (sV sh) fs))) := by
  obtain ⟨k1, k2, k3, k4⟩ := K.h0 _ _ K.e0
  refine ⟨a, _, dx, _, rfl, e, k1, k2, by rw [List.length_zip, K.len]; exact Nat.lt_of_le_of_lt (Nat.min_le_left _ _) (by decide), ?_⟩
  rw [putF_set k4 k3 (by simp)]
  exact h
theorem KOk.put2 (K : KOk X G c f0 f1 f2) {p2 : Addr} {u : V} {dx : Addr} (e : H a = some (.ins (G.cls c) dx ((G.flds c).zip [u, .ref p, .ref q]))) {D : Ends} (h : D.nx sg (upd H a (.ins (G.cls c) dx ((G.flds c).zip [u, .ref p, .ref p2])))) :
    ∃ b C dx fs, V.ref a = .ref b ∧ H b = some (.ins C dx fs) ∧ Cls X.K C ∧ NoAttr X.K C "undone" ∧ fs.length < 1000 ∧ D.nx sg (upd H b (.ins C dx (putF "undone" (.ref p2) fs))) := by
  obtain ⟨k1, k2, k3, k4⟩ := K.h2 _ _ K.e2
  refine ⟨a, _, dx, _, rfl, e, k1, k2, by rw [List.length_zip, K.len]; exact Nat.lt_of_le_of_lt (Nat.min_le_left _ _) (by decide), ?_⟩
  rw [putF_set k4 k3 (by simp)]
  exact h
end
/-- what a deed comes to -/
def tKs (G : Gm) (W : WX) (c n : Nat) (F : LE → KS → R KS) : TS := fun De σ H => ∃ dl Z r a p q S, MSt G c dl Z r σ H a p q S ∧ r.length = n ∧
  Wp (F r S) (fun S' => ∀ σ' q' H', GrowB dl [a, p, q] H H' → GlOk G dl H' → Dsk G c H' a p q' S' → (q' = q ∨ Free H q') → De.nx σ' H')
    (fun e => ∀ cls dx σ' H', GrowB dl [a, p, q] H H' → GlOk G dl H' → Dsk G c H' a p q S → XRep G dl (cut H' Z) e cls dx H' → W cls dx σ' H')
end DL
set_option Elab.async false
set_option linter.all false
set_option maxRecDepth 100000
set_option maxHeartbeats 1000000
namespace DL
open PySem L2 PySem.Spec PyProof.Rows
def undoK (xb : Nat) (S : KS) : R KS := match S.ds.getLast? with
  | some d => if S.un.length < 16777216 then .ok { sh := d.1, ds := S.ds.dropLast, un := S.un ++ [d] } else .stuck
  | none => .err ⟨xb, .non⟩
def redoK (xb : Nat) (S : KS) : R KS := match S.un.getLast? with
  | some d => if S.ds.length < 16777216 then .ok { sh := d.2, ds := S.ds ++ [d], un := S.un.dropLast } else .stuck
  | none => .err ⟨xb, .non⟩
theorem last_split {α : Type} {l : List α} {x : α} (h : l.getLast? = some x) : l = l.dropLast ++ [x] := by
  rw [List.getLast?_eq_some_iff] at h
  obtain ⟨ys, e⟩ := h
  rw [e, List.dropLast_concat]
theorem fldD_at {fx : Nat → Option Nat} {c j : Nat} {ds : List D} {d : D} (h1 : fx c = some j) (h2 : ds[j]? = some d) : fldD fx (.ins c ds) = .ok d := by simp [fldD, h1, h2]
section
variable {X : Cx} {G : Gm} {W : WX} {f0 f1 f2 : Nat → Option Nat} {c xb : Nat} {i n : Nat} {dn : Str} {sr : List Stmt}
variable {p1 p2 p3 p4 p9 p10 p11 p12 p13 p14 p15 p16 p17 p18 p19 p20 p21 p22 p23 p24 p25 p26 p27 : Pos} {j2 : Nat}
theorem pss_undo (K : KOk X G c f0 f1 f2) (hGK : G.K = X.K) (hu : X.A.units + 64 < cLine) (hr : DSs X G W sr (errS ⟨xb, .non⟩)) (hi : X.N[i]? = some dn) (hi0 : i ≠ 0) (hin : i < n) (hN : X.N.Nodup) (hN0 : X.N[0]? = some ("self" : Str)) (hv0 : Vis X.env.scope "self")
    (hvd : Vis X.env.scope dn) (hld : Loc X.env.scope dn) (hfd : X.fn dn = true ∨ X.env.scope.names.lookup dn = some .local) (hd : (dn == ("__debug__" : Str)) = false) (hcd : (dn == ("__classdict__" : Str)) = false)
    (hb1 : attributeBase (.Name "self" p1) "deeds" X.env (eval (.Name "self" p1) X.env) = eval (.Name "self" p1) X.env)
    (hb2 : attributeBase (.Name "self" p11) "deeds" X.env (eval (.Name "self" p11) X.env) = eval (.Name "self" p11) X.env)
    (hb3 : attributeBase (.Name "self" p16) "undone" X.env (eval (.Name "self" p16) X.env) = eval (.Name "self" p16) X.env)
    (hb4 : attributeBase (.Attribute (.Name "self" p11) "deeds" p12) "pop" X.env (eval (.Attribute (.Name "self" p11) "deeds" p12) X.env) = eval (.Attribute (.Name "self" p11) "deeds" p12) X.env)
    (hb5 : attributeBase (.Attribute (.Name "self" p16) "undone" p17) "append" X.env (eval (.Attribute (.Name "self" p16) "undone" p17) X.env) = eval (.Attribute (.Name "self" p16) "undone" p17) X.env)
    (hl1 : (p13.endLine == p14.line) = true) (hl2 : (p18.endLine == p20.line) = true)
    (hs1 : swapsWith (.Call (.Attribute (.Attribute (.Name "self" p11) "deeds" p12) "pop" p13) [] [] p14) (some (.Name dn p10)) p15.line X.env = pure false)
    (hs2 : swapsWith (.Call (.Attribute (.Attribute (.Name "self" p16) "undone" p17) "append" p18) [.Name dn p19] [] p20) none p21.line X.env = pure false)
    (hs3 : swapsWith (.Subscript (.Name dn p24) (.Constant (.int 0) j2 p25) p26) (some (.Attribute (.Name "self" p22) "shown" p23)) p27.line X.env = pure false)
    (hfew : ((backTo p20 (starEach [.Name dn p19] X.env)).all (fun x => !x.1) && (backToKw p20 (keywordEach [] X.env)).all (fun x => x.1.isSome)
      && decide ([Expr.Name dn p19].length + ([] : List Keyword).length + (if ([] : List Keyword).isEmpty then 0 else 1) < 30)) = true)
    (hst : starEach [.Name dn p19] X.env = (false, eval (.Name dn p19) X.env) :: starEach [] X.env) :
    PSs X [.If (.Compare (.Attribute (.Name "self" p1) "deeds" p2) [.Eq] [.List [] p3] p4) sr [] p9,
      .Assign [.Name dn p10] (.Call (.Attribute (.Attribute (.Name "self" p11) "deeds" p12) "pop" p13) [] [] p14) p15,
      .Expr (.Call (.Attribute (.Attribute (.Name "self" p16) "undone" p17) "append" p18) [.Name dn p19] [] p20) p21,
      .Assign [.Attribute (.Name "self" p22) "shown" p23] (.Subscript (.Name dn p24) (.Constant (.int 0) j2 p25) p26) p27] (tKs G W c n fun _ S => undoK xb S) := by
  refine PSs_imp (pss_cons (ps_if (dt_cmp (G := G) (W := W) (op_eqZ_d hGK hu) (DE.p (de_sfld K.h1 hN0 hv0 (hb := hb1))) (DE.p (DF.e (df_lst da_nil)))) hr pss_nil)
    (pss_cons (ps_set hN hi hld (pe_bm0 PySem.F.plainAttrs_list PySem.F.slot_list_pop PySem.F.type_list_pop mt_pop (pe_fld (pe_var (i := 0) hN0 hv0) hb2) hb4 hl1) hs1 hfd)
    (pss_cons (ps_expr (pe_bm PySem.F.plainAttrs_list PySem.F.slot_list_append PySem.F.type_list_append mt_append (pe_fld (pe_var (i := 0) hN0 hv0) hb3) (pa_cons (pe_var hi hvd hd hcd) pa_nil hst) hb5 hfew hl2 hst (by rfl)) hs2)
    (pss_one (ps_fld (pe_var (i := 0) hN0 hv0) (pe_ix ix_tup (pe_var hi hvd hd hcd) (pe_int (i := 0)) (fun _ _ => rfl)) hs3))))) fun De σ H ⟨dl, Z, r, a, p, q, S, M, hrl, h⟩ => ?_
  have hr0 : 0 < r.length := (List.getElem?_eq_some_iff.mp M.r0).1
  have hσ : i < σ.length := by rw [← M.A.len, hrl]; exact hin
  have hg : (r.set 0 (Cell.own (D.ins c (frzL S))))[0]? = some (Cell.own (D.ins c (frzL S))) := List.getElem?_set_self hr0
  refine ⟨dl, _, _, _, M.frz K.len, ?_⟩
  have ev : ((do let x ← sfldD f1 (r.set 0 (Cell.own (D.ins c (frzL S)))); let y ← ((lstE anil (r.set 0 (Cell.own (D.ins c (frzL S))))) >>= fun ds => R.ok (D.lst ds)); eqZ x y) >>= asB : R Bool) = .ok S.ds.isEmpty := by
    have e1 : sfldD f1 (r.set 0 (Cell.own (D.ins c (frzL S)))) = .ok (.lst (S.ds.map prD)) := by
      unfold sfldD
      rw [hg]
      exact fldD_at K.e1 rfl
    rw [e1]
    show (eqZ (.lst (S.ds.map prD)) (.lst []) >>= asB) = _
    rw [eqZ_nil, List.isEmpty_map]
    rfl
  show Wp (((do let x ← sfldD f1 (r.set 0 (Cell.own (D.ins c (frzL S)))); let y ← ((lstE anil (r.set 0 (Cell.own (D.ins c (frzL S))))) >>= fun ds => R.ok (D.lst ds)); eqZ x y) >>= asB : R Bool)) _ _
  rw [ev]
  intro H1 g1 k1
  have M1 := M.grow g1 k1
  change Wp (undoK xb S) _ _ at h
  unfold undoK at h
  cases hl : S.ds.getLast? with
  | none =>
    rw [hl] at h
    have he : S.ds = [] := List.getLast?_eq_none_iff.mp hl
    rw [he]
    exact ⟨dl, Z, [], _, M1.un0, fun Z' O' sg' H' cls dx st A' xr => h cls dx sg' H' (GrowB.of (g1.trans (stp_grow st))) A'.gl (M.dk.grow M.A.gl M.nd (g1.trans (stp_grow st))) (xr.mono (stp_cut st))⟩
  | some d =>
    rw [hl] at h
    have he := last_split hl
    have hne : S.ds.isEmpty = false := by rw [he]; simp
    rw [hne]
    change Wp (if S.un.length < 16777216 then R.ok _ else R.stuck) _ _ at h
    split at h
    case isFalse => exact h.elim
    rename_i hlen
    obtain ⟨vs, e1, r1⟩ := M1.dk.dl
    rw [he] at r1
    obtain ⟨t, us, rfl, r2, et⟩ := r1.split
    rw [if_neg Bool.false_ne_true]
    dsimp only [tNext, tSeq, tAsg, tBM0]
    refine K.fld1 M1 ?_
    refine ⟨.inl ⟨rfl, _, SqL.of e1⟩, p, _, .ref t, rfl, rfl, e1, by simp, ?_⟩
    rw [List.dropLast_concat]
    have M2 := M1.wp (ds := S.ds.dropLast) (vs := us) r2
    have et2 : (upd H1 p (.lst us)) t = some (.tup [sV d.1, sV d.2]) := upd_tup e1 _ _ et
    have rp : Rep G dl (cut (upd H1 p (.lst us)) Z) (prD d) (.ref t) := prD_rep (by rw [cut_out (M2.A.tupZ _ _ et2)]; exact et2)
    have M3 := M2.setv hi0 rp
    have hs : (σ.set i (some (V.ref t)))[i]? = some (some (V.ref t)) := List.getElem?_set_self hσ
    obtain ⟨ws, e3, r3⟩ := M3.dk.ul
    dsimp only [tSeq, gName, tDrop, tBM]
    refine K.fld2 M3 ?_
    refine ⟨.inl ⟨rfl, _, SqL.of e3⟩, .ref t, hs, q, ws, .ref t, rfl, rfl, e3, by rw [sizeLine_eq, r3.length]; exact hlen, ?_⟩
    have M4 := M3.wq (ds := S.un ++ [d]) (vs := ws ++ [.ref t]) (r3.append (.cons et2 .nil))
    have et4 := upd_tup (vs := ws ++ [.ref t]) e3 _ _ et2
    obtain ⟨dx, ed⟩ := M4.dk.top
    refine ⟨.ref t, hs, t, [sV d.1, sV d.2], 0, sV d.1, rfl, rfl, SqT.of et4, rfl, .ref a, M4.s0, ?_⟩
    refine K.put0 ed ?_
    have M5 := M4.wa (sh := d.1) (dx := dx) K.len K.fn
    exact h _ q _ ((((GrowB.of g1).trans (GrowB.upd (by simp))).trans (GrowB.upd (by simp))).trans (GrowB.upd (by simp))) M5.A.gl M5.dk (.inl rfl)
theorem pss_redo (K : KOk X G c f0 f1 f2) (hGK : G.K = X.K) (hu : X.A.units + 64 < cLine) (hr : DSs X G W sr (errS ⟨xb, .non⟩)) (hi : X.N[i]? = some dn) (hi0 : i ≠ 0) (hin : i < n) (hN : X.N.Nodup) (hN0 : X.N[0]? = some ("self" : Str)) (hv0 : Vis X.env.scope "self")
    (hvd : Vis X.env.scope dn) (hld : Loc X.env.scope dn) (hfd : X.fn dn = true ∨ X.env.scope.names.lookup dn = some .local) (hd : (dn == ("__debug__" : Str)) = false) (hcd : (dn == ("__classdict__" : Str)) = false)
    (hb1 : attributeBase (.Name "self" p1) "undone" X.env (eval (.Name "self" p1) X.env) = eval (.Name "self" p1) X.env)
    (hb2 : attributeBase (.Name "self" p11) "undone" X.env (eval (.Name "self" p11) X.env) = eval (.Name "self" p11) X.env)
    (hb3 : attributeBase (.Name "self" p16) "deeds" X.env (eval (.Name "self" p16) X.env) = eval (.Name "self" p16) X.env)
    (hb4 : attributeBase (.Attribute (.Name "self" p11) "undone" p12) "pop" X.env (eval (.Attribute (.Name "self" p11) "undone" p12) X.env) = eval (.Attribute (.Name "self" p11) "undone" p12) X.env)
    (hb5 : attributeBase (.Attribute (.Name "self" p16) "deeds" p17) "append" X.env (eval (.Attribute (.Name "self" p16) "deeds" p17) X.env) = eval (.Attribute (.Name "self" p16) "deeds" p17) X.env)
    (hl1 : (p13.endLine == p14.line) = true) (hl2 : (p18.endLine == p20.line) = true)
    (hs1 : swapsWith (.Call (.Attribute (.Attribute (.Name "self" p11) "undone" p12) "pop" p13) [] [] p14) (some (.Name dn p10)) p15.line X.env = pure false)
    (hs2 : swapsWith (.Call (.Attribute (.Attribute (.Name "self" p16) "deeds" p17) "append" p18) [.Name dn p19] [] p20) none p21.line X.env = pure false)
    (hs3 : swapsWith (.Subscript (.Name dn p24) (.Constant (.int 1) j2 p25) p26) (some (.Attribute (.Name "self" p22) "shown" p23)) p27.line X.env = pure false)
    (hfew : ((backTo p20 (starEach [.Name dn p19] X.env)).all (fun x => !x.1) && (backToKw p20 (keywordEach [] X.env)).all (fun x => x.1.isSome)
      && decide ([Expr.Name dn p19].length + ([] : List Keyword).length + (if ([] : List Keyword).isEmpty then 0 else 1) < 30)) = true)
    (hst : starEach [.Name dn p19] X.env = (false, eval (.Name dn p19) X.env) :: starEach [] X.env) :
    PSs X [.If (.Compare (.Attribute (.Name "self" p1) "undone" p2) [.Eq] [.List [] p3] p4) sr [] p9,
      .Assign [.Name dn p10] (.Call (.Attribute (.Attribute (.Name "self" p11) "undone" p12) "pop" p13) [] [] p14) p15,
      .Expr (.Call (.Attribute (.Attribute (.Name "self" p16) "deeds" p17) "append" p18) [.Name dn p19] [] p20) p21,
      .Assign [.Attribute (.Name "self" p22) "shown" p23] (.Subscript (.Name dn p24) (.Constant (.int 1) j2 p25) p26) p27] (tKs G W c n fun _ S => redoK xb S) := by
  refine PSs_imp (pss_cons (ps_if (dt_cmp (G := G) (W := W) (op_eqZ_d hGK hu) (DE.p (de_sfld K.h2 hN0 hv0 (hb := hb1))) (DE.p (DF.e (df_lst da_nil)))) hr pss_nil)
    (pss_cons (ps_set hN hi hld (pe_bm0 PySem.F.plainAttrs_list PySem.F.slot_list_pop PySem.F.type_list_pop mt_pop (pe_fld (pe_var (i := 0) hN0 hv0) hb2) hb4 hl1) hs1 hfd)
    (pss_cons (ps_expr (pe_bm PySem.F.plainAttrs_list PySem.F.slot_list_append PySem.F.type_list_append mt_append (pe_fld (pe_var (i := 0) hN0 hv0) hb3) (pa_cons (pe_var hi hvd hd hcd) pa_nil hst) hb5 hfew hl2 hst (by rfl)) hs2)
    (pss_one (ps_fld (pe_var (i := 0) hN0 hv0) (pe_ix ix_tup (pe_var hi hvd hd hcd) (pe_int (i := 1)) (fun _ _ => rfl)) hs3))))) fun De σ H ⟨dl, Z, r, a, p, q, S, M, hrl, h⟩ => ?_
  have hr0 : 0 < r.length := (List.getElem?_eq_some_iff.mp M.r0).1
  have hσ : i < σ.length := by rw [← M.A.len, hrl]; exact hin
  have hg : (r.set 0 (Cell.own (D.ins c (frzL S))))[0]? = some (Cell.own (D.ins c (frzL S))) := List.getElem?_set_self hr0
  refine ⟨dl, _, _, _, M.frz K.len, ?_⟩
  have ev : ((do let x ← sfldD f2 (r.set 0 (Cell.own (D.ins c (frzL S)))); let y ← ((lstE anil (r.set 0 (Cell.own (D.ins c (frzL S))))) >>= fun ds => R.ok (D.lst ds)); eqZ x y) >>= asB : R Bool) = .ok S.un.isEmpty := by
    have e1 : sfldD f2 (r.set 0 (Cell.own (D.ins c (frzL S)))) = .ok (.lst (S.un.map prD)) := by
      unfold sfldD
      rw [hg]
      exact fldD_at K.e2 rfl
    rw [e1]
    show (eqZ (.lst (S.un.map prD)) (.lst []) >>= asB) = _
    rw [eqZ_nil, List.isEmpty_map]
    rfl
  show Wp (((do let x ← sfldD f2 (r.set 0 (Cell.own (D.ins c (frzL S)))); let y ← ((lstE anil (r.set 0 (Cell.own (D.ins c (frzL S))))) >>= fun ds => R.ok (D.lst ds)); eqZ x y) >>= asB : R Bool)) _ _
  rw [ev]
  intro H1 g1 k1
  have M1 := M.grow g1 k1
  change Wp (redoK xb S) _ _ at h
  unfold redoK at h
  cases hl : S.un.getLast? with
  | none =>
    rw [hl] at h
    have he : S.un = [] := List.getLast?_eq_none_iff.mp hl
    rw [he]
    exact ⟨dl, Z, [], _, M1.un0, fun Z' O' sg' H' cls dx st A' xr => h cls dx sg' H' (GrowB.of (g1.trans (stp_grow st))) A'.gl (M.dk.grow M.A.gl M.nd (g1.trans (stp_grow st))) (xr.mono (stp_cut st))⟩
  | some d =>
    rw [hl] at h
    have he := last_split hl
    have hne : S.un.isEmpty = false := by rw [he]; simp
    rw [hne]
    change Wp (if S.ds.length < 16777216 then R.ok _ else R.stuck) _ _ at h
    split at h
    case isFalse => exact h.elim
    rename_i hlen
    obtain ⟨vs, e1, r1⟩ := M1.dk.ul
    rw [he] at r1
    obtain ⟨t, us, rfl, r2, et⟩ := r1.split
    rw [if_neg Bool.false_ne_true]
    dsimp only [tNext, tSeq, tAsg, tBM0]
    refine K.fld2 M1 ?_
    refine ⟨.inl ⟨rfl, _, SqL.of e1⟩, q, _, .ref t, rfl, rfl, e1, by simp, ?_⟩
    rw [List.dropLast_concat]
    have M2 := M1.wq (ds := S.un.dropLast) (vs := us) r2
    have et2 : (upd H1 q (.lst us)) t = some (.tup [sV d.1, sV d.2]) := upd_tup e1 _ _ et
    have rp : Rep G dl (cut (upd H1 q (.lst us)) Z) (prD d) (.ref t) := prD_rep (by rw [cut_out (M2.A.tupZ _ _ et2)]; exact et2)
    have M3 := M2.setv hi0 rp
    have hs : (σ.set i (some (V.ref t)))[i]? = some (some (V.ref t)) := List.getElem?_set_self hσ
    obtain ⟨ws, e3, r3⟩ := M3.dk.dl
    dsimp only [tSeq, gName, tDrop, tBM]
    refine K.fld1 M3 ?_
    refine ⟨.inl ⟨rfl, _, SqL.of e3⟩, .ref t, hs, p, ws, .ref t, rfl, rfl, e3, by rw [sizeLine_eq, r3.length]; exact hlen, ?_⟩
    have M4 := M3.wp (ds := S.ds ++ [d]) (vs := ws ++ [.ref t]) (r3.append (.cons et2 .nil))
    have et4 := upd_tup (vs := ws ++ [.ref t]) e3 _ _ et2
    obtain ⟨dx, ed⟩ := M4.dk.top
    refine ⟨.ref t, hs, t, [sV d.1, sV d.2], 1, sV d.2, rfl, rfl, SqT.of et4, rfl, .ref a, M4.s0, ?_⟩
    refine K.put0 ed ?_
    have M5 := M4.wa (sh := d.2) (dx := dx) K.len K.fn
    exact h _ q _ ((((GrowB.of g1).trans (GrowB.upd (by simp))).trans (GrowB.upd (by simp))).trans (GrowB.upd (by simp))) M5.A.gl M5.dk (.inl rfl)
end
end DL
set_option Elab.async false
set_option linter.all false
set_option maxRecDepth 100000
set_option maxHeartbeats 1000000
namespace DL
open PySem L2 PySem.Spec PyProof.Rows
def noteB (t sh : List Nat) : Bool := t == sh || decide (900 < t.length)
def noteK (xb : Nat) (t : List Nat) (S : KS) : R KS := if 16777216 < t.length then .stuck else if noteB t S.sh = true then .err ⟨xb, .non⟩ else if S.ds.length < 16777216 then .ok { sh := t, ds := S.ds ++ [(S.sh, t)], un := [] } else .stuck
def noteS (xb : Nat) : LE → KS → R KS := fun r S => match (r[1]? : Option Cell) with
  | some (Cell.val (D.str t)) => noteK xb t S
  | _ => .stuck
section
variable {X : Cx} {G : Gm} {W : WX} {f0 f1 f2 : Nat → Option Nat} {c xb n : Nat} {sr : List Stmt} {te : Expr} {hT : LE → R Bool} {sn : Str}
variable {p9 p16 p17 p18 p19 p20 p21 p22 p23 p24 p25 p26 p27 p28 p29 p30 p31 p32 : Pos} {j2 : Nat}
theorem pss_note (K : KOk X G c f0 f1 f2) (ht : DT X G W te hT) (hv : ∀ (r : LE) (S : KS) (t : List Nat), r[0]? = some (.own (.ins c (frzL S))) → r[1]? = some (.val (.str t)) → t.length ≤ 16777216 → hT r = .ok (noteB t S.sh))
    (hr : DSs X G W sr (errS ⟨xb, .non⟩)) (hN : X.N.Nodup) (hN0 : X.N[0]? = some ("self" : Str)) (hv0 : Vis X.env.scope "self") (hi : X.N[1]? = some sn)
    (hvd : Vis X.env.scope sn) (hd : (sn == ("__debug__" : Str)) = false) (hcd : (sn == ("__classdict__" : Str)) = false)
    (hb1 : attributeBase (.Name "self" p21) "shown" X.env (eval (.Name "self" p21) X.env) = eval (.Name "self" p21) X.env)
    (hb3 : attributeBase (.Name "self" p16) "deeds" X.env (eval (.Name "self" p16) X.env) = eval (.Name "self" p16) X.env)
    (hb5 : attributeBase (.Attribute (.Name "self" p16) "deeds" p17) "append" X.env (eval (.Attribute (.Name "self" p16) "deeds" p17) X.env) = eval (.Attribute (.Name "self" p16) "deeds" p17) X.env)
    (hl2 : (p18.endLine == p20.line) = true)
    (hs2 : swapsWith (.Call (.Attribute (.Attribute (.Name "self" p16) "deeds" p17) "append" p18) [.Tuple [.Attribute (.Name "self" p21) "shown" p22, .Name sn p23] j2 p24] [] p20) none p25.line X.env = pure false)
    (hs3 : swapsWith (.List [] p28) (some (.Attribute (.Name "self" p26) "undone" p27)) p29.line X.env = pure false)
    (hs4 : swapsWith (.Name sn p32) (some (.Attribute (.Name "self" p30) "shown" p31)) p9.line X.env = pure false)
    (hfew : ((backTo p20 (starEach [.Tuple [.Attribute (.Name "self" p21) "shown" p22, .Name sn p23] j2 p24] X.env)).all (fun x => !x.1) && (backToKw p20 (keywordEach [] X.env)).all (fun x => x.1.isSome)
      && decide ([Expr.Tuple [.Attribute (.Name "self" p21) "shown" p22, .Name sn p23] j2 p24].length + ([] : List Keyword).length + (if ([] : List Keyword).isEmpty then 0 else 1) < 30)) = true)
    (hst : starEach [.Tuple [.Attribute (.Name "self" p21) "shown" p22, .Name sn p23] j2 p24] X.env = (false, eval (.Tuple [.Attribute (.Name "self" p21) "shown" p22, .Name sn p23] j2 p24) X.env) :: starEach [] X.env)
    (hst2 : starEach [.Attribute (.Name "self" p21) "shown" p22, .Name sn p23] X.env = (false, eval (.Attribute (.Name "self" p21) "shown" p22) X.env) :: starEach [.Name sn p23] X.env)
    (hst3 : starEach [.Name sn p23] X.env = (false, eval (.Name sn p23) X.env) :: starEach [] X.env) :
    PSs X [.If te sr [] p19,
      .Expr (.Call (.Attribute (.Attribute (.Name "self" p16) "deeds" p17) "append" p18) [.Tuple [.Attribute (.Name "self" p21) "shown" p22, .Name sn p23] j2 p24] [] p20) p25,
      .Assign [.Attribute (.Name "self" p26) "undone" p27] (.List [] p28) p29,
      .Assign [.Attribute (.Name "self" p30) "shown" p31] (.Name sn p32) p9] (tKs G W c n (noteS xb)) := by
  refine PSs_imp (pss_cons (ps_if ht hr pss_nil)
    (pss_cons (ps_expr (pe_bm PySem.F.plainAttrs_list PySem.F.slot_list_append PySem.F.type_list_append mt_append (pe_fld (pe_var (i := 0) hN0 hv0) hb3) (pa_cons (pe_tup (pa_cons (pe_fld (pe_var (i := 0) hN0 hv0) hb1) (pa_cons (pe_var hi hvd hd hcd) pa_nil hst3) hst2)) pa_nil hst) hb5 hfew hl2 hst (by rfl)) hs2)
    (pss_cons (ps_fld (pe_var (i := 0) hN0 hv0) (pe_lst pa_nil) hs3)
    (pss_one (ps_fld (pe_var (i := 0) hN0 hv0) (pe_var hi hvd hd hcd) hs4))))) fun De σ H ⟨dl, Z, r, a, p, q, S, M, hrl, h⟩ => ?_
  have hr0 : 0 < r.length := (List.getElem?_eq_some_iff.mp M.r0).1
  have hg : (r.set 0 (Cell.own (D.ins c (frzL S))))[0]? = some (Cell.own (D.ins c (frzL S))) := List.getElem?_set_self hr0
  unfold noteS at h
  split at h
  case h_2 => exact h.elim
  rename_i t ht1
  obtain ⟨vt, s1, rt⟩ := M.A.slot 1 _ ht1
  have evt : vt = sV t := by unfold Rep at rt; exact rt
  subst evt
  refine ⟨dl, _, _, _, M.frz K.len, ?_⟩
  unfold noteK at h
  split at h
  case isTrue => exact h.elim
  rename_i htl
  rw [hv _ S t hg (by rw [List.getElem?_set_ne (by decide)]; exact ht1) (by omega)]
  intro H1 g1 k1
  have M1 := M.grow g1 k1
  cases hb : noteB t S.sh with
  | true =>
    rw [if_pos hb] at h
    rw [if_pos rfl]
    exact ⟨dl, Z, [], _, M1.un0, fun Z' O' sg' H' cls dx st A' xr => h cls dx sg' H' (GrowB.of (g1.trans (stp_grow st))) A'.gl (M.dk.grow M.A.gl M.nd (g1.trans (stp_grow st))) (xr.mono (stp_cut st))⟩
  | false =>
    rw [if_neg (by rw [hb]; exact Bool.false_ne_true)] at h
    rw [if_neg Bool.false_ne_true]
    split at h
    case isFalse => exact h.elim
    rename_i hlen
    dsimp only [tNext, tSeq, tDrop, tBM]
    refine K.fld1 M1 ?_
    obtain ⟨vs, e1, r1⟩ := M1.dk.dl
    refine ⟨.inl ⟨rfl, _, SqL.of e1⟩, ?_⟩
    dsimp only [tCons, tTup]
    refine K.fld0 M1 ?_
    refine ⟨sV t, s1, ?_, fun tp htp => ?_⟩
    · rw [sizeLine_eq]; exact Nat.le_of_ble_eq_true rfl
    have M2 := M1.grow (Grow.new (o := .tup [sV S.sh, sV t]) htp) (k1.new htp)
    have et : (upd H1 tp (.tup [sV S.sh, sV t])) tp = some (.tup [sV S.sh, sV t]) := upd_same
    obtain ⟨vs, e2, r2⟩ := M2.dk.dl
    refine ⟨p, vs, .ref tp, rfl, rfl, e2, by rw [sizeLine_eq, r2.length]; exact hlen, ?_⟩
    have M3 := M2.wp (ds := S.ds ++ [(S.sh, t)]) (vs := vs ++ [.ref tp]) (r2.append (.cons et .nil))
    refine ⟨by decide, fun p2 hp2 => ?_⟩
    obtain ⟨dx, ed⟩ := M3.dk.top
    have ap2 : a ≠ p2 := ne_of_none ed hp2
    have ed2 : (upd (upd (upd H1 tp (.tup [sV S.sh, sV t])) p (.lst (vs ++ [.ref tp]))) p2 (.lst [])) a = some (.ins (G.cls c) dx ((G.flds c).zip [sV S.sh, .ref p, .ref q])) := by
      rw [upd_ne ap2]; exact ed
    refine ⟨.ref a, M3.s0, K.put2 ed2 ?_⟩
    have M4 := M3.wn (dx := dx) K.len K.fn hp2
    obtain ⟨dx', ed'⟩ := M4.dk.top
    refine ⟨sV t, s1, .ref a, M4.s0, K.put0 ed' ?_⟩
    have M5 := M4.wa (sh := t) (dx := dx') K.len K.fn
    have nt : ∀ ps, HO.lst ([] : List V) ≠ .tbl ps := fun ps z => by cases z
    have gA : GrowB dl [a, p, q] H (upd (upd H1 tp (.tup [sV S.sh, sV t])) p (.lst (vs ++ [.ref tp]))) := ((GrowB.of g1).trans (GrowB.of (Grow.new htp))).trans (GrowB.upd (by simp))
    refine h _ p2 _ (((gA.trans (GrowB.of (Grow.new hp2))).trans (GrowB.upd (by simp))).trans (GrowB.upd (by simp))) M5.A.gl M5.dk (.inr ?_)
    refine g1.dom k1 p2 (Free.of ?_)
    have n1 : p2 ≠ p := fun z => by rw [z, upd_same] at hp2; cases hp2
    rw [upd_ne n1] at hp2
    have n2 : p2 ≠ tp := fun z => by rw [z, upd_same] at hp2; cases hp2
    rw [upd_ne n2] at hp2
    exact hp2
end
/-- what a new one is like -/
def NewDsk (G : Gm) (c : Nat) (H : Hp) (a : Addr) (sh : List Nat) (H' : Hp) : Prop := ∃ dx p q, H a = some (.ins (G.cls c) dx []) ∧ H p = none ∧ H q = none ∧ p ≠ q ∧
  H' = upd (upd (upd (upd (upd H a (.ins (G.cls c) dx ((G.flds c).zip [sV sh]))) p (.lst [])) a (.ins (G.cls c) dx ((G.flds c).zip [sV sh, .ref p]))) q (.lst [])) a (.ins (G.cls c) dx ((G.flds c).zip [sV sh, .ref p, .ref q]))
def tInit (G : Gm) (c : Nat) (sh : List Nat) : TS := fun De σ H => ∃ a dx, σ[0]? = some (some (.ref a)) ∧ H a = some (.ins (G.cls c) dx []) ∧ ∀ H', NewDsk G c H a sh H' → De.nx σ H'
section
variable {X : Cx} {G : Gm} {f0 f1 f2 : Nat → Option Nat} {c : Nat} {sh : List Nat} {ss : Str} {j : Nat}
variable {p1 p2 p3 p4 p5 p6 p7 p8 p9 p10 p11 p12 : Pos}
theorem pss_init (K : KOk X G c f0 f1 f2) (hss : ss = ⟨sh.toArray⟩) (hN0 : X.N[0]? = some ("self" : Str)) (hv0 : Vis X.env.scope "self")
    (hs1 : swapsWith (.Constant (.str ss) j p3) (some (.Attribute (.Name "self" p1) "shown" p2)) p4.line X.env = pure false)
    (hs2 : swapsWith (.List [] p7) (some (.Attribute (.Name "self" p5) "deeds" p6)) p8.line X.env = pure false)
    (hs3 : swapsWith (.List [] p11) (some (.Attribute (.Name "self" p9) "undone" p10)) p12.line X.env = pure false) :
    PSs X [.Assign [.Attribute (.Name "self" p1) "shown" p2] (.Constant (.str ss) j p3) p4,
      .Assign [.Attribute (.Name "self" p5) "deeds" p6] (.List [] p7) p8,
      .Assign [.Attribute (.Name "self" p9) "undone" p10] (.List [] p11) p12] (tInit G c sh) := by
  subst hss
  refine PSs_imp (pss_cons (ps_fld (pe_var (i := 0) hN0 hv0) pe_str hs1) (pss_cons (ps_fld (pe_var (i := 0) hN0 hv0) (pe_lst pa_nil) hs2) (pss_one (ps_fld (pe_var (i := 0) hN0 hv0) (pe_lst pa_nil) hs3)))) fun De σ H ⟨a, dx, s0, e, h⟩ => ?_
  obtain ⟨k1, k2, k3, k4⟩ := K.h0 _ _ K.e0
  obtain ⟨l1, l2, l3, l4⟩ := K.h1 _ _ K.e1
  obtain ⟨m1, m2, m3, m4⟩ := K.h2 _ _ K.e2
  refine ⟨.ref a, s0, a, _, dx, [], rfl, e, k1, k2, by decide, ?_⟩
  have e1 : putF "shown" (sV sh) ((G.flds c).zip []) = (G.flds c).zip [sV sh] := putF_zip k4 k3
  rw [List.zip_nil_right] at e1
  refine ⟨by decide, fun p hp => ?_⟩
  have hpa : p ≠ a := fun z => by rw [z, upd_same] at hp; cases hp
  refine ⟨.ref a, s0, a, _, dx, (G.flds c).zip [sV sh], rfl, ?_, l1, l2, ?_, ?_⟩
  · rw [upd_ne (fun z => hpa z.symm), upd_same]
    exact congrArg (fun z => some (HO.ins (G.cls c) dx z)) e1
  · rw [List.length_zip, K.len]; exact Nat.lt_of_le_of_lt (Nat.min_le_left _ _) (by decide)
  rw [putF_zip (vs := [sV sh]) l4 l3]
  refine ⟨by decide, fun q hq => ?_⟩
  have hqa : q ≠ a := fun z => by rw [z, upd_same] at hq; cases hq
  refine ⟨.ref a, s0, a, _, dx, (G.flds c).zip [sV sh, .ref p], rfl, ?_, m1, m2, ?_, ?_⟩
  · rw [upd_ne (fun z => hqa z.symm), upd_same]; rfl
  · rw [List.length_zip, K.len]; exact Nat.lt_of_le_of_lt (Nat.min_le_left _ _) (by decide)
  rw [putF_zip (vs := [sV sh, .ref p]) m4 m3]
  rw [upd_ne hqa] at hq
  have hqp : q ≠ p := fun z => by rw [z, upd_same] at hq; cases hq
  rw [upd_ne hqp, upd_ne hqa] at hq
  rw [upd_ne hpa] at hp
  refine h _ ⟨dx, p, q, e, hp, hq, fun z => hqp z.symm, ?_⟩
  show upd (upd (upd (upd (upd H a (.ins (G.cls c) dx (putF "shown" (sV sh) []))) p (.lst [])) a _) q (.lst [])) a _ = _
  rw [e1]
  rfl
end
end DL
set_option Elab.async false
set_option linter.all false
set_option maxRecDepth 100000
set_option maxHeartbeats 1000000
namespace DL
open PySem L2 PySem.Spec PyProof.Rows
def R.all {α : Type} (P : α → Prop) : R α → Prop
  | .ok a => P a
  | .roll _ f => ∀ i, (f i).all P
  | _ => True
theorem all_wp {α : Type} {P Q : α → Prop} {E : Exc → Prop} : ∀ {m : R α}, m.all P → Wp m Q E → Wp m (fun a => P a ∧ Q a) E
  | .ok _, h, q => ⟨h, q⟩
  | .err _, _, q => q
  | .stuck, _, q => q
  | .roll _ _, h, q => fun i hi => all_wp (h i) (q i hi)
/-- the state that a deed is called in -/
structure DAt (G : Gm) (c : Nat) (dl : Addr) (Z : List Addr) (H : Hp) (a p q : Addr) (S : KS) : Prop where
  gl : GlOk G dl H
  dz : dl ∈ Z
  live : Live Z H
  az : a ∈ Z
  pz : p ∈ Z
  qz : q ∈ Z
  nd : a ≠ dl ∧ p ≠ dl ∧ q ≠ dl
  dk : Dsk G c H a p q S
def spKs (G : Gm) (c n : Nat) (g : List D → KS → R KS) : Sp := fun vs H Q E => vs.length = n + 1 ∧ ∃ dl Z ds a p q S us, vs = .ref a :: us ∧ DAt G c dl Z H a p q S ∧ RepL G dl (cut H Z) ds us ∧
  Wp (g ds S) (fun S' => ∀ q' H', GrowB dl [a, p, q] H H' → GlOk G dl H' → Dsk G c H' a p q' S' → (q' = q ∨ Free H q') → Q .non H')
    (fun e => ∀ cls dx H', GrowB dl [a, p, q] H H' → GlOk G dl H' → Dsk G c H' a p q S → XRep G dl (cut H' Z) e cls dx H' → E cls dx H')
def kstart (c p q m : Nat) (S : KS) (ds : List D) : LE := Cell.own (.ins c [.str S.sh, .fn p, .fn q]) :: (ds.map Cell.val ++ List.replicate (m - ds.length - 1) Cell.un)
section
variable (P : Program) (w : World) (K : PySem.W.Frag) (mg : Str → Option Value) (base : Heap)
structure KeD (G : Gm) (k : Nat) (c : Nat) (m : Str) (n : Nat) (g : List D → KS → R KS) : Prop where
  ex : ∃ (f : Addr) (fd : FuncData) (ps : List Str), ps.length = n + 1 ∧ FnOk P w K mg base (LG.CX P w) k f fd ps (spKs G c n g) ∧ Binds K fd ps [] ∧ Meth K (G.cls c) m f
  cl : Cls K (G.cls c)
  nf : m ∉ G.flds c
end
section
variable {P : Program} {w : World} {K : PySem.W.Frag} {mg : Str → Option Value} {base : Heap} {G : Gm} {x qual : Str} {st : Stmt} {f : Addr} {fd : FuncData} {N ps : List Str} {k n m c : Nat} {F : LE → KS → R KS} {g : List D → KS → R KS}
theorem fnOk_K (fn : ∀ n, G.fns n = n) (hfl : (G.flds c).length = 3) (Fn : Fun K x qual st f fd) (S : FnScope N ps (defScope st)) (hn : ps.length = n + 1) (hm : N.length = m) (hF : ∀ p q ds S, ds.length = n → F (kstart c p q m S ds) S = g ds S)
    (hb : ∀ cdv A outer s H E, Room k (A.deeper (envOfC qual (defScope st) s.heap.objs.size f cdv)) → PSs (cxD P w K mg base N qual st f cdv A outer s H E) (defBody st) (tKs G (WD E) c m F)) :
    FnOk P w K mg base (LG.CX P w) (k + 1) f fd ps (spKs G c n g) := by
  refine fun_okG Fn S (fun vs H Q E h => by rw [hn]; exact h.1) fun cdv A outer s H vs Q E hr h => ⟨_, hb cdv A outer s H E hr, ?_⟩
  obtain ⟨hl, dl, Z, ds, a, p, q, S0, us, rfl, d, rl, hw⟩ := h
  have hpl : ps.length ≤ N.length := by have := congrArg List.length S.pre; rw [List.length_take] at this; omega
  have hl2 := rl.length
  rw [List.length_cons] at hl
  have hdn : ds.length = n := by omega
  obtain ⟨dx, e1⟩ := d.dk.top
  have A0 : At G dl Z [(1000000, a)] (kstart c p q m S0 ds) (L2.start N (V.ref a :: us)) H := by
    refine ⟨d.gl, d.dz, d.live, fun x hx => ?_, fun x hx y hy e => ?_, ?_, fun i c' e => ?_⟩
    · rw [List.mem_singleton] at hx
      subst hx
      exact ⟨d.az, d.nd.1⟩
    · rw [List.mem_singleton] at hx hy
      rw [hx, hy]
    · unfold L2.start kstart
      simp only [List.length_cons, List.length_append, List.length_map, List.length_replicate]
      omega
    · cases i with
      | zero =>
        cases e
        refine ⟨a, List.mem_singleton.mpr rfl, rfl, ?_, rfl⟩
        exact ⟨dx, _, e1, by rw [hfl]; exact Nat.le_refl 3, RepL.cons Rep.str_ (RepL.cons (by unfold Rep; rw [fn]) (RepL.cons (by unfold Rep; rw [fn]) RepL.nil))⟩
      | succ i =>
        have e' : (ds.map Cell.val ++ List.replicate (m - ds.length - 1) Cell.un)[i]? = some c' := e
        by_cases hi : i < ds.length
        · rw [List.getElem?_append_left (by simpa using hi), List.getElem?_map, List.getElem?_eq_getElem hi] at e'
          cases e'
          obtain ⟨v, h1, h2⟩ := RepL.getD ds us i ds[i] rl (by simp)
          refine ⟨v, ?_, h2⟩
          unfold L2.start
          rw [List.getElem?_append_left (by rw [List.length_map, List.length_cons]; omega), List.getElem?_map, List.getElem?_cons_succ, h1]
          rfl
        · rw [List.getElem?_append_right (by simpa using hi), List.getElem?_replicate] at e'
          split at e'
          · cases e'; trivial
          · cases e'
  refine ⟨dl, Z, _, a, p, q, S0, ⟨A0, rfl, d.dk, d.pz, d.qz, d.nd.2.1, d.nd.2.2⟩, ?_, ?_⟩
  · unfold kstart
    simp only [List.length_cons, List.length_append, List.length_map, List.length_replicate]
    omega
  rw [hF p q ds S0 hdn]
  exact hw.mono (fun S' h σ' q' H' g k d fr => h q' H' g k d fr) fun e h cls dx σ' H' g k d xr => h cls dx H' g k d xr
theorem keD_of (fn : ∀ n, G.fns n = n) (hfl : (G.flds c).length = 3) (Fn : Fun K x qual st f fd) (S : FnScope N ps (defScope st)) (bd : Binds K fd ps []) (mt : Meth K (G.cls c) x f) (cl : Cls K (G.cls c)) (nf : x ∉ G.flds c) (hn : ps.length = n + 1) (hm : N.length = m)
    (hF : ∀ p q ds S, ds.length = n → F (kstart c p q m S ds) S = g ds S)
    (hb : ∀ cdv A outer s H E, Room k (A.deeper (envOfC qual (defScope st) s.heap.objs.size f cdv)) → PSs (cxD P w K mg base N qual st f cdv A outer s H E) (defBody st) (tKs G (WD E) c m F)) :
    KeD P w K mg base G (k + 1) c x n g := ⟨⟨f, fd, ps, hn, fnOk_K fn hfl Fn S hn hm hF hb, bd, mt⟩, cl, nf⟩
end
def Keep0 (F : LE → R Out) : Prop := ∀ r, (F r).all fun o => match o with
  | .nx r' => r'[0]? = r[0]?
  | .ex _ r' => r'[0]? = r[0]?
  | _ => False
def endN (xb : Nat) (fe : LE → R D) (S : KS) : Out → R KS
  | .nx r' => (fe r') >>= fun d => match d with
    | .str t => noteK xb t S
    | _ => .stuck
  | .ex e _ => .err e
  | _ => .stuck
def preN (xb : Nat) (F : LE → R Out) (fe : LE → R D) : LE → KS → R KS := fun r S => (F r).calm >>= endN xb fe S
/-- between: H0 the state at the beginning -/
def tPN (G : Gm) (W : WX) (c xb : Nat) (F : LE → R Out) (fe : LE → R D) : TS := fun De σ H => ∃ dl Z0 r0 σ0 H0 a p q S Z O r, MSt G c dl Z0 r0 σ0 H0 a p q S ∧ Stp dl Z0 [(1000000, a)] H0 Z O H ∧ At G dl Z O r σ H ∧ r[0]? = some (.own (.ins c [.str S.sh, .fn p, .fn q])) ∧
  Wp (F r) (fun o => Wp (endN xb fe S o) (fun S' => ∀ σ' q' H', GrowB dl [a, p, q] H0 H' → GlOk G dl H' → Dsk G c H' a p q' S' → (q' = q ∨ Free H0 q') → De.nx σ' H')
    (fun e => ∀ cls dx σ' H', GrowB dl [a, p, q] H0 H' → GlOk G dl H' → Dsk G c H' a p q S → XRep G dl (cut H' Z0) e cls dx H' → W cls dx σ' H')) (fun _ => False)
section
variable {G : Gm} {W : WX} {c : Nat} {dl : Addr} {Z Z0 : List Addr} {O : List (Nat × Addr)} {r r0 : LE} {σ σ0 : L2.St} {H H0 H' : Hp} {a p q : Addr} {S : KS}
theorem mid_a (M : MSt G c dl Z0 r0 σ0 H0 a p q S) (st : Stp dl Z0 [(1000000, a)] H0 Z O H) (A : At G dl Z O r σ H) (hr : r[0]? = some (.own (.ins c [.str S.sh, .fn p, .fn q]))) : (1000000, a) ∈ O ∧ σ[0]? = some (some (.ref a)) := by
  obtain ⟨b, hb, e, _⟩ := A.slot 0 _ hr
  have hb' : (1000000, b) ∈ O := hb
  have h2 := st.sf b hb'
  rw [List.mem_singleton] at h2
  have : b = a := congrArg Prod.snd h2
  subst this
  exact ⟨hb', e⟩
theorem mid_z (M : MSt G c dl Z0 r0 σ0 H0 a p q S) (st : Stp dl Z0 [(1000000, a)] H0 Z O H) (A : At G dl Z O r σ H) (hr : r[0]? = some (.own (.ins c [.str S.sh, .fn p, .fn q]))) : ∀ b ∈ Z0, b ∈ Z := fun b hb => by
  by_cases e : b = a
  · subst e; exact (A.own _ (mid_a M st A hr).1).1
  · exact st.zk b hb fun x hx => by
      rw [List.mem_singleton] at hx
      subst hx
      exact fun z => e z.symm
theorem mid_g (st : Stp dl Z0 [(1000000, a)] H0 Z O H) : GrowB dl [a, p, q] H0 H := fun b o e n m nt => st.fr b o e n (fun x hx => by
  rw [List.mem_singleton] at hx
  subst hx
  exact fun z => m (by rw [← z]; exact List.mem_cons_self)) nt
theorem mid_d (fn : ∀ n, G.fns n = n) (M : MSt G c dl Z0 r0 σ0 H0 a p q S) (st : Stp dl Z0 [(1000000, a)] H0 Z O H) (A : At G dl Z O r σ H) (hr : r[0]? = some (.own (.ins c [.str S.sh, .fn p, .fn q]))) : Dsk G c H a p q S := by
  obtain ⟨b, hb, e, ⟨dx, vs, e1, hl, rl⟩, _⟩ := A.slot 0 _ hr
  obtain ⟨ha, hs⟩ := mid_a M st A hr
  rw [hs] at e
  have : a = b := by cases e; rfl
  subst this
  have hv : vs = [sV S.sh, .ref p, .ref q] := by
    unfold RepL at rl
    obtain ⟨v, u, rfl, r1, rl⟩ := rl
    unfold RepL at rl
    obtain ⟨v2, u2, rfl, r2, rl⟩ := rl
    unfold RepL at rl
    obtain ⟨v3, u3, rfl, r3, rl⟩ := rl
    unfold RepL at rl
    subst rl
    unfold Rep at r1 r2 r3
    rw [r1, r2, r3, fn, fn]
    rfl
  subst hv
  have on : ∀ {b : Addr}, b ≠ a → ∀ x ∈ ([(1000000, a)] : List (Nat × Addr)), x.2 ≠ b := fun h x hx => by
    rw [List.mem_singleton] at hx
    subst hx
    exact fun z => h z.symm
  obtain ⟨⟨_, ea⟩, ⟨vs, e2, r2⟩, ⟨us, e3, r3⟩, ne⟩ := M.dk
  have kt : ∀ t xs, H0 t = some (.tup xs) → H t = some (.tup xs) := fun t xs h => st.fr t _ h (M.A.gl.tupd t xs h) (on fun z => by rw [z, ea] at h; cases h) fun ps z => by cases z
  exact ⟨⟨dx, e1⟩, ⟨vs, st.fr p _ e2 M.pd (on fun z => M.dk.ap z.symm) fun ps z => by (cases z), r2.mono kt⟩, ⟨us, st.fr q _ e3 M.qd (on fun z => M.dk.aq z.symm) fun ps z => by (cases z), r3.mono kt⟩, ne⟩
end
section
variable {X : Cx} {G : Gm} {W : WX} {c xb n k : Nat} {F F1 F2 : LE → R Out} {fe : LE → R D} {s : Stmt} {rest : List Stmt} {e : Expr} {p1 apos cpos pos : Pos}
theorem ppn_cons (fn : ∀ n, G.fns n = n) (h1 : DS X G W s F1) (k1 : Keep0 F1) (h2 : PSs X rest (tPN G W c xb F2 fe)) : PSs X (s :: rest) (tPN G W c xb (seqS F1 F2) fe) := by
  refine PSs_imp (pss_cons h1 h2) fun De σ H ⟨dl, Z0, r0, σ0, H0, a, p, q, S, Z, O, r, M, st, A, hr, h⟩ => ?_
  refine ⟨dl, Z, O, r, A, (all_wp (k1 r) h.bind).thn fun o ⟨ko, ho⟩ => ?_⟩
  cases o with
  | nx r' =>
    intro Z' O' σ' H' s' A'
    exact ⟨dl, Z0, r0, σ0, H0, a, p, q, S, Z', O', r', M, Stp.trans M.A st s', A', (show r'[0]? = r[0]? from ko).trans hr, ho⟩
  | rt d => exact (show False from ko).elim
  | bk r' => exact (show False from ko).elim
  | ct r' => exact (show False from ko).elim
  | ex e r' =>
    intro Z' O' σ' H' cls dx s' A' xr
    have hr' := (show r'[0]? = r[0]? from ko).trans hr
    have st' := Stp.trans M.A st s'
    exact ho cls dx σ' H' (mid_g st') A'.gl (mid_d fn M st' A' hr') (xr.mono (cut_sub (mid_z M st' A' hr')))
theorem ppn_last {pl : Sem Bool} {N : Str} (fn : ∀ n, G.fns n = n) (KN : KeD X.prog X.w X.K X.mg X.base G k c N 1 (fun ds S => match ds with | [.str t] => noteK xb t S | _ => .stuck)) (hr : Room k X.A) (tk : Takes X W) (he : DE X G W e fe)
    (hN0 : X.N[0]? = some ("self" : Str)) (hv0 : Vis X.env.scope "self") (hs : swapsWith (.Call (.Attribute (.Name "self" p1) N apos) [e] [] cpos) none pos.line X.env = pure false)
    (hst : starEach [e] X.env = (false, eval e X.env) :: starEach [] X.env := by rfl) (hpl : (backTo cpos (starEach [] X.env)).any (·.1) = false := by rfl)
    (ht : eval (.Call (.Attribute (.Name "self" p1) N apos) [e] [] cpos) X.env = (do
      let ov ← eval (.Name "self" p1) X.env
      standAt apos.atName
      let (f, first) ← holding [ov] (getMethod ov N pl)
      callWith cpos f first (backTo cpos (starEach [e] X.env)) (backToKw cpos (keywordEach [] X.env))) := by rfl) :
    PSs X [.Expr (.Call (.Attribute (.Name "self" p1) N apos) [e] [] cpos) pos] (tPN G W c xb skipS fe) := by
  obtain ⟨⟨fa, fd, ps, hn, ok, hb, mt⟩, cl, nf⟩ := KN
  refine PSs_imp (pss_one (ps_expr (pe_meth_s (pe_var (i := 0) hN0 hv0) cl mt ok hr hb (fun sg => passAt tk sg) (pa_cons he pa_nil hst) hst hpl ht) hs)) fun De σ H ⟨dl, Z0, r0, σ0, H0, a, p, q, S, Z, O, r, M, st, A, hr0, h⟩ => ?_
  obtain ⟨ha, hs0⟩ := mid_a M st A hr0
  have hz := mid_z M st A hr0
  have d := mid_d fn M st A hr0
  obtain ⟨dx, e1⟩ := d.top
  have nd : a ≠ dl ∧ p ≠ dl ∧ q ≠ dl := M.nd
  have h' : Wp ((fe r) >>= fun d => match d with | .str t => noteK xb t S | _ => .stuck) _ _ := h
  refine ⟨.ref a, hs0, a, dx, _, rfl, e1, lookup_none_zip nf, ?_⟩
  have gB := mid_g (p := p) (q := q) st
  refine ⟨dl, Z, O, r, A, h'.bind.mono (fun t ht' v H1 g1 k1 rp => ?_) fun e he cls dx' H1 g1 k1 xr => ?_⟩
  · cases t <;> first | exact ht'.elim | skip
    rename_i t
    have ht' : Wp (noteK xb t S) _ _ := ht'
    have d1 := d.grow A.gl nd g1
    refine ⟨rfl, dl, Z, [.str t], a, p, q, S, [v], rfl, ⟨k1, A.dz, (A.grow g1 k1).live, hz _ M.az, hz _ M.pz, hz _ M.qz, nd, d1⟩, RepL.cons rp RepL.nil, ht'.mono (fun S' hS' q' H' g k dk fr => ?_) fun e he cls dx' H' g k dk xr => ?_⟩
    · refine hS' σ q' H' ((gB.trans (.of g1)).trans g) k dk (fr.imp id fun f => st.dom _ (g1.dom k1 _ f))
    · exact he cls dx' σ H' ((gB.trans (.of g1)).trans g) k dk (xr.mono (cut_sub hz))
  · exact he cls dx' σ H1 (gB.trans (.of g1)) k1 (d.grow A.gl nd g1) (xr.mono (cut_sub hz))
theorem pss_preN (h : PSs X (s :: rest) (tPN G W c xb F fe)) : PSs X (s :: rest) (tKs G W c n (preN xb F fe)) := by
  refine PSs_imp h fun De σ H ⟨dl, Z, r, a, p, q, S, M, hrl, h⟩ => ?_
  exact ⟨dl, Z, r, σ, H, a, p, q, S, Z, _, r, M, Stp.refl, M.A, M.r0, calm_wp h.bind⟩
end
end DL
set_option Elab.async false
set_option linter.all false
set_option maxRecDepth 100000
set_option maxHeartbeats 1000000
namespace DL
open PySem L2 LamX PySem.Spec PyProof.Rows
/-- a deed called in an expression: slot i holds the instance -/
def tKe (G : Gm) (W : WX) (c i : Nat) (gK : LE → KS → R KS) : TE := fun σ H Q => ∃ dl Z O r a p q S, At G dl Z O r σ H ∧ DAt G c dl Z H a p q S ∧ r[i]? = some (.val (.fn a)) ∧
  Wp (gK r S) (fun S' => ∀ q' H', GrowB dl [a, p, q] H H' → GlOk G dl H' → Dsk G c H' a p q' S' → (q' = q ∨ Free H q') → Q .non H')
    (fun e => ∀ cls dx H', GrowB dl [a, p, q] H H' → GlOk G dl H' → Dsk G c H' a p q S → XRep G dl (cut H' Z) e cls dx H' → W cls dx σ H')
/-- .. what is told of it -/
def tKv (G : Gm) (c i : Nat) (f : LE → KS → R (D × KS)) : TE := fun σ H Q => ∃ dl Z O r a p q S, At G dl Z O r σ H ∧ DAt G c dl Z H a p q S ∧ r[i]? = some (.val (.fn a)) ∧
  Wp (f r S) (fun x => ∀ v q' H', GrowB dl [a, p, q] H H' → GlOk G dl H' → Dsk G c H' a p q' x.2 → (q' = q ∨ Free H q') → (∀ S0, Rep G dl S0 x.1 v) → Q v H') (fun _ => False)
def toldKs (l : List (Nat × List Nat)) (S : KS) : R KS → R (D × KS)
  | .ok S' => .ok (.non, S')
  | .err e => match l.lookup e.cls with
    | some s => .ok (.str s, S)
    | none => .stuck
  | .stuck => .stuck
  | .roll m f => .roll m fun i => toldKs l S (f i)
theorem toldKs_wp {l : List (Nat × List Nat)} {S : KS} {Q : D × KS → Prop} {E : Exc → Prop} : ∀ {m : R KS}, Wp (toldKs l S m) Q E → Wp m (fun S' => Q (.non, S')) (fun e => ∃ s, l.lookup e.cls = some s ∧ Q (.str s, S))
  | .ok _, h => h
  | .err e, h => by
    unfold toldKs at h
    split at h
    · rename_i s hs; exact ⟨s, hs, h⟩
    · exact h.elim
  | .stuck, h => h
  | .roll _ _, h => fun i hi => toldKs_wp (h i hi)
section
variable {X : Cx} {G : Gm} {W : WX} {c i k n : Nat} {g : List D → KS → R KS} {fs : LE → R (List D)} {N x : Str} {ex : Expr} {es : List Expr} {p1 apos pos : Pos} {dl : Addr} {Z : List Addr} {O : List (Nat × Addr)} {r : LE} {σ : L2.St} {H H' : Hp} {a p q : Addr} {S : KS}
theorem DAt.grow (d : DAt G c dl Z H a p q S) (A : At G dl Z O r σ H) (g : Grow dl H H') (k : GlOk G dl H') : DAt G c dl Z H' a p q S :=
  ⟨k, d.dz, (A.grow g k).live, d.az, d.pz, d.qz, d.nd, d.dk.grow d.gl d.nd g⟩
theorem fn_slot (fn : ∀ n, G.fns n = n) (A : At G dl Z O r σ H) (h : r[i]? = some (.val (.fn a))) : σ[i]? = some (some (.ref a)) := by
  obtain ⟨v, e, rp⟩ := A.slot i _ h
  unfold Rep at rp
  rw [fn] at rp
  rw [e, rp]
theorem pe_kmeth {pl : Sem Bool} (fn : ∀ n, G.fns n = n) (KM : KeD X.prog X.w X.K X.mg X.base G k c N n g) (hn : ∀ ds S Q E, Wp (g ds S) Q E → ds.length = n) (hr : Room k X.A) (tk : Takes X W) (ha : DA X G W (ex :: es) fs)
    (hi : X.N[i]? = some x) (hv : Vis X.env.scope x) (hd : (x == ("__debug__" : Str)) = false := by decide) (hcd : (x == ("__classdict__" : Str)) = false := by decide)
    (hst : starEach (ex :: es) X.env = (false, eval ex X.env) :: starEach es X.env := by rfl) (hpl : (backTo pos (starEach es X.env)).any (·.1) = false := by rfl)
    (ht : eval (.Call (.Attribute (.Name x p1) N apos) (ex :: es) [] pos) X.env = (do
      let ov ← eval (.Name x p1) X.env
      standAt apos.atName
      let (f, first) ← holding [ov] (getMethod ov N pl)
      callWith pos f first (backTo pos (starEach (ex :: es) X.env)) (backToKw pos (keywordEach [] X.env))) := by rfl) :
    PE X (.Call (.Attribute (.Name x p1) N apos) (ex :: es) [] pos) (tKe G W c i fun r S => fs r >>= fun ds => g ds S) := by
  obtain ⟨⟨fa, fd, ps, hnp, ok, hb, mt⟩, cl, nf⟩ := KM
  refine PE_imp (pe_meth_s (pe_var hi hv hd hcd) cl mt ok hr hb (fun sg => passAt tk sg) ha hst hpl ht) fun σ H Q ⟨dl, Z, O, r, a, p, q, S, A, d, hri, h⟩ => ?_
  obtain ⟨dx, e1⟩ := d.dk.top
  refine ⟨.ref a, fn_slot fn A hri, a, dx, _, rfl, e1, lookup_none_zip nf, dl, Z, O, r, A, h.bind.mono (fun ds hds vs H1 g1 k1 rl => ?_) fun e he cls dx' H1 g1 k1 xr => ?_⟩
  · have d1 := d.grow A g1 k1
    refine ⟨by rw [List.length_cons, rl.length, hn _ _ _ _ hds], dl, Z, ds, a, p, q, S, vs, rfl, d1, rl, hds.mono (fun S' hS' q' H' g k dk fr => ?_) fun e he cls dx' H' g k dk xr => ?_⟩
    · exact hS' q' H' ((GrowB.of g1).trans g) k dk (fr.imp id fun f => g1.dom k1 _ f)
    · exact he cls dx' H' ((GrowB.of g1).trans g) k dk xr
  · exact he cls dx' H1 (GrowB.of g1) k1 (d.dk.grow d.gl d.nd g1) xr
theorem pe_kmeth0 {pl : Sem Bool} (fn : ∀ n, G.fns n = n) (KM : KeD X.prog X.w X.K X.mg X.base G k c N 0 g) (hr : Room k X.A) (tk : Takes X W)
    (hi : X.N[i]? = some x) (hv : Vis X.env.scope x) (hd : (x == ("__debug__" : Str)) = false := by decide) (hcd : (x == ("__classdict__" : Str)) = false := by decide)
    (ht : eval (.Call (.Attribute (.Name x p1) N apos) [] [] pos) X.env = (do
      let ov ← eval (.Name x p1) X.env
      standAt apos.atName
      let (f, first) ← holding [ov] (getMethod ov N pl)
      callWith pos f first (backTo pos (starEach [] X.env)) (backToKw pos (keywordEach [] X.env))) := by rfl) :
    PE X (.Call (.Attribute (.Name x p1) N apos) [] [] pos) (tKe G W c i fun _ S => g [] S) := by
  obtain ⟨⟨fa, fd, ps, hnp, ok, hb, mt⟩, cl, nf⟩ := KM
  refine PE_imp (pe_meth0_s (pe_var hi hv hd hcd) cl mt ok hr hb (fun sg => passAt tk sg) ht) fun σ H Q ⟨dl, Z, O, r, a, p, q, S, A, d, hri, h⟩ => ?_
  obtain ⟨dx, e1⟩ := d.dk.top
  exact ⟨.ref a, fn_slot fn A hri, a, dx, _, rfl, e1, lookup_none_zip nf, rfl, dl, Z, [], a, p, q, S, [], rfl, d, RepL.nil, h⟩
end
section
variable {X : Cx} {G : Gm} {c i : Nat} {gK : LE → KS → R KS} {l : List (Nat × List Nat)} {σ : L2.St} {H : Hp} {Q : VK}
/-- what the clauses make of a deed -/
theorem tKe_told (hx : ExmOk X.K G (l.map (·.1))) (h : tKv G c i (fun r S => toldKs l S (gK r S)) σ H Q) :
    TTm X.K (l.map fun p => (G.xcls p.1, (⟨p.2.toArray⟩ : Str))) (fun Ech HY QY => tKe G (WD Ech) c i gK σ HY QY) H Q := by
  obtain ⟨dl, Z, O, r, a, p, q, S, A, d, hri, h⟩ := h
  refine ⟨dl, Z, O, r, a, p, q, S, A, d, hri, (toldKs_wp h).mono (fun S' hS' q' H' g k dk fr => hS' .non q' H' g k dk fr fun S0 => Rep.non_) fun e ⟨s, hs, hq⟩ cls dx H' g k dk xr => ?_⟩
  obtain ⟨rfl, _⟩ := xr
  exact wSel_of _ hx (lookup_mem hs) (fun j hj => hj) hs (hq _ q H' g k dk (.inl rfl) fun S0 => Rep.str_)
/-- x(lambda: deed), x a def that tells -/
theorem pe_ktold {x a : Str} {g cc P : Addr} {k : Nat} {pg : Arguments} {bg : List Stmt} {sg : Scope} {dV kV doc pm cdv ct oc : Value} {an od : Option Addr} {osl : Array (Option Value)} {Ng : List Str}
    {params : Arguments} {body : Expr} {scope : Scope} {p lpos pos : Pos} (hm : X.mg x = some (.ref g)) (hk : PySem.W.keepIn X.K (.ref g) = true)
    (lk : X.K.lookup g = some ⟨oc, od, .func (PySem.W.fnOf x x pg bg sg dV kV doc pm an cdv ct), osl⟩) (hcg : PySem.W.codeIn X.K cdv x = true) (hb : L2.Binds X.K (PySem.W.fnOf x x pg bg sg dV kV doc pm an cdv ct) [a] []) (Sg : FnScope Ng [a] sg) (hNg : Ng[0]? = some a) (hva : Vis sg a)
    (hG : GivesN X Ng x sg g cdv bg a (TTm X.K (l.map fun p => (G.xcls p.1, (⟨p.2.toArray⟩ : Str)))))
    (hx : ExmOk X.K G (l.map (·.1))) (M : Mkr X G cc P) (hr : Room (k + 2) X.A) (L : LamS X.env.scope scope)
    (hbody : ∀ (A : Around) (outer : List Env) (s : Shared) (H : Hp) (E : XK) (f c' : Addr), Room k (A.deeper (lamEnv X scope s.heap.objs.size f c')) → PE (lamCx X A outer s H E scope f c') body (tKe G (WD E) c i gK))
    (hkd : G.kd lpos.line lpos.col = true := by rfl) (hg : Gl X x := by rfl) (hdef : defaultsOf params X.env = ([], []) := by rfl)
    (hbind : ∀ (q : Str) (cl : List (Str × Addr)) (pm cv ctv : Value), bindArgs (PySem.W.kla_fn "<lambda>" q params body scope cl pm cv ctv) ⟨[], []⟩ = pure [] := by intro _ _ _ _ _; rfl)
    (hdb : (x == ("__debug__" : Str)) = false := by decide) (hd : (a == ("__debug__" : Str)) = false := by decide) (hcd : (a == ("__classdict__" : Str)) = false := by decide) :
    PE X (.Call (.Name x p) [.Lambda params body scope lpos] [] pos) (tKv G c i fun r S => toldKs l S (gK r S)) := by
  refine PE_imp (pe_lamN (G := G) (t := fun y E => tKe G (WD E) c i gK) hg hm hk lk hcg hb Sg hNg hva hG M hkd hr L hdef hbind (fun A outer s H E f c' P2 hr => hbody A outer s H E f c' hr) hdb hd hcd) fun sg H Q ⟨dl, Z, O, r, a, p, q, S, A, d, hri, h⟩ => ⟨A.gl.tab, fun H1 c' P2 e1 t1 => ?_⟩
  have g1 : Grow dl H H1 := Grow.ofExt e1
  have k1 := A.gl.ofExt e1 t1.drop
  exact tKe_told hx ⟨dl, Z, O, r, a, p, q, S, A.grow g1 k1, d.grow A g1 k1, hri, h.thn fun x hx v q' H' g k dk fr rp => hx v q' H' ((GrowB.of g1).trans g) k dk (fr.imp id fun f => g1.dom k1 _ f) rp⟩
end
end DL
set_option Elab.async false
set_option linter.all false
set_option maxRecDepth 100000
set_option maxHeartbeats 1000000
namespace DL
open PySem L2 LamX PySem.Spec PyProof.Rows
/-- the state ahead of the instance's making -/
structure Bse where
  dl : Addr
  Z : List Addr
  O : List (Nat × Addr)
  r : LE
  σ : L2.St
  H : Hp
structure GSt (G : Gm) (c i : Nat) (b : Bse) (Z : List Addr) (O : List (Nat × Addr)) (r : LE) (σ : L2.St) (H : Hp) (a p q : Addr) (S : KS) : Prop where
  A0 : At G b.dl b.Z b.O b.r b.σ b.H
  st : Stp b.dl b.Z b.O b.H Z O H
  A : At G b.dl Z O r σ H
  fr : Free b.H a ∧ Free b.H p ∧ Free b.H q
  d : DAt G c b.dl Z H a p q S
  no : ∀ x ∈ O, x.2 ≠ a ∧ x.2 ≠ p ∧ x.2 ≠ q
  ri : r[i]? = some (.val (.fn a))
abbrev GF := LE → KS → R (Out × KS)
def GPost (G : Gm) (De : Ends) (c i : Nat) (b : Bse) (Zs : List Addr) (Hs : Hp) : Out × KS → Prop
  | (.nx r', S') => ∀ σ' H' Z' O' a p q, GSt G c i b Z' O' r' σ' H' a p q S' → GrowS (cut Hs Zs) (cut H' Z') → De.nx σ' H'
  | (.ct r', S') => ∀ σ' H' Z' O' a p q, GSt G c i b Z' O' r' σ' H' a p q S' → GrowS (cut Hs Zs) (cut H' Z') → De.ct σ' H'
  | (.bk r', S') => ∀ σ' H' Z' O' a p q, GSt G c i b Z' O' r' σ' H' a p q S' → GrowS (cut Hs Zs) (cut H' Z') → De.bk σ' H'
  | (.rt d, _) => ∀ Z' O' v H', Stp b.dl b.Z b.O b.H Z' O' H' → GlOk G b.dl H' → Rep G b.dl (cut H' Z') d v → De.rt v H'
  | (.ex _ _, _) => False
def tSG (G : Gm) (c i : Nat) (F : GF) : TS := fun De σ H => ∃ b Z O r a p q S, GSt G c i b Z O r σ H a p q S ∧ Wp (F r S) (GPost G De c i b Z H) (fun _ => False)
def seqG (A B : GF) : GF := fun r S => A r S >>= fun x => match x with
  | (.nx r', S') => B r' S'
  | y => .ok y
def liftG (F : LE → R Out) : GF := fun r S => F r >>= fun o => .ok (o, S)
def ifG (t : LE → R Bool) (A B : GF) : GF := fun r S => (t r).calm >>= fun b => if b then A r S else B r S
/-- a test that reads the instance -/
def ifRG (c i : Nat) (t : LE → R Bool) (A B : GF) : GF := fun r S => (t (r.set i (.val (.ins c (frzL S))))).calm >>= fun b => if b then A r S else B r S
def skipG : GF := fun r S => .ok (.nx r, S)
def KeepI (i : Nat) (F : LE → R Out) : Prop := ∀ r, (F r).all fun o => match o with
  | .nx r' => r'[i]? = r[i]?
  | .ct r' => r'[i]? = r[i]?
  | .bk r' => r'[i]? = r[i]?
  | .rt _ => True
  | .ex _ _ => True
section
variable {G : Gm} {c i : Nat} {b : Bse} {Z Z' : List Addr} {O O' : List (Nat × Addr)} {r r' : LE} {σ σ' : L2.St} {H H' : Hp} {a p q : Addr} {S S' : KS}
theorem GSt.oth (g : GSt G c i b Z O r σ H a p q S) : ∀ t xs, H t = some (.tup xs) → ∀ x ∈ O, x.2 ≠ t := fun t xs h x hx z => g.A.tupZ t xs h (z ▸ (g.A.own x hx).1)
/-- behind an ordinary step -/
theorem GSt.step (g : GSt G c i b Z O r σ H a p q S) (s : Stp b.dl Z O H Z' O' H') (A' : At G b.dl Z' O' r' σ' H') (k : r'[i]? = r[i]?) : GSt G c i b Z' O' r' σ' H' a p q S := by
  obtain ⟨⟨dx, e1⟩, ⟨vs, e2, r2⟩, ⟨us, e3, r3⟩, ne⟩ := g.d.dk
  have na : ∀ x ∈ O, x.2 ≠ a := fun x hx => (g.no x hx).1
  have np : ∀ x ∈ O, x.2 ≠ p := fun x hx => (g.no x hx).2.1
  have nq : ∀ x ∈ O, x.2 ≠ q := fun x hx => (g.no x hx).2.2
  have dk' : Dsk G c H' a p q S := g.d.dk.keep fun y o hy nt e => by
    rcases hy with rfl | rfl | rfl | ⟨xs, rfl⟩
    · exact s.fr _ o e g.d.nd.1 na nt
    · exact s.fr _ o e g.d.nd.2.1 np nt
    · exact s.fr _ o e g.d.nd.2.2 nq nt
    · exact s.fr y _ e (g.A.gl.tupd y xs e) (g.oth y xs e) nt
  have key : ∀ x ∈ O', ∀ y o, H y = some o → (∀ ps, o ≠ .tbl ps) → (∀ x ∈ O, x.2 ≠ y) → x.2 ≠ y := fun x hx y o e nt hn z => by
    rcases s.op x hx with ⟨w, hw, ew⟩ | f
    · exact hn w hw (ew.trans z)
    · obtain ⟨ps, e'⟩ := f o (by rw [z]; exact e)
      exact nt ps e'
  exact ⟨g.A0, Stp.trans g.A0 g.st s, A', g.fr, ⟨A'.gl, A'.dz, A'.live, s.zk a g.d.az na, s.zk p g.d.pz np, s.zk q g.d.qz nq, g.d.nd, dk'⟩,
    fun x hx => ⟨key x hx a _ e1 (fun ps z => by cases z) na, key x hx p _ e2 (fun ps z => by cases z) np, key x hx q _ e3 (fun ps z => by cases z) nq⟩, k.trans g.ri⟩
theorem GSt.grow (g : GSt G c i b Z O r σ H a p q S) (gr : Grow b.dl H H') (k : GlOk G b.dl H') : GSt G c i b Z O r σ H' a p q S :=
  g.step (Stp.of_grow gr k) (g.A.grow gr k) rfl
/-- behind a deed: q' may be new -/
theorem GSt.deed (g : GSt G c i b Z O r σ H a p q S) {q' : Addr} (gr : GrowB b.dl [a, p, q] H H') (k : GlOk G b.dl H') (dk : Dsk G c H' a p q' S') (f : q' = q ∨ Free H q') :
    GSt G c i b (q' :: Z.filter (· ≠ q)) O r σ H' a p q' S' ∧ GrowS (cut H Z) (cut H' (q' :: Z.filter (· ≠ q))) := by
  have A := g.A
  have d := g.d
  have aq : a ≠ q := d.dk.aq
  have pq : p ≠ q := d.dk.ne
  have mem : ∀ y ∈ Z, y ≠ q → y ∈ q' :: Z.filter (· ≠ q) := fun y hy hn => List.mem_cons_of_mem _ (List.mem_filter.mpr ⟨hy, by simpa using hn⟩)
  have inz : ∀ y ∈ q' :: Z.filter (· ≠ q), y = q' ∨ (y ∈ Z ∧ y ≠ q) := fun y hy => (List.mem_cons.mp hy).imp id fun h => ⟨(List.mem_filter.mp h).1, by simpa using (List.mem_filter.mp h).2⟩
  have nz : ∀ y o, H y = some o → (∀ ps, o ≠ .tbl ps) → y ∉ Z → y ≠ q' := fun y o e nt hz z => by
    rcases f with f | f
    · exact hz (by rw [z, f]; exact d.qz)
    · obtain ⟨ps, e'⟩ := f o (by rw [← z]; exact e)
      exact nt ps e'
  have gs : GrowS (cut H Z) (cut H' (q' :: Z.filter (· ≠ q))) := fun y o e nt => by
    obtain ⟨e1, e2⟩ := cut_some e
    have hy : y ∉ q' :: Z.filter (· ≠ q) := fun z => by
      rcases inz y z with z | z
      · exact nz y o e2 nt e1 z
      · exact e1 z.1
    rw [cut_out hy]
    refine gr y o e2 (fun z => e1 (by rw [z]; exact A.dz)) (fun z => ?_) nt
    simp only [List.mem_cons, List.not_mem_nil, or_false] at z
    rcases z with rfl | rfl | rfl
    · exact e1 d.az
    · exact e1 d.pz
    · exact e1 d.qz
  obtain ⟨dx, ea⟩ := dk.top
  obtain ⟨vs, ep, _⟩ := dk.dl
  obtain ⟨us, eq, _⟩ := dk.ul
  have live' : Live (q' :: Z.filter (· ≠ q)) H' := fun y hy => by
    rcases inz y hy with rfl | ⟨hy, hn⟩
    · exact ⟨_, eq, NT.lst _⟩
    · by_cases h1 : y = a
      · subst h1; exact ⟨_, ea, fun t z => by cases t <;> cases z⟩
      · by_cases h2 : y = p
        · subst h2; exact ⟨_, ep, NT.lst _⟩
        · by_cases h3 : y = b.dl
          · obtain ⟨x, z, w, e⟩ := k.dice
            exact ⟨_, by rw [h3]; exact e, NT.lst _⟩
          · obtain ⟨o, e, nt⟩ := A.live y hy
            exact ⟨o, gr y o e h3 (by simp only [List.mem_cons, List.not_mem_nil, or_false, not_or]; exact ⟨h1, h2, hn⟩) nt.tb, nt⟩
  have dq : q ≠ b.dl := d.nd.2.2
  have A' : At G b.dl (q' :: Z.filter (· ≠ q)) O r σ H' := by
    refine ⟨k, mem _ A.dz fun z => dq z.symm, live', fun x hx => ⟨mem _ (A.own x hx).1 (g.no x hx).2.2, (A.own x hx).2⟩, A.inj, A.len, fun j cl e => ?_⟩
    have := A.slot j cl e
    cases cl with
    | un => trivial
    | val d => obtain ⟨v, e, q⟩ := this; exact ⟨v, e, q.mono gs⟩
    | own d =>
      obtain ⟨y, hy, e, ow, ko⟩ := this
      refine ⟨y, hy, e, ?_, ko⟩
      obtain ⟨u, hu, nt⟩ := ow.notTbl
      obtain ⟨n1, n2, n3⟩ := g.no _ hy
      rw [gr y u hu (A.own _ hy).2 (by simp only [List.mem_cons, List.not_mem_nil, or_false, not_or]; exact ⟨n1, n2, n3⟩) nt.tb, ← hu]
      exact ow.mono gs
  have fq : Free b.H q' := by
    rcases f with rfl | f
    · exact g.fr.2.2
    · exact g.st.dom _ f
  have nfree : ∀ {y o}, b.H y = some o → (∀ ps, o ≠ .tbl ps) → y ∉ [a, p, q] := fun {y o} e nt z => by
    simp only [List.mem_cons, List.not_mem_nil, or_false] at z
    have hf : Free b.H y := by
      rcases z with rfl | rfl | rfl
      · exact g.fr.1
      · exact g.fr.2.1
      · exact g.fr.2.2
    obtain ⟨ps, z⟩ := hf o e
    exact nt ps z
  have st' : Stp b.dl b.Z b.O b.H (q' :: Z.filter (· ≠ q)) O H' := by
    refine ⟨fun y o e n m nt => gr y o (g.st.fr y o e n m nt) n (nfree e nt) nt, g.st.op, fun y hy m => ?_, fun y hy => ?_, g.st.sf, fun y fy => ?_⟩
    · refine mem y (g.st.zk y hy m) fun z => ?_
      obtain ⟨o, e, nt⟩ := g.A0.live y hy
      exact nfree e nt.tb (by rw [z]; simp)
    · rcases inz y hy with rfl | ⟨hy, _⟩
      · exact .inr fq
      · exact g.st.zn y hy
    · by_cases hy : y ∈ [a, p, q]
      · simp only [List.mem_cons, List.not_mem_nil, or_false] at hy
        rcases hy with rfl | rfl | rfl
        · exact g.fr.1
        · exact g.fr.2.1
        · exact g.fr.2.2
      · refine g.st.dom y fun o e => ?_
        by_cases t : ∃ ps, o = .tbl ps
        · exact t
        · have nt : ∀ ps, o ≠ .tbl ps := fun ps z => t ⟨ps, z⟩
          by_cases h3 : y = b.dl
          · obtain ⟨x, z, w, e'⟩ := k.dice
            obtain ⟨ps, z⟩ := fy _ (by rw [h3]; exact e')
            cases z
          · exact fy o (gr y o e h3 hy nt)
  refine ⟨⟨g.A0, st', A', ⟨g.fr.1, g.fr.2.1, fq⟩, ⟨k, A'.dz, live', mem _ d.az aq, mem _ d.pz pq, List.mem_cons_self, ⟨d.nd.1, d.nd.2.1, ?_⟩, dk⟩, fun x hx => ⟨(g.no x hx).1, (g.no x hx).2.1, fun z => ?_⟩, g.ri⟩, gs⟩
  · intro z
    rcases f with rfl | f
    · exact dq z
    · obtain ⟨x, y, w, e⟩ := A.gl.dice
      obtain ⟨ps, z⟩ := f _ (by rw [z]; exact e)
      cases z
  · rcases f with rfl | f
    · exact (g.no x hx).2.2 z
    · obtain ⟨o, e, nt⟩ := A.live _ (A.own x hx).1
      obtain ⟨ps, z⟩ := f o (by rw [← z]; exact e)
      exact nt.tb ps z
/-- to be read -/
theorem GSt.frz (g : GSt G c i b Z O r σ H a p q S) (fn : ∀ n, G.fns n = n) (hf : (G.flds c).length = 3) : At G b.dl (Z.filter fun y => y ≠ a ∧ y ≠ p ∧ y ≠ q) O (r.set i (.val (.ins c (frzL S)))) σ H := by
  have A := g.A
  have d := g.d
  have sub : ∀ y ∈ Z.filter (fun y => y ≠ a ∧ y ≠ p ∧ y ≠ q), y ∈ Z := fun y hy => (List.mem_filter.mp hy).1
  have tz := A.tupZ
  have gs : GrowS (cut H Z) (cut H (Z.filter fun y => y ≠ a ∧ y ≠ p ∧ y ≠ q)) := cut_sub sub
  refine ⟨A.gl, List.mem_filter.mpr ⟨A.dz, by simpa using ⟨fun z => d.nd.1 z.symm, fun z => d.nd.2.1 z.symm, fun z => d.nd.2.2 z.symm⟩⟩, fun y hy => A.live y (sub y hy), fun x hx => ⟨List.mem_filter.mpr ⟨(A.own x hx).1, by simpa using g.no x hx⟩, (A.own x hx).2⟩, A.inj, by rw [List.length_set, A.len], fun j k e => ?_⟩
  rcases set_get e with ⟨rfl, rfl, hl⟩ | ⟨hn, e2⟩
  · obtain ⟨dx, e1⟩ := d.dk.top
    refine ⟨.ref a, fn_slot fn A g.ri, ?_⟩
    unfold Rep
    exact ⟨a, dx, _, rfl, by rw [cut_out (fun z => by simp at z)]; exact e1, by rw [hf]; rfl, d.dk.repL (fun t xs h z => tz t xs h (sub t z)) (fun z => by simp at z) (fun z => by simp at z)⟩
  · have := A.slot j k e2
    cases k with
    | un => trivial
    | val d => obtain ⟨v, e, q⟩ := this; exact ⟨v, e, q.mono gs⟩
    | own d => obtain ⟨y, hy, e, q, ko⟩ := this; exact ⟨y, hy, e, q.mono gs, ko⟩
theorem GPost.trans {De : Ends} {Zs Z1 : List Addr} {Hs H1 : Hp} (s : GrowS (cut Hs Zs) (cut H1 Z1)) : ∀ {x : Out × KS}, GPost G De c i b Zs Hs x → GPost G De c i b Z1 H1 x
  | (.nx r', S'), h => fun σ' H' Z' O' a p q g gs => h σ' H' Z' O' a p q g fun y o e nt => gs y o (s y o e nt) nt
  | (.ct r', S'), h => fun σ' H' Z' O' a p q g gs => h σ' H' Z' O' a p q g fun y o e nt => gs y o (s y o e nt) nt
  | (.bk r', S'), h => fun σ' H' Z' O' a p q g gs => h σ' H' Z' O' a p q g fun y o e nt => gs y o (s y o e nt) nt
  | (.rt d, S'), h => h
  | (.ex e r', S'), h => h
end
end DL
set_option Elab.async false
set_option linter.all false
set_option maxRecDepth 100000
set_option maxHeartbeats 1000000
namespace DL
open PySem L2 LamX PySem.Spec PyProof.Rows
def loopG (gd : D → LE → Option LE) (F : GF) : List D → GF
  | [] => fun r S => .ok (.nx r, S)
  | d :: ds => fun r S => match gd d r with
    | none => .stuck
    | some r' => F r' S >>= fun x => match x with
      | (.nx r2, S2) => loopG gd F ds r2 S2
      | (.ct r2, S2) => loopG gd F ds r2 S2
      | (.bk r2, S2) => .ok (.nx r2, S2)
      | y => .ok y
def forG (fi : LE → R (List D)) (gd : D → LE → Option LE) (F : GF) : GF := fun r S => (fi r).calm >>= fun ds => loopG gd F ds r S
def toldG (j : Nat) (f : LE → KS → R (D × KS)) : GF := fun r S => f r S >>= fun x => .ok (.nx (r.set j (.val x.1)), x.2)
def parshG (j l : Nat) : GF := fun r S => .ok (.nx ((r.set j (.val (.lst [.str S.sh]))).set l (.val (.int 0))), S)
section
variable {X : Cx} {G : Gm} {W : WX} {c i j l : Nat} {st : Stmt} {rest sa sb body : List Stmt} {F : LE → R Out} {A B : GF} {t : LE → R Bool} {te ec tg iter : Expr} {pos : Pos}
theorem g_lift (h : DS X G W st F) (k : KeepI i F) : PS X st (tSG G c i (liftG F)) := PS_imp h fun De σ H ⟨b, Z, O, r, a, p, q, S, g, hw⟩ => by
  have hw' : Wp (F r) (fun o => GPost G De c i b Z H (o, S)) (fun _ => False) := hw.bind
  refine ⟨b.dl, Z, O, r, g.A, (all_wp (k r) hw').thn fun o ⟨ko, ho⟩ => ?_⟩
  cases o with
  | nx r' => exact fun Z' O' σ' H' s A' => ho σ' H' Z' O' a p q (g.step s A' ko) (Stp.cut g.A s)
  | ct r' => exact fun Z' O' σ' H' s A' => ho σ' H' Z' O' a p q (g.step s A' ko) (Stp.cut g.A s)
  | bk r' => exact fun Z' O' σ' H' s A' => ho σ' H' Z' O' a p q (g.step s A' ko) (Stp.cut g.A s)
  | rt d => exact fun Z' O' v H' s gl rp => ho Z' O' v H' (Stp.trans g.A0 g.st s) gl rp
  | ex e r' => exact (show False from ho).elim
theorem g_cons (h1 : PS X st (tSG G c i A)) (h2 : PSs X rest (tSG G c i B)) : PSs X (st :: rest) (tSG G c i (seqG A B)) := PSs_imp (pss_cons h1 h2) fun De σ H ⟨b, Z, O, r, a, p, q, S, g, hw⟩ => by
  refine ⟨b, Z, O, r, a, p, q, S, g, hw.bind.thn fun x hx => ?_⟩
  obtain ⟨o, S'⟩ := x
  cases o with
  | nx r' => exact fun σ' H' Z' O' a' p' q' g' gs => ⟨b, Z', O', r', a', p', q', S', g', Wp.thn hx fun y hy => GPost.trans gs hy⟩
  | ct r' => exact hx
  | bk r' => exact hx
  | rt d => exact hx
  | ex e r' => exact hx
theorem g_one (h1 : PS X st (tSG G c i A)) : PSs X [st] (tSG G c i A) := pss_one h1
theorem g_nil : PSs X [] (tSG G c i skipG) := PSs_imp pss_nil fun De σ H ⟨b, Z, O, r, a, p, q, S, g, hw⟩ => hw σ H Z O a p q g fun _ _ e _ => e
theorem g_if (ht : DT X G W te t) (ha : PSs X sa (tSG G c i A)) (hb : PSs X sb (tSG G c i B)) : PS X (.If te sa sb pos) (tSG G c i (ifG t A B)) := PS_imp (ps_if ht ha hb) fun De σ H ⟨b, Z, O, r, a, p, q, S, g, hw⟩ => by
  refine ⟨b.dl, Z, O, r, g.A, (calm_wp (E' := fun _ => False) hw.bind).mono (fun v hv H1 g1 k1 => ?_) fun e he => he.elim⟩
  have gs := g1.cut g.A.dz
  cases v with
  | true => exact ⟨b, Z, O, r, a, p, q, S, g.grow g1 k1, Wp.thn hv fun y hy => GPost.trans gs hy⟩
  | false => exact ⟨b, Z, O, r, a, p, q, S, g.grow g1 k1, Wp.thn hv fun y hy => GPost.trans gs hy⟩
theorem g_ifR (fn : ∀ n, G.fns n = n) (hf : (G.flds c).length = 3) (ht : DT X G W te t) (ha : PSs X sa (tSG G c i A)) (hb : PSs X sb (tSG G c i B)) : PS X (.If te sa sb pos) (tSG G c i (ifRG c i t A B)) := PS_imp (ps_if ht ha hb) fun De σ H ⟨b, Z, O, r, a, p, q, S, g, hw⟩ => by
  refine ⟨b.dl, _, O, _, g.frz fn hf, (calm_wp (E' := fun _ => False) hw.bind).mono (fun v hv H1 g1 k1 => ?_) fun e he => he.elim⟩
  have gs := g1.cut g.A.dz
  cases v with
  | true => exact ⟨b, Z, O, r, a, p, q, S, g.grow g1 k1, Wp.thn hv fun y hy => GPost.trans gs hy⟩
  | false => exact ⟨b, Z, O, r, a, p, q, S, g.grow g1 k1, Wp.thn hv fun y hy => GPost.trans gs hy⟩
theorem g_for {fi : LE → R (List D)} {gd : D → LE → Option LE} {is : List Nat} (hp : PassesOwn (model X.prog X.w) X.A X.env X.xe) (hc : X.calm = true) (hi : DI X G W tg iter fi) (hg : DG X G tg gd is) (hgi : ∀ d r r2, gd d r = some r2 → r2[i]? = r[i]?) (hb : PSs X body (tSG G c i A))
    (hs : ∀ x, foldedSetIterable iter X.env x = pure x := by intro _; rfl) : PS X (.For tg iter body [] pos) (tSG G c i (forG fi gd A)) := PS_imp (ps_for hp hc hi hg hb hs) fun De σ H ⟨b, Z, O, r, a, p, q, S, g, hw⟩ => by
  refine ⟨b.dl, Z, O, r, g.A, (calm_wp (E' := fun _ => False) hw.bind).mono (fun ds hds J Bb H1 g1 k1 wk hB => ?_) fun e he => he.elim⟩
  have g1' := g.grow g1 k1
  have c1 := g1.cut g.A.dz
  refine ⟨fun k m sg' H' => m = ds.length - k ∧ k ≤ ds.length ∧ ∃ Z' O' r' a p q S', GSt G c i b Z' O' r' sg' H' a p q S' ∧ GrowS (cut H Z) (cut H' Z') ∧ Bb Z' H' ∧ Wp (loopG gd A (ds.drop k) r' S') (GPost G De c i b Z H) (fun _ => False),
    ⟨ds.length, by simp, Nat.zero_le _, Z, O, r, a, p, q, S, g1', c1, hB, by simpa using hds⟩, ?_⟩
  rintro k m sg' H' ⟨rfl, hi', Z', O', r', a, p, q, S', g', c', hB', hw⟩
  by_cases hlt : k < ds.length
  · have hdrop : ds.drop k = ds[k] :: ds.drop (k + 1) := List.drop_eq_getElem_cons hlt
    rw [hdrop] at hw
    refine .inr ⟨wk.go k Z' H' hB' hlt, fun sg2 H2 => k + 1 ≤ ds.length ∧ ∃ Z' O' r' a p q S', GSt G c i b Z' O' r' sg2 H2 a p q S' ∧ GrowS (cut H Z) (cut H2 Z') ∧ Bb Z' H2 ∧ Wp (loopG gd A (ds.drop (k + 1)) r' S') (GPost G De c i b Z H) (fun _ => False), fun sg2 H2 h2 => ⟨ds.length - (k + 1), by omega, rfl, h2⟩, fun x H2 hy => ?_⟩
    obtain ⟨g2, k2, rp⟩ := wk.yld k Z' O' r' sg' H' x H2 g'.A hB' hy ds[k] (by simp)
    have k2 := k2 _ g'.A.gl
    have g3 := g'.grow g2 k2
    have c2 := g2.cut g'.A.dz
    have hB2 : Bb Z' H2 := wk.mono _ _ _ _ c2 g2 hB'
    change Wp (match gd ds[k] r' with | none => _ | some r' => _) _ _ at hw
    cases hgd : gd ds[k] r' with
    | none => rw [hgd] at hw; exact hw.elim
    | some r2 =>
      rw [hgd] at hw
      have hw : Wp (A r2 S' >>= fun x => match x with | (.nx r2, S2) => loopG gd A (ds.drop (k + 1)) r2 S2 | (.ct r2, S2) => loopG gd A (ds.drop (k + 1)) r2 S2 | (.bk r2, S2) => .ok (.nx r2, S2) | y => .ok y) _ _ := hw
      refine ⟨b.dl, Z', O', r', ds[k], g3.A, rp, r2, hgd, fun sg3 _ _ A3 => ⟨b, Z', O', r2, a, p, q, S', g3.step Stp.refl A3 (hgi _ _ _ hgd), hw.bind.thn fun x hx => ?_⟩⟩
      obtain ⟨o, S2⟩ := x
      have cc : GrowS (cut H Z) (cut H2 Z') := fun y o e nt => c2 y o (c' y o e nt) nt
      have step : ∀ {r3 : LE}, Wp (loopG gd A (ds.drop (k + 1)) r3 S2) (GPost G De c i b Z H) (fun _ => False) → ∀ sg4 H4 Z4 O4 a p q, GSt G c i b Z4 O4 r3 sg4 H4 a p q S2 → GrowS (cut H2 Z') (cut H4 Z4) →
          k + 1 ≤ ds.length ∧ ∃ Z' O' r' a p q S', GSt G c i b Z' O' r' sg4 H4 a p q S' ∧ GrowS (cut H Z) (cut H4 Z') ∧ Bb Z' H4 ∧ Wp (loopG gd A (ds.drop (k + 1)) r' S') (GPost G De c i b Z H) (fun _ => False) := fun hw4 sg4 H4 Z4 O4 a p q g4 c4 =>
        ⟨hlt, Z4, O4, _, a, p, q, S2, g4, fun y o e nt => c4 y o (cc y o e nt) nt, wk.monoS _ _ _ _ c4 hB2, hw4⟩
      cases o with
      | nx r3 => exact step hx
      | ct r3 => exact step hx
      | bk r3 => exact fun sg4 H4 Z4 O4 a p q g4 c4 => hx sg4 H4 Z4 O4 a p q g4 fun y o e nt => c4 y o (cc y o e nt) nt
      | rt d => exact hx
      | ex e r3 => exact hx
  · have e : k = ds.length := by omega
    subst e
    rw [List.drop_length] at hw
    have hw : GPost G De c i b Z H (.nx r', S') := hw
    exact .inl ⟨wk.stop _ Z' H' hB' (Nat.le_refl _), hw sg' H' Z' O' a p q g' c'⟩
/-- y = x(lambda: deed) -/
theorem g_told {f : LE → KS → R (D × KS)} {y : Str} {pos' : Pos} (he : PE X ec (tKv G c i f)) (hji : j ≠ i) (hN : X.N.Nodup) (hj : X.N[j]? = some y := by rfl) (hy : Loc X.env.scope y := by first | exact Or.inl rfl | exact Or.inr rfl) (hs : swapsWith ec (some (.Name y pos')) pos.line X.env = pure false := by rfl)
    (hf : X.fn y = true ∨ X.env.scope.names.lookup y = some .local := by first | exact .inl rfl | exact .inr rfl) : PS X (.Assign [.Name y pos'] ec pos) (tSG G c i (toldG j f)) := PS_imp (ps_set hN hj hy he hs hf) fun De σ H ⟨b, Z, O, r, a, p, q, S, g, hw⟩ => by
  refine ⟨b.dl, Z, O, r, a, p, q, S, g.A, g.d, g.ri, hw.bind.thn fun x hx v q' H' gr k dk f rp => ?_⟩
  obtain ⟨g', gs⟩ := g.deed gr k dk f
  have hx : GPost G De c i b Z H (.nx (r.set j (.val x.1)), x.2) := hx
  exact hx _ H' _ O a p q' (g'.step Stp.refl (g'.A.set_val j (rp _)) (by rw [List.getElem?_set_ne hji])) gs
/-- past, place = [desk.shown], 0 -/
theorem g_parsh {f0 f1 f2 : Nat → Option Nat} {x y z : Str} {px py p1 p2 p3 p4 pt pt2 : Pos} {kt k2 j0 : Nat} (K : KOk X G c f0 f1 f2) (hc : X.calm = true) (hN : X.N.Nodup) (hjl : j ≠ l) (hji : j ≠ i) (hli : l ≠ i)
    (hx : X.env.scope.names.lookup x = some .local) (hy : X.env.scope.names.lookup y = some .local) (hj : X.N[j]? = some x) (hl : X.N[l]? = some y) (hi : X.N[i]? = some z) (hvz : Vis X.env.scope z) (hd : (z == ("__debug__" : Str)) = false) (hcd : (z == ("__classdict__" : Str)) = false)
    (hb : attributeBase (.Name z p1) "shown" X.env (eval (.Name z p1) X.env) = eval (.Name z p1) X.env)
    (hw : swappedStores [.Tuple [.Name x px, .Name y py] kt pt] (.Tuple [.List [.Attribute (.Name z p1) "shown" p2] p3, .Constant (.int 0) j0 p4] k2 pt2) X.env = pure (some [x, y]))
    (hs : swapsWithSole [.Tuple [.Name x px, .Name y py] kt pt] (.Tuple [.List [.Attribute (.Name z p1) "shown" p2] p3, .Constant (.int 0) j0 p4] k2 pt2) pos.line X.env = pure false)
    (s0 : starEach [.Attribute (.Name z p1) "shown" p2] X.env = (false, eval (.Attribute (.Name z p1) "shown" p2) X.env) :: starEach [] X.env)
    (s1 : starEach [.List [.Attribute (.Name z p1) "shown" p2] p3, .Constant (.int 0) j0 p4] X.env = (false, eval (.List [.Attribute (.Name z p1) "shown" p2] p3) X.env) :: starEach [.Constant (.int 0) j0 p4] X.env)
    (s2 : starEach [.Constant (.int 0) j0 p4] X.env = (false, eval (.Constant (.int 0) j0 p4) X.env) :: starEach [] X.env) :
    PS X (.Assign [.Tuple [.Name x px, .Name y py] kt pt] (.Tuple [.List [.Attribute (.Name z p1) "shown" p2] p3, .Constant (.int 0) j0 p4] k2 pt2) pos) (tSG G c i (parshG j l)) := by
  refine PS_imp (ps_par hc hN hj hl hjl hx hy (pa_cons (pe_lst (pa_cons (pe_fld (pe_var hi hvz hd hcd) hb) pa_nil s0)) (pa_cons (pe_int (i := 0)) pa_nil s2) s1) hw hs) fun De σ H ⟨b, Z, O, r, a, p, q, S, g, hw⟩ => ?_
  obtain ⟨dx, e1⟩ := g.d.dk.top
  obtain ⟨k1, k2, k3, k4⟩ := K.h0 _ _ K.e0
  refine ⟨.ref a, fn_slot K.fn g.A g.ri, a, G.cls c, dx, _, _, rfl, e1, k1, k2, lookup_zip k4 k3 rfl, ?_⟩
  refine ⟨by rw [sizeLine_eq]; exact Nat.le_of_ble_eq_true rfl, fun m hm => ?_⟩
  have rl : RepL G b.dl (cut H Z) [.str S.sh] [sV S.sh] := RepL.cons Rep.str_ RepL.nil
  have g2 := g.grow (Grow.new (o := .lst [sV S.sh]) hm) (g.A.gl.new hm)
  have rp := Rep.lst_new g.A hm rl
  refine ⟨.ref m, .int 0, rfl, ?_⟩
  have A3 := (g2.A.set_val j rp).set_val l (d := .int 0) (v := .int 0) Rep.int_
  have hw : GPost G De c i b Z H (.nx ((r.set j (.val (.lst [.str S.sh]))).set l (.val (.int 0))), S) := hw
  exact hw _ _ Z O a p q (g2.step Stp.refl A3 (by rw [List.getElem?_set_ne hli, List.getElem?_set_ne hji])) ((Grow.new hm).cut g.A.dz)
end
end DL
set_option Elab.async false
set_option linter.all false
set_option maxRecDepth 100000
set_option maxHeartbeats 1000000
namespace DL
open PySem L2 LamX PySem.Spec PyProof.Rows
def spN (G : Gm) (c : Nat) (sh : List Nat) : Sp := fun vs H Q E => ∃ a dx, vs = [.ref a] ∧ H a = some (.ins (G.cls c) dx []) ∧ ∀ H', NewDsk G c H a sh H' → Q .non H'
section
variable {P : Program} {w : World} {K : PySem.W.Frag} {mg : Str → Option Value} {base : Heap} {G : Gm} {x qual : Str} {st : Stmt} {f : Addr} {fd : FuncData} {N ps : List Str} {k c : Nat} {sh : List Nat}
theorem fnOk_N (Fn : Fun K x qual st f fd) (S : FnScope N ps (defScope st)) (hn : ps.length = 1) (hN : 0 < N.length)
    (hb : ∀ cdv A outer s H E, Room k (A.deeper (envOfC qual (defScope st) s.heap.objs.size f cdv)) → PSs (cxD P w K mg base N qual st f cdv A outer s H E) (defBody st) (tInit G c sh)) :
    FnOk P w K mg base (LG.CX P w) (k + 1) f fd ps (spN G c sh) := by
  refine fun_okG Fn S (fun vs H Q E h => by obtain ⟨a, dx, rfl, _⟩ := h; rw [hn]; rfl) fun cdv A outer s H vs Q E hr h => ⟨_, hb cdv A outer s H E hr, ?_⟩
  obtain ⟨a, dx, rfl, ha, h⟩ := h
  exact ⟨a, dx, rfl, ha, fun H' n => h H' n⟩
end
def allUn : LE → Bool
  | [] => true
  | .un :: r => allUn r
  | _ => false
def isR0 (m : Nat) : LE → Bool
  | .un :: .val .dice :: r => allUn r && Nat.beq r.length (m - 2)
  | _ => false
theorem allUn_eq : ∀ {r : LE}, allUn r = true → r = List.replicate r.length .un
  | [], _ => rfl
  | .un :: r, h => by rw [List.length_cons, List.replicate_succ]; exact congrArg _ (allUn_eq h)
  | .val _ :: _, h => by cases h
  | .own _ :: _, h => by cases h
theorem isR0_eq {m : Nat} {r : LE} (h : isR0 m r = true) : r = r0 m := by
  unfold isR0 at h
  split at h
  · rename_i r'
    simp only [Bool.and_eq_true] at h
    have e := allUn_eq h.1
    rw [Nat.eq_of_beq_eq_true h.2] at e
    unfold r0
    rw [← e]
  · cases h
def roundS (m : Nat) : LE → R Out := fun r => if isR0 m r = true then .ok (.nx (List.replicate m .un)) else .stuck
theorem allUn_rep : ∀ n, allUn (List.replicate n .un) = true
  | 0 => rfl
  | n + 1 => by rw [List.replicate_succ]; exact allUn_rep n
theorem isR0_r0 (m : Nat) : isR0 m (r0 m) = true := by
  unfold isR0 r0
  simp [allUn_rep]
theorem roundS_ok (m : Nat) : LawOk (roundS m) m := ⟨by unfold roundS; rw [if_pos (isR0_r0 m)]; exact ⟨_, .inl rfl⟩⟩
section
variable {G : Gm} {c i : Nat} {dl : Addr} {Z : List Addr} {O : List (Nat × Addr)} {r : LE} {σ : L2.St} {H H' : Hp} {sh : List Nat} {a : Addr}
theorem GSt.new (fn : ∀ n, G.fns n = n) (A : At G dl Z O r σ H) (hi : i < r.length) {dx : Addr} (na : H a = none) (nd : H dx = none) (nad : dx ≠ a) (h : NewDsk G c (upd (upd H dx (.own a)) a (.ins (G.cls c) dx [])) a sh H') :
    ∃ p q, GSt G c i ⟨dl, Z, O, r, σ, H⟩ (a :: p :: q :: Z) O (r.set i (.val (.fn a))) (σ.set i (some (.ref a))) H' a p q ⟨sh, [], []⟩ := by
  obtain ⟨dx', p, q, e0, np, nq, npq, rfl⟩ := h
  have hdx : dx' = dx := by
    rw [upd_same] at e0
    cases e0
    rfl
  subst hdx
  have npa : p ≠ a := fun z => by rw [z, upd_same] at np; cases np
  have nqa : q ≠ a := fun z => by rw [z, upd_same] at nq; cases nq
  rw [upd_ne npa] at np
  rw [upd_ne nqa] at nq
  have npd : p ≠ dx' := fun z => by rw [z, upd_same] at np; cases np
  have nqd : q ≠ dx' := fun z => by rw [z, upd_same] at nq; cases nq
  rw [upd_ne npd] at np
  rw [upd_ne nqd] at nq
  generalize hH : upd (upd (upd (upd (upd (upd (upd H dx' (.own a)) a (.ins (G.cls c) dx' [])) a (.ins (G.cls c) dx' ((G.flds c).zip [sV sh]))) p (.lst [])) a (.ins (G.cls c) dx' ((G.flds c).zip [sV sh, .ref p]))) q (.lst [])) a (.ins (G.cls c) dx' ((G.flds c).zip [sV sh, .ref p, .ref q])) = H'
  have same : ∀ y o, H y = some o → H' y = some o := fun y o e => by
    subst hH
    have n1 := ne_of_none e na
    have n2 := ne_of_none e nd
    have n3 := ne_of_none e np
    have n4 := ne_of_none e nq
    rw [upd_ne n1, upd_ne n4, upd_ne n1, upd_ne n3, upd_ne n1, upd_ne n1, upd_ne n2]
    exact e
  have ea : H' a = some (.ins (G.cls c) dx' ((G.flds c).zip [sV sh, .ref p, .ref q])) := by subst hH; exact upd_same
  have ep : H' p = some (.lst []) := by subst hH; rw [upd_ne npa, upd_ne npq, upd_ne npa, upd_same]
  have eq : H' q = some (.lst []) := by subst hH; rw [upd_ne nqa, upd_same]
  have k : GlOk G dl H' := A.gl.same same
  have g : Grow dl H H' := fun y o e _ _ => same y o e
  have gs : GrowS (cut H Z) (cut H' (a :: p :: q :: Z)) := fun y o e nt => by
    obtain ⟨e1, e2⟩ := cut_some e
    rw [cut_out fun z => by
      simp only [List.mem_cons] at z
      rcases z with z | z | z | z
      · exact ne_of_none e2 na z
      · exact ne_of_none e2 np z
      · exact ne_of_none e2 nq z
      · exact e1 z]
    exact same y o e2
  have live' : Live (a :: p :: q :: Z) H' := fun y hy => by
    simp only [List.mem_cons] at hy
    rcases hy with rfl | rfl | rfl | hy
    · exact ⟨_, ea, fun t z => by cases t <;> cases z⟩
    · exact ⟨_, ep, NT.lst _⟩
    · exact ⟨_, eq, NT.lst _⟩
    · obtain ⟨o, e, nt⟩ := A.live y hy
      exact ⟨o, same y o e, nt⟩
  have up : ∀ {y}, y ∈ Z → y ∈ a :: p :: q :: Z := fun h => List.mem_cons_of_mem _ (List.mem_cons_of_mem _ (List.mem_cons_of_mem _ h))
  have A1 : At G dl (a :: p :: q :: Z) O r σ H' := by
    refine ⟨k, up A.dz, live', fun x hx => ⟨up (A.own x hx).1, (A.own x hx).2⟩, A.inj, A.len, fun j cl e => ?_⟩
    have := A.slot j cl e
    cases cl with
    | un => trivial
    | val d => obtain ⟨v, e, q⟩ := this; exact ⟨v, e, q.mono gs⟩
    | own d =>
      obtain ⟨y, hy, e, ow, ko⟩ := this
      obtain ⟨u, hu, nt⟩ := ow.notTbl
      refine ⟨y, hy, e, ?_, ko⟩
      rw [same y u hu, ← hu]
      exact ow.mono gs
  have no : ∀ x ∈ O, ∀ y, H y = none → x.2 ≠ y := fun x hx y hy z => by
    obtain ⟨o, e, _⟩ := A.live _ (A.own x hx).1
    rw [z, hy] at e
    cases e
  refine ⟨p, q, A, ⟨fun y o e n m nt => same y o e, fun x hx => .inl ⟨x, hx, rfl⟩, fun y hy _ => up hy, fun y hy => ?_, fun _ h => h, g.dom k⟩, A1.set_val i (by unfold Rep; rw [fn]), ⟨Free.of na, Free.of np, Free.of nq⟩,
    ⟨k, up A.dz, live', by simp, by simp, by simp, ⟨A.notdl na, A.notdl np, A.notdl nq⟩, ⟨⟨dx', ea⟩, ⟨[], ep, .nil⟩, ⟨[], eq, .nil⟩, npq⟩⟩, fun x hx => ⟨no x hx a na, no x hx p np, no x hx q nq⟩, List.getElem?_set_self hi⟩
  simp only [List.mem_cons] at hy
  rcases hy with rfl | rfl | rfl | hy
  · exact .inr (Free.of na)
  · exact .inr (Free.of np)
  · exact .inr (Free.of nq)
  · exact .inl hy
end
section
variable {X : Cx} {G : Gm} {W : WX} {c i m k : Nat} {sh : List Nat} {F : GF} {x y : Str} {rest : List Stmt} {p pos py pos' : Pos} {fm : Addr} {fd : FuncData} {ps : List Str}
/-- the round keeps the law, wherever the instance stands -/
structure RndOk (F : GF) (i m : Nat) (sh : List Nat) : Prop where
  out : ∀ a : Nat, Wp (F ((r0 m).set i (.val (.fn a))) ⟨sh, [], []⟩) (fun z => ∃ r', z.1 = .nx r' ∧ r'.length = m) (fun _ => False)
theorem pss_round (fn : ∀ n, G.fns n = n) (M : Mk X.K (G.cls c) fm) (ok : FnOk X.prog X.w X.K X.mg X.base (LG.CX X.prog X.w) k fm fd ps (spN G c sh)) (hb : Binds X.K fd ps []) (hr : Room (k + 1) X.A) (tk : Takes X W) (hm : X.mg x = some (.ref (G.cls c)))
    (hrest : PSs X rest (tSG G c i F)) (hF : RndOk F i m sh) (him : i < m) (h2m : 2 ≤ m)
    (hN : X.N.Nodup) (hi : X.N[i]? = some y) (hy : Loc X.env.scope y) (hf : X.fn y = true ∨ X.env.scope.names.lookup y = some .local) (hg : Gl X x := by rfl) (hdb : (x == ("__debug__" : Str)) = false := by decide)
    (hs : swapsWith (.Call (.Name x p) [] [] pos) (some (.Name y py)) pos'.line X.env = pure false := by rfl) :
    DSs X G W (.Assign [.Name y py] (.Call (.Name x p) [] [] pos) pos' :: rest) (roundS m) := by
  refine PSs_imp (pss_cons (ps_set hN hi hy (pe_make_s0 M ok hr hg hm hb (fun sg => passAt tk sg) hdb) hs hf) hrest) fun De σ H ⟨dl, Z, O, r, A, q⟩ => ?_
  unfold roundS at q
  split at q
  case isFalse => exact q.elim
  rename_i hr0
  have hr0 := isR0_eq hr0
  subst hr0
  have hlen : (r0 m).length = m := by unfold r0; simp; omega
  have q : SPost G W De dl Z O H (.nx (List.replicate m .un)) := q
  intro a dx na nd nad
  refine ⟨a, dx, rfl, upd_same, fun H' new => ⟨rfl, ?_⟩⟩
  obtain ⟨p', q', g⟩ := GSt.new (i := i) fn A (by rw [hlen]; exact him) na nd nad new
  refine ⟨_, _, O, _, a, p', q', _, g, (hF.out a).thn fun z ⟨r', e, hl⟩ => ?_⟩
  obtain ⟨o, S'⟩ := z
  cases e
  intro σ2 H2 Z2 O2 a2 p2 q2 g2 _
  refine q Z2 O2 σ2 H2 g2.st ⟨g2.A.gl, g2.A.dz, g2.A.live, g2.A.own, g2.A.inj, by rw [List.length_replicate, ← hl]; exact g2.A.len, fun j cl e => ?_⟩
  rw [List.getElem?_replicate] at e
  split at e
  · cases e; trivial
  · cases e
end
end DL
set_option Elab.async false
set_option linter.all false
set_option maxRecDepth 100000
set_option maxHeartbeats 1000000
namespace DL
open PySem L2 LamX PySem.Spec PyProof.Rows
/-- the function object f made of the lambda e in the frame X, at the state s -/
def LamAt (X : Cx) (s : Shared) (H : Hp) (e : Expr) (f : Addr) : Prop := ∃ prm bd sc lpos c' P2 pm ctv, e = .Lambda prm bd sc lpos ∧
  s.heap.get? f = some (PySem.W.kla_obj "<lambda>" (X.env.qual ++ "<lambda>") prm bd sc (cloFrom X.env.cells sc.names []) pm c' ctv) ∧ H f = none ∧ f ∉ frs X.stack ∧ H c' = some (CodeN c' (X.env.qual ++ "<lambda>") P2)
abbrev QF := LE → R (Nat × LE × D)
def QEnd (X : Cx) (G : Gm) (lams : List Expr) (dl : Addr) (Z : List Addr) (O : List (Nat × Addr)) (H : Hp) (pins : List (Addr × Obj)) (P : Value → Shared → Prop) (x : Nat × LE × D) : Prop :=
  ∀ Z' O' σ' H' s' f t e pl vd, Stp dl Z O H Z' O' H' → At G dl Z' O' x.2.1 σ' H' → Inv X (pins ++ pl) σ' H' s' → H' t = some (.tup [.ref f, vd]) → Rep G dl (cut H' Z') x.2.2 vd → lams[x.1]? = some e → LamAt X s' H' e f → P (.ref t) s'
structure QSs (X : Cx) (G : Gm) (lams : List Expr) (sts : List Stmt) (F : QF) : Prop where
  run : ∀ pins s σ H dl Z O r, Inv X pins σ H s → At G dl Z O r σ H → ∀ P : Value → Shared → Prop, Wp (F r) (QEnd X G lams dl Z O H pins P) (fun _ => False) →
    wpAny (model X.prog X.w) X.A (execs sts X.env) (fun fl s' => ∃ u, fl = .ret u ∧ P u s') X.xe s
def qcons (F : LE → R Out) (K : QF) : QF := fun r => F r >>= fun o => match o with
  | .nx r' => K r'
  | _ => .stuck
def qif (t : LE → R Bool) (A B : QF) : QF := fun r => (t r).calm >>= fun b => if b then A r else B r
def qret (k : Nat) (f : LE → R D) : QF := fun r => (f r).calm >>= fun d => .ok (k, r, d)
section
variable {X : Cx} {G : Gm} {W : WX} {lams : List Expr} {st : Stmt} {rest sa : List Stmt} {F : LE → R Out} {K K2 : QF} {t : LE → R Bool} {te e : Expr} {pos p1 p2 : Pos}
theorem QEnd.trans {dl : Addr} {Z Z1 : List Addr} {O O1 : List (Nat × Addr)} {r : LE} {σ : L2.St} {H H1 : Hp} {pins : List (Addr × Obj)} {P : Value → Shared → Prop} (A : At G dl Z O r σ H) (s : Stp dl Z O H Z1 O1 H1) {x : Nat × LE × D} (h : QEnd X G lams dl Z O H pins P x) : QEnd X G lams dl Z1 O1 H1 pins P x :=
  fun Z' O' σ' H' s' f t e pl vd st => h Z' O' σ' H' s' f t e pl vd (Stp.trans A s st)
theorem q_cons (h1 : DS X G W st F) (h2 : QSs X G lams rest K) : QSs X G lams (st :: rest) (qcons F K) := by
  refine ⟨fun pins s σ H dl Z O r I A P hw => ?_⟩
  refine wpAny_execs_cons (thn (h1.run pins s σ H { nx := fun σ' H' => ∃ Z' O' r', Stp dl Z O H Z' O' H' ∧ At G dl Z' O' r' σ' H' ∧ Wp (K r') (QEnd X G lams dl Z O H pins P) (fun _ => False), rt := fun _ _ => False } I
    ⟨dl, Z, O, r, A, hw.bind.thn fun o ho => ?_⟩) fun fl s1 q => ?_)
  · cases o with
    | nx r' => exact fun Z' O' σ' H' s A' => ⟨Z', O', r', s, A', ho⟩
    | rt d => exact ho.elim
    | bk r' => exact ho.elim
    | ct r' => exact ho.elim
    | ex e r' => exact ho.elim
  · cases fl with
    | next =>
      obtain ⟨σ', H', I', Z', O', r', s', A', hw'⟩ := q
      exact h2.run pins s1 σ' H' dl Z' O' r' I' A' P (hw'.thn fun x hx => hx.trans A s')
    | ret v => obtain ⟨_, _, _, _, _, z⟩ := q; exact z.elim
    | brk => obtain ⟨_, _, _, z⟩ := q; exact (show False from z).elim
    | cont => obtain ⟨_, _, _, z⟩ := q; exact (show False from z).elim
theorem q_if (ht : DT X G W te t) (ha : QSs X G lams sa K) (hb : QSs X G lams rest K2) : QSs X G lams (.If te sa [] pos :: rest) (qif t K K2) := by
  refine ⟨fun pins s σ H dl Z O r I A P hw => ?_⟩
  refine wpAny_execs_cons (wpAny_If (thn (ht.run pins s σ H (fun b H1 => Stp dl Z O H Z O H1 ∧ At G dl Z O r σ H1 ∧ Wp (if b then K r else K2 r) (QEnd X G lams dl Z O H pins P) (fun _ => False)) I
    ⟨dl, Z, O, r, A, (calm_wp (E' := fun _ => False) hw.bind).mono (fun b hb H1 g1 k1 => ⟨Stp.of_grow g1 k1, A.grow g1 k1, hb⟩) fun e he => he.elim⟩) fun b s1 ⟨H1, I1, st1, A1, hw1⟩ => ?_))
  cases b with
  | true =>
    refine thn (ha.run pins s1 σ H1 dl Z O r I1 A1 P (hw1.thn fun x hx => hx.trans A st1)) fun fl s2 ⟨u, e, q⟩ => ?_
    subst e
    exact ⟨u, rfl, q⟩
  | false =>
    refine wpAny_execs_nil ?_
    exact hb.run pins s1 σ H1 dl Z O r I1 A1 P (hw1.thn fun x hx => hx.trans A st1)
theorem q_ret {c P0 : Addr} {k : Nat} {prm : Arguments} {bd : Expr} {sc : Scope} {lpos : Pos} {f : LE → R D} {x1 : _} (M : Mkr X G c P0) (hstk : X.stack = X.env :: X.outer) (hfr : X.env.frame = some X.env.locals) (hkd : G.kd lpos.line lpos.col = true) (hdef : defaultsOf prm X.env = ([], [])) (L : LamS X.env.scope sc)
    (he : DE X G W e f) (hk : lams[k]? = some (.Lambda prm bd sc lpos)) (hst : starEach [.Lambda prm bd sc lpos, e] X.env = (false, eval (.Lambda prm bd sc lpos) X.env) :: starEach [e] X.env) (hst2 : starEach [e] X.env = (false, eval e X.env) :: starEach [] X.env) :
    QSs X G lams (.Return (some (.Tuple [.Lambda prm bd sc lpos, e] x1 p1)) p2 :: rest) (qret k f) := by
  refine ⟨fun pins s σ H dl Z O r I A P hw => ?_⟩
  refine wpAny_execs_cons (wpAny_Return_some (wpAny_Tuple_spliced ?_))
  rw [hst]
  show wpAny _ _ (spliced ((false, eval (.Lambda prm bd sc lpos) X.env) :: backTo p1 (starEach [e] X.env))) _ _ s
  refine Calls.spliced_cons (lam_make I M A.gl.tab hkd hdef (L.has I.ok) fun fa c' P2 pm ctv H1 s1 mA => ?_)
  rw [hst2]
  show wpAny _ _ (spliced ((false, eval e X.env) :: backTo p1 (starEach [] X.env))) _ _ s1
  have nL : fa ≠ X.env.locals := fun z => mA.nfr (by rw [hstk]; exact List.mem_filterMap.mpr ⟨X.env, List.mem_cons_self, by rw [hfr, z]⟩)
  have nF : fa ∉ X.fs := fun hm => mA.nfr (by
    rw [hstk]
    obtain ⟨v, hv, q⟩ := List.mem_filterMap.mp hm
    exact List.mem_filterMap.mpr ⟨v, List.mem_cons_of_mem _ hv, q⟩)
  have I1 : Inv X (pins ++ [(fa, PySem.W.kla_obj "<lambda>" (X.env.qual ++ "<lambda>") prm bd sc (cloFrom X.env.cells sc.names []) pm c' ctv)]) σ H1 s1 := mA.inv.pins_of fun p hp => (List.mem_append.mp hp).elim (fun z => mA.inv.pin p (List.mem_append_right _ z)) fun z => by
    rw [List.mem_singleton.mp z]
    exact ⟨mA.obj, mA.new, nL, nF, fun v z => by cases z⟩
  have g1 : Grow dl H H1 := Grow.ofExt mA.ext
  have k1 := A.gl.ofExt mA.ext mA.tab.drop
  have A1 := A.grow g1 k1
  refine Calls.spliced_cons (thn (he.run _ s1 σ H1 (fun v H2 => Grow dl H1 H2 ∧ GlOk G dl H2 ∧ ∃ d, Rep G dl (cut H2 Z) d v ∧ QEnd X G lams dl Z O H pins P (k, r, d)) I1
    ⟨dl, Z, O, r, A1, (calm_wp (E' := fun _ => False) hw.bind).mono (fun d hd v H2 g2 k2 rp => ⟨g2, k2, d, rp, hd⟩) fun e he => he.elim⟩) fun u s2 ⟨v, H2, I2, rv, g2, k2, d, rp, hq⟩ => ?_)
  refine Calls.spliced_nil ⟨by rw [sizeLine_eq]; exact Nat.le_of_ble_eq_true rfl, ?_⟩
  have hnew : H2 s2.heap.objs.size = none := I2.hok.fresh (Nat.le_refl _)
  have I3 := I2.laid (t' := s2.toks) (a := s2.heap.objs.size) (o := .tup [.ref fa, v]) (h' := s2.heap.push { cls := .type "tuple", data := .seq [Value.ref fa, u].toArray }) (fun b ob e => Heap.get?_push_of_some _ e) (Nat.le_refl _)
    ⟨by rw [sizeLine_eq]; exact Nat.le_of_ble_eq_true rfl, [Value.ref fa, u], .cons rfl (.cons rv .nil), ⟨_, Heap.get?_push_size _ rfl, rfl, _, rfl⟩⟩
  obtain ⟨y1, y2, _, _, _⟩ := I3.pin (fa, PySem.W.kla_obj "<lambda>" (X.env.qual ++ "<lambda>") prm bd sc (cloFrom X.env.cells sc.names []) pm c' ctv) (by simp)
  have nc : H1 c' = some (CodeN c' (X.env.qual ++ "<lambda>") P2) := mA.cod
  have ndl : c' ≠ dl := fun z => by
    obtain ⟨a, b, w, e⟩ := k1.dice
    rw [z, e] at nc
    cases nc
  have cod2 : (upd H2 s2.heap.objs.size (.tup [.ref fa, v])) c' = some (CodeN c' (X.env.qual ++ "<lambda>") P2) := same_new hnew _ _ (g2 _ _ nc ndl codeN_ne)
  exact ⟨_, rfl, hq Z O σ _ _ fa s2.heap.objs.size _ [(fa, PySem.W.kla_obj "<lambda>" (X.env.qual ++ "<lambda>") prm bd sc (cloFrom X.env.cells sc.names []) pm c' ctv)] v (Stp.of_grow ((g1.trans g2).trans (Grow.new hnew)) (k2.new hnew)) ((A1.grow g2 k2).grow (Grow.new hnew) (k2.new hnew)) I3 upd_same
    (rp.mono ((Grow.new hnew).cut A.dz)) hk ⟨prm, bd, sc, lpos, c', P2, pm, ctv, rfl, y1, y2, mA.nfr, cod2⟩⟩
end
end DL
set_option Elab.async false
set_option linter.all false
set_option maxRecDepth 100000
set_option maxHeartbeats 2000000
namespace DL
open PySem L2 LamX PySem.Spec PyProof.Rows
/-- a def called, what is wanted told of the very state at its return -/
theorem run_ofX {CX : CXT} {P : Program} {w : World} {K : PySem.W.Frag} {mg : Str → Option Value} {base : Heap} {k : Nat} {f : Addr} {name qual : Str} {params : Arguments} {body : List Stmt} {scope : Scope} {dV kV doc pm cdv ct oc : Value} {an od : Option Addr}
    {osl : Array (Option Value)} {N ps : List Str} (lk : K.lookup f = some ⟨oc, od, .func (PySem.W.fnOf name qual params body scope dV kV doc pm an cdv ct), osl⟩) (hcd : PySem.W.codeIn K cdv qual = true) (S : FnScope N ps scope)
    {A : Around} {outer : List Env} {s : Shared} {H : Hp} {args : Args} {us : List Value} {vs : List V} {E : XK} {Pq : Value → Shared → Prop} (hr : Room (k + 1) A) (e0 : Env0 P w K mg base A outer s H) (hb : BindsTo s (PySem.W.fnOf name qual params body scope dV kV doc pm an cdv ct) args (ps.zip us)) (r : Vals vs us) (hl : vs.length = ps.length)
    (hbody : Room k (A.deeper (envOfC qual scope s.heap.objs.size f cdv)) → ∀ s1, Inv (cxOf CX P w K mg base N qual scope f cdv A outer s H E) [] (L2.start N vs) H s1 →
      wpAny (model P w) (A.deeper (envOfC qual scope s.heap.objs.size f cdv)) (execs body (envOfC qual scope s.heap.objs.size f cdv)) (fun fl s' => ∃ u, fl = .ret u ∧ Pq u s') (cxOf CX P w K mg base N qual scope f cdv A outer s H E).xe s1) :
    codeAny (model P w) A (.call (.ref f) args) (fun r s' => match r with | .ok (.ret u) => Pq u s' | .ok _ => False | .error e => CX outer H s E e s') s := by
  have KX : K.In s.heap := e0.mod.kin.keeps fun b o e => (e0.bs b o e).1
  have lim : s.heap.NoLimit := e0.mod.nolimit.keeps fun b o e => (e0.bs b o e).1
  have hkind : ∀ y ∈ ps.zip us, scope.names.lookup y.1 = some .local ∨ (scope.names.lookup y.1 = some .cell ∧ ((cellsFrom (s.heap.objs.size + 1) scope.names []).lookup y.1).isSome = true) := fun ⟨n, v⟩ hy => by
    rcases S.par n (List.of_mem_zip hy).1 with q | q
    · exact .inl q
    · exact .inr ⟨q, PySem.W.cellsFrom_some _ _ _ (.inl q)⟩
  refine codeAny_call_function hr.depth (KX _ _ lk) rfl S.co S.gen rfl (PySem.W.codeRec_of KX hcd) (hb _ _ _ _ ?_)
  refine wpAny_newFunctionEnv_cells S.kind hkind fun env he s1 x => ?_
  subst he
  refine ⟨lim.keeps x.toInCall.keep, codeAny_func ?_⟩
  have I : Inv (cxOf CX P w K mg base N qual scope f cdv A outer s H E) [] (L2.start N vs) H s1 := inv_start S hr.hd e0 hl r x
  refine wpAny_mono (hbody (hr.deeper _) s1 I) (fun fl s' hs => ?_) fun e s' hs => hs
  obtain ⟨u, rfl, q⟩ := hs
  exact q
section
variable {X : Cx} {pins : List (Addr × Obj)} {σ : L2.St} {H HZ : Hp} {s s1 : Shared}
/-- a lambda's frame entered later: only the cells are asked for -/
theorem lam_start3 {A : Around} {outer : List Env} {E : XK} {scope : Scope} {f c' : Addr} {h₁ : Heap} {tk : Nat} (I : Inv X pins σ H s) (L : LamS X.env.scope scope) (e0 : Env0 X.prog X.w X.K X.mg X.base A outer s1 HZ) (hd : A.handled = none)
    (hc : ∀ y c, X.env.cells.lookup y = some c → HZ c = none ∧ ∀ v, s.heap.IsCell c v → s1.heap.IsCell c v) (hns : h₁.Ns s1.heap.objs.size fun y => ([] : List (Str × Value)).reverse.lookup y) (kp : ∀ b o, s1.heap.get? b = some o → h₁.get? b = some o) :
    Inv (lamCx X A outer s1 HZ E scope f c') [] σ HZ { s1 with heap := h₁, toks := tk } := by
  have hfree := L.has I.ok
  have cm : ∀ {y c}, (cloFrom X.env.cells scope.names []).lookup y = some c → X.env.cells.lookup y = some c := fun {y c} e => by
    rcases cloFrom_mem (PySem.mem_of_lookup e) with hm | ⟨h1, h2⟩
    · cases hm
    · obtain ⟨c1, hc⟩ := hfree _ h1 rfl
      have hc : X.env.cells.lookup y = some c1 := hc
      have e2 : c = c1 := by
        rw [h2, hc] <;> rfl
      rw [e2]
      exact hc
  have look : ∀ {y}, scope.names.lookup y = some .free → ∃ c, (cloFrom X.env.cells scope.names []).lookup y = some c := fun {y} hl => by
    have hy : (y, NameKind.free) ∈ scope.names := PySem.mem_of_lookup hl
    exact mem_lookup (cloFrom_has (cells := X.env.cells) (acc := []) hy)
  have cellK : ∀ {y : Str} {c : Addr} {v : Option Value}, X.env.cells.lookup y = some c → s.heap.IsCell c v → h₁.IsCell c v := fun {y c v} e q => by
    obtain ⟨o, ho, hd⟩ := (hc y c e).2 v q
    exact ⟨o, kp _ _ ho, hd⟩
  have noA : ∀ b : Addr, b ∉ (lamCx X A outer s1 HZ E scope f c').ex := fun b z => absurd (show b ∈ ([] : List Addr) from z) (by simp)
  refine ⟨⟨e0.mod, L.kind, rfl, rfl, Nat.le_refl _, fun y z c e1 e2 => I.ok.inj y z c (cm e1) (cm e2), fun y hy => ?_, fun y c z _ => ?_, fun _ => hd, Around.frames_deeper e0.frames, .inr ⟨rfl, rfl⟩, fun b z => absurd z (noA b), e0.bs, e0.bsz, fun b _ _ => noA b,
      fun b z => absurd z (noA b), e0.funs, e0.frf⟩,
    rfl, e0.bare, Un.kept kp, ⟨_, hns, fun i y v e1 e2 e3 => ?_⟩, fun y c e => ?_, e0.hok.fresh (Nat.le_refl _), fun y c e => ?_, fun q hq => absurd (show q ∈ ([] : List (Addr × Obj)) ++ [] from hq) (by simp), e0.hok.kept kp, I.len⟩
  · have hy : scope.names.lookup y = some .cell ∨ scope.names.lookup y = some .free := hy
    rcases hy with hy | hy
    · exact absurd rfl (L.own _ (PySem.mem_of_lookup hy)).2
    · exact look hy
  · have z : false = true := z
    cases z
  · have e3 : Vis scope y := e3
    rcases e3 with k | k | k
    · exact absurd rfl (L.own _ (PySem.mem_of_lookup k)).1
    · exact absurd rfl (L.own _ (PySem.mem_of_lookup k)).2
    · obtain ⟨m, hn, hl⟩ := I.loc
      have hvis : Vis X.env.scope y := (L.free _ (PySem.mem_of_lookup k) rfl).elim (fun k => .inr (.inl k)) (fun k => .inr (.inr k))
      obtain ⟨w', r, q⟩ := hl i y v e1 e2 hvis
      obtain ⟨c2, h2⟩ := look k
      refine ⟨w', r, .inr ⟨.inr k, c2, h2, ?_⟩⟩
      have c1 := cm h2
      rcases q with ⟨k', _⟩ | ⟨_, c3, e', z⟩
      · have k' : X.env.scope.names.lookup y = some .local := k'
        rcases L.free _ (PySem.mem_of_lookup k) rfl with k2 | k2 <;> rw [show X.env.scope.names.lookup y = _ from k2] at k' <;> cases k'
      · rw [c1] at e'
        cases e'
        exact cellK c1 z
  · obtain ⟨w', z⟩ := I.cell y c (cm e)
    exact ⟨w', cellK (cm e) z⟩
  · exact (hc y c (cm e)).1
end
section
variable {Xd : Cx} {pinsd : List (Addr × Obj)} {σd : L2.St} {Hd : Hp} {sd : Shared}
/-- the call, in the def that got the lambda: Xd the frame that made it, as it was at its end -/
theorem act_pe3 {A : Around} {stack : List Env} {s : Shared} {H : Hp} {CXg : CXT} {Eg : XK} {Ng : List Str} {qg : Str} {sg : Scope} {g f c' P2 : Addr} {cdg pm ctv : Value} {prm : Arguments} {bd : Expr} {sc : Scope} {k i : Nat} {a : Str} {pn : List (Addr × Obj)} {xe : Value → Shared → Prop} {W : WX} {Ech : XK} {tb : TE} {q1 q2 : Pos}
    (Id : Inv Xd pinsd σd Hd sd) (L : LamS Xd.env.scope sc) (hf : s.heap.get? f = some (PySem.W.kla_obj "<lambda>" (Xd.env.qual ++ "<lambda>") prm bd sc (cloFrom Xd.env.cells sc.names []) pm c' ctv)) (hfn : H f = none) (hfr : f ∉ frs stack)
    (hcells : ∀ y cc, Xd.env.cells.lookup y = some cc → H cc = none ∧ cc ∉ frs stack ∧ ∀ v, sd.heap.IsCell cc v → s.heap.IsCell cc v)
    (hbind : bindArgs (PySem.W.kla_fn "<lambda>" (Xd.env.qual ++ "<lambda>") prm bd sc (cloFrom Xd.env.cells sc.names []) pm (.ref c') ctv) ⟨[], []⟩ = pure [])
    (tk : L2.Takes ((cxOf CXg Xd.prog Xd.w Xd.K Xd.mg Xd.base Ng qg sg g cdg A stack s H Eg).tr pn xe) W) (hW : ∀ cls d sY HY, Ech cls d HY → W cls d sY HY) (hr : Room (k + 1) (A.deeper (envOfC qg sg s.heap.objs.size g cdg)))
    (hbody : ∀ (A : Around) (outer : List Env) (s : Shared) (H : Hp), Room k (A.deeper (lamEnv Xd sc s.heap.objs.size f c')) → PE (lamCx Xd A outer s H Ech sc f c') bd tb)
    (hN : Ng[i]? = some a) (hv : Vis sg a) (hd : (a == ("__debug__" : Str)) = false := by decide) (hcd : (a == ("__classdict__" : Str)) = false := by decide) :
    PE ((cxOf CXg Xd.prog Xd.w Xd.K Xd.mg Xd.base Ng qg sg g cdg A stack s H Eg).tr pn xe) (.Call (.Name a q1) [] [] q2)
      (fun sY HY QY => sY[i]? = some (some (.ref f)) ∧ HY c' = some (CodeN c' (Xd.env.qual ++ "<lambda>") P2) ∧ tb σd HY QY) := by
  refine ⟨fun pinsY sY oY HY QY IY ⟨w1, w2, w3⟩ => wpAny_Call_Name_kw (thn ((pe_var (pos := q1) (i := i) hN hv hd hcd).run pinsY sY oY HY (fun v HB => v = .ref f ∧ HB = HY) IY ⟨.ref f, w1, rfl, rfl⟩) fun u sB ⟨v, HB, IB, rB, qB⟩ => ?_)⟩
  obtain ⟨rfl, rfl⟩ := qB
  obtain rfl : u = Value.ref f := rB
  have oB : sB.heap.get? f = some (PySem.W.kla_obj "<lambda>" (Xd.env.qual ++ "<lambda>") prm bd sc (cloFrom Xd.env.cells sc.names []) pm c' ctv) := IB.base.keep f _ hf hfn hfr fun z => nomatch (show f ∈ ([] : List Addr) from z)
  have cB : ∀ y cc, Xd.env.cells.lookup y = some cc → HB cc = none ∧ ∀ v, sd.heap.IsCell cc v → sB.heap.IsCell cc v := fun y cc e => by
    obtain ⟨h1, h2, h3⟩ := hcells y cc e
    obtain ⟨v0, z0⟩ := Id.cell y cc e
    obtain ⟨o, ho, hdd⟩ := h3 v0 z0
    refine ⟨IB.base.free cc o ho h1 (fun z => nomatch (show cc ∈ ([] : List Addr) from z)), fun v z => ?_⟩
    obtain ⟨o, ho, hdd⟩ := h3 v z
    exact ⟨o, IB.base.keep cc o ho h1 h2 (fun z => nomatch (show cc ∈ ([] : List Addr) from z)), hdd⟩
  have rc : codeAny (model Xd.prog Xd.w) (A.deeper (envOfC qg sg s.heap.objs.size g cdg)) (.call (.ref f) ⟨[], []⟩) (CR (L2.CX Xd.prog Xd.w) (envOfC qg sg s.heap.objs.size g cdg :: stack) Xd.prog Xd.w HB sB QY Ech) sB := by
    obtain ⟨oc, vs, t, y1, y2, y3⟩ := (codeN_at IB.hok w2).1
    refine PySem.W.kla_callFunE hr.depth oB rfl L.co L.gen rfl ⟨c', oc, vs, t, rfl, y1, y2, y3⟩ ?_
    rw [hbind]
    refine wpAny_pure (wpAny_newFunctionEnv (fun y hy => (L.own y hy).2) (fun y hy => absurd hy (by simp)) (fun hB hns hsb => ⟨IB.nolimit.fresh _ hsb, ?_⟩) L.kind)
    show codeAny _ _ (.expr bd (lamEnv Xd sc sB.heap.objs.size f c')) _ _
    refine PySem.W.kla_codeExpr (wpAny_mono ((hbody _ _ sB HB (hr.deeper _)).run [] _ _ HB QY (lam_start3 (tk := sB.toks + ([] : List (Str × Value)).length) Id L IB.env0 hr.hd cB hns fun b o e => hsb.extBut b o (Nat.ne_of_lt (Heap.lt_size e)) (Heap.get?_push_of_some _ e)) w3) (fun v sZ hq => ?_) fun e sZ hq => hq)
    obtain ⟨wv, HZ, JZ, rZ, qZ⟩ := hq
    exact ⟨wv, HZ, JZ.os, JZ.bare, JZ.base, JZ.hok, rZ, qZ⟩
  refine PySem.W.callWith_F0 ⟨_, _, _, _, oB⟩ (wpAny_call (codeAny_mono rc fun r sZ hq => ?_))
  cases r with
  | error e => exact passes_call tk hW pinsY oY HB sB e sZ IB hq
  | ok fl =>
    cases fl with
    | ret u => exact IB.after hq
    | next | brk | cont => exact False.elim hq
end
end DL
set_option Elab.async false
set_option linter.all false
set_option maxRecDepth 100000
set_option maxHeartbeats 4000000
namespace DL
open PySem L2 LamX PySem.Spec PyProof.Rows
inductive KBodies (Xd : Cx) (G : Gm) (c i k : Nat) : List Expr → List (LE → KS → R KS) → Prop
  | nil : KBodies Xd G c i k [] []
  | cons {prm : Arguments} {bd : Expr} {sc : Scope} {lpos : Pos} {gK : LE → KS → R KS} {es : List Expr} {gKs : List (LE → KS → R KS)} (L : LamS Xd.env.scope sc)
      (hbind : ∀ (q : Str) (cl : List (Str × Addr)) (pm cv ctv : Value), bindArgs (PySem.W.kla_fn "<lambda>" q prm bd sc cl pm cv ctv) ⟨[], []⟩ = pure [])
      (hbody : ∀ (A : Around) (outer : List Env) (s : Shared) (H : Hp) (E : XK) (f c' : Addr), Room k (A.deeper (lamEnv Xd sc s.heap.objs.size f c')) → PE (lamCx Xd A outer s H E sc f c') bd (tKe G (WD E) c i gK))
      (t : KBodies Xd G c i k es gKs) : KBodies Xd G c i k (.Lambda prm bd sc lpos :: es) (gK :: gKs)
theorem KBodies.at_ {Xd : Cx} {G : Gm} {c i k : Nat} : ∀ {es : List Expr} {gKs : List (LE → KS → R KS)} {j : Nat} {gK : LE → KS → R KS}, KBodies Xd G c i k es gKs → gKs[j]? = some gK → ∃ prm bd sc lpos, es[j]? = some (.Lambda prm bd sc lpos) ∧ LamS Xd.env.scope sc ∧
    (∀ (q : Str) (cl : List (Str × Addr)) (pm cv ctv : Value), bindArgs (PySem.W.kla_fn "<lambda>" q prm bd sc cl pm cv ctv) ⟨[], []⟩ = pure []) ∧
    (∀ (A : Around) (outer : List Env) (s : Shared) (H : Hp) (E : XK) (f c' : Addr), Room k (A.deeper (lamEnv Xd sc s.heap.objs.size f c')) → PE (lamCx Xd A outer s H E sc f c') bd (tKe G (WD E) c i gK))
  | _, _, j, gK, .nil, h => by simp at h
  | _, _, 0, gK, .cons L hbind hbody t, h => by
    simp only [List.getElem?_cons_zero, Option.some.injEq] at h
    subst h
    exact ⟨_, _, _, _, rfl, L, hbind, hbody⟩
  | _, _, j + 1, gK, .cons L hbind hbody t, h => by
    obtain ⟨prm, bd, sc, lpos, h1, h2⟩ := t.at_ (j := j) (by simpa using h)
    exact ⟨prm, bd, sc, lpos, by simpa using h1, h2⟩
def deedK (jd ju jy : Nat) (gKs : List (LE → KS → R KS)) (l : List (Nat × List Nat)) (r : LE) (S : KS) (x : Nat × LE × D) : R (Out × KS) := match gKs[x.1]? with
  | none => .stuck
  | some gK => toldKs l S (gK x.2.1 S) >>= fun y => .ok (.nx (((r.set jd .un).set ju (.val x.2.2)).set jy (.val y.1)), y.2)
def dstart (md : Nat) (ds : List D) : LE := ds.map Cell.val ++ List.replicate (md - ds.length) Cell.un
def deedG (jd ju jy : Nat) (fa : LE → R (List D)) (md n : Nat) (Fd : QF) (gKs : List (LE → KS → R KS)) (l : List (Nat × List Nat)) : GF := fun r S => (fa r).calm >>= fun ds => if ds.length = n then Fd (dstart md ds) >>= deedK jd ju jy gKs l r S else .stuck
section
variable {X : Cx} {G : Gm} {W : WX} {c i jd ju jy md n kq : Nat} {fa : LE → R (List D)} {Fd : QF} {gKs : List (LE → KS → R KS)} {lams : List Expr} {l : List (Nat × List Nat)} {Fr : GF} {rest : List Stmt}
theorem pss_deed {nd dn un yn : Str} {std : Stmt} {fd cdd : Addr} {Nd psd : List Str} {e1 : Expr} {es : List Expr}
    {xg a : Str} {g : Addr} {pg : Arguments} {bg : List Stmt} {sg : Scope} {dV kV doc pm cdv ct oc : Value} {an od : Option Addr} {osl : Array (Option Value)} {Ng : List Str}
    {p1 p2 p3 p4 p5 p6 p7 p8 p9 p10 p11 : Pos} {kt : Nat}
    (Fn : FunC X.K nd nd std fd cdd psd) (Sd : FnScope Nd psd (defScope std)) (hmd : Nd.length = md) (hpn : psd.length = n) (hnm : n ≤ md) (hmx : X.mg nd = some (.ref fd)) (hgd : Gl X nd) (hdb : (nd == ("__debug__" : Str)) = false)
    (hstk : X.stack = X.env :: X.outer) (hfrm : X.env.frame = some X.env.locals) (hcalm : X.calm = true) (hN : X.N.Nodup) (tk : Takes X W) (fn : ∀ n, G.fns n = n)
    (hr : Room (kq + 2) X.A)
    (hQ : ∀ s H E, Room (kq + 1) (X.A.deeper (envOfC nd (defScope std) s.heap.objs.size fd (.ref cdd))) → QSs (cxD X.prog X.w X.K X.mg X.base Nd nd std fd (.ref cdd) X.A X.stack s H E) G lams (defBody std) Fd)
    (hB : ∀ s H E, KBodies (cxD X.prog X.w X.K X.mg X.base Nd nd std fd (.ref cdd) X.A X.stack s H E) G c 0 kq lams gKs)
    (hk0 : ∀ r, (Fd r).all fun x => x.2.1[0]? = r[0]?)
    (hmg : X.mg xg = some (.ref g)) (hgg : Gl X xg) (hdb2 : (xg == ("__debug__" : Str)) = false) (hkg : PySem.W.keepIn X.K (.ref g) = true)
    (lkg : X.K.lookup g = some ⟨oc, od, .func (PySem.W.fnOf xg xg pg bg sg dV kV doc pm an cdv ct), osl⟩) (hcg : PySem.W.codeIn X.K cdv xg = true) (hbg : L2.Binds X.K (PySem.W.fnOf xg xg pg bg sg dV kV doc pm an cdv ct) [a] []) (Sg : FnScope Ng [a] sg) (hNg : Ng[0]? = some a) (hva : Vis sg a)
    (hG : GivesN X Ng xg sg g cdv bg a (TTm X.K (l.map fun p => (G.xcls p.1, (⟨p.2.toArray⟩ : Str))))) (hx : ExmOk X.K G (l.map (·.1)))
    (hda : (a == ("__debug__" : Str)) = false) (hca : (a == ("__classdict__" : Str)) = false)
    (ha : DA X G W (e1 :: es) fa) (hai : ∀ r, (fa r).all fun ds => ds[0]? = (match (r[i]? : Option Cell) with | some (Cell.val d) => some d | _ => none))
    (hid : jd ≠ i) (hiu : ju ≠ i) (hiy : jy ≠ i) (hdu : jd ≠ ju) (hdy : jd ≠ jy)
    (hjd : X.N[jd]? = some dn) (hld : X.env.scope.names.lookup dn = some .local) (hju : X.N[ju]? = some un) (hlu : X.env.scope.names.lookup un = some .local) (hjy : X.N[jy]? = some yn) (hly : X.env.scope.names.lookup yn = some .local)
    (hdn : (dn == ("__debug__" : Str)) = false) (hcn : (dn == ("__classdict__" : Str)) = false)
    (hs1 : swapsWithSole [.Tuple [.Name dn p1, .Name un p2] kt p3] (.Call (.Name nd p4) (e1 :: es) [] p5) p6.line X.env = pure false) (hw1 : swappedStores [.Tuple [.Name dn p1, .Name un p2] kt p3] (.Call (.Name nd p4) (e1 :: es) [] p5) X.env = pure none)
    (has1 : (assignEach [.Tuple [.Name dn p1, .Name un p2] kt p3] X.env).map (·.2) = [assign (.Tuple [.Name dn p1, .Name un p2] kt p3) X.env])
    (has2 : (assignEach [.Name dn p1, .Name un p2] X.env).map (·.2) = [assign (.Name dn p1) X.env, assign (.Name un p2) X.env]) (hal : (assignEach [.Name dn p1, .Name un p2] X.env).length = 2) (hst : (assignEach [.Name dn p1, .Name un p2] X.env).findIdx? (·.1) = none)
    (hse : starEach (e1 :: es) X.env = (false, eval e1 X.env) :: starEach es X.env) (hpl : (backTo p5 (starEach es X.env)).any (·.1) = false)
    (hs3 : swapsWith (.Call (.Name xg p8) [.Name dn p9] [] p10) (some (.Name yn p7)) p11.line X.env = pure false)
    (hrest : PSs X rest (tSG G c i Fr)) :
    PSs X (.Assign [.Tuple [.Name dn p1, .Name un p2] kt p3] (.Call (.Name nd p4) (e1 :: es) [] p5) p6 :: .Assign [.Name yn p7] (.Call (.Name xg p8) [.Name dn p9] [] p10) p11 :: rest) (tSG G c i (seqG (deedG jd ju jy fa md n Fd gKs l) Fr)) := by
  refine ⟨fun pins s σ H De I ⟨b, Z, O, r, a0, p, q, S, gg, hw⟩ => ?_⟩
  obtain ⟨⟨oc', od', kV', doc', pm', an', ct', osl', lk', bd'⟩, cd', kp'⟩ := Fn
  have hw1' : Wp ((fa r).calm >>= fun ds => if ds.length = n then Fd (dstart md ds) >>= deedK jd ju jy gKs l r S else .stuck) (fun x => Wp (match x with | (.nx r', S') => Fr r' S' | y => .ok y) (GPost G De c i b Z H) (fun _ => False)) (fun _ => False) := hw.bind
  have hw2 := all_wp (hai r) (calm_wp (E' := fun _ => False) hw1'.bind)
  refine wpAny_execs_cons (wpAny_Assign_stores (wpAny_Call_Name_kw (ld_glob I hgd hmx ?_ hdb)) hs1 hw1)
  refine PySem.W.callWith_K (h₀ := X.base) I.ok.mod.kin kp' (thn (ha.run p5 pins s σ H (fun vs H1 => Grow b.dl H H1 ∧ GlOk G b.dl H1 ∧ ∃ ds, RepL G b.dl (cut H1 Z) ds vs ∧ ds[0]? = (match (r[i]? : Option Cell) with | some (Cell.val d) => some d | _ => none) ∧
      Wp (if ds.length = n then Fd (dstart md ds) >>= deedK jd ju jy gKs l r S else .stuck) (fun x => Wp (match x with | (.nx r', S') => Fr r' S' | y => .ok y) (GPost G De c i b Z H) (fun _ => False)) (fun _ => False)) I
    ⟨b.dl, Z, O, r, gg.A, hw2.mono (fun ds hd vs H1 g1 k1 rl => ⟨g1, k1, ds, rl, hd.1, hd.2⟩) fun e he => he.elim⟩) fun us s1 ⟨vs, H1, I1, rv, g1, k1, ds, rl, hds0, hd⟩ => ⟨I1.kIn, ?_⟩) hse hpl
  split at hd
  case isFalse => exact hd.elim
  rename_i hdl
  have hvl : vs.length = psd.length := by rw [rl.length, hdl, hpn]
  have bdt := (Binds.all bd') s1 us I1.kIn (by rw [List.append_nil, ← rv.length, hvl])
  rw [List.append_nil] at bdt
  have gg1 := gg.grow g1 k1
  have A0 : At G b.dl Z [] (dstart md ds) (L2.start Nd vs) H1 := by
    refine ⟨k1, gg.A.dz, gg1.A.live, fun p hp => (by cases hp), fun p hp => (by cases hp), ?_, ?_⟩
    · unfold dstart L2.start
      rw [List.length_append, List.length_map, List.length_replicate, List.length_append, List.length_map, List.length_replicate]
      omega
    · unfold dstart
      rw [hdl]
      exact start_get rl (by rw [hvl, hpn]) hmd
  let Xd : Cx := cxD X.prog X.w X.K X.mg X.base Nd nd std fd (.ref cdd) X.A X.stack s1 H1 (WE W σ)
  let Pq : Value → Shared → Prop := fun u s2 => ∃ (x : Nat × LE × D) (Z' : List Addr) (O' : List (Nat × Addr)) (σ' : L2.St) (H2 : Hp) (f t : Addr) (e : Expr) (pl : List (Addr × Obj)) (vd : V), u = .ref t ∧ Stp b.dl Z [] H1 Z' O' H2 ∧ At G b.dl Z' O' x.2.1 σ' H2 ∧ Inv Xd ([] ++ pl) σ' H2 s2 ∧
    H2 t = some (.tup [.ref f, vd]) ∧ Rep G b.dl (cut H2 Z') x.2.2 vd ∧ lams[x.1]? = some e ∧ LamAt Xd s2 H2 e f ∧ x.2.1[0]? = (dstart md ds)[0]? ∧
    Wp (deedK jd ju jy gKs l r S x) (fun x => Wp (match x with | (.nx r', S') => Fr r' S' | y => .ok y) (GPost G De c i b Z H) (fun _ => False)) (fun _ => False)
  refine wpAny_call (codeAny_mono (run_ofX (CX := LG.CX X.prog X.w) (E := WE W σ) (Pq := Pq) lk' cd' Sd hr I1.env0 bdt rv hvl (fun hrd s1' J0 => (hQ s1 H1 (WE W σ) hrd).run [] s1' _ H1 b.dl Z [] (dstart md ds) J0 A0 Pq ?_)) (fun res s2 hq => ?_))
  · exact (all_wp (hk0 _) hd.bind).thn fun x ⟨k0, hx⟩ => fun Z' O' σ' H' s' f t e pl vd st A' J ht rp hl hL => ⟨x, Z', O', σ', H', f, t, e, pl, vd, rfl, st, A', J, ht, rp, hl, hL, k0, hx⟩
  cases res with
  | error e => exact passAt tk σ pins H1 s1 e s2 I1 hq
  | ok fl =>
    cases fl with
    | next | brk | cont => exact False.elim hq
    | ret u =>
      obtain ⟨x, Z', O', σ', H2, f, t, e, pl, vd, rfl, st, A', J, ht, rp, hlm, hL, hx0, hwx⟩ := hq
      have I2 : Inv X pins σ H2 s2 := I1.call' (s' := s2) (ch := []) J.os J.base J.hok J.bare (fun b z => absurd z (by simp))
      have gD : Grow b.dl H1 H2 := stp_grow st
      have k2 := A'.gl
      have gg2 := gg1.grow gD k2
      have rp2 : Rep G b.dl (cut H2 Z) x.2.2 vd := rp.mono (stp_cut st)
      obtain ⟨prm, bd, sc, lpos, c', P2, pm', ctv', rfl, hf, hfn, hfr, hcod⟩ := hL
      unfold deedK at hwx
      cases hgk : gKs[x.1]? with
      | none => rw [hgk] at hwx; exact hwx.elim
      | some gK =>
        rw [hgk] at hwx
        have hwx : Wp (toldKs l S (gK x.2.1 S) >>= fun y => R.ok (Out.nx (((r.set jd .un).set ju (.val x.2.2)).set jy (.val y.1)), y.2)) _ _ := hwx
        obtain ⟨prm2, bd2, sc2, lpos2, hes, L, hbind, hbody⟩ := (hB s1 H1 (WE W σ)).at_ hgk
        rw [hes] at hlm
        obtain ⟨rfl, rfl, rfl, rfl⟩ := Expr.Lambda.inj (Option.some.inj hlm)
        have inX : ∀ y, y ∈ frs X.stack → y ∈ frs Xd.stack := fun y hm => by
          obtain ⟨v, hv, q⟩ := List.mem_filterMap.mp hm
          exact List.mem_filterMap.mpr ⟨v, List.mem_cons_of_mem _ hv, q⟩
        have locX : X.env.locals ∈ frs X.stack := by rw [hstk]; exact List.mem_filterMap.mpr ⟨X.env, List.mem_cons_self, hfrm⟩
        have hfX : f ∉ frs X.stack := fun z => hfr (inX f z)
        have fL : f ≠ X.env.locals := fun z => hfX (by rw [z]; exact locX)
        have fC : ∀ z c0, X.env.cells.lookup z = some c0 → c0 ≠ f := fun z c0 ez ef => by
          obtain ⟨v, o, ho, hdd⟩ := I2.cell z c0 ez
          rw [ef, hf] at ho
          cases ho
          cases hdd
        obtain ⟨its, rv2, ht2, hz2⟩ := I2.tuple (SqT.of ht)
        rw [has1]
        show wpAny _ _ (assign (.Tuple [.Name dn p1, .Name un p2] kt p3) X.env (.ref t)) _ _ s2
        refine assign_Tuple_tuple (I2.ok.hd hcalm) ht2 (by rw [hal, List.size_toArray, ← rv2.length]; rfl) hst fun h' hx' => ?_
        have I3 : Inv X pins σ H2 { s2 with heap := h' } := I2.kept (t' := s2.toks) fun b o e => hx' b o (Nat.ne_of_lt (Heap.lt_size e)) e
        rw [has2]
        obtain ⟨u1, u2, eits, r1, r2⟩ : ∃ u1 u2, its = [u1, u2] ∧ RelV (.ref f) u1 ∧ RelV vd u2 := by
          cases rv2 with
          | cons r1 rr => cases rr with
            | cons r2 rr => cases rr; exact ⟨_, _, rfl, r1, r2⟩
        subst eits
        show wpAny _ _ (assignInOrder [assign (.Name dn p1) X.env, assign (.Name un p2) X.env] [u1, u2]) _ _ _
        refine assignInOrder_cons (wpAny_assign_Name (store_ok2 I3 hN hjd (.inl hld) r1 (fun s4 I4 ⟨a4, b4, o4⟩ => ?_) (.inr hld)))
        refine assignInOrder_cons (wpAny_assign_Name (store_ok2 I4 hN hju (.inl hlu) r2 (fun s5 I5 ⟨a5, b5, o5⟩ => assignInOrder_nil ?_) (.inr hlu)))
        have kp0 : ∀ y, y ≠ X.env.locals → (∀ z c0, X.env.cells.lookup z = some c0 → c0 ≠ y) → s5.heap.get? y = h'.get? y := fun y h1 h2 => by
          have n4 : y ≠ a4 := o4.elim (fun e => by rw [e]; exact h1) fun e => fun z => h2 _ _ e z.symm
          have n5 : y ≠ a5 := o5.elim (fun e => by rw [e]; exact h1) fun e => fun z => h2 _ _ e z.symm
          exact (b5.2 y n5).trans (b4.2 y n4)
        have hf5 := (kp0 f fL fC).trans (hx' f _ (Nat.ne_of_lt (Heap.lt_size hf)) hf)
        have cells5 : ∀ y cc, Xd.env.cells.lookup y = some cc → H2 cc = none ∧ cc ∉ frs X.stack ∧ ∀ v, s2.heap.IsCell cc v → s5.heap.IsCell cc v := fun y cc ey => by
          have hge : s1.heap.objs.size ≤ cc := J.ok.cab y cc rfl ey
          refine ⟨J.freeC y cc ey, fun hm => ?_, fun v ⟨o, ho, hdd⟩ => ?_⟩
          · obtain ⟨_, o, ho, _⟩ := I1.stack.mem hm
            exact Nat.lt_irrefl _ (Nat.lt_of_lt_of_le (Heap.lt_size ho) hge)
          · refine ⟨o, (kp0 cc (fun z => Nat.lt_irrefl _ (Nat.lt_of_lt_of_le I1.lt (z ▸ hge))) fun z c0 ez ec => ?_).trans (hx' cc _ (Nat.ne_of_lt (Heap.lt_size ho)) ho), hdd⟩
            obtain ⟨_, o', ho', _⟩ := I1.cell z c0 ez
            exact Nat.lt_irrefl _ (Nat.lt_of_lt_of_le (Heap.lt_size ho') (ec ▸ hge))
        show wpAny (model X.prog X.w) X.A (execs (.Assign [.Name yn p7] (.Call (.Name xg p8) [.Name dn p9] [] p10) p11 :: rest) X.env) (SP X pins De) X.xe s5
        have hjl : jd < σ.length := by rw [I.len]; exact (List.getElem?_eq_some_iff.mp hjd).1
        have hget : ((σ.set jd (some (V.ref f))).set ju (some vd))[jd]? = some (some (V.ref f)) := by rw [List.getElem?_set_ne (fun z => hdu z.symm)]; exact List.getElem?_set_self hjl
        have ldn : ∀ (Qn : Value → Shared → Prop), Qn (Value.ref f) s5 → wpAny (model X.prog X.w) X.A (eval (.Name dn p9) X.env) Qn X.xe s5 := by
          intro Qn hQn
          obtain ⟨m, hn, hl⟩ := I5.loc
          obtain ⟨u, rr, lk⟩ := hl jd dn (.ref f) hjd hget (.inl hld)
          obtain rfl : u = Value.ref f := rr
          rcases lk with ⟨hk, hm⟩ | ⟨hk, c0, ec, hc⟩
          · exact wpAny_Name (wpAny_loadName_local I5.ok.kind hk hn hm hQn) hdn
          · have hk' : X.env.scope.names.lookup dn = some .cell ∨ X.env.scope.names.lookup dn = some .free := hk
            rw [hld] at hk'
            rcases hk' with z | z <;> cases z
        refine wpAny_execs_cons (wpAny_Assign_Name (wpAny_Call_Name_kw (ld_glob I5 hgg hmg ?_ hdb2)) hs3)
        refine PySem.W.callWith_K (h₀ := X.base) I5.ok.mod.kin hkg ?_ (by rfl) (by rfl)
        show wpAny _ _ (spliced ((false, eval (.Name dn p9) X.env) :: backTo p10 (starEach [] X.env))) _ _ s5
        refine Calls.spliced_cons (ldn _ ?_)
        refine Calls.spliced_nil ⟨I5.kIn, ?_⟩
        let Qv : VK := fun v H6 => ∃ (y : D × KS) (q' : Addr), GrowB b.dl [a0, p, q] H2 H6 ∧ GlOk G b.dl H6 ∧ Dsk G c H6 a0 p q' y.2 ∧ (q' = q ∨ Free H2 q') ∧ (∀ S0, Rep G b.dl S0 y.1 v) ∧
          Wp (Fr (((r.set jd .un).set ju (.val x.2.2)).set jy (.val y.1)) y.2) (GPost G De c i b Z H) (fun _ => False)
        refine wpAny_call (codeAny_mono (R := CR C8.CX0 X.stack X.prog X.w H2 s5 Qv C8.E0) ?_ fun res s6 hq => ?_)
        · refine run_ofS (N := Ng) (ps := [a]) (us := [.ref f]) (vs := [.ref f]) lkg hcg Sg hr I5.env0 (hbg s5 [.ref f] I5.kIn rfl) (.cons rfl .nil) rfl fun hrA => ?_
          have zz : ∀ y ∈ Z, y ∈ Z' := fun y hy => st.zk y hy fun p hp => (by cases hp)
          have dd : DAt G c b.dl Z' H2 a0 p q S := ⟨k2, A'.dz, A'.live, zz _ gg.d.az, zz _ gg.d.pz, zz _ gg.d.qz, gg.d.nd, gg2.d.dk⟩
          have r0 : x.2.1[0]? = some (Cell.val (D.fn a0)) := by
            rw [hx0]
            rw [gg.ri] at hds0
            unfold dstart
            cases ds with
            | nil => cases hds0
            | cons d0 dr =>
              have : d0 = D.fn a0 := by simpa using hds0
              rw [this]
              rfl
          obtain ⟨tA, htA, hqA⟩ := hG f (fun HY => HY c' = some (CodeN c' (Xd.env.qual ++ "<lambda>") P2)) s5 H2 Qv (fun Ech HY QY => tKe G (WD Ech) c 0 gK σ' HY QY)
            (fun W pn' xe Ech q1 q2 tk hW => act_pe3 (Xd := Xd) (i := 0) J L hf5 hfn hfX cells5 (hbind _ _ _ _ _) tk hW hrA (fun A outer s H hrB => hbody A outer s H Ech f c' hrB) hNg hva hda hca) hcod
            (tKe_told hx ⟨b.dl, Z', O', x.2.1, a0, p, q, S, A', dd, r0, hwx.bind.thn fun y hy v q' H6 gr kk dk fr rp => ⟨y, q', gr, kk, dk, fr, rp, hy⟩⟩)
          exact ⟨tA, htA.nox, hqA⟩
        · cases res with
          | error e => exact (show False from hq).elim
          | ok fl =>
            cases fl with
            | next | brk | cont => exact False.elim hq
            | ret u =>
              obtain ⟨v, H6, I6, rv6, y, q', gr, kk, dk, fr, rp6, hfin⟩ := I5.after hq
              refine store_ok I6 hN hjy (.inl hly) rv6 (fun s7 I7 => ?_) (.inr hly)
              have g3 := gg2.step Stp.refl ((gg2.A.set_un jd (some (.ref f))).set_val ju rp2) (by rw [List.getElem?_set_ne hiu, List.getElem?_set_ne hid])
              obtain ⟨g6, gs6⟩ := g3.deed gr kk dk fr
              have g7 := g6.step Stp.refl (g6.A.set_val jy (rp6 _)) (by rw [List.getElem?_set_ne hiy])
              have gsA : GrowS (cut H Z) (cut H2 Z) := (g1.trans gD).cut gg.A.dz
              exact hrest.run pins s7 _ H6 De I7 ⟨b, _, O, _, a0, p, q', y.2, g7, hfin.thn fun w hw => GPost.trans (fun y o e nt => gs6 y o (gsA y o e nt) nt) hw⟩
end
end DL
set_option Elab.async false
set_option linter.all false
set_option maxRecDepth 100000
set_option maxHeartbeats 1000000
namespace DL
open PySem L2 LamX PySem.Spec PyProof.Rows
theorem all_imp {α : Type} {P Q : α → Prop} (h : ∀ a, P a → Q a) : ∀ {m : R α}, m.all P → m.all Q
  | .ok a, q => h a q
  | .err _, _ => trivial
  | .stuck, _ => trivial
  | .roll _ _, q => fun i => all_imp h (q i)
theorem all_bind {α β : Type} {k : α → R β} {P : β → Prop} : ∀ {m : R α}, m.all (fun a => (k a).all P) → (m >>= k).all P
  | .ok _, h => h
  | .err _, _ => trivial
  | .stuck, _ => trivial
  | .roll _ _, h => fun i => all_bind (h i)
theorem all_any {α : Type} {P : α → Prop} (h : ∀ a, P a) : ∀ m : R α, m.all P
  | .ok a => h a
  | .err _ => trivial
  | .stuck => trivial
  | .roll _ f => fun i => all_any h (f i)
theorem all_onS {α : Type} {r : LE} {k : α → R Out} {P : Out → Prop} (hk : ∀ a, (k a).all P) (he : ∀ e, P (.ex e r)) : ∀ m : R α, (m.onS r k).all P
  | .ok a => hk a
  | .err e => he e
  | .stuck => trivial
  | .roll _ f => fun i => all_onS hk he (f i)
section
variable {i j l : Nat} {f g : LE → R Cell} {t : LE → R Bool} {A B F : LE → R Out} {K K2 : QF} {e : Exc}
theorem keepI_set (h : j ≠ i) : KeepI i (setK j f) := fun r => by
  refine all_onS (fun c => ?_) (fun _ => trivial) _
  show (r.set j c)[i]? = r[i]?
  rw [List.getElem?_set_ne h]
theorem keepI_par (h : j ≠ i) (h2 : l ≠ i) : KeepI i (parK j l f g) := fun r => by
  refine all_onS (fun c => all_onS (fun c' => ?_) (fun _ => trivial) _) (fun _ => trivial) _
  show ((r.set j c).set l c')[i]? = r[i]?
  rw [List.getElem?_set_ne h2, List.getElem?_set_ne h]
theorem keepI_if (ha : KeepI i A) (hb : KeepI i B) : KeepI i (ifS t A B) := fun r => all_onS (fun b => by cases b; exact hb r; exact ha r) (fun _ => trivial) _
theorem keepI_skip : KeepI i skipS := fun r => rfl
theorem keepI_ret {f : LE → R D} : KeepI i (retS f) := fun r => by
  refine all_onS (fun c => ?_) (fun _ => trivial) _
  exact trivial
theorem keep0_set (h : j ≠ 0) : Keep0 (setK j f) := fun r => by
  refine all_onS (fun c => ?_) (fun _ => rfl) _
  show (r.set j c)[0]? = r[0]?
  rw [List.getElem?_set_ne h]
theorem keep0_skip : Keep0 skipS := fun r => rfl
theorem keep0_err : Keep0 (errS e) := fun r => rfl
theorem keep0_if (ha : Keep0 A) (hb : Keep0 B) : Keep0 (ifS t A B) := fun r => all_onS (fun b => by cases b; exact hb r; exact ha r) (fun _ => rfl) _
theorem keep0_try {z : Nat} {ks : List Nat} {c : Nat} (hF : Keep0 F) : Keep0 (tryUS z ks F [(c, errS e)]) := fun r => by
  refine all_bind (all_imp (fun o ho => ?_) (hF r))
  cases o with
  | nx r' => exact ho
  | rt d => exact (show False from ho).elim
  | bk r' => exact (show False from ho).elim
  | ct r' => exact (show False from ho).elim
  | ex x r' =>
    show (if ks.contains x.cls then (match handS z x.cls [(c, errS e)] with | some K => K r' | none => .ok (.ex x r')) else .stuck : R Out).all _
    split
    · split
      · rename_i K hK
        unfold handS at hK
        split at hK
        · cases hK; exact ho
        · cases hK
      · exact ho
    · trivial
def KeepQ (K : QF) : Prop := ∀ r, (K r).all fun x => x.2.1[0]? = r[0]?
theorem keepQ_cons (hF : KeepI 0 F) (hK : KeepQ K) : KeepQ (qcons F K) := fun r => all_bind (all_imp (fun o ho => by
  cases o with
  | nx r' => exact all_imp (fun x hx => hx.trans ho) (hK r')
  | rt d => trivial
  | bk r' => trivial
  | ct r' => trivial
  | ex x r' => trivial) (hF r))
theorem keepQ_if (hA : KeepQ K) (hB : KeepQ K2) : KeepQ (qif t K K2) := fun r => all_bind (all_any (fun b => by cases b; exact hB r; exact hA r) _)
theorem keepQ_ret {k : Nat} {f : LE → R D} : KeepQ (qret k f) := fun r => all_bind (all_any (fun d => rfl) _)
theorem head_args {fs : LE → R (List D)} : ∀ r, (acons (var i) fs r).all fun ds => ds[0]? = (match (r[i]? : Option Cell) with | some (Cell.val d) => some d | _ => none) := fun r => by
  unfold acons var
  cases h : (r[i]? : Option Cell) with
  | none => trivial
  | some c => cases c with
    | un => trivial
    | own d => trivial
    | val d =>
      show R.all _ ((fs r) >>= fun xs => R.ok (d :: xs))
      refine all_bind (all_any (fun xs => ?_) _)
      rfl
end
/-- try: text = e except F: raise B; self.note(text) -/
def tryK (xb : Nat) (ks : List Nat) (S : KS) : R D → R KS
  | .ok (.str t) => noteK xb t S
  | .ok _ => .stuck
  | .err e => if ks.contains e.cls then .err ⟨xb, .non⟩ else .stuck
  | .stuck => .stuck
  | .roll m f => .roll m fun i => tryK xb ks S (f i)
theorem preN_try {xb j : Nat} {ks : List Nat} {E : LE → R D} {r : LE} {S : KS} (hj : j < r.length) : preN xb (seqS (tryUS 0 ks (setK j (valK E)) [(0, errS ⟨xb, .non⟩)]) skipS) (var j) r S = tryK xb ks S (E r) := by
  unfold preN seqS tryUS setK valK
  generalize E r = m
  induction m with
  | ok d =>
    show endN xb (var j) S (.nx (r.set j (.val d))) = _
    have hv : var j (r.set j (.val d)) = .ok d := by unfold var; rw [List.getElem?_set_self hj]
    show (var j (r.set j (.val d)) >>= fun d => match d with | .str t => noteK xb t S | _ => .stuck) = _
    rw [hv]
    cases d <;> rfl
  | err e =>
    show (R.calm (do match ← (if ks.contains e.cls then (match handS 0 e.cls [(0, errS ⟨xb, .non⟩)] with | some K => K r | none => .ok (.ex e r)) else .stuck : R Out) with | .nx r' => skipS r' | o => .ok o)) >>= endN xb (var j) S = _
    unfold tryK
    have h0 : handS 0 e.cls [(0, errS ⟨xb, .non⟩)] = some (errS ⟨xb, .non⟩) := by
      unfold handS
      have : sbF 0 e.cls 0 = true := by unfold sbF; simp
      rw [this]
    rw [h0]
    by_cases h : ks.contains e.cls = true
    · rw [if_pos h, if_pos h]; rfl
    · rw [if_neg h, if_neg h]; rfl
  | stuck => rfl
  | roll m f ih => exact congrArg (R.roll m) (funext ih)
def strikeOf (xb : Nat) (m : R D) (t : D → R Bool) (f : D → R D) (S : KS) : R KS := m >>= fun d => t d >>= fun b => if b then .err ⟨xb, .non⟩ else f d >>= fun v => match v with
  | .str s => noteK xb s S
  | _ => .stuck
theorem preN_strike {xb j : Nat} {E fe : LE → R D} {t : LE → R Bool} {r : LE} {S : KS} : preN xb (seqS (setK j (valK E)) (seqS (ifS t (errS ⟨xb, .non⟩) skipS) skipS)) fe r S = strikeOf xb (E r) (fun d => t (r.set j (.val d))) (fun d => fe (r.set j (.val d))) S := by
  unfold preN strikeOf
  show ((do match ← (((E r) >>= fun d => R.ok (Cell.val d)) >>= okK).onS r (fun c => .ok (.nx (r.set j c))) with | .nx r' => seqS (ifS t (errS ⟨xb, .non⟩) skipS) skipS r' | o => .ok o : R Out).calm >>= endN xb fe S) = _
  generalize E r = m
  induction m with
  | ok d =>
    show ((do match ← (t (r.set j (.val d))).onS (r.set j (.val d)) (fun b => if b then errS ⟨xb, .non⟩ (r.set j (.val d)) else skipS (r.set j (.val d))) with | .nx r' => skipS r' | o => .ok o : R Out).calm >>= endN xb fe S) = (t (r.set j (.val d)) >>= fun b => if b then .err ⟨xb, .non⟩ else fe (r.set j (.val d)) >>= fun v => match v with | .str s => noteK xb s S | _ => .stuck)
    generalize t (r.set j (.val d)) = n
    induction n with
    | ok b => cases b <;> rfl
    | err e => rfl
    | stuck => rfl
    | roll m f ih => exact congrArg (R.roll m) (funext ih)
  | err e => rfl
  | stuck => rfl
  | roll m f ih => exact congrArg (R.roll m) (funext ih)
end DL
set_option Elab.async false
set_option linter.all false
set_option maxRecDepth 100000
set_option maxHeartbeats 1000000
namespace DL
open PySem L2 PySem.Spec PyProof.Rows
def txIn (s t : List Nat) : Bool := !(PySem.Builtin.Str.occurrences ⟨t.toArray⟩ ⟨s.toArray⟩ 0 (⟨t.toArray⟩ : Str).length 1).isEmpty
def notInX (x y : D) : R D := match x, y with
  | .str s, .str t => .ok (.bl (!txIn s t))
  | x, y => notInD x y
section
variable {X : Cx} {G : Gm}
theorem op_notInTx : OpR X (compareOp .NotIn) (fun x y H Q => ∃ a b, x = .str a ∧ y = .str b ∧ Q (.bl (!(!(PySem.Builtin.Str.occurrences b a 0 b.length 1).isEmpty))) H) := by
  intro pins s σ H x y v u Q I rx ry ⟨a, b, ex, ey, q⟩
  subst ex ey
  obtain ⟨t, rfl⟩ := rx
  obtain ⟨t', rfl⟩ := ry
  exact notIn_str ⟨.bl _, H, I, rfl, q⟩
theorem op_notinX_d (hG : G.K = X.K) (hu : X.A.units + 70 < cLine) : OpD X G (compareOp .NotIn) notInX := by
  obtain ⟨rr, h1, h2⟩ := op_notin_d (X := X) (G := G) hG hu
  refine ⟨_, OpR.or h1 op_notInTx, fun dl Z O r sg x y vx vy H Q E A hx hy h => ?_⟩
  unfold notInX at h
  split at h
  · rename_i s t
    exact .inr ⟨⟨s.toArray⟩, ⟨t.toArray⟩, hx.str, hy.str, h _ H (.refl _ _) A.gl Rep.bl_⟩
  · exact .inl (h2 dl Z O r sg _ _ vx vy H Q E A hx hy h)
end
end DL
set_option Elab.async false
set_option linter.all false
set_option maxRecDepth 100000
set_option maxHeartbeats 1000000
namespace K23
open PySem L2 DL LamX PySem.Spec PyProof.Rows
def top (i : Nat) : Stmt := PySem.Challenge.pw_flaghall_k23_a_desk.main.body.getD i (.Pass ⟨0, 0, 0, 0⟩)
abbrev s_law_dice : Stmt := top 24
abbrev s_law_roll : Stmt := top 25
abbrev s_law_rounds : Stmt := top 26
abbrev s_law_desk : Stmt := top 27
abbrev s_Desk_init : Stmt := inClass (top 22) 0
abbrev s_Desk_note : Stmt := inClass (top 22) 1
abbrev s_Desk_undo : Stmt := inClass (top 22) 6
abbrev s_Desk_redo : Stmt := inClass (top 22) 7
abbrev s_clock_of : Stmt := top 16
abbrev s_Row_said : Stmt := inClass (top 15) 1
abbrev s_Log_said : Stmt := inClass (top 19) 1
abbrev s_Log_init : Stmt := inClass (top 19) 0
abbrev s_Log_with_log_row : Stmt := inClass (top 19) 4
abbrev s_check_letters : Stmt := top 10
abbrev s_read_hoist : Stmt := top 11
abbrev s_Row_init : Stmt := inClass (top 15) 0
abbrev s_minute_of : Stmt := top 17
abbrev s_read_log_row : Stmt := top 18
abbrev s_read_log : Stmt := top 20
abbrev s_Desk_tell : Stmt := inClass (top 22) 2
abbrev s_Log_answered_by : Stmt := inClass (top 19) 5
abbrev s_Desk_answer : Stmt := inClass (top 22) 3
abbrev s_Desk_strike_out : Stmt := inClass (top 22) 4
abbrev s_law_deed : Stmt := top 28
abbrev s_Tally_unanswered : Stmt := inClass (top 13) 3
abbrev s_Tally_init : Stmt := inClass (top 13) 0
abbrev s_Log_tally : Stmt := inClass (top 19) 3
abbrev s_Log_words_made : Stmt := inClass (top 19) 6
abbrev s_Desk_judged : Stmt := inClass (top 22) 5
abbrev s_law : Stmt := top 29
abbrev s_sup_BadText : Stmt := inClass (top 5) 0
structure Adr where
  f_law_dice : Addr
  f_law_roll : Addr
  f_law_rounds : Addr
  f_law_desk : Addr
  f_Desk_init : Addr
  f_Desk_note : Addr
  f_Desk_undo : Addr
  f_Desk_redo : Addr
  f_clock_of : Addr
  f_Row_said : Addr
  f_Log_said : Addr
  f_Log_init : Addr
  f_Log_with_log_row : Addr
  f_check_letters : Addr
  f_read_hoist : Addr
  f_Row_init : Addr
  f_minute_of : Addr
  f_read_log_row : Addr
  f_read_log : Addr
  f_Desk_tell : Addr
  f_Log_answered_by : Addr
  f_Desk_answer : Addr
  f_Desk_strike_out : Addr
  f_law_deed : Addr
  f_Tally_unanswered : Addr
  f_Tally_init : Addr
  f_Log_tally : Addr
  f_Log_words_made : Addr
  f_Desk_judged : Addr
  f_law : Addr
  c_Tally : Addr
  c_Row : Addr
  c_Log : Addr
  c_Desk : Addr
  x_BadDeed : Addr
  x_BadText : Addr
  x_BadHoist : Addr
  x_FlagFault : Addr
  x_BadBook : Addr
  k_Log_init : Addr
  t_Log_init : Addr
  k_check_letters : Addr
  t_check_letters : Addr
  k_Row_init : Addr
  t_Row_init : Addr
  k_minute_of : Addr
  t_minute_of : Addr
  k_law_deed : Addr
  t_law_deed : Addr
  k_Tally_init : Addr
  t_Tally_init : Addr
  k_law : Addr
  t_law : Addr
def flds : Nat → List Str
  | 0 => ["rows"]
  | 1 => ["minute", "ship", "hoist", "answered"]
  | 2 => ["rows"]
  | 3 => ["shown", "deeds", "undone"]
  | _ => []
def clsA (a : Adr) : Nat → Addr
  | 0 => a.c_Tally
  | 1 => a.c_Row
  | 2 => a.c_Log
  | 3 => a.c_Desk
  | _ => 0
def excA (a : Adr) : Nat → Addr
  | 4 => a.x_BadDeed
  | 3 => a.x_BadText
  | 1 => a.x_BadHoist
  | 0 => a.x_FlagFault
  | 2 => a.x_BadBook
  | _ => 0
def excF : Nat → Option Str
  | _ => none
def excB : Nat → Bool
  | 4 => true
  | 1 => true
  | 0 => true
  | 2 => true
  | _ => false
def excL : List Nat := [4, 3, 1, 0, 2]
def tabsA (a : Adr) : List (Addr × Str) := [(a.t_Log_init, ("Log.__init__" : Str) ++ ".<locals>."), (a.t_check_letters, ("check_letters" : Str) ++ ".<locals>."), (a.t_Row_init, ("Row.__init__" : Str) ++ ".<locals>."), (a.t_minute_of, ("minute_of" : Str) ++ ".<locals>."), (a.t_law_deed, ("_law_deed" : Str) ++ ".<locals>."), (a.t_Tally_init, ("Tally.__init__" : Str) ++ ".<locals>."), (a.t_law, ("law" : Str) ++ ".<locals>.")]
def lamPos : List (Nat × Nat) := [(246, 12), (238, 16), (243, 16), (257, 38), (259, 38)]
def kdT (l c : Nat) : Bool := lamPos.any fun p => Nat.beq p.1 l && Nat.beq p.2 c
abbrev gm (K : PySem.W.Frag) (w : World) (a : Adr) (xs : List (Addr × Addr × Str)) : Gm := { K := K, w := w, cls := clsA a, flds := flds, fns := fun n => n, xcls := excA a, xfld := excF, tabs := tabsA a, kd := kdT, subs := xs, bare := excB }
theorem hsz : ∀ c, (flds c).length ≤ 900 := fun c => by unfold flds; split <;> decide
def fx_shown : Nat → Option Nat
  | 3 => some 0
  | _ => none
def fx_deeds : Nat → Option Nat
  | 3 => some 1
  | _ => none
def fx_undone : Nat → Option Nat
  | 3 => some 2
  | _ => none
def fx_rows : Nat → Option Nat
  | 0 => some 0
  | 2 => some 0
  | _ => none
def fx_minute : Nat → Option Nat
  | 1 => some 0
  | _ => none
def fx_ship : Nat → Option Nat
  | 1 => some 1
  | _ => none
def fx_hoist : Nat → Option Nat
  | 1 => some 2
  | _ => none
def fx_answered : Nat → Option Nat
  | 1 => some 3
  | _ => none
def d_MOST_FLAGS : D := .int 4
def d_SUBSTITUTES : D := .str [49, 50, 51]
def toldL : List (Nat × List Nat) := [(4, [100, 117, 101])]
def FunL (K : PySem.W.Frag) (x : Str) (st : Stmt) (f : Addr) (ps : List Str) : Prop := ∃ (oc : Value) (od : Option Addr) (kV doc pm : Value) (an : Option Addr) (cdv ct : Value) (osl : Array (Option Value)),
  K.lookup f = some ⟨oc, od, .func (PySem.W.fnOf x x (defArgs st) (defBody st) (defScope st) .none kV doc pm an cdv ct), osl⟩ ∧ PySem.W.codeIn K cdv x = true ∧ PySem.W.keepIn K (.ref f) = true ∧ L2.Binds K (PySem.W.fnOf x x (defArgs st) (defBody st) (defScope st) .none kV doc pm an cdv ct) ps []
/-- what the head knows -/
structure Txt (P : Program) (w : World) (K : PySem.W.Frag) (mg : Str → Option Value) (base : Heap) (a : Adr) : Prop where
  b_len : mg "len" = none
  b_str : mg "str" = none
  b_any : mg "any" = none
  b_range : mg "range" = none
  b_super : mg "super" = none
  b_tuple : mg "tuple" = none
  b_list : mg "list" = none
  b_enumerate : mg "enumerate" = none
  b_int : mg "int" = none
  b_abs : mg "abs" = none
  g_law_dice : mg "_law_dice" = some (.ref a.f_law_dice)
  e_law_dice : FunE K "_law_dice" "_law_dice" s_law_dice a.f_law_dice ["cell"]
  g_law_roll : mg "_law_roll" = some (.ref a.f_law_roll)
  e_law_roll : FunE K "_law_roll" "_law_roll" s_law_roll a.f_law_roll ["dice", "many"]
  g_law_rounds : mg "_law_rounds" = some (.ref a.f_law_rounds)
  e_law_rounds : FunE K "_law_rounds" "_law_rounds" s_law_rounds a.f_law_rounds ["script", "most"]
  g_law_desk : mg "_law_desk" = some (.ref a.f_law_desk)
  l_told : FunL K "_law_desk" s_law_desk a.f_law_desk ["what"]
  e_Desk_init : FunE K "__init__" "Desk.__init__" s_Desk_init a.f_Desk_init ["self"]
  mk_Desk : Mk K a.c_Desk a.f_Desk_init
  e_Desk_note : FunE K "note" "Desk.note" s_Desk_note a.f_Desk_note ["self", "shown"]
  mt_Desk_note : Meth K a.c_Desk "note" a.f_Desk_note
  e_Desk_undo : FunE K "undo" "Desk.undo" s_Desk_undo a.f_Desk_undo ["self"]
  mt_Desk_undo : Meth K a.c_Desk "undo" a.f_Desk_undo
  e_Desk_redo : FunE K "redo" "Desk.redo" s_Desk_redo a.f_Desk_redo ["self"]
  mt_Desk_redo : Meth K a.c_Desk "redo" a.f_Desk_redo
  g_clock_of : mg "clock_of" = some (.ref a.f_clock_of)
  e_clock_of : FunE K "clock_of" "clock_of" s_clock_of a.f_clock_of ["minute"]
  e_Row_said : FunE K "said" "Row.said" s_Row_said a.f_Row_said ["self"]
  mt_Row_said : Meth K a.c_Row "said" a.f_Row_said
  e_Log_said : FunE K "said" "Log.said" s_Log_said a.f_Log_said ["self"]
  mt_Log_said : Meth K a.c_Log "said" a.f_Log_said
  e_Log_init : FunC K "__init__" "Log.__init__" s_Log_init a.f_Log_init a.k_Log_init ["self", "rows"]
  mk_Log : Mk K a.c_Log a.f_Log_init
  e_Log_with_log_row : FunE K "with_log_row" "Log.with_log_row" s_Log_with_log_row a.f_Log_with_log_row ["self", "row"]
  mt_Log_with_log_row : Meth K a.c_Log "with_log_row" a.f_Log_with_log_row
  g_check_letters : mg "check_letters" = some (.ref a.f_check_letters)
  e_check_letters : FunC K "check_letters" "check_letters" s_check_letters a.f_check_letters a.k_check_letters ["word"]
  g_read_hoist : mg "read_hoist" = some (.ref a.f_read_hoist)
  e_read_hoist : FunE K "read_hoist" "read_hoist" s_read_hoist a.f_read_hoist ["flags"]
  e_Row_init : FunC K "__init__" "Row.__init__" s_Row_init a.f_Row_init a.k_Row_init ["self", "minute", "ship", "hoist", "answered"]
  mk_Row : Mk K a.c_Row a.f_Row_init
  g_minute_of : mg "minute_of" = some (.ref a.f_minute_of)
  e_minute_of : FunC K "minute_of" "minute_of" s_minute_of a.f_minute_of a.k_minute_of ["text"]
  g_read_log_row : mg "read_log_row" = some (.ref a.f_read_log_row)
  e_read_log_row : FunE K "read_log_row" "read_log_row" s_read_log_row a.f_read_log_row ["text"]
  g_read_log : mg "read_log" = some (.ref a.f_read_log)
  e_read_log : FunE K "read_log" "read_log" s_read_log a.f_read_log ["text"]
  e_Desk_tell : FunE K "tell" "Desk.tell" s_Desk_tell a.f_Desk_tell ["self", "row"]
  mt_Desk_tell : Meth K a.c_Desk "tell" a.f_Desk_tell
  e_Log_answered_by : FunE K "answered_by" "Log.answered_by" s_Log_answered_by a.f_Log_answered_by ["self", "number", "minute"]
  mt_Log_answered_by : Meth K a.c_Log "answered_by" a.f_Log_answered_by
  e_Desk_answer : FunE K "answer" "Desk.answer" s_Desk_answer a.f_Desk_answer ["self", "number", "clock"]
  mt_Desk_answer : Meth K a.c_Desk "answer" a.f_Desk_answer
  e_Desk_strike_out : FunE K "strike_out" "Desk.strike_out" s_Desk_strike_out a.f_Desk_strike_out ["self", "number"]
  mt_Desk_strike_out : Meth K a.c_Desk "strike_out" a.f_Desk_strike_out
  g_law_deed : mg "_law_deed" = some (.ref a.f_law_deed)
  e_law_deed : FunC K "_law_deed" "_law_deed" s_law_deed a.f_law_deed a.k_law_deed ["desk", "dice", "now"]
  e_Tally_unanswered : FunE K "unanswered" "Tally.unanswered" s_Tally_unanswered a.f_Tally_unanswered ["self"]
  mt_Tally_unanswered : Meth K a.c_Tally "unanswered" a.f_Tally_unanswered
  e_Tally_init : FunC K "__init__" "Tally.__init__" s_Tally_init a.f_Tally_init a.k_Tally_init ["self", "rows"]
  mk_Tally : Mk K a.c_Tally a.f_Tally_init
  e_Log_tally : FunE K "tally" "Log.tally" s_Log_tally a.f_Log_tally ["self"]
  mt_Log_tally : Meth K a.c_Log "tally" a.f_Log_tally
  e_Log_words_made : FunE K "words_made" "Log.words_made" s_Log_words_made a.f_Log_words_made ["self"]
  mt_Log_words_made : Meth K a.c_Log "words_made" a.f_Log_words_made
  e_Desk_judged : FunE K "judged" "Desk.judged" s_Desk_judged a.f_Desk_judged ["self"]
  mt_Desk_judged : Meth K a.c_Desk "judged" a.f_Desk_judged
  g_law : mg "law" = some (.ref a.f_law)
  e_law : FunC K "law" "law" s_law a.f_law a.k_law ["script"]
  g_Tally : mg "Tally" = some (.ref a.c_Tally)
  c_Tally : Cls K a.c_Tally
  n_Tally_rows : NoAttr K a.c_Tally "rows"
  g_Row : mg "Row" = some (.ref a.c_Row)
  c_Row : Cls K a.c_Row
  n_Row_minute : NoAttr K a.c_Row "minute"
  n_Row_ship : NoAttr K a.c_Row "ship"
  n_Row_hoist : NoAttr K a.c_Row "hoist"
  n_Row_answered : NoAttr K a.c_Row "answered"
  g_Log : mg "Log" = some (.ref a.c_Log)
  c_Log : Cls K a.c_Log
  n_Log_rows : NoAttr K a.c_Log "rows"
  g_Desk : mg "Desk" = some (.ref a.c_Desk)
  c_Desk : Cls K a.c_Desk
  n_Desk_shown : NoAttr K a.c_Desk "shown"
  n_Desk_deeds : NoAttr K a.c_Desk "deeds"
  n_Desk_undone : NoAttr K a.c_Desk "undone"
  x_BadDeed : PySem.W.excIn K a.x_BadDeed [.type "ValueError", .type "Exception", .type "BaseException", .type "object"] "ValueError.__new__" = true ∧ mg "BadDeed" = some (.ref a.x_BadDeed) ∧ PySem.W.keepIn K (.ref a.x_BadDeed) = true ∧ PySem.W.subIn K (.ref a.x_BadDeed) (.type "BaseException") = some true ∧ PySem.W.typeIn K (.ref a.x_BadDeed) = some (.type "type")
  x_BadText : mg "BadText" = some (.ref a.x_BadText)
  x_BadHoist : PySem.W.excIn K a.x_BadHoist [.type "ValueError", .type "Exception", .type "BaseException", .type "object"] "ValueError.__new__" = true ∧ mg "BadHoist" = some (.ref a.x_BadHoist) ∧ PySem.W.keepIn K (.ref a.x_BadHoist) = true ∧ PySem.W.subIn K (.ref a.x_BadHoist) (.type "BaseException") = some true ∧ PySem.W.typeIn K (.ref a.x_BadHoist) = some (.type "type")
  x_FlagFault : PySem.W.excIn K a.x_FlagFault [.type "ValueError", .type "Exception", .type "BaseException", .type "object"] "ValueError.__new__" = true ∧ mg "FlagFault" = some (.ref a.x_FlagFault) ∧ PySem.W.keepIn K (.ref a.x_FlagFault) = true ∧ PySem.W.subIn K (.ref a.x_FlagFault) (.type "BaseException") = some true ∧ PySem.W.typeIn K (.ref a.x_FlagFault) = some (.type "type")
  x_BadBook : PySem.W.excIn K a.x_BadBook [.type "ValueError", .type "Exception", .type "BaseException", .type "object"] "ValueError.__new__" = true ∧ mg "BadBook" = some (.ref a.x_BadBook) ∧ PySem.W.keepIn K (.ref a.x_BadBook) = true ∧ PySem.W.subIn K (.ref a.x_BadBook) (.type "BaseException") = some true ∧ PySem.W.typeIn K (.ref a.x_BadBook) = some (.type "type")
  s_BadText : ∃ fI fd, DSX.SupC P K mg a.x_BadText fI fd
  sub : ∀ xs, SubOk K (gm K w a xs) 0 excL
  exm : ∀ xs, ExmOk K (gm K w a xs) (toldL.map (·.1))
  v_MOST_FLAGS : ∀ xs, GlD (gm K w a xs) mg "MOST_FLAGS" d_MOST_FLAGS
  v_SUBSTITUTES : ∀ xs, GlD (gm K w a xs) mg "SUBSTITUTES" d_SUBSTITUTES
  tb_Log_init : TabB base mg a.k_Log_init a.t_Log_init
  tb_check_letters : TabB base mg a.k_check_letters a.t_check_letters
  tb_Row_init : TabB base mg a.k_Row_init a.t_Row_init
  tb_minute_of : TabB base mg a.k_minute_of a.t_minute_of
  tb_law_deed : TabB base mg a.k_law_deed a.t_law_deed
  tb_Tally_init : TabB base mg a.k_Tally_init a.t_Tally_init
  tb_law : TabB base mg a.k_law a.t_law
  ne_Log_init_check_letters : a.t_Log_init ≠ a.t_check_letters
  ne_Log_init_Row_init : a.t_Log_init ≠ a.t_Row_init
  ne_Log_init_minute_of : a.t_Log_init ≠ a.t_minute_of
  ne_Log_init_law_deed : a.t_Log_init ≠ a.t_law_deed
  ne_Log_init_Tally_init : a.t_Log_init ≠ a.t_Tally_init
  ne_Log_init_law : a.t_Log_init ≠ a.t_law
  ne_check_letters_Row_init : a.t_check_letters ≠ a.t_Row_init
  ne_check_letters_minute_of : a.t_check_letters ≠ a.t_minute_of
  ne_check_letters_law_deed : a.t_check_letters ≠ a.t_law_deed
  ne_check_letters_Tally_init : a.t_check_letters ≠ a.t_Tally_init
  ne_check_letters_law : a.t_check_letters ≠ a.t_law
  ne_Row_init_minute_of : a.t_Row_init ≠ a.t_minute_of
  ne_Row_init_law_deed : a.t_Row_init ≠ a.t_law_deed
  ne_Row_init_Tally_init : a.t_Row_init ≠ a.t_Tally_init
  ne_Row_init_law : a.t_Row_init ≠ a.t_law
  ne_minute_of_law_deed : a.t_minute_of ≠ a.t_law_deed
  ne_minute_of_Tally_init : a.t_minute_of ≠ a.t_Tally_init
  ne_minute_of_law : a.t_minute_of ≠ a.t_law
  ne_law_deed_Tally_init : a.t_law_deed ≠ a.t_Tally_init
  ne_law_deed_law : a.t_law_deed ≠ a.t_law
  ne_Tally_init_law : a.t_Tally_init ≠ a.t_law
theorem sc_law_dice : FnScope ["cell"] ["cell"] (defScope s_law_dice) := ⟨rfl, rfl, rfl, by decide +kernel, rfl, by decide +kernel, by decide +kernel⟩
theorem sc_law_roll : FnScope ["dice", "many", "found"] ["dice", "many"] (defScope s_law_roll) := ⟨rfl, rfl, rfl, by decide +kernel, rfl, by decide +kernel, by decide +kernel⟩
theorem sc_law_rounds : FnScope ["script", "most", "cells", "cell"] ["script", "most"] (defScope s_law_rounds) := ⟨rfl, rfl, rfl, by decide +kernel, rfl, by decide +kernel, by decide +kernel⟩
theorem sc_law_desk : FnScope ["what"] ["what"] (defScope s_law_desk) := ⟨rfl, rfl, rfl, by decide +kernel, rfl, by decide +kernel, by decide +kernel⟩
theorem sc_Desk_init : FnScope ["self"] ["self"] (defScope s_Desk_init) := ⟨rfl, rfl, rfl, by decide +kernel, rfl, by decide +kernel, by decide +kernel⟩
theorem sc_Desk_note : FnScope ["self", "shown"] ["self", "shown"] (defScope s_Desk_note) := ⟨rfl, rfl, rfl, by decide +kernel, rfl, by decide +kernel, by decide +kernel⟩
theorem sc_Desk_undo : FnScope ["self", "deed"] ["self"] (defScope s_Desk_undo) := ⟨rfl, rfl, rfl, by decide +kernel, rfl, by decide +kernel, by decide +kernel⟩
theorem sc_Desk_redo : FnScope ["self", "deed"] ["self"] (defScope s_Desk_redo) := ⟨rfl, rfl, rfl, by decide +kernel, rfl, by decide +kernel, by decide +kernel⟩
theorem sc_clock_of : FnScope ["minute"] ["minute"] (defScope s_clock_of) := ⟨rfl, rfl, rfl, by decide +kernel, rfl, by decide +kernel, by decide +kernel⟩
theorem sc_Row_said : FnScope ["self", "found"] ["self"] (defScope s_Row_said) := ⟨rfl, rfl, rfl, by decide +kernel, rfl, by decide +kernel, by decide +kernel⟩
theorem sc_Log_said : FnScope ["self", "row"] ["self"] (defScope s_Log_said) := ⟨rfl, rfl, rfl, by decide +kernel, rfl, by decide +kernel, by decide +kernel⟩
theorem sc_Log_init : FnScope ["self", "rows", "k"] ["self", "rows"] (defScope s_Log_init) := ⟨rfl, rfl, rfl, by decide +kernel, rfl, by decide +kernel, by decide +kernel⟩
theorem sc_Log_with_log_row : FnScope ["self", "row", "ahead", "one"] ["self", "row"] (defScope s_Log_with_log_row) := ⟨rfl, rfl, rfl, by decide +kernel, rfl, by decide +kernel, by decide +kernel⟩
theorem sc_check_letters : FnScope ["word", "sign"] ["word"] (defScope s_check_letters) := ⟨rfl, rfl, rfl, by decide +kernel, rfl, by decide +kernel, by decide +kernel⟩
theorem sc_read_hoist : FnScope ["flags", "found", "k", "sign", "place"] ["flags"] (defScope s_read_hoist) := ⟨rfl, rfl, rfl, by decide +kernel, rfl, by decide +kernel, by decide +kernel⟩
theorem sc_Row_init : FnScope ["self", "minute", "ship", "hoist", "answered", "sign"] ["self", "minute", "ship", "hoist", "answered"] (defScope s_Row_init) := ⟨rfl, rfl, rfl, by decide +kernel, rfl, by decide +kernel, by decide +kernel⟩
theorem sc_minute_of : FnScope ["text", "sign"] ["text"] (defScope s_minute_of) := ⟨rfl, rfl, rfl, by decide +kernel, rfl, by decide +kernel, by decide +kernel⟩
theorem sc_read_log_row : FnScope ["text", "words"] ["text"] (defScope s_read_log_row) := ⟨rfl, rfl, rfl, by decide +kernel, rfl, by decide +kernel, by decide +kernel⟩
theorem sc_read_log : FnScope ["text", "rows", "k", "words"] ["text"] (defScope s_read_log) := ⟨rfl, rfl, rfl, by decide +kernel, rfl, by decide +kernel, by decide +kernel⟩
theorem sc_Desk_tell : FnScope ["self", "row", "text"] ["self", "row"] (defScope s_Desk_tell) := ⟨rfl, rfl, rfl, by decide +kernel, rfl, by decide +kernel, by decide +kernel⟩
theorem sc_Log_answered_by : FnScope ["self", "number", "minute", "one", "fresh"] ["self", "number", "minute"] (defScope s_Log_answered_by) := ⟨rfl, rfl, rfl, by decide +kernel, rfl, by decide +kernel, by decide +kernel⟩
theorem sc_Desk_answer : FnScope ["self", "number", "clock", "text"] ["self", "number", "clock"] (defScope s_Desk_answer) := ⟨rfl, rfl, rfl, by decide +kernel, rfl, by decide +kernel, by decide +kernel⟩
theorem sc_Desk_strike_out : FnScope ["self", "number", "rows"] ["self", "number"] (defScope s_Desk_strike_out) := ⟨rfl, rfl, rfl, by decide +kernel, rfl, by decide +kernel, by decide +kernel⟩
theorem sc_law_deed : FnScope ["desk", "dice", "now", "sort", "rows", "row", "number", "fine", "clock", "due", "ahead", "one"] ["desk", "dice", "now"] (defScope s_law_deed) := ⟨rfl, rfl, rfl, by decide +kernel, rfl, by decide +kernel, by decide +kernel⟩
theorem sc_Tally_unanswered : FnScope ["self", "k"] ["self"] (defScope s_Tally_unanswered) := ⟨rfl, rfl, rfl, by decide +kernel, rfl, by decide +kernel, by decide +kernel⟩
theorem sc_Tally_init : FnScope ["self", "rows", "k", "minute", "hoist", "answered"] ["self", "rows"] (defScope s_Tally_init) := ⟨rfl, rfl, rfl, by decide +kernel, rfl, by decide +kernel, by decide +kernel⟩
theorem sc_Log_tally : FnScope ["self", "row"] ["self"] (defScope s_Log_tally) := ⟨rfl, rfl, rfl, by decide +kernel, rfl, by decide +kernel, by decide +kernel⟩
theorem sc_Log_words_made : FnScope ["self", "row"] ["self"] (defScope s_Log_words_made) := ⟨rfl, rfl, rfl, by decide +kernel, rfl, by decide +kernel, by decide +kernel⟩
theorem sc_Desk_judged : FnScope ["self", "log"] ["self"] (defScope s_Desk_judged) := ⟨rfl, rfl, rfl, by decide +kernel, rfl, by decide +kernel, by decide +kernel⟩
theorem sc_law : FnScope ["script", "dice", "desk", "past", "place", "step", "now", "gap", "fine", "reply", "deed", "due", "rows", "row", "k"] ["script"] (defScope s_law) := ⟨rfl, rfl, rfl, by decide +kernel, rfl, by decide +kernel, by decide +kernel⟩
section
variable {P : Program} {w : World} {K : PySem.W.Frag} {mg : Str → Option Value} {base : Heap} {G : Gm} {a : Adr} {xs : List (Addr × Addr × Str)}
theorem ok_roll {f : Addr} {fd : FuncData} (F : Fun K "_law_roll" "_law_roll" s_law_roll f fd) (mi : mg "int" = none) : FnOk P w K mg base (LG.CX P w) 1 f fd ["dice", "many"] (spD G 2 rollD) := by
  refine fun_okG F sc_law_roll (fun vs H Q E h => h.1) (fun cdv A outer s H vs Q E hr h => ?_)
  obtain ⟨hl, dl, Z, ds, gl, dz, live, rl, hw⟩ := h
  obtain ⟨m, x, y, z, rfl, m0, m1, hd, k⟩ := roll_of gl dz rl hw
  refine ⟨_, pss_cons (ps_if (pw_or (pt_cmpR op_eq (pe_ix ix_list (pv 0) pe_int fun _ _ => rfl) pe_int (nomark _)) (pw_or1 (pw_and (pt_cmpR op_eq (pe_ix ix_list (pv 0) pe_int fun _ _ => rfl) pe_int (nomark _)) (pw_and1 (pt_cmpR op_gt (pe_ix ix_list (pv 0) pe_int fun _ _ => rfl) pe_int (nomark _)))).pt)).pt
      (pss_cons (ps_set (i := 2) sc_law_roll.nd rfl (Or.inl rfl) (pe_op op_mod (pe_callTy call_int1 rfl mi rfl (pa_cons (pe_ix ix_list (pv 0) pe_int fun _ _ => rfl) pa_nil)) (pv 1)))
        (pss_cons (ps_asg (pe_op op_fdiv (pe_ix ix_list (pv 0) pe_int fun _ _ => rfl) (pv 1)) (pg_sub (pv 0) pe_int set_list))
          (pss_one (ps_ret (pv 2))))) pss_nil)
    (pss_cons (ps_asg pe_int (pg_sub (pv 0) pe_int set_list))
      (pss_cons (ps_asg (pe_op op_mod (pe_callTy call_int1 rfl mi rfl (pa_cons (pe_op op_add (pe_op op_add (pe_op op_mul (pe_ix ix_list (pv 0) pe_int fun _ _ => rfl) pe_int) (pe_op op_mul (pe_ix ix_list (pv 0) pe_int fun _ _ => rfl) pe_int)) pe_int) pa_nil)) pe_int) (pg_sub (pv 0) pe_int set_list))
        (pss_cons (ps_asg (pe_op op_add (pe_ix ix_list (pv 0) pe_int fun _ _ => rfl) pe_int) (pg_sub (pv 0) pe_int set_list))
          (pss_one (ps_ret (pe_op op_mod (pe_callTy call_int1 rfl mi rfl (pa_cons (pe_op op_add (pe_op op_fdiv (pe_ix ix_list (pv 0) pe_int fun _ _ => rfl) pe_int) (pe_ix ix_list (pv 0) pe_int fun _ _ => rfl)) pa_nil)) (pv 1))))))), ?_⟩
  have hm1 : m < 1073741824 := by omega
  have r0 : 0 ≤ x % m := Int.emod_nonneg _ (by omega)
  have r1 : x % m < m := Int.emod_lt_of_pos _ m0
  refine ⟨_, rfl, dl, _, _, _, rfl, rfl, SqL.of hd, rfl, rfl, _, rfl, ?_⟩
  refine ite2 (fun _ => ite2 (fun _ => ?y1) (fun h => absurd rfl h)) (fun _ => ⟨_, rfl, dl, _, _, _, rfl, rfl, SqL.of hd, rfl, rfl, _, rfl, ite2 (fun _ => ⟨_, rfl, dl, _, _, _, rfl, rfl, SqL.of hd, rfl, _, _, rfl, rfl, _, rfl, ite2 (fun _ => ?y2) (fun _ => ?n1)⟩) (fun _ => ite2 (fun h => nomatch h) (fun _ => ?n2))⟩)
  case y1 =>
    refine ⟨_, rfl, dl, _, _, _, rfl, rfl, SqL.of hd, rfl, .inl ⟨_, rfl, _, rfl, _, _, rfl, rfl, m0, ?_⟩⟩
    refine ⟨_, rfl, dl, _, _, _, rfl, rfl, SqL.of hd, rfl, _, rfl, _, _, rfl, rfl, ⟨m0, hm1⟩, _, rfl, dl, _, _, _, rfl, rfl, hd, rfl, _, rfl, ?_⟩
    exact k _ _ r0 r1 ⟨_, _, _, rfl⟩
  case y2 =>
    refine ⟨_, rfl, dl, _, _, _, rfl, rfl, SqL.of hd, rfl, .inl ⟨_, rfl, _, rfl, _, _, rfl, rfl, m0, ?_⟩⟩
    refine ⟨_, rfl, dl, _, _, _, rfl, rfl, SqL.of hd, rfl, _, rfl, _, _, rfl, rfl, ⟨m0, hm1⟩, _, rfl, dl, _, _, _, rfl, rfl, hd, rfl, _, rfl, ?_⟩
    exact k _ _ r0 r1 ⟨_, _, _, rfl⟩
  all_goals
    refine ⟨_, rfl, dl, _, _, _, rfl, rfl, hd, rfl, ?_⟩
    have h2 : (upd H dl (.lst [V.int x, V.int y, V.int 0])) dl = some (.lst [V.int x, V.int y, V.int 0]) := upd_same
    refine ⟨_, rfl, dl, _, _, _, rfl, rfl, SqL.of h2, rfl, _, _, rfl, rfl, .inr ⟨by decide, by decide⟩, _, rfl, dl, _, _, _, rfl, rfl, SqL.of h2, rfl, _, _, rfl, rfl, .inr ⟨by decide, by decide⟩, _, _, rfl, rfl, _, _, rfl, rfl, .inl ⟨_, rfl, _, _, rfl, rfl, (by show (0 : Int) < 2147483647; decide), _, rfl, dl, _, _, _, rfl, rfl, h2, rfl, ?_⟩⟩
    refine ⟨_, rfl, dl, _, _, _, rfl, rfl, SqL.of upd_same, rfl, _, _, rfl, rfl, _, rfl, dl, _, _, _, rfl, rfl, upd_same, rfl, ?_⟩
    refine ⟨_, rfl, dl, _, _, _, rfl, rfl, SqL.of upd_same, rfl, _, _, rfl, rfl, ⟨(by show (0 : Int) < 7; decide), (by show (7 : Int) < 1073741824; decide)⟩, _, rfl, dl, _, _, _, rfl, rfl, SqL.of upd_same, rfl, _, _, rfl, rfl, .inl ⟨_, rfl, _, rfl, _, _, rfl, rfl, m0, ?_⟩⟩
    refine k _ _ (Int.emod_nonneg _ (by omega)) (Int.emod_lt_of_pos _ m0) ⟨(x * 48271 + y * 69621 + 11) % 2147483647, y + 1, 0, ?_⟩
    rw [upd_upd, upd_upd]
    rfl
theorem ok_dice {f : Addr} {fd : FuncData} (F : Fun K "_law_dice" "_law_dice" s_law_dice f fd) (mi : mg "int" = none) (ma : mg "abs" = none) : FnOk P w K mg base (LG.CX P w) 1 f fd ["cell"] spDice := by
  refine fun_okG F sc_law_dice (fun vs H Q E h => by obtain ⟨c, rfl, _⟩ := h; rfl) (fun cdv A outer s H vs Q E hr h => ?_)
  obtain ⟨c, rfl, k⟩ := h
  refine ⟨_, pss_cons (ps_if (pt_chain op_lt op_lt (pe_op op_sub pe_int pe_int) (pv 0) pe_int) (pss_one (ps_ret (pe_lst (pa_cons (pe_callB call_abs rfl ma rfl (pa_cons (pv 0) pa_nil)) (pa_cons pe_int (pa_cons pe_int pa_nil)))))) pss_nil)
    (pss_one (ps_ret (pe_lst (pa_cons (pv 0) (pa_cons (pe_op op_add pe_int (pe_op op_mod (pe_callTy call_int1 rfl mi rfl (pa_cons (pv 0) pa_nil)) pe_int)) (pa_cons (pe_callTy call_int1 rfl mi rfl (pa_cons (pe_cmpR op_ge (pv 0) (pe_op op_pow pe_int pe_int) (nomark _)) pa_nil)) pa_nil)))))), ?_⟩
  have kk : ∀ a : Int, [V.int a, V.int 0, V.int 2].length ≤ sizeLine ∧ ∀ p, H p = none → Q (.ref p) (upd H p (.lst [V.int a, V.int 0, V.int 2])) := fun a => ⟨by rw [sizeLine_eq]; exact Nat.le_of_ble_eq_true rfl, fun p hp => k p a 0 2 hp⟩
  have kn : ∀ b : Bool, [V.int c, V.int (1 + c % 1009), V.int (if b = true then 1 else 0)].length ≤ sizeLine ∧ ∀ p, H p = none → Q (.ref p) (upd H p (.lst [V.int c, V.int (1 + c % 1009), V.int (if b = true then 1 else 0)])) := fun b => ⟨by rw [sizeLine_eq]; exact Nat.le_of_ble_eq_true rfl, fun p hp => k p c _ _ hp⟩
  have no : tRet
      (tLst
        (tCons (tVar 0)
          (tCons
            (tOp (rI0 fun i j => V.int (i + j)) (tC (V.int 1))
              (tOp (rI (fun x j => 0 < j) fun i j => V.int (i % j))
                (tCB
                  (fun xs H Q =>
                    (∃ i, xs = [V.int i] ∧ Q (V.int i) H) ∨
                      ∃ k, xs = [V.bl k] ∧ Q (V.int (if k = true then 1 else 0)) H)
                  (tCons (tVar 0) tNil))
                (tC (V.int 1009))))
            (tCons
              (tCB
                (fun xs H Q =>
                  (∃ i, xs = [V.int i] ∧ Q (V.int i) H) ∨ ∃ k, xs = [V.bl k] ∧ Q (V.int (if k = true then 1 else 0)) H)
                (tCons
                  (tOp (rI0 fun i j => V.bl (decide (j ≤ i))) (tVar 0)
                    (tOp (rI CPow fun i j => V.int (i ^ j.toNat)) (tC (V.int 10)) (tC (V.int 18))))
                  tNil))
              tNil)))) { nx := fun x H' => Q V.non H', rt := Q } (L2.start [Str.ofString "cell"] [V.int c]) H := by
    exact ⟨_, rfl, _, rfl, .inl ⟨_, rfl, _, _, rfl, rfl, (by show (0 : Int) < 1009; decide), _, _, rfl, rfl, _, rfl, _, _, rfl, rfl, ⟨by decide, by decide, by decide⟩, _, _, rfl, rfl, .inr ⟨_, rfl, kn _⟩⟩⟩
  refine ⟨_, _, rfl, rfl, _, rfl, _, _, rfl, rfl, _, rfl, ite2 (fun _ => ⟨_, _, rfl, rfl, _, rfl, ite2 (fun _ => ⟨_, rfl, _, rfl, kk _⟩) (fun _ => no)⟩) (fun _ => ⟨_, rfl, ite2 (fun h => nomatch h) (fun _ => no)⟩)⟩
theorem ok_rounds {f fD : Addr} {fd fdD : FuncData} (F : Fun K "_law_rounds" "_law_rounds" s_law_rounds f fd) (D : FnOk P w K mg base (LG.CX P w) 1 fD fdD ["cell"] spDice) (kD : PySem.W.keepIn K (.ref fD) = true) (bD : Binds K fdD ["cell"] []) (mD : mg "_law_dice" = some (.ref fD)) : FnOk P w K mg base (LG.CX P w) 2 f fd ["script", "most"] (spRounds K) := by
  refine fun_okG F sc_law_rounds (fun vs H Q E h => by obtain ⟨a, ns, rfl, _⟩ := h; rfl) (fun cdv A outer s H vs Q E hr h => ?_)
  obtain ⟨a, ns, rfl, hS, k⟩ := h
  have hu : (A.deeper (PyProof.Rows.envOfC "_law_rounds" (defScope s_law_rounds) s.heap.objs.size f cdv)).units + 64 < cLine := by have := hr.un; omega
  refine ⟨_, pss_cons (ps_set (i := 2) sc_law_rounds.nd rfl (Or.inl rfl) (pe_slice sl_list (pv 0) po_none (po_some (pv 1))))
    (pss_cons (ps_if (pt_cmpR (op_eqD hu) (pv 2) (pe_lst pa_nil) (nomark _)) (pss_one (ps_set (i := 2) sc_law_rounds.nd rfl (Or.inl rfl) (pe_lst (pa_cons pe_int pa_nil)))) pss_nil)
      (pss_one (ps_ret (pe_lc (own := [("cell", 3)]) (g := gName 3) (tt := tYes) rfl sc_law_rounds.nd (pi_list (pv 2)) (blkOk_by (N := ["script", "most", "cells", "cell"]) (sc := defScope s_law_rounds) (by decide +kernel)) (fun _ _ _ _ _ => pg_name (i := 3) sc_law_rounds.nd rfl (Or.inl rfl)) (fun _ _ _ _ _ => pts_nil)
        (fun _ _ _ _ _ => pe_callS D hr rfl mD kD bD (fun sg => DL.passAt takes0D sg) (pa_cons (pv 3) pa_nil)))))), ?_⟩
  have fin : ∀ (H1 : Hp) (l : Addr) (c : Int), (∀ b o, H b = some o → H1 b = some o) → H1 l = some (.lst [.int c]) →
      (tRet (tLc (iList K (tVar 2)) (gName 3) tYes (tCallS spDice (WE W0) (tCons (tVar 3) tNil)) [3])) { nx := fun x H' => Q V.non H', rt := Q } [some (.ref a), some (.int 1), some (.ref l), none] H1 := fun H1 l c e1 hl => by
    refine ⟨_, rfl, l, rfl, ⟨_, SqL.of hl⟩, fun D hD => ?_⟩
    have hlD : l ≠ D := ne_of_none hl hD
    refine lc_list (xs := [V.int c]) (fun i H' => (∀ b o, H1 b = some o → H' b = some o) ∧ ((i = 0 ∧ H' D = some (.lst [])) ∨ (i = 1 ∧ ∃ (d : Addr) (x y z : Int), D ≠ d ∧ H' D = some (.lst [.ref d]) ∧ H' d = some (.lst [.int x, .int y, .int z])))) ⟨fun b o e => by rw [upd_ne (ne_of_none e hD)]; exact e, .inl ⟨rfl, upd_same⟩⟩
      (fun i H' _ p => SqL.of (p.1 _ _ hl)) (fun i x H' hx p => ?_) fun H' p => ?_
    · obtain ⟨p1, p2⟩ := p
      cases i with
      | succ i => simp at hx
      | zero =>
        cases hx
        rcases p2 with ⟨_, hDl⟩ | ⟨h, _⟩
        case inr => cases h
        refine ⟨rfl, _, rfl, c, rfl, fun d x y z hd => ?_⟩
        have hDd : D ≠ d := ne_of_none hDl hd
        refine ⟨[], by rw [upd_ne hDd]; exact hDl, by rw [sizeLine_eq]; decide, fun b o e => ?_, .inr ⟨rfl, d, x, y, z, hDd, upd_same, by rw [upd_ne hDd.symm]; exact upd_same⟩⟩
        rw [upd_ne (ne_of_none e hD), upd_ne (ne_of_none (p1 b o e) hd)]
        exact p1 b o e
    · obtain ⟨p1, p2⟩ := p
      rcases p2 with ⟨h, _⟩ | ⟨_, d, x, y, z, n, h1, h2⟩
      · cases h
      · exact k H' D d x y z (fun b o e => p1 b o (e1 b o e)) n h1 h2
  refine ⟨_, rfl, _, rfl, _, rfl, a, _, rfl, hS, fun l hl => ?_⟩
  have dnil : ∀ {H2 : Hp} {q : Addr}, H2 q = some (.lst []) → Dp K H2 (.ref q) (.list []) := fun h => .lst (SqL.of h) .nil
  cases ns with
  | nil =>
    refine ⟨_, rfl, Nat.zero_le _, fun l2 hl2 => ⟨.list [], .list [], dnil ?_, dnil upd_same, by decide, by decide, _, rfl, ite2 (fun _ => ⟨by rw [sizeLine_eq]; decide, fun l3 hl3 => fin _ l3 0 (fun b o e => ?_) upd_same⟩) (fun h => absurd rfl h)⟩⟩
    · have n : l ≠ l2 := fun e => by rw [← e, upd_same] at hl2; cases hl2
      rw [upd_ne n]; exact upd_same
    · have e1 := (upd_ne (o := .lst (cutV ([].map V.int) none (some 1))) (ne_of_none e hl)).trans e
      have e2 := (upd_ne (o := .lst []) (ne_of_none e1 hl2)).trans e1
      exact (upd_ne (o := .lst [V.int 0]) (ne_of_none e2 hl3)).trans e2
  | cons c r =>
    have cv : cutV ((c :: r).map V.int) none (some 1) = [V.int c] := by
      show (List.take (HT.sIx _ _ (some ((1 : Nat) : Int)) - 0) _) = _
      rw [HT.sIx_nat, HT.sIx_none]
      simp
    rw [cv] at *
    refine ⟨_, rfl, Nat.zero_le _, fun l2 hl2 => ⟨.list [.int c], .list [], .lst (xs := [V.int c]) (SqL.of ?_) (.cons (.int c) .nil), dnil upd_same, rfl, by decide, _, rfl, ite2 (fun h => nomatch h) (fun _ => fin _ l c (fun b o e => ?_) ?_)⟩⟩
    · have n : l ≠ l2 := fun e => by rw [← e, upd_same] at hl2; cases hl2
      rw [upd_ne n]; exact upd_same
    · have e1 := (upd_ne (o := .lst [V.int c]) (ne_of_none e hl)).trans e
      exact (upd_ne (o := .lst []) (ne_of_none e1 hl2)).trans e1
    · have n : l ≠ l2 := fun e => by rw [← e, upd_same] at hl2; cases hl2
      rw [upd_ne n]; exact upd_same
theorem fo_shown {X : Cx} (T : Txt P w X.K mg base a) : FldOk X (gm X.K w a xs) "shown" fx_shown := fun c j e => by
  unfold fx_shown at e
  split at e
  · cases e; exact ⟨T.c_Desk, T.n_Desk_shown, rfl, show (["shown", "deeds", "undone"] : List Str).Nodup by decide +kernel⟩
  · cases e
theorem fo_deeds {X : Cx} (T : Txt P w X.K mg base a) : FldOk X (gm X.K w a xs) "deeds" fx_deeds := fun c j e => by
  unfold fx_deeds at e
  split at e
  · cases e; exact ⟨T.c_Desk, T.n_Desk_deeds, rfl, show (["shown", "deeds", "undone"] : List Str).Nodup by decide +kernel⟩
  · cases e
theorem fo_undone {X : Cx} (T : Txt P w X.K mg base a) : FldOk X (gm X.K w a xs) "undone" fx_undone := fun c j e => by
  unfold fx_undone at e
  split at e
  · cases e; exact ⟨T.c_Desk, T.n_Desk_undone, rfl, show (["shown", "deeds", "undone"] : List Str).Nodup by decide +kernel⟩
  · cases e
theorem fo_rows {X : Cx} (T : Txt P w X.K mg base a) : FldOk X (gm X.K w a xs) "rows" fx_rows := fun c j e => by
  unfold fx_rows at e
  split at e
  · cases e; exact ⟨T.c_Tally, T.n_Tally_rows, rfl, show (["rows"] : List Str).Nodup by decide +kernel⟩
  · cases e; exact ⟨T.c_Log, T.n_Log_rows, rfl, show (["rows"] : List Str).Nodup by decide +kernel⟩
  · cases e
theorem fo_minute {X : Cx} (T : Txt P w X.K mg base a) : FldOk X (gm X.K w a xs) "minute" fx_minute := fun c j e => by
  unfold fx_minute at e
  split at e
  · cases e; exact ⟨T.c_Row, T.n_Row_minute, rfl, show (["minute", "ship", "hoist", "answered"] : List Str).Nodup by decide +kernel⟩
  · cases e
theorem fo_ship {X : Cx} (T : Txt P w X.K mg base a) : FldOk X (gm X.K w a xs) "ship" fx_ship := fun c j e => by
  unfold fx_ship at e
  split at e
  · cases e; exact ⟨T.c_Row, T.n_Row_ship, rfl, show (["minute", "ship", "hoist", "answered"] : List Str).Nodup by decide +kernel⟩
  · cases e
theorem fo_hoist {X : Cx} (T : Txt P w X.K mg base a) : FldOk X (gm X.K w a xs) "hoist" fx_hoist := fun c j e => by
  unfold fx_hoist at e
  split at e
  · cases e; exact ⟨T.c_Row, T.n_Row_hoist, rfl, show (["minute", "ship", "hoist", "answered"] : List Str).Nodup by decide +kernel⟩
  · cases e
theorem fo_answered {X : Cx} (T : Txt P w X.K mg base a) : FldOk X (gm X.K w a xs) "answered" fx_answered := fun c j e => by
  unfold fx_answered at e
  split at e
  · cases e; exact ⟨T.c_Row, T.n_Row_answered, rfl, show (["minute", "ship", "hoist", "answered"] : List Str).Nodup by decide +kernel⟩
  · cases e
theorem tm_Log_init : (a.t_Log_init, ("Log.__init__" : Str) ++ ".<locals>.") ∈ tabsA a := by unfold tabsA; simp
theorem tm_check_letters : (a.t_check_letters, ("check_letters" : Str) ++ ".<locals>.") ∈ tabsA a := by unfold tabsA; simp
theorem tm_Row_init : (a.t_Row_init, ("Row.__init__" : Str) ++ ".<locals>.") ∈ tabsA a := by unfold tabsA; simp
theorem tm_minute_of : (a.t_minute_of, ("minute_of" : Str) ++ ".<locals>.") ∈ tabsA a := by unfold tabsA; simp
theorem tm_law_deed : (a.t_law_deed, ("_law_deed" : Str) ++ ".<locals>.") ∈ tabsA a := by unfold tabsA; simp
theorem tm_Tally_init : (a.t_Tally_init, ("Tally.__init__" : Str) ++ ".<locals>.") ∈ tabsA a := by unfold tabsA; simp
theorem tm_law : (a.t_law, ("law" : Str) ++ ".<locals>.") ∈ tabsA a := by unfold tabsA; simp
theorem tabs_u (T : Txt P w K mg base a) : ∀ p ∈ tabsA a, ∀ q ∈ tabsA a, p.1 = q.1 → p.2 = q.2 := by
  intro p hp q hq e
  unfold tabsA at hp hq
  simp only [List.mem_cons, List.not_mem_nil, or_false] at hp hq
  rcases hp with rfl | rfl | rfl | rfl | rfl | rfl | rfl
  · rcases hq with rfl | rfl | rfl | rfl | rfl | rfl | rfl
    · rfl
    · exact (T.ne_Log_init_check_letters e).elim
    · exact (T.ne_Log_init_Row_init e).elim
    · exact (T.ne_Log_init_minute_of e).elim
    · exact (T.ne_Log_init_law_deed e).elim
    · exact (T.ne_Log_init_Tally_init e).elim
    · exact (T.ne_Log_init_law e).elim
  · rcases hq with rfl | rfl | rfl | rfl | rfl | rfl | rfl
    · exact (T.ne_Log_init_check_letters e.symm).elim
    · rfl
    · exact (T.ne_check_letters_Row_init e).elim
    · exact (T.ne_check_letters_minute_of e).elim
    · exact (T.ne_check_letters_law_deed e).elim
    · exact (T.ne_check_letters_Tally_init e).elim
    · exact (T.ne_check_letters_law e).elim
  · rcases hq with rfl | rfl | rfl | rfl | rfl | rfl | rfl
    · exact (T.ne_Log_init_Row_init e.symm).elim
    · exact (T.ne_check_letters_Row_init e.symm).elim
    · rfl
    · exact (T.ne_Row_init_minute_of e).elim
    · exact (T.ne_Row_init_law_deed e).elim
    · exact (T.ne_Row_init_Tally_init e).elim
    · exact (T.ne_Row_init_law e).elim
  · rcases hq with rfl | rfl | rfl | rfl | rfl | rfl | rfl
    · exact (T.ne_Log_init_minute_of e.symm).elim
    · exact (T.ne_check_letters_minute_of e.symm).elim
    · exact (T.ne_Row_init_minute_of e.symm).elim
    · rfl
    · exact (T.ne_minute_of_law_deed e).elim
    · exact (T.ne_minute_of_Tally_init e).elim
    · exact (T.ne_minute_of_law e).elim
  · rcases hq with rfl | rfl | rfl | rfl | rfl | rfl | rfl
    · exact (T.ne_Log_init_law_deed e.symm).elim
    · exact (T.ne_check_letters_law_deed e.symm).elim
    · exact (T.ne_Row_init_law_deed e.symm).elim
    · exact (T.ne_minute_of_law_deed e.symm).elim
    · rfl
    · exact (T.ne_law_deed_Tally_init e).elim
    · exact (T.ne_law_deed_law e).elim
  · rcases hq with rfl | rfl | rfl | rfl | rfl | rfl | rfl
    · exact (T.ne_Log_init_Tally_init e.symm).elim
    · exact (T.ne_check_letters_Tally_init e.symm).elim
    · exact (T.ne_Row_init_Tally_init e.symm).elim
    · exact (T.ne_minute_of_Tally_init e.symm).elim
    · exact (T.ne_law_deed_Tally_init e.symm).elim
    · rfl
    · exact (T.ne_Tally_init_law e).elim
  · rcases hq with rfl | rfl | rfl | rfl | rfl | rfl | rfl
    · exact (T.ne_Log_init_law e.symm).elim
    · exact (T.ne_check_letters_law e.symm).elim
    · exact (T.ne_Row_init_law e.symm).elim
    · exact (T.ne_minute_of_law e.symm).elim
    · exact (T.ne_law_deed_law e.symm).elim
    · exact (T.ne_Tally_init_law e.symm).elim
    · rfl
theorem gives_told {X : Cx} {cdg : Value} {g : Addr} (T : Txt P w K mg base a) (hK : X.K = K) (hm : X.mg = mg) : GivesN X ["what"] "_law_desk" (defScope s_law_desk) g cdg (defBody s_law_desk) "what" (TTm X.K (toldL.map fun p => ((gm K w a xs).xcls p.1, (⟨p.2.toArray⟩ : Str)))) := by
  subst hm
  exact told_many (X := X) (.cons (by rfl) T.x_BadDeed.2.1 (by decide) .nil) (fun _ => rfl)
theorem k_law_roll (T : Txt P w K mg base a) : FnD P w K mg base (gm K w a xs) 1 "_law_roll" a.f_law_roll 2 rollD := by
  obtain ⟨fd, F, bd⟩ := T.e_law_roll
  exact ⟨⟨fd, _, rfl, ok_roll F T.b_int, bd⟩, rollD_len, F.kp, T.g_law_roll⟩
def F_clock_of : LE → R Out :=
    (retS (opE addD (bmE "str" zfillD (callE strOf (acons (opE fdivD (var 0) (cst (.int 60))) anil)) (acons (cst (.int 2)) anil)) (bmE "str" zfillD (callE strOf (acons (opE modD (var 0) (cst (.int 60))) anil)) (acons (cst (.int 2)) anil))))
def D_clock_of : List D → R D := runF 1 1 F_clock_of
theorem k_clock_of (T : Txt P w K mg base a) : FnD P w K mg base (gm K w a xs) 1 "clock_of" a.f_clock_of 1 D_clock_of := by
  exact fnD_E T.e_clock_of sc_clock_of T.g_clock_of rfl rfl fun cdv A outer s H E hr =>
    (dss_one (ds_ret (de_op (op_add_d rfl) (DE.p (de_bm (bm_zfill) rfl (DE.p (de_callT (cd_str) T.b_str rfl (dap_cons (DE.p (de_op (op_fdiv_d) (DE.p (de_var 0)) (DE.p de_int))) dap_nil))) (dap_cons (DE.p de_int) dap_nil))) (DE.p (de_bm (bm_zfill) rfl (DE.p (de_callT (cd_str) T.b_str rfl (dap_cons (DE.p (de_op (op_mod_d) (DE.p (de_var 0)) (DE.p de_int))) dap_nil))) (dap_cons (DE.p de_int) dap_nil))))))
def F_Row_said : LE → R Out :=
    (seqS (setK 1 (valK (opE addD (opE addD (opE addD (opE addD (callE D_clock_of (acons (fldE fx_minute (var 0)) anil)) (cst (.str [32]))) (fldE fx_ship (var 0))) (cst (.str [32]))) (fldE fx_hoist (var 0)))))
    (retS (opE addD (var 1) (iteE (valT (isNE (fldE fx_answered (var 0)))) (cst (.str [])) (opE addD (cst (.str [32, 97, 110, 115, 119, 101, 114, 101, 100, 32])) (callE D_clock_of (acons (fldE fx_answered (var 0)) anil)))))))
def D_Row_said : List D → R D := runF 1 2 F_Row_said
theorem k_Row_said (T : Txt P w K mg base a) : MeD P w K mg base (gm K w a xs) 2 1 "said" 1 D_Row_said := by
  exact meD_E (G := gm K w a xs) (c := 1) T.e_Row_said sc_Row_said T.mt_Row_said T.c_Row (show ("said" : Str) ∉ (["minute", "ship", "hoist", "answered"] : List Str) by decide +kernel) rfl rfl fun cdv A outer s H E hr =>
    (dss_cons (ds_set 1 (DE.k (de_op (op_add_d rfl) (DE.p (de_op (op_add_d rfl) (DE.p (de_op (op_add_d rfl) (DE.p (de_op (op_add_d rfl) (DE.p (de_call (k_clock_of T) (hr.mono (by decide)) takes_cxD (da_cons (de_fld (fo_minute T) (de_var 0)) da_nil))) (DE.p (de_str [32])))) (DE.p (de_fld (fo_ship T) (de_var 0))))) (DE.p (de_str [32])))) (DE.p (de_fld (fo_hoist T) (de_var 0))))) (by decide) sc_Row_said.nd)
    (dss_one (ds_ret (de_op (op_add_d rfl) (DE.p (de_var 1)) (DE.p (de_if (dt_isN (DE.p (de_fld (fo_answered T) (de_var 0)))) (de_str []) (de_op (op_add_d rfl) (DE.p (de_str [32, 97, 110, 115, 119, 101, 114, 101, 100, 32])) (DE.p (de_call (k_clock_of T) (hr.mono (by decide)) takes_cxD (da_cons (de_fld (fo_answered T) (de_var 0)) da_nil))))))))))
def F_Log_said : LE → R Out :=
    (retS (bmE "str" joinD (cst (.str [10])) (acons (lE (compF (itT (fldE fx_rows (var 0))) (gN 1) yesT (meth0E 1 D_Row_said (var 1)) [1])) anil)))
def D_Log_said : List D → R D := runF 1 2 F_Log_said
theorem k_Log_said (T : Txt P w K mg base a) : MeD P w K mg base (gm K w a xs) 3 2 "said" 1 D_Log_said := by
  exact meD_E (G := gm K w a xs) (c := 2) T.e_Log_said sc_Log_said T.mt_Log_said T.c_Log (show ("said" : Str) ∉ (["rows"] : List Str) by decide +kernel) rfl rfl fun cdv A outer s H E hr =>
    (dss_one (ds_ret (de_bm (bm_join rfl) rfl (DE.p (de_str [10])) (dap_cons (DE.p (DF.e (df_comp (own := [("row", 1)]) rfl sc_Log_said.nd (DI.e (di_tup rfl (de_fld (fo_rows T) (de_var 0)))) (blkOk_by (N := ["self", "row"]) (sc := defScope s_Log_said) (by decide +kernel)) (fun _ _ _ _ _ => (dg_name 1 sc_Log_said.nd)) (fun _ _ _ _ _ => dts_nil) (fun _ _ _ _ _ => (de_meth0 (k_Row_said T) (hr.mono (by decide)) takes0D (de_var 1))) (by decide)))) dap_nil))))
def F_Log_init : LE → R Out :=
    (seqS (ifS (valT (anyE true (rng2E (acons (cst (.int 1)) (acons (callE lenX (acons (var 1) anil)) anil))) (gN 2) yesT (opE ltD (fldE fx_minute (subE (var 1) (var 2))) (fldE fx_minute (subE (var 1) (opE subD (var 2) (cst (.int 1)))))) [2]))
    (errES ⟨3, .non⟩ (cst (.int 0)))
    skipS)
    (fldS fx_rows (callE tupleD (acons (var 1) anil))))
def D_Log_init : List D → R D := runI 2 1 1 3 F_Log_init
theorem k_Log_init (T : Txt P w K mg base a) : MkD P w K mg base (gm K w a xs) 2 2 "Log" 1 D_Log_init := by
  obtain ⟨oc0, od0, kV0, doc0, pm0, an0, cdv0, ct0, osl0, lk0, cd0, kp0, bd0⟩ := T.l_told
  exact mkD_C (G := gm K w a xs) (c := 2) T.e_Log_init sc_Log_init T.mk_Log T.g_Log rfl rfl rfl fun A outer s H E hr =>
    (dss_cons (ds_if (dt_val (de_any (k := 0) (own := [("k", 2)]) (hr.mono (by decide)) rfl T.b_any (mk_def T.tb_Log_init rfl tm_Log_init) sc_Log_init.nd (DI.e (di_rng2 rfl T.b_range (da_cons de_int (da_cons (de_callB (cd_lenX rfl) T.b_len rfl (dap_cons (DE.p (de_var 1)) dap_nil)) da_nil)))) (blkOk_by (N := ["self", "rows", "k"]) (sc := defScope s_Log_init) (by decide +kernel)) (genOk_by (by decide +kernel)) (fun _ _ _ _ _ _ _ _ hrg mk1_ => (dg_name 2 sc_Log_init.nd)) (fun _ _ _ _ _ _ _ _ hrg mk1_ => dts_nil) (fun _ _ _ _ _ _ _ _ hrg mk1_ => (de_cmp (op_lt_d) (DE.p (de_fld (fo_minute T) (de_sub rfl rfl (huD hrg) (DE.p (de_var 1)) (DE.p (de_var 2)) fun _ _ => rfl))) (DE.p (de_fld (fo_minute T) (de_sub rfl rfl (huD hrg) (DE.p (de_var 1)) (DE.p (de_op (op_sub_d) (DE.p (de_var 2)) (DE.p de_int))) fun _ _ => rfl))))) (by decide)))
    (dss_one (ds_raiseS 3 takes_cxD rfl T.s_BadText rfl (hr.mono (by decide)) T.x_BadText de_int))
    dss_nil)
    (dss_one (ds_field (fo_rows T) hsz (de_callT (cd_tuple rfl) T.b_tuple rfl (dap_cons (DE.p (de_var 1)) dap_nil)))))
def F_Log_with_log_row : LE → R Out :=
    (seqS (setK 2 (ownK (compF (itT (fldE fx_rows (var 0))) (gN 3) (cmpT leD (fldE fx_minute (var 3)) (fldE fx_minute (var 1))) (var 3) [3])))
    (retS (callE D_Log_init (acons (opE addD (opE addD (varP 2) (lE (lstE (acons (var 1) anil)))) (lE (callF listK (acons (sliceE (fldE fx_rows (var 0)) (someP (callE lenX (acons (varP 2) anil))) noP) anil)))) anil))))
def D_Log_with_log_row : List D → R D := runF 2 4 F_Log_with_log_row
theorem k_Log_with_log_row (T : Txt P w K mg base a) : MeD P w K mg base (gm K w a xs) 4 2 "with_log_row" 2 D_Log_with_log_row := by
  exact meD_E (G := gm K w a xs) (c := 2) T.e_Log_with_log_row sc_Log_with_log_row T.mt_Log_with_log_row T.c_Log (show ("with_log_row" : Str) ∉ (["rows"] : List Str) by decide +kernel) rfl rfl fun cdv A outer s H E hr =>
    (dss_cons (ds_setcomp 2 (own := [("one", 3)]) rfl sc_Log_with_log_row.nd (DI.e (di_tup rfl (de_fld (fo_rows T) (de_var 0)))) (blkOk_by (N := ["self", "row", "ahead", "one"]) (sc := defScope s_Log_with_log_row) (by decide +kernel)) (fun _ _ _ _ _ => (dg_name 3 sc_Log_with_log_row.nd)) (fun _ _ _ _ _ => (dts_one (dt_cmp (op_le_d) (DE.p (de_fld (fo_minute T) (de_var 3))) (DE.p (de_fld (fo_minute T) (de_var 1)))))) (fun _ _ _ _ _ => (de_var 3)) (by decide) (by decide) (sw_true rfl rfl rfl (by decide +kernel)))
    (dss_one (ds_ret (de_make (k_Log_init T) (hr.mono (by decide)) takes_cxD (da_cons (de_op (op_add_d rfl) (DE.p (de_op (op_add_d rfl) (dp_var 2) (DE.p (DF.e (df_lst (da_cons (de_var 1) da_nil)))))) (DE.p (DF.e (df_callT (cf_listK rfl rfl) T.b_list rfl (dap_cons (DE.p (de_slice rfl (DE.p (de_fld (fo_rows T) (de_var 0))) (do_some (DE.p (de_callB (cd_lenX rfl) T.b_len rfl (dap_cons (dp_var 2) dap_nil)))) do_none)) dap_nil))))) da_nil)))))
def F_check_letters : LE → R Out :=
    (ifS (orT (notT (chainT (cst (.int 1)) (callE lenX (acons (var 0) anil)) (cst d_MOST_FLAGS) leD leD)) (valT (anyE true (itS (var 0)) (gN 1) yesT (opE notInD (var 1) (cst (.str [97, 98, 99, 100, 101, 102, 103, 104, 105, 106, 107, 108, 109, 110, 111, 112, 113, 114, 115, 116, 117, 118, 119, 120, 121, 122]))) [1])))
    (errS ⟨1, .non⟩)
    skipS)
def D_check_letters : List D → R D := runF 1 2 F_check_letters
theorem k_check_letters (T : Txt P w K mg base a) : FnD P w K mg base (gm K w a xs) 2 "check_letters" a.f_check_letters 1 D_check_letters := by
  obtain ⟨oc0, od0, kV0, doc0, pm0, an0, cdv0, ct0, osl0, lk0, cd0, kp0, bd0⟩ := T.l_told
  exact fnD_C T.e_check_letters sc_check_letters T.g_check_letters rfl rfl fun A outer s H E hr =>
    (dss_one (ds_if (dt_w (dw_or (dt_not (dt_chain (op_le_d) (op_le_d) (DE.p de_int) (DE.p (de_callB (cd_lenX rfl) T.b_len rfl (dap_cons (DE.p (de_var 0)) dap_nil))) (DE.p (de_gl (T.v_MOST_FLAGS _))))) (dw_or1 (dt_val (de_any (k := 0) (own := [("sign", 1)]) (hr.mono (by decide)) rfl T.b_any (mk_def T.tb_check_letters rfl tm_check_letters) sc_check_letters.nd (DI.e (di_str (de_var 0))) (blkOk_by (N := ["word", "sign"]) (sc := defScope s_check_letters) (by decide +kernel)) (genOk_by (by decide +kernel)) (fun _ _ _ _ _ _ _ _ hrg mk1_ => (dg_name 1 sc_check_letters.nd)) (fun _ _ _ _ _ _ _ _ hrg mk1_ => dts_nil) (fun _ _ _ _ _ _ _ _ hrg mk1_ => (de_cmp (op_notin_d rfl (huD hrg)) (DE.p (de_var 1)) (DE.p (de_str [97, 98, 99, 100, 101, 102, 103, 104, 105, 106, 107, 108, 109, 110, 111, 112, 113, 114, 115, 116, 117, 118, 119, 120, 121, 122])))) (by decide))))))
    (dss_one (ds_raise 1 takes_cxD rfl PySem.F.excBase_ValueError rfl rfl T.x_BadHoist.1 T.x_BadHoist.2.1 T.x_BadHoist.2.2.1 (raises_own T.x_BadHoist.2.2.2.1 T.x_BadHoist.2.2.2.2)))
    dss_nil))
def F_read_hoist : LE → R Out :=
    (seqS (ifS (notT (chainT (cst (.int 1)) (callE lenX (acons (var 0) anil)) (cst d_MOST_FLAGS) leD leD))
    (errS ⟨1, .non⟩)
    skipS)
    (seqS (setK 1 (valK (cst (.str []))))
    (seqS (forS (enumTE 0 (acons (var 0) anil)) (gTup_ 2 (gCons_ (gN 2) (gCons_ (gN 3) gNil_)))
    (seqS (ifS (cmpT inD (var 3) (sliceE (var 0) noP (someP (var 2))))
    (errS ⟨1, .non⟩)
    skipS)
    (ifS (cmpT inD (var 3) (cst d_SUBSTITUTES))
    (seqS (setK 4 (valK (bmE "str" sidxD (cst d_SUBSTITUTES) (acons (var 3) anil))))
    (seqS (ifS (cmpT geD (var 4) (var 2))
    (errS ⟨1, .non⟩)
    skipS)
    (setK 1 (valK (opE iaddD (var 1) (subE (var 1) (var 4)))))))
    (seqS (dropS (callE D_check_letters (acons (var 3) anil)))
    (setK 1 (valK (opE iaddD (var 1) (var 3))))))))
    (retS (var 1)))))
def D_read_hoist : List D → R D := runF 1 5 F_read_hoist
theorem k_read_hoist (T : Txt P w K mg base a) : FnD P w K mg base (gm K w a xs) 3 "read_hoist" a.f_read_hoist 1 D_read_hoist := by
  exact fnD_E T.e_read_hoist sc_read_hoist T.g_read_hoist rfl rfl fun cdv A outer s H E hr =>
    (dss_cons (ds_if (dt_not (dt_chain (op_le_d) (op_le_d) (DE.p de_int) (DE.p (de_callB (cd_lenX rfl) T.b_len rfl (dap_cons (DE.p (de_var 0)) dap_nil))) (DE.p (de_gl (T.v_MOST_FLAGS _)))))
    (dss_one (ds_raise 1 takes_cxD rfl PySem.F.excBase_ValueError rfl rfl T.x_BadHoist.1 T.x_BadHoist.2.1 T.x_BadHoist.2.2.1 (raises_own T.x_BadHoist.2.2.2.1 T.x_BadHoist.2.2.2.2)))
    dss_nil)
    (dss_cons (ds_set 1 (DE.k (de_str [])) (by decide) sc_read_hoist.nd)
    (dss_cons (ds_for owns_cxD rfl (di_enumT rfl T.b_enumerate (da_cons (de_var 0) da_nil)) (dg_tup rfl rfl (dgs_cons (dg_name 2 sc_read_hoist.nd) (dgs_cons (dg_name 3 sc_read_hoist.nd) dgs_nil)))
    (dss_cons (ds_if (dt_cmp (op_in_d rfl (huD hr)) (DE.p (de_var 3)) (DE.p (de_slice rfl (DE.p (de_var 0)) do_none (do_some (DE.p (de_var 2))))))
    (dss_one (ds_raise 1 takes_cxD rfl PySem.F.excBase_ValueError rfl rfl T.x_BadHoist.1 T.x_BadHoist.2.1 T.x_BadHoist.2.2.1 (raises_own T.x_BadHoist.2.2.2.1 T.x_BadHoist.2.2.2.2)))
    dss_nil)
    (dss_one (ds_if (dt_cmp (op_in_d rfl (huD hr)) (DE.p (de_var 3)) (DE.p (de_gl (T.v_SUBSTITUTES _))))
    (dss_cons (ds_set 4 (DE.k (de_bm (bm_sindex) rfl (DE.p (de_gl (T.v_SUBSTITUTES _))) (dap_cons (DE.p (de_var 3)) dap_nil))) (by decide) sc_read_hoist.nd)
    (dss_cons (ds_if (dt_cmp (op_ge_d) (DE.p (de_var 4)) (DE.p (de_var 2)))
    (dss_one (ds_raise 1 takes_cxD rfl PySem.F.excBase_ValueError rfl rfl T.x_BadHoist.1 T.x_BadHoist.2.1 T.x_BadHoist.2.2.1 (raises_own T.x_BadHoist.2.2.2.1 T.x_BadHoist.2.2.2.2)))
    dss_nil)
    (dss_one (ds_aug 1 oi_add sc_read_hoist.nd (de_sub rfl rfl (huD hr) (DE.p (de_var 1)) (DE.p (de_var 4)) fun _ _ => rfl)))))
    (dss_cons (ds_expr (de_call (k_check_letters T) (hr.mono (by decide)) takes_cxD (da_cons (de_var 3) da_nil)))
    (dss_one (ds_aug 1 oi_add sc_read_hoist.nd (de_var 3))))))))
    (dss_one (ds_ret (de_var 1))))))
def F_Row_init : LE → R Out :=
    (seqS (ifS (orT (notT (chainT (cst (.int 0)) (var 1) (cst (.int 1440)) leD ltD)) (andT (valT (notNE (var 4))) (notT (chainT (var 1) (var 4) (cst (.int 1440)) leD ltD))))
    (errES ⟨3, .non⟩ (cst (.int 0)))
    skipS)
    (seqS (ifS (orT (cmpT eqD (var 2) (cst (.str []))) (valT (anyE true (itS (var 2)) (gN 5) yesT (opE notInD (var 5) (cst (.str [97, 98, 99, 100, 101, 102, 103, 104, 105, 106, 107, 108, 109, 110, 111, 112, 113, 114, 115, 116, 117, 118, 119, 120, 121, 122]))) [5])))
    (errES ⟨3, .non⟩ (cst (.int 0)))
    skipS)
    (seqS (dropS (callE D_read_hoist (acons (var 3) anil)))
    (seqS (fldS fx_minute (var 1))
    (seqS (fldS fx_ship (var 2))
    (seqS (fldS fx_hoist (var 3))
    (fldS fx_answered (var 4))))))))
def D_Row_init : List D → R D := runI 1 4 4 6 F_Row_init
theorem k_Row_init (T : Txt P w K mg base a) : MkD P w K mg base (gm K w a xs) 4 1 "Row" 4 D_Row_init := by
  obtain ⟨oc0, od0, kV0, doc0, pm0, an0, cdv0, ct0, osl0, lk0, cd0, kp0, bd0⟩ := T.l_told
  exact mkD_C (G := gm K w a xs) (c := 1) T.e_Row_init sc_Row_init T.mk_Row T.g_Row rfl rfl rfl fun A outer s H E hr =>
    (dss_cons (ds_if (dt_w (dw_or (dt_not (dt_chain (op_le_d) (op_lt_d) (DE.p de_int) (DE.p (de_var 1)) (DE.p de_int))) (dw_or1 (dt_w (dw_and (dt_notN (DE.p (de_var 4))) (dw_and1 (dt_not (dt_chain (op_le_d) (op_lt_d) (DE.p (de_var 1)) (DE.p (de_var 4)) (DE.p de_int)))))))))
    (dss_one (ds_raiseS 3 takes_cxD rfl T.s_BadText rfl (hr.mono (by decide)) T.x_BadText de_int))
    dss_nil)
    (dss_cons (ds_if (dt_w (dw_or (dt_cmp (op_eq_d rfl (huD64 hr)) (DE.p (de_var 2)) (DE.p (de_str []))) (dw_or1 (dt_val (de_any (k := 0) (own := [("sign", 5)]) (hr.mono (by decide)) rfl T.b_any (mk_def T.tb_Row_init rfl tm_Row_init) sc_Row_init.nd (DI.e (di_str (de_var 2))) (blkOk_by (N := ["self", "minute", "ship", "hoist", "answered", "sign"]) (sc := defScope s_Row_init) (by decide +kernel)) (genOk_by (by decide +kernel)) (fun _ _ _ _ _ _ _ _ hrg mk1_ => (dg_name 5 sc_Row_init.nd)) (fun _ _ _ _ _ _ _ _ hrg mk1_ => dts_nil) (fun _ _ _ _ _ _ _ _ hrg mk1_ => (de_cmp (op_notin_d rfl (huD hrg)) (DE.p (de_var 5)) (DE.p (de_str [97, 98, 99, 100, 101, 102, 103, 104, 105, 106, 107, 108, 109, 110, 111, 112, 113, 114, 115, 116, 117, 118, 119, 120, 121, 122])))) (by decide))))))
    (dss_one (ds_raiseS 3 takes_cxD rfl T.s_BadText rfl (hr.mono (by decide)) T.x_BadText de_int))
    dss_nil)
    (dss_cons (ds_expr (de_call (k_read_hoist T) (hr.mono (by decide)) takes_cxD (da_cons (de_var 3) da_nil)))
    (dss_cons (ds_field (fo_minute T) hsz (de_var 1))
    (dss_cons (ds_field (fo_ship T) hsz (de_var 2))
    (dss_cons (ds_field (fo_hoist T) hsz (de_var 3))
    (dss_one (ds_field (fo_answered T) hsz (de_var 4)))))))))
def F_minute_of : LE → R Out :=
    (seqS (ifS (orT (cmpT neD (callE lenX (acons (var 0) anil)) (cst (.int 4))) (valT (anyE true (itS (var 0)) (gN 1) yesT (opE notInD (var 1) (cst (.str [48, 49, 50, 51, 52, 53, 54, 55, 56, 57]))) [1])))
    (errES ⟨3, .non⟩ (cst (.int 0)))
    skipS)
    (seqS (ifS (orT (cmpT gtD (callE intY (acons (sliceE (var 0) noP (someP (cst (.int 2)))) anil)) (cst (.int 23))) (cmpT gtD (callE intY (acons (sliceE (var 0) (someP (cst (.int 2))) noP) anil)) (cst (.int 59))))
    (errES ⟨3, .non⟩ (cst (.int 0)))
    skipS)
    (retS (opE addD (opE mulD (cst (.int 60)) (callE intY (acons (sliceE (var 0) noP (someP (cst (.int 2)))) anil))) (callE intY (acons (sliceE (var 0) (someP (cst (.int 2))) noP) anil))))))
def D_minute_of : List D → R D := runF 1 2 F_minute_of
theorem k_minute_of (T : Txt P w K mg base a) : FnD P w K mg base (gm K w a xs) 2 "minute_of" a.f_minute_of 1 D_minute_of := by
  obtain ⟨oc0, od0, kV0, doc0, pm0, an0, cdv0, ct0, osl0, lk0, cd0, kp0, bd0⟩ := T.l_told
  exact fnD_C T.e_minute_of sc_minute_of T.g_minute_of rfl rfl fun A outer s H E hr =>
    (dss_cons (ds_if (dt_w (dw_or (dt_cmp (op_ne_d rfl (huD64 hr)) (DE.p (de_callB (cd_lenX rfl) T.b_len rfl (dap_cons (DE.p (de_var 0)) dap_nil))) (DE.p de_int)) (dw_or1 (dt_val (de_any (k := 0) (own := [("sign", 1)]) (hr.mono (by decide)) rfl T.b_any (mk_def T.tb_minute_of rfl tm_minute_of) sc_minute_of.nd (DI.e (di_str (de_var 0))) (blkOk_by (N := ["text", "sign"]) (sc := defScope s_minute_of) (by decide +kernel)) (genOk_by (by decide +kernel)) (fun _ _ _ _ _ _ _ _ hrg mk1_ => (dg_name 1 sc_minute_of.nd)) (fun _ _ _ _ _ _ _ _ hrg mk1_ => dts_nil) (fun _ _ _ _ _ _ _ _ hrg mk1_ => (de_cmp (op_notin_d rfl (huD hrg)) (DE.p (de_var 1)) (DE.p (de_str [48, 49, 50, 51, 52, 53, 54, 55, 56, 57])))) (by decide))))))
    (dss_one (ds_raiseS 3 takes_cxD rfl T.s_BadText rfl (hr.mono (by decide)) T.x_BadText de_int))
    dss_nil)
    (dss_cons (ds_if (dt_w (dw_or (dt_cmp (op_gt_d) (DE.p (de_callT (cd_intY) T.b_int rfl (dap_cons (DE.p (de_slice rfl (DE.p (de_var 0)) do_none (do_some (DE.p de_int)))) dap_nil))) (DE.p de_int)) (dw_or1 (dt_cmp (op_gt_d) (DE.p (de_callT (cd_intY) T.b_int rfl (dap_cons (DE.p (de_slice rfl (DE.p (de_var 0)) (do_some (DE.p de_int)) do_none)) dap_nil))) (DE.p de_int)))))
    (dss_one (ds_raiseS 3 takes_cxD rfl T.s_BadText rfl (hr.mono (by decide)) T.x_BadText de_int))
    dss_nil)
    (dss_one (ds_ret (de_op (op_add_d rfl) (DE.p (de_op (op_mul_d) (DE.p de_int) (DE.p (de_callT (cd_intY) T.b_int rfl (dap_cons (DE.p (de_slice rfl (DE.p (de_var 0)) do_none (do_some (DE.p de_int)))) dap_nil))))) (DE.p (de_callT (cd_intY) T.b_int rfl (dap_cons (DE.p (de_slice rfl (DE.p (de_var 0)) (do_some (DE.p de_int)) do_none)) dap_nil))))))))
def F_read_log_row : LE → R Out :=
    (seqS (setK 1 (valK (bmE "str" splitD (var 0) (acons (cst (.str [32])) anil))))
    (seqS (ifS (cmpT eqD (callE lenX (acons (var 1) anil)) (cst (.int 3)))
    (retS (callE D_Row_init (acons (callE D_minute_of (acons (subE (var 1) (cst (.int 0))) anil)) (acons (subE (var 1) (cst (.int 1))) (acons (subE (var 1) (cst (.int 2))) (acons (cst .non) anil))))))
    skipS)
    (seqS (ifS (orT (cmpT neD (callE lenX (acons (var 1) anil)) (cst (.int 5))) (cmpT neD (subE (var 1) (cst (.int 3))) (cst (.str [97, 110, 115, 119, 101, 114, 101, 100]))))
    (errES ⟨3, .non⟩ (cst (.int 0)))
    skipS)
    (retS (callE D_Row_init (acons (callE D_minute_of (acons (subE (var 1) (cst (.int 0))) anil)) (acons (subE (var 1) (cst (.int 1))) (acons (subE (var 1) (cst (.int 2))) (acons (callE D_minute_of (acons (subE (var 1) (cst (.int 4))) anil)) anil)))))))))
def D_read_log_row : List D → R D := runF 1 2 F_read_log_row
theorem k_read_log_row (T : Txt P w K mg base a) : FnD P w K mg base (gm K w a xs) 6 "read_log_row" a.f_read_log_row 1 D_read_log_row := by
  exact fnD_E T.e_read_log_row sc_read_log_row T.g_read_log_row rfl rfl fun cdv A outer s H E hr =>
    (dss_cons (ds_set 1 (DE.k (de_bm (bm_split) rfl (DE.p (de_var 0)) (dap_cons (DE.p (de_str [32])) dap_nil))) (by decide) sc_read_log_row.nd)
    (dss_cons (ds_if (dt_cmp (op_eq_d rfl (huD64 hr)) (DE.p (de_callB (cd_lenX rfl) T.b_len rfl (dap_cons (DE.p (de_var 1)) dap_nil))) (DE.p de_int))
    (dss_one (ds_ret (de_make (k_Row_init T) (hr.mono (by decide)) takes_cxD (da_cons (de_call (k_minute_of T) (hr.mono (by decide)) takes_cxD (da_cons (de_sub rfl rfl (huD hr) (DE.p (de_var 1)) (DE.p de_int) fun _ _ => rfl) da_nil)) (da_cons (de_sub rfl rfl (huD hr) (DE.p (de_var 1)) (DE.p de_int) fun _ _ => rfl) (da_cons (de_sub rfl rfl (huD hr) (DE.p (de_var 1)) (DE.p de_int) fun _ _ => rfl) (da_cons de_non da_nil)))))))
    dss_nil)
    (dss_cons (ds_if (dt_w (dw_or (dt_cmp (op_ne_d rfl (huD64 hr)) (DE.p (de_callB (cd_lenX rfl) T.b_len rfl (dap_cons (DE.p (de_var 1)) dap_nil))) (DE.p de_int)) (dw_or1 (dt_cmp (op_ne_d rfl (huD64 hr)) (DE.p (de_sub rfl rfl (huD hr) (DE.p (de_var 1)) (DE.p de_int) fun _ _ => rfl)) (DE.p (de_str [97, 110, 115, 119, 101, 114, 101, 100]))))))
    (dss_one (ds_raiseS 3 takes_cxD rfl T.s_BadText rfl (hr.mono (by decide)) T.x_BadText de_int))
    dss_nil)
    (dss_one (ds_ret (de_make (k_Row_init T) (hr.mono (by decide)) takes_cxD (da_cons (de_call (k_minute_of T) (hr.mono (by decide)) takes_cxD (da_cons (de_sub rfl rfl (huD hr) (DE.p (de_var 1)) (DE.p de_int) fun _ _ => rfl) da_nil)) (da_cons (de_sub rfl rfl (huD hr) (DE.p (de_var 1)) (DE.p de_int) fun _ _ => rfl) (da_cons (de_sub rfl rfl (huD hr) (DE.p (de_var 1)) (DE.p de_int) fun _ _ => rfl) (da_cons (de_call (k_minute_of T) (hr.mono (by decide)) takes_cxD (da_cons (de_sub rfl rfl (huD hr) (DE.p (de_var 1)) (DE.p de_int) fun _ _ => rfl) da_nil)) da_nil))))))))))
def F_read_log : LE → R Out :=
    (seqS (setK 1 (ownK (lstE anil)))
    (seqS (forS (enumQE (acons (iteE (cmpT eqD (var 0) (cst (.str []))) (lE (lstE anil)) (bmE "str" splitD (var 0) (acons (cst (.str [10])) anil))) anil)) (gTup_ 2 (gCons_ (gN 2) (gCons_ (gN 3) gNil_)))
    (seqS (tryUS 0 excL
    (appS 1 (callE D_read_log_row (acons (var 3) anil))) [(0, (errES ⟨3, .non⟩ (var 2)))])
    (ifS (andT (cmpT gtD (var 2) (cst (.int 0))) (cmpT ltD (fldE fx_minute (subE (varP 1) (var 2))) (fldE fx_minute (subE (varP 1) (opE subD (var 2) (cst (.int 1)))))))
    (errES ⟨3, .non⟩ (var 2))
    skipS)))
    (frzS 1 (retS (callE D_Log_init (acons (var 1) anil))))))
def D_read_log : List D → R D := runF 1 4 F_read_log
theorem k_read_log (T : Txt P w K mg base a) : FnD P w K mg base (gm K w a xs) 7 "read_log" a.f_read_log 1 D_read_log := by
  exact fnD_E T.e_read_log sc_read_log T.g_read_log rfl rfl fun cdv A outer s H E hr =>
    (dss_cons (ds_set 1 (DF.k (df_lst da_nil)) (by decide) sc_read_log.nd)
    (dss_cons (ds_for owns_cxD rfl (di_enum2 rfl rfl T.b_enumerate (da_cons (de_if (dt_cmp (op_eq_d rfl (huD64 hr)) (DE.p (de_var 0)) (DE.p (de_str []))) (DF.e (df_lst da_nil)) (de_bm (bm_split) rfl (DE.p (de_var 0)) (dap_cons (DE.p (de_str [10])) dap_nil))) da_nil)) (dg_tup rfl rfl (dgs_cons (dg_name 2 sc_read_log.nd) (dgs_cons (dg_name 3 sc_read_log.nd) dgs_nil)))
    (dss_cons (ds_tryU 0 excL (l := [(0, (errES ⟨3, .non⟩ (var 2)))]) (T.sub _) (by decide) rfl rfl (L2H.passesAt_of rfl) takes_cxD (fun _ _ _ tk1 ow1 => (dss_one (ds_append 1 (de_call (k_read_log_row T) (hr.mono (by decide)) tk1 (da_cons (de_var 3) da_nil))))) (hds_cons (G := gm K w a _) (i := 0) rfl T.x_FlagFault.2.1 (fun _ _ hot1 tkh1 => (dss_one (ds_raiseSH 3 tkh1 hot1 T.s_BadText rfl (L2H.roomH_mark (hr.mono (by decide)) _) T.x_BadText (de_var 2)))) hds_nil))
    (dss_one (ds_if (dt_w (dw_and (dt_cmp (op_gt_d) (DE.p (de_var 2)) (DE.p de_int)) (dw_and1 (dt_cmp (op_lt_d) (DE.p (de_fld (fo_minute T) (de_sub rfl rfl (huD hr) (dp_var 1) (DE.p (de_var 2)) fun _ _ => rfl))) (DE.p (de_fld (fo_minute T) (de_sub rfl rfl (huD hr) (dp_var 1) (DE.p (de_op (op_sub_d) (DE.p (de_var 2)) (DE.p de_int))) fun _ _ => rfl)))))))
    (dss_one (ds_raiseS 3 takes_cxD rfl T.s_BadText rfl (hr.mono (by decide)) T.x_BadText (de_var 2)))
    dss_nil))))
    (dss_one (DS.frz_ 1 (ds_ret (de_make (k_Log_init T) (hr.mono (by decide)) takes_cxD (da_cons (de_var 1) da_nil)))))))
def F_Log_answered_by : LE → R Out :=
    (seqS (ifS (orT (notT (chainT (cst (.int 0)) (var 1) (callE lenX (acons (fldE fx_rows (var 0)) anil)) leD ltD)) (valT (notNE (fldE fx_answered (subE (fldE fx_rows (var 0)) (var 1))))))
    (errES ⟨3, .non⟩ (var 1))
    skipS)
    (seqS (setK 3 (valK (subE (fldE fx_rows (var 0)) (var 1))))
    (seqS (setK 4 (valK (callE D_Row_init (acons (fldE fx_minute (var 3)) (acons (fldE fx_ship (var 3)) (acons (fldE fx_hoist (var 3)) (acons (var 2) anil)))))))
    (retS (callE D_Log_init (acons (opE addD (opE addD (sliceE (fldE fx_rows (var 0)) noP (someP (var 1))) (tupE (acons (var 4) anil))) (sliceE (fldE fx_rows (var 0)) (someP (opE addD (var 1) (cst (.int 1)))) noP)) anil))))))
def D_Log_answered_by : List D → R D := runF 3 5 F_Log_answered_by
theorem k_Log_answered_by (T : Txt P w K mg base a) : MeD P w K mg base (gm K w a xs) 6 2 "answered_by" 3 D_Log_answered_by := by
  exact meD_E (G := gm K w a xs) (c := 2) T.e_Log_answered_by sc_Log_answered_by T.mt_Log_answered_by T.c_Log (show ("answered_by" : Str) ∉ (["rows"] : List Str) by decide +kernel) rfl rfl fun cdv A outer s H E hr =>
    (dss_cons (ds_if (dt_w (dw_or (dt_not (dt_chain (op_le_d) (op_lt_d) (DE.p de_int) (DE.p (de_var 1)) (DE.p (de_callB (cd_lenX rfl) T.b_len rfl (dap_cons (DE.p (de_fld (fo_rows T) (de_var 0))) dap_nil))))) (dw_or1 (dt_notN (DE.p (de_fld (fo_answered T) (de_sub rfl rfl (huD hr) (DE.p (de_fld (fo_rows T) (de_var 0))) (DE.p (de_var 1)) fun _ _ => rfl)))))))
    (dss_one (ds_raiseS 3 takes_cxD rfl T.s_BadText rfl (hr.mono (by decide)) T.x_BadText (de_var 1)))
    dss_nil)
    (dss_cons (ds_set 3 (DE.k (de_sub rfl rfl (huD hr) (DE.p (de_fld (fo_rows T) (de_var 0))) (DE.p (de_var 1)) fun _ _ => rfl)) (by decide) sc_Log_answered_by.nd)
    (dss_cons (ds_set 4 (DE.k (de_make (k_Row_init T) (hr.mono (by decide)) takes_cxD (da_cons (de_fld (fo_minute T) (de_var 3)) (da_cons (de_fld (fo_ship T) (de_var 3)) (da_cons (de_fld (fo_hoist T) (de_var 3)) (da_cons (de_var 2) da_nil)))))) (by decide) sc_Log_answered_by.nd)
    (dss_one (ds_ret (de_make (k_Log_init T) (hr.mono (by decide)) takes_cxD (da_cons (de_op (op_add_d rfl) (DE.p (de_op (op_add_d rfl) (DE.p (de_slice rfl (DE.p (de_fld (fo_rows T) (de_var 0))) do_none (do_some (DE.p (de_var 1))))) (DE.p (de_tup (da_cons (de_var 4) da_nil))))) (DE.p (de_slice rfl (DE.p (de_fld (fo_rows T) (de_var 0))) (do_some (DE.p (de_op (op_add_d rfl) (DE.p (de_var 1)) (DE.p de_int)))) do_none))) da_nil)))))))
def F_Tally_unanswered : LE → R Out :=
    (retS (callE tupleD (acons (lE (compF (rng1E (acons (callE lenX (acons (fldE fx_rows (var 0)) anil)) anil)) (gN 1) (valT (isNE (subE (subE (fldE fx_rows (var 0)) (var 1)) (cst (.int 2))))) (var 1) [1])) anil)))
def D_Tally_unanswered : List D → R D := runF 1 2 F_Tally_unanswered
theorem k_Tally_unanswered (T : Txt P w K mg base a) : MeD P w K mg base (gm K w a xs) 1 0 "unanswered" 1 D_Tally_unanswered := by
  exact meD_E (G := gm K w a xs) (c := 0) T.e_Tally_unanswered sc_Tally_unanswered T.mt_Tally_unanswered T.c_Tally (show ("unanswered" : Str) ∉ (["rows"] : List Str) by decide +kernel) rfl rfl fun cdv A outer s H E hr =>
    (dss_one (ds_ret (de_callT (cd_tuple rfl) T.b_tuple rfl (dap_cons (DE.p (DF.e (df_comp (own := [("k", 1)]) rfl sc_Tally_unanswered.nd (DI.e (di_rng1 rfl T.b_range (da_cons (de_callB (cd_lenX rfl) T.b_len rfl (dap_cons (DE.p (de_fld (fo_rows T) (de_var 0))) dap_nil)) da_nil))) (blkOk_by (N := ["self", "k"]) (sc := defScope s_Tally_unanswered) (by decide +kernel)) (fun _ _ _ _ _ => (dg_name 1 sc_Tally_unanswered.nd)) (fun _ _ _ _ _ => (dts_one (dt_isN (DE.p (de_sub rfl rfl (huD hr) (DE.p (de_sub rfl rfl (huD hr) (DE.p (de_fld (fo_rows T) (de_var 0))) (DE.p (de_var 1)) fun _ _ => rfl)) (DE.p de_int) fun _ _ => rfl))))) (fun _ _ _ _ _ => (de_var 1)) (by decide)))) dap_nil))))
def F_Tally_init : LE → R Out :=
    (seqS (ifS (valT (anyE true (rng2E (acons (cst (.int 1)) (acons (callE lenX (acons (var 1) anil)) anil))) (gN 2) yesT (opE ltD (subE (subE (var 1) (var 2)) (cst (.int 0))) (subE (subE (var 1) (opE subD (var 2) (cst (.int 1)))) (cst (.int 0)))) [2]))
    (errS ⟨2, .non⟩)
    skipS)
    (seqS (forS (itB (var 1)) (gTup_ 3 (gCons_ (gN 3) (gCons_ (gN 4) (gCons_ (gN 5) gNil_))))
    (ifS (orT (cmpT ltD (var 3) (cst (.int 0))) (orT (cmpT eqD (var 4) (cst (.str []))) (andT (valT (notNE (var 5))) (cmpT ltD (var 5) (var 3)))))
    (errS ⟨2, .non⟩)
    skipS))
    (fldS fx_rows (callE tupleD (acons (var 1) anil)))))
def D_Tally_init : List D → R D := runI 0 1 1 6 F_Tally_init
theorem k_Tally_init (T : Txt P w K mg base a) : MkD P w K mg base (gm K w a xs) 2 0 "Tally" 1 D_Tally_init := by
  obtain ⟨oc0, od0, kV0, doc0, pm0, an0, cdv0, ct0, osl0, lk0, cd0, kp0, bd0⟩ := T.l_told
  exact mkD_C (G := gm K w a xs) (c := 0) T.e_Tally_init sc_Tally_init T.mk_Tally T.g_Tally rfl rfl rfl fun A outer s H E hr =>
    (dss_cons (ds_if (dt_val (de_any (k := 0) (own := [("k", 2)]) (hr.mono (by decide)) rfl T.b_any (mk_def T.tb_Tally_init rfl tm_Tally_init) sc_Tally_init.nd (DI.e (di_rng2 rfl T.b_range (da_cons de_int (da_cons (de_callB (cd_lenX rfl) T.b_len rfl (dap_cons (DE.p (de_var 1)) dap_nil)) da_nil)))) (blkOk_by (N := ["self", "rows", "k", "minute", "hoist", "answered"]) (sc := defScope s_Tally_init) (by decide +kernel)) (genOk_by (by decide +kernel)) (fun _ _ _ _ _ _ _ _ hrg mk1_ => (dg_name 2 sc_Tally_init.nd)) (fun _ _ _ _ _ _ _ _ hrg mk1_ => dts_nil) (fun _ _ _ _ _ _ _ _ hrg mk1_ => (de_cmp (op_lt_d) (DE.p (de_sub rfl rfl (huD hrg) (DE.p (de_sub rfl rfl (huD hrg) (DE.p (de_var 1)) (DE.p (de_var 2)) fun _ _ => rfl)) (DE.p de_int) fun _ _ => rfl)) (DE.p (de_sub rfl rfl (huD hrg) (DE.p (de_sub rfl rfl (huD hrg) (DE.p (de_var 1)) (DE.p (de_op (op_sub_d) (DE.p (de_var 2)) (DE.p de_int))) fun _ _ => rfl)) (DE.p de_int) fun _ _ => rfl)))) (by decide)))
    (dss_one (ds_raise 2 takes_cxD rfl PySem.F.excBase_ValueError rfl rfl T.x_BadBook.1 T.x_BadBook.2.1 T.x_BadBook.2.2.1 (raises_own T.x_BadBook.2.2.2.1 T.x_BadBook.2.2.2.2)))
    dss_nil)
    (dss_cons (ds_for owns_cxD rfl (di_anyB rfl (de_var 1)) (dg_tup rfl rfl (dgs_cons (dg_name 3 sc_Tally_init.nd) (dgs_cons (dg_name 4 sc_Tally_init.nd) (dgs_cons (dg_name 5 sc_Tally_init.nd) dgs_nil))))
    (dss_one (ds_if (dt_w (dw_or (dt_cmp (op_lt_d) (DE.p (de_var 3)) (DE.p de_int)) (dw_or (dt_cmp (op_eq_d rfl (huD64 hr)) (DE.p (de_var 4)) (DE.p (de_str []))) (dw_or1 (dt_w (dw_and (dt_notN (DE.p (de_var 5))) (dw_and1 (dt_cmp (op_lt_d) (DE.p (de_var 5)) (DE.p (de_var 3))))))))))
    (dss_one (ds_raise 2 takes_cxD rfl PySem.F.excBase_ValueError rfl rfl T.x_BadBook.1 T.x_BadBook.2.1 T.x_BadBook.2.2.1 (raises_own T.x_BadBook.2.2.2.1 T.x_BadBook.2.2.2.2)))
    dss_nil)))
    (dss_one (ds_field (fo_rows T) hsz (de_callT (cd_tuple rfl) T.b_tuple rfl (dap_cons (DE.p (de_var 1)) dap_nil))))))
def F_Log_tally : LE → R Out :=
    (retS (callE D_Tally_init (acons (lE (compF (itT (fldE fx_rows (var 0))) (gN 1) yesT (tupE (acons (fldE fx_minute (var 1)) (acons (fldE fx_hoist (var 1)) (acons (fldE fx_answered (var 1)) anil)))) [1])) anil)))
def D_Log_tally : List D → R D := runF 1 2 F_Log_tally
theorem k_Log_tally (T : Txt P w K mg base a) : MeD P w K mg base (gm K w a xs) 4 2 "tally" 1 D_Log_tally := by
  exact meD_E (G := gm K w a xs) (c := 2) T.e_Log_tally sc_Log_tally T.mt_Log_tally T.c_Log (show ("tally" : Str) ∉ (["rows"] : List Str) by decide +kernel) rfl rfl fun cdv A outer s H E hr =>
    (dss_one (ds_ret (de_make (k_Tally_init T) (hr.mono (by decide)) takes_cxD (da_cons (DF.e (df_comp (own := [("row", 1)]) rfl sc_Log_tally.nd (DI.e (di_tup rfl (de_fld (fo_rows T) (de_var 0)))) (blkOk_by (N := ["self", "row"]) (sc := defScope s_Log_tally) (by decide +kernel)) (fun _ _ _ _ _ => (dg_name 1 sc_Log_tally.nd)) (fun _ _ _ _ _ => dts_nil) (fun _ _ _ _ _ => (de_tup (da_cons (de_fld (fo_minute T) (de_var 1)) (da_cons (de_fld (fo_hoist T) (de_var 1)) (da_cons (de_fld (fo_answered T) (de_var 1)) da_nil))))) (by decide))) da_nil))))
def F_Log_words_made : LE → R Out :=
    (retS (callE tupleD (acons (lE (compF (itT (fldE fx_rows (var 0))) (gN 1) yesT (callE D_read_hoist (acons (fldE fx_hoist (var 1)) anil)) [1])) anil)))
def D_Log_words_made : List D → R D := runF 1 2 F_Log_words_made
theorem k_Log_words_made (T : Txt P w K mg base a) : MeD P w K mg base (gm K w a xs) 4 2 "words_made" 1 D_Log_words_made := by
  exact meD_E (G := gm K w a xs) (c := 2) T.e_Log_words_made sc_Log_words_made T.mt_Log_words_made T.c_Log (show ("words_made" : Str) ∉ (["rows"] : List Str) by decide +kernel) rfl rfl fun cdv A outer s H E hr =>
    (dss_one (ds_ret (de_callT (cd_tuple rfl) T.b_tuple rfl (dap_cons (DE.p (DF.e (df_comp (own := [("row", 1)]) rfl sc_Log_words_made.nd (DI.e (di_tup rfl (de_fld (fo_rows T) (de_var 0)))) (blkOk_by (N := ["self", "row"]) (sc := defScope s_Log_words_made) (by decide +kernel)) (fun _ _ _ _ _ => (dg_name 1 sc_Log_words_made.nd)) (fun _ _ _ _ _ => dts_nil) (fun _ _ _ _ _ => (de_call (k_read_hoist T) (hr.mono (by decide)) takes0D (da_cons (de_fld (fo_hoist T) (de_var 1)) da_nil))) (by decide)))) dap_nil))))
def F_Desk_judged : LE → R Out :=
    (seqS (setK 1 (valK (callE D_read_log (acons (fldE fx_shown (var 0)) anil))))
    (retS (tupE (acons (callE lenX (acons (fldE fx_rows (var 1)) anil)) (acons (meth0E 0 D_Tally_unanswered (meth0E 2 D_Log_tally (var 1))) (acons (meth0E 2 D_Log_words_made (var 1)) anil))))))
def D_Desk_judged : List D → R D := runF 1 2 F_Desk_judged
theorem k_Desk_judged (T : Txt P w K mg base a) : MeD P w K mg base (gm K w a xs) 8 3 "judged" 1 D_Desk_judged := by
  exact meD_E (G := gm K w a xs) (c := 3) T.e_Desk_judged sc_Desk_judged T.mt_Desk_judged T.c_Desk (show ("judged" : Str) ∉ (["shown", "deeds", "undone"] : List Str) by decide +kernel) rfl rfl fun cdv A outer s H E hr =>
    (dss_cons (ds_set 1 (DE.k (de_call (k_read_log T) (hr.mono (by decide)) takes_cxD (da_cons (de_fld (fo_shown T) (de_var 0)) da_nil))) (by decide) sc_Desk_judged.nd)
    (dss_one (ds_ret (de_tup (da_cons (de_callB (cd_lenX rfl) T.b_len rfl (dap_cons (DE.p (de_fld (fo_rows T) (de_var 1))) dap_nil)) (da_cons (de_meth0 (k_Tally_unanswered T) (hr.mono (by decide)) takes_cxD (de_meth0 (k_Log_tally T) (hr.mono (by decide)) takes_cxD (de_var 1))) (da_cons (de_meth0 (k_Log_words_made T) (hr.mono (by decide)) takes_cxD (de_var 1)) da_nil)))))))
def shD : List Nat := [48, 56, 48, 48, 32, 108, 97, 114, 107, 32, 97, 98]
theorem kOk {X : Cx} (T : Txt P w X.K mg base a) : KOk X (gm X.K w a xs) 3 fx_shown fx_deeds fx_undone := ⟨fo_shown T, fo_deeds T, fo_undone T, rfl, rfl, rfl, rfl, fun _ => rfl⟩
theorem ok_Desk_init (T : Txt P w K mg base a) : ∃ fd ps, FnOk P w K mg base (LG.CX P w) 1 a.f_Desk_init fd ps (spN (gm K w a xs) 3 shD) ∧ L2.Binds K fd ps [] := by
  obtain ⟨fd, Fn, bd⟩ := T.e_Desk_init
  exact ⟨fd, _, fnOk_N (k := 0) Fn sc_Desk_init rfl (by decide) (fun cdv A outer s H E hr => pss_init (kOk T) rfl rfl (Or.inl rfl) rfl rfl rfl), bd⟩
theorem nfl {m : Str} (h : m ∉ (["shown", "deeds", "undone"] : List Str) := by decide +kernel) : m ∉ flds 3 := h
theorem ke_Desk_undo (T : Txt P w K mg base a) : KeD P w K mg base (gm K w a xs) 1 3 "undo" 0 (fun _ S => undoK 4 S) := by
  obtain ⟨fd, Fn, bd⟩ := T.e_Desk_undo
  exact keD_of (F := fun _ S => undoK 4 S) (fun _ => rfl) rfl Fn sc_Desk_undo bd T.mt_Desk_undo T.c_Desk nfl rfl rfl (fun p q ds S h => rfl) (fun cdv A outer s H E hr => pss_undo (i := 1) (n := 2) (kOk T) rfl (huD64 hr)
    (dss_one (ds_raise 4 takes_cxD rfl PySem.F.excBase_ValueError rfl rfl T.x_BadDeed.1 T.x_BadDeed.2.1 T.x_BadDeed.2.2.1 (raises_own T.x_BadDeed.2.2.2.1 T.x_BadDeed.2.2.2.2)))
    rfl (by decide) (by decide) sc_Desk_undo.nd rfl (Or.inl rfl) (Or.inl rfl) (Or.inl rfl) (Or.inl rfl) (by decide) (by decide) rfl rfl rfl rfl rfl rfl rfl rfl rfl rfl rfl rfl)
theorem ke_Desk_redo (T : Txt P w K mg base a) : KeD P w K mg base (gm K w a xs) 1 3 "redo" 0 (fun _ S => redoK 4 S) := by
  obtain ⟨fd, Fn, bd⟩ := T.e_Desk_redo
  exact keD_of (F := fun _ S => redoK 4 S) (fun _ => rfl) rfl Fn sc_Desk_redo bd T.mt_Desk_redo T.c_Desk nfl rfl rfl (fun p q ds S h => rfl) (fun cdv A outer s H E hr => pss_redo (i := 1) (n := 2) (kOk T) rfl (huD64 hr)
    (dss_one (ds_raise 4 takes_cxD rfl PySem.F.excBase_ValueError rfl rfl T.x_BadDeed.1 T.x_BadDeed.2.1 T.x_BadDeed.2.2.1 (raises_own T.x_BadDeed.2.2.2.1 T.x_BadDeed.2.2.2.2)))
    rfl (by decide) (by decide) sc_Desk_redo.nd rfl (Or.inl rfl) (Or.inl rfl) (Or.inl rfl) (Or.inl rfl) (by decide) (by decide) rfl rfl rfl rfl rfl rfl rfl rfl rfl rfl rfl rfl)
def note1 : List D → KS → R KS := fun ds S => match ds with
  | [.str t] => noteK 4 t S
  | _ => .stuck
theorem note_hv (r : LE) (S : KS) (t : List Nat) (h0 : r[0]? = some (.own (.ins 3 (frzL S)))) (h1 : r[1]? = some (.val (.str t))) (hl : t.length ≤ 16777216) :
    (orT (cmpT eqD (var 1) (sfldD fx_shown)) (cmpT gtD (callE lenX (acons (var 1) anil)) (cst (.int 900)))) r = .ok (noteB t S.sh) := by
  have e1 : var 1 r = .ok (.str t) := by unfold var; rw [h1]
  have e2 : sfldD fx_shown r = .ok (.str S.sh) := by
    unfold sfldD
    rw [h0]
    exact fldD_at (j := 0) rfl rfl
  have e3 : cmpT eqD (var 1) (sfldD fx_shown) r = .ok (t == S.sh) := by
    unfold cmpT
    rw [e1, e2]
    rfl
  have e4 : cmpT gtD (callE lenX (acons (var 1) anil)) (cst (.int 900)) r = .ok (decide (900 < t.length)) := by
    unfold cmpT callE acons
    rw [e1]
    show (do let x ← lenX [.str t]; let y ← cst (.int 900) r; gtD x y) >>= asB = _
    have : lenX [.str t] = .ok (.int t.length) := by
      show (if t.length ≤ 16777216 then R.ok (D.int t.length) else .stuck) = _
      rw [if_pos hl]
    rw [this]
    show R.ok (decide ((900 : Int) < (t.length : Int))) = _
    congr 1
    exact decide_eq_decide.mpr (by omega)
  unfold orT noteB
  rw [e3]
  show (if (t == S.sh) = true then R.ok true else cmpT gtD (callE lenX (acons (var 1) anil)) (cst (.int 900)) r) = _
  rw [e4]
  cases (t == S.sh) <;> rfl
theorem ke_Desk_note (T : Txt P w K mg base a) : KeD P w K mg base (gm K w a xs) 1 3 "note" 1 note1 := by
  obtain ⟨fd, Fn, bd⟩ := T.e_Desk_note
  refine keD_of (F := noteS 4) (fun _ => rfl) rfl Fn sc_Desk_note bd T.mt_Desk_note T.c_Desk nfl rfl rfl (fun p q ds S h => ?_) (fun cdv A outer s H E hr => pss_note (n := 2) (kOk T)
    (dt_w (dw_or (dt_cmp (op_eq_d rfl (huD64 hr)) (DE.p (de_var 1)) (DE.p (de_sfld (fo_shown T)))) (dw_or1 (dt_cmp (op_gt_d) (DE.p (de_callB (cd_lenX rfl) T.b_len rfl (dap_cons (DE.p (de_var 1)) dap_nil))) (DE.p de_int)))))
    note_hv (dss_one (ds_raise 4 takes_cxD rfl PySem.F.excBase_ValueError rfl rfl T.x_BadDeed.1 T.x_BadDeed.2.1 T.x_BadDeed.2.2.1 (raises_own T.x_BadDeed.2.2.2.1 T.x_BadDeed.2.2.2.2)))
    sc_Desk_note.nd rfl (Or.inl rfl) rfl (Or.inl rfl) (by decide) (by decide) rfl rfl rfl rfl rfl rfl rfl rfl rfl rfl rfl)
  match ds, h with
  | [d], _ => cases d <;> rfl
abbrev E_tell : LE → R D := meth0E 2 D_Log_said (methE 2 D_Log_with_log_row (callE D_read_log (acons (sfldD fx_shown) anil)) (acons (callE D_read_log_row (acons (var 1) anil)) anil))
def tellK : List D → KS → R KS := fun ds S => match ds with
  | [d] => tryK 4 excL S (E_tell [.own (.ins 3 [.str S.sh, .non, .non]), .val d, .un])
  | _ => .stuck
theorem ke_Desk_tell (T : Txt P w K mg base a) : KeD P w K mg base (gm K w a xs) 8 3 "tell" 1 tellK := by
  obtain ⟨fd, Fn, bd⟩ := T.e_Desk_tell
  refine keD_of (F := preN 4 (seqS (tryUS 0 excL (setK 2 (valK E_tell)) [(0, (errS ⟨4, .non⟩))]) skipS) (var 2)) (fun _ => rfl) rfl Fn sc_Desk_tell bd T.mt_Desk_tell T.c_Desk nfl rfl rfl (fun p q ds S h => ?_) (fun cdv A outer s H E hr => pss_preN (ppn_cons (fun _ => rfl)
    (ds_tryU 0 excL (l := [(0, (errS ⟨4, .non⟩))]) (T.sub _) (by decide) rfl rfl (L2H.passesAt_of rfl) takes_cxD (fun _ _ _ tk1 ow1 => (dss_one (ds_set 2 (DE.k (de_meth0 (k_Log_said T) (hr.mono (by decide)) tk1 (de_meth (k_Log_with_log_row T) (hr.mono (by decide)) tk1 (de_call (k_read_log T) (hr.mono (by decide)) tk1 (da_cons (de_sfld (fo_shown T)) da_nil)) (da_cons (de_call (k_read_log_row T) (hr.mono (by decide)) tk1 (da_cons (de_var 1) da_nil)) da_nil)))) (by decide) sc_Desk_tell.nd))) (hds_cons (G := gm K w a _) (i := 0) rfl T.x_FlagFault.2.1 (fun _ _ hot1 tkh1 => (dss_one (ds_raiseH 4 tkh1 hot1 PySem.F.excBase_ValueError rfl rfl T.x_BadDeed.1 T.x_BadDeed.2.1 T.x_BadDeed.2.2.1 (raises_own T.x_BadDeed.2.2.2.1 T.x_BadDeed.2.2.2.2)))) hds_nil))
    (keep0_try (keep0_set (by decide))) (ppn_last (fun _ => rfl) (ke_Desk_note T) (hr.mono (by decide)) takes_cxD (de_var 2) rfl (Or.inl rfl) rfl)))
  match ds, h with
  | [d], _ => exact preN_try (r := kstart 3 p q 3 S [d]) (show 2 < 3 by decide)
abbrev E_answer : LE → R D := meth0E 2 D_Log_said (methE 2 D_Log_answered_by (callE D_read_log (acons (sfldD fx_shown) anil)) (acons (var 1) (acons (callE D_minute_of (acons (var 2) anil)) anil)))
def answerK : List D → KS → R KS := fun ds S => match ds with
  | [d, e] => tryK 4 excL S (E_answer [.own (.ins 3 [.str S.sh, .non, .non]), .val d, .val e, .un])
  | _ => .stuck
theorem ke_Desk_answer (T : Txt P w K mg base a) : KeD P w K mg base (gm K w a xs) 8 3 "answer" 2 answerK := by
  obtain ⟨fd, Fn, bd⟩ := T.e_Desk_answer
  refine keD_of (F := preN 4 (seqS (tryUS 0 excL (setK 3 (valK E_answer)) [(0, (errS ⟨4, .non⟩))]) skipS) (var 3)) (fun _ => rfl) rfl Fn sc_Desk_answer bd T.mt_Desk_answer T.c_Desk nfl rfl rfl (fun p q ds S h => ?_) (fun cdv A outer s H E hr => pss_preN (ppn_cons (fun _ => rfl)
    (ds_tryU 0 excL (l := [(0, (errS ⟨4, .non⟩))]) (T.sub _) (by decide) rfl rfl (L2H.passesAt_of rfl) takes_cxD (fun _ _ _ tk1 ow1 => (dss_one (ds_set 3 (DE.k (de_meth0 (k_Log_said T) (hr.mono (by decide)) tk1 (de_meth (k_Log_answered_by T) (hr.mono (by decide)) tk1 (de_call (k_read_log T) (hr.mono (by decide)) tk1 (da_cons (de_sfld (fo_shown T)) da_nil)) (da_cons (de_var 1) (da_cons (de_call (k_minute_of T) (hr.mono (by decide)) tk1 (da_cons (de_var 2) da_nil)) da_nil))))) (by decide) sc_Desk_answer.nd))) (hds_cons (G := gm K w a _) (i := 0) rfl T.x_FlagFault.2.1 (fun _ _ hot1 tkh1 => (dss_one (ds_raiseH 4 tkh1 hot1 PySem.F.excBase_ValueError rfl rfl T.x_BadDeed.1 T.x_BadDeed.2.1 T.x_BadDeed.2.2.1 (raises_own T.x_BadDeed.2.2.2.1 T.x_BadDeed.2.2.2.2)))) hds_nil))
    (keep0_try (keep0_set (by decide))) (ppn_last (fun _ => rfl) (ke_Desk_note T) (hr.mono (by decide)) takes_cxD (de_var 3) rfl (Or.inl rfl) rfl)))
  match ds, h with
  | [d, e], _ => exact preN_try (r := kstart 3 p q 4 S [d, e]) (show 3 < 4 by decide)
abbrev E_strike : LE → R D := fldE fx_rows (callE D_read_log (acons (sfldD fx_shown) anil))
abbrev T_strike : LE → R Bool := notT (chainT (cst (.int 0)) (var 1) (callE lenX (acons (var 2) anil)) leD ltD)
abbrev S_strike : LE → R D := meth0E 2 D_Log_said (callE D_Log_init (acons (opE addD (sliceE (var 2) noP (someP (var 1))) (sliceE (var 2) (someP (opE addD (var 1) (cst (.int 1)))) noP)) anil))
def strikeK : List D → KS → R KS := fun ds S => match ds with
  | [d] => strikeOf 4 (E_strike [.own (.ins 3 [.str S.sh, .non, .non]), .val d, .un]) (fun e => T_strike [.un, .val d, .val e]) (fun e => S_strike [.un, .val d, .val e]) S
  | _ => .stuck
theorem ke_Desk_strike_out (T : Txt P w K mg base a) : KeD P w K mg base (gm K w a xs) 8 3 "strike_out" 1 strikeK := by
  obtain ⟨fd, Fn, bd⟩ := T.e_Desk_strike_out
  refine keD_of (F := preN 4 (seqS (setK 2 (valK E_strike)) (seqS (ifS T_strike (errS ⟨4, .non⟩) skipS) skipS)) S_strike) (fun _ => rfl) rfl Fn sc_Desk_strike_out bd T.mt_Desk_strike_out T.c_Desk nfl rfl rfl (fun p q ds S h => ?_) (fun cdv A outer s H E hr => pss_preN (ppn_cons (fun _ => rfl)
    (ds_set 2 (DE.k (de_fld (fo_rows T) (de_call (k_read_log T) (hr.mono (by decide)) takes_cxD (da_cons (de_sfld (fo_shown T)) da_nil)))) (by decide) sc_Desk_strike_out.nd) (keep0_set (by decide)) (ppn_cons (fun _ => rfl)
    (ds_if (dt_not (dt_chain (op_le_d) (op_lt_d) (DE.p de_int) (DE.p (de_var 1)) (DE.p (de_callB (cd_lenX rfl) T.b_len rfl (dap_cons (DE.p (de_var 2)) dap_nil)))))
    (dss_one (ds_raise 4 takes_cxD rfl PySem.F.excBase_ValueError rfl rfl T.x_BadDeed.1 T.x_BadDeed.2.1 T.x_BadDeed.2.2.1 (raises_own T.x_BadDeed.2.2.2.1 T.x_BadDeed.2.2.2.2)))
    dss_nil) (keep0_if keep0_err keep0_skip) (ppn_last (fun _ => rfl) (ke_Desk_note T) (hr.mono (by decide)) takes_cxD
    (de_meth0 (k_Log_said T) (hr.mono (by decide)) takes_cxD (de_make (k_Log_init T) (hr.mono (by decide)) takes_cxD (da_cons (de_op (op_add_d rfl) (DE.p (de_slice rfl (DE.p (de_var 2)) do_none (do_some (DE.p (de_var 1))))) (DE.p (de_slice rfl (DE.p (de_var 2)) (do_some (DE.p (de_op (op_add_d rfl) (DE.p (de_var 1)) (DE.p de_int)))) do_none))) da_nil))) rfl (Or.inl rfl) rfl))))
  match ds, h with
  | [d], _ => exact preN_strike (r := kstart 3 p q 3 S [d])
theorem tellK_len : ∀ ds S Q E, Wp (tellK ds S) Q E → ds.length = 1 := fun ds S Q E h => by
  unfold tellK at h
  split at h
  · rfl
  · exact h.elim
theorem answerK_len : ∀ ds S Q E, Wp (answerK ds S) Q E → ds.length = 2 := fun ds S Q E h => by
  unfold answerK at h
  split at h
  · rfl
  · exact h.elim
theorem strikeK_len : ∀ ds S Q E, Wp (strikeK ds S) Q E → ds.length = 1 := fun ds S Q E h => by
  unfold strikeK at h
  split at h
  · rfl
  · exact h.elim
def retLam : Stmt → Expr
  | .Return (some (.Tuple (e :: _) _ _)) _ => e
  | _ => .Name "x" ⟨0, 0, 0, 0⟩
def ifBody : Stmt → List Stmt
  | .If _ b _ _ => b
  | _ => []
def deedLams : List Expr := [retLam ((ifBody ((defBody s_law_deed).getD 2 (.Pass ⟨0, 0, 0, 0⟩))).getD 1 (.Pass ⟨0, 0, 0, 0⟩)), retLam ((ifBody ((defBody s_law_deed).getD 3 (.Pass ⟨0, 0, 0, 0⟩))).getD 3 (.Pass ⟨0, 0, 0, 0⟩)), retLam ((defBody s_law_deed).getD 6 (.Pass ⟨0, 0, 0, 0⟩))]
abbrev R_deed0 : LE → R D := (iteE (valT (var 7)) (bmE "str" joinD (cst (.str [10])) (acons (opE addD (sliceE (var 4) noP (someP (var 6))) (sliceE (var 4) (someP (opE addD (var 6) (cst (.int 1)))) noP)) anil)) (var 2))
abbrev R_deed1 : LE → R D := (iteE (valT (var 7)) (bmE "str" joinD (cst (.str [10])) (acons (var 9) anil)) (var 2))
abbrev R_deed2 : LE → R D := (iteE (cmpT ltD (var 3) (cst (.int 7))) (bmE "str" joinD (cst (.str [10])) (acons (opE addD (opE addD (varP 10) (lE (lstE (acons (var 5) anil)))) (sliceE (var 4) (someP (callE lenX (acons (varP 10) anil))) noP)) anil)) (var 2))
abbrev S_deed0 : LE → R Out := (parK 3 4 (valK (callE rollD (acons (var 1) (acons (cst (.int 8)) anil)))) (valK (lE (compF (itB (bmE "str" splitD (var 2) (acons (cst (.str [10])) anil))) (gN 5) (cmpT neD (var 5) (cst (.str []))) (var 5) [5]))))
abbrev S_deed1 : LE → R Out := (setK 6 (valK (callE rollD (acons (var 1) (acons (cst (.int 4)) anil)))))
abbrev S_deed2 : LE → R Out := (setK 7 (valK (opE ltD (var 6) (callE lenX (acons (var 4) anil)))))
abbrev S_deed3 : LE → R Out := (setK 8 (valK (subE (lE (lstE (acons (cst (.str [48, 57, 51, 48])) (acons (cst (.str [48, 55, 48, 48])) (acons (cst (.str [50, 52, 54, 48])) anil))))) (callE rollD (acons (var 1) (acons (cst (.int 3)) anil))))))
abbrev S_deed4 : LE → R Out := (setK 7 (valK (andV (opE ltD (var 6) (callE lenX (acons (var 4) anil))) (andV (opE notInX (cst (.str [97, 110, 115, 119, 101, 114, 101, 100])) (subE (var 4) (var 6))) (andV (opE neD (var 8) (cst (.str [50, 52, 54, 48]))) (opE leD (sliceE (subE (var 4) (var 6)) noP (someP (cst (.int 4)))) (var 8)))))))
abbrev S_deed5 : LE → R Out := (setK 9 (valK (opE addD (opE addD (sliceE (var 4) noP (someP (var 6))) (lE (compF (itB (sliceE (var 4) (someP (var 6)) (someP (opE addD (var 6) (cst (.int 1)))))) (gN 5) yesT (opE addD (opE addD (var 5) (cst (.str [32, 97, 110, 115, 119, 101, 114, 101, 100, 32]))) (var 8)) [5]))) (sliceE (var 4) (someP (opE addD (var 6) (cst (.int 1)))) noP))))
abbrev S_deed6 : LE → R Out := (setK 5 (valK (subE (lE (lstE (acons (cst (.str [48, 57, 51, 48, 32, 119, 114, 101, 110, 32, 97, 49])) (acons (cst (.str [48, 55, 48, 48, 32, 108, 97, 114, 107, 32, 122])) (acons (cst (.str [48, 56, 49, 53, 32, 119, 114, 101, 110, 32, 97, 98, 32, 97, 110, 115, 119, 101, 114, 101, 100, 32, 48, 56, 50, 48])) (acons (cst (.str [48, 57, 48, 48, 32, 108, 97, 114, 107, 32, 97, 97])) anil)))))) (opE subD (var 3) (cst (.int 4))))))
abbrev S_deed7 : LE → R Out := (setK 10 (ownK (compF (itB (var 4)) (gN 11) (cmpT leD (sliceE (var 11) noP (someP (cst (.int 4)))) (sliceE (var 5) noP (someP (cst (.int 4))))) (var 11) [11])))
def F_deed : QF := qcons S_deed0 (qcons S_deed1 (qif (cmpT ltD (var 3) (cst (.int 2))) (qcons S_deed2 (qret 0 R_deed0)) (qif (cmpT ltD (var 3) (cst (.int 4))) (qcons S_deed3 (qcons S_deed4 (qcons S_deed5 (qret 1 R_deed1)))) (qcons S_deed6 (qcons S_deed7 (qret 2 R_deed2))))))
theorem keep_deed : KeepQ F_deed := keepQ_cons (keepI_par (by decide) (by decide)) (keepQ_cons (keepI_set (by decide)) (keepQ_if (keepQ_cons (keepI_set (by decide)) keepQ_ret) (keepQ_if (keepQ_cons (keepI_set (by decide)) (keepQ_cons (keepI_set (by decide)) (keepQ_cons (keepI_set (by decide)) keepQ_ret))) (keepQ_cons (keepI_set (by decide)) (keepQ_cons (keepI_set (by decide)) keepQ_ret)))))
abbrev N_deed : List Str := ["desk", "dice", "now", "sort", "rows", "row", "number", "fine", "clock", "due", "ahead", "one"]
theorem q_deed (T : Txt P w K mg base a) {A : Around} {outer : List Env} {s : Shared} {H : Hp} {E : XK} (hr : Room 9 (A.deeper (envOfC "_law_deed" (defScope s_law_deed) s.heap.objs.size a.f_law_deed (.ref a.k_law_deed)))) :
    QSs (cxD P w K mg base N_deed "_law_deed" s_law_deed a.f_law_deed (.ref a.k_law_deed) A outer s H E) (gm K w a xs) deedLams (defBody s_law_deed) F_deed :=
  q_cons (W := WD E) (ds_par 3 4 rfl sc_law_deed.nd (by decide) (by decide) (by decide) (DE.k (de_call (k_law_roll T) (hr.mono (by decide)) takes_cxD (da_cons (de_var 1) (da_cons de_int da_nil)))) (DE.k (DF.e (df_comp (own := [("row", 5)]) rfl sc_law_deed.nd (DI.e (di_anyB rfl (de_bm (bm_split) rfl (DE.p (de_var 2)) (dap_cons (DE.p (de_str [10])) dap_nil)))) (blkOk_by (N := N_deed) (sc := defScope s_law_deed) (by decide +kernel)) (fun _ _ _ _ _ => (dg_name 5 sc_law_deed.nd)) (fun _ _ _ _ _ => (dts_one (dt_cmp (op_ne_d rfl (huD64 hr)) (DE.p (de_var 5)) (DE.p (de_str []))))) (fun _ _ _ _ _ => (de_var 5)) (by decide)))))
  (q_cons (W := WD E) (ds_set 6 (DE.k (de_call (k_law_roll T) (hr.mono (by decide)) takes_cxD (da_cons (de_var 1) (da_cons de_int da_nil)))) (by decide) sc_law_deed.nd)
  (q_if (W := WD E) (dt_cmp (op_lt_d) (DE.p (de_var 3)) (DE.p de_int))
    (q_cons (W := WD E) (ds_set 7 (DE.k (de_cmp (op_lt_d) (DE.p (de_var 6)) (DE.p (de_callB (cd_lenX rfl) T.b_len rfl (dap_cons (DE.p (de_var 4)) dap_nil))))) (by decide) sc_law_deed.nd)
    (q_ret (W := WD E) (mk_def T.tb_law_deed rfl tm_law_deed) rfl rfl rfl rfl (lamS_by (sc := defScope s_law_deed) (by decide +kernel)) (de_if (dt_val (de_var 7)) (de_bm (bm_join rfl) rfl (DE.p (de_str [10])) (dap_cons (DE.p (de_op (op_add_d rfl) (DE.p (de_slice rfl (DE.p (de_var 4)) do_none (do_some (DE.p (de_var 6))))) (DE.p (de_slice rfl (DE.p (de_var 4)) (do_some (DE.p (de_op (op_add_d rfl) (DE.p (de_var 6)) (DE.p de_int)))) do_none)))) dap_nil)) (de_var 2)) rfl rfl rfl))
  (q_if (W := WD E) (dt_cmp (op_lt_d) (DE.p (de_var 3)) (DE.p de_int))
    (q_cons (W := WD E) (ds_set 8 (DE.k (de_sub rfl rfl (huD hr) (DE.p (DF.e (df_lst (da_cons (de_str [48, 57, 51, 48]) (da_cons (de_str [48, 55, 48, 48]) (da_cons (de_str [50, 52, 54, 48]) da_nil)))))) (DE.p (de_call (k_law_roll T) (hr.mono (by decide)) takes_cxD (da_cons (de_var 1) (da_cons de_int da_nil)))) fun _ _ => rfl)) (by decide) sc_law_deed.nd)
    (q_cons (W := WD E) (ds_set 7 (DE.k (de_and (de_cmp (op_lt_d) (DE.p (de_var 6)) (DE.p (de_callB (cd_lenX rfl) T.b_len rfl (dap_cons (DE.p (de_var 4)) dap_nil)))) (de_and (de_cmp (op_notinX_d rfl (huD hr)) (DE.p (de_str [97, 110, 115, 119, 101, 114, 101, 100])) (DE.p (de_sub rfl rfl (huD hr) (DE.p (de_var 4)) (DE.p (de_var 6)) fun _ _ => rfl))) (de_and (de_cmp (op_ne_d rfl (huD64 hr)) (DE.p (de_var 8)) (DE.p (de_str [50, 52, 54, 48]))) (de_one (de_cmp (op_le_d) (DE.p (de_slice rfl (DE.p (de_sub rfl rfl (huD hr) (DE.p (de_var 4)) (DE.p (de_var 6)) fun _ _ => rfl)) do_none (do_some (DE.p de_int)))) (DE.p (de_var 8)))))))) (by decide) sc_law_deed.nd)
    (q_cons (W := WD E) (ds_set 9 (DE.k (de_op (op_add_d rfl) (DE.p (de_op (op_add_d rfl) (DE.p (de_slice rfl (DE.p (de_var 4)) do_none (do_some (DE.p (de_var 6))))) (DE.p (DF.e (df_comp (own := [("row", 5)]) rfl sc_law_deed.nd (DI.e (di_anyB rfl (de_slice rfl (DE.p (de_var 4)) (do_some (DE.p (de_var 6))) (do_some (DE.p (de_op (op_add_d rfl) (DE.p (de_var 6)) (DE.p de_int))))))) (blkOk_by (N := N_deed) (sc := defScope s_law_deed) (by decide +kernel)) (fun _ _ _ _ _ => (dg_name 5 sc_law_deed.nd)) (fun _ _ _ _ _ => dts_nil) (fun _ _ _ _ _ => (de_op (op_add_d rfl) (DE.p (de_op (op_add_d rfl) (DE.p (de_var 5)) (DE.p (de_str [32, 97, 110, 115, 119, 101, 114, 101, 100, 32])))) (DE.p (de_var 8)))) (by decide)))))) (DE.p (de_slice rfl (DE.p (de_var 4)) (do_some (DE.p (de_op (op_add_d rfl) (DE.p (de_var 6)) (DE.p de_int)))) do_none)))) (by decide) sc_law_deed.nd)
    (q_ret (W := WD E) (mk_def T.tb_law_deed rfl tm_law_deed) rfl rfl rfl rfl (lamS_by (sc := defScope s_law_deed) (by decide +kernel)) (de_if (dt_val (de_var 7)) (de_bm (bm_join rfl) rfl (DE.p (de_str [10])) (dap_cons (DE.p (de_var 9)) dap_nil)) (de_var 2)) rfl rfl rfl))))
  (q_cons (W := WD E) (ds_set 5 (DE.k (de_sub rfl rfl (huD hr) (DE.p (DF.e (df_lst (da_cons (de_str [48, 57, 51, 48, 32, 119, 114, 101, 110, 32, 97, 49]) (da_cons (de_str [48, 55, 48, 48, 32, 108, 97, 114, 107, 32, 122]) (da_cons (de_str [48, 56, 49, 53, 32, 119, 114, 101, 110, 32, 97, 98, 32, 97, 110, 115, 119, 101, 114, 101, 100, 32, 48, 56, 50, 48]) (da_cons (de_str [48, 57, 48, 48, 32, 108, 97, 114, 107, 32, 97, 97]) da_nil))))))) (DE.p (de_op (op_sub_d) (DE.p (de_var 3)) (DE.p de_int))) fun _ _ => rfl)) (by decide) sc_law_deed.nd)
  (q_cons (W := WD E) (ds_setcomp 10 (own := [("one", 11)]) rfl sc_law_deed.nd (DI.e (di_anyB rfl (de_var 4))) (blkOk_by (N := N_deed) (sc := defScope s_law_deed) (by decide +kernel)) (fun _ _ _ _ _ => (dg_name 11 sc_law_deed.nd)) (fun _ _ _ _ _ => (dts_one (dt_cmp (op_le_d) (DE.p (de_slice rfl (DE.p (de_var 11)) do_none (do_some (DE.p de_int)))) (DE.p (de_slice rfl (DE.p (de_var 5)) do_none (do_some (DE.p de_int))))))) (fun _ _ _ _ _ => (de_var 11)) (by decide) (by decide) (sw_true rfl rfl rfl (by decide +kernel)))
  (q_ret (W := WD E) (mk_def T.tb_law_deed rfl tm_law_deed) rfl rfl rfl rfl (lamS_by (sc := defScope s_law_deed) (by decide +kernel)) (de_if (dt_cmp (op_lt_d) (DE.p (de_var 3)) (DE.p de_int)) (de_bm (bm_join rfl) rfl (DE.p (de_str [10])) (dap_cons (DE.p (de_op (op_add_d rfl) (DE.p (de_op (op_add_d rfl) (dp_var 10) (DE.p (DF.e (df_lst (da_cons (de_var 5) da_nil)))))) (DE.p (de_slice rfl (DE.p (de_var 4)) (do_some (DE.p (de_callB (cd_lenX rfl) T.b_len rfl (dap_cons (dp_var 10) dap_nil)))) do_none)))) dap_nil)) (de_var 2)) rfl rfl rfl))))))
def gK0 : LE → KS → R KS := fun r S => (acons (var 6) anil) r >>= fun ds => strikeK ds S
def gK1 : LE → KS → R KS := fun r S => (acons (var 6) (acons (var 8) anil)) r >>= fun ds => answerK ds S
def gK2 : LE → KS → R KS := fun r S => (acons (var 5) anil) r >>= fun ds => tellK ds S
theorem kb_deed (T : Txt P w K mg base a) {A : Around} {outer : List Env} {s : Shared} {H : Hp} {E : XK} :
    KBodies (cxD P w K mg base N_deed "_law_deed" s_law_deed a.f_law_deed (.ref a.k_law_deed) A outer s H E) (gm K w a xs) 3 0 8 deedLams [gK0, gK1, gK2] :=
  .cons (lamS_by (sc := defScope s_law_deed) (by decide +kernel)) (by intro _ _ _ _ _; rfl) (fun A outer s H E f c' hr' => pe_kmeth (i := 0) (fun _ => rfl) (ke_Desk_strike_out T) strikeK_len hr' takes_lam (da_cons (de_var 6) da_nil) rfl (Or.inr (Or.inr rfl)))
  (.cons (lamS_by (sc := defScope s_law_deed) (by decide +kernel)) (by intro _ _ _ _ _; rfl) (fun A outer s H E f c' hr' => pe_kmeth (i := 0) (fun _ => rfl) (ke_Desk_answer T) answerK_len hr' takes_lam (da_cons (de_var 6) (da_cons (de_var 8) da_nil)) rfl (Or.inr (Or.inr rfl)))
  (.cons (lamS_by (sc := defScope s_law_deed) (by decide +kernel)) (by intro _ _ _ _ _; rfl) (fun A outer s H E f c' hr' => pe_kmeth (i := 0) (fun _ => rfl) (ke_Desk_tell T) tellK_len hr' takes_lam (da_cons (de_var 5) da_nil) rfl (Or.inr (Or.inr rfl)))
  .nil))
abbrev S_law6 : LE → R Out := (setK 6 (valK (subE (var 3) (var 4))))
abbrev S_law7 : LE → R Out := (setK 7 (valK (subE (lE (lstE (acons (opE subD (cst (.int 0)) (cst (.int 1))) (acons (cst (.int 1)) anil)))) (callE rollD (acons (var 1) (acons (cst (.int 2)) anil))))))
abbrev S_law8 : LE → R Out := (setK 8 (valK (chainE (cst (.int 0)) (opE addD (var 4) (var 7)) (callE lenX (acons (var 3) anil)) leD ltD)))
abbrev S_law4 : LE → R Out := (setK 4 (valK (opE addD (var 4) (opE mulD (var 7) (callE intY (acons (var 8) anil))))))
abbrev S_law8b : LE → R Out := (setK 8 (valK (opE neD (var 11) (var 6))))
abbrev S_lawp : LE → R Out := (ifS (valT (var 8)) (parK 3 4 (valK (opE addD (sliceE (var 3) noP (someP (opE addD (var 4) (cst (.int 1))))) (lE (lstE (acons (var 11) anil))))) (valK (opE addD (var 4) (cst (.int 1))))) skipS)
abbrev T_law : LE → R Bool := (orT (cmpT neD (var 9) (iteE (valT (var 8)) (cst .non) (cst (.str [100, 117, 101])))) (cmpT neD (fldE fx_shown (var 2)) (subE (var 3) (var 4))))
abbrev S_law12 : LE → R Out := (setK 12 (valK (lE (compF (itB (bmE "str" splitD (subE (var 3) (var 4)) (acons (cst (.str [10])) anil))) (gN 13) (cmpT neD (var 13) (cst (.str []))) (bmE "str" splitD (var 13) (acons (cst (.str [32])) anil)) [13]))))
abbrev T_law2 : LE → R Bool := (cmpT neD (meth0E 3 D_Desk_judged (var 2)) (tupE (acons (callE lenX (acons (var 12) anil)) (acons (callE tupleD (acons (lE (compF (rng1E (acons (callE lenX (acons (var 12) anil)) anil)) (gN 14) (cmpT eqD (callE lenX (acons (subE (var 12) (var 14)) anil)) (cst (.int 3))) (var 14) [14])) anil)) (acons (meth0E 2 D_Log_words_made (callE D_read_log (acons (subE (var 3) (var 4)) anil))) anil)))))
abbrev retF : GF := liftG (retS (cst (.bl false)))
def F_undo : GF := seqG (liftG S_law7) (seqG (liftG S_law8) (seqG (ifG (cmpT ltD (var 7) (cst (.int 0))) (toldG 9 fun _ S => toldKs toldL S (undoK 4 S)) (toldG 9 fun _ S => toldKs toldL S (redoK 4 S))) (liftG S_law4)))
def F_make : GF := seqG (deedG 10 11 9 (acons (var 2) (acons (var 1) (acons (var 6) anil))) 12 3 F_deed [gK0, gK1, gK2] toldL) (seqG (liftG S_law8b) (liftG S_lawp))
def F_step : GF := seqG (liftG S_law6) (seqG (ifG (cmpT eqD (callE rollD (acons (var 1) (acons (cst (.int 4)) anil))) (cst (.int 0))) F_undo F_make) (ifRG 3 2 T_law retF skipG))
def F_round : GF := seqG (parshG 3 4) (seqG (forG (rng1E (acons (callE rollD (acons (var 1) (acons (cst (.int 10)) anil))) anil)) (gN 5) F_step) (seqG (liftG S_law12) (ifRG 3 2 T_law2 retF skipG)))
/-- the round keeps the law, wherever the desk stands -/
abbrev RoundOk : Prop := RndOk F_round 2 15 shD
abbrev N_law : List Str := ["script", "dice", "desk", "past", "place", "step", "now", "gap", "fine", "reply", "deed", "due", "rows", "row", "k"]
theorem g_step (T : Txt P w K mg base a) {A : Around} {outer : List Env} {s : Shared} {H : Hp} {E : XK} (hr : Room 10 (A.deeper (envOfC "law" (defScope s_law) s.heap.objs.size a.f_law (.ref a.k_law)))) :
    PSs (cxD P w K mg base N_law "law" s_law a.f_law (.ref a.k_law) A outer s H E) (match (defBody s_law).getD 0 (.Pass ⟨0, 0, 0, 0⟩) with | .For _ _ b _ _ => (match b.getD 2 (.Pass ⟨0, 0, 0, 0⟩) with | .For _ _ b2 _ _ => b2 | _ => []) | _ => []) (tSG (gm K w a []) 3 2 F_step) := by
  obtain ⟨oc0, od0, kV0, doc0, pm0, an0, cdv0, ct0, osl0, lk0, cd0, kp0, bd0⟩ := T.l_told
  have ret : ∀ {pp : Pos} {j : Nat} {b0 : Pos}, PSs (cxD P w K mg base N_law "law" s_law a.f_law (.ref a.k_law) A outer s H E) [.Return (some (.Constant (.bool false) j b0)) pp] (tSG (gm K w a []) 3 2 retF) := g_one (g_lift (W := WD E) (ds_ret de_bl) keepI_ret)
  exact g_cons (g_lift (W := WD E) (ds_set 6 (DE.k (de_sub rfl rfl (huD hr) (DE.p (de_var 3)) (DE.p (de_var 4)) fun _ _ => rfl)) (by decide) sc_law.nd) (keepI_set (by decide)))
    (g_cons (g_if (W := WD E) (dt_cmp (op_eq_d rfl (huD64 hr)) (DE.p (de_call (k_law_roll T) (hr.mono (by decide)) takes_cxD (da_cons (de_var 1) (da_cons de_int da_nil)))) (DE.p de_int))
      (g_cons (g_lift (W := WD E) (ds_set 7 (DE.k (de_sub rfl rfl (huD hr) (DE.p (DF.e (df_lst (da_cons (de_op (op_sub_d) (DE.p de_int) (DE.p de_int)) (da_cons de_int da_nil))))) (DE.p (de_call (k_law_roll T) (hr.mono (by decide)) takes_cxD (da_cons (de_var 1) (da_cons de_int da_nil)))) fun _ _ => rfl)) (by decide) sc_law.nd) (keepI_set (by decide)))
      (g_cons (g_lift (W := WD E) (ds_set 8 (DE.k (de_chain (op_le_d) (op_lt_d) (DE.p de_int) (DE.p (de_op (op_add_d rfl) (DE.p (de_var 4)) (DE.p (de_var 7)))) (DE.p (de_callB (cd_lenX rfl) T.b_len rfl (dap_cons (DE.p (de_var 3)) dap_nil))))) (by decide) sc_law.nd) (keepI_set (by decide)))
      (g_cons (g_if (W := WD E) (dt_cmp (op_lt_d) (DE.p (de_var 7)) (DE.p de_int))
        (g_one (g_told (f := fun _ S => toldKs toldL S (undoK 4 S)) (pe_ktold (k := 1) (l := toldL) (gK := fun _ S => undoK 4 S) T.g_law_desk kp0 lk0 cd0 bd0 sc_law_desk rfl (Or.inl rfl) (gives_told T rfl rfl) (T.exm _) (mk_def T.tb_law rfl tm_law) (hr.mono (by decide)) (lamS_by (sc := defScope s_law) (by decide +kernel)) (fun A outer s H E f c' hr' => pe_kmeth0 (i := 2) (fun _ => rfl) (ke_Desk_undo T) hr' takes_lam rfl (Or.inr (Or.inr rfl)))) (by decide) sc_law.nd))
        (g_one (g_told (f := fun _ S => toldKs toldL S (redoK 4 S)) (pe_ktold (k := 1) (l := toldL) (gK := fun _ S => redoK 4 S) T.g_law_desk kp0 lk0 cd0 bd0 sc_law_desk rfl (Or.inl rfl) (gives_told T rfl rfl) (T.exm _) (mk_def T.tb_law rfl tm_law) (hr.mono (by decide)) (lamS_by (sc := defScope s_law) (by decide +kernel)) (fun A outer s H E f c' hr' => pe_kmeth0 (i := 2) (fun _ => rfl) (ke_Desk_redo T) hr' takes_lam rfl (Or.inr (Or.inr rfl)))) (by decide) sc_law.nd)))
      (g_one (g_lift (W := WD E) (ds_set 4 (DE.k (de_op (op_add_d rfl) (DE.p (de_var 4)) (DE.p (de_op (op_mul_d) (DE.p (de_var 7)) (DE.p (de_callT (cd_intY) T.b_int rfl (dap_cons (DE.p (de_var 8)) dap_nil))))))) (by decide) sc_law.nd) (keepI_set (by decide)))))))
      (pss_deed (W := WD E) (kq := 8) T.e_law_deed sc_law_deed rfl rfl (by decide) T.g_law_deed rfl (by decide) rfl rfl rfl sc_law.nd takes_cxD (fun _ => rfl) hr (fun s H E hr9 => q_deed T hr9) (fun s H E => kb_deed T) keep_deed
        T.g_law_desk rfl (by decide) kp0 lk0 cd0 bd0 sc_law_desk rfl (Or.inl rfl) (gives_told T rfl rfl) (T.exm _) (by decide) (by decide)
        (da_cons (de_var 2) (da_cons (de_var 1) (da_cons (de_var 6) da_nil))) head_args (by decide) (by decide) (by decide) (by decide) (by decide) rfl rfl rfl rfl rfl rfl (by decide) (by decide) rfl rfl rfl rfl rfl rfl rfl rfl rfl
        (g_cons (g_lift (W := WD E) (ds_set 8 (DE.k (de_cmp (op_ne_d rfl (huD64 hr)) (DE.p (de_var 11)) (DE.p (de_var 6)))) (by decide) sc_law.nd) (keepI_set (by decide)))
        (g_one (g_lift (W := WD E) (ds_if (dt_val (de_var 8)) (dss_one (ds_par 3 4 rfl sc_law.nd (by decide) (by decide) (by decide) (DE.k (de_op (op_add_d rfl) (DE.p (de_slice rfl (DE.p (de_var 3)) do_none (do_some (DE.p (de_op (op_add_d rfl) (DE.p (de_var 4)) (DE.p de_int)))))) (DE.p (DF.e (df_lst (da_cons (de_var 11) da_nil)))))) (DE.k (de_op (op_add_d rfl) (DE.p (de_var 4)) (DE.p de_int))))) dss_nil) (keepI_if (keepI_par (by decide) (by decide)) keepI_skip))))))
    (g_one (g_ifR (W := WD E) (fun _ => rfl) rfl (dt_w (dw_or (dt_cmp (op_ne_d rfl (huD64 hr)) (DE.p (de_var 9)) (DE.p (de_if (dt_val (de_var 8)) de_non (de_str [100, 117, 101])))) (dw_or1 (dt_cmp (op_ne_d rfl (huD64 hr)) (DE.p (de_fld (fo_shown T) (de_var 2))) (DE.p (de_sub rfl rfl (huD hr) (DE.p (de_var 3)) (DE.p (de_var 4)) fun _ _ => rfl))))))
      ret g_nil)))
theorem g_round (T : Txt P w K mg base a) {A : Around} {outer : List Env} {s : Shared} {H : Hp} {E : XK} (hr : Room 10 (A.deeper (envOfC "law" (defScope s_law) s.heap.objs.size a.f_law (.ref a.k_law)))) (hF : RoundOk) :
    DSs (cxD P w K mg base N_law "law" s_law a.f_law (.ref a.k_law) A outer s H E) (gm K w a []) (WD E) (match (defBody s_law).getD 0 (.Pass ⟨0, 0, 0, 0⟩) with | .For _ _ b _ _ => b | _ => []) (roundS 15) := by
  obtain ⟨fd, ps, ok, bd⟩ := ok_Desk_init (P := P) (base := base) (xs := []) T
  have ret : ∀ {pp : Pos} {j : Nat} {b0 : Pos}, PSs (cxD P w K mg base N_law "law" s_law a.f_law (.ref a.k_law) A outer s H E) [.Return (some (.Constant (.bool false) j b0)) pp] (tSG (gm K w a []) 3 2 retF) := g_one (g_lift (W := WD E) (ds_ret de_bl) keepI_ret)
  exact pss_round (c := 3) (i := 2) (sh := shD) (F := F_round) (fun _ => rfl) T.mk_Desk ok bd (hr.mono (by decide)) takes_cxD T.g_Desk
    (g_cons (g_parsh (kOk T) rfl sc_law.nd (by decide) (by decide) (by decide) rfl rfl rfl rfl rfl (Or.inr (Or.inl rfl)) (by decide) (by decide) rfl rfl rfl rfl rfl rfl)
    (g_cons (g_for (W := WD E) owns_cxD rfl (di_rng1 rfl T.b_range (da_cons (de_call (k_law_roll T) (hr.mono (by decide)) takes_cxD (da_cons (de_var 1) (da_cons de_int da_nil))) da_nil)) (dg_name 5 sc_law.nd) (fun d r r2 h => by
        cases h
        rw [List.getElem?_set_ne (by decide)])
      (g_step T hr))
    (g_cons (g_lift (W := WD E) (ds_set 12 (DE.k (DF.e (df_comp (own := [("row", 13)]) rfl sc_law.nd (DI.e (di_anyB rfl (de_bm (bm_split) rfl (DE.p (de_sub rfl rfl (huD hr) (DE.p (de_var 3)) (DE.p (de_var 4)) fun _ _ => rfl)) (dap_cons (DE.p (de_str [10])) dap_nil)))) (blkOk_by (N := N_law) (sc := defScope s_law) (by decide +kernel)) (fun _ _ _ _ _ => (dg_name 13 sc_law.nd)) (fun _ _ _ _ _ => (dts_one (dt_cmp (op_ne_d rfl (huD64 hr)) (DE.p (de_var 13)) (DE.p (de_str []))))) (fun _ _ _ _ _ => (de_bm (bm_split) rfl (DE.p (de_var 13)) (dap_cons (DE.p (de_str [32])) dap_nil))) (by decide)))) (by decide) sc_law.nd) (keepI_set (by decide)))
    (g_one (g_ifR (W := WD E) (fun _ => rfl) rfl (dt_cmp (op_ne_d rfl (huD64 hr)) (DE.p (de_meth0 (k_Desk_judged T) (hr.mono (by decide)) takes_cxD (de_var 2))) (DE.p (de_tup (da_cons (de_callB (cd_lenX rfl) T.b_len rfl (dap_cons (DE.p (de_var 12)) dap_nil)) (da_cons (de_callT (cd_tuple rfl) T.b_tuple rfl (dap_cons (DE.p (DF.e (df_comp (own := [("k", 14)]) rfl sc_law.nd (DI.e (di_rng1 rfl T.b_range (da_cons (de_callB (cd_lenX rfl) T.b_len rfl (dap_cons (DE.p (de_var 12)) dap_nil)) da_nil))) (blkOk_by (N := N_law) (sc := defScope s_law) (by decide +kernel)) (fun _ _ _ _ _ => (dg_name 14 sc_law.nd)) (fun _ _ _ _ _ => (dts_one (dt_cmp (op_eq_d rfl (huD64 hr)) (DE.p (de_callB (cd_lenX rfl) T.b_len rfl (dap_cons (DE.p (de_sub rfl rfl (huD hr) (DE.p (de_var 12)) (DE.p (de_var 14)) fun _ _ => rfl)) dap_nil))) (DE.p de_int)))) (fun _ _ _ _ _ => (de_var 14)) (by decide)))) dap_nil)) (da_cons (de_meth0 (k_Log_words_made T) (hr.mono (by decide)) takes_cxD (de_call (k_read_log T) (hr.mono (by decide)) takes_cxD (da_cons (de_sub rfl rfl (huD hr) (DE.p (de_var 3)) (DE.p (de_var 4)) fun _ _ => rfl) da_nil))) da_nil))))))
      ret g_nil))))) hF (by decide) (by decide) sc_law.nd rfl (Or.inr rfl) (Or.inl rfl)
theorem ok_law (T : Txt P w K mg base a) {oc : Value} {od : Option Addr} {kV doc pm : Value} {an : Option Addr} {ct : Value} {osl : Array (Option Value)} (lk : K.lookup a.f_law = some ⟨oc, od, .func (PySem.W.fnOf "law" "law" (defArgs s_law) (defBody s_law) (defScope s_law) .none kV doc pm an (.ref a.k_law) ct), osl⟩)
    (cd : PySem.W.codeIn K (.ref a.k_law) "law" = true) (hF : RoundOk) :
    FnOk P w K mg base (L2.CX P w) 11 a.f_law (PySem.W.fnOf "law" "law" (defArgs s_law) (defBody s_law) (defScope s_law) .none kV doc pm an (.ref a.k_law) ct) ["script"] (spLaw K (gm K w a []).tabs) := by
  obtain ⟨fdD, FD, bD⟩ := T.e_law_dice
  obtain ⟨fdR, FR, bR⟩ := T.e_law_rounds
  have hD := ok_dice (P := P) (w := w) (base := base) FD T.b_int T.b_abs
  have hR := ok_rounds (P := P) (w := w) (base := base) FR hD FD.kp bD T.g_law_dice
  exact law_W (G := gm K w a []) (F := roundS 15) lk cd sc_law rfl (by decide) rfl (tabs_u T) rfl (roundS_ok 15) fun A outer s H E hr => ⟨_, pss_cons (ps_for owns_cxD rfl (pi_list (pe_callS hR (hr.mono (by decide)) rfl T.g_law_rounds FR.kp bR (fun sg => DL.passAt (takes_cxD (N := N_law) (st := s_law) (f := a.f_law)) sg) (pa_cons (pv 0) (pa_cons pe_int pa_nil)))) (pg_name (i := 1) sc_law.nd rfl (Or.inl rfl))
    (g_round T hr hF))
    (pss_one (ps_ret pe_bl))⟩
end
theorem all_mk {l : PySem.W.OpenLaw} {w : World} {K : PySem.W.Frag} {h : Heap} {mg : Str → Option Value} {fa : Addr} {ts : List Addr} (X : K.In h) (hN : h.Ns mainGlobals mg) (hfa : mg "law" = some (.ref fa)) (hTS : ∀ P ∈ ts, h.get? P = some { cls := .none, data := .fields #[] })
    (hF : RoundOk)
    {f_law_dice f_law_roll f_law_rounds f_law_desk f_Desk_init f_Desk_note f_Desk_undo f_Desk_redo f_clock_of f_Row_said f_Log_said f_Log_init f_Log_with_log_row f_check_letters f_read_hoist f_Row_init f_minute_of f_read_log_row f_read_log f_Desk_tell f_Log_answered_by f_Desk_answer f_Desk_strike_out f_law_deed f_Tally_unanswered f_Tally_init f_Log_tally f_Log_words_made f_Desk_judged f_law c_Tally c_Row c_Log c_Desk x_BadDeed x_BadText x_BadHoist x_FlagFault x_BadBook k_Log_init t_Log_init k_check_letters t_check_letters k_Row_init t_Row_init k_minute_of t_minute_of k_law_deed t_law_deed k_Tally_init t_Tally_init k_law t_law : Addr} {oc_law_dice kV_law_dice dc_law_dice pm_law_dice ct_law_dice cd_law_dice : Value} {od_law_dice an_law_dice : Option Addr} {sl_law_dice : Array (Option Value)} {oc_law_roll kV_law_roll dc_law_roll pm_law_roll ct_law_roll cd_law_roll : Value} {od_law_roll an_law_roll : Option Addr} {sl_law_roll : Array (Option Value)} {oc_law_rounds kV_law_rounds dc_law_rounds pm_law_rounds ct_law_rounds cd_law_rounds : Value} {od_law_rounds an_law_rounds : Option Addr} {sl_law_rounds : Array (Option Value)} {oc_law_desk kV_law_desk dc_law_desk pm_law_desk ct_law_desk cd_law_desk : Value} {od_law_desk an_law_desk : Option Addr} {sl_law_desk : Array (Option Value)} {oc_Desk_init kV_Desk_init dc_Desk_init pm_Desk_init ct_Desk_init cd_Desk_init : Value} {od_Desk_init an_Desk_init : Option Addr} {sl_Desk_init : Array (Option Value)} {oc_Desk_note kV_Desk_note dc_Desk_note pm_Desk_note ct_Desk_note cd_Desk_note : Value} {od_Desk_note an_Desk_note : Option Addr} {sl_Desk_note : Array (Option Value)} {oc_Desk_undo kV_Desk_undo dc_Desk_undo pm_Desk_undo ct_Desk_undo cd_Desk_undo : Value} {od_Desk_undo an_Desk_undo : Option Addr} {sl_Desk_undo : Array (Option Value)} {oc_Desk_redo kV_Desk_redo dc_Desk_redo pm_Desk_redo ct_Desk_redo cd_Desk_redo : Value} {od_Desk_redo an_Desk_redo : Option Addr} {sl_Desk_redo : Array (Option Value)} {oc_clock_of kV_clock_of dc_clock_of pm_clock_of ct_clock_of cd_clock_of : Value} {od_clock_of an_clock_of : Option Addr} {sl_clock_of : Array (Option Value)} {oc_Row_said kV_Row_said dc_Row_said pm_Row_said ct_Row_said cd_Row_said : Value} {od_Row_said an_Row_said : Option Addr} {sl_Row_said : Array (Option Value)} {oc_Log_said kV_Log_said dc_Log_said pm_Log_said ct_Log_said cd_Log_said : Value} {od_Log_said an_Log_said : Option Addr} {sl_Log_said : Array (Option Value)} {oc_Log_init kV_Log_init dc_Log_init pm_Log_init ct_Log_init : Value} {od_Log_init an_Log_init : Option Addr} {sl_Log_init : Array (Option Value)} {oc_Log_with_log_row kV_Log_with_log_row dc_Log_with_log_row pm_Log_with_log_row ct_Log_with_log_row cd_Log_with_log_row : Value} {od_Log_with_log_row an_Log_with_log_row : Option Addr} {sl_Log_with_log_row : Array (Option Value)} {oc_check_letters kV_check_letters dc_check_letters pm_check_letters ct_check_letters : Value} {od_check_letters an_check_letters : Option Addr} {sl_check_letters : Array (Option Value)} {oc_read_hoist kV_read_hoist dc_read_hoist pm_read_hoist ct_read_hoist cd_read_hoist : Value} {od_read_hoist an_read_hoist : Option Addr} {sl_read_hoist : Array (Option Value)} {oc_Row_init kV_Row_init dc_Row_init pm_Row_init ct_Row_init : Value} {od_Row_init an_Row_init : Option Addr} {sl_Row_init : Array (Option Value)} {oc_minute_of kV_minute_of dc_minute_of pm_minute_of ct_minute_of : Value} {od_minute_of an_minute_of : Option Addr} {sl_minute_of : Array (Option Value)} {oc_read_log_row kV_read_log_row dc_read_log_row pm_read_log_row ct_read_log_row cd_read_log_row : Value} {od_read_log_row an_read_log_row : Option Addr} {sl_read_log_row : Array (Option Value)} {oc_read_log kV_read_log dc_read_log pm_read_log ct_read_log cd_read_log : Value} {od_read_log an_read_log : Option Addr} {sl_read_log : Array (Option Value)} {oc_Desk_tell kV_Desk_tell dc_Desk_tell pm_Desk_tell ct_Desk_tell cd_Desk_tell : Value} {od_Desk_tell an_Desk_tell : Option Addr} {sl_Desk_tell : Array (Option Value)} {oc_Log_answered_by kV_Log_answered_by dc_Log_answered_by pm_Log_answered_by ct_Log_answered_by cd_Log_answered_by : Value} {od_Log_answered_by an_Log_answered_by : Option Addr} {sl_Log_answered_by : Array (Option Value)} {oc_Desk_answer kV_Desk_answer dc_Desk_answer pm_Desk_answer ct_Desk_answer cd_Desk_answer : Value} {od_Desk_answer an_Desk_answer : Option Addr} {sl_Desk_answer : Array (Option Value)} {oc_Desk_strike_out kV_Desk_strike_out dc_Desk_strike_out pm_Desk_strike_out ct_Desk_strike_out cd_Desk_strike_out : Value} {od_Desk_strike_out an_Desk_strike_out : Option Addr} {sl_Desk_strike_out : Array (Option Value)} {oc_law_deed kV_law_deed dc_law_deed pm_law_deed ct_law_deed : Value} {od_law_deed an_law_deed : Option Addr} {sl_law_deed : Array (Option Value)} {oc_Tally_unanswered kV_Tally_unanswered dc_Tally_unanswered pm_Tally_unanswered ct_Tally_unanswered cd_Tally_unanswered : Value} {od_Tally_unanswered an_Tally_unanswered : Option Addr} {sl_Tally_unanswered : Array (Option Value)} {oc_Tally_init kV_Tally_init dc_Tally_init pm_Tally_init ct_Tally_init : Value} {od_Tally_init an_Tally_init : Option Addr} {sl_Tally_init : Array (Option Value)} {oc_Log_tally kV_Log_tally dc_Log_tally pm_Log_tally ct_Log_tally cd_Log_tally : Value} {od_Log_tally an_Log_tally : Option Addr} {sl_Log_tally : Array (Option Value)} {oc_Log_words_made kV_Log_words_made dc_Log_words_made pm_Log_words_made ct_Log_words_made cd_Log_words_made : Value} {od_Log_words_made an_Log_words_made : Option Addr} {sl_Log_words_made : Array (Option Value)} {oc_Desk_judged kV_Desk_judged dc_Desk_judged pm_Desk_judged ct_Desk_judged cd_Desk_judged : Value} {od_Desk_judged an_Desk_judged : Option Addr} {sl_Desk_judged : Array (Option Value)} {oc_law kV_law dc_law pm_law ct_law : Value} {od_law an_law : Option Addr} {sl_law : Array (Option Value)} {i_BadText j_BadText y_BadText : Addr} {va_BadText vb_BadText vc_BadText vd_BadText ve_BadText vf_BadText vg_BadText : Value} {oa_BadText ob_BadText oc_BadText od_BadText : Option Addr} {sa_BadText sb_BadText sc_BadText : Array (Option Value)} {vs_BadText : Array Value} {fi_BadText : Str} {tf_BadText : Tok} {u_MOST_FLAGS : Value} {u_SUBSTITUTES : Value} {vs_Log_init : Array Value} {zo_Log_init : Option Addr} {zs_Log_init : Array (Option Value)} {vs_check_letters : Array Value} {zo_check_letters : Option Addr} {zs_check_letters : Array (Option Value)} {vs_Row_init : Array Value} {zo_Row_init : Option Addr} {zs_Row_init : Array (Option Value)} {vs_minute_of : Array Value} {zo_minute_of : Option Addr} {zs_minute_of : Array (Option Value)} {vs_law_deed : Array Value} {zo_law_deed : Option Addr} {zs_law_deed : Array (Option Value)} {vs_Tally_init : Array Value} {zo_Tally_init : Option Addr} {zs_Tally_init : Array (Option Value)} {vs_law : Array Value} {zo_law : Option Addr} {zs_law : Array (Option Value)}
    (ck_Desk : PySem.W.nsIn K mainGlobals "Desk" = some (some (.ref c_Desk)))
    (ck_Log : PySem.W.nsIn K mainGlobals "Log" = some (some (.ref c_Log)))
    (ck_Row : PySem.W.nsIn K mainGlobals "Row" = some (some (.ref c_Row)))
    (ck_Tally : PySem.W.nsIn K mainGlobals "Tally" = some (some (.ref c_Tally)))
    (nk_law_dice : PySem.W.nsIn K mainGlobals "_law_dice" = some (some (.ref f_law_dice)))
    (lk_law_dice : K.lookup f_law_dice = some ⟨oc_law_dice, od_law_dice, .func (PySem.W.fnOf "_law_dice" "_law_dice" (defArgs s_law_dice) (defBody s_law_dice) (defScope s_law_dice) .none kV_law_dice dc_law_dice pm_law_dice an_law_dice cd_law_dice ct_law_dice), sl_law_dice⟩)
    (dk_law_dice : PySem.W.codeIn K cd_law_dice "_law_dice" = true)
    (kk_law_dice : PySem.W.keepIn K (.ref f_law_dice) = true)
    (nk_law_roll : PySem.W.nsIn K mainGlobals "_law_roll" = some (some (.ref f_law_roll)))
    (lk_law_roll : K.lookup f_law_roll = some ⟨oc_law_roll, od_law_roll, .func (PySem.W.fnOf "_law_roll" "_law_roll" (defArgs s_law_roll) (defBody s_law_roll) (defScope s_law_roll) .none kV_law_roll dc_law_roll pm_law_roll an_law_roll cd_law_roll ct_law_roll), sl_law_roll⟩)
    (dk_law_roll : PySem.W.codeIn K cd_law_roll "_law_roll" = true)
    (kk_law_roll : PySem.W.keepIn K (.ref f_law_roll) = true)
    (nk_law_rounds : PySem.W.nsIn K mainGlobals "_law_rounds" = some (some (.ref f_law_rounds)))
    (lk_law_rounds : K.lookup f_law_rounds = some ⟨oc_law_rounds, od_law_rounds, .func (PySem.W.fnOf "_law_rounds" "_law_rounds" (defArgs s_law_rounds) (defBody s_law_rounds) (defScope s_law_rounds) .none kV_law_rounds dc_law_rounds pm_law_rounds an_law_rounds cd_law_rounds ct_law_rounds), sl_law_rounds⟩)
    (dk_law_rounds : PySem.W.codeIn K cd_law_rounds "_law_rounds" = true)
    (kk_law_rounds : PySem.W.keepIn K (.ref f_law_rounds) = true)
    (nk_law_desk : PySem.W.nsIn K mainGlobals "_law_desk" = some (some (.ref f_law_desk)))
    (lk_law_desk : K.lookup f_law_desk = some ⟨oc_law_desk, od_law_desk, .func (PySem.W.fnOf "_law_desk" "_law_desk" (defArgs s_law_desk) (defBody s_law_desk) (defScope s_law_desk) .none kV_law_desk dc_law_desk pm_law_desk an_law_desk cd_law_desk ct_law_desk), sl_law_desk⟩)
    (dk_law_desk : PySem.W.codeIn K cd_law_desk "_law_desk" = true)
    (kk_law_desk : PySem.W.keepIn K (.ref f_law_desk) = true)
    (nk_Desk_init : PySem.W.findIn K (.ref c_Desk) "__init__" = some (some (.ref f_Desk_init)))
    (ik_Desk_init : PySem.W.isFn K (.ref f_Desk_init) = true)
    (lk_Desk_init : K.lookup f_Desk_init = some ⟨oc_Desk_init, od_Desk_init, .func (PySem.W.fnOf "__init__" "Desk.__init__" (defArgs s_Desk_init) (defBody s_Desk_init) (defScope s_Desk_init) .none kV_Desk_init dc_Desk_init pm_Desk_init an_Desk_init cd_Desk_init ct_Desk_init), sl_Desk_init⟩)
    (dk_Desk_init : PySem.W.codeIn K cd_Desk_init "Desk.__init__" = true)
    (kk_Desk_init : PySem.W.keepIn K (.ref f_Desk_init) = true)
    (nk_Desk_note : PySem.W.findIn K (.ref c_Desk) "note" = some (some (.ref f_Desk_note)))
    (ik_Desk_note : PySem.W.isFn K (.ref f_Desk_note) = true)
    (lk_Desk_note : K.lookup f_Desk_note = some ⟨oc_Desk_note, od_Desk_note, .func (PySem.W.fnOf "note" "Desk.note" (defArgs s_Desk_note) (defBody s_Desk_note) (defScope s_Desk_note) .none kV_Desk_note dc_Desk_note pm_Desk_note an_Desk_note cd_Desk_note ct_Desk_note), sl_Desk_note⟩)
    (dk_Desk_note : PySem.W.codeIn K cd_Desk_note "Desk.note" = true)
    (kk_Desk_note : PySem.W.keepIn K (.ref f_Desk_note) = true)
    (nk_Desk_undo : PySem.W.findIn K (.ref c_Desk) "undo" = some (some (.ref f_Desk_undo)))
    (ik_Desk_undo : PySem.W.isFn K (.ref f_Desk_undo) = true)
    (lk_Desk_undo : K.lookup f_Desk_undo = some ⟨oc_Desk_undo, od_Desk_undo, .func (PySem.W.fnOf "undo" "Desk.undo" (defArgs s_Desk_undo) (defBody s_Desk_undo) (defScope s_Desk_undo) .none kV_Desk_undo dc_Desk_undo pm_Desk_undo an_Desk_undo cd_Desk_undo ct_Desk_undo), sl_Desk_undo⟩)
    (dk_Desk_undo : PySem.W.codeIn K cd_Desk_undo "Desk.undo" = true)
    (kk_Desk_undo : PySem.W.keepIn K (.ref f_Desk_undo) = true)
    (nk_Desk_redo : PySem.W.findIn K (.ref c_Desk) "redo" = some (some (.ref f_Desk_redo)))
    (ik_Desk_redo : PySem.W.isFn K (.ref f_Desk_redo) = true)
    (lk_Desk_redo : K.lookup f_Desk_redo = some ⟨oc_Desk_redo, od_Desk_redo, .func (PySem.W.fnOf "redo" "Desk.redo" (defArgs s_Desk_redo) (defBody s_Desk_redo) (defScope s_Desk_redo) .none kV_Desk_redo dc_Desk_redo pm_Desk_redo an_Desk_redo cd_Desk_redo ct_Desk_redo), sl_Desk_redo⟩)
    (dk_Desk_redo : PySem.W.codeIn K cd_Desk_redo "Desk.redo" = true)
    (kk_Desk_redo : PySem.W.keepIn K (.ref f_Desk_redo) = true)
    (nk_clock_of : PySem.W.nsIn K mainGlobals "clock_of" = some (some (.ref f_clock_of)))
    (lk_clock_of : K.lookup f_clock_of = some ⟨oc_clock_of, od_clock_of, .func (PySem.W.fnOf "clock_of" "clock_of" (defArgs s_clock_of) (defBody s_clock_of) (defScope s_clock_of) .none kV_clock_of dc_clock_of pm_clock_of an_clock_of cd_clock_of ct_clock_of), sl_clock_of⟩)
    (dk_clock_of : PySem.W.codeIn K cd_clock_of "clock_of" = true)
    (kk_clock_of : PySem.W.keepIn K (.ref f_clock_of) = true)
    (nk_Row_said : PySem.W.findIn K (.ref c_Row) "said" = some (some (.ref f_Row_said)))
    (ik_Row_said : PySem.W.isFn K (.ref f_Row_said) = true)
    (lk_Row_said : K.lookup f_Row_said = some ⟨oc_Row_said, od_Row_said, .func (PySem.W.fnOf "said" "Row.said" (defArgs s_Row_said) (defBody s_Row_said) (defScope s_Row_said) .none kV_Row_said dc_Row_said pm_Row_said an_Row_said cd_Row_said ct_Row_said), sl_Row_said⟩)
    (dk_Row_said : PySem.W.codeIn K cd_Row_said "Row.said" = true)
    (kk_Row_said : PySem.W.keepIn K (.ref f_Row_said) = true)
    (nk_Log_said : PySem.W.findIn K (.ref c_Log) "said" = some (some (.ref f_Log_said)))
    (ik_Log_said : PySem.W.isFn K (.ref f_Log_said) = true)
    (lk_Log_said : K.lookup f_Log_said = some ⟨oc_Log_said, od_Log_said, .func (PySem.W.fnOf "said" "Log.said" (defArgs s_Log_said) (defBody s_Log_said) (defScope s_Log_said) .none kV_Log_said dc_Log_said pm_Log_said an_Log_said cd_Log_said ct_Log_said), sl_Log_said⟩)
    (dk_Log_said : PySem.W.codeIn K cd_Log_said "Log.said" = true)
    (kk_Log_said : PySem.W.keepIn K (.ref f_Log_said) = true)
    (nk_Log_init : PySem.W.findIn K (.ref c_Log) "__init__" = some (some (.ref f_Log_init)))
    (ik_Log_init : PySem.W.isFn K (.ref f_Log_init) = true)
    (lk_Log_init : K.lookup f_Log_init = some ⟨oc_Log_init, od_Log_init, .func (PySem.W.fnOf "__init__" "Log.__init__" (defArgs s_Log_init) (defBody s_Log_init) (defScope s_Log_init) .none kV_Log_init dc_Log_init pm_Log_init an_Log_init (.ref k_Log_init) ct_Log_init), sl_Log_init⟩)
    (dk_Log_init : PySem.W.codeIn K (.ref k_Log_init) "Log.__init__" = true)
    (kk_Log_init : PySem.W.keepIn K (.ref f_Log_init) = true)
    (nk_Log_with_log_row : PySem.W.findIn K (.ref c_Log) "with_log_row" = some (some (.ref f_Log_with_log_row)))
    (ik_Log_with_log_row : PySem.W.isFn K (.ref f_Log_with_log_row) = true)
    (lk_Log_with_log_row : K.lookup f_Log_with_log_row = some ⟨oc_Log_with_log_row, od_Log_with_log_row, .func (PySem.W.fnOf "with_log_row" "Log.with_log_row" (defArgs s_Log_with_log_row) (defBody s_Log_with_log_row) (defScope s_Log_with_log_row) .none kV_Log_with_log_row dc_Log_with_log_row pm_Log_with_log_row an_Log_with_log_row cd_Log_with_log_row ct_Log_with_log_row), sl_Log_with_log_row⟩)
    (dk_Log_with_log_row : PySem.W.codeIn K cd_Log_with_log_row "Log.with_log_row" = true)
    (kk_Log_with_log_row : PySem.W.keepIn K (.ref f_Log_with_log_row) = true)
    (nk_check_letters : PySem.W.nsIn K mainGlobals "check_letters" = some (some (.ref f_check_letters)))
    (lk_check_letters : K.lookup f_check_letters = some ⟨oc_check_letters, od_check_letters, .func (PySem.W.fnOf "check_letters" "check_letters" (defArgs s_check_letters) (defBody s_check_letters) (defScope s_check_letters) .none kV_check_letters dc_check_letters pm_check_letters an_check_letters (.ref k_check_letters) ct_check_letters), sl_check_letters⟩)
    (dk_check_letters : PySem.W.codeIn K (.ref k_check_letters) "check_letters" = true)
    (kk_check_letters : PySem.W.keepIn K (.ref f_check_letters) = true)
    (nk_read_hoist : PySem.W.nsIn K mainGlobals "read_hoist" = some (some (.ref f_read_hoist)))
    (lk_read_hoist : K.lookup f_read_hoist = some ⟨oc_read_hoist, od_read_hoist, .func (PySem.W.fnOf "read_hoist" "read_hoist" (defArgs s_read_hoist) (defBody s_read_hoist) (defScope s_read_hoist) .none kV_read_hoist dc_read_hoist pm_read_hoist an_read_hoist cd_read_hoist ct_read_hoist), sl_read_hoist⟩)
    (dk_read_hoist : PySem.W.codeIn K cd_read_hoist "read_hoist" = true)
    (kk_read_hoist : PySem.W.keepIn K (.ref f_read_hoist) = true)
    (nk_Row_init : PySem.W.findIn K (.ref c_Row) "__init__" = some (some (.ref f_Row_init)))
    (ik_Row_init : PySem.W.isFn K (.ref f_Row_init) = true)
    (lk_Row_init : K.lookup f_Row_init = some ⟨oc_Row_init, od_Row_init, .func (PySem.W.fnOf "__init__" "Row.__init__" (defArgs s_Row_init) (defBody s_Row_init) (defScope s_Row_init) .none kV_Row_init dc_Row_init pm_Row_init an_Row_init (.ref k_Row_init) ct_Row_init), sl_Row_init⟩)
    (dk_Row_init : PySem.W.codeIn K (.ref k_Row_init) "Row.__init__" = true)
    (kk_Row_init : PySem.W.keepIn K (.ref f_Row_init) = true)
    (nk_minute_of : PySem.W.nsIn K mainGlobals "minute_of" = some (some (.ref f_minute_of)))
    (lk_minute_of : K.lookup f_minute_of = some ⟨oc_minute_of, od_minute_of, .func (PySem.W.fnOf "minute_of" "minute_of" (defArgs s_minute_of) (defBody s_minute_of) (defScope s_minute_of) .none kV_minute_of dc_minute_of pm_minute_of an_minute_of (.ref k_minute_of) ct_minute_of), sl_minute_of⟩)
    (dk_minute_of : PySem.W.codeIn K (.ref k_minute_of) "minute_of" = true)
    (kk_minute_of : PySem.W.keepIn K (.ref f_minute_of) = true)
    (nk_read_log_row : PySem.W.nsIn K mainGlobals "read_log_row" = some (some (.ref f_read_log_row)))
    (lk_read_log_row : K.lookup f_read_log_row = some ⟨oc_read_log_row, od_read_log_row, .func (PySem.W.fnOf "read_log_row" "read_log_row" (defArgs s_read_log_row) (defBody s_read_log_row) (defScope s_read_log_row) .none kV_read_log_row dc_read_log_row pm_read_log_row an_read_log_row cd_read_log_row ct_read_log_row), sl_read_log_row⟩)
    (dk_read_log_row : PySem.W.codeIn K cd_read_log_row "read_log_row" = true)
    (kk_read_log_row : PySem.W.keepIn K (.ref f_read_log_row) = true)
    (nk_read_log : PySem.W.nsIn K mainGlobals "read_log" = some (some (.ref f_read_log)))
    (lk_read_log : K.lookup f_read_log = some ⟨oc_read_log, od_read_log, .func (PySem.W.fnOf "read_log" "read_log" (defArgs s_read_log) (defBody s_read_log) (defScope s_read_log) .none kV_read_log dc_read_log pm_read_log an_read_log cd_read_log ct_read_log), sl_read_log⟩)
    (dk_read_log : PySem.W.codeIn K cd_read_log "read_log" = true)
    (kk_read_log : PySem.W.keepIn K (.ref f_read_log) = true)
    (nk_Desk_tell : PySem.W.findIn K (.ref c_Desk) "tell" = some (some (.ref f_Desk_tell)))
    (ik_Desk_tell : PySem.W.isFn K (.ref f_Desk_tell) = true)
    (lk_Desk_tell : K.lookup f_Desk_tell = some ⟨oc_Desk_tell, od_Desk_tell, .func (PySem.W.fnOf "tell" "Desk.tell" (defArgs s_Desk_tell) (defBody s_Desk_tell) (defScope s_Desk_tell) .none kV_Desk_tell dc_Desk_tell pm_Desk_tell an_Desk_tell cd_Desk_tell ct_Desk_tell), sl_Desk_tell⟩)
    (dk_Desk_tell : PySem.W.codeIn K cd_Desk_tell "Desk.tell" = true)
    (kk_Desk_tell : PySem.W.keepIn K (.ref f_Desk_tell) = true)
    (nk_Log_answered_by : PySem.W.findIn K (.ref c_Log) "answered_by" = some (some (.ref f_Log_answered_by)))
    (ik_Log_answered_by : PySem.W.isFn K (.ref f_Log_answered_by) = true)
    (lk_Log_answered_by : K.lookup f_Log_answered_by = some ⟨oc_Log_answered_by, od_Log_answered_by, .func (PySem.W.fnOf "answered_by" "Log.answered_by" (defArgs s_Log_answered_by) (defBody s_Log_answered_by) (defScope s_Log_answered_by) .none kV_Log_answered_by dc_Log_answered_by pm_Log_answered_by an_Log_answered_by cd_Log_answered_by ct_Log_answered_by), sl_Log_answered_by⟩)
    (dk_Log_answered_by : PySem.W.codeIn K cd_Log_answered_by "Log.answered_by" = true)
    (kk_Log_answered_by : PySem.W.keepIn K (.ref f_Log_answered_by) = true)
    (nk_Desk_answer : PySem.W.findIn K (.ref c_Desk) "answer" = some (some (.ref f_Desk_answer)))
    (ik_Desk_answer : PySem.W.isFn K (.ref f_Desk_answer) = true)
    (lk_Desk_answer : K.lookup f_Desk_answer = some ⟨oc_Desk_answer, od_Desk_answer, .func (PySem.W.fnOf "answer" "Desk.answer" (defArgs s_Desk_answer) (defBody s_Desk_answer) (defScope s_Desk_answer) .none kV_Desk_answer dc_Desk_answer pm_Desk_answer an_Desk_answer cd_Desk_answer ct_Desk_answer), sl_Desk_answer⟩)
    (dk_Desk_answer : PySem.W.codeIn K cd_Desk_answer "Desk.answer" = true)
    (kk_Desk_answer : PySem.W.keepIn K (.ref f_Desk_answer) = true)
    (nk_Desk_strike_out : PySem.W.findIn K (.ref c_Desk) "strike_out" = some (some (.ref f_Desk_strike_out)))
    (ik_Desk_strike_out : PySem.W.isFn K (.ref f_Desk_strike_out) = true)
    (lk_Desk_strike_out : K.lookup f_Desk_strike_out = some ⟨oc_Desk_strike_out, od_Desk_strike_out, .func (PySem.W.fnOf "strike_out" "Desk.strike_out" (defArgs s_Desk_strike_out) (defBody s_Desk_strike_out) (defScope s_Desk_strike_out) .none kV_Desk_strike_out dc_Desk_strike_out pm_Desk_strike_out an_Desk_strike_out cd_Desk_strike_out ct_Desk_strike_out), sl_Desk_strike_out⟩)
    (dk_Desk_strike_out : PySem.W.codeIn K cd_Desk_strike_out "Desk.strike_out" = true)
    (kk_Desk_strike_out : PySem.W.keepIn K (.ref f_Desk_strike_out) = true)
    (nk_law_deed : PySem.W.nsIn K mainGlobals "_law_deed" = some (some (.ref f_law_deed)))
    (lk_law_deed : K.lookup f_law_deed = some ⟨oc_law_deed, od_law_deed, .func (PySem.W.fnOf "_law_deed" "_law_deed" (defArgs s_law_deed) (defBody s_law_deed) (defScope s_law_deed) .none kV_law_deed dc_law_deed pm_law_deed an_law_deed (.ref k_law_deed) ct_law_deed), sl_law_deed⟩)
    (dk_law_deed : PySem.W.codeIn K (.ref k_law_deed) "_law_deed" = true)
    (kk_law_deed : PySem.W.keepIn K (.ref f_law_deed) = true)
    (nk_Tally_unanswered : PySem.W.findIn K (.ref c_Tally) "unanswered" = some (some (.ref f_Tally_unanswered)))
    (ik_Tally_unanswered : PySem.W.isFn K (.ref f_Tally_unanswered) = true)
    (lk_Tally_unanswered : K.lookup f_Tally_unanswered = some ⟨oc_Tally_unanswered, od_Tally_unanswered, .func (PySem.W.fnOf "unanswered" "Tally.unanswered" (defArgs s_Tally_unanswered) (defBody s_Tally_unanswered) (defScope s_Tally_unanswered) .none kV_Tally_unanswered dc_Tally_unanswered pm_Tally_unanswered an_Tally_unanswered cd_Tally_unanswered ct_Tally_unanswered), sl_Tally_unanswered⟩)
    (dk_Tally_unanswered : PySem.W.codeIn K cd_Tally_unanswered "Tally.unanswered" = true)
    (kk_Tally_unanswered : PySem.W.keepIn K (.ref f_Tally_unanswered) = true)
    (nk_Tally_init : PySem.W.findIn K (.ref c_Tally) "__init__" = some (some (.ref f_Tally_init)))
    (ik_Tally_init : PySem.W.isFn K (.ref f_Tally_init) = true)
    (lk_Tally_init : K.lookup f_Tally_init = some ⟨oc_Tally_init, od_Tally_init, .func (PySem.W.fnOf "__init__" "Tally.__init__" (defArgs s_Tally_init) (defBody s_Tally_init) (defScope s_Tally_init) .none kV_Tally_init dc_Tally_init pm_Tally_init an_Tally_init (.ref k_Tally_init) ct_Tally_init), sl_Tally_init⟩)
    (dk_Tally_init : PySem.W.codeIn K (.ref k_Tally_init) "Tally.__init__" = true)
    (kk_Tally_init : PySem.W.keepIn K (.ref f_Tally_init) = true)
    (nk_Log_tally : PySem.W.findIn K (.ref c_Log) "tally" = some (some (.ref f_Log_tally)))
    (ik_Log_tally : PySem.W.isFn K (.ref f_Log_tally) = true)
    (lk_Log_tally : K.lookup f_Log_tally = some ⟨oc_Log_tally, od_Log_tally, .func (PySem.W.fnOf "tally" "Log.tally" (defArgs s_Log_tally) (defBody s_Log_tally) (defScope s_Log_tally) .none kV_Log_tally dc_Log_tally pm_Log_tally an_Log_tally cd_Log_tally ct_Log_tally), sl_Log_tally⟩)
    (dk_Log_tally : PySem.W.codeIn K cd_Log_tally "Log.tally" = true)
    (kk_Log_tally : PySem.W.keepIn K (.ref f_Log_tally) = true)
    (nk_Log_words_made : PySem.W.findIn K (.ref c_Log) "words_made" = some (some (.ref f_Log_words_made)))
    (ik_Log_words_made : PySem.W.isFn K (.ref f_Log_words_made) = true)
    (lk_Log_words_made : K.lookup f_Log_words_made = some ⟨oc_Log_words_made, od_Log_words_made, .func (PySem.W.fnOf "words_made" "Log.words_made" (defArgs s_Log_words_made) (defBody s_Log_words_made) (defScope s_Log_words_made) .none kV_Log_words_made dc_Log_words_made pm_Log_words_made an_Log_words_made cd_Log_words_made ct_Log_words_made), sl_Log_words_made⟩)
    (dk_Log_words_made : PySem.W.codeIn K cd_Log_words_made "Log.words_made" = true)
    (kk_Log_words_made : PySem.W.keepIn K (.ref f_Log_words_made) = true)
    (nk_Desk_judged : PySem.W.findIn K (.ref c_Desk) "judged" = some (some (.ref f_Desk_judged)))
    (ik_Desk_judged : PySem.W.isFn K (.ref f_Desk_judged) = true)
    (lk_Desk_judged : K.lookup f_Desk_judged = some ⟨oc_Desk_judged, od_Desk_judged, .func (PySem.W.fnOf "judged" "Desk.judged" (defArgs s_Desk_judged) (defBody s_Desk_judged) (defScope s_Desk_judged) .none kV_Desk_judged dc_Desk_judged pm_Desk_judged an_Desk_judged cd_Desk_judged ct_Desk_judged), sl_Desk_judged⟩)
    (dk_Desk_judged : PySem.W.codeIn K cd_Desk_judged "Desk.judged" = true)
    (kk_Desk_judged : PySem.W.keepIn K (.ref f_Desk_judged) = true)
    (nk_law : PySem.W.nsIn K mainGlobals "law" = some (some (.ref f_law)))
    (lk_law : K.lookup f_law = some ⟨oc_law, od_law, .func (PySem.W.fnOf "law" "law" (defArgs s_law) (defBody s_law) (defScope s_law) .none kV_law dc_law pm_law an_law (.ref k_law) ct_law), sl_law⟩)
    (dk_law : PySem.W.codeIn K (.ref k_law) "law" = true)
    (kk_law : PySem.W.keepIn K (.ref f_law) = true)
    (pg_Tally : PySem.W.plainGet K c_Tally Str.empty = true)
    (hd_Tally : PySem.W.hasDictIn K c_Tally = true)
    (po_Tally : PySem.W.plainOver K c_Tally = true)
    (sa_Tally : PySem.W.findIn K (.ref c_Tally) "__setattr__" = some (some (.builtin "object.__setattr__")))
    (mi_Tally : PySem.W.makesIn K c_Tally = true)
    (kc_Tally : PySem.W.keepIn K (.ref c_Tally) = true)
    (nf_Tally_rows : PySem.W.findIn K (.ref c_Tally) "rows" = some none)
    (pg_Row : PySem.W.plainGet K c_Row Str.empty = true)
    (hd_Row : PySem.W.hasDictIn K c_Row = true)
    (po_Row : PySem.W.plainOver K c_Row = true)
    (sa_Row : PySem.W.findIn K (.ref c_Row) "__setattr__" = some (some (.builtin "object.__setattr__")))
    (mi_Row : PySem.W.makesIn K c_Row = true)
    (kc_Row : PySem.W.keepIn K (.ref c_Row) = true)
    (nf_Row_minute : PySem.W.findIn K (.ref c_Row) "minute" = some none)
    (nf_Row_ship : PySem.W.findIn K (.ref c_Row) "ship" = some none)
    (nf_Row_hoist : PySem.W.findIn K (.ref c_Row) "hoist" = some none)
    (nf_Row_answered : PySem.W.findIn K (.ref c_Row) "answered" = some none)
    (pg_Log : PySem.W.plainGet K c_Log Str.empty = true)
    (hd_Log : PySem.W.hasDictIn K c_Log = true)
    (po_Log : PySem.W.plainOver K c_Log = true)
    (sa_Log : PySem.W.findIn K (.ref c_Log) "__setattr__" = some (some (.builtin "object.__setattr__")))
    (mi_Log : PySem.W.makesIn K c_Log = true)
    (kc_Log : PySem.W.keepIn K (.ref c_Log) = true)
    (nf_Log_rows : PySem.W.findIn K (.ref c_Log) "rows" = some none)
    (pg_Desk : PySem.W.plainGet K c_Desk Str.empty = true)
    (hd_Desk : PySem.W.hasDictIn K c_Desk = true)
    (po_Desk : PySem.W.plainOver K c_Desk = true)
    (sa_Desk : PySem.W.findIn K (.ref c_Desk) "__setattr__" = some (some (.builtin "object.__setattr__")))
    (mi_Desk : PySem.W.makesIn K c_Desk = true)
    (kc_Desk : PySem.W.keepIn K (.ref c_Desk) = true)
    (nf_Desk_shown : PySem.W.findIn K (.ref c_Desk) "shown" = some none)
    (nf_Desk_deeds : PySem.W.findIn K (.ref c_Desk) "deeds" = some none)
    (nf_Desk_undone : PySem.W.findIn K (.ref c_Desk) "undone" = some none)
    (xn_BadDeed : PySem.W.nsIn K mainGlobals "BadDeed" = some (some (.ref x_BadDeed)))
    (xe_BadDeed : PySem.W.excIn K x_BadDeed [.type "ValueError", .type "Exception", .type "BaseException", .type "object"] "ValueError.__new__" = true)
    (xk_BadDeed : PySem.W.keepIn K (.ref x_BadDeed) = true)
    (xs_BadDeed : PySem.W.subIn K (.ref x_BadDeed) (.type "BaseException") = some true)
    (xt_BadDeed : PySem.W.typeIn K (.ref x_BadDeed) = some (.type "type"))
    (xn_BadText : PySem.W.nsIn K mainGlobals "BadText" = some (some (.ref x_BadText)))
    (xn_BadHoist : PySem.W.nsIn K mainGlobals "BadHoist" = some (some (.ref x_BadHoist)))
    (xe_BadHoist : PySem.W.excIn K x_BadHoist [.type "ValueError", .type "Exception", .type "BaseException", .type "object"] "ValueError.__new__" = true)
    (xk_BadHoist : PySem.W.keepIn K (.ref x_BadHoist) = true)
    (xs_BadHoist : PySem.W.subIn K (.ref x_BadHoist) (.type "BaseException") = some true)
    (xt_BadHoist : PySem.W.typeIn K (.ref x_BadHoist) = some (.type "type"))
    (xn_FlagFault : PySem.W.nsIn K mainGlobals "FlagFault" = some (some (.ref x_FlagFault)))
    (xe_FlagFault : PySem.W.excIn K x_FlagFault [.type "ValueError", .type "Exception", .type "BaseException", .type "object"] "ValueError.__new__" = true)
    (xk_FlagFault : PySem.W.keepIn K (.ref x_FlagFault) = true)
    (xs_FlagFault : PySem.W.subIn K (.ref x_FlagFault) (.type "BaseException") = some true)
    (xt_FlagFault : PySem.W.typeIn K (.ref x_FlagFault) = some (.type "type"))
    (xn_BadBook : PySem.W.nsIn K mainGlobals "BadBook" = some (some (.ref x_BadBook)))
    (xe_BadBook : PySem.W.excIn K x_BadBook [.type "ValueError", .type "Exception", .type "BaseException", .type "object"] "ValueError.__new__" = true)
    (xk_BadBook : PySem.W.keepIn K (.ref x_BadBook) = true)
    (xs_BadBook : PySem.W.subIn K (.ref x_BadBook) (.type "BaseException") = some true)
    (xt_BadBook : PySem.W.typeIn K (.ref x_BadBook) = some (.type "type"))
    (u1_BadText : DSX.supCls K x_BadText = true)
    (u2_BadText : PySem.W.findIn K (.ref x_BadText) "__setattr__" = some (some (.builtin "object.__setattr__")))
    (u3_BadText : PySem.W.subIn K (.ref x_BadText) (.type "BaseException") = some true)
    (u4_BadText : PySem.W.typeIn K (.ref x_BadText) = some (.type "type"))
    (u5_BadText : PySem.W.keepIn K (.ref x_BadText) = true)
    (u6_BadText : PySem.W.findIn K (.ref x_BadText) "__init__" = some (some (.ref i_BadText)))
    (u7_BadText : PySem.W.typeIn K (.ref i_BadText) = some (.type "function"))
    (u8_BadText : PySem.W.mroIn K x_BadText (.ref x_BadText) = some true)
    (u9_BadText : PySem.W.subIn K (.ref x_BadText) (.type "ValueError") = some true)
    (u10_BadText : PySem.W.ks_superIn K x_BadText x_BadText "__init__" = some (some (.builtin "ValueError.__init__")))
    (u11_BadText : PySem.W.nsIn K cStatics "thirdparty.any" = some none)
    (u12_BadText : K.lookup i_BadText = some ⟨va_BadText, oa_BadText, .func (PySem.W.ksFn "__init__" "BadText.__init__" (defArgs s_sup_BadText) (defBody s_sup_BadText) (defScope s_sup_BadText) .none vb_BadText vc_BadText vd_BadText ob_BadText (.ref y_BadText) ve_BadText j_BadText), sa_BadText⟩)
    (u13_BadText : PySem.W.codeIn K (.ref y_BadText) "BadText.__init__" = true)
    (u14_BadText : K.lookup y_BadText = some ⟨vf_BadText, oc_BadText, .fields vs_BadText, sb_BadText⟩)
    (u15_BadText : (vs_BadText[2]? : Option Value) = some (.str fi_BadText tf_BadText))
    (u16_BadText : ((l.prog.main.file : Str) == fi_BadText) = true)
    (u17_BadText : K.lookup j_BadText = some ⟨vg_BadText, od_BadText, .cell (some (.ref x_BadText)), sc_BadText⟩)
    (u18_BadText : PySem.W.findIn K (.ref x_BadText) "row" = some none)
    (u19_BadText : (l.prog.main.scope.names.lookup ("super" : Str)).isSome = false)
    (exu : subB K (excA ⟨f_law_dice, f_law_roll, f_law_rounds, f_law_desk, f_Desk_init, f_Desk_note, f_Desk_undo, f_Desk_redo, f_clock_of, f_Row_said, f_Log_said, f_Log_init, f_Log_with_log_row, f_check_letters, f_read_hoist, f_Row_init, f_minute_of, f_read_log_row, f_read_log, f_Desk_tell, f_Log_answered_by, f_Desk_answer, f_Desk_strike_out, f_law_deed, f_Tally_unanswered, f_Tally_init, f_Log_tally, f_Log_words_made, f_Desk_judged, f_law, c_Tally, c_Row, c_Log, c_Desk, x_BadDeed, x_BadText, x_BadHoist, x_FlagFault, x_BadBook, k_Log_init, t_Log_init, k_check_letters, t_check_letters, k_Row_init, t_Row_init, k_minute_of, t_minute_of, k_law_deed, t_law_deed, k_Tally_init, t_Tally_init, k_law, t_law⟩) 0 excL = true)
    (exq : exmB K (excA ⟨f_law_dice, f_law_roll, f_law_rounds, f_law_desk, f_Desk_init, f_Desk_note, f_Desk_undo, f_Desk_redo, f_clock_of, f_Row_said, f_Log_said, f_Log_init, f_Log_with_log_row, f_check_letters, f_read_hoist, f_Row_init, f_minute_of, f_read_log_row, f_read_log, f_Desk_tell, f_Log_answered_by, f_Desk_answer, f_Desk_strike_out, f_law_deed, f_Tally_unanswered, f_Tally_init, f_Log_tally, f_Log_words_made, f_Desk_judged, f_law, c_Tally, c_Row, c_Log, c_Desk, x_BadDeed, x_BadText, x_BadHoist, x_FlagFault, x_BadBook, k_Log_init, t_Log_init, k_check_letters, t_check_letters, k_Row_init, t_Row_init, k_minute_of, t_minute_of, k_law_deed, t_law_deed, k_Tally_init, t_Tally_init, k_law, t_law⟩) (toldL.map (·.1)) = true)
    (bz_len : PySem.W.nsIn K mainGlobals "len" = some none)
    (bz_str : PySem.W.nsIn K mainGlobals "str" = some none)
    (bz_any : PySem.W.nsIn K mainGlobals "any" = some none)
    (bz_range : PySem.W.nsIn K mainGlobals "range" = some none)
    (bz_super : PySem.W.nsIn K mainGlobals "super" = some none)
    (bz_tuple : PySem.W.nsIn K mainGlobals "tuple" = some none)
    (bz_list : PySem.W.nsIn K mainGlobals "list" = some none)
    (bz_enumerate : PySem.W.nsIn K mainGlobals "enumerate" = some none)
    (bz_int : PySem.W.nsIn K mainGlobals "int" = some none)
    (bz_abs : PySem.W.nsIn K mainGlobals "abs" = some none)
    (cn_MOST_FLAGS : PySem.W.nsIn K mainGlobals "MOST_FLAGS" = some (some u_MOST_FLAGS))
    (cq_MOST_FLAGS : isD K d_MOST_FLAGS u_MOST_FLAGS = true)
    (cn_SUBSTITUTES : PySem.W.nsIn K mainGlobals "SUBSTITUTES" = some (some u_SUBSTITUTES))
    (cq_SUBSTITUTES : isD K d_SUBSTITUTES u_SUBSTITUTES = true)
    (zl_Log_init : K.lookup k_Log_init = some ⟨.type "code", zo_Log_init, .fields vs_Log_init, zs_Log_init⟩)
    (zv_Log_init : (vs_Log_init[11]? : Option Value) = some (.ref t_Log_init))
    (zh_Log_init : PySem.W.codeHdIn K k_Log_init t_Log_init = true)
    (zn_Log_init : K.lookup t_Log_init = none)
    (zt_Log_init : t_Log_init ∈ ts)
    (zl_check_letters : K.lookup k_check_letters = some ⟨.type "code", zo_check_letters, .fields vs_check_letters, zs_check_letters⟩)
    (zv_check_letters : (vs_check_letters[11]? : Option Value) = some (.ref t_check_letters))
    (zh_check_letters : PySem.W.codeHdIn K k_check_letters t_check_letters = true)
    (zn_check_letters : K.lookup t_check_letters = none)
    (zt_check_letters : t_check_letters ∈ ts)
    (zl_Row_init : K.lookup k_Row_init = some ⟨.type "code", zo_Row_init, .fields vs_Row_init, zs_Row_init⟩)
    (zv_Row_init : (vs_Row_init[11]? : Option Value) = some (.ref t_Row_init))
    (zh_Row_init : PySem.W.codeHdIn K k_Row_init t_Row_init = true)
    (zn_Row_init : K.lookup t_Row_init = none)
    (zt_Row_init : t_Row_init ∈ ts)
    (zl_minute_of : K.lookup k_minute_of = some ⟨.type "code", zo_minute_of, .fields vs_minute_of, zs_minute_of⟩)
    (zv_minute_of : (vs_minute_of[11]? : Option Value) = some (.ref t_minute_of))
    (zh_minute_of : PySem.W.codeHdIn K k_minute_of t_minute_of = true)
    (zn_minute_of : K.lookup t_minute_of = none)
    (zt_minute_of : t_minute_of ∈ ts)
    (zl_law_deed : K.lookup k_law_deed = some ⟨.type "code", zo_law_deed, .fields vs_law_deed, zs_law_deed⟩)
    (zv_law_deed : (vs_law_deed[11]? : Option Value) = some (.ref t_law_deed))
    (zh_law_deed : PySem.W.codeHdIn K k_law_deed t_law_deed = true)
    (zn_law_deed : K.lookup t_law_deed = none)
    (zt_law_deed : t_law_deed ∈ ts)
    (zl_Tally_init : K.lookup k_Tally_init = some ⟨.type "code", zo_Tally_init, .fields vs_Tally_init, zs_Tally_init⟩)
    (zv_Tally_init : (vs_Tally_init[11]? : Option Value) = some (.ref t_Tally_init))
    (zh_Tally_init : PySem.W.codeHdIn K k_Tally_init t_Tally_init = true)
    (zn_Tally_init : K.lookup t_Tally_init = none)
    (zt_Tally_init : t_Tally_init ∈ ts)
    (zl_law : K.lookup k_law = some ⟨.type "code", zo_law, .fields vs_law, zs_law⟩)
    (zv_law : (vs_law[11]? : Option Value) = some (.ref t_law))
    (zh_law : PySem.W.codeHdIn K k_law t_law = true)
    (zn_law : K.lookup t_law = none)
    (zt_law : t_law ∈ ts)
    (ne_Log_init_check_letters : t_Log_init ≠ t_check_letters)
    (ne_Log_init_Row_init : t_Log_init ≠ t_Row_init)
    (ne_Log_init_minute_of : t_Log_init ≠ t_minute_of)
    (ne_Log_init_law_deed : t_Log_init ≠ t_law_deed)
    (ne_Log_init_Tally_init : t_Log_init ≠ t_Tally_init)
    (ne_Log_init_law : t_Log_init ≠ t_law)
    (ne_check_letters_Row_init : t_check_letters ≠ t_Row_init)
    (ne_check_letters_minute_of : t_check_letters ≠ t_minute_of)
    (ne_check_letters_law_deed : t_check_letters ≠ t_law_deed)
    (ne_check_letters_Tally_init : t_check_letters ≠ t_Tally_init)
    (ne_check_letters_law : t_check_letters ≠ t_law)
    (ne_Row_init_minute_of : t_Row_init ≠ t_minute_of)
    (ne_Row_init_law_deed : t_Row_init ≠ t_law_deed)
    (ne_Row_init_Tally_init : t_Row_init ≠ t_Tally_init)
    (ne_Row_init_law : t_Row_init ≠ t_law)
    (ne_minute_of_law_deed : t_minute_of ≠ t_law_deed)
    (ne_minute_of_Tally_init : t_minute_of ≠ t_Tally_init)
    (ne_minute_of_law : t_minute_of ≠ t_law)
    (ne_law_deed_Tally_init : t_law_deed ≠ t_Tally_init)
    (ne_law_deed_law : t_law_deed ≠ t_law)
    (ne_Tally_init_law : t_Tally_init ≠ t_law) :
    LawAtS l w K (L2.CX l.prog w) 11 63 "script" mg fa h := by
  have M : ∀ {x : Str} {v : Value}, PySem.W.nsIn K mainGlobals x = some (some v) → mg x = some v := fun e => PySem.W.mg_of X hN e
  have M0 : ∀ {x : Str}, PySem.W.nsIn K mainGlobals x = some none → mg x = none := fun e => PySem.W.mg_none_of X hN e
  have e := hfa.symm.trans (M nk_law)
  have e2 : f_law = fa := by injection e with e; injection e with e; exact e.symm
  subst e2
  have TT : ∀ base : Heap, (∀ p ∈ ([(k_Log_init, t_Log_init), (k_check_letters, t_check_letters), (k_Row_init, t_Row_init), (k_minute_of, t_minute_of), (k_law_deed, t_law_deed), (k_Tally_init, t_Tally_init), (k_law, t_law)] : List (Addr × Addr)), TabB base mg p.1 p.2) → Txt l.prog w K mg base ⟨f_law_dice, f_law_roll, f_law_rounds, f_law_desk, f_Desk_init, f_Desk_note, f_Desk_undo, f_Desk_redo, f_clock_of, f_Row_said, f_Log_said, f_Log_init, f_Log_with_log_row, f_check_letters, f_read_hoist, f_Row_init, f_minute_of, f_read_log_row, f_read_log, f_Desk_tell, f_Log_answered_by, f_Desk_answer, f_Desk_strike_out, f_law_deed, f_Tally_unanswered, f_Tally_init, f_Log_tally, f_Log_words_made, f_Desk_judged, f_law, c_Tally, c_Row, c_Log, c_Desk, x_BadDeed, x_BadText, x_BadHoist, x_FlagFault, x_BadBook, k_Log_init, t_Log_init, k_check_letters, t_check_letters, k_Row_init, t_Row_init, k_minute_of, t_minute_of, k_law_deed, t_law_deed, k_Tally_init, t_Tally_init, k_law, t_law⟩ := fun base hTB => {
    b_len := M0 bz_len,
    b_str := M0 bz_str,
    b_any := M0 bz_any,
    b_range := M0 bz_range,
    b_super := M0 bz_super,
    b_tuple := M0 bz_tuple,
    b_list := M0 bz_list,
    b_enumerate := M0 bz_enumerate,
    b_int := M0 bz_int,
    b_abs := M0 bz_abs,
    g_law_dice := M nk_law_dice,
    e_law_dice := funE_of lk_law_dice dk_law_dice kk_law_dice (fun us hl => match us, hl with | [_], _ => rfl),
    g_law_roll := M nk_law_roll,
    e_law_roll := funE_of lk_law_roll dk_law_roll kk_law_roll (fun us hl => match us, hl with | [_, _], _ => rfl),
    g_law_rounds := M nk_law_rounds,
    e_law_rounds := funE_of lk_law_rounds dk_law_rounds kk_law_rounds (fun us hl => match us, hl with | [_, _], _ => rfl),
    g_law_desk := M nk_law_desk,
    l_told := ⟨_, _, _, _, _, _, _, _, _, lk_law_desk, dk_law_desk, kk_law_desk, .all (fun us hl => match us, hl with | [_], _ => rfl)⟩,
    e_Desk_init := funE_of lk_Desk_init dk_Desk_init kk_Desk_init (fun us hl => match us, hl with | [_], _ => rfl),
    mk_Desk := ⟨mi_Desk, nk_Desk_init, ik_Desk_init, kc_Desk⟩,
    e_Desk_note := funE_of lk_Desk_note dk_Desk_note kk_Desk_note (fun us hl => match us, hl with | [_, _], _ => rfl),
    mt_Desk_note := ⟨nk_Desk_note, ik_Desk_note, kk_Desk_note⟩,
    e_Desk_undo := funE_of lk_Desk_undo dk_Desk_undo kk_Desk_undo (fun us hl => match us, hl with | [_], _ => rfl),
    mt_Desk_undo := ⟨nk_Desk_undo, ik_Desk_undo, kk_Desk_undo⟩,
    e_Desk_redo := funE_of lk_Desk_redo dk_Desk_redo kk_Desk_redo (fun us hl => match us, hl with | [_], _ => rfl),
    mt_Desk_redo := ⟨nk_Desk_redo, ik_Desk_redo, kk_Desk_redo⟩,
    g_clock_of := M nk_clock_of,
    e_clock_of := funE_of lk_clock_of dk_clock_of kk_clock_of (fun us hl => match us, hl with | [_], _ => rfl),
    e_Row_said := funE_of lk_Row_said dk_Row_said kk_Row_said (fun us hl => match us, hl with | [_], _ => rfl),
    mt_Row_said := ⟨nk_Row_said, ik_Row_said, kk_Row_said⟩,
    e_Log_said := funE_of lk_Log_said dk_Log_said kk_Log_said (fun us hl => match us, hl with | [_], _ => rfl),
    mt_Log_said := ⟨nk_Log_said, ik_Log_said, kk_Log_said⟩,
    e_Log_init := funC_of lk_Log_init dk_Log_init kk_Log_init (fun us hl => match us, hl with | [_, _], _ => rfl),
    mk_Log := ⟨mi_Log, nk_Log_init, ik_Log_init, kc_Log⟩,
    e_Log_with_log_row := funE_of lk_Log_with_log_row dk_Log_with_log_row kk_Log_with_log_row (fun us hl => match us, hl with | [_, _], _ => rfl),
    mt_Log_with_log_row := ⟨nk_Log_with_log_row, ik_Log_with_log_row, kk_Log_with_log_row⟩,
    g_check_letters := M nk_check_letters,
    e_check_letters := funC_of lk_check_letters dk_check_letters kk_check_letters (fun us hl => match us, hl with | [_], _ => rfl),
    g_read_hoist := M nk_read_hoist,
    e_read_hoist := funE_of lk_read_hoist dk_read_hoist kk_read_hoist (fun us hl => match us, hl with | [_], _ => rfl),
    e_Row_init := funC_of lk_Row_init dk_Row_init kk_Row_init (fun us hl => match us, hl with | [_, _, _, _, _], _ => rfl),
    mk_Row := ⟨mi_Row, nk_Row_init, ik_Row_init, kc_Row⟩,
    g_minute_of := M nk_minute_of,
    e_minute_of := funC_of lk_minute_of dk_minute_of kk_minute_of (fun us hl => match us, hl with | [_], _ => rfl),
    g_read_log_row := M nk_read_log_row,
    e_read_log_row := funE_of lk_read_log_row dk_read_log_row kk_read_log_row (fun us hl => match us, hl with | [_], _ => rfl),
    g_read_log := M nk_read_log,
    e_read_log := funE_of lk_read_log dk_read_log kk_read_log (fun us hl => match us, hl with | [_], _ => rfl),
    e_Desk_tell := funE_of lk_Desk_tell dk_Desk_tell kk_Desk_tell (fun us hl => match us, hl with | [_, _], _ => rfl),
    mt_Desk_tell := ⟨nk_Desk_tell, ik_Desk_tell, kk_Desk_tell⟩,
    e_Log_answered_by := funE_of lk_Log_answered_by dk_Log_answered_by kk_Log_answered_by (fun us hl => match us, hl with | [_, _, _], _ => rfl),
    mt_Log_answered_by := ⟨nk_Log_answered_by, ik_Log_answered_by, kk_Log_answered_by⟩,
    e_Desk_answer := funE_of lk_Desk_answer dk_Desk_answer kk_Desk_answer (fun us hl => match us, hl with | [_, _, _], _ => rfl),
    mt_Desk_answer := ⟨nk_Desk_answer, ik_Desk_answer, kk_Desk_answer⟩,
    e_Desk_strike_out := funE_of lk_Desk_strike_out dk_Desk_strike_out kk_Desk_strike_out (fun us hl => match us, hl with | [_, _], _ => rfl),
    mt_Desk_strike_out := ⟨nk_Desk_strike_out, ik_Desk_strike_out, kk_Desk_strike_out⟩,
    g_law_deed := M nk_law_deed,
    e_law_deed := funC_of lk_law_deed dk_law_deed kk_law_deed (fun us hl => match us, hl with | [_, _, _], _ => rfl),
    e_Tally_unanswered := funE_of lk_Tally_unanswered dk_Tally_unanswered kk_Tally_unanswered (fun us hl => match us, hl with | [_], _ => rfl),
    mt_Tally_unanswered := ⟨nk_Tally_unanswered, ik_Tally_unanswered, kk_Tally_unanswered⟩,
    e_Tally_init := funC_of lk_Tally_init dk_Tally_init kk_Tally_init (fun us hl => match us, hl with | [_, _], _ => rfl),
    mk_Tally := ⟨mi_Tally, nk_Tally_init, ik_Tally_init, kc_Tally⟩,
    e_Log_tally := funE_of lk_Log_tally dk_Log_tally kk_Log_tally (fun us hl => match us, hl with | [_], _ => rfl),
    mt_Log_tally := ⟨nk_Log_tally, ik_Log_tally, kk_Log_tally⟩,
    e_Log_words_made := funE_of lk_Log_words_made dk_Log_words_made kk_Log_words_made (fun us hl => match us, hl with | [_], _ => rfl),
    mt_Log_words_made := ⟨nk_Log_words_made, ik_Log_words_made, kk_Log_words_made⟩,
    e_Desk_judged := funE_of lk_Desk_judged dk_Desk_judged kk_Desk_judged (fun us hl => match us, hl with | [_], _ => rfl),
    mt_Desk_judged := ⟨nk_Desk_judged, ik_Desk_judged, kk_Desk_judged⟩,
    g_law := M nk_law,
    e_law := funC_of lk_law dk_law kk_law (fun us hl => match us, hl with | [_], _ => rfl),
    g_Tally := M ck_Tally,
    c_Tally := ⟨pg_Tally, hd_Tally, po_Tally, sa_Tally⟩,
    n_Tally_rows := nf_Tally_rows,
    g_Row := M ck_Row,
    c_Row := ⟨pg_Row, hd_Row, po_Row, sa_Row⟩,
    n_Row_minute := nf_Row_minute,
    n_Row_ship := nf_Row_ship,
    n_Row_hoist := nf_Row_hoist,
    n_Row_answered := nf_Row_answered,
    g_Log := M ck_Log,
    c_Log := ⟨pg_Log, hd_Log, po_Log, sa_Log⟩,
    n_Log_rows := nf_Log_rows,
    g_Desk := M ck_Desk,
    c_Desk := ⟨pg_Desk, hd_Desk, po_Desk, sa_Desk⟩,
    n_Desk_shown := nf_Desk_shown,
    n_Desk_deeds := nf_Desk_deeds,
    n_Desk_undone := nf_Desk_undone,
    x_BadDeed := ⟨xe_BadDeed, M xn_BadDeed, xk_BadDeed, xs_BadDeed, xt_BadDeed⟩,
    x_BadText := M xn_BadText,
    x_BadHoist := ⟨xe_BadHoist, M xn_BadHoist, xk_BadHoist, xs_BadHoist, xt_BadHoist⟩,
    x_FlagFault := ⟨xe_FlagFault, M xn_FlagFault, xk_FlagFault, xs_FlagFault, xt_FlagFault⟩,
    x_BadBook := ⟨xe_BadBook, M xn_BadBook, xk_BadBook, xs_BadBook, xt_BadBook⟩,
    s_BadText := DSX.supC_of (st := s_sup_BadText) (fx := "row") (px := "row") u1_BadText u2_BadText u3_BadText u4_BadText u5_BadText u6_BadText u7_BadText u8_BadText u9_BadText u10_BadText u11_BadText (M0 bz_super) u12_BadText u13_BadText u14_BadText u15_BadText u16_BadText u17_BadText u18_BadText u19_BadText rfl rfl rfl (by decide) rfl rfl rfl rfl (by decide) rfl rfl rfl (by decide) (by decide) (fun us hl => match us, hl with | [_, _], _ => rfl),
    sub := fun _ => sub_by exu,
    exm := fun _ => exm_by exq,
    v_MOST_FLAGS := fun _ => glD_of rfl (M cn_MOST_FLAGS) cq_MOST_FLAGS,
    v_SUBSTITUTES := fun _ => glD_of rfl (M cn_SUBSTITUTES) cq_SUBSTITUTES,
    tb_Log_init := hTB (k_Log_init, t_Log_init) (by simp),
    tb_check_letters := hTB (k_check_letters, t_check_letters) (by simp),
    tb_Row_init := hTB (k_Row_init, t_Row_init) (by simp),
    tb_minute_of := hTB (k_minute_of, t_minute_of) (by simp),
    tb_law_deed := hTB (k_law_deed, t_law_deed) (by simp),
    tb_Tally_init := hTB (k_Tally_init, t_Tally_init) (by simp),
    tb_law := hTB (k_law, t_law) (by simp),
    ne_Log_init_check_letters := ne_Log_init_check_letters,
    ne_Log_init_Row_init := ne_Log_init_Row_init,
    ne_Log_init_minute_of := ne_Log_init_minute_of,
    ne_Log_init_law_deed := ne_Log_init_law_deed,
    ne_Log_init_Tally_init := ne_Log_init_Tally_init,
    ne_Log_init_law := ne_Log_init_law,
    ne_check_letters_Row_init := ne_check_letters_Row_init,
    ne_check_letters_minute_of := ne_check_letters_minute_of,
    ne_check_letters_law_deed := ne_check_letters_law_deed,
    ne_check_letters_Tally_init := ne_check_letters_Tally_init,
    ne_check_letters_law := ne_check_letters_law,
    ne_Row_init_minute_of := ne_Row_init_minute_of,
    ne_Row_init_law_deed := ne_Row_init_law_deed,
    ne_Row_init_Tally_init := ne_Row_init_Tally_init,
    ne_Row_init_law := ne_Row_init_law,
    ne_minute_of_law_deed := ne_minute_of_law_deed,
    ne_minute_of_Tally_init := ne_minute_of_Tally_init,
    ne_minute_of_law := ne_minute_of_law,
    ne_law_deed_Tally_init := ne_law_deed_Tally_init,
    ne_law_deed_law := ne_law_deed_law,
    ne_Tally_init_law := ne_Tally_init_law }
  refine ⟨_, [(k_Log_init, t_Log_init), (k_check_letters, t_check_letters), (k_Row_init, t_Row_init), (k_minute_of, t_minute_of), (k_law_deed, t_law_deed), (k_Tally_init, t_Tally_init), (k_law, t_law)], spLaw K (tabsA ⟨f_law_dice, f_law_roll, f_law_rounds, f_law_desk, f_Desk_init, f_Desk_note, f_Desk_undo, f_Desk_redo, f_clock_of, f_Row_said, f_Log_said, f_Log_init, f_Log_with_log_row, f_check_letters, f_read_hoist, f_Row_init, f_minute_of, f_read_log_row, f_read_log, f_Desk_tell, f_Log_answered_by, f_Desk_answer, f_Desk_strike_out, f_law_deed, f_Tally_unanswered, f_Tally_init, f_Log_tally, f_Log_words_made, f_Desk_judged, f_law, c_Tally, c_Row, c_Log, c_Desk, x_BadDeed, x_BadText, x_BadHoist, x_FlagFault, x_BadBook, k_Log_init, t_Log_init, k_check_letters, t_check_letters, k_Row_init, t_Row_init, k_minute_of, t_minute_of, k_law_deed, t_law_deed, k_Tally_init, t_Tally_init, k_law, t_law⟩), fun p hp => ?_, fun p hp => ?_, fun p hp => ?_, fun s u => .of_eq rfl, fun H a ns hl hb hT hS => ⟨a, ns, rfl, hS, fun p hp => ?_, fun _ => rfl⟩, fun base _ _ hTB => ok_law (TT base hTB) lk_law dk_law hF⟩
  · simp only [List.mem_cons, List.not_mem_nil, or_false] at hp
    rcases hp with rfl | rfl | rfl | rfl | rfl | rfl | rfl
    · exact hTS _ zt_Log_init
    · exact hTS _ zt_check_letters
    · exact hTS _ zt_Row_init
    · exact hTS _ zt_minute_of
    · exact hTS _ zt_law_deed
    · exact hTS _ zt_Tally_init
    · exact hTS _ zt_law
  · simp only [List.mem_cons, List.not_mem_nil, or_false] at hp
    rcases hp with rfl | rfl | rfl | rfl | rfl | rfl | rfl
    · exact zn_Log_init
    · exact zn_check_letters
    · exact zn_Row_init
    · exact zn_minute_of
    · exact zn_law_deed
    · exact zn_Tally_init
    · exact zn_law
  · simp only [List.mem_cons, List.not_mem_nil, or_false] at hp
    rcases hp with rfl | rfl | rfl | rfl | rfl | rfl | rfl
    · exact PySem.W.codeHd_of_K X zh_Log_init
    · exact PySem.W.codeHd_of_K X zh_check_letters
    · exact PySem.W.codeHd_of_K X zh_Row_init
    · exact PySem.W.codeHd_of_K X zh_minute_of
    · exact PySem.W.codeHd_of_K X zh_law_deed
    · exact PySem.W.codeHd_of_K X zh_Tally_init
    · exact PySem.W.codeHd_of_K X zh_law
  · unfold tabsA at hp
    simp only [List.mem_cons, List.not_mem_nil, or_false] at hp
    rcases hp with rfl | rfl | rfl | rfl | rfl | rfl | rfl
    · exact hT (k_Log_init, t_Log_init) (by simp)
    · exact hT (k_check_letters, t_check_letters) (by simp)
    · exact hT (k_Row_init, t_Row_init) (by simp)
    · exact hT (k_minute_of, t_minute_of) (by simp)
    · exact hT (k_law_deed, t_law_deed) (by simp)
    · exact hT (k_Tally_init, t_Tally_init) (by simp)
    · exact hT (k_law, t_law) (by simp)
end K23
set_option Elab.async false
set_option linter.all false
set_option maxRecDepth 100000
namespace DL
noncomputable def bdF {α β : Type} (m : R α) (k : α → R β) : R β := @R.rec α (fun _ => R β) k (fun e => .err e) .stuck (fun m _ ih => .roll m ih) m
theorem bd_f {α β : Type} (m : R α) (k : α → R β) : (m >>= k) = bdF m k := by
  induction m with
  | ok a => rfl
  | err e => rfl
  | stuck => rfl
  | roll m f ih => show R.roll m (fun i => f i >>= k) = R.roll m (fun i => bdF (f i) k); congr; funext i; exact ih i
noncomputable def onF {α : Type} (m : R α) (r : LE) (k : α → R Out) : R Out := @R.rec α (fun _ => R Out) k (fun e => .ok (.ex e r)) .stuck (fun m _ ih => .roll m ih) m
theorem on_f {α : Type} (m : R α) (r : LE) (k : α → R Out) : m.onS r k = onF m r k := by
  induction m with
  | ok a => rfl
  | err e => rfl
  | stuck => rfl
  | roll m f ih => show R.roll m (fun i => (f i).onS r k) = R.roll m (fun i => onF (f i) r k); congr; funext i; exact ih i
noncomputable def cmF {α : Type} (m : R α) : R α := @R.rec α (fun _ => R α) (fun a => .ok a) (fun _ => .stuck) .stuck (fun m _ ih => .roll m ih) m
theorem cm_f {α : Type} (m : R α) : m.calm = cmF m := by
  induction m with
  | ok a => rfl
  | err e => rfl
  | stuck => rfl
  | roll m f ih => show R.roll m (fun i => (f i).calm) = R.roll m (fun i => cmF (f i)); congr; funext i; exact ih i
noncomputable def bifF {α : Type} (b : Bool) (x y : α) : α := @Bool.rec (fun _ => α) y x b
noncomputable def setF (r : LE) : Nat → Cell → LE := @List.rec Cell (fun _ => Nat → Cell → LE) (fun _ _ => []) (fun c t ih i x => @Nat.rec (fun _ => LE) (x :: t) (fun i _ => c :: ih i x) i) r
theorem set_f : ∀ (r : LE) (i : Nat) (x : Cell), r.set i x = setF r i x
  | [], _, _ => rfl
  | c :: r, 0, x => rfl
  | c :: r, i + 1, x => by show c :: r.set i x = c :: setF r i x; rw [set_f r i x]
/-- the state with its cells in sight -/
noncomputable def nfF {α : Type} (r : LE) : (LE → α) → α := @List.rec Cell (fun _ => (LE → α) → α) (fun k => k []) (fun c _ ih k => ih fun t => k (c :: t)) r
theorem nf_f {α : Type} : ∀ (r : LE) (k : LE → α), nfF r k = k r
  | [], k => rfl
  | c :: r, k => by show nfF r (fun t => k (c :: t)) = k (c :: r); rw [nf_f r]
noncomputable def nxF (r : LE) : R Out := nfF r fun r => .ok (.nx r)
theorem nx_f (r : LE) : R.ok (.nx r) = nxF r := by unfold nxF; rw [nf_f]
noncomputable def cellF {α : Type} (c : Cell) (z : α) (f g : D → α) : α := @Cell.rec (fun _ => α) z f g c
noncomputable def blF {α : Type} (d : D) (t f z : α) : α := match d with
  | .bl b => @Bool.rec (fun _ => α) f t b
  | _ => z
noncomputable def andVF (f g : LE → R D) : LE → R D := fun r => bdF (f r) fun d => blF d (g r) (.ok (.bl false)) .stuck
theorem andV_f (f g : LE → R D) : andV f g = andVF f g := by
  funext r; unfold andV andVF; rw [bd_f]; congr; funext d; cases d <;> try rfl
  rename_i b; cases b <;> rfl
noncomputable def opEF (g : D → D → R D) (f k : LE → R D) : LE → R D := fun r => bdF (f r) fun x => bdF (k r) fun y => g x y
noncomputable def lenF {α : Type} (l : List α) : Nat := @List.rec α (fun _ => Nat) 0 (fun _ _ n => Nat.succ n) l
theorem len_f {α : Type} : ∀ l : List α, l.length = lenF l
  | [] => rfl
  | a :: l => by show l.length + 1 = lenF l + 1; rw [len_f l]
/-- at most as long: looked at no further than needed -/
noncomputable def okLenF {α : Type} (l : List α) : Bool := Nat.ble (lenF l) 16777216
noncomputable def valKF (f : LE → R D) : LE → R Cell := fun r => bdF (f r) fun d => .ok (.val d)
theorem valK_f (f : LE → R D) : valK f = valKF f := by funext r; exact bd_f ..
noncomputable def setKF (i : Nat) (f : LE → R Cell) : LE → R Out := fun r => onF (f r) r fun c => cellF c .stuck (fun d => nxF (setF r i (.val d))) (fun d => nxF (setF r i (.own d)))
theorem onF_bdF {α β : Type} (m : R α) (g : α → R β) (r : LE) (k : β → R Out) : onF (bdF m g) r k = onF m r fun x => onF (g x) r k := by
  induction m with
  | ok a => rfl
  | err e => rfl
  | stuck => rfl
  | roll m f ih => show R.roll m (fun i => onF (bdF (f i) g) r k) = R.roll m (fun i => onF (f i) r fun x => onF (g x) r k); congr; funext i; exact ih i
theorem setK_f (i : Nat) (f : LE → R Cell) : setK i f = setKF i f := by
  funext r; unfold setK setKF; rw [bd_f, on_f, onF_bdF]; congr; funext c
  cases c with
  | un => rfl
  | val d => show R.ok (Out.nx (r.set i (.val d))) = nxF _; rw [← nx_f, set_f]
  | own d => show R.ok (Out.nx (r.set i (.own d))) = nxF _; rw [← nx_f, set_f]
noncomputable def parKF (i j : Nat) (f g : LE → R Cell) : LE → R Out := fun r => onF (f r) r fun c => onF (okK c) r fun c => onF (g r) r fun c' => onF (okK c') r fun c' => .ok (.nx (setF (setF r i c) j c'))
end DL
set_option Elab.async false
set_option linter.all false
set_option maxRecDepth 100000
namespace DL
open L2
noncomputable def ieqF (i j : Int) : Bool := @Int.rec (fun _ => Int → Bool) (fun m j => @Int.rec (fun _ => Bool) (fun n => Nat.beq m n) (fun _ => false) j) (fun m j => @Int.rec (fun _ => Bool) (fun _ => false) (fun n => Nat.beq m n) j) i j
noncomputable def seqF (s t : List Nat) : Bool := @List.rec Nat (fun _ => List Nat → Bool) (fun t => @List.rec Nat (fun _ => Bool) true (fun _ _ _ => false) t) (fun a _ ih t => @List.rec Nat (fun _ => Bool) false (fun b u _ => @Bool.rec (fun _ => Bool) false (ih u) (Nat.beq a b)) t) s t
end DL
set_option Elab.async false
set_option linter.all false
set_option maxRecDepth 100000
namespace DL
open L2
noncomputable def key1F (d : D) : Bool := match d with
  | .int _ => true
  | .str _ => true
  | _ => false
noncomputable def keqF (x y : D) : Bool := match x with
  | .int i => (match y with
    | .int j => ieqF i j
    | _ => false)
  | .str s => (match y with
    | .str t => seqF s t
    | _ => false)
  | _ => false
noncomputable def getDF (kvs : List (D × D)) (k : D) : Option D := @List.rec (D × D) (fun _ => Option D) none (fun p _ ih => @Bool.rec (fun _ => Option D) ih (some p.2) (keqF p.1 k)) kvs
noncomputable def nthF {α : Type} (xs : List α) : Nat → Option α := @List.rec α (fun _ => Nat → Option α) (fun _ => none) (fun x _ ih i => @Nat.rec (fun _ => Option α) (some x) (fun i _ => ih i) i) xs
theorem nth_f {α : Type} : ∀ (xs : List α) (i : Nat), xs[i]? = nthF xs i
  | [], i => by simp; rfl
  | x :: xs, 0 => rfl
  | x :: xs, i + 1 => by rw [List.getElem?_cons_succ, nth_f xs i]; rfl
noncomputable def atF {α : Type} (xs : List α) (i : Int) : Option α := @Int.rec (fun _ => Option α) (fun k => nthF xs k) (fun k => @Bool.rec (fun _ => Option α) none (nthF xs (Nat.sub (lenF xs) (Nat.succ k))) (Nat.ble (Nat.succ k) (lenF xs))) i
theorem at_f {α : Type} (xs : List α) (i : Int) : atI xs i = atF xs i := by
  unfold atI ixN
  cases i with
  | ofNat k =>
    show ((if (0 : Int) ≤ (k : Int) then (if (k : Int) < (xs.length : Int) then some (k : Int).toNat else none) else _) : Option Nat).bind (fun j => xs[j]?) = nthF xs k
    rw [if_pos (by omega), ← nth_f]
    by_cases h : k < xs.length
    · rw [if_pos (by omega)]; rfl
    · rw [if_neg (by omega), List.getElem?_eq_none (by omega)]; rfl
  | negSucc k =>
    rw [if_neg (by omega)]
    show _ = @Bool.rec (fun _ => Option α) none (nthF xs (Nat.sub (lenF xs) (Nat.succ k))) (Nat.ble (Nat.succ k) (lenF xs))
    rw [← len_f, ← nth_f]
    cases h : Nat.ble (Nat.succ k) xs.length with
    | true =>
      rw [Nat.ble_eq] at h
      rw [if_pos (by omega)]
      show xs[(Int.negSucc k + (xs.length : Int)).toNat]? = xs[xs.length - (k + 1)]?
      congr 1
      omega
    | false =>
      have h : ¬ k + 1 ≤ xs.length := fun q => by
        have : Nat.ble (Nat.succ k) xs.length = true := by rw [Nat.ble_eq]; exact q
        rw [h] at this; cases this
      rw [if_neg (by omega)]
      rfl
noncomputable def okF {α : Type} (o : Option α) (k : α → D) : R D := @Option.rec α (fun _ => R D) .stuck (fun a => .ok (k a)) o
noncomputable def ixDF (x y : D) : R D := match x with
  | .lst xs => (match y with
    | .int i => okF (atF xs i) fun d => d
    | _ => .stuck)
  | .tup xs => (match y with
    | .int i => okF (atF xs i) fun d => d
    | _ => .stuck)
  | .str s => (match y with
    | .int i => bifF (okLenF s) (okF (atF s i) fun c => .str [c]) .stuck
    | _ => .stuck)
  | _ => .stuck
noncomputable def subIF (x y : D) : R D := match x with
  | .dic kvs => bifF (key1F y) (okF (getDF kvs y) fun d => d) .stuck
  | .cdic kvs => subI (.cdic kvs) y
  | x => ixDF x y
noncomputable def subEF (f k : LE → R D) : LE → R D := fun r => bdF (f r) fun x => bdF (k r) fun y => subIF x y
end DL
set_option Elab.async false
set_option linter.all false
set_option maxRecDepth 100000
namespace DL
open L2 PySem.Spec
end DL
set_option Elab.async false
set_option linter.all false
set_option maxRecDepth 100000
namespace DL
open PySem L2 PySem.Spec PyProof.Rows
/-- all that comes out of it -/
def Ev {α : Type} : R α → (α → Prop) → Prop
  | .ok a, P => P a
  | .err _, _ => True
  | .stuck, _ => True
  | .roll _ k, P => ∀ i, Ev (k i) P
theorem Ev.wp {α : Type} {P Q : α → Prop} {E : Exc → Prop} : ∀ {m : R α}, Ev m P → Wp m Q E → Wp m (fun a => Q a ∧ P a) E
  | .ok _, h, q => ⟨q, h⟩
  | .err _, _, q => q
  | .stuck, _, q => q
  | .roll _ _, h, q => fun i hi => Ev.wp (h i) (q i hi)
theorem Ev.mono {α : Type} {P Q : α → Prop} : ∀ {m : R α}, Ev m P → (∀ a, P a → Q a) → Ev m Q
  | .ok _, h, k => k _ h
  | .err _, _, _ => trivial
  | .stuck, _, _ => trivial
  | .roll _ _, h, k => fun i => Ev.mono (h i) k
theorem Ev.all {α : Type} {P : α → Prop} (h : ∀ a, P a) : ∀ m : R α, Ev m P
  | .ok _ => h _
  | .err _ => trivial
  | .stuck => trivial
  | .roll _ f => fun i => Ev.all h (f i)
/-- only the slots vs are written -/
def Same_ (vs : List Nat) (r r' : LE) : Prop := r'.length = r.length ∧ ∀ j, j ∉ vs → r'[j]? = r[j]?
theorem Same_.refl {vs : List Nat} {r : LE} : Same_ vs r r := ⟨rfl, fun _ _ => rfl⟩
theorem Same_.set {vs : List Nat} {r : LE} {i : Nat} {x : Cell} (h : i ∈ vs) : Same_ vs r (setF r i x) := by
  rw [← set_f]
  exact ⟨List.length_set, fun j hj => List.getElem?_set_ne fun e : i = j => hj (by rw [← e]; exact h)⟩
theorem GoP.set {P : Out → Prop} {f : LE → R D} {i : Nat} {K F : LE → R Out} {r : LE} (e : F = seqS (setKF i (valKF f)) K) {Q : D → Prop} (h : Wr (f r) Q) (k : ∀ d, Q d → GoP P K (r.set i (.val d))) : GoP P F r := by
  subst e
  refine GoP.one (Q := fun r' => ∃ d, Q d ∧ r' = r.set i (.val d)) rfl ?_ fun r' ⟨d, hd, e⟩ => e ▸ k d hd
  rw [← valK_f, ← setK_f]
  exact Wr.run1 ⟨h.h.mono (fun d hd => ⟨d, hd, rfl⟩) fun _ z => z⟩
theorem Wr.eq {α : Type} {m : R α} {a : α} {Q : α → Prop} (h : m = .ok a) (q : Q a) : Wr m Q := ⟨by rw [h]; exact q⟩
theorem Wr.mono {α : Type} {m : R α} {Q Q' : α → Prop} (h : Wr m Q) (k : ∀ a, Q a → Q' a) : Wr m Q' := ⟨h.h.mono k fun _ z => z⟩
theorem Wr.bdF {α β : Type} {m : R α} {k : α → R β} {Q : β → Prop} (h : Wr m (fun a => Wr (k a) Q)) : Wr (DL.bdF m k) Q := ⟨by
  rw [← bd_f]
  exact Wp.of_bind (h.h.mono (fun a ha => ha.h) fun _ z => z)⟩
theorem Wr.ok {α : Type} {a : α} {Q : α → Prop} (q : Q a) : Wr (.ok a) Q := ⟨q⟩
end DL
namespace DL
theorem Same_.none {r r' : LE} (h : Same_ [] r r') : r' = r := List.ext_getElem? fun j => h.2 j (by simp)
theorem Same_.one {i : Nat} {r r' : LE} (h : Same_ [i] r r') : ∃ c, r' = r.set i c := by
  refine ⟨r'.getD i .un, List.ext_getElem? fun j => ?_⟩
  by_cases e : j = i
  · subst e
    by_cases hj : j < r.length
    · rw [List.getElem?_set_self hj, List.getD_eq_getElem?_getD, List.getElem?_eq_getElem (by rw [h.1]; exact hj)]
      rfl
    · rw [List.getElem?_eq_none (by rw [h.1]; omega), List.getElem?_eq_none (by rw [List.length_set]; omega)]
  · rw [h.2 j (by simpa using e), List.getElem?_set_ne (Ne.symm e)]
end DL
set_option Elab.async false
set_option linter.all false
set_option maxRecDepth 100000
namespace DL
open PySem L2 PySem.Spec PyProof.Rows
theorem bdF_ok {α β : Type} (a : α) (k : α → R β) : bdF (.ok a) k = k a := rfl
theorem okLenF_of {α : Type} {l : List α} (h : l.length ≤ 16777216) : okLenF l = true := by
  unfold okLenF
  rw [Nat.ble_eq, ← len_f]
  exact h
end DL
namespace DL
theorem Wr.cm {α : Type} {m : R α} {Q : α → Prop} (h : Wr m Q) : Wr (cmF m) Q := by
  refine ⟨?_⟩
  rw [← cm_f]
  have : ∀ {m : R α}, Wp m Q (fun _ => False) → Wp m.calm Q (fun _ => False) := fun {m} hm => by
    induction m with
    | ok a => exact hm
    | err e => exact hm.elim
    | stuck => exact hm
    | roll n k ih => exact fun i hi => ih i (hm i hi)
  exact this h.h
end DL
set_option Elab.async false
set_option linter.all false
set_option maxRecDepth 100000
namespace DL
open L2 PySem.Spec
end DL
set_option Elab.async false
set_option linter.all false
set_option maxRecDepth 100000
namespace DL
open L2 PySem.Spec
end DL
set_option Elab.async false
set_option linter.all false
set_option maxRecDepth 100000
namespace DL
open PySem L2 PySem.Spec PyProof.Rows
theorem at_last {A : List Nat} {c : Nat} (hl : A.length ≤ 900) : subIF (.str (A ++ [c])) (.int (-1)) = .ok (.str [c]) := by
  show bifF (okLenF (A ++ [c])) (okF (atF (A ++ [c]) (Int.negSucc 0)) fun c => D.str [c]) R.stuck = _
  rw [okLenF_of (by simp; omega), ← at_f]
  have : atI (A ++ [c]) (Int.negSucc 0) = some c := by
    unfold atI ixN
    rw [if_neg (by omega)]
    rw [if_pos (by simp; omega)]
    show (A ++ [c])[(Int.negSucc 0 + ((A ++ [c]).length : Int)).toNat]? = _
    rw [show (Int.negSucc 0 + ((A ++ [c]).length : Int)).toNat = A.length by simp; omega]
    simp
  rw [this]
  rfl
theorem Wr.onF {α : Type} {m : R α} {k : α → R Out} {r : LE} {Q : Out → Prop} (h : Wr m (fun a => Wr (k a) Q)) : Wr (DL.onF m r k) Q := ⟨by
  rw [← on_f]
  exact Wp_onS (h.h.mono (fun a ha => ha.h) fun _ z => z.elim)⟩
theorem Wr.par {i j : Nat} {f g : LE → R D} {r : LE} {P Q : D → Prop} (h1 : Wr (f r) P) (h2 : Wr (g r) Q) : Wr (parKF i j (valKF f) (valKF g) r) (fun o => ∃ r2, o = .nx r2 ∧ ∃ x y, P x ∧ Q y ∧ r2 = setF (setF r i (.val x)) j (.val y)) := by
  refine Wr.onF (Wr.bdF (h1.mono fun x hx => Wr.ok (Wr.onF (Wr.ok (Wr.onF (Wr.bdF (h2.mono fun y hy => Wr.ok (Wr.onF (Wr.ok (Wr.ok ⟨_, rfl, x, y, hx, hy, rfl⟩))))))))))
theorem Wr.sub {f k : LE → R D} {r : LE} {x : D} {P Q : D → Prop} (h1 : f r = .ok x) (h2 : Wr (k r) P) (h3 : ∀ y, P y → Wr (subIF x y) Q) : Wr (subEF f k r) Q := by
  unfold subEF
  rw [h1, bdF_ok]
  exact Wr.bdF (h2.mono fun y hy => h3 y hy)
end DL
set_option Elab.async false
set_option linter.all false
set_option maxRecDepth 100000
namespace DL
open PySem L2 PySem.Spec PyProof.Rows
end DL
set_option Elab.async false
set_option linter.all false
set_option maxRecDepth 100000
namespace DL
open PySem L2 PySem.Spec PyProof.Rows
theorem Wr.op {g : D → D → R D} {f k : LE → R D} {r : LE} {P Q : D → Prop} {x : D} (h1 : f r = .ok x) (h2 : Wr (k r) P) (h3 : ∀ y, P y → Wr (g x y) Q) : Wr (opEF g f k r) Q := by
  show Wr (DL.bdF (f r) _) _
  rw [h1]
  exact Wr.bdF (Wr.ok (Wr.bdF (h2.mono h3)))
end DL
set_option Elab.async false
set_option linter.all false
set_option maxRecDepth 100000
namespace DL
open PySem L2 PySem.Spec PyProof.Rows
theorem Same_.trans {vs : List Nat} {a b c : LE} (h1 : Same_ vs a b) (h2 : Same_ vs b c) : Same_ vs a c := ⟨h2.1.trans h1.1, fun j hj => (h2.2 j hj).trans (h1.2 j hj)⟩
end DL
set_option Elab.async false
set_option linter.all false
set_option maxRecDepth 100000
namespace DL
open PySem L2 PySem.Spec PyProof.Rows
@[simp] theorem asgS_eq (f : LE → R D) (gd : D → LE → Option LE) (r : LE) : asgS f gd r = (f r).onS r fun d => match gd d r with
  | some r' => .ok (.nx r')
  | none => .stuck := rfl
@[simp] theorem gTup_eq (n : Nat) (gs : List D → LE → Option LE) (ds : List D) (r : LE) : gTup_ n gs (.tup ds) r = if ds.length = n then gs ds r else none := rfl
@[simp] theorem gCons_eq (g : D → LE → Option LE) (gs : List D → LE → Option LE) (d : D) (ds : List D) (r : LE) : gCons_ g gs (d :: ds) r = (g d r).bind (gs ds) := rfl
@[simp] theorem gNil_eq (r : LE) : gNil_ [] r = some r := rfl
@[simp] theorem rng2E_eq (fs : LE → R (List D)) (r : LE) : rng2E fs r = fs r >>= rng2 := rfl
@[simp] theorem callF_eq (g : List D → R (List D)) (fs : LE → R (List D)) (r : LE) : callF g fs r = fs r >>= g := rfl
@[simp] theorem noP_eq (r : LE) : noP r = .ok none := rfl
@[simp] theorem someP_int (f : LE → R D) (r : LE) (i : Int) (h : f r = .ok (.int i)) : someP f r = .ok (some i) := by unfold someP; rw [h]; rfl
@[simp] theorem sliceE_eq (f : LE → R D) (l h : LE → R (Option Int)) (r : LE) : sliceE f l h r = f r >>= fun x => l r >>= fun a => h r >>= fun b => slI x a b := rfl
@[simp] theorem slI_tup (xs : List D) (lo hi : Option Int) : slI (.tup xs) lo hi = .ok (.tup (cutD xs lo hi)) := rfl
@[simp] theorem slI_lst (xs : List D) (lo hi : Option Int) : slI (.lst xs) lo hi = .ok (.lst (cutD xs lo hi)) := rfl
@[simp] theorem tupleD_lst (xs : List D) : tupleD [.lst xs] = .ok (.tup xs) := rfl
@[simp] theorem tupleD_tup (xs : List D) : tupleD [.tup xs] = .ok (.tup xs) := rfl
@[simp] theorem listX_lst (xs : List D) : listX [.lst xs] = .ok xs := rfl
@[simp] theorem listX_tup (xs : List D) : listX [.tup xs] = .ok xs := rfl
theorem lenX_str (s : List Nat) (h : s.length ≤ 16777216) : lenX [.str s] = .ok (.int s.length) := if_pos h
@[simp] theorem modD_4 (i : Int) : modD (.int i) (.int 4) = .ok (.int (i % 4)) := rfl
theorem appS_own {i : Nat} {f : LE → R D} {r : LE} {ds : List D} {d : D} (h : r[i]? = some (.own (.lst ds))) (hf : f r = .ok d) (hl : ds.length < 16777216) : appS i f r = .ok (.nx (r.set i (.own (.lst (ds ++ [d]))))) := by
  unfold appS
  rw [h]
  show (f r).onS r _ = _
  rw [hf]
  exact if_pos hl
theorem orT_ff {f g : LE → R Bool} {r : LE} (h1 : f r = .ok false) (h2 : g r = .ok false) : orT f g r = .ok false := by
  rw [orT_eq, h1]
  exact h2
theorem cmpT_ok {g : D → D → R D} {f k : LE → R D} {r : LE} {x y : D} {b : Bool} (h1 : f r = .ok x) (h2 : k r = .ok y) (h3 : g x y = .ok (.bl b)) : cmpT g f k r = .ok b := by
  rw [cmpT_eq, h1, R.ok_bind, h2, R.ok_bind, h3]
  rfl
theorem seqS_go {F K : LE → R Out} {r r' : LE} {x : R Out} (h : F r = .ok (.nx r')) (k : K r' = x) : seqS F K r = x := by rw [seqS_eq, h]; exact k
theorem seqS_rt {F K : LE → R Out} {r : LE} {d : D} (h : F r = .ok (.rt d)) : seqS F K r = .ok (.rt d) := by rw [seqS_eq, h]; rfl
theorem seqS_ex {F K : LE → R Out} {r r' : LE} {e : Exc} (h : F r = .ok (.ex e r')) : seqS F K r = .ok (.ex e r') := by rw [seqS_eq, h]; rfl
theorem retS_ok {f : LE → R D} {r : LE} {d : D} (h : f r = .ok d) : retS f r = .ok (.rt d) := by rw [retS_eq, h]; rfl
theorem setK_val {i : Nat} {f : LE → R D} {r : LE} {d : D} (h : f r = .ok d) : setK i (valK f) r = .ok (.nx (r.set i (.val d))) := by rw [setK_eq, valK_eq, h]; rfl
theorem setK_own {i : Nat} {f : LE → R (List D)} {r : LE} {d : List D} (h : f r = .ok d) : setK i (ownK f) r = .ok (.nx (r.set i (.own (.lst d)))) := by rw [setK_eq, ownK_eq, h]; rfl
theorem forS_ok {fi : LE → R (List D)} {gd : D → LE → Option LE} {F : LE → R Out} {r : LE} {ds : List D} {x : R Out} (h : fi r = .ok ds) (k : loopS gd F ds r = x) : forS fi gd F r = x := by rw [forS_eq, h]; exact k
theorem opE_k {g : D → D → R D} {f k : LE → R D} {r : LE} {x y z : D} (h1 : f r = .ok x) (h2 : k r = .ok y) (h3 : g x y = .ok z) : opE g f k r = .ok z := by rw [opE_eq, h1, R.ok_bind, h2, R.ok_bind, h3]
theorem subE_k {f k : LE → R D} {r : LE} {x y z : D} (h1 : f r = .ok x) (h2 : k r = .ok y) (h3 : subI x y = .ok z) : subE f k r = .ok z := by rw [subE_eq, h1, R.ok_bind, h2, R.ok_bind, h3]
theorem acons_ok {f : LE → R D} {fs : LE → R (List D)} {r : LE} {x : D} {xs : List D} (h1 : f r = .ok x) (h2 : fs r = .ok xs) : acons f fs r = .ok (x :: xs) := by rw [acons_eq, h1, R.ok_bind, h2]; rfl
theorem callE_ok {g : List D → R D} {fs : LE → R (List D)} {r : LE} {xs : List D} {z : D} (h1 : fs r = .ok xs) (h2 : g xs = .ok z) : callE g fs r = .ok z := by rw [callE_eq, h1]; exact h2
theorem callE1_ok {g : List D → R D} {f : LE → R D} {r : LE} {x z : D} (h1 : f r = .ok x) (h2 : g [x] = .ok z) : callE g (acons f anil) r = .ok z := callE_ok (acons_ok h1 (xs := []) rfl) h2
theorem callE4_ok {g : List D → R D} {f k l m : LE → R D} {r : LE} {x y w v z : D} (h1 : f r = .ok x) (h2 : k r = .ok y) (h3 : l r = .ok w) (h4 : m r = .ok v) (h5 : g [x, y, w, v] = .ok z) : callE g (acons f (acons k (acons l (acons m anil)))) r = .ok z := callE_ok (acons_ok h1 (acons_ok h2 (acons_ok h3 (acons_ok h4 (xs := []) rfl)))) h5
theorem meth0_ok {c : Nat} {g : List D → R D} {f : LE → R D} {r : LE} {fs : List D} {z : D} (h1 : f r = .ok (.ins c fs)) (h2 : g [.ins c fs] = .ok z) : meth0E c g f r = .ok z := by rw [meth0E_eq, h1, R.ok_bind, isC_eq]; exact h2
theorem meth_ok {c : Nat} {g : List D → R D} {f : LE → R D} {as : LE → R (List D)} {r : LE} {fs xs : List D} {z : D} (h1 : f r = .ok (.ins c fs)) (h2 : as r = .ok xs) (h3 : g (.ins c fs :: xs) = .ok z) : methE c g f as r = .ok z := by rw [methE_eq, h1, R.ok_bind, isC_eq, R.ok_bind, h2]; exact h3
theorem tupE_ok {fs : LE → R (List D)} {r : LE} {xs : List D} (h : fs r = .ok xs) (hl : xs.length ≤ 1000000) : tupE fs r = .ok (.tup xs) := by rw [tupE_eq, h, R.ok_bind, if_pos (by omega)]
theorem lE_ok {f : LE → R (List D)} {r : LE} {xs : List D} (h : f r = .ok xs) : lE f r = .ok (.lst xs) := by rw [lE_eq, h]; rfl
theorem callF1_k {g : List D → R (List D)} {f : LE → R D} {r : LE} {x : D} {zs : List D} (h1 : f r = .ok x) (h2 : g [x] = .ok zs) : callF g (acons f anil) r = .ok zs := by rw [callF_eq, acons_ok h1 (xs := []) rfl]; exact h2
theorem itT_ok {f : LE → R D} {r : LE} {xs : List D} (h : f r = .ok (.tup xs)) : itT f r = .ok xs := by rw [itT_eq, h]; rfl
theorem rng1E_ok {f : LE → R D} {r : LE} {n : Nat} (h : f r = .ok (.int (n : Nat))) (hn : n ≤ 1000000) : rng1E (acons f anil) r = .ok ((List.range n).map fun k => D.int (k : Nat)) := by
  rw [rng1E_eq, acons_ok h (xs := []) rfl, R.ok_bind]
  unfold rng1
  dsimp only
  rw [if_pos (by omega), Int.toNat_natCast]
  congr 1
  unfold rangeL
  exact List.map_congr_left fun k _ => by rw [Int.zero_add]
theorem ifS_yes {c : LE → R Bool} {F K : LE → R Out} {r : LE} {x : R Out} (h : c r = .ok true) (k : F r = x) : ifS c F K r = x := by rw [ifS_eq, h]; exact k
theorem ifS_no {c : LE → R Bool} {F K : LE → R Out} {r : LE} {x : R Out} (h : c r = .ok false) (k : K r = x) : ifS c F K r = x := by rw [ifS_eq, h]; exact k
theorem iteE_yes {c : LE → R Bool} {f g : LE → R D} {r : LE} {x : D} (h : c r = .ok true) (k : f r = .ok x) : iteE c f g r = .ok x := by rw [iteE_eq, h]; exact k
theorem iteE_no {c : LE → R Bool} {f g : LE → R D} {r : LE} {x : D} (h : c r = .ok false) (k : g r = .ok x) : iteE c f g r = .ok x := by rw [iteE_eq, h]; exact k
theorem valT_ok {f : LE → R D} {r : LE} {b : Bool} (h : f r = .ok (.bl b)) : valT f r = .ok b := by rw [valT_eq, h]; rfl
theorem notT_ok {f : LE → R Bool} {r : LE} {b : Bool} (h : f r = .ok b) : notT f r = .ok (!b) := by rw [notT_eq, h]; rfl
theorem andT_no {f g : LE → R Bool} {r : LE} (h : f r = .ok false) : andT f g r = .ok false := by rw [andT_eq, h]; rfl
theorem andT_yes {f g : LE → R Bool} {r : LE} {b : Bool} (h : f r = .ok true) (h2 : g r = .ok b) : andT f g r = .ok b := by rw [andT_eq, h]; exact h2
theorem orT_yes {f g : LE → R Bool} {r : LE} (h : f r = .ok true) : orT f g r = .ok true := by rw [orT_eq, h]; rfl
theorem bmE_ok {T : String} {gg : D → List D → R D} {f : LE → R D} {fs : LE → R (List D)} {r : LE} {x z : D} {xs : List D} (h1 : f r = .ok x) (h0 : isT T x = .ok x) (h2 : fs r = .ok xs) (h3 : gg x xs = .ok z) : bmE T gg f fs r = .ok z := by rw [bmE_eq, h1, R.ok_bind, h0, R.ok_bind, h2]; exact h3
theorem parK_vv {i j : Nat} {f g : LE → R D} {r : LE} {x y : D} (h1 : f r = .ok x) (h2 : g r = .ok y) : parK i j (valK f) (valK g) r = .ok (.nx ((r.set i (.val x)).set j (.val y))) := by rw [parK_eq, valK_eq, h1, valK_eq, h2]; rfl
/-- over mapped things -/
theorem compF_mapM {α : Type} {fi : LE → R (List D)} {gd : D → LE → Option LE} {te : LE → R D} {vs : List Nat} {r : LE} {e h : α → D} {l : List α} (hf : fi r = .ok (l.map e)) (hl : l.length ≤ 16777216) (q : ∀ a ∈ l, ∃ r', gd (e a) (wipeL r vs) = some r' ∧ te r' = .ok (h a)) :
    compF fi gd yesT te vs r = .ok (l.map h) := by
  rw [compF_eq, hf, R.ok_bind, if_pos (by rw [List.length_map]; exact hl)]
  clear hf hl
  induction l with
  | nil => rfl
  | cons a l ih =>
    obtain ⟨r', h1, h2⟩ := q a List.mem_cons_self
    rw [List.map_cons, loopC_cons, h1]
    dsimp only
    rw [h2, ih fun b hb => q b (List.mem_cons_of_mem _ hb)]
    rfl
theorem compF_fmM {α : Type} {fi : LE → R (List D)} {gd : D → LE → Option LE} {tt : LE → R Bool} {te : LE → R D} {vs : List Nat} {r : LE} {e h : α → D} {p : α → Bool} {l : List α} (hf : fi r = .ok (l.map e)) (hl : l.length ≤ 16777216) (q : ∀ a ∈ l, ∃ r', gd (e a) (wipeL r vs) = some r' ∧ tt r' = .ok (p a) ∧ (p a = true → te r' = .ok (h a))) :
    compF fi gd tt te vs r = .ok ((l.filter p).map h) := by
  rw [compF_eq, hf, R.ok_bind, if_pos (by rw [List.length_map]; exact hl)]
  clear hf hl
  induction l with
  | nil => rfl
  | cons a l ih =>
    obtain ⟨r', h1, h2, h3⟩ := q a List.mem_cons_self
    rw [List.map_cons, loopC_cons, h1]
    dsimp only
    rw [h2, ih fun b hb => q b (List.mem_cons_of_mem _ hb)]
    cases hp : p a with
    | true => rw [List.filter_cons_of_pos hp, h3 hp]; rfl
    | false => rw [List.filter_cons_of_neg (by simp [hp])]; rfl
theorem anyC_allM {α : Type} {x : Bool} {gd : D → LE → Option LE} {te : LE → R D} {r : LE} {e : α → D} : ∀ {l : List α}, (∀ a ∈ l, ∃ r', gd (e a) r = some r' ∧ te r' = .ok (.bl (!x))) → anyC x gd yesT te r (l.map e) = .ok (!x)
  | [], _ => rfl
  | a :: l, q => by
    obtain ⟨r', h1, h2⟩ := q a List.mem_cons_self
    have ih := anyC_allM (x := x) (gd := gd) (te := te) (r := r) (e := e) (l := l) fun b hb => q b (List.mem_cons_of_mem _ hb)
    rw [List.map_cons]
    unfold anyC
    rw [h1]
    show ((te r').calm >>= _) = _
    rw [h2]
    show (if (!x) = x then R.ok x else anyC x gd yesT te r (l.map e)) = _
    rw [if_neg (by cases x <;> simp), ih]
/-- none of them is x -/
theorem anyE_allM {α : Type} {x : Bool} {fi : LE → R (List D)} {gd : D → LE → Option LE} {te : LE → R D} {vs : List Nat} {r : LE} {e : α → D} {l : List α} (hf : fi r = .ok (l.map e)) (q : ∀ a ∈ l, ∃ r', gd (e a) (wipeL r vs) = some r' ∧ te r' = .ok (.bl (!x))) :
    anyE x fi gd yesT te vs r = .ok (.bl (!x)) := by
  unfold anyE
  rw [hf]
  show (anyC x gd yesT te (wipeL r vs) (l.map e) >>= _) = _
  rw [anyC_allM q]
  rfl
theorem loopS_nx {gd : D → LE → Option LE} {body : LE → R Out} {d : D} {ds : List D} {r r' r2 : LE} (h1 : gd d r = some r') (h2 : body r' = .ok (.nx r2)) : loopS gd body (d :: ds) r = loopS gd body ds r2 := by
  rw [loopS.eq_2, h1]
  dsimp only
  rw [h2]
  rfl
/-- every turn goes on -/
theorem loopS_all {α : Type} {gd : D → LE → Option LE} {body : LE → R Out} {e : α → D} (I : List α → LE → Prop) : ∀ {l done : List α} {r : LE}, I done r → (∀ a done r, a ∈ l → I done r → ∃ r' r2, gd (e a) r = some r' ∧ body r' = .ok (.nx r2) ∧ I (done ++ [a]) r2) →
    ∃ r2, loopS gd body (l.map e) r = .ok (.nx r2) ∧ I (done ++ l) r2
  | [], done, r, h, _ => ⟨r, rfl, by simpa using h⟩
  | a :: l, done, r, h, q => by
    obtain ⟨r', r2, h1, h2, h3⟩ := q a done r List.mem_cons_self h
    obtain ⟨r3, h4, h5⟩ := loopS_all I (l := l) h3 fun b d r hb hd => q b d r (List.mem_cons_of_mem _ hb) hd
    refine ⟨r3, ?_, by simpa using h5⟩
    rw [List.map_cons, loopS_nx h1 h2, h4]
theorem cutD_to {α : Type} {s : List α} {k : Nat} : cutD s none (some (k : Int)) = s.take k := by
  unfold cutD
  rw [HT.sIx_none, HT.sIx_nat, List.drop_zero, Nat.sub_zero]
  by_cases h : k ≤ s.length
  · rw [Nat.min_eq_left h]
  · rw [Nat.min_eq_right (by omega), List.take_length, List.take_of_length_le (by omega)]
theorem cutD_from {α : Type} {s : List α} {k : Nat} : cutD s (some (k : Int)) none = s.drop k := by
  unfold cutD
  rw [HT.sIx_none, HT.sIx_nat, List.take_of_length_le (by rw [List.length_drop]; omega)]
  by_cases h : k ≤ s.length
  · rw [Nat.min_eq_left h]
  · rw [Nat.min_eq_right (by omega), List.drop_length, List.drop_eq_nil_of_le (by omega)]
theorem atI_nat {α : Type} {xs : List α} {k : Nat} {d : α} (h : xs[k]? = some d) : atI xs (k : Int) = some d := by
  have hk := (List.getElem?_eq_some_iff.mp h).1
  unfold atI ixN
  rw [if_pos (by omega), if_pos (by omega)]
  simpa using h
theorem subI_lst {xs : List D} {k : Nat} {d : D} (h : xs[k]? = some d) : subI (.lst xs) (.int (k : Nat)) = .ok d := by
  simp only [subI, ixD, atI_nat h]
theorem subI_tup {xs : List D} {k : Nat} {d : D} (h : xs[k]? = some d) : subI (.tup xs) (.int (k : Nat)) = .ok d := by
  simp only [subI, ixD, atI_nat h]
theorem addD_lst {a b : List D} (h : a.length + b.length ≤ 1000000) : addD (.lst a) (.lst b) = .ok (.lst (a ++ b)) := if_pos (by omega)
mutual
theorem eqb_self : ∀ (d : D) (n : Nat), d.sh n = true → d.eqb d = true
  | .non, _, _ => rfl
  | .bl b, _, _ => beq_self_eq_true b
  | .int i, _, _ => beq_self_eq_true i
  | .str s, _, _ => beq_self_eq_true s
  | .lst xs, 0, h => by unfold D.sh at h; cases h
  | .lst xs, n + 1, h => by unfold D.sh at h; unfold D.eqb; exact eqbs_self xs n h
  | .tup xs, 0, h => by unfold D.sh at h; cases h
  | .tup xs, n + 1, h => by unfold D.sh at h; unfold D.eqb; exact eqbs_self xs n h
  | .dic _, _, h => by unfold D.sh at h; cases h
  | .cdic _, _, h => by unfold D.sh at h; cases h
  | .ins _ _, _, h => by unfold D.sh at h; cases h
  | .dice, _, h => by unfold D.sh at h; cases h
  | .fn _, _, h => by unfold D.sh at h; cases h
  | .ktup _, _, h => by unfold D.sh at h; cases h
  | .ctup _, _, h => by unfold D.sh at h; cases h
  | .tdic _, _, h => by unfold D.sh at h; cases h
theorem eqbs_self : ∀ (ds : List D) (n : Nat), D.shs ds n = true → D.eqbs ds ds = true
  | [], _, _ => rfl
  | d :: ds, n, h => by
    unfold D.shs at h
    rw [Bool.and_eq_true] at h
    unfold D.eqbs
    rw [eqb_self d n h.1, eqbs_self ds n h.2]
    rfl
end
theorem neD_self {d : D} (h : d.sh 64 = true) : neD d d = .ok (.bl false) := by
  unfold neD
  rw [h, if_pos (by rw [Bool.or_eq_true]; exact .inr rfl), eqb_self d 64 h]
  rfl
theorem shs_map {α : Type} {e : α → D} {n : Nat} : ∀ {l : List α}, (∀ a ∈ l, (e a).sh n = true) → D.shs (l.map e) n = true
  | [], _ => rfl
  | a :: l, h => by
    rw [List.map_cons]
    unfold D.shs
    rw [h a List.mem_cons_self, shs_map fun b hb => h b (List.mem_cons_of_mem _ hb)]
    rfl
end DL
set_option Elab.async false
set_option linter.all false
set_option maxRecDepth 100000
namespace DL
open PySem L2 PySem.Spec PyProof.Rows
theorem Wr.bindS {α β : Type} {m : R α} {k : α → R β} {Q : β → Prop} (h : Wr m (fun a => Wr (k a) Q)) : Wr (m >>= k) Q := by
  rw [bd_f]
  exact Wr.bdF h
theorem Wr.onS_ {α : Type} {m : R α} {k : α → R Out} {r : LE} {Q : Out → Prop} (h : Wr m (fun a => Wr (k a) Q)) : Wr (m.onS r k) Q := by
  rw [on_f]
  exact Wr.onF h
theorem Wr.calmS {α : Type} {m : R α} {Q : α → Prop} (h : Wr m Q) : Wr m.calm Q := by
  rw [cm_f]
  exact Wr.cm h
theorem rollS {f k : LE → R D} {r : LE} {n : Nat} (h1 : f r = .ok .dice) (h2 : k r = .ok (.int (n : Nat))) (hn : 1 ≤ n) (hn2 : n < 1000000) : Wr (callE rollD (acons f (acons k anil)) r) (fun d => ∃ i, i < n ∧ d = .int (i : Nat)) := by
  rw [callE_eq, acons_ok h1 (acons_ok h2 (xs := []) rfl), R.ok_bind]
  show Wr (if 0 < (n : Int) ∧ (n : Int) < 1000000000 then R.roll (n : Int).toNat (fun i => R.ok (D.int (i : Nat))) else R.stuck) _
  rw [if_pos (by omega)]
  exact ⟨fun i hi => ⟨i, by simpa using hi, rfl⟩⟩
theorem subS_wr {f k : LE → R D} {r : LE} {x : D} {P Q : D → Prop} (h1 : f r = .ok x) (h2 : Wr (k r) P) (h3 : ∀ y, P y → Wr (subI x y) Q) : Wr (subE f k r) Q := by
  rw [subE_eq, h1, R.ok_bind]
  exact Wr.bindS (h2.mono h3)
theorem setK_wr {i : Nat} {f : LE → R D} {r : LE} {Q : D → Prop} (h : Wr (f r) Q) : Wr (setK i (valK f) r) (fun o => ∃ r2, o = .nx r2 ∧ ∃ d, Q d ∧ r2 = r.set i (.val d)) := by
  rw [setK_eq, valK_eq]
  exact Wr.onS_ (Wr.bindS (Wr.bindS (h.mono fun d hd => Wr.ok (Wr.ok (Wr.ok ⟨_, rfl, d, hd, rfl⟩)))))
end DL
set_option Elab.async false
set_option linter.all false
set_option maxRecDepth 100000
namespace DL
open PySem L2 PySem.Spec PyProof.Rows
abbrev nD (n : Nat) : D := .int (n : Int)
theorem runF_rt {n m : Nat} {F : LE → R Out} {ds : List D} {d : D} (hn : ds.length = n) (h : F (ds.map Cell.val ++ List.replicate (m - n) Cell.un) = .ok (.rt d)) : runF n m F ds = .ok d := by
  rw [runF_eq _ _ _ _ hn, h]
  rfl
theorem runF_ex {n m : Nat} {F : LE → R Out} {ds : List D} {e : Exc} {r : LE} (hn : ds.length = n) (h : F (ds.map Cell.val ++ List.replicate (m - n) Cell.un) = .ok (.ex e r)) : runF n m F ds = .err e := by
  rw [runF_eq _ _ _ _ hn, h]
  rfl
theorem runI_nx {c k n m : Nat} {F : LE → R Out} {ds fs : List D} {r : LE} (hn : ds.length = n) (h : F (Cell.own (.ins c []) :: (ds.map Cell.val ++ List.replicate (m - n - 1) Cell.un)) = .ok (.nx r)) (h0 : r[0]? = some (.own (.ins c fs))) (hk : fs.length = k) : runI c k n m F ds = .ok (.ins c fs) := by
  unfold runI
  rw [if_pos hn, h]
  show (match (r[0]? : Option Cell) with
    | some (Cell.own (D.ins c' fs)) => if c' = c ∧ fs.length = k then R.ok (D.ins c fs) else .stuck
    | _ => .stuck) = _
  rw [h0]
  exact if_pos ⟨rfl, hk⟩
theorem runI_ex {c k n m : Nat} {F : LE → R Out} {ds : List D} {e : Exc} {r : LE} (hn : ds.length = n) (h : F (Cell.own (.ins c []) :: (ds.map Cell.val ++ List.replicate (m - n - 1) Cell.un)) = .ok (.ex e r)) : runI c k n m F ds = .err e := by
  unfold runI
  rw [if_pos hn, h]
  rfl
theorem var_k {i : Nat} {r : LE} {d : D} (h : r[i]? = some (.val d)) : var i r = .ok d := by unfold var; rw [h]
theorem varP_o {i : Nat} {r : LE} {d : D} (h : r[i]? = some (.own d)) : varP i r = .ok d := by unfold varP; rw [h]
theorem fld_k {fx : Nat → Option Nat} {f : LE → R D} {r : LE} {x y : D} (h : f r = .ok x) (h2 : fldD fx x = .ok y) : fldE fx f r = .ok y := by unfold fldE; rw [h]; exact h2
theorem orT_k {f g : LE → R Bool} {r : LE} {a b : Bool} (h1 : f r = .ok a) (h2 : g r = .ok b) : orT f g r = .ok (a || b) := by
  rw [orT_eq, h1, R.ok_bind]
  cases a
  · exact h2
  · rfl
theorem iadd_int (a b : Int) : iaddD (.int a) (.int b) = .ok (.int (a + b)) := rfl
theorem addD_nat (a b : Nat) : addD (nD a) (nD b) = .ok (nD (a + b)) := by
  show (R.ok (D.int ((a : Int) + (b : Int))) : R D) = _
  rw [← Int.natCast_add]
theorem neD_nat (a b : Nat) : neD (nD a) (nD b) = .ok (.bl (!decide (a = b))) := by
  unfold neD
  rw [if_pos (by rfl)]
  show R.ok (D.bl (!((a : Int) == (b : Int)))) = _
  congr 3
  rw [Bool.eq_iff_iff]
  simp only [beq_iff_eq, decide_eq_true_eq]
  omega
theorem eqD_nat (a b : Nat) : eqD (nD a) (nD b) = .ok (.bl (decide (a = b))) := by
  unfold eqD
  rw [if_pos (by rfl)]
  show R.ok (D.bl ((a : Int) == (b : Int))) = _
  congr 2
  rw [Bool.eq_iff_iff]
  simp only [beq_iff_eq, decide_eq_true_eq]
  omega
theorem ltD_nat (a b : Nat) : ltD (nD a) (nD b) = .ok (.bl (decide (a < b))) := by
  rw [ltD_int]
  congr 2
  rw [Bool.eq_iff_iff]
  simp only [decide_eq_true_eq]
  omega
theorem leD_nat (a b : Nat) : leD (nD a) (nD b) = .ok (.bl (decide (a ≤ b))) := by
  rw [leD_int]
  congr 2
  rw [Bool.eq_iff_iff]
  simp only [decide_eq_true_eq]
  omega
theorem gtD_nat (a b : Nat) : gtD (nD a) (nD b) = .ok (.bl (decide (a > b))) := by
  rw [gtD_int]
  congr 2
  rw [Bool.eq_iff_iff]
  simp only [decide_eq_true_eq]
  omega
theorem nD_sh (i n : Nat) : (nD i).sh n = true := by
  unfold D.sh
  rfl
theorem nDs_sh (l : List Nat) (n : Nat) : D.shs (l.map nD) n = true := shs_map fun a _ => nD_sh a n
theorem lenX_l (xs : List D) : lenX [.lst xs] = .ok (nD xs.length) := rfl
theorem lenX_t (xs : List D) : lenX [.tup xs] = .ok (nD xs.length) := rfl
theorem rng2_int (b : Int) (hb : b < 1000000) (hc : -1000000 < b) (a : Nat) (ha : a < 1000000) : rng2 [nD a, .int b] = .ok ((List.range (b - a).toNat).map fun i => nD (a + i)) := by
  show (if b < 1073741824 ∧ -(1073741824) < b ∧ (a : Int) < 1073741824 ∧ -(1073741824) < (a : Int) then R.ok (rangeL a (b - a).toNat) else .stuck) = _
  rw [if_pos (by omega)]
  unfold rangeL
  congr 1
theorem rng1_nat (n : Nat) (hn : n ≤ 1000000) : rng1 [nD n] = .ok ((List.range n).map nD) := by
  unfold rng1
  dsimp only
  rw [if_pos (by omega), Int.toNat_natCast]
  congr 1
  unfold rangeL
  exact List.map_congr_left fun k _ => by rw [Int.zero_add]
end DL
namespace DL
open PySem L2 PySem.Spec PyProof.Rows
theorem rng1_roll {f : LE → R D} {k : LE → R D} {r : LE} {n : Nat} (h1 : f r = .ok .dice) (h2 : k r = .ok (.int (n : Nat))) (hn : 1 ≤ n) (hn2 : n < 1000) : Wr (rng1E (acons (callE rollD (acons f (acons k anil))) anil) r) (fun ds => ∃ m, m < n ∧ ds = (List.range m).map nD) := by
  rw [rng1E_eq, acons_eq]
  refine Wr.bindS (Wr.bindS ((rollS h1 h2 hn (by omega)).mono fun d hd => ?_))
  obtain ⟨i, hi, rfl⟩ := hd
  show Wr (R.ok [D.int (i : Nat)]) _
  refine Wr.ok ?_
  rw [rng1_nat i (by omega)]
  exact Wr.ok ⟨i, hi, rfl⟩
end DL
namespace DL
open PySem L2 PySem.Spec PyProof.Rows
def up (f : Nat → Cell) (k : Nat) (c : Cell) : Nat → Cell := fun j => if j = k then c else f j
theorem told_no {l : List (Nat × List Nat)} {f : LE → R D} {r : LE} {d : D} (h : f r = .ok d) : toldE l f r = .ok d := by rw [toldE_eq, h]; rfl
theorem callE_err {g : List D → R D} {fs : LE → R (List D)} {r : LE} {xs : List D} {e : Exc} (h1 : fs r = .ok xs) (h2 : g xs = .err e) : callE g fs r = .err e := by rw [callE_eq, h1]; exact h2
theorem meth_err {c : Nat} {g : List D → R D} {f : LE → R D} {as : LE → R (List D)} {r : LE} {fs xs : List D} {e : Exc} (h1 : f r = .ok (.ins c fs)) (h2 : as r = .ok xs) (h3 : g (.ins c fs :: xs) = .err e) : methE c g f as r = .err e := by rw [methE_eq, h1, R.ok_bind, isC_eq, R.ok_bind, h2]; exact h3
end DL
set_option Elab.async false
set_option linter.all false
set_option maxRecDepth 100000
namespace DL
open PySem L2 PySem.Spec PyProof.Rows
theorem itB_l {f : LE → R D} {r : LE} {xs : List D} (h : f r = .ok (.lst xs)) : itB f r = .ok xs := by unfold itB; rw [h]; rfl
theorem sliceE_to {f k : LE → R D} {r : LE} {xs : List D} {n : Nat} (h : f r = .ok (.lst xs)) (h2 : k r = .ok (nD n)) : sliceE f noP (someP k) r = .ok (.lst (xs.take n)) := by
  rw [sliceE_eq, h, R.ok_bind, noP_eq, R.ok_bind, someP_int k r n h2, R.ok_bind, slI_lst, cutD_to]
theorem sliceE_from {f k : LE → R D} {r : LE} {xs : List D} {n : Nat} (h : f r = .ok (.lst xs)) (h2 : k r = .ok (nD n)) : sliceE f (someP k) noP r = .ok (.lst (xs.drop n)) := by
  rw [sliceE_eq, h, R.ok_bind, someP_int k r n h2, R.ok_bind, noP_eq, R.ok_bind, slI_lst, cutD_from]
theorem sliceT_to {f k : LE → R D} {r : LE} {xs : List D} {n : Nat} (h : f r = .ok (.tup xs)) (h2 : k r = .ok (nD n)) : sliceE f noP (someP k) r = .ok (.tup (xs.take n)) := by
  rw [sliceE_eq, h, R.ok_bind, noP_eq, R.ok_bind, someP_int k r n h2, R.ok_bind, slI_tup, cutD_to]
theorem sliceT_from {f k : LE → R D} {r : LE} {xs : List D} {n : Nat} (h : f r = .ok (.tup xs)) (h2 : k r = .ok (nD n)) : sliceE f (someP k) noP r = .ok (.tup (xs.drop n)) := by
  rw [sliceE_eq, h, R.ok_bind, someP_int k r n h2, R.ok_bind, noP_eq, R.ok_bind, slI_tup, cutD_from]
end DL
set_option Elab.async false
set_option linter.all false
set_option maxRecDepth 100000
namespace DL
open PySem L2 PySem.Spec PyProof.Rows
end DL
set_option Elab.async false
set_option linter.all false
set_option maxRecDepth 100000
namespace DL
open PySem L2 PySem.Spec PyProof.Rows
theorem enumQ_l {f : LE → R D} {r : LE} {xs : List D} (h : f r = .ok (.lst xs)) : enumQE (acons f anil) r = .ok (enumL 0 xs) := by
  show (acons f anil r >>= enumQD) = _
  rw [acons_ok h (xs := []) rfl]
  rfl
end DL
set_option Elab.async false
set_option linter.all false
set_option maxRecDepth 100000
namespace DL
open PySem L2 PySem.Spec PyProof.Rows
theorem tryUS_nx {z : Nat} {ks : List Nat} {F : LE → R Out} {l : List (Nat × (LE → R Out))} {r r' : LE} (h : F r = .ok (.nx r')) : tryUS z ks F l r = .ok (.nx r') := by
  unfold tryUS
  rw [h]
  rfl
theorem dropS_ok {f : LE → R D} {r : LE} {d : D} (h : f r = .ok d) : dropS f r = .ok (.nx r) := by
  unfold dropS
  rw [h]
  rfl
theorem setK_err {i : Nat} {f : LE → R D} {r : LE} {e : Exc} (h : f r = .err e) : setK i (valK f) r = .ok (.ex e r) := by
  rw [setK_eq, valK_eq, h]
  rfl
theorem acons_err1 {f : LE → R D} {fs : LE → R (List D)} {r : LE} {e : Exc} (h : f r = .err e) : acons f fs r = .err e := by rw [acons_eq, h]; rfl
theorem acons_err2 {f : LE → R D} {fs : LE → R (List D)} {r : LE} {x : D} {e : Exc} (h : f r = .ok x) (h2 : fs r = .err e) : acons f fs r = .err e := by rw [acons_eq, h, R.ok_bind, h2]; rfl
theorem meth0_errA {c : Nat} {g : List D → R D} {f : LE → R D} {r : LE} {e : Exc} (h1 : f r = .err e) : meth0E c g f r = .err e := by rw [meth0E_eq, h1]; rfl
theorem join_len (S : List Nat) : ∀ ss : List (List Nat), (TL.joinL S ss).length ≤ (ss.map List.length).sum + S.length * ss.length
  | [] => Nat.zero_le _
  | [a] => by simp [TL.joinL]
  | a :: b :: ss => by
    have ih := join_len S (b :: ss)
    simp only [TL.joinL, List.length_append, List.map_cons, List.sum_cons, List.length_cons] at ih ⊢
    have : S.length * (ss.length + 1 + 1) = S.length * (ss.length + 1) + S.length := Nat.mul_succ _ _
    omega
theorem split_join {c : Nat} (hc : c < 256) {ss : List (List Nat)} (hne : ss ≠ []) (hn : ∀ s ∈ ss, c ∉ s) (hl : (ss.map List.length).sum + ss.length ≤ 16777000) : splitD (.str (TL.joinL [c] ss)) [.str [c]] = .ok (.lst (ss.map D.str)) := by
  have h := join_len [c] ss
  unfold splitD
  dsimp only
  rw [if_pos ⟨by simp, by simp [hc], by simp only [List.length_singleton, Nat.one_mul] at h; omega⟩, SX.spl_join hne hn]
theorem strsD_str : ∀ ss : List (List Nat), strsD (ss.map D.str) = some ss
  | [] => rfl
  | a :: ss => by
    show (strsD (ss.map D.str)).map (a :: ·) = _
    rw [strsD_str ss]
    rfl
theorem join_ok {S : List Nat} {ss : List (List Nat)} (hl : (ss.map List.length).sum + ss.length * S.length ≤ 1000000) : joinD (.str S) [.lst (ss.map D.str)] = .ok (.str (TL.joinL S ss)) := by
  unfold joinD
  dsimp only
  rw [strsD_str]
  dsimp only
  rw [if_pos]
  unfold joinOk
  exact decide_eq_true (by omega)
theorem sum_le {α : Type} (f : α → Nat) (k : Nat) : ∀ l : List α, (∀ a ∈ l, f a ≤ k) → (l.map f).sum ≤ l.length * k
  | [], _ => Nat.zero_le _
  | a :: l, h => by
    have := sum_le f k l fun b hb => h b (List.mem_cons_of_mem _ hb)
    have := h a List.mem_cons_self
    rw [List.map_cons, List.sum_cons, List.length_cons, Nat.succ_mul]
    omega
theorem cmp_wr {g : D → D → R D} {f k : LE → R D} {r : LE} {y : D} {P : D → Prop} (h1 : Wr (f r) P) (h2 : k r = .ok y) (h3 : ∀ x, P x → ∃ b, g x y = .ok (.bl b)) : Wr (cmpT g f k r) (fun _ => True) := by
  show Wr ((f r >>= fun x => k r >>= fun y => g x y) >>= asB) _
  refine Wr.bindS (Wr.bindS (h1.mono fun x hx => ?_))
  obtain ⟨b, e⟩ := h3 x hx
  rw [h2, R.ok_bind, e]
  exact Wr.ok (Wr.ok trivial)
def isS : R D → List Nat → Bool
  | .ok (.str s), t => s == t
  | _, _ => false
theorem isS_eq : ∀ {x : R D} {t : List Nat}, isS x t = true → x = .ok (.str t)
  | .ok (.str s), t, h => by rw [beq_iff_eq.mp (show (s == t) = true from h)]
def isNt : R D → Nat → Bool
  | .ok (.int i), n => i == (n : Int)
  | _, _ => false
theorem isNt_eq : ∀ {x : R D} {n : Nat}, isNt x n = true → x = .ok (nD n)
  | .ok (.int i), n, h => by rw [beq_iff_eq.mp (show (i == (n : Int)) = true from h)]
theorem all_rng {p : Nat → Bool} {n : Nat} (h : ((List.range n).all p) = true) {k : Nat} (hk : k < n) : p k = true := List.all_eq_true.mp h k (List.mem_range.mpr hk)
theorem fdiv_nat (a b : Nat) (h : 0 < b) (h2 : b < 1073741824) : fdivD (nD a) (nD b) = .ok (nD (a / b)) := by
  show (if (0 : Int) < (b : Int) ∧ (b : Int) < 1073741824 then R.ok (D.int ((a : Int) / (b : Int))) else .stuck) = _
  rw [if_pos (by omega)]
  rfl
theorem mod_nat (a b : Nat) (h : 0 < b) : modD (nD a) (nD b) = .ok (nD (a % b)) := by
  show (if (0 : Int) < (b : Int) then R.ok (D.int ((a : Int) % (b : Int))) else .stuck) = _
  rw [if_pos (by omega)]
  rfl
theorem sub_nat1 (n : Nat) (h : 1 ≤ n) : subD (nD n) (nD 1) = .ok (nD (n - 1)) := by
  show R.ok (D.int ((n : Int) - ((1 : Nat) : Int))) = _
  congr 2
  omega
theorem mul_int (a b : Int) (h : -1000000 < a ∧ a < 1000000) : mulD (.int a) (.int b) = .ok (.int (a * b)) := if_pos (.inl (by omega))
theorem mul_nat (a b : Nat) (h : a < 1000000) : mulD (nD a) (nD b) = .ok (nD (a * b)) := by
  refine (mul_int a b (by omega)).trans ?_
  congr 2
theorem len_l {f : LE → R D} {r : LE} {xs : List D} (h : f r = .ok (.lst xs)) : callE lenX (acons f anil) r = .ok (nD xs.length) := callE1_ok h (lenX_l _)
theorem len_t {f : LE → R D} {r : LE} {xs : List D} (h : f r = .ok (.tup xs)) : callE lenX (acons f anil) r = .ok (nD xs.length) := callE1_ok h (lenX_t _)
theorem len_s {f : LE → R D} {r : LE} {s : List Nat} (h : f r = .ok (.str s)) (hl : s.length ≤ 1000) : callE lenX (acons f anil) r = .ok (nD s.length) := callE1_ok h (lenX_str _ (by omega))
theorem itS_k {f : LE → R D} {r : LE} {s : List Nat} (h : f r = .ok (.str s)) : itS f r = .ok (s.map fun c => .str [c]) := by unfold itS; rw [h]; rfl
theorem chain_leN {f1 f2 f3 : LE → R D} {r : LE} {a b c : Nat} (h1 : f1 r = .ok (nD a)) (h2 : f2 r = .ok (nD b)) (h3 : f3 r = .ok (nD c)) : chainT f1 f2 f3 leD ltD r = .ok (decide (a ≤ b) && decide (b < c)) := by
  unfold chainT chainE
  rw [h1, R.ok_bind, h2, R.ok_bind, leD_nat]
  by_cases h : a ≤ b
  · rw [decide_eq_true h, R.ok_bind]
    show ((f3 r >>= fun w => ltD (nD b) w) >>= asB) = _
    rw [h3, R.ok_bind, ltD_nat]
    rfl
  · rw [decide_eq_false h]
    rfl
theorem sliceS_to {f k : LE → R D} {r : LE} {xs : List Nat} {n : Nat} (h : f r = .ok (.str xs)) (h2 : k r = .ok (nD n)) (hl : xs.length ≤ 16777000) : sliceE f noP (someP k) r = .ok (.str (xs.take n)) := by
  rw [sliceE_eq, h, R.ok_bind, noP_eq, R.ok_bind, someP_int k r n h2, R.ok_bind]
  show (if xs.length ≤ 16777216 then R.ok (D.str (cutD xs none (some (n : Int)))) else .stuck) = _
  rw [if_pos (by omega), cutD_to]
theorem sliceS_from {f k : LE → R D} {r : LE} {xs : List Nat} {n : Nat} (h : f r = .ok (.str xs)) (h2 : k r = .ok (nD n)) (hl : xs.length ≤ 16777000) : sliceE f (someP k) noP r = .ok (.str (xs.drop n)) := by
  rw [sliceE_eq, h, R.ok_bind, someP_int k r n h2, R.ok_bind, noP_eq, R.ok_bind]
  show (if xs.length ≤ 16777216 then R.ok (D.str (cutD xs (some (n : Int)) none)) else .stuck) = _
  rw [if_pos (by omega), cutD_from]
theorem add_s {a b : List Nat} (h : a.length + b.length ≤ 1000) : addD (.str a) (.str b) = .ok (.str (a ++ b)) := if_pos (by omega)
theorem callE1_at {g : List D → R D} {f : LE → R D} {r : LE} {x : D} (h : f r = .ok x) : callE g (acons f anil) r = g [x] := by rw [callE_eq, acons_ok h (xs := []) rfl]; rfl
end DL
namespace DL
open PySem L2 PySem.Spec PyProof.Rows
end DL
set_option Elab.async false
set_option linter.all false
set_option maxRecDepth 100000
namespace K23
open DL PySem L2 PySem.Spec PyProof.Rows
def clk (m : Nat) : List Nat := [48 + m / 60 / 10, 48 + m / 60 % 10, 48 + m % 60 / 10, 48 + m % 60 % 10]
def two (k : Nat) : List Nat := [48 + k / 10, 48 + k % 10]
abbrev cellN (k : Nat) : LE := [.val (nD k)]
def zf : LE → R D := bmE "str" zfillD (callE strOf (acons (var 0) anil)) (acons (cst (.int 2)) anil)
theorem two_all : ((List.range 60).all fun k => isS (zf (cellN k)) (two k) && isNt (intY [.str (two k)]) k) = true := by kernel_rfl
theorem zf_ok {k : Nat} (h : k < 60) : zf (cellN k) = .ok (.str (two k)) := by
  have := all_rng two_all h
  simp only [Bool.and_eq_true] at this
  exact isS_eq this.1
theorem int_ok {k : Nat} (h : k < 60) : intY [.str (two k)] = .ok (nD k) := by
  have := all_rng two_all h
  simp only [Bool.and_eq_true] at this
  exact isNt_eq this.2
theorem zf_at {f : LE → R D} {r : LE} {k : Nat} (h : f r = .ok (nD k)) (hk : k < 60) : bmE "str" zfillD (callE strOf (acons f anil)) (acons (cst (.int 2)) anil) r = .ok (.str (two k)) := by
  rw [← zf_ok hk]
  unfold zf
  rw [bmE_eq, bmE_eq, callE1_at h, callE1_at (f := var 0) (r := cellN k) (x := nD k) rfl]
  rfl
theorem clock_ok {m : Nat} (h : m < 1440) : D_clock_of [nD m] = .ok (.str (clk m)) := by
  refine runF_rt rfl ?_
  show F_clock_of (cellN m) = _
  unfold F_clock_of
  exact retS_ok (opE_k (zf_at (k := m / 60) (opE_k (x := nD m) (y := nD 60) rfl rfl (fdiv_nat _ _ (by omega) (by omega))) (by omega)) (zf_at (k := m % 60) (opE_k (x := nD m) (y := nD 60) rfl rfl (mod_nat _ _ (by omega))) (by omega)) (add_s (by simp [two])))
def digs : List Nat := [48, 49, 50, 51, 52, 53, 54, 55, 56, 57]
theorem dig_in : ∀ c : Fin 10, notInD (.str [48 + c.val]) (.str digs) = .ok (.bl false) := by
  intro c
  match c with
  | 0 => kernel_rfl
  | 1 => kernel_rfl
  | 2 => kernel_rfl
  | 3 => kernel_rfl
  | 4 => kernel_rfl
  | 5 => kernel_rfl
  | 6 => kernel_rfl
  | 7 => kernel_rfl
  | 8 => kernel_rfl
  | 9 => kernel_rfl
theorem minute_ok {m : Nat} (h : m < 1440) : D_minute_of [.str (clk m)] = .ok (nD m) := by
  refine runF_rt rfl ?_
  let r0 : LE := [.val (.str (clk m)), .un]
  show F_minute_of r0 = _
  unfold F_minute_of
  have h1 : callE intY (acons (sliceE (var 0) noP (someP (cst (.int 2)))) anil) r0 = .ok (nD (m / 60)) := callE1_ok (sliceS_to (n := 2) rfl rfl (by simp [clk])) (int_ok (by omega))
  have h2 : callE intY (acons (sliceE (var 0) (someP (cst (.int 2))) noP) anil) r0 = .ok (nD (m % 60)) := callE1_ok (sliceS_from (n := 2) rfl rfl (by simp [clk])) (int_ok (by omega))
  refine seqS_go (r' := r0) (ifS_no (orT_ff ?_ ?_) rfl) (seqS_go (r' := r0) (ifS_no (orT_ff ?_ ?_) rfl) ?_)
  · exact cmpT_ok (x := nD 4) (y := nD 4) (len_s (s := clk m) rfl (by simp [clk])) rfl (neD_nat 4 4)
  · refine valT_ok (anyE_allM (x := true) (e := fun c : Fin 10 => .str [48 + c.val]) (l := [⟨m / 60 / 10, by omega⟩, ⟨m / 60 % 10, by omega⟩, ⟨m % 60 / 10, by omega⟩, ⟨m % 60 % 10, by omega⟩]) (itS_k (s := clk m) rfl) fun c _ => ⟨[.val (.str (clk m)), .val (.str [48 + c.val])], rfl, opE_k (x := .str [48 + c.val]) (y := .str digs) rfl rfl (dig_in c)⟩)
  · refine (cmpT_ok h1 (y := nD 23) rfl (gtD_nat _ _)).trans ?_
    rw [decide_eq_false (by omega)]
  · refine (cmpT_ok h2 (y := nD 59) rfl (gtD_nat _ _)).trans ?_
    rw [decide_eq_false (by omega)]
  · refine retS_ok (opE_k (opE_k (x := nD 60) rfl h1 (mul_nat _ _ (by omega))) h2 ((addD_nat _ _).trans ?_))
    rw [show 60 * (m / 60) + m % 60 = m by omega]
def scp (s : Fin 3) : List Nat := match s with
  | 0 => [108, 97, 114, 107]
  | 1 => [119, 114, 101, 110]
  | 2 => [103, 117, 108, 108]
def hcp (h : Fin 5) : List Nat := match h with
  | 0 => [97, 98]
  | 1 => [97, 49]
  | 2 => [97, 98, 99, 50]
  | 3 => [122]
  | 4 => [107]
def rcp (h : Fin 5) : List Nat := match h with
  | 0 => [97, 98]
  | 1 => [97, 97]
  | 2 => [97, 98, 99, 98]
  | 3 => [122]
  | 4 => [107]
structure Rw where
  m : Nat
  s : Fin 3
  h : Fin 5
  a : Option Nat
structure RwOk (r : Rw) : Prop where
  m : r.m < 1440
  a : ∀ b, r.a = some b → r.m ≤ b ∧ b < 1440
def aD : Option Nat → D
  | none => .non
  | some b => nD b
abbrev fs (r : Rw) : List D := [nD r.m, .str (scp r.s), .str (hcp r.h), aD r.a]
def rowI (r : Rw) : D := .ins 1 (fs r)
def ans_ : List Nat := [97, 110, 115, 119, 101, 114, 101, 100]
def words (r : Rw) : List (List Nat) := clk r.m :: scp r.s :: hcp r.h :: (match r.a with
  | none => []
  | some b => [ans_, clk b])
def line (r : Rw) : List Nat := TL.joinL [32] (words r)
theorem three {P : Fin 3 → Prop} (h0 : P 0) (h1 : P 1) (h2 : P 2) (s : Fin 3) : P s := by
  match s with
  | 0 => exact h0
  | 1 => exact h1
  | 2 => exact h2
theorem five {P : Fin 5 → Prop} (h0 : P 0) (h1 : P 1) (h2 : P 2) (h3 : P 3) (h4 : P 4) (s : Fin 5) : P s := by
  match s with
  | 0 => exact h0
  | 1 => exact h1
  | 2 => exact h2
  | 3 => exact h3
  | 4 => exact h4
theorem read_ok (h : Fin 5) : D_read_hoist [.str (hcp h)] = .ok (.str (rcp h)) :=
  five (P := fun h => D_read_hoist [.str (hcp h)] = .ok (.str (rcp h))) (by kernel_rfl) (by kernel_rfl) (by kernel_rfl) (by kernel_rfl) (by kernel_rfl) h
theorem ship_t (c0 c1 c3 c4 c5 : Cell) (s : Fin 3) : orT (cmpT eqD (var 2) (cst (.str []))) (valT (anyE true (itS (var 2)) (gN 5) yesT (opE notInD (var 5) (cst (.str [97, 98, 99, 100, 101, 102, 103, 104, 105, 106, 107, 108, 109, 110, 111, 112, 113, 114, 115, 116, 117, 118, 119, 120, 121, 122]))) [5])) [c0, c1, .val (.str (scp s)), c3, c4, c5] = .ok false :=
  three (P := fun s => orT (cmpT eqD (var 2) (cst (.str []))) (valT (anyE true (itS (var 2)) (gN 5) yesT (opE notInD (var 5) (cst (.str [97, 98, 99, 100, 101, 102, 103, 104, 105, 106, 107, 108, 109, 110, 111, 112, 113, 114, 115, 116, 117, 118, 119, 120, 121, 122]))) [5])) [c0, c1, .val (.str (scp s)), c3, c4, c5] = .ok false) (by kernel_rfl) (by kernel_rfl) (by kernel_rfl) s
abbrev I0 (c0 : Cell) (m : Nat) (s : Fin 3) (h : Fin 5) (a : Option Nat) : LE := [c0, .val (nD m), .val (.str (scp s)), .val (.str (hcp h)), .val (aD a), .un]
theorem time_t {r : Rw} (W : RwOk r) (c0 : Cell) : orT (notT (chainT (cst (.int 0)) (var 1) (cst (.int 1440)) leD ltD)) (andT (valT (notNE (var 4))) (notT (chainT (var 1) (var 4) (cst (.int 1440)) leD ltD))) (I0 c0 r.m r.s r.h r.a) = .ok false := by
  have hm := W.m
  have ha := W.a
  refine orT_ff (notT_ok (b := true) ((chain_leN (a := 0) (b := r.m) (c := 1440) rfl rfl rfl).trans ?_)) ?_
  · rw [decide_eq_true (Nat.zero_le _), decide_eq_true hm]
    rfl
  · cases e : r.a with
    | none => exact andT_no rfl
    | some b =>
      have := ha b e
      refine andT_yes rfl (notT_ok (b := true) ((chain_leN (a := r.m) (b := b) (c := 1440) rfl rfl rfl).trans ?_))
      rw [decide_eq_true this.1, decide_eq_true this.2]
      rfl
theorem init_ok {r : Rw} (W : RwOk r) : D_Row_init (fs r) = .ok (rowI r) := by
  refine runI_nx (r := I0 (.own (rowI r)) r.m r.s r.h r.a) rfl ?_ rfl rfl
  show F_Row_init (I0 (.own (.ins 1 [])) r.m r.s r.h r.a) = _
  unfold F_Row_init
  refine seqS_go (r' := I0 (.own (.ins 1 [])) r.m r.s r.h r.a) (ifS_no (time_t W _) rfl) ?_
  refine seqS_go (r' := I0 (.own (.ins 1 [])) r.m r.s r.h r.a) (ifS_no (ship_t _ _ _ _ _ _) rfl) ?_
  refine seqS_go (r' := I0 (.own (.ins 1 [])) r.m r.s r.h r.a) (dropS_ok (callE1_ok (x := .str (hcp r.h)) rfl (read_ok r.h))) ?_
  rfl
theorem clk_len (m : Nat) : (clk m).length = 4 := rfl
theorem scp_len (s : Fin 3) : (scp s).length = 4 := three (P := fun s => (scp s).length = 4) rfl rfl rfl s
theorem hcp_len (h : Fin 5) : (hcp h).length ≤ 4 := five (P := fun h => (hcp h).length ≤ 4) (by decide) (by decide) (by decide) (by decide) (by decide) h
theorem line_none {r : Rw} (h : r.a = none) : line r = (((clk r.m ++ [32]) ++ scp r.s) ++ [32]) ++ hcp r.h := by
  unfold line words
  rw [h]
  simp only [TL.joinL, List.append_assoc]
theorem line_some {r : Rw} {b : Nat} (h : r.a = some b) : line r = ((((clk r.m ++ [32]) ++ scp r.s) ++ [32]) ++ hcp r.h) ++ ([32, 97, 110, 115, 119, 101, 114, 101, 100, 32] ++ clk b) := by
  unfold line words
  rw [h]
  simp only [TL.joinL, List.append_assoc, ans_]
  rfl
theorem line_len (r : Rw) : (line r).length ≤ 28 := by
  have h1 := scp_len r.s
  have h2 := hcp_len r.h
  cases e : r.a with
  | none =>
    rw [line_none e]
    simp only [List.length_append, clk_len, List.length_cons, List.length_nil]
    omega
  | some b =>
    rw [line_some e]
    simp only [List.length_append, clk_len, List.length_cons, List.length_nil]
    omega
/-- told -/
theorem said_core {r : Rw} {f g h k : LE → R D} {x : LE} (h1 : f x = .ok (.str (clk r.m))) (h2 : g x = .ok (.str (scp r.s))) (h3 : h x = .ok (.str (hcp r.h))) : opE addD (opE addD (opE addD (opE addD f (cst (.str [32]))) g) (cst (.str [32]))) h x = .ok (.str ((((clk r.m ++ [32]) ++ scp r.s) ++ [32]) ++ hcp r.h)) := by
  have e1 := scp_len r.s
  have e2 := hcp_len r.h
  refine opE_k (opE_k (opE_k (opE_k h1 (y := .str [32]) rfl (add_s ?_)) h2 (add_s ?_)) (y := .str [32]) rfl (add_s ?_)) h3 (add_s ?_)
  all_goals simp only [List.length_append, clk_len, List.length_cons, List.length_nil]; omega
theorem end_core {r : Rw} {f g h e : LE → R D} {x : LE} (h1 : f x = .ok (.str ((((clk r.m ++ [32]) ++ scp r.s) ++ [32]) ++ hcp r.h))) (h2 : r.a = none → e x = .ok (.str [])) (h3 : ∀ b, r.a = some b → e x = .ok (.str ([32, 97, 110, 115, 119, 101, 114, 101, 100, 32] ++ clk b))) : opE addD f e x = .ok (.str (line r)) := by
  have e1 := scp_len r.s
  have e2 := hcp_len r.h
  cases ea : r.a with
  | none =>
    refine opE_k h1 (h2 ea) ((add_s ?_).trans ?_)
    · simp only [List.length_append, clk_len, List.length_cons, List.length_nil]; omega
    · rw [List.append_nil, line_none ea]
  | some b =>
    refine opE_k h1 (h3 b ea) ((add_s ?_).trans ?_)
    · simp only [List.length_append, clk_len, List.length_cons, List.length_nil]; omega
    · rw [line_some ea]
theorem isNE_k {f : LE → R D} {r : LE} {a : Option Nat} (h : f r = .ok (aD a)) : valT (isNE f) r = .ok (a.isNone) := by
  refine valT_ok ?_
  unfold isNE
  rw [h]
  cases a <;> rfl
theorem ans_add {b : Nat} {f : LE → R D} {x : LE} (h : f x = .ok (.str (clk b))) : opE addD (cst (.str [32, 97, 110, 115, 119, 101, 114, 101, 100, 32])) f x = .ok (.str ([32, 97, 110, 115, 119, 101, 114, 101, 100, 32] ++ clk b)) :=
  opE_k (x := .str [32, 97, 110, 115, 119, 101, 114, 101, 100, 32]) rfl h (add_s (by simp [clk_len]))
theorem row_said {r : Rw} (W : RwOk r) : D_Row_said [rowI r] = .ok (.str (line r)) := by
  refine runF_rt rfl ?_
  let r0 : LE := [.val (rowI r), .un]
  show F_Row_said r0 = _
  unfold F_Row_said
  let t : D := .str ((((clk r.m ++ [32]) ++ scp r.s) ++ [32]) ++ hcp r.h)
  let r1 : LE := [.val (rowI r), .val t]
  refine seqS_go (r' := r1) ((setK_val (said_core (r := r) (k := var 0) (callE1_ok (x := nD r.m) rfl (clock_ok W.m)) rfl rfl)).trans rfl) ?_
  refine retS_ok (end_core (r := r) (g := var 0) (h := var 0) rfl (fun e => ?_) fun b e => ?_)
  · exact iteE_yes ((isNE_k (a := r.a) rfl).trans (by rw [e]; rfl)) rfl
  · refine iteE_no ((isNE_k (a := r.a) rfl).trans (by rw [e]; rfl)) (ans_add (callE1_ok (x := nD b) ?_ (clock_ok (W.a b e).2)))
    show R.ok (aD r.a) = _
    rw [e]
    rfl
theorem clk_no {c : Nat} (h : c < 48) (m : Nat) : c ∉ clk m := by
  unfold clk
  simp only [List.mem_cons, List.not_mem_nil, or_false, not_or]
  omega
theorem word_no {c : Nat} (h : c < 48) (r : Rw) : ∀ w ∈ words r, c ∉ w := by
  intro w hw
  have h1 : c ∉ scp r.s := three (P := fun s => c ∉ scp s) (by simp [scp]; omega) (by simp [scp]; omega) (by simp [scp]; omega) r.s
  have h2 : c ∉ hcp r.h := five (P := fun s => c ∉ hcp s) (by simp [hcp]; omega) (by simp [hcp]; omega) (by simp [hcp]; omega) (by simp [hcp]; omega) (by simp [hcp]; omega) r.h
  have h3 : c ∉ ans_ := by simp [ans_]; omega
  unfold words at hw
  cases e : r.a with
  | none =>
    rw [e] at hw
    simp only [List.mem_cons, List.not_mem_nil, or_false] at hw
    rcases hw with rfl | rfl | rfl
    · exact clk_no h _
    · exact h1
    · exact h2
  | some b =>
    rw [e] at hw
    simp only [List.mem_cons, List.not_mem_nil, or_false] at hw
    rcases hw with rfl | rfl | rfl | rfl | rfl
    · exact clk_no h _
    · exact h1
    · exact h2
    · exact h3
    · exact clk_no h _
theorem split_line (r : Rw) : splitD (.str (line r)) [.str [32]] = .ok (.lst ((words r).map D.str)) := by
  refine split_join (by omega) (by unfold words; simp) (word_no (by omega) r) ?_
  have h1 := scp_len r.s
  have h2 := hcp_len r.h
  unfold words
  cases r.a with
  | none => simp [clk_len, h1]; omega
  | some b => simp [clk_len, h1, ans_]; omega
theorem read_row {r : Rw} (W : RwOk r) : D_read_log_row [.str (line r)] = .ok (rowI r) := by
  refine runF_rt rfl ?_
  show F_read_log_row [.val (.str (line r)), .un] = _
  unfold F_read_log_row
  let r1 : LE := [.val (.str (line r)), .val (.lst ((words r).map D.str))]
  refine seqS_go (r' := r1) ((setK_val (bmE_ok (x := .str (line r)) rfl rfl (acons_ok (x := .str [32]) rfl (xs := []) rfl) (split_line r))).trans rfl) ?_
  have mk : ∀ {f : LE → R D}, f r1 = .ok (aD r.a) → callE D_Row_init (acons (callE D_minute_of (acons (subE (var 1) (cst (.int 0))) anil)) (acons (subE (var 1) (cst (.int 1))) (acons (subE (var 1) (cst (.int 2))) (acons f anil)))) r1 = .ok (rowI r) := fun {f} hf =>
    callE4_ok (callE1_ok (x := .str (clk r.m)) (subE_k (x := .lst ((words r).map D.str)) (y := nD 0) rfl rfl (subI_lst rfl)) (minute_ok W.m)) (subE_k (x := .lst ((words r).map D.str)) (y := nD 1) rfl rfl (subI_lst rfl)) (subE_k (x := .lst ((words r).map D.str)) (y := nD 2) rfl rfl (subI_lst rfl)) hf (init_ok W)
  have hl : callE lenX (acons (var 1) anil) r1 = .ok (nD (words r).length) := (len_l (xs := (words r).map D.str) rfl).trans (by rw [List.length_map])
  cases e : r.a with
  | none =>
    have hw : (words r).length = 3 := by unfold words; rw [e]; rfl
    rw [hw] at hl
    exact seqS_rt (ifS_yes (cmpT_ok hl (y := nD 3) rfl (eqD_nat 3 3)) (retS_ok (mk (by rw [e]; rfl))))
  | some b =>
    have hw : (words r).length = 5 := by unfold words; rw [e]; rfl
    have h3 : ((words r).map D.str)[3]? = some (.str ans_) := by unfold words; rw [e]; rfl
    have h4 : ((words r).map D.str)[4]? = some (.str (clk b)) := by unfold words; rw [e]; rfl
    rw [hw] at hl
    refine seqS_go (r' := r1) (ifS_no (cmpT_ok hl (y := nD 3) rfl (eqD_nat 5 3)) rfl) (seqS_go (r' := r1) (ifS_no (orT_ff (cmpT_ok hl (y := nD 5) rfl (neD_nat 5 5)) (cmpT_ok (subE_k (x := .lst ((words r).map D.str)) (y := nD 3) rfl rfl (subI_lst h3)) (y := .str ans_) rfl (neD_self (by decide)))) rfl) (retS_ok (mk ?_)))
    rw [e]
    exact callE1_ok (subE_k (x := .lst ((words r).map D.str)) (y := nD 4) rfl rfl (subI_lst h4)) (minute_ok (W.a b e).2)
end K23
set_option Elab.async false
set_option linter.all false
set_option maxRecDepth 100000
namespace K23
open DL PySem L2 PySem.Spec PyProof.Rows
abbrev rowsL (l : List Rw) : List D := l.map rowI
abbrev logI (l : List Rw) : D := .ins 2 [.tup (rowsL l)]
structure LgOk (l : List Rw) : Prop where
  len : l.length ≤ 20
  ok : ∀ r ∈ l, RwOk r
  up : l.Pairwise fun x y => x.m ≤ y.m
theorem LgOk.take {l k : List Rw} (h : LgOk (l ++ k)) : LgOk l := ⟨by have := h.len; rw [List.length_append] at this; omega, fun r hr => h.ok r (List.mem_append_left _ hr), (List.pairwise_append.mp h.up).1⟩
theorem fld_m {f : LE → R D} {r : LE} {x : Rw} (h : f r = .ok (rowI x)) : fldE fx_minute f r = .ok (nD x.m) := fld_k h rfl
theorem fld_s {f : LE → R D} {r : LE} {x : Rw} (h : f r = .ok (rowI x)) : fldE fx_ship f r = .ok (.str (scp x.s)) := fld_k h rfl
theorem fld_h {f : LE → R D} {r : LE} {x : Rw} (h : f r = .ok (rowI x)) : fldE fx_hoist f r = .ok (.str (hcp x.h)) := fld_k h rfl
theorem fld_a {f : LE → R D} {r : LE} {x : Rw} (h : f r = .ok (rowI x)) : fldE fx_answered f r = .ok (aD x.a) := fld_k h rfl
theorem fld_r {f : LE → R D} {r : LE} {l : List Rw} (h : f r = .ok (logI l)) : fldE fx_rows f r = .ok (.tup (rowsL l)) := fld_k h rfl
theorem up_at {l : List Rw} (h : l.Pairwise fun x y => x.m ≤ y.m) {i : Nat} {x y : Rw} (hx : l[i]? = some x) (hy : l[i + 1]? = some y) : x.m ≤ y.m := by
  obtain ⟨h1, rfl⟩ := List.getElem?_eq_some_iff.mp hx
  obtain ⟨h2, rfl⟩ := List.getElem?_eq_some_iff.mp hy
  exact List.pairwise_iff_getElem.mp h i (i + 1) h1 h2 (Nat.lt_succ_self i)
theorem log_core {l : List Rw} (L : LgOk l) {X : D} (h1 : lenX [X] = .ok (nD l.length)) (h2 : ∀ i x, l[i]? = some x → subI X (nD i) = .ok (rowI x)) (h3 : tupleD [X] = .ok (.tup (rowsL l))) : D_Log_init [X] = .ok (logI l) := by
  have hl := L.len
  let r0 : LE := [.own (.ins 2 []), .val X, .un]
  refine runI_nx (r := [.own (logI l), .val X, .un]) rfl ?_ rfl rfl
  show F_Log_init r0 = _
  unfold F_Log_init
  refine seqS_go (r' := r0) (ifS_no (valT_ok (anyE_allM (x := true) (e := fun i => nD (1 + i)) (l := List.range ((l.length : Int) - (1 : Nat)).toNat) ?_ fun i hi => ?_)) rfl) ?_
  · unfold rng2E
    rw [acons_ok (x := nD 1) rfl (acons_ok (callE1_ok (x := X) rfl h1) (xs := []) rfl), R.ok_bind]
    exact rng2_int l.length (by omega) (by omega) 1 (by omega)
  · have hi := List.mem_range.mp hi
    have e1 : l[i]? = some l[i] := List.getElem?_eq_getElem (by omega)
    have e2 : l[i + 1]? = some l[i + 1] := List.getElem?_eq_getElem (by omega)
    let r2 : LE := [.own (.ins 2 []), .val X, .val (nD (1 + i))]
    refine ⟨r2, rfl, ?_⟩
    have k1 : fldE fx_minute (subE (var 1) (var 2)) r2 = .ok (nD l[i + 1].m) := fld_m (subE_k (x := X) (y := nD (1 + i)) rfl rfl (by rw [Nat.add_comm]; exact h2 _ _ e2))
    have k2 : fldE fx_minute (subE (var 1) (opE subD (var 2) (cst (.int 1)))) r2 = .ok (nD l[i].m) := fld_m (subE_k (x := X) (y := nD i) rfl (opE_k (x := nD (1 + i)) (y := nD 1) rfl rfl ((sub_nat1 _ (by omega)).trans (by rw [Nat.add_sub_cancel_left]))) (h2 _ _ e1))
    refine (opE_k k1 k2 (ltD_nat _ _)).trans ?_
    have := up_at L.up e1 e2
    rw [decide_eq_false (by omega)]
    rfl
  · show (match (r0[0]? : Option Cell) with
      | some (Cell.own (D.ins c ds)) => (callE tupleD (acons (var 1) anil) r0).onS r0 fun d => (match fx_rows c with
        | some j => if ds.length = j then .ok (.nx (r0.set 0 (.own (.ins c (ds ++ [d]))))) else .stuck
        | none => .stuck)
      | _ => .stuck) = _
    rw [callE1_ok (x := X) rfl h3]
    rfl
theorem log_l {l : List Rw} (L : LgOk l) : D_Log_init [.lst (rowsL l)] = .ok (logI l) := log_core L ((lenX_l _).trans (by rw [List.length_map])) (fun i x h => subI_lst (by rw [List.getElem?_map, h]; rfl)) rfl
theorem log_t {l : List Rw} (L : LgOk l) : D_Log_init [.tup (rowsL l)] = .ok (logI l) := log_core L ((lenX_t _).trans (by rw [List.length_map])) (fun i x h => subI_tup (by rw [List.getElem?_map, h]; rfl)) rfl
def en : Nat → List (List Nat) → List D
  | _, [] => []
  | k, t :: ts => .tup [nD k, .str t] :: en (k + 1) ts
theorem en_app : ∀ (k : Nat) (a b : List (List Nat)), en k (a ++ b) = en k a ++ en (k + a.length) b
  | k, [], b => rfl
  | k, t :: a, b => by
    show _ :: en (k + 1) (a ++ b) = _ :: (en (k + 1) a ++ _)
    rw [en_app (k + 1) a b, List.length_cons, Nat.add_assoc, Nat.add_comm 1]
theorem enumL_en (T : List (List Nat)) : enumL 0 (T.map D.str) = en 0 T := by
  have : ∀ (T : List (List Nat)) (k : Nat), ((T.map D.str).mapIdx fun i d => D.tup [.int ((0 : Int) + ((k + i : Nat) : Int)), d]) = en k T := fun T => by
    induction T with
    | nil => intro k; rfl
    | cons t T ih =>
      intro k
      rw [List.map_cons, List.mapIdx_cons]
      unfold en
      rw [← ih (k + 1)]
      congr 1
      · show D.tup [.int ((0 : Int) + ((k + 0 : Nat) : Int)), .str t] = _
        rw [Int.zero_add, Nat.add_zero]
      · congr 1
        funext i d
        rw [show k + (i + 1) = k + 1 + i by omega]
  have h := this T 0
  unfold enumL
  refine Eq.trans ?_ h
  congr 1
  funext i d
  rw [Nat.zero_add]
abbrev RS (t : D) (l : List Rw) (c2 c3 : Cell) : LE := [.val t, .own (.lst (rowsL l)), c2, c3]
abbrev gR : D → LE → Option LE := gTup_ 2 (gCons_ (gN 2) (gCons_ (gN 3) gNil_))
abbrev bT : LE → R Out := (tryUS 0 excL
    (appS 1 (callE D_read_log_row (acons (var 3) anil))) [(0, (errES ⟨3, .non⟩ (var 2)))])
abbrev bE : LE → R Out := (ifS (andT (cmpT gtD (var 2) (cst (.int 0))) (cmpT ltD (fldE fx_minute (subE (varP 1) (var 2))) (fldE fx_minute (subE (varP 1) (opE subD (var 2) (cst (.int 1)))))))
    (errES ⟨3, .non⟩ (var 2))
    skipS)
abbrev bR : LE → R Out := seqS bT bE
theorem turn_try {t : D} {l : List Rw} {x : Rw} (hl : l.length ≤ 100) (W : RwOk x) : bT (RS t l (.val (nD l.length)) (.val (.str (line x)))) = .ok (.nx (RS t (l ++ [x]) (.val (nD l.length)) (.val (.str (line x))))) := by
  refine tryUS_nx ?_
  refine (appS_own (ds := rowsL l) (d := rowI x) rfl (callE1_ok (x := .str (line x)) rfl (read_row W)) (by rw [List.length_map]; omega)).trans ?_
  rw [← List.map_singleton, ← List.map_append]
  rfl
theorem at_last (l : List Rw) (x : Rw) (r : LE) (h : r[1]? = some (.own (.lst (rowsL (l ++ [x]))))) (h2 : r[2]? = some (.val (nD l.length))) : fldE fx_minute (subE (varP 1) (var 2)) r = .ok (nD x.m) :=
  fld_m (subE_k (x := .lst (rowsL (l ++ [x]))) (y := nD l.length) (varP_o h) (var_k h2) (subI_lst (by rw [List.getElem?_map, List.getElem?_append_right (Nat.le_refl _), Nat.sub_self]; rfl)))
theorem at_prev {l : List Rw} {y : Rw} (x : Rw) (r : LE) (hy : l[l.length - 1]? = some y) (h0 : 1 ≤ l.length) (h : r[1]? = some (.own (.lst (rowsL (l ++ [x]))))) (h2 : r[2]? = some (.val (nD l.length))) : fldE fx_minute (subE (varP 1) (opE subD (var 2) (cst (.int 1)))) r = .ok (nD y.m) :=
  fld_m (subE_k (x := .lst (rowsL (l ++ [x]))) (y := nD (l.length - 1)) (varP_o h) (opE_k (x := nD l.length) (y := nD 1) (var_k h2) rfl (sub_nat1 _ h0)) (subI_lst (by rw [List.getElem?_map, List.getElem?_append_left (by omega), hy]; rfl)))
theorem end_no {t : D} {l : List Rw} {x : Rw} (L : LgOk (l ++ [x])) (c3 : Cell) : bE (RS t (l ++ [x]) (.val (nD l.length)) c3) = .ok (.nx (RS t (l ++ [x]) (.val (nD l.length)) c3)) := by
  refine ifS_no ?_ rfl
  have hg : cmpT gtD (var 2) (cst (.int 0)) (RS t (l ++ [x]) (.val (nD l.length)) c3) = .ok (decide (l.length > 0)) := cmpT_ok (x := nD l.length) (y := nD 0) rfl rfl (gtD_nat _ _)
  by_cases h : l.length = 0
  · refine andT_no (hg.trans ?_)
    rw [decide_eq_false (by omega)]
  · have hy : l[l.length - 1]? = some l[l.length - 1] := List.getElem?_eq_getElem (by omega)
    refine andT_yes (hg.trans (by rw [decide_eq_true (by omega)])) ((cmpT_ok (at_last l x _ rfl rfl) (at_prev x _ hy (by omega) rfl rfl) (ltD_nat _ _)).trans ?_)
    have h2 : (l ++ [x])[l.length - 1]? = some l[l.length - 1] := by rw [List.getElem?_append_left (by omega)]; exact hy
    have h3 : (l ++ [x])[l.length - 1 + 1]? = some x := by rw [Nat.sub_add_cancel (by omega), List.getElem?_append_right (Nat.le_refl _), Nat.sub_self]; rfl
    have := up_at L.up h2 h3
    rw [decide_eq_false (by omega)]
theorem loop_good (t : D) (rest : List D) : ∀ (l done : List Rw) (c2 c3 : Cell), LgOk (done ++ l) → ∃ c2' c3', loopS gR bR (en done.length (l.map line) ++ rest) (RS t done c2 c3) = loopS gR bR rest (RS t (done ++ l) c2' c3')
  | [], done, c2, c3, _ => ⟨c2, c3, by rw [List.append_nil]; rfl⟩
  | x :: l, done, c2, c3, L => by
    have L2 : LgOk ((done ++ [x]) ++ l) := by rw [List.append_assoc]; exact L
    have hd := L.len
    rw [List.length_append, List.length_cons] at hd
    obtain ⟨c2', c3', h⟩ := loop_good t rest l (done ++ [x]) (.val (nD done.length)) (.val (.str (line x))) L2
    refine ⟨c2', c3', ?_⟩
    have e : en done.length ((x :: l).map line) ++ rest = D.tup [nD done.length, .str (line x)] :: (en (done ++ [x]).length (l.map line) ++ rest) := by
      rw [List.length_append]
      rfl
    rw [e, loopS_nx (r' := RS t done (.val (nD done.length)) (.val (.str (line x)))) (r2 := RS t (done ++ [x]) (.val (nD done.length)) (.val (.str (line x)))) rfl (seqS_go (turn_try (by omega) (L.ok x (by simp))) (end_no L2.take _)), h, List.append_assoc]
    rfl
abbrev textOf (T : List (List Nat)) : List Nat := TL.joinL [10] T
structure TxOk (T : List (List Nat)) : Prop where
  len : T.length ≤ 20
  no : ∀ t ∈ T, 10 ∉ t
  sh : ∀ t ∈ T, t.length ≤ 100
  ne : ∀ t ∈ T, t ≠ []
theorem TxOk.sum {T : List (List Nat)} (h : TxOk T) : (T.map List.length).sum ≤ 2000 := by
  have := sum_le List.length 100 T h.sh
  have := h.len
  omega
theorem text_ne {T : List (List Nat)} (h : T ≠ []) (hn : ∀ t ∈ T, t ≠ []) : textOf T ≠ [] := by
  match T, h with
  | [a], _ => exact hn a List.mem_cons_self
  | a :: b :: T, _ =>
    intro e
    have : (TL.joinL [10] (a :: b :: T)).length = 0 := by rw [show TL.joinL [10] (a :: b :: T) = [] from e]; rfl
    simp [TL.joinL] at this
theorem rows_e {T : List (List Nat)} (h : TxOk T) (r : LE) (hr : r[0]? = some (.val (.str (textOf T)))) : enumQE (acons (iteE (cmpT eqD (var 0) (cst (.str []))) (lE (lstE anil)) (bmE "str" splitD (var 0) (acons (cst (.str [10])) anil))) anil) r = .ok (en 0 T) := by
  rw [← enumL_en]
  refine enumQ_l ?_
  have hc : cmpT eqD (var 0) (cst (.str [])) r = .ok (textOf T == []) := by
    refine cmpT_ok (x := .str (textOf T)) (y := .str []) (var_k hr) rfl ?_
    unfold eqD
    rw [if_pos (by rw [Bool.or_eq_true]; exact .inl rfl)]
    rfl
  by_cases e : T = []
  · subst e
    exact iteE_yes hc rfl
  · have hne := text_ne e h.ne
    have hs := h.sum
    have hl := h.len
    refine iteE_no (hc.trans (by rw [beq_eq_false_iff_ne.mpr hne])) (bmE_ok (x := .str (textOf T)) (var_k hr) rfl (acons_ok (x := .str [10]) rfl (xs := []) rfl) (split_join (by omega) e h.no (by omega)))
theorem F_read (t : D) : F_read_log = seqS (setK 1 (ownK (lstE anil))) (seqS (forS (enumQE (acons (iteE (cmpT eqD (var 0) (cst (.str []))) (lE (lstE anil)) (bmE "str" splitD (var 0) (acons (cst (.str [10])) anil))) anil)) gR bR) (frzS 1 (retS (callE D_Log_init (acons (var 1) anil))))) := rfl
theorem lines_ok {l : List Rw} (h : l.length ≤ 20) : TxOk (l.map line) := ⟨by rw [List.length_map]; exact h, fun t ht => by
  obtain ⟨x, _, rfl⟩ := List.mem_map.mp ht
  intro hm
  have key : ∀ ss : List (List Nat), 10 ∈ TL.joinL [32] ss → ∃ s ∈ ss, 10 ∈ s := fun ss => by
    induction ss with
    | nil => intro z; cases z
    | cons a ss ih =>
      intro z
      cases ss with
      | nil => exact ⟨a, List.mem_cons_self, z⟩
      | cons b ss =>
        simp only [TL.joinL, List.mem_append, List.mem_singleton] at z
        rcases z with z | z | z
        · exact ⟨a, List.mem_cons_self, z⟩
        · omega
        · obtain ⟨s, h1, h2⟩ := ih z
          exact ⟨s, List.mem_cons_of_mem _ h1, h2⟩
  obtain ⟨s, h1, h2⟩ := key _ hm
  exact word_no (by omega) x s h1 h2, fun t ht => by
  obtain ⟨x, _, rfl⟩ := List.mem_map.mp ht
  have := line_len x
  omega, fun t ht => by
  obtain ⟨x, _, rfl⟩ := List.mem_map.mp ht
  intro e
  have : (line x).length = 0 := by rw [e]; rfl
  cases ea : x.a with
  | none => rw [line_none ea] at this; simp at this
  | some b => rw [line_some ea] at this; simp at this⟩
theorem read_go {T : List (List Nat)} (h : TxOk T) {l : List Rw} (L : LgOk l) {rest : List (List Nat)} (e : T = l.map line ++ rest) {x : R Out} (k : ∀ c2 c3, seqS (fun r => loopS gR bR (en l.length rest) r) (frzS 1 (retS (callE D_Log_init (acons (var 1) anil)))) (RS (.str (textOf T)) l c2 c3) = x) : F_read_log [.val (.str (textOf T)), .un, .un, .un] = x := by
  rw [F_read .non]
  refine seqS_go (r' := RS (.str (textOf T)) [] .un .un) rfl ?_
  have hr := rows_e h (RS (.str (textOf T)) [] .un .un) rfl
  obtain ⟨c2, c3, hg⟩ := loop_good (.str (textOf T)) (en l.length rest) l [] .un .un L
  have he : en 0 T = en ([] : List Rw).length (l.map line) ++ en l.length rest := by
    rw [e, en_app, List.length_map, Nat.zero_add]
    rfl
  rw [seqS_eq, forS_eq, hr, onS_ok, he, hg, List.nil_append]
  exact k c2 c3
theorem read_log_ok {l : List Rw} (L : LgOk l) : D_read_log [.str (textOf (l.map line))] = .ok (logI l) := by
  refine runF_rt rfl (read_go (lines_ok L.len) L (rest := []) (by rw [List.append_nil]) fun c2 c3 => ?_)
  refine seqS_go (r' := RS (.str (textOf (l.map line))) l c2 c3) rfl ?_
  let r2 : LE := [.val (.str (textOf (l.map line))), .val (.lst (rowsL l)), c2, c3]
  show retS _ r2 = _
  exact retS_ok (callE1_ok (x := .lst (rowsL l)) rfl (log_l L))
end K23
set_option Elab.async false
set_option linter.all false
set_option maxRecDepth 100000
namespace K23
open DL PySem L2 PySem.Spec PyProof.Rows
variable {l : List Rw}
theorem it_rows {f : LE → DL.R D} {r : LE} {l : List Rw} (h : f r = .ok (logI l)) : itT (fldE fx_rows f) r = .ok (l.map rowI) := itT_ok (fld_r h)
theorem lines_sum (hl : l.length ≤ 20) : ((l.map line).map List.length).sum ≤ 560 := by
  have := sum_le List.length 28 (l.map line) fun t ht => by
    obtain ⟨x, _, rfl⟩ := List.mem_map.mp ht
    exact line_len x
  rw [List.length_map] at this
  omega
theorem lines_e (l : List Rw) : (l.map fun x => D.str (line x)) = (l.map line).map D.str := by rw [List.map_map]; rfl
theorem log_said (L : LgOk l) : D_Log_said [logI l] = .ok (.str (textOf (l.map line))) := by
  have hl := L.len
  have hs := lines_sum hl
  refine runF_rt rfl ?_
  show F_Log_said [.val (logI l), .un] = _
  unfold F_Log_said
  refine retS_ok (bmE_ok (x := .str [10]) rfl rfl (acons_ok (lE_ok (compF_mapM (e := rowI) (h := fun x => .str (line x)) (l := l) (it_rows rfl) (by omega) fun x hx => ⟨[.val (logI l), .val (rowI x)], rfl, meth0_ok (c := 1) (fs := fs x) rfl (row_said (L.ok x hx))⟩)) (xs := []) rfl) ?_)
  rw [lines_e]
  exact join_ok (by simp only [List.length_singleton, Nat.mul_one, List.length_map]; omega)
theorem LgOk.filter (L : LgOk l) (p : Rw → Bool) : LgOk (l.filter p) := ⟨Nat.le_trans (List.length_filter_le ..) L.len, fun x hx => L.ok x (List.mem_filter.mp hx).1, L.up.filter _⟩
def triD (x : Rw) : D := .tup [nD x.m, .str (hcp x.h), aD x.a]
abbrev tyD (l : List Rw) : D := .ins 0 [.tup (l.map triD)]
theorem hcp_no (h : Fin 5) : eqD (.str (hcp h)) (.str []) = .ok (.bl false) :=
  five (P := fun h => eqD (.str (hcp h)) (.str []) = .ok (.bl false)) (by kernel_rfl) (by kernel_rfl) (by kernel_rfl) (by kernel_rfl) (by kernel_rfl) h
theorem notNE_k {f : LE → DL.R D} {r : LE} {a : Option Nat} (h : f r = .ok (aD a)) : valT (notNE f) r = .ok (a.isSome) := by
  refine valT_ok ?_
  unfold notNE
  rw [h]
  cases a <;> rfl
abbrev TS_ (l : List Rw) (c2 c3 c4 c5 : Cell) : LE := [.own (.ins 0 []), .val (.lst (l.map triD)), c2, c3, c4, c5]
theorem tally_init (L : LgOk l) : D_Tally_init [.lst (l.map triD)] = .ok (tyD l) := by
  have hl := L.len
  obtain ⟨r2, h2, c3, c4, c5, hI⟩ := loopS_all (gd := gTup_ 3 (gCons_ (gN 3) (gCons_ (gN 4) (gCons_ (gN 5) gNil_)))) (body := (ifS (orT (cmpT ltD (var 3) (cst (.int 0))) (orT (cmpT eqD (var 4) (cst (.str []))) (andT (valT (notNE (var 5))) (cmpT ltD (var 5) (var 3)))))
    (errS ⟨2, .non⟩)
    skipS)) (e := triD) (fun _ r => ∃ c3 c4 c5, r = TS_ l .un c3 c4 c5) (l := l) (done := []) (r := TS_ l .un .un .un .un) ⟨_, _, _, rfl⟩ (by
      rintro x done r hx ⟨c3, c4, c5, rfl⟩
      refine ⟨TS_ l .un (.val (nD x.m)) (.val (.str (hcp x.h))) (.val (aD x.a)), TS_ l .un (.val (nD x.m)) (.val (.str (hcp x.h))) (.val (aD x.a)), rfl, ifS_no (orT_ff ((cmpT_ok (x := nD x.m) (y := nD 0) rfl rfl (ltD_nat _ _)).trans (by rw [decide_eq_false (by omega)])) (orT_ff (cmpT_ok (x := .str (hcp x.h)) (y := .str []) rfl rfl (hcp_no _)) ?_)) rfl, _, _, _, rfl⟩
      cases e : x.a with
      | none => exact andT_no ((notNE_k (a := none) rfl).trans rfl)
      | some b =>
        have := ((L.ok x hx).a b e).1
        exact andT_yes ((notNE_k (a := some b) rfl).trans rfl) ((cmpT_ok (x := nD b) (y := nD x.m) rfl rfl (ltD_nat _ _)).trans (by rw [decide_eq_false (by omega)])))
  refine runI_nx (r := [.own (tyD l), .val (.lst (l.map triD)), .un, c3, c4, c5]) rfl ?_ rfl rfl
  show F_Tally_init (TS_ l .un .un .un .un) = _
  unfold F_Tally_init
  refine seqS_go (r' := TS_ l .un .un .un .un) (ifS_no (valT_ok (anyE_allM (x := true) (e := fun i => nD (1 + i)) (l := List.range ((l.length : Int) - (1 : Nat)).toNat) ?_ fun i hi => ?_)) rfl) ?_
  · unfold rng2E
    rw [acons_ok (x := nD 1) rfl (acons_ok ((len_l (xs := l.map triD) rfl).trans (by rw [List.length_map])) (xs := []) rfl), R.ok_bind]
    exact rng2_int l.length (by omega) (by omega) 1 (by omega)
  · have hi := List.mem_range.mp hi
    have e1 : l[i]? = some l[i] := List.getElem?_eq_getElem (by omega)
    have e2 : l[i + 1]? = some l[i + 1] := List.getElem?_eq_getElem (by omega)
    refine ⟨TS_ l (.val (nD (1 + i))) .un .un .un, rfl, ?_⟩
    have k1 : subE (subE (var 1) (var 2)) (cst (.int 0)) (TS_ l (.val (nD (1 + i))) .un .un .un) = .ok (nD l[i + 1].m) := subE_k (subE_k (x := .lst (l.map triD)) (y := nD (1 + i)) rfl rfl (subI_lst (by rw [Nat.add_comm 1, List.getElem?_map, e2]; rfl))) (y := nD 0) rfl rfl
    have k2 : subE (subE (var 1) (opE subD (var 2) (cst (.int 1)))) (cst (.int 0)) (TS_ l (.val (nD (1 + i))) .un .un .un) = .ok (nD l[i].m) := subE_k (subE_k (x := .lst (l.map triD)) (y := nD i) rfl (opE_k (x := nD (1 + i)) (y := nD 1) rfl rfl ((sub_nat1 _ (by omega)).trans (by rw [Nat.add_sub_cancel_left]))) (subI_lst (by rw [List.getElem?_map, e1]; rfl))) (y := nD 0) rfl rfl
    refine (opE_k k1 k2 (ltD_nat _ _)).trans ?_
    have := up_at L.up e1 e2
    rw [decide_eq_false (by omega)]
    rfl
  · subst hI
    exact seqS_go (r' := TS_ l .un c3 c4 c5) (forS_ok (itB_l (xs := l.map triD) rfl) h2) rfl
theorem log_tally (L : LgOk l) : D_Log_tally [logI l] = .ok (tyD l) := by
  have hl := L.len
  refine runF_rt rfl ?_
  show F_Log_tally [.val (logI l), .un] = _
  unfold F_Log_tally
  exact retS_ok (callE1_ok (lE_ok (compF_mapM (e := rowI) (h := triD) (l := l) (it_rows rfl) (by omega) fun x hx => ⟨[.val (logI l), .val (rowI x)], rfl, tupE_ok (acons_ok (fld_m (x := x) rfl) (acons_ok (fld_h (x := x) rfl) (acons_ok (fld_a (x := x) rfl) (xs := []) rfl))) (by simp)⟩)) (tally_init L))
theorem log_words (hl : l.length ≤ 20) : D_Log_words_made [logI l] = .ok (.tup (l.map fun x => .str (rcp x.h))) := by
  refine runF_rt rfl ?_
  show F_Log_words_made [.val (logI l), .un] = _
  unfold F_Log_words_made
  exact retS_ok (callE1_ok (lE_ok (compF_mapM (e := rowI) (h := fun x => .str (rcp x.h)) (l := l) (it_rows rfl) (by omega) fun x hx => ⟨[.val (logI l), .val (rowI x)], rfl, callE1_ok (fld_h (x := x) rfl) (read_ok x.h)⟩)) rfl)
theorem slice_fromT {f k : LE → DL.R D} {r : LE} {xs : List D} {n : Nat} (h : f r = .ok (.tup xs)) (h2 : k r = .ok (nD n)) : sliceE f (someP k) noP r = .ok (.tup (xs.drop n)) := sliceT_from h h2
theorem split_up {l : List Rw} (h : l.Pairwise fun x y => x.m ≤ y.m) (m : Nat) : l.drop (l.filter fun x => decide (x.m ≤ m)).length = l.filter fun x => decide (x.m > m) := by
  induction l with
  | nil => rfl
  | cons a l ih =>
    obtain ⟨h1, h2⟩ := List.pairwise_cons.mp h
    by_cases q : a.m ≤ m
    · rw [List.filter_cons_of_pos (by exact decide_eq_true q), List.length_cons, List.drop_succ_cons, ih h2, List.filter_cons_of_neg (by simp; exact q)]
    · have e : (a :: l).filter (fun x => decide (x.m ≤ m)) = [] := by
        rw [List.filter_eq_nil_iff]
        intro x hx
        rcases List.mem_cons.mp hx with rfl | hx
        · simpa using q
        · have := h1 x hx
          simp only [decide_eq_true_eq]
          omega
      rw [e, List.length_nil, List.drop_zero, List.filter_eq_self.mpr]
      intro x hx
      rcases List.mem_cons.mp hx with rfl | hx
      · simp only [decide_eq_true_eq]; omega
      · have := h1 x hx
        simp only [decide_eq_true_eq]
        omega
def putR (l : List Rw) (x : Rw) : List Rw := (l.filter fun y => decide (y.m ≤ x.m)) ++ [x] ++ (l.filter fun y => decide (y.m > x.m))
theorem put_ok (L : LgOk l) (hl : l.length ≤ 9) {x : Rw} (W : RwOk x) : LgOk (putR l x) := by
  unfold putR
  have h1 := List.length_filter_le (fun y : Rw => decide (y.m ≤ x.m)) l
  have h2 := List.length_filter_le (fun y : Rw => decide (y.m > x.m)) l
  refine ⟨by simp only [List.length_append, List.length_singleton]; omega, fun y hy => ?_, ?_⟩
  · simp only [List.mem_append, List.mem_singleton, List.mem_filter] at hy
    rcases hy with (hy | rfl) | hy
    · exact L.ok y hy.1
    · exact W
    · exact L.ok y hy.1
  · rw [List.pairwise_append, List.pairwise_append]
    refine ⟨⟨L.up.filter _, List.pairwise_singleton .., fun a ha b hb => ?_⟩, L.up.filter _, fun a ha b hb => ?_⟩
    · rw [List.mem_singleton.mp hb]
      simpa using (List.mem_filter.mp ha).2
    · have hb := (List.mem_filter.mp hb).2
      simp only [decide_eq_true_eq] at hb
      rcases List.mem_append.mp ha with ha | ha
      · have ha := (List.mem_filter.mp ha).2
        simp only [decide_eq_true_eq] at ha
        omega
      · rw [List.mem_singleton.mp ha]
        omega
theorem with_row (L : LgOk l) (hl : l.length ≤ 9) {x : Rw} (W : RwOk x) : D_Log_with_log_row [logI l, rowI x] = .ok (logI (putR l x)) := by
  refine runF_rt rfl ?_
  let r0 : LE := [.val (logI l), .val (rowI x), .un, .un]
  show F_Log_with_log_row r0 = _
  unfold F_Log_with_log_row
  let A := l.filter fun y => decide (y.m ≤ x.m)
  have hA : A.length ≤ l.length := List.length_filter_le ..
  let r1 : LE := [.val (logI l), .val (rowI x), .own (.lst (A.map rowI)), .un]
  refine seqS_go (r' := r1) ((setK_own (compF_fmM (e := rowI) (h := rowI) (p := fun y => decide (y.m ≤ x.m)) (l := l) (it_rows rfl) (by omega) fun y hy => ⟨[.val (logI l), .val (rowI x), .un, .val (rowI y)], rfl, cmpT_ok (x := nD y.m) (y := nD x.m) (fld_m rfl) (fld_m rfl) (leD_nat _ _), fun _ => rfl⟩)).trans rfl) ?_
  have e1 : opE addD (varP 2) (lE (lstE (acons (var 1) anil))) r1 = .ok (.lst (A.map rowI ++ [rowI x])) := opE_k (x := .lst (A.map rowI)) (y := .lst [rowI x]) rfl rfl (if_pos (by rw [List.length_map]; show A.length + 1 ≤ 16777216; omega))
  have e2 : lE (callF listK (acons (sliceE (fldE fx_rows (var 0)) (someP (callE lenX (acons (varP 2) anil))) noP) anil)) r1 = .ok (.lst ((l.drop A.length).map rowI)) := by
    refine lE_ok (callF1_k (slice_fromT (n := A.length) (fld_r rfl) ((len_l (xs := A.map rowI) rfl).trans (by rw [List.length_map]))) ?_)
    rw [List.map_drop]
    rfl
  have e3 : (A.map rowI ++ [rowI x]) ++ (l.drop A.length).map rowI = rowsL (putR l x) := by
    rw [split_up L.up x.m]
    unfold putR rowsL
    rw [List.map_append, List.map_append]
    rfl
  refine retS_ok (callE1_ok (opE_k e1 e2 (if_pos ?_)) ?_)
  · rw [List.length_append, List.length_map, List.length_map, List.length_drop]
    show A.length + 1 + (l.length - A.length) ≤ 16777216
    omega
  · rw [e3]
    exact log_l (put_ok L hl W)
def ansR (l : List Rw) (k : Nat) (x : Rw) (b : Nat) : List Rw := l.take k ++ [⟨x.m, x.s, x.h, some b⟩] ++ l.drop (k + 1)
theorem ans_lg (L : LgOk l) {k : Nat} {x : Rw} (hx : l[k]? = some x) {b : Nat} (h1 : x.m ≤ b) (h2 : b < 1440) : LgOk (ansR l k x b) := by
  have hk := (List.getElem?_eq_some_iff.mp hx).1
  have e : l = l.take k ++ [x] ++ l.drop (k + 1) := by
    conv => lhs; rw [← List.take_append_drop k l, List.drop_eq_getElem?_toList_append]
    rw [hx]
    simp
  have hw := L.ok x (List.mem_of_getElem? hx)
  have hup := L.up
  unfold ansR
  refine ⟨?_, fun y hy => ?_, ?_⟩
  · have := L.len
    simp only [List.length_append, List.length_singleton, List.length_take, List.length_drop]
    omega
  · simp only [List.mem_append, List.mem_singleton] at hy
    rcases hy with (hy | rfl) | hy
    · exact L.ok y (List.mem_of_mem_take hy)
    · exact ⟨hw.m, fun c hc => by cases hc; exact ⟨h1, h2⟩⟩
    · exact L.ok y (List.mem_of_mem_drop hy)
  · rw [e] at hup
    rw [List.pairwise_append, List.pairwise_append] at hup ⊢
    obtain ⟨⟨p1, p2, p3⟩, p4, p5⟩ := hup
    refine ⟨⟨p1, List.pairwise_singleton .., fun a ha c hc => ?_⟩, p4, fun a ha c hc => ?_⟩
    · rw [List.mem_singleton.mp hc]
      exact p3 a ha x (List.mem_singleton.mpr rfl)
    · rcases List.mem_append.mp ha with ha | ha
      · exact p5 a (List.mem_append_left _ ha) c hc
      · rw [List.mem_singleton.mp ha]
        exact p5 x (List.mem_append_right _ (List.mem_singleton.mpr rfl)) c hc
abbrev AN (l : List Rw) (k b : Nat) (c3 c4 : Cell) : LE := [.val (logI l), .val (nD k), .val (nD b), c3, c4]
theorem an_len (l : List Rw) (k b : Nat) (c3 c4 : Cell) : callE lenX (acons (fldE fx_rows (var 0)) anil) (AN l k b c3 c4) = .ok (nD l.length) := (len_t (fld_r (l := l) rfl)).trans (by rw [List.length_map])
theorem an_at {k : Nat} {x : Rw} (hx : l[k]? = some x) (b : Nat) (c3 c4 : Cell) : subE (fldE fx_rows (var 0)) (var 1) (AN l k b c3 c4) = .ok (rowI x) := subE_k (fld_r (l := l) rfl) (y := nD k) rfl (subI_tup (by rw [List.getElem?_map, hx]; rfl))
theorem an_out {k : Nat} (hk : l.length ≤ k) (b : Nat) : D_Log_answered_by [logI l, nD k, nD b] = .err ⟨3, .non⟩ := by
  refine runF_ex (r := AN l k b .un .un) rfl ?_
  show F_Log_answered_by (AN l k b .un .un) = _
  unfold F_Log_answered_by
  refine seqS_ex (ifS_yes (orT_yes (notT_ok (b := false) ((chain_leN (a := 0) (b := k) (c := l.length) rfl rfl (an_len ..)).trans ?_))) (rfl))
  rw [decide_eq_false (p := k < l.length) (by omega), Bool.and_false]
theorem an_done {k : Nat} {x : Rw} {c : Nat} (hx : l[k]? = some x) (ha : x.a = some c) (b : Nat) : D_Log_answered_by [logI l, nD k, nD b] = .err ⟨3, .non⟩ := by
  have hk := (List.getElem?_eq_some_iff.mp hx).1
  refine runF_ex (r := AN l k b .un .un) rfl ?_
  show F_Log_answered_by (AN l k b .un .un) = _
  unfold F_Log_answered_by
  refine seqS_ex (ifS_yes ((orT_k (a := false) (b := true) (notT_ok (b := true) ((chain_leN (a := 0) (b := k) (c := l.length) rfl rfl (an_len ..)).trans ?_)) ((notNE_k (a := x.a) (fld_a (an_at hx b _ _))).trans (by rw [ha]; rfl))).trans rfl) (rfl))
  rw [decide_eq_true (p := k < l.length) (by omega), decide_eq_true (Nat.zero_le _)]
  rfl
theorem an_ok (L : LgOk l) {k : Nat} {x : Rw} (hx : l[k]? = some x) (ha : x.a = none) {b : Nat} (h1 : x.m ≤ b) (h2 : b < 1440) : D_Log_answered_by [logI l, nD k, nD b] = .ok (logI (ansR l k x b)) := by
  have hk := (List.getElem?_eq_some_iff.mp hx).1
  have hl := L.len
  have hw := L.ok x (List.mem_of_getElem? hx)
  let y : Rw := ⟨x.m, x.s, x.h, some b⟩
  have Wy : RwOk y := ⟨hw.m, fun c hc => by cases hc; exact ⟨h1, h2⟩⟩
  refine runF_rt rfl ?_
  show F_Log_answered_by (AN l k b .un .un) = _
  unfold F_Log_answered_by
  refine seqS_go (r' := AN l k b .un .un) (ifS_no (orT_ff (notT_ok (b := true) ((chain_leN (a := 0) (b := k) (c := l.length) rfl rfl (an_len ..)).trans ?_)) ((notNE_k (a := x.a) (fld_a (an_at hx b _ _))).trans (by rw [ha]; rfl))) rfl) ?_
  · rw [decide_eq_true (p := k < l.length) (by omega), decide_eq_true (Nat.zero_le _)]
    rfl
  refine seqS_go (r' := AN l k b (.val (rowI x)) .un) ((setK_val (an_at hx b _ _)).trans rfl) ?_
  refine seqS_go (r' := AN l k b (.val (rowI x)) (.val (rowI y))) ((setK_val (callE4_ok (fld_m (x := x) rfl) (fld_s (x := x) rfl) (fld_h (x := x) rfl) (w := .str (hcp x.h)) (v := nD b) rfl (init_ok Wy))).trans rfl) ?_
  let r3 : LE := AN l k b (.val (rowI x)) (.val (rowI y))
  have e1 : opE addD (sliceE (fldE fx_rows (var 0)) noP (someP (var 1))) (tupE (acons (var 4) anil)) r3 = .ok (.tup ((l.take k).map rowI ++ [rowI y])) := by
    refine opE_k (sliceT_to (n := k) (fld_r (l := l) rfl) rfl) (y := .tup [rowI y]) rfl ((if_pos ?_).trans ?_)
    · rw [List.length_take, List.length_map]
      show min k l.length + 1 ≤ 16777216
      omega
    · rw [List.map_take]
  refine retS_ok (callE1_ok (opE_k e1 (sliceT_from (n := k + 1) (fld_r (l := l) rfl) (opE_k (x := nD k) (y := nD 1) rfl rfl (addD_nat _ _))) (if_pos ?_)) ?_)
  · rw [List.length_append, List.length_drop, List.length_map, List.length_map, List.length_take]
    show min k l.length + 1 + (l.length - (k + 1)) ≤ 16777216
    omega
  · have e3 : ((l.take k).map rowI ++ [rowI y]) ++ (rowsL l).drop (k + 1) = rowsL (ansR l k x b) := by
      unfold ansR rowsL
      rw [List.map_append, List.map_append, List.map_drop]
      rfl
    rw [e3]
    exact log_t (ans_lg L hx h1 h2)
end K23
set_option Elab.async false
set_option linter.all false
set_option maxRecDepth 100000
set_option maxHeartbeats 1000000
namespace K23
open DL PySem L2 PySem.Spec PyProof.Rows
def kinds : List Rw := [⟨480, 0, 0, none⟩, ⟨480, 0, 0, some 570⟩, ⟨570, 1, 1, none⟩, ⟨570, 1, 1, some 570⟩, ⟨420, 0, 3, none⟩, ⟨420, 0, 3, some 570⟩, ⟨420, 0, 3, some 420⟩, ⟨495, 1, 0, some 500⟩]
theorem kinds_all {P : Rw → Prop} (h0 : P ⟨480, 0, 0, none⟩) (h1 : P ⟨480, 0, 0, some 570⟩) (h2 : P ⟨570, 1, 1, none⟩) (h3 : P ⟨570, 1, 1, some 570⟩) (h4 : P ⟨420, 0, 3, none⟩) (h5 : P ⟨420, 0, 3, some 570⟩) (h6 : P ⟨420, 0, 3, some 420⟩) (h7 : P ⟨495, 1, 0, some 500⟩) : ∀ x ∈ kinds, P x := fun x hx => by
  unfold kinds at hx
  simp only [List.mem_cons, List.not_mem_nil, or_false] at hx
  rcases hx with rfl | rfl | rfl | rfl | rfl | rfl | rfl | rfl <;> assumption
theorem rw_ok {m : Nat} {s : Fin 3} {h : Fin 5} {a : Option Nat} (hm : m < 1440) (ha : ∀ b, a = some b → m ≤ b ∧ b < 1440) : RwOk ⟨m, s, h, a⟩ := ⟨hm, ha⟩
theorem kinds_ok : ∀ x ∈ kinds, RwOk x := kinds_all
  (rw_ok (by decide) fun b h => by cases h) (rw_ok (by decide) fun b h => by cases h; decide) (rw_ok (by decide) fun b h => by cases h) (rw_ok (by decide) fun b h => by cases h; decide)
  (rw_ok (by decide) fun b h => by cases h) (rw_ok (by decide) fun b h => by cases h; decide) (rw_ok (by decide) fun b h => by cases h; decide) (rw_ok (by decide) fun b h => by cases h; decide)
structure Kl (n : Nat) (l : List Rw) : Prop where
  len : l.length ≤ n
  ok : ∀ x ∈ l, x ∈ kinds
  up : l.Pairwise fun x y => x.m ≤ y.m
theorem Kl.lg {n : Nat} {l : List Rw} (h : Kl n l) (hn : n ≤ 20) : LgOk l := ⟨Nat.le_trans h.len hn, fun x hx => kinds_ok x (h.ok x hx), h.up⟩
theorem Kl.mono {n m : Nat} {l : List Rw} (h : Kl n l) (hn : n ≤ m) : Kl m l := ⟨Nat.le_trans h.len hn, h.ok, h.up⟩
abbrev tx (l : List Rw) : List Nat := textOf (l.map line)
theorem line_lo : ∀ x ∈ kinds, 11 ≤ (line x).length ∧ (line x).length ≤ 28 := kinds_all (by decide +kernel) (by decide +kernel) (by decide +kernel) (by decide +kernel) (by decide +kernel) (by decide +kernel) (by decide +kernel) (by decide +kernel)
theorem join_len_eq : ∀ T : List (List Nat), (TL.joinL [10] T).length = (T.map List.length).sum + (T.length - 1)
  | [] => rfl
  | [a] => by simp [TL.joinL]
  | a :: b :: T => by
    have ih := join_len_eq (b :: T)
    show (a ++ ([10] ++ TL.joinL [10] (b :: T))).length = _
    rw [List.length_append, List.length_append, ih]
    simp only [List.map_cons, List.sum_cons, List.length_cons, List.length_nil]
    omega
def lsum (l : List Rw) : Nat := ((l.map line).map List.length).sum
theorem tx_len (l : List Rw) : (tx l).length = lsum l + (l.length - 1) := by
  unfold tx textOf lsum
  rw [join_len_eq, List.length_map]
theorem lsum_app (l k : List Rw) : lsum (l ++ k) = lsum l + lsum k := by unfold lsum; rw [List.map_append, List.map_append, List.sum_append]
theorem lsum_one (x : Rw) : lsum [x] = (line x).length := by unfold lsum; simp
theorem lsum_le {n : Nat} {l : List Rw} (h : Kl n l) : lsum l ≤ 28 * n := by
  have := sum_le List.length 28 (l.map line) fun t ht => by
    obtain ⟨x, hx, rfl⟩ := List.mem_map.mp ht
    exact (line_lo x (h.ok x hx)).2
  rw [List.length_map] at this
  unfold lsum
  have h2 := h.len
  exact Nat.le_trans this (by rw [Nat.mul_comm]; exact Nat.mul_le_mul_left 28 h2)
theorem tx_le {n : Nat} {l : List Rw} (h : Kl n l) (hn : n ≤ 20) : (tx l).length ≤ 600 := by
  rw [tx_len]
  have := lsum_le h
  have := h.len
  omega
theorem note_ok {t : List Nat} {S : KS} (hne : t ≠ S.sh) (hl : t.length ≤ 900) (hd : S.ds.length < 100) : noteK 4 t S = .ok ⟨t, S.ds ++ [(S.sh, t)], []⟩ := by
  unfold noteK noteB
  rw [if_neg (by omega), beq_eq_false_iff_ne.mpr hne, decide_eq_false (by omega), if_neg (by simp), if_pos (by omega)]
def delR (l : List Rw) (k : Nat) : List Rw := l.take k ++ l.drop (k + 1)
theorem split_at {l : List Rw} {k : Nat} {x : Rw} (hx : l[k]? = some x) : l = l.take k ++ ([x] ++ l.drop (k + 1)) := by
  obtain ⟨hk, rfl⟩ := List.getElem?_eq_some_iff.mp hx
  rw [List.singleton_append, ← List.drop_eq_getElem_cons hk, List.take_append_drop]
theorem del_kl {n : Nat} {l : List Rw} (h : Kl n l) (k : Nat) : Kl n (delR l k) := by
  refine ⟨?_, fun x hx => ?_, ?_⟩
  · unfold delR
    rw [List.length_append, List.length_take, List.length_drop]
    have := h.len
    omega
  · unfold delR at hx
    rcases List.mem_append.mp hx with hx | hx
    · exact h.ok x (List.mem_of_mem_take hx)
    · exact h.ok x (List.mem_of_mem_drop hx)
  · unfold delR
    have h2 := h.up
    rw [← List.take_append_drop k l, List.pairwise_append] at h2
    refine List.pairwise_append.mpr ⟨h2.1, ?_, fun a ha b hb => h2.2.2 a ha b ?_⟩
    · rw [← List.drop_drop]
      exact List.Pairwise.sublist (List.drop_sublist _ _) h2.2.1
    · rw [← List.drop_drop] at hb
      exact List.mem_of_mem_drop hb
theorem del_len {n : Nat} {l : List Rw} (h : Kl n l) {k : Nat} {x : Rw} (hx : l[k]? = some x) : (tx (delR l k)).length < (tx l).length := by
  have e := split_at hx
  have hl := (line_lo x (h.ok x (List.mem_of_getElem? hx))).1
  have e1 : lsum l = lsum (l.take k) + ((line x).length + lsum (l.drop (k + 1))) := by
    conv => lhs; rw [e]
    rw [lsum_app, lsum_app, lsum_one]
  have e2 : lsum (delR l k) = lsum (l.take k) + lsum (l.drop (k + 1)) := lsum_app _ _
  have e3 : (delR l k).length ≤ l.length := by
    unfold delR
    rw [List.length_append, List.length_take, List.length_drop]
    have := (List.getElem?_eq_some_iff.mp hx).1
    omega
  rw [tx_len, tx_len]
  omega
theorem tup_rows {l : List Rw} {S : KS} (L : LgOk l) (hs : S.sh = tx l) (d : D) : E_strike [.own (.ins 3 [.str S.sh, .non, .non]), .val d, .un] = .ok (.tup (rowsL l)) := by
  refine fld_r (l := l) (callE1_ok (x := .str (tx l)) ?_ (read_log_ok L))
  show R.ok (D.str S.sh) = _
  rw [hs]
theorem strike_out {n : Nat} {l : List Rw} {S : KS} (h : Kl n l) (hn : n ≤ 20) (hs : S.sh = tx l) {k : Nat} (hk : l.length ≤ k) : strikeK [nD k] S = .err ⟨4, .non⟩ := by
  show strikeOf 4 _ _ _ S = _
  unfold strikeOf
  rw [tup_rows (h.lg hn) hs, R.ok_bind]
  have : T_strike [.un, .val (nD k), .val (.tup (rowsL l))] = .ok true := by
    refine (notT_ok (b := false) ((chain_leN (a := 0) (b := k) (c := l.length) rfl rfl ((len_t (xs := rowsL l) rfl).trans (by rw [List.length_map]))).trans ?_))
    rw [decide_eq_false (p := k < l.length) (by omega), Bool.and_false]
  show (T_strike [.un, .val (nD k), .val (.tup (rowsL l))] >>= _) = _
  rw [this]
  rfl
theorem strike_in {n : Nat} {l : List Rw} {S : KS} (h : Kl n l) (hn : n ≤ 20) (hs : S.sh = tx l) {k : Nat} (hk : k < l.length) : strikeK [nD k] S = noteK 4 (tx (delR l k)) S := by
  show strikeOf 4 _ _ _ S = _
  unfold strikeOf
  rw [tup_rows (h.lg hn) hs, R.ok_bind]
  have e1 : T_strike [.un, .val (nD k), .val (.tup (rowsL l))] = .ok false := by
    refine (notT_ok (b := true) ((chain_leN (a := 0) (b := k) (c := l.length) rfl rfl ((len_t (xs := rowsL l) rfl).trans (by rw [List.length_map]))).trans ?_))
    rw [decide_eq_true (p := k < l.length) (by omega), decide_eq_true (Nat.zero_le _)]
    rfl
  have hl := (h.lg hn).len
  have e2 : S_strike [.un, .val (nD k), .val (.tup (rowsL l))] = .ok (.str (tx (delR l k))) := by
    have hsum : (List.take k (rowsL l)).length + (List.drop (k + 1) (rowsL l)).length ≤ 16777216 := by
      rw [List.length_take, List.length_drop, List.length_map]
      omega
    refine meth0_ok (c := 2) (fs := [.tup (rowsL (delR l k))]) (callE1_ok (x := .tup (rowsL (delR l k))) (opE_k (sliceT_to (n := k) (xs := rowsL l) rfl rfl) (sliceT_from (n := k + 1) (xs := rowsL l) rfl (opE_k (x := nD k) (y := nD 1) rfl rfl (addD_nat _ _))) ((if_pos hsum).trans ?_)) (log_t ((del_kl h k).lg hn))) (log_said ((del_kl h k).lg hn))
    unfold delR rowsL
    rw [List.map_append, List.map_take, List.map_drop]
  show (T_strike [.un, .val (nD k), .val (.tup (rowsL l))] >>= _) = _
  rw [e1, R.ok_bind]
  show (S_strike [.un, .val (nD k), .val (.tup (rowsL l))] >>= fun v => match v with | .str s => noteK 4 s S | _ => .stuck) = _
  rw [e2]
  rfl
end K23
set_option Elab.async false
set_option linter.all false
set_option maxRecDepth 100000
set_option maxHeartbeats 1000000
namespace K23
open DL PySem L2 PySem.Spec PyProof.Rows
variable {n k : Nat} {l : List Rw} {S : KS}
theorem read_self (L : LgOk l) (hs : S.sh = tx l) {cs : LE} : callE D_read_log (acons (sfldD fx_shown) anil) (.own (.ins 3 [.str S.sh, .non, .non]) :: cs) = .ok (logI l) := by
  refine callE1_ok (x := .str (tx l)) ?_ (read_log_ok L)
  show R.ok (D.str S.sh) = _
  rw [hs]
theorem an_late (L : LgOk l) {x : Rw} (hx : l[k]? = some x) (ha : x.a = none) {b : Nat} (hb : b < x.m) : D_Log_answered_by [logI l, nD k, nD b] = .err ⟨3, .non⟩ := by
  have hk := (List.getElem?_eq_some_iff.mp hx).1
  have hl := L.len
  have hw := L.ok x (List.mem_of_getElem? hx)
  refine runF_ex (r := AN l k b (.val (rowI x)) .un) rfl ?_
  show F_Log_answered_by (AN l k b .un .un) = _
  unfold F_Log_answered_by
  refine seqS_go (r' := AN l k b .un .un) (ifS_no (orT_ff (notT_ok (b := true) ((chain_leN (a := 0) (b := k) (c := l.length) rfl rfl (an_len ..)).trans ?_)) ((notNE_k (a := x.a) (fld_a (an_at hx b _ _))).trans (by rw [ha]; rfl))) rfl) ?_
  · rw [decide_eq_true (p := k < l.length) (by omega), decide_eq_true (Nat.zero_le _)]
    rfl
  refine seqS_go (r' := AN l k b (.val (rowI x)) .un) ((setK_val (an_at hx b _ _)).trans rfl) (seqS_ex ?_)
  refine setK_err ?_
  have hi : D_Row_init [nD x.m, .str (scp x.s), .str (hcp x.h), nD b] = .err ⟨3, .non⟩ := by
    refine runI_ex (r := I0 (.own (.ins 1 [])) x.m x.s x.h (some b)) rfl ?_
    show F_Row_init (I0 (.own (.ins 1 [])) x.m x.s x.h (some b)) = _
    unfold F_Row_init
    refine seqS_ex (ifS_yes ?_ rfl)
    have h1 : chainT (cst (.int 0)) (var 1) (cst (.int 1440)) leD ltD (I0 (.own (.ins 1 [])) x.m x.s x.h (some b)) = .ok true := by
      refine (chain_leN (a := 0) (b := x.m) (c := 1440) rfl rfl rfl).trans ?_
      rw [decide_eq_true (Nat.zero_le _), decide_eq_true hw.m]
      rfl
    refine (orT_k (notT_ok h1) (andT_yes rfl (notT_ok (b := false) ((chain_leN (a := x.m) (b := b) (c := 1440) rfl rfl rfl).trans ?_)))).trans rfl
    rw [decide_eq_false (p := x.m ≤ b) (by omega)]
    rfl
  exact callE_err (acons_ok (fld_m (x := x) rfl) (acons_ok (fld_s (x := x) rfl) (acons_ok (fld_h (x := x) rfl) (acons_ok (x := nD b) rfl (xs := []) rfl)))) hi
theorem ans_kl (h : Kl n l) {x y : Rw} (hx : l[k]? = some x) {b : Nat} (hy : y = ⟨x.m, x.s, x.h, some b⟩) (hk : y ∈ kinds) : Kl n (ansR l k x b) := by
  have e := split_at hx
  have e2 : ansR l k x b = l.take k ++ ([y] ++ l.drop (k + 1)) := by unfold ansR; rw [hy, List.append_assoc]
  have hl := h.len
  have hkl := (List.getElem?_eq_some_iff.mp hx).1
  refine ⟨?_, fun z hz => ?_, ?_⟩
  · rw [e2, List.length_append, List.length_append, List.length_take, List.length_drop, List.length_singleton]
    omega
  · rw [e2] at hz
    simp only [List.mem_append, List.mem_singleton] at hz
    rcases hz with hz | rfl | hz
    · exact h.ok z (List.mem_of_mem_take hz)
    · exact hk
    · exact h.ok z (List.mem_of_mem_drop hz)
  · have hu := h.up
    rw [e2]
    rw [e] at hu
    have hym : y.m = x.m := by rw [hy]
    rw [List.pairwise_append, List.singleton_append, List.pairwise_cons] at hu
    rw [List.pairwise_append, List.singleton_append, List.pairwise_cons]
    refine ⟨hu.1, ⟨fun z hz => by rw [hym]; exact hu.2.1.1 z hz, hu.2.1.2⟩, fun z hz w hw => ?_⟩
    rcases List.mem_cons.mp hw with rfl | hw
    · rw [hym]; exact hu.2.2 z hz x List.mem_cons_self
    · exact hu.2.2 z hz w (List.mem_cons_of_mem _ hw)
theorem ans_len (h : Kl n l) {x y : Rw} (hx : l[k]? = some x) (ha : x.a = none) {b : Nat} (hy : y = ⟨x.m, x.s, x.h, some b⟩) : (tx l).length < (tx (ansR l k x b)).length := by
  have e := split_at hx
  have e2 : ansR l k x b = l.take k ++ ([y] ++ l.drop (k + 1)) := by unfold ansR; rw [hy, List.append_assoc]
  have e1 : lsum l = lsum (l.take k) + ((line x).length + lsum (l.drop (k + 1))) := by
    conv => lhs; rw [e]
    rw [lsum_app, lsum_app, lsum_one]
  have e3 : lsum (ansR l k x b) = lsum (l.take k) + ((line y).length + lsum (l.drop (k + 1))) := by rw [e2, lsum_app, lsum_app, lsum_one]
  have hkl := (List.getElem?_eq_some_iff.mp hx).1
  have e4 : (ansR l k x b).length = l.length := by
    rw [e2, List.length_append, List.length_append, List.length_take, List.length_drop, List.length_singleton]
    omega
  have e5 : (line x).length < (line y).length := by
    rw [line_none ha, line_some (r := y) (b := b) (by rw [hy]), hy]
    simp only [List.length_append, clk_len, List.length_cons, List.length_nil]
    omega
  rw [tx_len, tx_len, e3, e4, e1]
  omega
theorem meth_errA {c : Nat} {g : List D → R D} {f : LE → R D} {as : LE → R (List D)} {r : LE} {fs : List D} {e : Exc} (h1 : f r = .ok (.ins c fs)) (h2 : as r = .err e) : methE c g f as r = .err e := by rw [methE_eq, h1, R.ok_bind, isC_eq, R.ok_bind, h2]; rfl
abbrev A0 (S : KS) (k : Nat) (c : List Nat) : LE := [.own (.ins 3 [.str S.sh, .non, .non]), .val (nD k), .val (.str c), .un]
theorem answer_err (h : Kl n l) (hn : n ≤ 20) (hs : S.sh = tx l) {b : Nat} (hb : b < 1440) (he : D_Log_answered_by [logI l, nD k, nD b] = .err ⟨3, .non⟩) : answerK [nD k, .str (clk b)] S = .err ⟨4, .non⟩ := by
  have : E_answer (A0 S k (clk b)) = .err ⟨3, .non⟩ := meth0_errA (meth_err (fs := [.tup (rowsL l)]) (read_self (h.lg hn) hs) (acons_ok (x := nD k) rfl (acons_ok (callE1_ok (x := .str (clk b)) rfl (minute_ok hb)) (xs := []) rfl)) he)
  show tryK 4 excL S (E_answer (A0 S k (clk b))) = _
  rw [this]
  rfl
theorem answer_bad (h : Kl n l) (hn : n ≤ 20) (hs : S.sh = tx l) : answerK [nD k, .str [50, 52, 54, 48]] S = .err ⟨4, .non⟩ := by
  have hm : D_minute_of [.str [50, 52, 54, 48]] = .err ⟨3, .non⟩ := by kernel_rfl
  have : E_answer (A0 S k [50, 52, 54, 48]) = .err ⟨3, .non⟩ := meth0_errA (meth_errA (fs := [.tup (rowsL l)]) (read_self (h.lg hn) hs) (acons_err2 (x := nD k) rfl (acons_err1 (callE_err (xs := [.str [50, 52, 54, 48]]) rfl hm))))
  show tryK 4 excL S (E_answer (A0 S k [50, 52, 54, 48])) = _
  rw [this]
  rfl
theorem answer_in (h : Kl n l) (hn : n ≤ 20) (hs : S.sh = tx l) {x : Rw} (hx : l[k]? = some x) (ha : x.a = none) {b : Nat} (h1 : x.m ≤ b) (h2 : b < 1440) (hk : (⟨x.m, x.s, x.h, some b⟩ : Rw) ∈ kinds) : answerK [nD k, .str (clk b)] S = noteK 4 (tx (ansR l k x b)) S := by
  have : E_answer (A0 S k (clk b)) = .ok (.str (tx (ansR l k x b))) := meth0_ok (c := 2) (fs := [.tup (rowsL (ansR l k x b))]) (meth_ok (fs := [.tup (rowsL l)]) (read_self (h.lg hn) hs) (acons_ok (x := nD k) rfl (acons_ok (callE1_ok (x := .str (clk b)) rfl (minute_ok h2)) (xs := []) rfl)) (an_ok (h.lg hn) hx ha h1 h2)) (log_said ((ans_kl h hx rfl hk).lg hn))
  show tryK 4 excL S (E_answer (A0 S k (clk b))) = _
  rw [this]
  rfl
theorem put_kl {n : Nat} (h : Kl n l) (hn : n ≤ 9) {x : Rw} (hx : x ∈ kinds) : Kl (n + 1) (putR l x) := by
  have hp := put_ok (h.lg (by omega)) (Nat.le_trans h.len hn) (kinds_ok x hx)
  refine ⟨?_, fun z hz => ?_, hp.up⟩
  · unfold putR
    rw [List.length_append, List.length_append, List.length_singleton]
    have e : (l.filter fun y => decide (y.m ≤ x.m)).length + (l.filter fun y => decide (y.m > x.m)).length = l.length := by
      have := split_up h.up x.m
      rw [← this, List.length_drop]
      have := List.length_filter_le (fun y => decide (y.m ≤ x.m)) l
      omega
    have := h.len
    omega
  · unfold putR at hz
    simp only [List.mem_append, List.mem_singleton] at hz
    rcases hz with (hz | rfl) | hz
    · exact h.ok z (List.mem_filter.mp hz).1
    · exact hx
    · exact h.ok z (List.mem_filter.mp hz).1
theorem put_len {n : Nat} (h : Kl n l) {x : Rw} (hx : x ∈ kinds) : (tx l).length < (tx (putR l x)).length := by
  have e0 := split_up h.up x.m
  have e : l = l.take (l.filter fun y => decide (y.m ≤ x.m)).length ++ (l.filter fun y => decide (y.m > x.m)) := by rw [← e0, List.take_append_drop]
  have hs : ∀ l : List Rw, lsum (l.filter fun y => decide (y.m ≤ x.m)) + lsum (l.filter fun y => decide (y.m > x.m)) = lsum l := fun l => by
    induction l with
    | nil => rfl
    | cons y l ih =>
      have e1 : lsum (y :: l) = (line y).length + lsum l := by rw [← List.singleton_append, lsum_app, lsum_one]
      by_cases hy : y.m ≤ x.m
      · rw [List.filter_cons_of_pos (by simpa using hy), List.filter_cons_of_neg (by simpa using hy), e1, ← ih, ← List.singleton_append, lsum_app, lsum_one]
        omega
      · rw [List.filter_cons_of_neg (by simpa using hy), List.filter_cons_of_pos (by simpa using Nat.lt_of_not_le hy), e1, ← ih, ← List.singleton_append (l := l.filter _), lsum_app, lsum_one]
        omega
  have hl : (l.filter fun y => decide (y.m ≤ x.m)).length + (l.filter fun y => decide (y.m > x.m)).length = l.length := by
    rw [← e0, List.length_drop]
    have := List.length_filter_le (fun y => decide (y.m ≤ x.m)) l
    omega
  have h1 := (line_lo x hx).1
  have h2 := hs l
  rw [tx_len, tx_len]
  unfold putR
  rw [lsum_app, lsum_app, lsum_one, List.length_append, List.length_append, List.length_singleton]
  omega
abbrev T0 (S : KS) (t : List Nat) : LE := [.own (.ins 3 [.str S.sh, .non, .non]), .val (.str t), .un]
theorem tell_in {n : Nat} (h : Kl n l) (hn : n ≤ 9) (hs : S.sh = tx l) {x : Rw} (hx : x ∈ kinds) : tellK [.str (line x)] S = noteK 4 (tx (putR l x)) S := by
  have hp := put_kl h hn hx
  have : E_tell (T0 S (line x)) = .ok (.str (tx (putR l x))) := meth0_ok (c := 2) (fs := [.tup (rowsL (putR l x))]) (meth_ok (fs := [.tup (rowsL l)]) (read_self (h.lg (by omega)) hs) (acons_ok (callE1_ok (x := .str (line x)) rfl (read_row (kinds_ok x hx))) (xs := []) rfl) (with_row (h.lg (by omega)) (Nat.le_trans h.len hn) (kinds_ok x hx))) (log_said (hp.lg (by omega)))
  show tryK 4 excL S (E_tell (T0 S (line x))) = _
  rw [this]
  rfl
def badRow : List Nat := [48, 57, 48, 48, 32, 108, 97, 114, 107, 32, 97, 97]
theorem tell_bad {n : Nat} (h : Kl n l) (hn : n ≤ 20) (hs : S.sh = tx l) : tellK [.str badRow] S = .err ⟨4, .non⟩ := by
  have hm : D_read_log_row [.str badRow] = .err ⟨1, .non⟩ := by kernel_rfl
  have : E_tell (T0 S badRow) = .err ⟨1, .non⟩ := meth0_errA (meth_errA (fs := [.tup (rowsL l)]) (read_self (h.lg hn) hs) (acons_err1 (callE_err (xs := [.str badRow]) rfl hm)))
  show tryK 4 excL S (E_tell (T0 S badRow)) = _
  rw [this]
  rfl
end K23
set_option Elab.async false
set_option linter.all false
set_option maxRecDepth 100000
set_option maxHeartbeats 1000000
namespace K23
open DL PySem L2 PySem.Spec PyProof.Rows
variable {n k : Nat} {l : List Rw} {S : KS}
abbrev rowsS (l : List Rw) : List D := (l.map line).map D.str
theorem neD_str {s : List Nat} : neD (.str s) (.str []) = .ok (.bl (!(s == []))) := by
  unfold neD
  rw [if_pos (by rw [Bool.or_eq_true]; exact .inl rfl)]
  rfl
theorem neD_strs {s t : List Nat} : neD (.str s) (.str t) = .ok (.bl (!(s == t))) := by
  unfold neD
  rw [if_pos (by rw [Bool.or_eq_true]; exact .inl rfl)]
  rfl
/-- the parts of a text -/
def parts (l : List Rw) : List (List Nat) := match l with
  | [] => [[]]
  | l => l.map line
theorem split_tx (h : Kl n l) (hn : n ≤ 20) {f : LE → R D} {r : LE} (hf : f r = .ok (.str (tx l))) : itB (bmE "str" splitD f (acons (cst (.str [10])) anil)) r = .ok ((parts l).map D.str) := by
  refine itB_l (bmE_ok (x := .str (tx l)) hf rfl (acons_ok (x := .str [10]) rfl (xs := []) rfl) ?_)
  cases l with
  | nil => rfl
  | cons x l =>
    have T := lines_ok (l := x :: l) (Nat.le_trans h.len hn)
    have hs := T.sum
    have hl := T.len
    exact split_join (by omega) (by simp) T.no (by omega)
theorem parts_ne (h : Kl n l) : (parts l).filter (fun t => !(t == [])) = l.map line := by
  cases l with
  | nil => rfl
  | cons x l =>
    show ((x :: l).map line).filter _ = _
    rw [List.filter_eq_self]
    intro t ht
    obtain ⟨y, hy, rfl⟩ := List.mem_map.mp ht
    have := (line_lo y (h.ok y hy)).1
    cases e : line y with
    | nil => rw [e] at this; simp at this
    | cons a b => rfl
theorem parts_len (h : Kl n l) (hn : n ≤ 20) : (parts l).length ≤ 16777216 := by
  have := h.len
  cases l with
  | nil => decide
  | cons x l => show ((x :: l).map line).length ≤ _; rw [List.length_map]; omega
theorem tx_join (l : List Rw) (h : l.length ≤ 20) (hs : lsum l ≤ 1000) : joinD (.str [10]) [.lst (rowsS l)] = .ok (.str (tx l)) := join_ok (by
  show lsum l + (l.map line).length * [10].length ≤ 1000000
  rw [List.length_map, List.length_singleton]
  omega)
theorem rows_take (l : List Rw) (k : Nat) : (rowsS l).take k = rowsS (l.take k) := by unfold rowsS; rw [List.map_take, List.map_take]
theorem rows_drop (l : List Rw) (k : Nat) : (rowsS l).drop k = rowsS (l.drop k) := by unfold rowsS; rw [List.map_drop, List.map_drop]
theorem rows_app (l m : List Rw) : rowsS l ++ rowsS m = rowsS (l ++ m) := by unfold rowsS; rw [List.map_append, List.map_append]
theorem rows_len (l : List Rw) : (rowsS l).length = l.length := by unfold rowsS; rw [List.length_map, List.length_map]
theorem cutD_mid {α : Type} (xs : List α) (a : Nat) : DL.cutD xs (some (a : Int)) (some ((a + 1 : Nat) : Int)) = (xs.drop a).take 1 := by
  unfold DL.cutD
  rw [HT.sIx_nat, HT.sIx_nat]
  by_cases h : a < xs.length
  · rw [Nat.min_eq_left (by omega), Nat.min_eq_left (by omega), Nat.add_sub_cancel_left]
  · rw [Nat.min_eq_right (by omega), Nat.min_eq_right (by omega), List.drop_length, List.drop_of_length_le (by omega)]
    simp
theorem slice_mid {f p q : LE → R D} {r : LE} {xs : List D} {a : Nat} (h : f r = .ok (.lst xs)) (h2 : p r = .ok (nD a)) (h3 : q r = .ok (nD (a + 1))) : sliceE f (someP p) (someP q) r = .ok (.lst ((xs.drop a).take 1)) := by
  have h3' : q r = .ok (.int ((a + 1 : Nat) : Int)) := h3
  rw [sliceE_eq, h, R.ok_bind, someP_int p r a h2, R.ok_bind, someP_int q r ((a + 1 : Nat) : Int) h3', R.ok_bind, slI_lst, cutD_mid]
end K23
set_option Elab.async false
set_option linter.all false
set_option maxRecDepth 100000
set_option maxHeartbeats 1000000
namespace K23
open DL PySem L2 PySem.Spec PyProof.Rows
variable {n : Nat} {l : List Rw} {S : KS}
theorem qcons_wr {F : LE → R Out} {K : QF} {r : LE} {P : LE → Prop} {Q : Nat × LE × D → Prop} (h : Wr (F r) (fun o => ∃ r2, o = .nx r2 ∧ P r2)) (k : ∀ r2, P r2 → Wr (K r2) Q) : Wr (qcons F K r) Q :=
  Wr.bindS (h.mono fun o ⟨r2, e, hp⟩ => by subst e; exact k r2 hp)
theorem qcons_go {F : LE → R Out} {K : QF} {r r' : LE} {Q : Nat × LE × D → Prop} (h : F r = .ok (.nx r')) (k : Wr (K r') Q) : Wr (qcons F K r) Q := by
  unfold qcons
  rw [h]
  exact k
theorem qif_yes {t : LE → R Bool} {A B : QF} {r : LE} {Q : Nat × LE × D → Prop} (h : t r = .ok true) (k : Wr (A r) Q) : Wr (qif t A B r) Q := by
  unfold qif
  rw [h]
  exact k
theorem qif_no {t : LE → R Bool} {A B : QF} {r : LE} {Q : Nat × LE × D → Prop} (h : t r = .ok false) (k : Wr (B r) Q) : Wr (qif t A B r) Q := by
  unfold qif
  rw [h]
  exact k
theorem qret_wr {j : Nat} {f : LE → R D} {r : LE} {d : D} {Q : Nat × LE × D → Prop} (h : f r = .ok d) (k : Q (j, r, d)) : Wr (qret j f r) Q := by
  unfold qret
  rw [h]
  exact Wr.ok k
abbrev DR_ (a0 : Nat) (t : List Nat) (c3 c4 c5 c6 c7 c8 c9 c10 c11 : Cell) : LE := [.val (.fn a0), .val .dice, .val (.str t), c3, c4, c5, c6, c7, c8, c9, c10, c11]
theorem rows_c (h : Kl n l) (hn : n ≤ 20) (a0 : Nat) : lE (compF (itB (bmE "str" splitD (var 2) (acons (cst (.str [10])) anil))) (gN 5) (cmpT neD (var 5) (cst (.str []))) (var 5) [5]) (DR_ a0 (tx l) .un .un .un .un .un .un .un .un .un) = .ok (.lst (rowsS l)) := by
  refine lE_ok ((compF_fmM (e := D.str) (h := D.str) (p := fun t => !(t == [])) (l := parts l) (split_tx h hn rfl) (parts_len h hn) fun t _ => ⟨DR_ a0 (tx l) .un .un (.val (.str t)) .un .un .un .un .un .un, rfl, cmpT_ok (x := .str t) (y := .str []) rfl rfl neD_str, fun _ => rfl⟩).trans ?_)
  rw [parts_ne h]
def DeedPost (n : Nat) (l : List Rw) (S : KS) (x : Nat × LE × D) : Prop := ∃ gK, ([gK0, gK1, gK2] : List (LE → KS → R KS))[x.1]? = some gK ∧
  ((∃ l', Kl (n + 1) l' ∧ tx l' ≠ tx l ∧ x.2.2 = .str (tx l') ∧ gK x.2.1 S = noteK 4 (tx l') S) ∨ (x.2.2 = .str (tx l) ∧ gK x.2.1 S = .err ⟨4, .non⟩))
theorem ne_len {s t : List Nat} (h : s.length < t.length) : s ≠ t := fun e => by rw [e] at h; exact Nat.lt_irrefl _ h
theorem deed_a (h : Kl n l) (hn : n ≤ 9) (hs : S.sh = tx l) (a0 : Nat) {k : Nat} (c3 : Cell) :
    Wr (qcons S_deed2 (qret 0 R_deed0) (DR_ a0 (tx l) c3 (.val (.lst (rowsS l))) .un (.val (nD k)) .un .un .un .un .un)) (DeedPost n l S) := by
  have hl := h.len
  let r1 : LE := DR_ a0 (tx l) c3 (.val (.lst (rowsS l))) .un (.val (nD k)) (.val (.bl (decide (k < l.length)))) .un .un .un .un
  refine qcons_go (r' := r1) ((setK_val (opE_k (x := nD k) rfl ((len_l (xs := rowsS l) rfl).trans (by rw [rows_len])) (ltD_nat _ _))).trans rfl) ?_
  by_cases hk : k < l.length
  · have hv : valT (var 7) r1 = .ok true := by show R.ok (decide (k < l.length)) = _; rw [decide_eq_true hk]
    have hd : joinD (.str [10]) [.lst (rowsS (delR l k))] = .ok (.str (tx (delR l k))) := tx_join _ (Nat.le_trans (del_kl h k).len (by omega)) (Nat.le_trans (lsum_le (del_kl h k)) (by omega))
    have e1 : opE addD (sliceE (var 4) noP (someP (var 6))) (sliceE (var 4) (someP (opE addD (var 6) (cst (.int 1)))) noP) r1 = .ok (.lst (rowsS (delR l k))) := by
      refine (opE_k (sliceE_to (n := k) (xs := rowsS l) rfl rfl) (sliceE_from (n := k + 1) (xs := rowsS l) rfl (opE_k (x := nD k) (y := nD 1) rfl rfl (addD_nat _ _))) (addD_lst ?_)).trans ?_
      · rw [List.length_take, List.length_drop, rows_len]
        omega
      · rw [rows_take, rows_drop, rows_app]
        rfl
    refine qret_wr (iteE_yes hv (bmE_ok (x := .str [10]) rfl rfl (acons_ok e1 (xs := []) rfl) hd)) ⟨gK0, rfl, .inl ⟨delR l k, (del_kl h k).mono (by omega), ?_, rfl, ?_⟩⟩
    · obtain ⟨x, hx⟩ : ∃ x, l[k]? = some x := ⟨_, List.getElem?_eq_getElem hk⟩
      exact ne_len (del_len h hx)
    · exact strike_in h (by omega) hs hk
  · have hv : valT (var 7) r1 = .ok false := by show R.ok (decide (k < l.length)) = _; rw [decide_eq_false hk]
    exact qret_wr (iteE_no hv (x := .str (tx l)) rfl) ⟨gK0, rfl, .inr ⟨rfl, strike_out h (by omega) hs (by omega)⟩⟩
end K23
set_option Elab.async false
set_option linter.all false
set_option maxRecDepth 100000
set_option maxHeartbeats 1000000
namespace K23
open DL PySem L2 PySem.Spec PyProof.Rows
variable {n : Nat} {l : List Rw} {S : KS}
theorem andV_t {f g : LE → R D} {r : LE} {x : D} (h : f r = .ok (.bl true)) (k : g r = .ok x) : andV f g r = .ok x := by unfold andV; rw [h]; exact k
theorem andV_f {f g : LE → R D} {r : LE} (h : f r = .ok (.bl false)) : andV f g r = .ok (.bl false) := by unfold andV; rw [h]; rfl
theorem andV_b {f g : LE → R D} {r : LE} {a b : Bool} (h : f r = .ok (.bl a)) (k : g r = .ok (.bl b)) : andV f g r = .ok (.bl (a && b)) := by
  cases a with
  | true => exact andV_t h k
  | false => exact andV_f h
def cks : List (List Nat) := [[48, 57, 51, 48], [48, 55, 48, 48], [50, 52, 54, 48]]
def cmin : List Nat := [570, 420, 1500]
theorem no_ans : ∀ x ∈ kinds, notInX (.str ans_) (.str (line x)) = .ok (.bl x.a.isNone) := kinds_all (by kernel_rfl) (by kernel_rfl) (by kernel_rfl) (by kernel_rfl) (by kernel_rfl) (by kernel_rfl) (by kernel_rfl) (by kernel_rfl)
theorem le_clk : ∀ i, i < 3 → ∀ x ∈ kinds, leD (.str ((line x).take 4)) (.str (cks.getD i [])) = .ok (.bl (decide (x.m ≤ cmin.getD i 0))) := fun i hi => by
  match i, hi with
  | 0, _ => exact kinds_all (by kernel_rfl) (by kernel_rfl) (by kernel_rfl) (by kernel_rfl) (by kernel_rfl) (by kernel_rfl) (by kernel_rfl) (by kernel_rfl)
  | 1, _ => exact kinds_all (by kernel_rfl) (by kernel_rfl) (by kernel_rfl) (by kernel_rfl) (by kernel_rfl) (by kernel_rfl) (by kernel_rfl) (by kernel_rfl)
  | 2, _ => exact kinds_all (by kernel_rfl) (by kernel_rfl) (by kernel_rfl) (by kernel_rfl) (by kernel_rfl) (by kernel_rfl) (by kernel_rfl) (by kernel_rfl)
theorem ans_kinds : ∀ i, i < 2 → ∀ x ∈ kinds, x.a = none → x.m ≤ cmin.getD i 0 → (⟨x.m, x.s, x.h, some (cmin.getD i 0)⟩ : Rw) ∈ kinds := fun i hi => by
  match i, hi with
  | 0, _ => exact kinds_all (fun _ _ => by simp [kinds, cmin]) (fun h => by cases h) (fun _ _ => by simp [kinds, cmin]) (fun h => by cases h) (fun _ _ => by simp [kinds, cmin]) (fun h => by cases h) (fun h => by cases h) (fun h => by cases h)
  | 1, _ => exact kinds_all (fun _ h => absurd h (by decide)) (fun h => by cases h) (fun _ h => absurd h (by decide)) (fun h => by cases h) (fun _ _ => by simp [kinds, cmin]) (fun h => by cases h) (fun h => by cases h) (fun h => by cases h)
theorem clk_cks : ∀ i, i < 2 → cks.getD i [] = clk (cmin.getD i 0) ∧ cmin.getD i 0 < 1440 := fun i hi => by
  match i, hi with
  | 0, _ => exact ⟨rfl, by decide⟩
  | 1, _ => exact ⟨rfl, by decide⟩
theorem cks_len : ∀ i, (cks.getD i []).length ≤ 4 := fun i => by
  match i with
  | 0 => decide
  | 1 => decide
  | 2 => decide
  | i + 3 => exact Nat.zero_le _
def ansT : List Nat := [32, 97, 110, 115, 119, 101, 114, 101, 100, 32]
theorem rowsS_e (l : List Rw) : rowsS l = l.map fun x => D.str (line x) := by unfold rowsS; rw [List.map_map]; rfl
theorem deed_b (h : Kl n l) (hn : n ≤ 9) (hs : S.sh = tx l) (a0 : Nat) {k : Nat} (c3 : Cell) :
    Wr (qcons S_deed3 (qcons S_deed4 (qcons S_deed5 (qret 1 R_deed1))) (DR_ a0 (tx l) c3 (.val (.lst (rowsS l))) .un (.val (nD k)) .un .un .un .un .un)) (DeedPost n l S) := by
  have hl := h.len
  refine qcons_wr (P := fun r => ∃ i, i < 3 ∧ r = DR_ a0 (tx l) c3 (.val (.lst (rowsS l))) .un (.val (nD k)) .un (.val (.str (cks.getD i []))) .un .un .un) ?_ ?_
  · refine (setK_wr (Q := fun d => ∃ i, i < 3 ∧ d = .str (cks.getD i [])) (subS_wr (x := .lst (cks.map D.str)) rfl (rollS (n := 3) rfl rfl (by omega) (by omega)) fun y ⟨i, hi, e⟩ => ?_)).mono fun o ⟨r2, e, d, ⟨i, hi, e2⟩, e3⟩ => ⟨r2, e, i, hi, ?_⟩
    · subst e
      refine Wr.eq (subI_lst (d := .str (cks.getD i [])) ?_) ⟨i, hi, rfl⟩
      match i, hi with
      | 0, _ => rfl
      | 1, _ => rfl
      | 2, _ => rfl
    · subst e2 e3
      rfl
  rintro r ⟨i, hi, rfl⟩
  generalize hc : cks.getD i [] = c
  have hcl : c.length ≤ 4 := by rw [← hc]; exact cks_len i
  -- is it fine
  let fine : Bool := match l[k]? with
    | some x => x.a.isNone && (!(c == [50, 52, 54, 48]) && decide (x.m ≤ cmin.getD i 0))
    | none => false
  let r1 : LE := DR_ a0 (tx l) c3 (.val (.lst (rowsS l))) .un (.val (nD k)) (.val (.bl fine)) (.val (.str c)) .un .un .un
  refine qcons_go (r' := r1) ((setK_val (d := .bl fine) ?_).trans rfl) ?_
  · have f1 : opE ltD (var 6) (callE lenX (acons (var 4) anil)) (DR_ a0 (tx l) c3 (.val (.lst (rowsS l))) .un (.val (nD k)) .un (.val (.str c)) .un .un .un) = .ok (.bl (decide (k < l.length))) := opE_k (x := nD k) rfl ((len_l (xs := rowsS l) rfl).trans (by rw [rows_len])) (ltD_nat _ _)
    by_cases hk : k < l.length
    · have hx : l[k]? = some l[k] := List.getElem?_eq_getElem hk
      have hxk := h.ok _ (List.mem_of_getElem? hx)
      have ef : fine = (l[k].a.isNone && (!(c == [50, 52, 54, 48]) && decide (l[k].m ≤ cmin.getD i 0))) := by show (match l[k]? with | some x => _ | none => _) = _; rw [hx]
      have er : subE (var 4) (var 6) (DR_ a0 (tx l) c3 (.val (.lst (rowsS l))) .un (.val (nD k)) .un (.val (.str c)) .un .un .un) = .ok (.str (line l[k])) := subE_k (x := .lst (rowsS l)) (y := nD k) rfl rfl (subI_lst (by rw [rowsS_e, List.getElem?_map, hx]; rfl))
      rw [ef]
      refine andV_t (f1.trans (by rw [decide_eq_true hk])) (andV_b (opE_k (x := .str ans_) rfl er (no_ans _ hxk)) (andV_b (opE_k (x := .str c) (y := .str [50, 52, 54, 48]) rfl rfl neD_strs) (opE_k (sliceS_to (n := 4) er rfl (by have := line_len l[k]; omega)) (y := .str c) rfl ?_)))
      rw [← hc]
      exact le_clk i hi _ hxk
    · have ef : fine = false := by show (match l[k]? with | some x => _ | none => _) = _; rw [List.getElem?_eq_none (by omega)]
      rw [ef]
      exact andV_f (f1.trans (by rw [decide_eq_false hk]))
  let mid : List D := ((l.drop k).take 1).map fun x => D.str ((line x ++ ansT) ++ c)
  let r2 : LE := DR_ a0 (tx l) c3 (.val (.lst (rowsS l))) .un (.val (nD k)) (.val (.bl fine)) (.val (.str c)) (.val (.lst (rowsS (l.take k) ++ mid ++ rowsS (l.drop (k + 1))))) .un .un
  have hml : mid.length ≤ 1 := by
    show (((l.drop k).take 1).map _).length ≤ 1
    rw [List.length_map, List.length_take]
    omega
  refine qcons_go (r' := r2) ((setK_val (opE_k (opE_k ((sliceE_to (n := k) (xs := rowsS l) rfl rfl).trans (by rw [rows_take])) (y := .lst mid) (lE_ok (compF_mapM (e := fun x => D.str (line x)) (h := fun x => D.str ((line x ++ ansT) ++ c)) (l := (l.drop k).take 1) (itB_l ((slice_mid (a := k) (xs := rowsS l) rfl rfl (opE_k (x := nD k) (y := nD 1) rfl rfl (addD_nat _ _))).trans ?_)) ?_ fun x hx => ⟨DR_ a0 (tx l) c3 (.val (.lst (rowsS l))) (.val (.str (line x))) (.val (nD k)) (.val (.bl fine)) (.val (.str c)) .un .un .un, rfl, ?_⟩)) (addD_lst ?_)) ((sliceE_from (n := k + 1) (xs := rowsS l) rfl (opE_k (x := nD k) (y := nD 1) rfl rfl (addD_nat _ _))).trans (by rw [rows_drop])) (addD_lst ?_))).trans rfl) ?_
  · rw [rowsS_e, ← List.map_drop, ← List.map_take]
  · rw [List.length_take]; omega
  · have := line_len x
    refine opE_k (opE_k (x := .str (line x)) (y := .str ansT) rfl rfl (add_s ?_)) (y := .str c) rfl (add_s ?_)
    · show (line x).length + 10 ≤ 1000
      omega
    · rw [List.length_append]
      show (line x).length + 10 + c.length ≤ 1000
      omega
  · rw [rows_len, List.length_take]; omega
  · rw [List.length_append, rows_len, rows_len, List.length_take, List.length_drop]; omega
  cases hf : fine with
  | true =>
    have hk : k < l.length := by
      by_cases hk : k < l.length
      · exact hk
      · have ef : fine = false := by show (match l[k]? with | some x => _ | none => _) = _; rw [List.getElem?_eq_none (by omega)]
        rw [ef] at hf
        cases hf
    have hx : l[k]? = some l[k] := List.getElem?_eq_getElem hk
    generalize hxe : l[k] = x at hx
    have hxk := h.ok _ (List.mem_of_getElem? hx)
    have ef : fine = (x.a.isNone && (!(c == [50, 52, 54, 48]) && decide (x.m ≤ cmin.getD i 0))) := by show (match l[k]? with | some x => _ | none => _) = _; rw [hx]
    rw [ef] at hf
    simp only [Bool.and_eq_true, decide_eq_true_eq, Bool.not_eq_true', beq_eq_false_iff_ne] at hf
    obtain ⟨f1, f2, f3⟩ := hf
    have ha : x.a = none := by cases e : x.a with | none => rfl | some b => rw [e] at f1; cases f1
    have hi2 : i < 2 := by
      match i, hi with
      | 0, _ => decide
      | 1, _ => decide
      | 2, _ => exact absurd hc.symm f2
    obtain ⟨ec, hb⟩ := clk_cks i hi2
    rw [ec] at hc
    have hy := ans_kinds i hi2 x hxk ha f3
    generalize cmin.getD i 0 = b at *
    have ed : (l.drop k).take 1 = [x] := by
      rw [List.drop_eq_getElem_cons hk, hxe]
      rfl
    have em : rowsS (l.take k) ++ mid ++ rowsS (l.drop (k + 1)) = rowsS (ansR l k x b) := by
      have : mid = rowsS [⟨x.m, x.s, x.h, some b⟩] := by
        show ((l.drop k).take 1).map _ = _
        rw [ed, rowsS_e, List.map_singleton, List.map_singleton, line_some (r := ⟨x.m, x.s, x.h, some b⟩) rfl, line_none ha, ← hc, List.append_assoc]
        rfl
      rw [this, rows_app, rows_app]
      rfl
    have hkl := ans_kl h hx rfl hy
    have hv : valT (var 7) r2 = .ok true := by show R.ok fine = _; rw [ef]; simp [f1, f2, f3]
    have e9 : (acons (var 9) anil) r2 = .ok [.lst (rowsS (ansR l k x b))] := acons_ok (by show R.ok (D.lst (rowsS (l.take k) ++ mid ++ rowsS (l.drop (k + 1)))) = _; rw [em]) rfl
    refine qret_wr (iteE_yes hv (bmE_ok (x := .str [10]) rfl rfl e9 (tx_join _ (Nat.le_trans hkl.len (by omega)) (Nat.le_trans (lsum_le hkl) (by omega))))) ⟨gK1, rfl, .inl ⟨ansR l k x b, hkl.mono (by omega), (ne_len (ans_len h hx ha rfl)).symm, rfl, ?_⟩⟩
    show answerK [nD k, .str c] S = _
    rw [← hc]
    exact answer_in h (by omega) hs hx ha f3 hb hy
  | false =>
    have hv : valT (var 7) r2 = .ok false := by show R.ok fine = _; rw [hf]
    refine qret_wr (iteE_no hv (x := .str (tx l)) rfl) ⟨gK1, rfl, .inr ⟨rfl, ?_⟩⟩
    show answerK [nD k, .str c] S = _
    by_cases hi2 : i < 2
    · obtain ⟨ec, hb⟩ := clk_cks i hi2
      rw [← hc, ec]
      refine answer_err h (by omega) hs hb ?_
      by_cases hk : k < l.length
      · have hx : l[k]? = some l[k] := List.getElem?_eq_getElem hk
        have ef : fine = (l[k].a.isNone && (!(c == [50, 52, 54, 48]) && decide (l[k].m ≤ cmin.getD i 0))) := by show (match l[k]? with | some x => _ | none => _) = _; rw [hx]
        rw [ef] at hf
        cases e : l[k].a with
        | some b => exact an_done hx e _
        | none =>
          refine an_late (h.lg (by omega)) hx e ?_
          have h2 : (c == [50, 52, 54, 48]) = false := by
            rw [← hc]
            match i, hi2 with
            | 0, _ => rfl
            | 1, _ => rfl
          rw [e, h2] at hf
          simpa using hf
      · exact an_out (by omega) _
    · have : i = 2 := by omega
      subst this
      rw [← hc]
      exact answer_bad h (by omega) hs
end K23
set_option Elab.async false
set_option linter.all false
set_option maxRecDepth 100000
set_option maxHeartbeats 1000000
namespace K23
open DL PySem L2 PySem.Spec PyProof.Rows
variable {n : Nat} {l : List Rw} {S : KS}
def kX : List Rw := [⟨570, 1, 1, none⟩, ⟨420, 0, 3, none⟩, ⟨495, 1, 0, some 500⟩, ⟨540, 0, 0, none⟩]
def rX : List (List Nat) := [[48, 57, 51, 48, 32, 119, 114, 101, 110, 32, 97, 49], [48, 55, 48, 48, 32, 108, 97, 114, 107, 32, 122], [48, 56, 49, 53, 32, 119, 114, 101, 110, 32, 97, 98, 32, 97, 110, 115, 119, 101, 114, 101, 100, 32, 48, 56, 50, 48], badRow]
theorem le_row : ∀ j, j < 4 → ∀ x ∈ kinds, leD (.str ((line x).take 4)) (.str ((rX.getD j []).take 4)) = .ok (.bl (decide (x.m ≤ (kX.getD j default_).m))) := fun j hj => by
  match j, hj with
  | 0, _ => exact kinds_all (by kernel_rfl) (by kernel_rfl) (by kernel_rfl) (by kernel_rfl) (by kernel_rfl) (by kernel_rfl) (by kernel_rfl) (by kernel_rfl)
  | 1, _ => exact kinds_all (by kernel_rfl) (by kernel_rfl) (by kernel_rfl) (by kernel_rfl) (by kernel_rfl) (by kernel_rfl) (by kernel_rfl) (by kernel_rfl)
  | 2, _ => exact kinds_all (by kernel_rfl) (by kernel_rfl) (by kernel_rfl) (by kernel_rfl) (by kernel_rfl) (by kernel_rfl) (by kernel_rfl) (by kernel_rfl)
  | 3, _ => exact kinds_all (by kernel_rfl) (by kernel_rfl) (by kernel_rfl) (by kernel_rfl) (by kernel_rfl) (by kernel_rfl) (by kernel_rfl) (by kernel_rfl)
where default_ : Rw := ⟨0, 0, 0, none⟩
theorem r_len : ∀ j, (rX.getD j []).length ≤ 30 := fun j => by
  match j with
  | 0 => decide
  | 1 => decide
  | 2 => decide
  | 3 => decide
  | j + 4 => exact Nat.zero_le _
theorem rx_line : ∀ j, j < 3 → rX.getD j [] = line (kX.getD j le_row.default_) ∧ kX.getD j le_row.default_ ∈ kinds := fun j hj => by
  match j, hj with
  | 0, _ => exact ⟨rfl, by simp [kX, kinds]⟩
  | 1, _ => exact ⟨rfl, by simp [kX, kinds]⟩
  | 2, _ => exact ⟨rfl, by simp [kX, kinds]⟩
theorem deed_c (h : Kl n l) (hn : n ≤ 9) (hs : S.sh = tx l) (a0 : Nat) {k j : Nat} (hj : j < 4) :
    Wr (qcons S_deed6 (qcons S_deed7 (qret 2 R_deed2)) (DR_ a0 (tx l) (.val (nD (4 + j))) (.val (.lst (rowsS l))) .un (.val (nD k)) .un .un .un .un .un)) (DeedPost n l S) := by
  have hl := h.len
  generalize hc : rX.getD j [] = c
  have hcl : c.length ≤ 30 := by rw [← hc]; exact r_len j
  let r1 : LE := DR_ a0 (tx l) (.val (nD (4 + j))) (.val (.lst (rowsS l))) (.val (.str c)) (.val (nD k)) .un .un .un .un .un
  refine qcons_go (r' := r1) ((setK_val (d := .str c) ?_).trans rfl) ?_
  · rw [← hc]
    match j, hj with
    | 0, _ => rfl
    | 1, _ => rfl
    | 2, _ => rfl
    | 3, _ => rfl
  generalize hx : kX.getD j le_row.default_ = x
  let F : List Rw := l.filter fun y => decide (y.m ≤ x.m)
  have hF : F.length ≤ l.length := List.length_filter_le ..
  let r2 : LE := DR_ a0 (tx l) (.val (nD (4 + j))) (.val (.lst (rowsS l))) (.val (.str c)) (.val (nD k)) .un .un .un (.own (.lst (rowsS F))) .un
  refine qcons_go (r' := r2) ((setK_own ((compF_fmM (e := fun y => D.str (line y)) (h := fun y => D.str (line y)) (p := fun y => decide (y.m ≤ x.m)) (l := l) (itB_l (by show R.ok (D.lst (rowsS l)) = _; rw [rowsS_e])) (by omega) fun y hy => ⟨DR_ a0 (tx l) (.val (nD (4 + j))) (.val (.lst (rowsS l))) (.val (.str c)) (.val (nD k)) .un .un .un .un (.val (.str (line y))), rfl, cmpT_ok (sliceS_to (n := 4) (xs := line y) rfl rfl (by have := line_len y; omega)) (sliceS_to (n := 4) (xs := c) rfl rfl (by omega)) ?_, fun _ => rfl⟩).trans (by rw [← rowsS_e]))).trans rfl) ?_
  · rw [← hc, ← hx]
    exact le_row j hj y (h.ok y hy)
  by_cases h7 : j < 3
  · have hv : cmpT ltD (var 3) (cst (.int 7)) r2 = .ok true := by
      refine (cmpT_ok (x := nD (4 + j)) (y := nD 7) rfl rfl (ltD_nat _ _)).trans ?_
      rw [decide_eq_true (by omega)]
    obtain ⟨e1, e2⟩ := rx_line j h7
    rw [hx] at e1 e2
    have ec : c = line x := hc.symm.trans e1
    have hp := put_kl h hn e2
    have e3 : opE addD (opE addD (varP 10) (lE (lstE (acons (var 5) anil)))) (sliceE (var 4) (someP (callE lenX (acons (varP 10) anil))) noP) r2 = .ok (.lst (rowsS (putR l x))) := by
      have a1 : opE addD (varP 10) (lE (lstE (acons (var 5) anil))) r2 = .ok (.lst (rowsS (F ++ [x]))) := by
        refine (opE_k (x := .lst (rowsS F)) (y := .lst [.str c]) rfl rfl (addD_lst ?_)).trans ?_
        · rw [rows_len]
          show F.length + 1 ≤ 1000000
          omega
        · rw [ec, ← rows_app]
          rfl
      refine (opE_k a1 (sliceE_from (n := F.length) (xs := rowsS l) rfl ((len_l (xs := rowsS F) rfl).trans (by rw [rows_len]))) (addD_lst ?_)).trans ?_
      · rw [rows_len, List.length_append, List.length_drop, rows_len, List.length_singleton]
        omega
      · rw [rows_drop, split_up h.up x.m, rows_app]
        rfl
    refine qret_wr (iteE_yes hv (bmE_ok (x := .str [10]) rfl rfl (acons_ok e3 (xs := []) rfl) (tx_join _ (Nat.le_trans hp.len (by omega)) (Nat.le_trans (lsum_le hp) (by omega))))) ⟨gK2, rfl, .inl ⟨putR l x, hp, (ne_len (put_len h e2)).symm, rfl, ?_⟩⟩
    show tellK [.str c] S = _
    rw [ec]
    exact tell_in h hn hs e2
  · have hv : cmpT ltD (var 3) (cst (.int 7)) r2 = .ok false := by
      refine (cmpT_ok (x := nD (4 + j)) (y := nD 7) rfl rfl (ltD_nat _ _)).trans ?_
      rw [decide_eq_false (by omega)]
    refine qret_wr (iteE_no hv (x := .str (tx l)) rfl) ⟨gK2, rfl, .inr ⟨rfl, ?_⟩⟩
    show tellK [.str c] S = _
    have : j = 3 := by omega
    subst this
    rw [← hc]
    exact tell_bad h (by omega) hs
theorem deed_wr (h : Kl n l) (hn : n ≤ 9) (hs : S.sh = tx l) (a0 : Nat) : Wr (F_deed (dstart 12 [.fn a0, .dice, .str (tx l)])) (DeedPost n l S) := by
  show Wr (F_deed (DR_ a0 (tx l) .un .un .un .un .un .un .un .un .un)) _
  unfold F_deed
  refine qcons_wr (P := fun r => ∃ i, i < 8 ∧ r = DR_ a0 (tx l) (.val (nD i)) (.val (.lst (rowsS l))) .un .un .un .un .un .un .un) ?_ ?_
  · unfold S_deed0
    rw [parK_eq, valK_eq, valK_eq, rows_c h (by omega) a0]
    refine Wr.onS_ (Wr.bindS (Wr.bindS ((rollS (n := 8) rfl rfl (by omega) (by omega)).mono fun d ⟨i, hi, e⟩ => ?_)))
    subst e
    exact Wr.ok (Wr.ok ⟨_, rfl, i, hi, rfl⟩)
  rintro r ⟨i, hi, rfl⟩
  refine qcons_wr (P := fun r => ∃ k, k < 4 ∧ r = DR_ a0 (tx l) (.val (nD i)) (.val (.lst (rowsS l))) .un (.val (nD k)) .un .un .un .un .un) ?_ ?_
  · refine (setK_wr (rollS (n := 4) rfl rfl (by omega) (by omega))).mono fun o ⟨r2, e, d, ⟨k, hk, e2⟩, e3⟩ => ⟨r2, e, k, hk, ?_⟩
    subst e2 e3
    rfl
  rintro r ⟨k, hk, rfl⟩
  by_cases h2 : i < 2
  · exact qif_yes ((cmpT_ok (x := nD i) (y := nD 2) rfl rfl (ltD_nat _ _)).trans (by rw [decide_eq_true h2])) (deed_a h hn hs a0 _)
  · refine qif_no ((cmpT_ok (x := nD i) (y := nD 2) rfl rfl (ltD_nat _ _)).trans (by rw [decide_eq_false h2])) ?_
    by_cases h4 : i < 4
    · exact qif_yes ((cmpT_ok (x := nD i) (y := nD 4) rfl rfl (ltD_nat _ _)).trans (by rw [decide_eq_true h4])) (deed_b h hn hs a0 _)
    · refine qif_no ((cmpT_ok (x := nD i) (y := nD 4) rfl rfl (ltD_nat _ _)).trans (by rw [decide_eq_false h4])) ?_
      obtain ⟨j, rfl⟩ : ∃ j, i = 4 + j := ⟨i - 4, by omega⟩
      exact deed_c h hn hs a0 (by omega)
end K23
set_option Elab.async false
set_option linter.all false
set_option maxRecDepth 100000
set_option maxHeartbeats 1000000
namespace K23
open DL PySem L2 PySem.Spec PyProof.Rows
def pairsOf : List (List Rw) → List (List Nat × List Nat)
  | a :: b :: r => (tx a, tx b) :: pairsOf (b :: r)
  | _ => []
theorem pairs_snoc : ∀ (l : List (List Rw)) (a b : List Rw), pairsOf (l ++ [a] ++ [b]) = pairsOf (l ++ [a]) ++ [(tx a, tx b)]
  | [], a, b => rfl
  | [x], a, b => rfl
  | x :: y :: l, a, b => by
    have ih := pairs_snoc (y :: l) a b
    show (tx x, tx y) :: pairsOf ((y :: l) ++ [a] ++ [b]) = ((tx x, tx y) :: pairsOf ((y :: l) ++ [a])) ++ [(tx a, tx b)]
    rw [ih]
    rfl
theorem pairs_len : ∀ l : List (List Rw), (pairsOf l).length ≤ l.length
  | [] => Nat.le_refl 0
  | [_] => Nat.zero_le _
  | x :: y :: l => by
    have := pairs_len (y :: l)
    show (pairsOf (y :: l)).length + 1 ≤ _
    rw [List.length_cons]
    omega
structure Hist (past : List (List Rw)) (p : Nat) (S : KS) (m : Nat) : Prop where
  hp : p < past.length
  len : past.length ≤ m + 1
  ok : ∀ l ∈ past, Kl (m + 1) l
  sh : ∃ l, past[p]? = some l ∧ S.sh = tx l
  ds : S.ds = pairsOf (past.take (p + 1))
  un : S.un = (pairsOf (past.drop p)).reverse
variable {past : List (List Rw)} {p m : Nat} {S : KS}
theorem Hist.up (h : Hist past p S m) : Hist past p S (m + 1) := ⟨h.hp, by have := h.len; omega, fun l hl => (h.ok l hl).mono (by omega), h.sh, h.ds, h.un⟩
theorem take_two {l : List (List Rw)} {p : Nat} {a b : List Rw} (ha : l[p]? = some a) (hb : l[p + 1]? = some b) : l.take (p + 1 + 1) = l.take p ++ [a] ++ [b] := by
  rw [List.take_succ, List.take_succ, ha, hb]
  rfl
theorem take_one {l : List (List Rw)} {p : Nat} {a : List Rw} (ha : l[p]? = some a) : l.take (p + 1) = l.take p ++ [a] := by
  rw [List.take_succ, ha]
  rfl
theorem drop_at {l : List (List Rw)} {p : Nat} {a : List Rw} (ha : l[p]? = some a) : l.drop p = a :: l.drop (p + 1) := by
  obtain ⟨h, rfl⟩ := List.getElem?_eq_some_iff.mp ha
  exact List.drop_eq_getElem_cons h
theorem undo_no (h : Hist past 0 S m) : undoK 4 S = .err ⟨4, .non⟩ := by
  obtain ⟨l, hl, _⟩ := h.sh
  have : S.ds = [] := by
    rw [h.ds, take_one hl]
    rfl
  unfold undoK
  rw [this]
  rfl
theorem undo_ok (h : Hist past (p + 1) S m) (hm : m ≤ 100) : ∃ S', undoK 4 S = .ok S' ∧ Hist past p S' m := by
  obtain ⟨b, hb, hsb⟩ := h.sh
  obtain ⟨a, ha⟩ : ∃ a, past[p]? = some a := ⟨_, List.getElem?_eq_getElem (by have := h.hp; omega)⟩
  have hds : S.ds = pairsOf (past.take (p + 1)) ++ [(tx a, tx b)] := by
    rw [h.ds, take_two ha hb, pairs_snoc, take_one ha]
  have hu : S.un.length < 16777216 := by
    rw [h.un, List.length_reverse]
    have := pairs_len (past.drop (p + 1))
    rw [List.length_drop] at this
    have := h.len
    omega
  refine ⟨⟨tx a, pairsOf (past.take (p + 1)), S.un ++ [(tx a, tx b)]⟩, ?_, ?_⟩
  · unfold undoK
    rw [hds, List.getLast?_concat]
    show (if S.un.length < 16777216 then R.ok _ else R.stuck) = _
    rw [if_pos hu, List.dropLast_concat]
  · refine ⟨by have := h.hp; omega, h.len, h.ok, ⟨a, ha, rfl⟩, rfl, ?_⟩
    show S.un ++ _ = _
    rw [drop_at ha, drop_at hb, h.un, drop_at hb]
    show _ = ((tx a, tx b) :: pairsOf (b :: past.drop (p + 1 + 1))).reverse
    rw [List.reverse_cons]
theorem redo_no (h : Hist past p S m) (hp : past.length ≤ p + 1) : redoK 4 S = .err ⟨4, .non⟩ := by
  obtain ⟨l, hl, _⟩ := h.sh
  have : S.un = [] := by
    rw [h.un, drop_at hl, List.drop_of_length_le hp]
    rfl
  unfold redoK
  rw [this]
  rfl
theorem redo_ok (h : Hist past p S m) (hm : m ≤ 100) (hp : p + 1 < past.length) : ∃ S', redoK 4 S = .ok S' ∧ Hist past (p + 1) S' m := by
  obtain ⟨a, ha, hsa⟩ := h.sh
  obtain ⟨b, hb⟩ : ∃ b, past[p + 1]? = some b := ⟨_, List.getElem?_eq_getElem hp⟩
  have hun : S.un = (pairsOf (past.drop (p + 1))).reverse ++ [(tx a, tx b)] := by
    rw [h.un, drop_at ha, drop_at hb]
    show ((tx a, tx b) :: pairsOf (b :: past.drop (p + 1 + 1))).reverse = _
    rw [List.reverse_cons]
  have hu : S.ds.length < 16777216 := by
    rw [h.ds]
    have := pairs_len (past.take (p + 1))
    rw [List.length_take] at this
    have := h.len
    omega
  refine ⟨⟨tx b, S.ds ++ [(tx a, tx b)], (pairsOf (past.drop (p + 1))).reverse⟩, ?_, ?_⟩
  · unfold redoK
    rw [hun, List.getLast?_concat]
    show (if S.ds.length < 16777216 then R.ok _ else R.stuck) = _
    rw [if_pos hu, List.dropLast_concat]
  · refine ⟨hp, h.len, h.ok, ⟨b, hb, rfl⟩, ?_, rfl⟩
    show S.ds ++ _ = _
    rw [h.ds, take_two ha hb, pairs_snoc, take_one ha]
theorem deed_ok (h : Hist past p S m) {l' : List Rw} (hl : Kl (m + 1 + 1) l') : Hist (past.take (p + 1) ++ [l']) (p + 1) ⟨tx l', S.ds ++ [(S.sh, tx l')], []⟩ (m + 1) := by
  obtain ⟨a, ha, hsa⟩ := h.sh
  have hp := h.hp
  have hlen : (past.take (p + 1)).length = p + 1 := by rw [List.length_take]; omega
  refine ⟨by rw [List.length_append, hlen]; simp, by rw [List.length_append, hlen]; have := h.len; simp; omega, fun l hl2 => ?_, ⟨l', ?_, rfl⟩, ?_, ?_⟩
  · rcases List.mem_append.mp hl2 with z | z
    · exact (h.ok l (List.mem_of_mem_take z)).mono (by omega)
    · rw [List.mem_singleton.mp z]; exact hl
  · rw [List.getElem?_append_right (by omega), hlen, Nat.sub_self]
    rfl
  · show S.ds ++ _ = _
    rw [List.take_of_length_le (by rw [List.length_append, hlen]; simp), take_one ha, pairs_snoc, ← take_one ha, ← h.ds, hsa]
  · show [] = _
    rw [List.drop_append_of_le_length (by omega), List.drop_of_length_le (by omega)]
    rfl
end K23
set_option Elab.async false
set_option linter.all false
set_option maxRecDepth 100000
set_option maxHeartbeats 1000000
namespace K23
open DL PySem L2 PySem.Spec PyProof.Rows
variable {past : List (List Rw)} {p m a0 : Nat} {S : KS} {c5 c6 c7 c8 c9 c10 c11 : Cell}
theorem seqG_wr {A B : GF} {r : LE} {Q : Out × KS → Prop} (h : Wr (A r S) (fun x => ∃ r', x.1 = .nx r' ∧ Wr (B r' x.2) Q)) : Wr (seqG A B r S) Q :=
  Wr.bindS (h.mono fun x ⟨r', e, k⟩ => by
    obtain ⟨o, S'⟩ := x
    cases e
    exact k)
theorem seqG_go {A B : GF} {r r' : LE} {S' : KS} {Q : Out × KS → Prop} (h : A r S = .ok (.nx r', S')) (k : Wr (B r' S') Q) : Wr (seqG A B r S) Q := by
  unfold seqG
  rw [h]
  exact k
theorem liftG_go {F : LE → R Out} {r r' : LE} (h : F r = .ok (.nx r')) : liftG F r S = .ok (.nx r', S) := by
  unfold liftG
  rw [h]
  rfl
theorem liftG_wr {F : LE → R Out} {r : LE} {P : LE → Prop} (h : Wr (F r) (fun o => ∃ r', o = .nx r' ∧ P r')) : Wr (liftG F r S) (fun x => ∃ r', x.1 = .nx r' ∧ x.2 = S ∧ P r') :=
  Wr.bindS (h.mono fun o ⟨r', e, hp⟩ => by subst e; exact Wr.ok ⟨r', rfl, rfl, hp⟩)
theorem ifG_wr {t : LE → R Bool} {A B : GF} {r : LE} {Q : Out × KS → Prop} (h : Wr (t r) (fun _ => True)) (ka : Wr (A r S) Q) (kb : Wr (B r S) Q) : Wr (ifG t A B r S) Q :=
  Wr.bindS ((Wr.calmS h).mono fun b _ => by cases b; exact kb; exact ka)
abbrev pastD (past : List (List Rw)) : List D := past.map fun l => D.str (tx l)
abbrev LS (a0 : Nat) (past : List (List Rw)) (p : Nat) (c5 c6 c7 c8 c9 c10 c11 : Cell) : LE := [.un, .val .dice, .val (.fn a0), .val (.lst (pastD past)), .val (nD p), c5, c6, c7, c8, c9, c10, c11, .un, .un, .un]
def dueD : D := .str [100, 117, 101]
def repD (fine : Bool) : D := if fine then .non else dueD
def StepPost (a0 m : Nat) (c5 : Cell) (x : Out × KS) : Prop := ∃ past' p' c6 c7 c8 c9 c10 c11, x.1 = .nx (LS a0 past' p' c5 c6 c7 c8 c9 c10 c11) ∧ Hist past' p' x.2 m
theorem at_past {l : List Rw} (hl : past[p]? = some l) {r : LE} (h3 : r[3]? = some (.val (.lst (pastD past)))) (h4 : r[4]? = some (.val (nD p))) : subE (var 3) (var 4) r = .ok (.str (tx l)) :=
  subE_k (x := .lst (pastD past)) (y := nD p) (var_k h3) (var_k h4) (subI_lst (by rw [List.getElem?_map, hl]; rfl))
theorem fin_ok (h : Hist past p S m) (fine : Bool) : Wr (ifRG 3 2 T_law retF skipG (LS a0 past p c5 c6 c7 (.val (.bl fine)) (.val (repD fine)) c10 c11) S) (StepPost a0 m c5) := by
  obtain ⟨l, hl, hs⟩ := h.sh
  have ht : T_law ((LS a0 past p c5 c6 c7 (.val (.bl fine)) (.val (repD fine)) c10 c11).set 2 (.val (.ins 3 (frzL S)))) = .ok false := by
    refine orT_ff ?_ ?_
    · cases fine with
      | true => rfl
      | false => rfl
    · refine (cmpT_ok (x := .str S.sh) (y := .str (tx l)) rfl (at_past hl rfl rfl) neD_strs).trans ?_
      rw [hs]
      simp
  unfold ifRG
  rw [ht]
  exact Wr.ok ⟨past, p, c6, c7, _, _, c10, c11, rfl, h⟩
/-- behind undo or redo -/
theorem place_ok {g : Int} {fine : Bool} {q : Nat} {d9 : D} (hq : (p : Int) + g * (if fine then 1 else 0) = (q : Int)) (hg : g = -1 ∨ g = 1) : S_law4 (LS a0 past p c5 c6 (.val (.int g)) (.val (.bl fine)) (.val d9) c10 c11) = .ok (.nx (LS a0 past q c5 c6 (.val (.int g)) (.val (.bl fine)) (.val d9) c10 c11)) := by
  have hi : callE intY (acons (var 8) anil) (LS a0 past p c5 c6 (.val (.int g)) (.val (.bl fine)) (.val d9) c10 c11) = .ok (.int (if fine then 1 else 0)) := by cases fine <;> rfl
  have hmul : opE mulD (var 7) (callE intY (acons (var 8) anil)) (LS a0 past p c5 c6 (.val (.int g)) (.val (.bl fine)) (.val d9) c10 c11) = .ok (.int (g * (if fine then 1 else 0))) := opE_k (x := .int g) rfl hi (mul_int _ _ (by rcases hg with rfl | rfl <;> decide))
  refine (setK_val (d := nD q) (opE_k (x := nD p) rfl hmul ?_)).trans rfl
  show R.ok (D.int ((p : Int) + g * (if fine then 1 else 0))) = _
  rw [hq]
theorem chainE_i {f1 f2 f3 : LE → R D} {r : LE} {a b c : Int} (h1 : f1 r = .ok (.int a)) (h2 : f2 r = .ok (.int b)) (h3 : f3 r = .ok (.int c)) : chainE f1 f2 f3 leD ltD r = .ok (.bl (decide (a ≤ b) && decide (b < c))) := by
  unfold chainE
  rw [h1, h2, R.ok_bind, R.ok_bind, show leD (.int a) (.int b) = .ok (.bl (decide (a ≤ b))) from rfl, R.ok_bind]
  cases decide (a ≤ b) with
  | true =>
    show (f3 r >>= fun w => ltD (.int b) w) = _
    rw [h3]
    rfl
  | false => rfl
theorem undo_wr (h : Hist past p S m) (hm : m ≤ 8) : Wr (F_undo (LS a0 past p c5 c6 c7 c8 c9 c10 c11) S) (fun x => ∃ past' p' c6 c7 fine c10 c11, x.1 = .nx (LS a0 past' p' c5 c6 c7 (.val (.bl fine)) (.val (repD fine)) c10 c11) ∧ Hist past' p' x.2 m) := by
  unfold F_undo
  refine seqG_wr ((liftG_wr (P := fun r => ∃ g : Int, (g = -1 ∨ g = 1) ∧ r = LS a0 past p c5 c6 (.val (.int g)) c8 c9 c10 c11) ?_).mono fun x ⟨r', e, eS, g, hg, er⟩ => ⟨r', e, ?_⟩)
  · refine (setK_wr (Q := fun d => ∃ g : Int, (g = -1 ∨ g = 1) ∧ d = .int g) (subS_wr (x := .lst [.int (-1), .int 1]) rfl (rollS (n := 2) rfl rfl (by omega) (by omega)) fun y ⟨i, hi, e⟩ => ?_)).mono fun o ⟨r2, e, d, ⟨g, hg, e2⟩, e3⟩ => ⟨r2, e, g, hg, ?_⟩
    · subst e
      match i, hi with
      | 0, _ => exact Wr.eq (a := .int (-1)) rfl ⟨-1, .inl rfl, rfl⟩
      | 1, _ => exact Wr.eq (a := .int 1) rfl ⟨1, .inr rfl, rfl⟩
    · subst e2 e3
      rfl
  subst er
  rw [eS]
  have hp := h.hp
  let fine : Bool := decide ((0 : Int) ≤ (p : Int) + g) && decide ((p : Int) + g < (past.length : Int))
  have h8 : S_law8 (LS a0 past p c5 c6 (.val (.int g)) c8 c9 c10 c11) = .ok (.nx (LS a0 past p c5 c6 (.val (.int g)) (.val (.bl fine)) c9 c10 c11)) := by
    refine (setK_val (d := .bl fine) ?_).trans rfl
    have e2 : opE addD (var 4) (var 7) (LS a0 past p c5 c6 (.val (.int g)) c8 c9 c10 c11) = .ok (.int ((p : Int) + g)) := rfl
    have e3 : callE lenX (acons (var 3) anil) (LS a0 past p c5 c6 (.val (.int g)) c8 c9 c10 c11) = .ok (.int (past.length : Int)) := (len_l (xs := pastD past) rfl).trans (by rw [List.length_map])
    exact chainE_i rfl e2 e3
  refine seqG_go (liftG_go h8) ?_
  have fin : ∀ (q : Nat) (S' : KS), (p : Int) + g * (if fine then 1 else 0) = (q : Int) → Hist past q S' m → ∀ d9, d9 = repD fine →
      Wr (liftG S_law4 (LS a0 past p c5 c6 (.val (.int g)) (.val (.bl fine)) (.val d9) c10 c11) S') (fun x => ∃ past' p' c6 c7 fine c10 c11, x.1 = .nx (LS a0 past' p' c5 c6 c7 (.val (.bl fine)) (.val (repD fine)) c10 c11) ∧ Hist past' p' x.2 m) := fun q S' hq hH d9 e9 => by
    rw [liftG_go (place_ok hq hg), e9]
    exact Wr.ok ⟨past, q, c6, _, fine, c10, c11, rfl, hH⟩
  have told_ok : ∀ {m' : R KS} {S' : KS}, m' = .ok S' → toldG 9 (fun _ S => toldKs toldL S m') (LS a0 past p c5 c6 (.val (.int g)) (.val (.bl fine)) c9 c10 c11) S = .ok (.nx (LS a0 past p c5 c6 (.val (.int g)) (.val (.bl fine)) (.val .non) c10 c11), S') := fun e => by rw [e]; rfl
  have told_no : ∀ {m' : R KS}, m' = .err ⟨4, .non⟩ → toldG 9 (fun _ S => toldKs toldL S m') (LS a0 past p c5 c6 (.val (.int g)) (.val (.bl fine)) c9 c10 c11) S = .ok (.nx (LS a0 past p c5 c6 (.val (.int g)) (.val (.bl fine)) (.val dueD) c10 c11), S) := fun e => by rw [e]; rfl
  rcases hg with rfl | rfl
  · have ht : cmpT ltD (var 7) (cst (.int 0)) (LS a0 past p c5 c6 (.val (.int (-1))) (.val (.bl fine)) c9 c10 c11) = .ok true := rfl
    cases p with
    | zero =>
      have hf : fine = false := by
        show (decide ((0 : Int) ≤ ((0 : Nat) : Int) + -1) && _) = false
        rfl
      have e := told_no (undo_no h)
      refine seqG_wr ?_
      unfold ifG
      rw [ht]
      show Wr (toldG 9 (fun _ S => toldKs toldL S (undoK 4 S)) _ S) _
      refine Wr.eq e ⟨_, rfl, fin 0 S (by rw [hf]; rfl) h dueD (by rw [hf]; rfl)⟩
    | succ q =>
      have hf : fine = true := by
        show (decide ((0 : Int) ≤ ((q + 1 : Nat) : Int) + -1) && decide (((q + 1 : Nat) : Int) + -1 < (past.length : Int))) = true
        rw [decide_eq_true (by omega), decide_eq_true (by omega)]
        rfl
      obtain ⟨S', e1, h1⟩ := undo_ok h (by omega)
      have e := told_ok e1
      refine seqG_wr ?_
      unfold ifG
      rw [ht]
      show Wr (toldG 9 (fun _ S => toldKs toldL S (undoK 4 S)) _ S) _
      exact Wr.eq e ⟨_, rfl, fin q S' (by rw [hf]; show ((q + 1 : Nat) : Int) + -1 * 1 = _; omega) h1 .non (by rw [hf]; rfl)⟩
  · have ht : cmpT ltD (var 7) (cst (.int 0)) (LS a0 past p c5 c6 (.val (.int 1)) (.val (.bl fine)) c9 c10 c11) = .ok false := rfl
    by_cases hn : p + 1 < past.length
    · have hf : fine = true := by
        show (decide ((0 : Int) ≤ (p : Int) + 1) && decide ((p : Int) + 1 < (past.length : Int))) = true
        rw [decide_eq_true (by omega), decide_eq_true (by omega)]
        rfl
      obtain ⟨S', e1, h1⟩ := redo_ok h (by omega) hn
      have e := told_ok e1
      refine seqG_wr ?_
      unfold ifG
      rw [ht]
      show Wr (toldG 9 (fun _ S => toldKs toldL S (redoK 4 S)) _ S) _
      exact Wr.eq e ⟨_, rfl, fin (p + 1) S' (by rw [hf]; show (p : Int) + 1 * 1 = _; omega) h1 .non (by rw [hf]; rfl)⟩
    · have hf : fine = false := by
        show (decide ((0 : Int) ≤ (p : Int) + 1) && decide ((p : Int) + 1 < (past.length : Int))) = false
        rw [decide_eq_false (p := (p : Int) + 1 < (past.length : Int)) (by omega), Bool.and_false]
      have e := told_no (redo_no h (by omega))
      refine seqG_wr ?_
      unfold ifG
      rw [ht]
      show Wr (toldG 9 (fun _ S => toldKs toldL S (redoK 4 S)) _ S) _
      exact Wr.eq e ⟨_, rfl, fin p S (by rw [hf]; show (p : Int) + 1 * 0 = _; omega) h dueD (by rw [hf]; rfl)⟩
end K23
set_option Elab.async false
set_option linter.all false
set_option maxRecDepth 100000
set_option maxHeartbeats 1000000
namespace K23
open DL PySem L2 PySem.Spec PyProof.Rows
variable {past : List (List Rw)} {p m a0 : Nat} {S : KS} {c5 c6 c7 c8 c9 c10 c11 : Cell}
def MidPost (a0 m : Nat) (c5 : Cell) (x : Out × KS) : Prop := ∃ past' p' c6 c7 fine c10 c11, x.1 = .nx (LS a0 past' p' c5 c6 c7 (.val (.bl fine)) (.val (repD fine)) c10 c11) ∧ Hist past' p' x.2 m
theorem make_wr (h : Hist past p S m) (hm : m ≤ 8) {l : List Rw} (hl : past[p]? = some l) (hs : S.sh = tx l) : Wr (F_make (LS a0 past p c5 (.val (.str (tx l))) c7 c8 c9 c10 c11) S) (MidPost a0 (m + 1) c5) := by
  have hk : Kl (m + 1) l := h.ok l (List.mem_of_getElem? hl)
  have hd : S.ds.length < 100 := by
    rw [h.ds]
    have := pairs_len (past.take (p + 1))
    rw [List.length_take] at this
    have := h.len
    omega
  unfold F_make
  refine seqG_wr ?_
  show Wr (F_deed (dstart 12 [.fn a0, .dice, .str (tx l)]) >>= deedK 10 11 9 [gK0, gK1, gK2] toldL (LS a0 past p c5 (.val (.str (tx l))) c7 c8 c9 c10 c11) S) _
  refine Wr.bindS ((deed_wr hk (by omega) hs a0).mono fun x ⟨gK, hg, hx⟩ => ?_)
  have e0 : deedK 10 11 9 [gK0, gK1, gK2] toldL (LS a0 past p c5 (.val (.str (tx l))) c7 c8 c9 c10 c11) S x = toldKs toldL S (gK x.2.1 S) >>= fun y => .ok (.nx ((((LS a0 past p c5 (.val (.str (tx l))) c7 c8 c9 c10 c11).set 10 .un).set 11 (.val x.2.2)).set 9 (.val y.1)), y.2) := by
    unfold deedK
    rw [hg]
  rw [e0]
  rcases hx with ⟨l', hl', hne, ed, eg⟩ | ⟨ed, eg⟩
  · rw [eg, note_ok (by rw [hs]; exact hne) (Nat.le_trans (tx_le hl' (by omega)) (by omega)) hd, ed]
    refine Wr.eq (a := (Out.nx (LS a0 past p c5 (.val (.str (tx l))) c7 c8 (.val .non) .un (.val (.str (tx l')))), ⟨tx l', S.ds ++ [(S.sh, tx l')], []⟩)) rfl ⟨_, rfl, ?_⟩
    have h8 : S_law8b (LS a0 past p c5 (.val (.str (tx l))) c7 c8 (.val .non) .un (.val (.str (tx l')))) = .ok (.nx (LS a0 past p c5 (.val (.str (tx l))) c7 (.val (.bl true)) (.val .non) .un (.val (.str (tx l'))))) := by
      refine (setK_val (d := .bl true) ((opE_k (x := .str (tx l')) (y := .str (tx l)) rfl rfl neD_strs).trans ?_)).trans rfl
      rw [beq_eq_false_iff_ne.mpr hne]
      rfl
    refine seqG_go (liftG_go h8) ?_
    have hp : S_lawp (LS a0 past p c5 (.val (.str (tx l))) c7 (.val (.bl true)) (.val .non) .un (.val (.str (tx l')))) = .ok (.nx (LS a0 (past.take (p + 1) ++ [l']) (p + 1) c5 (.val (.str (tx l))) c7 (.val (.bl true)) (.val .non) .un (.val (.str (tx l'))))) := by
      refine ifS_yes rfl ((parK_vv (x := .lst (pastD (past.take (p + 1) ++ [l']))) (y := nD (p + 1)) ((opE_k (sliceE_to (n := p + 1) (xs := pastD past) rfl (opE_k (x := nD p) (y := nD 1) rfl rfl (addD_nat _ _))) (y := .lst [.str (tx l')]) rfl (addD_lst ?_)).trans ?_) (opE_k (x := nD p) (y := nD 1) rfl rfl (addD_nat _ _))).trans rfl)
      · have := h.len
        rw [List.length_take, List.length_map, List.length_singleton]
        omega
      · unfold pastD
        rw [List.map_append, List.map_take]
        rfl
    rw [liftG_go hp]
    exact Wr.ok ⟨_, _, _, _, true, _, _, rfl, deed_ok h hl'⟩
  · rw [eg, ed]
    refine Wr.eq (a := (Out.nx (LS a0 past p c5 (.val (.str (tx l))) c7 c8 (.val dueD) .un (.val (.str (tx l)))), S)) rfl ⟨_, rfl, ?_⟩
    have h8 : S_law8b (LS a0 past p c5 (.val (.str (tx l))) c7 c8 (.val dueD) .un (.val (.str (tx l)))) = .ok (.nx (LS a0 past p c5 (.val (.str (tx l))) c7 (.val (.bl false)) (.val dueD) .un (.val (.str (tx l))))) := by
      refine (setK_val (d := .bl false) ((opE_k (x := .str (tx l)) (y := .str (tx l)) rfl rfl neD_strs).trans ?_)).trans rfl
      simp
    refine seqG_go (liftG_go h8) ?_
    rw [liftG_go (r' := LS a0 past p c5 (.val (.str (tx l))) c7 (.val (.bl false)) (.val dueD) .un (.val (.str (tx l)))) (ifS_no rfl rfl)]
    exact Wr.ok ⟨_, _, _, _, false, _, _, rfl, h.up⟩
theorem step_wr (h : Hist past p S m) (hm : m ≤ 8) : Wr (F_step (LS a0 past p c5 c6 c7 c8 c9 c10 c11) S) (StepPost a0 (m + 1) c5) := by
  obtain ⟨l, hl, hs⟩ := h.sh
  unfold F_step
  have h6 : S_law6 (LS a0 past p c5 c6 c7 c8 c9 c10 c11) = .ok (.nx (LS a0 past p c5 (.val (.str (tx l))) c7 c8 c9 c10 c11)) := (setK_val (at_past hl rfl rfl)).trans rfl
  refine seqG_go (liftG_go h6) (seqG_wr ?_)
  have fin : ∀ x, MidPost a0 (m + 1) c5 x → ∃ r', x.1 = .nx r' ∧ Wr (ifRG 3 2 T_law retF skipG r' x.2) (StepPost a0 (m + 1) c5) := fun x ⟨past', p', c6, c7, fine, c10, c11, e, hH⟩ => ⟨_, e, fin_ok hH fine⟩
  refine ifG_wr (cmp_wr (rollS (n := 4) rfl rfl (by omega) (by omega)) (y := nD 0) rfl fun x ⟨c, hc, e⟩ => ?_) ?_ ((make_wr h hm hl hs).mono fin)
  · subst e
    exact ⟨_, eqD_nat _ _⟩
  · exact (undo_wr h hm).mono fun x ⟨past', p', c6, c7, fine, c10, c11, e, hH⟩ => fin x ⟨past', p', c6, c7, fine, c10, c11, e, hH.up⟩
theorem loop_wr : ∀ (ds : List D) {past : List (List Rw)} {p m : Nat} {S : KS} {c5 c6 c7 c8 c9 c10 c11 : Cell}, Hist past p S m → m + ds.length ≤ 9 →
    Wr (loopG (gN 5) F_step ds (LS a0 past p c5 c6 c7 c8 c9 c10 c11) S) (fun x => ∃ past' p' c5 c6 c7 c8 c9 c10 c11, x.1 = .nx (LS a0 past' p' c5 c6 c7 c8 c9 c10 c11) ∧ Hist past' p' x.2 9)
  | [], past, p, m, S, c5, c6, c7, c8, c9, c10, c11, h, hm => by
    refine Wr.ok ⟨past, p, c5, c6, c7, c8, c9, c10, c11, rfl, h.hp, by have := h.len; simp at hm; omega, fun l hl => (h.ok l hl).mono (by simp at hm; omega), h.sh, h.ds, h.un⟩
  | d :: ds, past, p, m, S, c5, c6, c7, c8, c9, c10, c11, h, hm => by
    rw [List.length_cons] at hm
    show Wr (F_step (LS a0 past p (.val d) c6 c7 c8 c9 c10 c11) S >>= fun x => match x with | (.nx r2, S2) => loopG (gN 5) F_step ds r2 S2 | (.ct r2, S2) => loopG (gN 5) F_step ds r2 S2 | (.bk r2, S2) => .ok (.nx r2, S2) | y => .ok y) _
    refine Wr.bindS ((step_wr h (by omega)).mono fun x ⟨past', p', c6, c7, c8, c9, c10, c11, e, hH⟩ => ?_)
    obtain ⟨o, S'⟩ := x
    cases e
    exact loop_wr ds hH (by omega)
end K23
set_option Elab.async false
set_option linter.all false
set_option maxRecDepth 100000
set_option maxHeartbeats 1000000
namespace K23
open DL PySem L2 PySem.Spec PyProof.Rows
variable {past : List (List Rw)} {p m a0 : Nat} {S : KS} {l : List Rw} {c5 c6 c7 c8 c9 c10 c11 : Cell}
def unL (l : List Rw) : List Nat := (List.range l.length).filter fun i => match l[i]? with
  | some x => x.a.isNone
  | none => false
theorem unanswered_ok (hl : l.length ≤ 20) : D_Tally_unanswered [tyD l] = .ok (.tup ((unL l).map nD)) := by
  refine runF_rt rfl ?_
  show F_Tally_unanswered [.val (tyD l), .un] = _
  unfold F_Tally_unanswered
  refine retS_ok (callE1_ok (x := .lst ((unL l).map nD)) (lE_ok ?_) rfl)
  have hn : callE lenX (acons (fldE fx_rows (var 0)) anil) [.val (tyD l), .un] = .ok (nD l.length) := callE1_ok (x := .tup (l.map triD)) (fld_k (x := tyD l) rfl rfl) ((lenX_t _).trans (by rw [List.length_map]))
  refine compF_fmM (e := nD) (h := nD) (p := fun i => match l[i]? with | some x => x.a.isNone | none => false) (l := List.range l.length) (rng1E_ok hn (by omega)) (by rw [List.length_range]; omega) fun i hi => ⟨[.val (tyD l), .val (nD i)], rfl, ?_, fun _ => rfl⟩
  obtain ⟨x, hx⟩ : ∃ x, l[i]? = some x := ⟨_, List.getElem?_eq_getElem (List.mem_range.mp hi)⟩
  rw [hx]
  exact isNE_k (a := x.a) (subE_k (subE_k (x := .tup (l.map triD)) (fld_k (x := tyD l) rfl rfl) (y := nD i) rfl (subI_tup (d := triD x) (by rw [List.getElem?_map, hx]; rfl))) (y := nD 2) rfl (subI_tup rfl))
def wD (x : Rw) : D := .lst ((words x).map D.str)
def judgeD (l : List Rw) : D := .tup [nD l.length, .tup ((unL l).map nD), .tup (l.map fun x => .str (rcp x.h))]
theorem judged_ok {n : Nat} (h : Kl n l) (hn : n ≤ 20) (hs : S.sh = tx l) : D_Desk_judged [.ins 3 (frzL S)] = .ok (judgeD l) := by
  have L := h.lg hn
  have hl := L.len
  refine runF_rt rfl ?_
  show F_Desk_judged [.val (.ins 3 (frzL S)), .un] = _
  unfold F_Desk_judged
  have e1 : callE D_read_log (acons (fldE fx_shown (var 0)) anil) [.val (.ins 3 (frzL S)), .un] = .ok (logI l) := by
    refine callE1_ok (x := .str (tx l)) ?_ (read_log_ok L)
    show R.ok (D.str S.sh) = _
    rw [hs]
  refine seqS_go (r' := [.val (.ins 3 (frzL S)), .val (logI l)]) ((setK_val e1).trans rfl) (retS_ok (tupE_ok (acons_ok ((len_t (fld_r (l := l) rfl)).trans (by rw [List.length_map])) (acons_ok (meth0_ok (c := 0) (fs := [.tup (l.map triD)]) (meth0_ok (c := 2) (fs := [.tup (rowsL l)]) rfl (log_tally L)) (unanswered_ok hl)) (acons_ok (meth0_ok (c := 2) (fs := [.tup (rowsL l)]) rfl (log_words hl)) (xs := []) rfl))) (Nat.le_of_ble_eq_true rfl)))
theorem judge_sh (l : List Rw) : (judgeD l).sh 64 = true := by
  have h3 : D.shs (l.map fun x => D.str (rcp x.h)) 62 = true := shs_map fun x _ => five (P := fun s => (D.str (rcp s)).sh 62 = true) (by unfold D.sh; decide) (by unfold D.sh; decide) (by unfold D.sh; decide) (by unfold D.sh; decide) (by unfold D.sh; decide) x.h
  show D.shs [nD l.length, .tup ((unL l).map nD), .tup (l.map fun x => .str (rcp x.h))] 63 = true
  unfold D.shs D.shs D.shs D.shs
  rw [nD_sh]
  show (true && (D.shs ((unL l).map nD) 62 && (D.shs (l.map fun x => D.str (rcp x.h)) 62 && true))) = true
  rw [nDs_sh, h3]
  rfl
theorem wD_len (x : Rw) : ((words x).map D.str).length = (if x.a.isNone then 3 else 5) := by
  rw [List.length_map]
  unfold words
  cases x.a <;> rfl
theorem rows12 {n : Nat} (h : Kl n l) (hn : n ≤ 20) (hl : past[p]? = some l) : S_law12 (LS a0 past p c5 c6 c7 c8 c9 c10 c11) = .ok (.nx [.un, .val .dice, .val (.fn a0), .val (.lst (pastD past)), .val (nD p), c5, c6, c7, c8, c9, c10, c11, .val (.lst (l.map wD)), .un, .un]) := by
  have hs := split_tx h hn (f := subE (var 3) (var 4)) (r := LS a0 past p c5 c6 c7 c8 c9 c10 c11) (at_past hl rfl rfl)
  have hln := h.len
  refine (setK_val (d := .lst (l.map wD)) (lE_ok ?_)).trans rfl
  cases l with
  | nil =>
    exact compF_fmM (e := D.str) (h := fun _ => D.non) (p := fun t => !(t == [])) (l := [[]]) hs (by decide) fun t ht => by
      have : t = [] := by simpa using ht
      subst this
      exact ⟨[.un, .val .dice, .val (.fn a0), .val (.lst (pastD past)), .val (nD p), c5, c6, c7, c8, c9, c10, c11, .un, .val (.str []), .un], rfl, cmpT_ok (x := .str []) (y := .str []) rfl rfl neD_str, fun z => by cases z⟩
  | cons x0 l0 =>
    have e : (parts (x0 :: l0)).map D.str = (x0 :: l0).map fun x => D.str (line x) := rowsS_e _
    rw [e] at hs
    refine (compF_fmM (e := fun x => D.str (line x)) (h := wD) (p := fun _ => true) (l := x0 :: l0) hs (by omega) fun x hx => ⟨[.un, .val .dice, .val (.fn a0), .val (.lst (pastD past)), .val (nD p), c5, c6, c7, c8, c9, c10, c11, .un, .val (.str (line x)), .un], rfl, ?_, fun _ => bmE_ok (x := .str (line x)) rfl rfl (acons_ok (x := .str [32]) rfl (xs := []) rfl) (split_line x)⟩).trans ?_
    · refine cmpT_ok (x := .str (line x)) (y := .str []) rfl rfl (neD_str.trans ?_)
      have := (line_lo x (h.ok x hx)).1
      cases e : line x with
      | nil => rw [e] at this; simp at this
      | cons a b => rfl
    · rw [List.filter_eq_self.mpr (fun _ _ => rfl)]
theorem end_ok (h : Hist past p S m) (hm : m ≤ 9) : Wr (seqG (liftG S_law12) (ifRG 3 2 T_law2 retF skipG) (LS a0 past p c5 c6 c7 c8 c9 c10 c11) S) (fun z => ∃ r', z.1 = .nx r' ∧ r'.length = 15) := by
  obtain ⟨l, hl, hs⟩ := h.sh
  have hk := h.ok l (List.mem_of_getElem? hl)
  have L := hk.lg (by omega)
  have hln := L.len
  refine seqG_go (liftG_go (rows12 hk (by omega) hl)) ?_
  let r1 : LE := [.un, .val .dice, .val (.ins 3 (frzL S)), .val (.lst (pastD past)), .val (nD p), c5, c6, c7, c8, c9, c10, c11, .val (.lst (l.map wD)), .un, .un]
  have hlen : callE lenX (acons (var 12) anil) r1 = .ok (nD l.length) := (len_l (xs := l.map wD) rfl).trans (by rw [List.length_map])
  have hlen2 : ∀ c13 c14, callE lenX (acons (var 12) anil) [.un, .val .dice, .val (.ins 3 (frzL S)), .val (.lst (pastD past)), .val (nD p), c5, c6, c7, c8, c9, c10, c11, .val (.lst (l.map wD)), c13, c14] = .ok (nD l.length) := fun c13 c14 => (len_l (xs := l.map wD) rfl).trans (by rw [List.length_map])
  have hc : compF (rng1E (acons (callE lenX (acons (var 12) anil)) anil)) (gN 14) (cmpT eqD (callE lenX (acons (subE (var 12) (var 14)) anil)) (cst (.int 3))) (var 14) [14] r1 = .ok ((unL l).map nD) := by
    refine compF_fmM (e := nD) (h := nD) (p := fun i => match l[i]? with | some x => x.a.isNone | none => false) (l := List.range l.length) (rng1E_ok hlen (by omega)) (by rw [List.length_range]; omega) fun i hi => ⟨[.un, .val .dice, .val (.ins 3 (frzL S)), .val (.lst (pastD past)), .val (nD p), c5, c6, c7, c8, c9, c10, c11, .val (.lst (l.map wD)), .un, .val (nD i)], rfl, ?_, fun _ => rfl⟩
    obtain ⟨x, hx⟩ : ∃ x, l[i]? = some x := ⟨_, List.getElem?_eq_getElem (List.mem_range.mp hi)⟩
    rw [hx]
    refine (cmpT_ok (x := nD (if x.a.isNone then 3 else 5)) (y := nD 3) ((len_l (xs := (words x).map D.str) (subE_k (x := .lst (l.map wD)) (y := nD i) rfl rfl (subI_lst (by rw [List.getElem?_map, hx]; rfl)))).trans (by rw [wD_len])) rfl (eqD_nat _ _)).trans ?_
    show R.ok (decide ((if x.a.isNone then 3 else 5) = 3)) = R.ok x.a.isNone
    cases x.a <;> rfl
  have ht : T_law2 ((([.un, .val .dice, .val (.fn a0), .val (.lst (pastD past)), .val (nD p), c5, c6, c7, c8, c9, c10, c11, .val (.lst (l.map wD)), .un, .un] : LE)).set 2 (.val (.ins 3 (frzL S)))) = .ok false := by
    refine cmpT_ok (x := judgeD l) (y := judgeD l) (meth0_ok (c := 3) (fs := frzL S) rfl (judged_ok hk (by omega) hs)) (tupE_ok (acons_ok hlen (acons_ok (callE1_ok (x := .lst ((unL l).map nD)) (lE_ok hc) rfl) (acons_ok (meth0_ok (c := 2) (fs := [.tup (rowsL l)]) (callE1_ok (x := .str (tx l)) (at_past hl rfl rfl) (read_log_ok L)) (log_words hln)) (xs := []) rfl))) (Nat.le_of_ble_eq_true rfl)) (neD_self (judge_sh l))
  unfold ifRG
  rw [ht]
  exact Wr.ok ⟨_, rfl, rfl⟩
theorem sh_tx : shD = tx [⟨480, 0, 0, none⟩] := by decide +kernel
theorem holds : RoundOk := ⟨fun a0 => by
  have h0 : Hist [[⟨480, 0, 0, none⟩]] 0 ⟨shD, [], []⟩ 0 := ⟨by decide, by decide, fun l hl => by
    rw [List.mem_singleton.mp hl]
    exact ⟨by decide, fun x hx => by rw [List.mem_singleton.mp hx]; simp [kinds], List.pairwise_singleton ..⟩, ⟨_, rfl, sh_tx⟩, rfl, rfl⟩
  refine Wr.h ?_
  unfold F_round
  have hp : parshG 3 4 ((r0 15).set 2 (.val (.fn a0))) ⟨shD, [], []⟩ = .ok (.nx (LS a0 [[⟨480, 0, 0, none⟩]] 0 .un .un .un .un .un .un .un), ⟨shD, [], []⟩) := by
    unfold parshG
    have : (D.lst [.str shD]) = .lst (pastD [[⟨480, 0, 0, none⟩]]) := by rw [sh_tx]; rfl
    show R.ok (Out.nx (((r0 15).set 2 (.val (.fn a0))).set 3 (.val (.lst [.str shD])) |>.set 4 (.val (.int 0))), _) = _
    rw [this]
    rfl
  refine seqG_go hp (seqG_wr ?_)
  unfold forG
  refine Wr.bindS (Wr.calmS ((rng1_roll (n := 10) rfl rfl (by omega) (by omega)).mono fun ds ⟨k, hk, e⟩ => ?_))
  subst e
  refine (loop_wr _ h0 (by rw [List.length_map, List.length_range]; omega)).mono fun x ⟨past', p', c5, c6, c7, c8, c9, c10, c11, e, hH⟩ => ⟨_, e, end_ok hH (by omega)⟩⟩
end K23
local macro_rules | `(tactic| o_head ($f $k $a $e $t)) => `(tactic| o_head ((PySem.W.kmHook $k $a $e [93,114,203,238,259,415,420] : _)))
local macro_rules | `(tactic| o_head ($f $k $a $e)) => `(tactic| o_head ((PySem.W.kmHook $k $a $e [93,114,203,238,259,415,420] : _)))
open PySem PySem.W PyProof.Rows in
set_option maxRecDepth 100000 in
set_option maxHeartbeats 0 in
theorem PySem.Challenge.cw_flaghall_k23_a_desk_holds : PySem.Challenge.rw_flaghall_k23_a_desk.Holds := by
  w_on; o_law; k_head; (case hw => w_witness2)
  k_fill
  refine LamX.walk_ofTs (l := PySem.Challenge.rw_flaghall_k23_a_desk) (n := 63) (k := 11) (x := "script") (CX := fun w => L2.CX PySem.Challenge.rw_flaghall_k23_a_desk.prog w) rfl (by decide) rfl ⟨rfl, by decide, by decide⟩ (fun w h Y => PySem.W.km_in_of Y) ?F (fun w H s e s' z => by obtain ⟨_, _, _, _, _, _, _, _, _, _, _, _, z⟩ := z; exact z)
  case F =>
    intro w mg fa h Y KX hN hmg
    refine' K23.all_mk KX hN hmg (PySem.W.km_tabs_of Y) K23.holds ?ck_Desk ?ck_Log ?ck_Row ?ck_Tally ?nk_law_dice ?lk_law_dice ?dk_law_dice ?kk_law_dice ?nk_law_roll ?lk_law_roll ?dk_law_roll ?kk_law_roll ?nk_law_rounds ?lk_law_rounds ?dk_law_rounds ?kk_law_rounds ?nk_law_desk ?lk_law_desk ?dk_law_desk ?kk_law_desk ?nk_Desk_init ?ik_Desk_init ?lk_Desk_init ?dk_Desk_init ?kk_Desk_init ?nk_Desk_note ?ik_Desk_note ?lk_Desk_note ?dk_Desk_note ?kk_Desk_note ?nk_Desk_undo ?ik_Desk_undo ?lk_Desk_undo ?dk_Desk_undo ?kk_Desk_undo ?nk_Desk_redo ?ik_Desk_redo ?lk_Desk_redo ?dk_Desk_redo ?kk_Desk_redo ?nk_clock_of ?lk_clock_of ?dk_clock_of ?kk_clock_of ?nk_Row_said ?ik_Row_said ?lk_Row_said ?dk_Row_said ?kk_Row_said ?nk_Log_said ?ik_Log_said ?lk_Log_said ?dk_Log_said ?kk_Log_said ?nk_Log_init ?ik_Log_init ?lk_Log_init ?dk_Log_init ?kk_Log_init ?nk_Log_with_log_row ?ik_Log_with_log_row ?lk_Log_with_log_row ?dk_Log_with_log_row ?kk_Log_with_log_row ?nk_check_letters ?lk_check_letters ?dk_check_letters ?kk_check_letters ?nk_read_hoist ?lk_read_hoist ?dk_read_hoist ?kk_read_hoist ?nk_Row_init ?ik_Row_init ?lk_Row_init ?dk_Row_init ?kk_Row_init ?nk_minute_of ?lk_minute_of ?dk_minute_of ?kk_minute_of ?nk_read_log_row ?lk_read_log_row ?dk_read_log_row ?kk_read_log_row ?nk_read_log ?lk_read_log ?dk_read_log ?kk_read_log ?nk_Desk_tell ?ik_Desk_tell ?lk_Desk_tell ?dk_Desk_tell ?kk_Desk_tell ?nk_Log_answered_by ?ik_Log_answered_by ?lk_Log_answered_by ?dk_Log_answered_by ?kk_Log_answered_by ?nk_Desk_answer ?ik_Desk_answer ?lk_Desk_answer ?dk_Desk_answer ?kk_Desk_answer ?nk_Desk_strike_out ?ik_Desk_strike_out ?lk_Desk_strike_out ?dk_Desk_strike_out ?kk_Desk_strike_out ?nk_law_deed ?lk_law_deed ?dk_law_deed ?kk_law_deed ?nk_Tally_unanswered ?ik_Tally_unanswered ?lk_Tally_unanswered ?dk_Tally_unanswered ?kk_Tally_unanswered ?nk_Tally_init ?ik_Tally_init ?lk_Tally_init ?dk_Tally_init ?kk_Tally_init ?nk_Log_tally ?ik_Log_tally ?lk_Log_tally ?dk_Log_tally ?kk_Log_tally ?nk_Log_words_made ?ik_Log_words_made ?lk_Log_words_made ?dk_Log_words_made ?kk_Log_words_made ?nk_Desk_judged ?ik_Desk_judged ?lk_Desk_judged ?dk_Desk_judged ?kk_Desk_judged ?nk_law ?lk_law ?dk_law ?kk_law ?pg_Tally ?hd_Tally ?po_Tally ?sa_Tally ?mi_Tally ?kc_Tally ?nf_Tally_rows ?pg_Row ?hd_Row ?po_Row ?sa_Row ?mi_Row ?kc_Row ?nf_Row_minute ?nf_Row_ship ?nf_Row_hoist ?nf_Row_answered ?pg_Log ?hd_Log ?po_Log ?sa_Log ?mi_Log ?kc_Log ?nf_Log_rows ?pg_Desk ?hd_Desk ?po_Desk ?sa_Desk ?mi_Desk ?kc_Desk ?nf_Desk_shown ?nf_Desk_deeds ?nf_Desk_undone ?xn_BadDeed ?xe_BadDeed ?xk_BadDeed ?xs_BadDeed ?xt_BadDeed ?xn_BadText ?xn_BadHoist ?xe_BadHoist ?xk_BadHoist ?xs_BadHoist ?xt_BadHoist ?xn_FlagFault ?xe_FlagFault ?xk_FlagFault ?xs_FlagFault ?xt_FlagFault ?xn_BadBook ?xe_BadBook ?xk_BadBook ?xs_BadBook ?xt_BadBook ?u1_BadText ?u2_BadText ?u3_BadText ?u4_BadText ?u5_BadText ?u6_BadText ?u7_BadText ?u8_BadText ?u9_BadText ?u10_BadText ?u11_BadText ?u12_BadText ?u13_BadText ?u14_BadText ?u15_BadText ?u16_BadText ?u17_BadText ?u18_BadText ?u19_BadText ?exu ?exq ?bz_len ?bz_str ?bz_any ?bz_range ?bz_super ?bz_tuple ?bz_list ?bz_enumerate ?bz_int ?bz_abs ?cn_MOST_FLAGS ?cq_MOST_FLAGS ?cn_SUBSTITUTES ?cq_SUBSTITUTES ?zl_Log_init ?zv_Log_init ?zh_Log_init ?zn_Log_init ?zt_Log_init ?zl_check_letters ?zv_check_letters ?zh_check_letters ?zn_check_letters ?zt_check_letters ?zl_Row_init ?zv_Row_init ?zh_Row_init ?zn_Row_init ?zt_Row_init ?zl_minute_of ?zv_minute_of ?zh_minute_of ?zn_minute_of ?zt_minute_of ?zl_law_deed ?zv_law_deed ?zh_law_deed ?zn_law_deed ?zt_law_deed ?zl_Tally_init ?zv_Tally_init ?zh_Tally_init ?zn_Tally_init ?zt_Tally_init ?zl_law ?zv_law ?zh_law ?zn_law ?zt_law ?ne_Log_init_check_letters ?ne_Log_init_Row_init ?ne_Log_init_minute_of ?ne_Log_init_law_deed ?ne_Log_init_Tally_init ?ne_Log_init_law ?ne_check_letters_Row_init ?ne_check_letters_minute_of ?ne_check_letters_law_deed ?ne_check_letters_Tally_init ?ne_check_letters_law ?ne_Row_init_minute_of ?ne_Row_init_law_deed ?ne_Row_init_Tally_init ?ne_Row_init_law ?ne_minute_of_law_deed ?ne_minute_of_Tally_init ?ne_minute_of_law ?ne_law_deed_Tally_init ?ne_law_deed_law ?ne_Tally_init_law
    (case ck_Desk => k_is)
    (case ck_Log => k_is)
    (case ck_Row => k_is)
    (case ck_Tally => k_is)
    (case nk_law_dice => k_is)
    (case lk_law_dice => k_is)
    (case dk_law_dice => k_is)
    (case kk_law_dice => k_is)
    (case nk_law_roll => k_is)
    (case lk_law_roll => k_is)
    (case dk_law_roll => k_is)
    (case kk_law_roll => k_is)
    (case nk_law_rounds => k_is)
    (case lk_law_rounds => k_is)
    (case dk_law_rounds => k_is)
    (case kk_law_rounds => k_is)
    (case nk_law_desk => k_is)
    (case lk_law_desk => k_is)
    (case dk_law_desk => k_is)
    (case kk_law_desk => k_is)
    (case nk_Desk_init => k_is)
    (case ik_Desk_init => k_is)
    (case lk_Desk_init => k_is)
    (case dk_Desk_init => k_is)
    (case kk_Desk_init => k_is)
    (case nk_Desk_note => k_is)
    (case ik_Desk_note => k_is)
    (case lk_Desk_note => k_is)
    (case dk_Desk_note => k_is)
    (case kk_Desk_note => k_is)
    (case nk_Desk_undo => k_is)
    (case ik_Desk_undo => k_is)
    (case lk_Desk_undo => k_is)
    (case dk_Desk_undo => k_is)
    (case kk_Desk_undo => k_is)
    (case nk_Desk_redo => k_is)
    (case ik_Desk_redo => k_is)
    (case lk_Desk_redo => k_is)
    (case dk_Desk_redo => k_is)
    (case kk_Desk_redo => k_is)
    (case nk_clock_of => k_is)
    (case lk_clock_of => k_is)
    (case dk_clock_of => k_is)
    (case kk_clock_of => k_is)
    (case nk_Row_said => k_is)
    (case ik_Row_said => k_is)
    (case lk_Row_said => k_is)
    (case dk_Row_said => k_is)
    (case kk_Row_said => k_is)
    (case nk_Log_said => k_is)
    (case ik_Log_said => k_is)
    (case lk_Log_said => k_is)
    (case dk_Log_said => k_is)
    (case kk_Log_said => k_is)
    (case nk_Log_init => k_is)
    (case ik_Log_init => k_is)
    (case lk_Log_init => k_is)
    (case dk_Log_init => k_is)
    (case kk_Log_init => k_is)
    (case nk_Log_with_log_row => k_is)
    (case ik_Log_with_log_row => k_is)
    (case lk_Log_with_log_row => k_is)
    (case dk_Log_with_log_row => k_is)
    (case kk_Log_with_log_row => k_is)
    (case nk_check_letters => k_is)
    (case lk_check_letters => k_is)
    (case dk_check_letters => k_is)
    (case kk_check_letters => k_is)
    (case nk_read_hoist => k_is)
    (case lk_read_hoist => k_is)
    (case dk_read_hoist => k_is)
    (case kk_read_hoist => k_is)
    (case nk_Row_init => k_is)
    (case ik_Row_init => k_is)
    (case lk_Row_init => k_is)
    (case dk_Row_init => k_is)
    (case kk_Row_init => k_is)
    (case nk_minute_of => k_is)
    (case lk_minute_of => k_is)
    (case dk_minute_of => k_is)
    (case kk_minute_of => k_is)
    (case nk_read_log_row => k_is)
    (case lk_read_log_row => k_is)
    (case dk_read_log_row => k_is)
    (case kk_read_log_row => k_is)
    (case nk_read_log => k_is)
    (case lk_read_log => k_is)
    (case dk_read_log => k_is)
    (case kk_read_log => k_is)
    (case nk_Desk_tell => k_is)
    (case ik_Desk_tell => k_is)
    (case lk_Desk_tell => k_is)
    (case dk_Desk_tell => k_is)
    (case kk_Desk_tell => k_is)
    (case nk_Log_answered_by => k_is)
    (case ik_Log_answered_by => k_is)
    (case lk_Log_answered_by => k_is)
    (case dk_Log_answered_by => k_is)
    (case kk_Log_answered_by => k_is)
    (case nk_Desk_answer => k_is)
    (case ik_Desk_answer => k_is)
    (case lk_Desk_answer => k_is)
    (case dk_Desk_answer => k_is)
    (case kk_Desk_answer => k_is)
    (case nk_Desk_strike_out => k_is)
    (case ik_Desk_strike_out => k_is)
    (case lk_Desk_strike_out => k_is)
    (case dk_Desk_strike_out => k_is)
    (case kk_Desk_strike_out => k_is)
    (case nk_law_deed => k_is)
    (case lk_law_deed => k_is)
    (case dk_law_deed => k_is)
    (case kk_law_deed => k_is)
    (case nk_Tally_unanswered => k_is)
    (case ik_Tally_unanswered => k_is)
    (case lk_Tally_unanswered => k_is)
    (case dk_Tally_unanswered => k_is)
    (case kk_Tally_unanswered => k_is)
    (case nk_Tally_init => k_is)
    (case ik_Tally_init => k_is)
    (case lk_Tally_init => k_is)
    (case dk_Tally_init => k_is)
    (case kk_Tally_init => k_is)
    (case nk_Log_tally => k_is)
    (case ik_Log_tally => k_is)
    (case lk_Log_tally => k_is)
    (case dk_Log_tally => k_is)
    (case kk_Log_tally => k_is)
    (case nk_Log_words_made => k_is)
    (case ik_Log_words_made => k_is)
    (case lk_Log_words_made => k_is)
    (case dk_Log_words_made => k_is)
    (case kk_Log_words_made => k_is)
    (case nk_Desk_judged => k_is)
    (case ik_Desk_judged => k_is)
    (case lk_Desk_judged => k_is)
    (case dk_Desk_judged => k_is)
    (case kk_Desk_judged => k_is)
    (case nk_law => k_is)
    (case lk_law => k_is)
    (case dk_law => k_is)
    (case kk_law => k_is)
    (case pg_Tally => k_is)
    (case hd_Tally => k_is)
    (case po_Tally => k_is)
    (case sa_Tally => k_is)
    (case mi_Tally => k_is)
    (case kc_Tally => k_is)
    (case nf_Tally_rows => k_is)
    (case pg_Row => k_is)
    (case hd_Row => k_is)
    (case po_Row => k_is)
    (case sa_Row => k_is)
    (case mi_Row => k_is)
    (case kc_Row => k_is)
    (case nf_Row_minute => k_is)
    (case nf_Row_ship => k_is)
    (case nf_Row_hoist => k_is)
    (case nf_Row_answered => k_is)
    (case pg_Log => k_is)
    (case hd_Log => k_is)
    (case po_Log => k_is)
    (case sa_Log => k_is)
    (case mi_Log => k_is)
    (case kc_Log => k_is)
    (case nf_Log_rows => k_is)
    (case pg_Desk => k_is)
    (case hd_Desk => k_is)
    (case po_Desk => k_is)
    (case sa_Desk => k_is)
    (case mi_Desk => k_is)
    (case kc_Desk => k_is)
    (case nf_Desk_shown => k_is)
    (case nf_Desk_deeds => k_is)
    (case nf_Desk_undone => k_is)
    (case xn_BadDeed => k_is)
    (case xe_BadDeed => k_exc)
    (case xk_BadDeed => k_is)
    (case xs_BadDeed => k_is)
    (case xt_BadDeed => k_is)
    (case xn_BadText => k_is)
    (case xn_BadHoist => k_is)
    (case xe_BadHoist => k_exc)
    (case xk_BadHoist => k_is)
    (case xs_BadHoist => k_is)
    (case xt_BadHoist => k_is)
    (case xn_FlagFault => k_is)
    (case xe_FlagFault => k_exc)
    (case xk_FlagFault => k_is)
    (case xs_FlagFault => k_is)
    (case xt_FlagFault => k_is)
    (case xn_BadBook => k_is)
    (case xe_BadBook => k_exc)
    (case xk_BadBook => k_is)
    (case xs_BadBook => k_is)
    (case xt_BadBook => k_is)
    (case u1_BadText => kernel_rfl)
    (case u2_BadText => k_is)
    (case u3_BadText => k_is)
    (case u4_BadText => k_is)
    (case u5_BadText => k_is)
    (case u6_BadText => k_is)
    (case u7_BadText => k_is)
    (case u8_BadText => k_is)
    (case u9_BadText => k_is)
    (case u10_BadText => first | k_is | kernel_rfl)
    (case u11_BadText => k_is)
    (case u12_BadText => k_is)
    (case u13_BadText => k_is)
    (case u14_BadText => k_is)
    (case u15_BadText => rfl)
    (case u16_BadText => kernel_rfl)
    (case u17_BadText => k_is)
    (case u18_BadText => k_is)
    (case u19_BadText => kernel_rfl)
    (case exu => kernel_rfl)
    (case exq => kernel_rfl)
    (case bz_len => k_is)
    (case bz_str => k_is)
    (case bz_any => k_is)
    (case bz_range => k_is)
    (case bz_super => k_is)
    (case bz_tuple => k_is)
    (case bz_list => k_is)
    (case bz_enumerate => k_is)
    (case bz_int => k_is)
    (case bz_abs => k_is)
    (case cn_MOST_FLAGS => k_is)
    (case cq_MOST_FLAGS => kernel_rfl)
    (case cn_SUBSTITUTES => k_is)
    (case cq_SUBSTITUTES => kernel_rfl)
    (case zl_Log_init => k_is)
    (case zv_Log_init => rfl)
    (case zh_Log_init => kernel_rfl)
    (case zn_Log_init => kernel_rfl)
    (case zt_Log_init => decide)
    (case zl_check_letters => k_is)
    (case zv_check_letters => rfl)
    (case zh_check_letters => kernel_rfl)
    (case zn_check_letters => kernel_rfl)
    (case zt_check_letters => decide)
    (case zl_Row_init => k_is)
    (case zv_Row_init => rfl)
    (case zh_Row_init => kernel_rfl)
    (case zn_Row_init => kernel_rfl)
    (case zt_Row_init => decide)
    (case zl_minute_of => k_is)
    (case zv_minute_of => rfl)
    (case zh_minute_of => kernel_rfl)
    (case zn_minute_of => kernel_rfl)
    (case zt_minute_of => decide)
    (case zl_law_deed => k_is)
    (case zv_law_deed => rfl)
    (case zh_law_deed => kernel_rfl)
    (case zn_law_deed => kernel_rfl)
    (case zt_law_deed => decide)
    (case zl_Tally_init => k_is)
    (case zv_Tally_init => rfl)
    (case zh_Tally_init => kernel_rfl)
    (case zn_Tally_init => kernel_rfl)
    (case zt_Tally_init => decide)
    (case zl_law => k_is)
    (case zv_law => rfl)
    (case zh_law => kernel_rfl)
    (case zn_law => kernel_rfl)
    (case zt_law => decide)
    (case ne_Log_init_check_letters => decide)
    (case ne_Log_init_Row_init => decide)
    (case ne_Log_init_minute_of => decide)
    (case ne_Log_init_law_deed => decide)
    (case ne_Log_init_Tally_init => decide)
    (case ne_Log_init_law => decide)
    (case ne_check_letters_Row_init => decide)
    (case ne_check_letters_minute_of => decide)
    (case ne_check_letters_law_deed => decide)
    (case ne_check_letters_Tally_init => decide)
    (case ne_check_letters_law => decide)
    (case ne_Row_init_minute_of => decide)
    (case ne_Row_init_law_deed => decide)
    (case ne_Row_init_Tally_init => decide)
    (case ne_Row_init_law => decide)
    (case ne_minute_of_law_deed => decide)
    (case ne_minute_of_Tally_init => decide)
    (case ne_minute_of_law => decide)
    (case ne_law_deed_Tally_init => decide)
    (case ne_law_deed_law => decide)
    (case ne_Tally_init_law => decide)
