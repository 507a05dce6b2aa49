import PyProof.Rows.All
import Wide.All
import OpenK.AllK
import Wide.FinOn
import HandS.ForMost
import HandS.ForSpec
import HandS.CallSlots
import HandS.Lambda
import HandS.TryMany
import HandS.ExcInit
import HandS.TupAny
import HandS.TupLe
import HandS.Deep
import HandS.More
import HandS.WrittenGet
import KE.KLam
import HandS.SuiteRaise
import HandS.ExcOwn
import PyProof.CodeObjX
import KE.KNest
import HandS.Nested
import KE.DataMinMax
import KE.DataCmp
import HandS.Strs
import HandS.Style
import HandS.Iter
import HandS.Sort
import HandS.Steps
import HandS.GenOver
import HandS.GenList
import KE.GoesEnumKw
import HandS.SortKw
import HandS.RevTup
import HandS.Codes
import HandS.Rev
import HandS.Replace
import HandS.RaiseMore
import PyProof.ListStr
import PyProof.CollectStr
import HandS.TupLen
import HandS.WordsDict
import KE.KDictKeyed
import HandS.StrMore
import PyProof.StrOps2
import KE.KExcSuper
import HandS.ExcInitHot
import KE.DataMinKey
import KE.KEqDict
import KE.SortKeyHeap
import HandS.Keys
import KE.GoesZip
import KE.GoesEnum
import KE.GoesMore
import HandS.Conv
import PyProof.Rows.StrStep
import KE.KDictDisplayH
import HandS.ExcField
import KE.SortData
import PyProof.NeKinds
import PyProof.Rows.SumAny
import PyProof.WalksMore
import KE.KDictZip
import KE.KDictExact
import HandS.DictTup
import KE.DataFind
import HandS.ListItems
import KE.KDictSum
import HandS.EndTab
import KE.KNestM
import PySem.Challenge.RW_flaghall_k20_watchwords
set_option Elab.async false
set_option linter.all false
set_option maxRecDepth 100000
namespace DL
open PySem L2
/-- deep values -/
inductive D where
  | non
  | bl (b : Bool)
  | int (i : Int)
  | str (s : List Nat)
  | lst (xs : List D)
  | tup (xs : List D)
  | dic (kvs : List (D × D))
  | cdic (kvs : List (List Nat × D))
  | ins (c : Nat) (fs : List D)
  | dice
  | fn (n : Nat)
  /-- a tuple whose object is known -/
  | ktup (xs : List D)
  /-- a tuple of the program's own constants -/
  | ctup (xs : List D)
  /-- a dict whose keys are tuples of ints and texts -/
  | tdic (kvs : List (D × D))
  deriving Inhabited
structure Exc where
  cls : Nat
  arg : D
/-- what a computation comes to; roll m k: some number below m is drawn -/
inductive R (α : Type) where
  | ok (a : α)
  | err (e : Exc)
  | stuck
  | roll (m : Nat) (k : Nat → R α)
namespace R
variable {α β : Type}
def bind : R α → (α → R β) → R β
  | .ok a, k => k a
  | .err e, _ => .err e
  | .stuck, _ => .stuck
  | .roll m f, k => .roll m fun i => (f i).bind k
instance : Monad R where
  pure := .ok
  bind := R.bind
@[simp] theorem ok_bind (a : α) (k : α → R β) : (R.ok a >>= k) = k a := rfl
@[simp] theorem err_bind (e : Exc) (k : α → R β) : ((R.err e : R α) >>= k) = .err e := rfl
@[simp] theorem stuck_bind (k : α → R β) : ((R.stuck : R α) >>= k) = .stuck := rfl
@[simp] theorem roll_bind (m : Nat) (f : Nat → R α) (k : α → R β) : (R.roll m f >>= k) = .roll m fun i => f i >>= k := rfl
@[simp] theorem pure_eq (a : α) : (pure a : R α) = .ok a := rfl
end R
def Wp {α : Type} : R α → (α → Prop) → (Exc → Prop) → Prop
  | .ok a, Q, _ => Q a
  | .err e, _, E => E e
  | .stuck, _, _ => False
  | .roll m k, Q, E => ∀ i, i < m → Wp (k i) Q E
section
variable {α β : Type} {Q Q' : α → Prop} {E E' : Exc → Prop}
theorem Wp.mono : ∀ {m : R α}, Wp m Q E → (∀ a, Q a → Q' a) → (∀ e, E e → E' e) → Wp m Q' E'
  | .ok a, h, q, _ => q a h
  | .err e, h, _, q => q e h
  | .stuck, h, _, _ => h
  | .roll _ _, h, q, q' => fun i hi => Wp.mono (h i hi) q q'
theorem Wp.thn {m : R α} (h : Wp m Q E) (q : ∀ a, Q a → Q' a) : Wp m Q' E := h.mono q fun _ x => x
theorem Wp.bind {k : α → R β} {Qb : β → Prop} : ∀ {m : R α}, Wp (m >>= k) Qb E → Wp m (fun a => Wp (k a) Qb E) E
  | .ok _, h => h
  | .err _, h => h
  | .stuck, h => h
  | .roll _ _, h => fun i hi => Wp.bind (h i hi)
theorem Wp.of_bind {k : α → R β} {Qb : β → Prop} : ∀ {m : R α}, Wp m (fun a => Wp (k a) Qb E) E → Wp (m >>= k) Qb E
  | .ok _, h => h
  | .err _, h => h
  | .stuck, h => h
  | .roll _ _, h => fun i hi => Wp.of_bind (h i hi)
end
structure Gm where
  K : PySem.W.Frag
  w : World
  cls : Nat → Addr
  flds : Nat → List Str
  fns : Nat → Addr
  xcls : Nat → Addr
  xfld : Nat → Option Str
  tabs : List (Addr × Str)
  /-- lambda (true) or generator (false) by the place in the text -/
  kd : Nat → Nat → Bool
  /-- the frames of code objects made since, from the innermost on: code object, its table, the prefix of names -/
  subs : List (Addr × Addr × Str)
abbrev Gm.sub (G : Gm) (x : Addr × Addr × Str) : Gm := { G with subs := x :: G.subs }
/-- a key of a dict -/
def D.key : D → Option Key
  | .int i => some (.inl i)
  | .str s => some (.inr ⟨s.toArray⟩)
  | _ => none
/-- a key that is a tuple -/
def keysK : List D → Option (List Key)
  | [] => some []
  | d :: ds => match d.key, keysK ds with
    | some k, some ks => some (k :: ks)
    | _, _ => none
def D.tkey : D → Option (List Key)
  | .tup ds => keysK ds
  | _ => none
mutual
def Rep (G : Gm) (dl : Addr) (S : Hp) : D → V → Prop
  | .non, v => v = .non
  | .bl b, v => v = .bl b
  | .int i, v => v = .int i
  | .str s, v => v = .str ⟨s.toArray⟩
  | .lst ds, v => ∃ a vs, v = .ref a ∧ S a = some (.lst vs) ∧ RepL G dl S ds vs
  | .tup ds, v => ∃ a vs, v = .ref a ∧ S a = some (.tup vs) ∧ RepL G dl S ds vs
  | .ctup ds, v => ∃ a vs, v = .ref a ∧ SqT G.K S a vs ∧ RepL G dl S ds vs
  | .dic kvs, v => ∃ (a : Addr) (o : Obj) (kv : List (Key × V)), v = .ref a ∧ S a = some (.frz o (.dK kv)) ∧ RepK G dl S kvs kv
  | .tdic kvs, v => ∃ (a : Addr) (o : Obj) (kv : List (List Key × V)), v = .ref a ∧ S a = some (.frz o (.dT kv)) ∧ RepT G dl S kvs kv
  | .cdic kvs, v => ∃ a, v = .ref a ∧ RepC G dl S a kvs
  | .ins c ds, v => ∃ a dx vs, v = .ref a ∧ S a = some (.ins (G.cls c) dx ((G.flds c).zip vs)) ∧ (G.flds c).length = vs.length ∧ RepL G dl S ds vs
  | .dice, v => v = .ref dl
  | .fn n, v => v = .ref (G.fns n)
  | .ktup ds, v => ∃ a vs o, v = .ref a ∧ S a = some (.frz o (.tup vs)) ∧ o.cls = .type "tuple" ∧ o.dict = none ∧ RepL G dl S ds vs
def RepL (G : Gm) (dl : Addr) (S : Hp) : List D → List V → Prop
  | [], vs => vs = []
  | d :: ds, vs => ∃ v r, vs = v :: r ∧ Rep G dl S d v ∧ RepL G dl S ds r
def RepK (G : Gm) (dl : Addr) (S : Hp) : List (D × D) → List (Key × V) → Prop
  | [], vs => vs = []
  | (k, d) :: ds, vs => ∃ x v r, vs = (x, v) :: r ∧ k.key = some x ∧ Rep G dl S d v ∧ RepK G dl S ds r
def RepT (G : Gm) (dl : Addr) (S : Hp) : List (D × D) → List (List Key × V) → Prop
  | [], vs => vs = []
  | (k, d) :: ds, vs => ∃ x v r, vs = (x, v) :: r ∧ k.tkey = some x ∧ Rep G dl S d v ∧ RepT G dl S ds r
def RepC (G : Gm) (dl : Addr) (S : Hp) (a : Addr) : List (List Nat × D) → Prop
  | [] => True
  | (k, d) :: ds => (∃ v, KDct G.K G.w a ⟨k.toArray⟩ v ∧ Rep G dl S d v) ∧ RepC G dl S a ds
end
/-- all but tables of code objects stays -/
abbrev GrowS (S S' : Hp) : Prop := LamX.ExtN S S'
theorem GrowS.rd {S S' : Hp} {a : Addr} {u : HO} (g : GrowS S S') (n : ∀ ps, u ≠ .tbl ps) (h : Rd S a u) : Rd S' a u := by
  rcases h with h | ⟨o, h⟩
  · exact .inl (g a _ h n)
  · exact .inr ⟨o, g a _ h fun ps z => by cases z⟩
theorem GrowS.sqt {K : PySem.W.Frag} {S S' : Hp} {a : Addr} {xs : List V} (g : GrowS S S') (h : SqT K S a xs) : SqT K S' a xs := by
  rcases h with h | h
  · exact .inl (g.rd (fun ps z => by cases z) h)
  · exact .inr h
mutual
theorem Rep.mono {G : Gm} {dl : Addr} {S S' : Hp} (g : GrowS S S') : ∀ (d : D) {v : V}, Rep G dl S d v → Rep G dl S' d v
  | .non, v, h => by unfold Rep at *; exact h
  | .bl b, v, h => by unfold Rep at *; exact h
  | .int i, v, h => by unfold Rep at *; exact h
  | .str s, v, h => by unfold Rep at *; exact h
  | .lst ds, v, h => by
    unfold Rep at *
    obtain ⟨a, vs, e, q, r⟩ := h
    exact ⟨a, vs, e, g a _ q (fun ps z => by cases z), RepL.mono g ds r⟩
  | .tup ds, v, h => by
    unfold Rep at *
    obtain ⟨a, vs, e, q, r⟩ := h
    exact ⟨a, vs, e, g a _ q (fun ps z => by cases z), RepL.mono g ds r⟩
  | .ctup ds, v, h => by
    unfold Rep at *
    obtain ⟨a, vs, e, q, r⟩ := h
    exact ⟨a, vs, e, g.sqt q, RepL.mono g ds r⟩
  | .tdic kvs, v, h => by
    unfold Rep at *
    obtain ⟨a, o, kv, e, q, r⟩ := h
    exact ⟨a, o, kv, e, g a _ q (fun ps z => by cases z), RepT.mono g kvs r⟩
  | .dic kvs, v, h => by
    unfold Rep at *
    obtain ⟨a, o, kv, e, q, r⟩ := h
    exact ⟨a, o, kv, e, g a _ q (fun ps z => by cases z), RepK.mono g kvs r⟩
  | .cdic kvs, v, h => by
    unfold Rep at *
    obtain ⟨a, e, r⟩ := h
    exact ⟨a, e, RepC.mono g kvs r⟩
  | .ins c ds, v, h => by
    unfold Rep at *
    obtain ⟨a, dx, vs, e, q, l, r⟩ := h
    exact ⟨a, dx, vs, e, g a _ q (fun ps z => by cases z), l, RepL.mono g ds r⟩
  | .dice, v, h => by unfold Rep at *; exact h
  | .fn n, v, h => by unfold Rep at *; exact h
  | .ktup ds, v, h => by
    unfold Rep at *
    obtain ⟨a, vs, o, e, q, c, d, r⟩ := h
    exact ⟨a, vs, o, e, g a _ q (fun ps z => by cases z), c, d, RepL.mono g ds r⟩
theorem RepL.mono {G : Gm} {dl : Addr} {S S' : Hp} (g : GrowS S S') : ∀ (ds : List D) {vs : List V}, RepL G dl S ds vs → RepL G dl S' ds vs
  | [], vs, h => by unfold RepL at *; exact h
  | d :: ds, vs, h => by
    unfold RepL at *
    obtain ⟨v, r, e, h1, h2⟩ := h
    exact ⟨v, r, e, Rep.mono g d h1, RepL.mono g ds h2⟩
theorem RepK.mono {G : Gm} {dl : Addr} {S S' : Hp} (g : GrowS S S') : ∀ (ds : List (D × D)) {vs : List (Key × V)}, RepK G dl S ds vs → RepK G dl S' ds vs
  | [], vs, h => by unfold RepK at *; exact h
  | (k, d) :: ds, vs, h => by
    unfold RepK at *
    obtain ⟨x, v, r, e, k, h1, h2⟩ := h
    exact ⟨x, v, r, e, k, Rep.mono g d h1, RepK.mono g ds h2⟩
theorem RepT.mono {G : Gm} {dl : Addr} {S S' : Hp} (g : GrowS S S') : ∀ (ds : List (D × D)) {vs : List (List Key × V)}, RepT G dl S ds vs → RepT G dl S' ds vs
  | [], vs, h => by unfold RepT at *; exact h
  | (k, d) :: ds, vs, h => by
    unfold RepT at *
    obtain ⟨x, v, r, e, k, h1, h2⟩ := h
    exact ⟨x, v, r, e, k, Rep.mono g d h1, RepT.mono g ds h2⟩
theorem RepC.mono {G : Gm} {dl : Addr} {S S' : Hp} (g : GrowS S S') {a : Addr} : ∀ (ds : List (List Nat × D)), RepC G dl S a ds → RepC G dl S' a ds
  | [], h => by unfold RepC at *; exact h
  | (k, d) :: ds, h => by
    unfold RepC at *
    obtain ⟨⟨v, h1, h2⟩, h3⟩ := h
    exact ⟨⟨v, h1, Rep.mono g d h2⟩, RepC.mono g ds h3⟩
end
section
variable {G : Gm} {dl : Addr} {S : Hp}
theorem RepL.length : ∀ {ds : List D} {vs : List V}, RepL G dl S ds vs → vs.length = ds.length
  | [], vs, h => by unfold RepL at h; subst h; rfl
  | d :: ds, vs, h => by
    unfold RepL at h
    obtain ⟨v, r, rfl, _, h2⟩ := h
    rw [List.length_cons, List.length_cons, RepL.length h2]
theorem RepL.nil : RepL G dl S [] [] := by unfold RepL; rfl
theorem RepL.cons {d : D} {ds : List D} {v : V} {vs : List V} (h : Rep G dl S d v) (r : RepL G dl S ds vs) : RepL G dl S (d :: ds) (v :: vs) := by
  unfold RepL; exact ⟨v, vs, rfl, h, r⟩
theorem RepL.append : ∀ {ds es : List D} {vs us : List V}, RepL G dl S ds vs → RepL G dl S es us → RepL G dl S (ds ++ es) (vs ++ us)
  | [], es, vs, us, h, q => by unfold RepL at h; subst h; exact q
  | d :: ds, es, vs, us, h, q => by
    unfold RepL at h
    obtain ⟨v, r, rfl, h1, h2⟩ := h
    exact RepL.cons h1 (RepL.append h2 q)
theorem RepL.get : ∀ (ds : List D) (vs : List V) (i : Nat) (v : V), RepL G dl S ds vs → vs[i]? = some v → ∃ d, ds[i]? = some d ∧ Rep G dl S d v
  | [], vs, i, v, h, e => by unfold RepL at h; subst h; simp at e
  | d :: ds, vs, i, v, h, e => by
    unfold RepL at h
    obtain ⟨u, r, rfl, h1, h2⟩ := h
    cases i with
    | zero => simp at e; subst e; exact ⟨d, rfl, h1⟩
    | succ i => exact RepL.get ds r i v h2 (by simpa using e)
theorem RepL.getD : ∀ (ds : List D) (vs : List V) (i : Nat) (d : D), RepL G dl S ds vs → ds[i]? = some d → ∃ v, vs[i]? = some v ∧ Rep G dl S d v
  | [], vs, i, v, h, e => by simp at e
  | d' :: ds, vs, i, d, h, e => by
    unfold RepL at h
    obtain ⟨u, r, rfl, h1, h2⟩ := h
    cases i with
    | zero => simp at e; subst e; exact ⟨u, rfl, h1⟩
    | succ i => exact RepL.getD ds r i d h2 (by simpa using e)
theorem RepL.take : ∀ {ds : List D} {vs : List V} (n : Nat), RepL G dl S ds vs → RepL G dl S (ds.take n) (vs.take n)
  | _, _, 0, _ => by simp only [List.take_zero]; exact RepL.nil
  | [], vs, n + 1, h => by unfold RepL at h; subst h; exact RepL.nil
  | d :: ds, vs, n + 1, h => by
    unfold RepL at h
    obtain ⟨u, r, rfl, h1, h2⟩ := h
    exact RepL.cons h1 (RepL.take n h2)
theorem RepL.drop : ∀ {ds : List D} {vs : List V} (n : Nat), RepL G dl S ds vs → RepL G dl S (ds.drop n) (vs.drop n)
  | _, _, 0, h => h
  | [], vs, n + 1, h => by unfold RepL at h; subst h; exact RepL.nil
  | d :: ds, vs, n + 1, h => by
    unfold RepL at h
    obtain ⟨u, r, rfl, h1, h2⟩ := h
    exact RepL.drop n h2
theorem RepL.set : ∀ {ds : List D} {vs : List V} {d : D} {v : V} (n : Nat), RepL G dl S ds vs → Rep G dl S d v → RepL G dl S (ds.set n d) (vs.set n v)
  | [], vs, d, v, n, h, _ => by unfold RepL at h; subst h; exact RepL.nil
  | d' :: ds, vs, d, v, 0, h, q => by
    unfold RepL at h
    obtain ⟨u, r, rfl, h1, h2⟩ := h
    exact RepL.cons q h2
  | d' :: ds, vs, d, v, n + 1, h, q => by
    unfold RepL at h
    obtain ⟨u, r, rfl, h1, h2⟩ := h
    exact RepL.cons h1 (RepL.set n h2 q)
end
/-- without some addresses -/
def cut (H : Hp) (Z : List Addr) : Hp := fun a => if a ∈ Z then none else H a
theorem cut_in {H : Hp} {Z : List Addr} {a : Addr} (h : a ∈ Z) : cut H Z a = none := if_pos h
theorem cut_out {H : Hp} {Z : List Addr} {a : Addr} (h : a ∉ Z) : cut H Z a = H a := if_neg h
theorem cut_some {H : Hp} {Z : List Addr} {a : Addr} {o : HO} (h : cut H Z a = some o) : a ∉ Z ∧ H a = some o := by
  unfold cut at h
  split at h
  · cases h
  · exact ⟨by assumption, h⟩
theorem cut_grow (H : Hp) (Z : List Addr) : GrowS (cut H Z) H := fun a o h _ => (cut_some h).2
theorem cut_sub {H : Hp} {Z Z' : List Addr} (h : ∀ a ∈ Z', a ∈ Z) : GrowS (cut H Z) (cut H Z') := fun a o e _ => by
  obtain ⟨h1, h2⟩ := cut_some e
  rw [cut_out fun q => h1 (h a q)]
  exact h2
def Grow (dl : Addr) (H H' : Hp) : Prop := ∀ a o, H a = some o → a ≠ dl → (∀ ps, o ≠ .tbl ps) → H' a = some o
theorem Grow.refl (dl : Addr) (H : Hp) : Grow dl H H := fun _ _ h _ _ => h
theorem Grow.trans {dl : Addr} {H H1 H2 : Hp} (a : Grow dl H H1) (b : Grow dl H1 H2) : Grow dl H H2 := fun c o h n m => b c o (a c o h n m) n m
theorem Grow.new {dl : Addr} {H : Hp} {p : Addr} {o : HO} (h : H p = none) : Grow dl H (upd H p o) := fun a u e _ _ => by
  rw [upd_ne (ne_of_none e h)]; exact e
theorem Grow.cut {dl : Addr} {H H' : Hp} {Z : List Addr} (g : Grow dl H H') (hz : dl ∈ Z) : GrowS (cut H Z) (cut H' Z) := fun a o e n => by
  obtain ⟨h1, h2⟩ := cut_some e
  rw [cut_out h1]
  exact g a o h2 (fun q => h1 (q ▸ hz)) n
def isX : HO → Bool
  | .tbl _ => true
  | .ext _ => true
  | _ => false
/-- the object at c is a code object of the name q, its table at P -/
def CodeN (c : Addr) (q : Str) (P : Addr) : HO := .ext fun h => (∃ (oc : Obj) (vs : Array Value) (t : Tok), h.get? c = some oc ∧ oc.data = .fields vs ∧ vs[1]? = some (.str q t)) ∧ PySem.W.CodeHd h c P
/-- the name of a code object made in a frame of the prefix q -/
def nam_ (q : Str) : Bool → Str
  | true => q ++ "<lambda>"
  | false => q ++ "<genexpr>"
/-- the prefix of its frames -/
def pre_ (q : Str) : Bool → Str
  | true => q ++ "<lambda>" ++ ".<locals>."
  | false => q ++ "<genexpr>."
/-- a code object made: its address, name, prefix, table -/
abbrev Cob := Addr × Str × Str × Addr
/-- the table at P is that of frames of the prefix q: T those told, C those made since -/
def TQ (T : List (Addr × Str)) (C : List Cob) (P : Addr) (q : Str) : Prop := (P, q) ∈ T ∨ ∃ c n, (c, n, q, P) ∈ C
structure CTC (kd : Nat → Nat → Bool) (T : List (Addr × Str)) (C : List Cob) (H : Hp) : Prop where
  obj : ∀ k ∈ C, H k.1 = some (CodeN k.1 k.2.1 k.2.2.2)
  tab : ∀ P q, TQ T C P q → ∃ ps : Array Value, H P = some (.tbl ps) ∧ TriplesOk ps.toList ∧ ∀ (pos : Pos) (cv : Value), codeAmong pos ps.toList = some cv → ∃ c P2, cv = .ref c ∧ (c, nam_ q (kd pos.line pos.col), pre_ q (kd pos.line pos.col), P2) ∈ C
  unq : ∀ P q q', TQ T C P q → TQ T C P q' → q = q'
def CT (kd : Nat → Nat → Bool) (T : List (Addr × Str)) (S : List (Addr × Addr × Str)) (H : Hp) : Prop := (∃ C, CTC kd (T ++ S.map (·.2)) C H) ∧ ∀ x ∈ S, ∃ n, H x.1 = some (CodeN x.1 n x.2.1)
section
variable {kd : Nat → Nat → Bool} {T : List (Addr × Str)} {S : List (Addr × Addr × Str)} {C : List Cob} {H H' : Hp}
theorem CTC.same (g : CTC kd T C H) (e : ∀ b o, isX o = true → H b = some o → H' b = some o) : CTC kd T C H' :=
  ⟨fun k hk => e _ _ rfl (g.obj k hk), fun P q h => let ⟨ps, h1, h2, h3⟩ := g.tab P q h; ⟨ps, e _ _ rfl h1, h2, h3⟩, g.unq⟩
theorem CT.same (g : CT kd T S H) (e : ∀ b o, isX o = true → H b = some o → H' b = some o) : CT kd T S H' :=
  ⟨let ⟨C, h⟩ := g.1; ⟨C, h.same e⟩, fun x hx => let ⟨n, h⟩ := g.2 x hx; ⟨n, e _ _ rfl h⟩⟩
/-- a thing that is none of these is written -/
theorem CT.upd {a : Addr} {o u : HO} (g : CT kd T S H) (h : H a = some o) (ho : isX o = false) : CT kd T S (upd H a u) := g.same fun b v hv e => by
  rw [upd_ne]
  · exact e
  · intro z
    rw [z, h] at e
    cases e
    rw [ho] at hv
    cases hv
theorem CT.cut {a : Addr} {o : HO} (g : CT kd T S H) (h : H a = some o) (ho : isX o = false) : CT kd T S (cut H [a]) := g.same fun b v hv e => by
  rw [cut_out]
  · exact e
  · intro z
    rw [List.mem_singleton.mp z, h] at e
    cases e
    rw [ho] at hv
    cases hv
/-- at the beginning -/
theorem CT.nil (hU : ∀ p ∈ T, ∀ q ∈ T, p.1 = q.1 → p.2 = q.2) (hT : ∀ p ∈ T, H p.1 = some (.tbl #[])) : CT kd T [] H := by
  have tq : ∀ P q, TQ (T ++ []) [] P q → (P, q) ∈ T := fun P q h => by
    rw [List.append_nil] at h
    exact h.elim id fun ⟨c, n, z⟩ => by cases z
  refine ⟨⟨[], fun k hk => (by cases hk), fun P q h => ⟨#[], hT _ (tq P q h), True.intro, fun pos cv hc => ?_⟩, fun P q q' h1 h2 => hU _ (tq P q h1) _ (tq P q' h2) rfl⟩, fun x hx => by cases hx⟩
  have z : codeAmong pos [] = some cv := hc
  simp [codeAmong] at z
/-- the innermost frame is left -/
theorem CT.drop {x : Addr × Addr × Str} (g : CT kd T (x :: S) H) : CT kd T S H := by
  obtain ⟨⟨C, h⟩, h2⟩ := g
  have tq : ∀ P q, TQ (T ++ S.map (·.2)) C P q → TQ (T ++ (x :: S).map (·.2)) C P q := fun P q h => h.elim (fun h => .inl (by
    rcases List.mem_append.mp h with h | h
    · exact List.mem_append_left _ h
    · exact List.mem_append_right _ (List.mem_cons_of_mem _ h))) .inr
  exact ⟨⟨C, h.obj, fun P q z => h.tab P q (tq P q z), fun P q q' z z' => h.unq P q q' (tq P q z) (tq P q' z')⟩, fun y hy => h2 y (List.mem_cons_of_mem _ hy)⟩
end
def DiceOk (H : Hp) (dl : Addr) : Prop := ∃ x y z : Int, H dl = some (.lst [.int x, .int y, .int z])
structure GlOk (G : Gm) (dl : Addr) (H : Hp) : Prop where
  dice : DiceOk H dl
  tab : CT G.kd G.tabs G.subs H
theorem GlOk.same {G : Gm} {dl : Addr} {H H' : Hp} (g : GlOk G dl H) (e : ∀ b o, H b = some o → H' b = some o) : GlOk G dl H' := by
  obtain ⟨x, y, z, h⟩ := g.dice
  exact ⟨⟨x, y, z, e _ _ h⟩, g.tab.same fun b o _ => e b o⟩
theorem same_new {H : Hp} {p : Addr} {o : HO} (h : H p = none) : ∀ b u, H b = some u → (upd H p o) b = some u := fun b u e => by
  rw [upd_ne (ne_of_none e h)]; exact e
theorem GlOk.new {G : Gm} {dl : Addr} {H : Hp} {p : Addr} {o : HO} (g : GlOk G dl H) (h : H p = none) : GlOk G dl (upd H p o) := g.same (same_new h)
inductive Cell where
  | un
  | val (d : D)
  | own (d : D)
abbrev LE := List Cell
def OwnAt (G : Gm) (dl : Addr) (S : Hp) (d : D) (o : Option HO) : Prop := match d with
  | .lst ds => ∃ vs, o = some (.lst vs) ∧ RepL G dl S ds vs
  | .dic kvs => ∃ (kv : List (Key × V)), o = some (.dK kv) ∧ RepK G dl S kvs kv
  | .ins c ds => ∃ (dx : Addr) (vs : List V), o = some (.ins (G.cls c) dx ((G.flds c).zip vs)) ∧ vs.length ≤ (G.flds c).length ∧ RepL G dl S ds vs
  | .tdic kvs => ∃ (kv : List (List Key × V)), o = some (.dT kv) ∧ RepT G dl S kvs kv
  | _ => False
/-- the self of an __init__ stands in slot 0, under a mark of its own -/
def kee (i : Nat) : D → Nat
  | .ins _ _ => 1000000
  | _ => i
def keeOk (i : Nat) : D → Prop
  | .ins _ _ => i = 0
  | _ => i ≠ 1000000
theorem kee_inj {i j : Nat} {d e : D} (h1 : keeOk i d) (h2 : keeOk j e) (h : kee i d = kee j e) : i = j := by
  cases d <;> cases e <;> simp_all [kee, keeOk]
def Slot (G : Gm) (dl : Addr) (Z : List Addr) (O : List (Nat × Addr)) (H : Hp) (i : Nat) (x : Option (Option V)) : Cell → Prop
  | .un => True
  | .val d => ∃ v, x = some (some v) ∧ Rep G dl (cut H Z) d v
  | .own d => ∃ a, (kee i d, a) ∈ O ∧ x = some (some (.ref a)) ∧ OwnAt G dl (cut H Z) d (H a) ∧ keeOk i d
/-- tables of code objects, tuples -/
inductive NK where
  | tbl (ps : Array Value)
  | tup (xs : List V)
def NK.ho : NK → HO
  | .tbl ps => .tbl ps
  | .tup xs => .tup xs
abbrev NT (o : HO) : Prop := ∀ t : NK, o ≠ t.ho
theorem NT.tb {o : HO} (h : NT o) : ∀ ps, o ≠ .tbl ps := fun ps => h (.tbl ps)
theorem NT.lst (xs : List V) : NT (.lst xs) := fun t z => by cases t <;> cases z
theorem NT.dK (xs : List (Key × V)) : NT (.dK xs) := fun t z => by cases t <;> cases z
theorem NT.dT (xs : List (List Key × V)) : NT (.dT xs) := fun t z => by cases t <;> cases z
theorem NT.tu {o : HO} (h : NT o) : ∀ xs, o ≠ .tup xs := fun xs => h (.tup xs)
/-- the state at hand: r the slots as data, O the addresses of owned lists and dicts, Z all that is not to be leant on -/
structure At (G : Gm) (dl : Addr) (Z : List Addr) (O : List (Nat × Addr)) (r : LE) (sg : St) (H : Hp) : Prop where
  gl : GlOk G dl H
  dz : dl ∈ Z
  live : ∀ a ∈ Z, ∃ o, H a = some o ∧ NT o
  own : ∀ p ∈ O, p.2 ∈ Z ∧ p.2 ≠ dl
  inj : ∀ p ∈ O, ∀ q ∈ O, p.2 = q.2 → p = q
  len : r.length = sg.length
  slot : ∀ i c, r[i]? = some c → Slot G dl Z O H i sg[i]? c
theorem OwnAt.mono {G : Gm} {dl : Addr} {S S' : Hp} {d : D} {o : Option HO} (g : GrowS S S') (h : OwnAt G dl S d o) : OwnAt G dl S' d o := by
  unfold OwnAt at *
  split at h
  · obtain ⟨vs, e, r⟩ := h; exact ⟨vs, e, r.mono g⟩
  · obtain ⟨kv, e, r⟩ := h; exact ⟨kv, e, r.mono g⟩
  · obtain ⟨dx, vs, e, k, r⟩ := h; exact ⟨dx, vs, e, k, r.mono g⟩
  · obtain ⟨kv, e, r⟩ := h; exact ⟨kv, e, r.mono g⟩
  · exact h
theorem OwnAt.notTbl {G : Gm} {dl : Addr} {S : Hp} {d : D} {o : Option HO} (h : OwnAt G dl S d o) : ∃ u, o = some u ∧ NT u := by
  unfold OwnAt at h
  split at h
  · obtain ⟨vs, e, r⟩ := h; exact ⟨_, e, fun ps z => by cases ps <;> cases z⟩
  · obtain ⟨kv, e, r⟩ := h; exact ⟨_, e, fun ps z => by cases ps <;> cases z⟩
  · obtain ⟨dx, vs, e, k, r⟩ := h; exact ⟨_, e, fun ps z => by cases ps <;> cases z⟩
  · obtain ⟨kv, e, r⟩ := h; exact ⟨_, e, fun ps z => by cases ps <;> cases z⟩
  · exact h.elim
theorem At.grow {G : Gm} {dl : Addr} {Z : List Addr} {O : List (Nat × Addr)} {r : LE} {sg : St} {H H' : Hp} (h : At G dl Z O r sg H) (g : Grow dl H H') (gl : GlOk G dl H') : At G dl Z O r sg H' := by
  refine ⟨gl, h.dz, fun a ha => ?_, h.own, h.inj, h.len, fun i c e => ?_⟩
  · by_cases q : a = dl
    · obtain ⟨x, y, z, e⟩ := gl.dice
      exact ⟨_, by rw [q]; exact e, fun ps z => by cases ps <;> cases z⟩
    · obtain ⟨o, e, n⟩ := h.live a ha
      exact ⟨o, g a o e q n.tb, n⟩
  · have := h.slot i c e
    cases c with
    | un => trivial
    | val d =>
      obtain ⟨v, e, q⟩ := this
      exact ⟨v, e, q.mono (g.cut h.dz)⟩
    | own d =>
      obtain ⟨a, ha, e, q, ko⟩ := this
      obtain ⟨u, hu, nt⟩ := q.notTbl
      refine ⟨a, ha, e, ?_, ko⟩
      rw [g a u hu (h.own _ ha).2 nt.tb, ← hu]
      exact q.mono (g.cut h.dz)
/-- what of an exception is known -/
def XRep (G : Gm) (dl : Addr) (S : Hp) (e : Exc) (cls : Value) (dx : Option Addr) (H : Hp) : Prop :=
  cls = .ref (G.xcls e.cls) ∧ match G.xfld e.cls with
    | none => e.arg = .non
    | some f => ∃ d v, dx = some d ∧ H d = some (.xd [(f, v)]) ∧ Rep G dl S e.arg v
def tD (G : Gm) (W : WX) (f : LE → R D) : TE := fun sg H Q => ∃ dl Z O r, At G dl Z O r sg H ∧
  Wp (f r) (fun d => ∀ v H', Grow dl H H' → GlOk G dl H' → Rep G dl (cut H' Z) d v → Q v H')
    (fun e => ∀ cls dx H', Grow dl H H' → GlOk G dl H' → XRep G dl (cut H' Z) e cls dx H' → W cls dx sg H')
/-- a new list -/
def tF (G : Gm) (W : WX) (f : LE → R (List D)) : TE := fun sg H Q => ∃ dl Z O r, At G dl Z O r sg H ∧
  Wp (f r) (fun ds => ∀ p vs H', Grow dl H H' → GlOk G dl H' → H' p = none → RepL G dl (cut H' Z) ds vs → Q (.ref p) (upd H' p (.lst vs)))
    (fun e => ∀ cls dx H', Grow dl H H' → GlOk G dl H' → XRep G dl (cut H' Z) e cls dx H' → W cls dx sg H')
def tT (G : Gm) (W : WX) (f : LE → R Bool) : TT := fun sg H Q => ∃ dl Z O r, At G dl Z O r sg H ∧
  Wp (f r) (fun b => ∀ H', Grow dl H H' → GlOk G dl H' → Q b H')
    (fun e => ∀ cls dx H', Grow dl H H' → GlOk G dl H' → XRep G dl (cut H' Z) e cls dx H' → W cls dx sg H')
def tA (G : Gm) (W : WX) (f : LE → R (List D)) : TA := fun sg H Q => ∃ dl Z O r, At G dl Z O r sg H ∧
  Wp (f r) (fun ds => ∀ vs H', Grow dl H H' → GlOk G dl H' → RepL G dl (cut H' Z) ds vs → Q vs H')
    (fun e => ∀ cls dx H', Grow dl H H' → GlOk G dl H' → XRep G dl (cut H' Z) e cls dx H' → W cls dx sg H')
/-- an expression that may be an owned list or dict, read at once -/
def RepP (G : Gm) (dl : Addr) (H : Hp) (Z : List Addr) (d : D) (v : V) : Prop :=
  Rep G dl (cut H Z) d v ∨ ∃ a, v = .ref a ∧ a ∈ Z ∧ a ≠ dl ∧ OwnAt G dl (cut H Z) d (H a)
def tP (G : Gm) (W : WX) (f : LE → R D) : TE := fun sg H Q => ∃ dl Z O r, At G dl Z O r sg H ∧
  Wp (f r) (fun d => ∀ v H', Grow dl H H' → GlOk G dl H' → RepP G dl H' Z d v → Q v H')
    (fun e => ∀ cls dx H', Grow dl H H' → GlOk G dl H' → XRep G dl (cut H' Z) e cls dx H' → W cls dx sg H')
abbrev DE (X : Cx) (G : Gm) (W : WX) (e : Expr) (f : LE → R D) : Prop := PE X e (tD G W f)
abbrev DF (X : Cx) (G : Gm) (W : WX) (e : Expr) (f : LE → R (List D)) : Prop := PE X e (tF G W f)
abbrev DP (X : Cx) (G : Gm) (W : WX) (e : Expr) (f : LE → R D) : Prop := PE X e (tP G W f)
abbrev DT (X : Cx) (G : Gm) (W : WX) (e : Expr) (f : LE → R Bool) : Prop := PT X e (tT G W f)
abbrev DW (X : Cx) (G : Gm) (W : WX) (e : Expr) (f : LE → R Bool) : Prop := PW X e (tT G W f)
abbrev DA (X : Cx) (G : Gm) (W : WX) (es : List Expr) (f : LE → R (List D)) : Prop := PA X es (tA G W f)
theorem PE_imp {X : Cx} {e : Expr} {t t' : TE} (h : PE X e t) (i : ∀ sg H Q, t' sg H Q → t sg H Q) : PE X e t' := ⟨fun pins s sg H Q I q => h.run pins s sg H Q I (i _ _ _ q)⟩
theorem PT_imp {X : Cx} {e : Expr} {t t' : TT} (h : PT X e t) (i : ∀ sg H Q, t' sg H Q → t sg H Q) : PT X e t' := ⟨fun pins s sg H Q I q => h.run pins s sg H Q I (i _ _ _ q)⟩
theorem PW_imp {X : Cx} {e : Expr} {t t' : TT} (h : PW X e t) (i : ∀ sg H Q, t' sg H Q → t sg H Q) : PW X e t' := ⟨fun wh pins s sg H Q I q => h.run wh pins s sg H Q I (i _ _ _ q)⟩
theorem PA_imp {X : Cx} {e : List Expr} {t t' : TA} (h : PA X e t) (i : ∀ sg H Q, t' sg H Q → t sg H Q) : PA X e t' := ⟨fun pos pins s sg H Q I q => h.run pos pins s sg H Q I (i _ _ _ q)⟩
theorem PS_imp {X : Cx} {e : Stmt} {t t' : TS} (h : PS X e t) (i : ∀ De sg H, t' De sg H → t De sg H) : PS X e t' := ⟨fun pins s sg H De I q => h.run pins s sg H De I (i _ _ _ q)⟩
theorem PSs_imp {X : Cx} {e : List Stmt} {t t' : TS} (h : PSs X e t) (i : ∀ De sg H, t' De sg H → t De sg H) : PSs X e t' := ⟨fun pins s sg H De I q => h.run pins s sg H De I (i _ _ _ q)⟩
inductive Out where
  | nx (r : LE)
  | rt (d : D)
  | bk (r : LE)
  | ct (r : LE)
  | ex (e : Exc) (r : LE)
def Free (H : Hp) (a : Addr) : Prop := ∀ o, H a = some o → ∃ ps, o = .tbl ps
theorem Free.of {H : Hp} {a : Addr} (h : H a = none) : Free H a := fun o e => by rw [h] at e; cases e
structure Stp (dl : Addr) (Z : List Addr) (O : List (Nat × Addr)) (H : Hp) (Z' : List Addr) (O' : List (Nat × Addr)) (H' : Hp) : Prop where
  fr : ∀ a o, H a = some o → a ≠ dl → (∀ p ∈ O, p.2 ≠ a) → (∀ ps, o ≠ .tbl ps) → H' a = some o
  op : ∀ p ∈ O', (∃ q ∈ O, q.2 = p.2) ∨ Free H p.2
  zk : ∀ a ∈ Z, (∀ p ∈ O, p.2 ≠ a) → a ∈ Z'
  zn : ∀ a ∈ Z', a ∈ Z ∨ Free H a
  sf : ∀ a, (1000000, a) ∈ O' → (1000000, a) ∈ O
  dom : ∀ a, Free H' a → Free H a
theorem Stp.refl {dl : Addr} {Z : List Addr} {O : List (Nat × Addr)} {H : Hp} : Stp dl Z O H Z O H :=
  ⟨fun _ _ h _ _ _ => h, fun p hp => .inl ⟨p, hp, rfl⟩, fun _ h _ => h, fun _ h => .inl h, fun _ h => h, fun _ h => h⟩
theorem Grow.dom {G : Gm} {dl : Addr} {H H' : Hp} (g : Grow dl H H') (gl : GlOk G dl H') : ∀ a, Free H' a → Free H a := fun a f o q => by
  by_cases d : a = dl
  · obtain ⟨x, y, z, h⟩ := gl.dice
    obtain ⟨ps, e⟩ := f _ (d ▸ h)
    cases e
  · by_cases t : ∃ ps, o = .tbl ps
    · exact t
    · exact f o (g a o q d fun ps z => t ⟨ps, z⟩)
theorem Stp.of_grow {G : Gm} {dl : Addr} {Z : List Addr} {O : List (Nat × Addr)} {H H' : Hp} (g : Grow dl H H') (gl : GlOk G dl H') : Stp dl Z O H Z O H' :=
  ⟨fun a o h n _ t => g a o h n t, fun p hp => .inl ⟨p, hp, rfl⟩, fun _ h _ => h, fun _ h => .inl h, fun _ h => h, g.dom gl⟩
theorem Stp.trans {G : Gm} {dl : Addr} {Z Z1 Z2 : List Addr} {O O1 O2 : List (Nat × Addr)} {r : LE} {sg : St} {H H1 H2 : Hp} (hz : At G dl Z O r sg H) (a : Stp dl Z O H Z1 O1 H1) (b : Stp dl Z1 O1 H1 Z2 O2 H2) : Stp dl Z O H Z2 O2 H2 := by
  have key : ∀ c, (∃ o, H c = some o ∧ ∀ ps, o ≠ .tbl ps) → (∀ p ∈ O, p.2 ≠ c) → ∀ p ∈ O1, p.2 ≠ c := fun c ⟨o, ho, nt⟩ hn p hp e => by
    rcases a.op p hp with ⟨q, hq, eq⟩ | q
    · exact hn q hq (eq.trans e)
    · obtain ⟨ps, z⟩ := q o (e ▸ ho)
      exact nt ps z
  refine ⟨fun c o h n m t => b.fr c o (a.fr c o h n m t) n (key c ⟨o, h, t⟩ m) t, fun p hp => ?_, fun c hc m => b.zk c (a.zk c hc m) (key c (let ⟨o, e, n⟩ := hz.live c hc; ⟨o, e, n.tb⟩) m), fun c hc => (b.zn c hc).elim (a.zn c) fun f => .inr (a.dom c f), fun c h => a.sf c (b.sf c h), fun c h => a.dom c (b.dom c h)⟩
  rcases b.op p hp with ⟨q, hq, eq⟩ | q
  · rcases a.op q hq with ⟨q', h1, h2⟩ | h1
    · exact .inl ⟨q', h1, h2.trans eq⟩
    · exact .inr (eq ▸ h1)
  · exact .inr (a.dom _ q)
theorem Stp.cut {G : Gm} {dl : Addr} {Z Z' : List Addr} {O O' : List (Nat × Addr)} {r : LE} {sg : St} {H H' : Hp} (A : At G dl Z O r sg H) (s : Stp dl Z O H Z' O' H') : GrowS (cut H Z) (cut H' Z') := fun a o e n => by
  obtain ⟨e1, e2⟩ := cut_some e
  have hz : a ∉ Z' := fun hz => by
    rcases s.zn a hz with h | h
    · exact e1 h
    · obtain ⟨ps, q⟩ := h o e2
      exact n ps q
  rw [cut_out hz]
  exact s.fr a o e2 (fun q => e1 (by rw [q]; exact A.dz)) (fun p hp q => e1 (by rw [← q]; exact (A.own p hp).1)) n
/-- what is wanted behind a statement -/
def SPost (G : Gm) (W : WX) (De : Ends) (dl : Addr) (Z : List Addr) (O : List (Nat × Addr)) (H : Hp) : Out → Prop
  | .nx r' => ∀ Z' O' sg' H', Stp dl Z O H Z' O' H' → At G dl Z' O' r' sg' H' → De.nx sg' H'
  | .bk r' => ∀ Z' O' sg' H', Stp dl Z O H Z' O' H' → At G dl Z' O' r' sg' H' → De.bk sg' H'
  | .ct r' => ∀ Z' O' sg' H', Stp dl Z O H Z' O' H' → At G dl Z' O' r' sg' H' → De.ct sg' H'
  | .rt d => ∀ Z' O' v H', Stp dl Z O H Z' O' H' → GlOk G dl H' → Rep G dl (cut H' Z') d v → De.rt v H'
  | .ex e r' => ∀ Z' O' sg' H' cls dx, Stp dl Z O H Z' O' H' → At G dl Z' O' r' sg' H' → XRep G dl (cut H' Z') e cls dx H' → W cls dx sg' H'
theorem SPost.trans {G : Gm} {W : WX} {De : Ends} {dl : Addr} {Z Z1 : List Addr} {O O1 : List (Nat × Addr)} {r : LE} {sg : St} {H H1 : Hp} (A : At G dl Z O r sg H) (st : Stp dl Z O H Z1 O1 H1) : ∀ {o : Out}, SPost G W De dl Z O H o → SPost G W De dl Z1 O1 H1 o
  | .nx r', h => fun Z' O' sg' H' s a => h Z' O' sg' H' (Stp.trans A st s) a
  | .bk r', h => fun Z' O' sg' H' s a => h Z' O' sg' H' (Stp.trans A st s) a
  | .ct r', h => fun Z' O' sg' H' s a => h Z' O' sg' H' (Stp.trans A st s) a
  | .rt d, h => fun Z' O' v H' s g a => h Z' O' v H' (Stp.trans A st s) g a
  | .ex e r', h => fun Z' O' sg' H' c d s a x => h Z' O' sg' H' c d (Stp.trans A st s) a x
/-- a statement's reading: F the state as data -/
def tS (G : Gm) (W : WX) (F : LE → R Out) : TS := fun De sg H => ∃ dl Z O r, At G dl Z O r sg H ∧ Wp (F r) (SPost G W De dl Z O H) (fun _ => False)
abbrev DS (X : Cx) (G : Gm) (W : WX) (st : Stmt) (F : LE → R Out) : Prop := PS X st (tS G W F)
abbrev DSs (X : Cx) (G : Gm) (W : WX) (sts : List Stmt) (F : LE → R Out) : Prop := PSs X sts (tS G W F)
end DL
set_option Elab.async false
set_option linter.all false
set_option maxRecDepth 100000
namespace DL
open PySem L2
section
variable {G : Gm} {dl : Addr} {Z : List Addr} {O : List (Nat × Addr)} {r : LE} {sg : St} {H H' H1 H2 : Hp} {W : WX} {d : D} {v : V}
theorem At.out (A : At G dl Z O r sg H) {p : Addr} (h : H p = none) : p ∉ Z := fun hz => by
  obtain ⟨o, e, _⟩ := A.live p hz
  rw [h] at e; cases e
theorem At.notdl (A : At G dl Z O r sg H) {p : Addr} (h : H p = none) : p ≠ dl := fun e => A.out h (e ▸ A.dz)
theorem RepP.grow (A : At G dl Z O r sg H) (g : Grow dl H H') (h : RepP G dl H Z d v) : RepP G dl H' Z d v := by
  rcases h with h | ⟨a, e, hz, hd, q⟩
  · exact .inl (h.mono (g.cut A.dz))
  · obtain ⟨u, hu, nt⟩ := q.notTbl
    refine .inr ⟨a, e, hz, hd, ?_⟩
    rw [g a u hu hd nt.tb, ← hu]
    exact q.mono (g.cut A.dz)
theorem RepP.of (h : Rep G dl (cut H Z) d v) : RepP G dl H Z d v := .inl h
/-- a new object -/
theorem Rep.tup_new (A : At G dl Z O r sg H) {p : Addr} {ds : List D} {vs : List V} (h : H p = none) (q : RepL G dl (cut H Z) ds vs) : Rep G dl (cut (upd H p (.tup vs)) Z) (.tup ds) (.ref p) := by
  unfold Rep
  refine ⟨p, vs, rfl, (by rw [cut_out (A.out h), upd_same]), q.mono ((Grow.new h).cut A.dz)⟩
theorem Rep.lst_new (A : At G dl Z O r sg H) {p : Addr} {ds : List D} {vs : List V} (h : H p = none) (q : RepL G dl (cut H Z) ds vs) : Rep G dl (cut (upd H p (.lst vs)) Z) (.lst ds) (.ref p) := by
  unfold Rep
  refine ⟨p, vs, rfl, by rw [cut_out (A.out h), upd_same], q.mono ((Grow.new h).cut A.dz)⟩
/-- a list read: tracked -/
theorem RepP.lst {ds : List D} (h : RepP G dl H Z (.lst ds) v) : ∃ a vs, v = .ref a ∧ H a = some (.lst vs) ∧ RepL G dl (cut H Z) ds vs := by
  rcases h with h | ⟨a, e, hz, hd, q⟩
  · unfold Rep at h
    obtain ⟨a, vs, e, q, rl⟩ := h
    exact ⟨a, vs, e, (cut_some q).2, rl⟩
  · obtain ⟨vs, e2, rl⟩ := q
    exact ⟨a, vs, e, e2, rl⟩
theorem RepP.tup {ds : List D} (h : RepP G dl H Z (.tup ds) v) : ∃ a vs, v = .ref a ∧ SqT G.K H a vs ∧ RepL G dl (cut H Z) ds vs := by
  rcases h with h | ⟨a, e, hz, hd, q⟩
  · unfold Rep at h
    obtain ⟨a, vs, e, q, rl⟩ := h
    exact ⟨a, vs, e, (cut_grow H Z).sqt (SqT.of q), rl⟩
  · exact q.elim
theorem RepP.str {x : List Nat} (h : RepP G dl H Z (.str x) v) : v = .str ⟨x.toArray⟩ := by
  rcases h with h | ⟨a, e, hz, hd, q⟩
  · unfold Rep at h; exact h
  · exact q.elim
theorem RepP.int {x : Int} (h : RepP G dl H Z (.int x) v) : v = .int x := by
  rcases h with h | ⟨a, e, hz, hd, q⟩
  · unfold Rep at h; exact h
  · exact q.elim
theorem RepP.bl {x : Bool} (h : RepP G dl H Z (.bl x) v) : v = .bl x := by
  rcases h with h | ⟨a, e, hz, hd, q⟩
  · unfold Rep at h; exact h
  · exact q.elim
theorem RepP.non (h : RepP G dl H Z .non v) : v = .non := by
  rcases h with h | ⟨a, e, hz, hd, q⟩
  · unfold Rep at h; exact h
  · exact q.elim
theorem Rep.int_ {S : Hp} {x : Int} : Rep G dl S (.int x) (.int x) := by unfold Rep; rfl
theorem Rep.bl_ {S : Hp} {x : Bool} : Rep G dl S (.bl x) (.bl x) := by unfold Rep; rfl
theorem Rep.non_ {S : Hp} : Rep G dl S .non .non := by unfold Rep; rfl
theorem Rep.str_ {S : Hp} {x : List Nat} : Rep G dl S (.str x) (.str ⟨x.toArray⟩) := by unfold Rep; rfl
/-- what is wanted of an error, behind a step -/
theorem epost (g1 : Grow dl H H1) {e : Exc} (h : ∀ cls dx H', Grow dl H H' → GlOk G dl H' → XRep G dl (cut H' Z) e cls dx H' → W cls dx sg H') :
    ∀ cls dx H', Grow dl H1 H' → GlOk G dl H' → XRep G dl (cut H' Z) e cls dx H' → W cls dx sg H' := fun cls dx H' g k x => h cls dx H' (g1.trans g) k x
end
def var (i : Nat) : LE → R D := fun r => match r[i]? with
  | some (.val d) => .ok d
  | _ => .stuck
def varP (i : Nat) : LE → R D := fun r => match r[i]? with
  | some (.val d) => .ok d
  | some (.own d) => .ok d
  | _ => .stuck
def cst (d : D) : LE → R D := fun _ => .ok d
section
variable {X : Cx} {G : Gm} {W : WX} {ex a b c : Expr} {es : List Expr} {f g : LE → R D} {pos p0 : Pos}
theorem DE.p (h : DE X G W ex f) : DP X G W ex f := PE_imp h fun sg H Q ⟨dl, Z, O, r, A, q⟩ => ⟨dl, Z, O, r, A, q.thn fun d h v H' g k rp => h v H' g k (.inl rp)⟩
theorem DF.e {f : LE → R (List D)} (h : DF X G W ex f) : DE X G W ex (fun r => (f r) >>= fun ds => .ok (.lst ds)) := PE_imp h fun sg H Q ⟨dl, Z, O, r, A, q⟩ => by
  refine ⟨dl, Z, O, r, A, q.bind.thn fun ds h p vs H' g k hp rl => ?_⟩
  exact h (.ref p) _ (g.trans (Grow.new hp)) (k.new hp) ((A.grow g k).gl |> fun _ => Rep.lst_new (A.grow g k) hp rl)
theorem de_var (i : Nat) {x : Str} (hN : X.N[i]? = some x := by rfl) (hv : Vis X.env.scope x := by first | exact Or.inl rfl | exact Or.inr (Or.inl rfl) | exact Or.inr (Or.inr rfl)) (hd : (x == ("__debug__" : Str)) = false := by decide)
    (hcd : (x == ("__classdict__" : Str)) = false := by decide) : DE X G W (.Name x pos) (var i) := PE_imp (pe_var hN hv hd hcd) fun sg H Q ⟨dl, Z, O, r, A, q⟩ => by
  unfold var at q
  split at q
  · rename_i d e
    obtain ⟨v, e1, rp⟩ := A.slot i _ e
    exact ⟨v, e1, q v H (.refl _ _) A.gl rp⟩
  · exact q.elim
theorem dp_var (i : Nat) {x : Str} (hN : X.N[i]? = some x := by rfl) (hv : Vis X.env.scope x := by first | exact Or.inl rfl | exact Or.inr (Or.inl rfl) | exact Or.inr (Or.inr rfl)) (hd : (x == ("__debug__" : Str)) = false := by decide)
    (hcd : (x == ("__classdict__" : Str)) = false := by decide) : DP X G W (.Name x pos) (varP i) := PE_imp (pe_var hN hv hd hcd) fun sg H Q ⟨dl, Z, O, r, A, q⟩ => by
  unfold varP at q
  split at q
  · rename_i d e
    obtain ⟨v, e1, rp⟩ := A.slot i _ e
    exact ⟨v, e1, q v H (.refl _ _) A.gl (.inl rp)⟩
  · rename_i d e
    obtain ⟨a, ha, e1, rp, _⟩ := A.slot i _ e
    exact ⟨_, e1, q _ H (.refl _ _) A.gl (.inr ⟨a, rfl, (A.own _ ha).1, (A.own _ ha).2, rp⟩)⟩
  · exact q.elim
theorem de_of {t : TE} {d : D} {v : V} (h : PE X ex (tC v)) (rp : ∀ dl S, Rep G dl S d v) : DE X G W ex (cst d) := PE_imp h fun sg H Q ⟨dl, Z, O, r, A, q⟩ => q v H (.refl _ _) A.gl (rp _ _)
theorem de_int {i j} : DE X G W (.Constant (.int i) j pos) (cst (.int i)) := de_of (t := tC .non) pe_int fun _ _ => Rep.int_
theorem de_bl {b j} : DE X G W (.Constant (.bool b) j pos) (cst (.bl b)) := de_of (t := tC .non) pe_bl fun _ _ => Rep.bl_
theorem de_non {j} : DE X G W (.Constant .none j pos) (cst .non) := de_of (t := tC .non) pe_non fun _ _ => Rep.non_
theorem de_str {x : Str} {j} (s : List Nat) (hx : x = ⟨s.toArray⟩ := by rfl) : DE X G W (.Constant (.str x) j pos) (cst (.str s)) := by
  subst hx; exact de_of (t := tC .non) pe_str fun _ _ => Rep.str_
def OpD (X : Cx) (G : Gm) (fo : Value → Value → Sem Value) (g : D → D → R D) : Prop :=
  ∃ rr : R2, OpR X fo rr ∧ ∀ (dl : Addr) (Z : List Addr) (O : List (Nat × Addr)) (r : LE) (sg : St) (x y : D) (vx vy : V) (H : Hp) (Q : VK) (E : Exc → Prop), At G dl Z O r sg H → RepP G dl H Z x vx → RepP G dl H Z y vy →
    Wp (g x y) (fun d => ∀ v H', Grow dl H H' → GlOk G dl H' → Rep G dl (cut H' Z) d v → Q v H') E → rr vx vy H Q
theorem OpR.or {f : Value → Value → Sem Value} {r1 r2 : R2} (h1 : OpR X f r1) (h2 : OpR X f r2) : OpR X f (fun x y H Q => r1 x y H Q ∨ r2 x y H Q) := fun pins s sg H x y v u Q I rx ry h => by
  rcases h with h | h
  · exact h1 pins s sg H x y v u Q I rx ry h
  · exact h2 pins s sg H x y v u Q I rx ry h
theorem op_core {rr : R2} {gg : D → D → R D} (hop : ∀ (dl : Addr) (Z : List Addr) (O : List (Nat × Addr)) (r : LE) (sg : St) (x y : D) (vx vy : V) (H : Hp) (Q : VK) (E : Exc → Prop), At G dl Z O r sg H → RepP G dl H Z x vx → RepP G dl H Z y vy →
    Wp (gg x y) (fun d => ∀ v H', Grow dl H H' → GlOk G dl H' → Rep G dl (cut H' Z) d v → Q v H') E → rr vx vy H Q) {sg : St} {H : Hp} {Q : VK} (h : tD G W (fun r => do let x ← f r; let y ← g r; gg x y) sg H Q) : tOp rr (tP G W f) (tP G W g) sg H Q := by
  obtain ⟨dl, Z, O, r, A, q⟩ := h
  refine ⟨dl, Z, O, r, A, q.bind.thn fun x hx vx H1 g1 k1 rx => ?_⟩
  refine ⟨dl, Z, O, r, A.grow g1 k1, hx.bind.mono (fun y hy vy H2 g2 k2 ry => ?_) fun e he => epost g1 he⟩
  refine hop dl Z O r sg x y vx vy H2 Q _ ((A.grow g1 k1).grow g2 k2) (rx.grow (A.grow g1 k1) g2) ry (hy.thn fun d hd v H' g k rp => hd v H' ((g1.trans g2).trans g) k rp)
theorem de_op {op : Operator} {gg : D → D → R D} (ho : OpD X G (binaryOp op) gg) (ha : DP X G W a f) (hb : DP X G W b g) : DE X G W (.BinOp a op b pos) (fun r => do let x ← f r; let y ← g r; gg x y) := by
  obtain ⟨rr, h1, h2⟩ := ho
  exact PE_imp (pe_op h1 ha hb) fun sg H Q h => op_core h2 h
theorem de_cmp {op : CmpOp} {gg : D → D → R D} (ho : OpD X G (compareOp op) gg) (ha : DP X G W a f) (hb : DP X G W b g) (hm : behindInMarks op b = false := by first | exact nomark _ | rfl) : DE X G W (.Compare a [op] [b] pos) (fun r => do let x ← f r; let y ← g r; gg x y) := by
  obtain ⟨rr, h1, h2⟩ := ho
  exact PE_imp (pe_cmpR h1 ha hb hm) fun sg H Q h => op_core h2 h
/-- a value as a bool -/
def asB : D → R Bool
  | .bl b => .ok b
  | _ => .stuck
theorem tT_of {t : TE} {ff : LE → R D} (hd : ∀ sg H Q, tD G W ff sg H Q → t sg H Q) {sg : St} {H : Hp} {Q : Bool → Hp → Prop} (h : tT G W (fun r => ff r >>= asB) sg H Q) : t sg H (fun x H' => ∃ k, x = .bl k ∧ Q k H') := by
  obtain ⟨dl, Z, O, r, A, q⟩ := h
  refine hd _ _ _ ⟨dl, Z, O, r, A, q.bind.thn fun d h v H' g1 k1 rp => ?_⟩
  cases d <;> first | exact h.elim | skip
  rename_i k
  have := (RepP.of rp).bl
  exact ⟨k, this, h H' g1 k1⟩
theorem dt_cmp {op : CmpOp} {gg : D → D → R D} (ho : OpD X G (compareOp op) gg) (ha : DP X G W a f) (hb : DP X G W b g) (hm : behindInMarks op b = false := by first | exact nomark _ | rfl) : DT X G W (.Compare a [op] [b] pos) (fun r => (do let x ← f r; let y ← g r; gg x y) >>= asB) := by
  obtain ⟨rr, h1, h2⟩ := ho
  exact PT_imp (pt_cmpR h1 ha hb hm) fun sg H Q h => tT_of (t := tOp rr (tP G W f) (tP G W g)) (fun sg H Q h => op_core h2 h) h
/-- any other expression that gives a bool, as a test -/
theorem dt_val (h : DE X G W ex f) (he : ∀ whole, isTrue ex X.env whole = (do let v ← whole; standAt ex.pos; holding [v] (truthy v)) := by intro _; rfl) : DT X G W ex (fun r => f r >>= asB) :=
  PT_imp (pt_val h he) fun sg H Q q => tT_of (t := tD G W f) (fun _ _ _ z => z) q
end
end DL
set_option Elab.async false
set_option linter.all false
set_option maxRecDepth 100000
namespace DL
open PySem L2
mutual
def D.eqb : D → D → Bool
  | .non, .non => true
  | .bl a, .bl b => a == b
  | .bl a, .int j => (if a then 1 else 0) == j
  | .int i, .bl b => i == (if b then 1 else 0)
  | .int i, .int j => i == j
  | .str x, .str y => x == y
  | .lst xs, .lst ys => D.eqbs xs ys
  | .tup xs, .tup ys => D.eqbs xs ys
  | _, _ => false
def D.eqbs : List D → List D → Bool
  | [], [] => true
  | x :: xs, y :: ys => D.eqb x y && D.eqbs xs ys
  | _, _ => false
end
mutual
/-- plain data, at most n deep -/
def D.sh : D → Nat → Bool
  | .non, _ => true
  | .bl _, _ => true
  | .int _, _ => true
  | .str s, _ => s.all (· < 0x110000)
  | .lst xs, n => match n with
    | 0 => false
    | n + 1 => D.shs xs n
  | .tup xs, n => match n with
    | 0 => false
    | n + 1 => D.shs xs n
  | _, _ => false
def D.shs : List D → Nat → Bool
  | [], _ => true
  | x :: xs, n => D.sh x n && D.shs xs n
end
mutual
def D.toP : D → PyData
  | .bl b => .bool b
  | .int i => .int i
  | .str s => .str ⟨s.toArray⟩
  | .lst xs => .list (D.toPs xs)
  | .tup xs => .tuple (D.toPs xs)
  | _ => .none
def D.toPs : List D → List PyData
  | [] => []
  | x :: xs => D.toP x :: D.toPs xs
end
mutual
theorem sh_lay : ∀ (d : D) (n : Nat), d.sh n = true → (d.toP).canLay0 = true ∧ (d.toP).depth ≤ n
  | .non, n, h => by simp [D.toP, PyData.canLay0, PyData.depth]
  | .bl b, n, h => by simp [D.toP, PyData.canLay0, PyData.depth]
  | .int i, n, h => by simp [D.toP, PyData.canLay0, PyData.depth]
  | .str s, n, h => by
    simp only [D.sh] at h
    refine ⟨?_, by simp [D.toP, PyData.depth]⟩
    simp only [D.toP, PyData.canLay0, PyData.strOk]
    simpa using h
  | .lst xs, 0, h => by simp [D.sh] at h
  | .lst xs, n + 1, h => by
    simp only [D.sh] at h
    have := shs_lay xs n h
    simp only [D.toP, PyData.canLay0, PyData.depth]
    exact ⟨this.1, by omega⟩
  | .tup xs, 0, h => by simp [D.sh] at h
  | .tup xs, n + 1, h => by
    simp only [D.sh] at h
    have := shs_lay xs n h
    simp only [D.toP, PyData.canLay0, PyData.depth]
    exact ⟨this.1, by omega⟩
  | .dic _, n, h => by simp [D.sh] at h
  | .cdic _, n, h => by simp [D.sh] at h
  | .ins _ _, n, h => by simp [D.sh] at h
  | .dice, n, h => by simp [D.sh] at h
  | .fn _, n, h => by simp [D.sh] at h
theorem shs_lay : ∀ (ds : List D) (n : Nat), D.shs ds n = true → PyData.canLayAll0 (D.toPs ds) = true ∧ PyData.depthAll (D.toPs ds) ≤ n
  | [], n, h => by simp [D.toPs, PyData.canLayAll0, PyData.depthAll]
  | d :: ds, n, h => by
    simp only [D.shs, Bool.and_eq_true] at h
    have h1 := sh_lay d n h.1
    have h2 := shs_lay ds n h.2
    simp only [D.toPs, PyData.canLayAll0, PyData.depthAll, h1.1, h2.1, Bool.and_self, true_and]
    exact Nat.max_le.mpr ⟨h1.2, h2.2⟩
end
theorem sh_shaped {d : D} (h : d.sh 64 = true) : SeqAt.shaped d.toP = true := by
  have := sh_lay d 64 h
  unfold SeqAt.shaped
  rw [this.1, decide_eq_true this.2]; rfl
mutual
theorem eqb_eqv : ∀ (x y : D) (n m : Nat), x.sh n = true → y.sh m = true → PyData.eqv x.toP y.toP = D.eqb x y
  | .non, y, n, m, hx, hy => by cases y <;> simp_all [D.toP, D.eqb, PyData.eqv, D.sh]
  | .bl b, y, n, m, hx, hy => by cases y <;> simp_all [D.toP, D.eqb, PyData.eqv, D.sh]
  | .int i, y, n, m, hx, hy => by cases y <;> simp_all [D.toP, D.eqb, PyData.eqv, D.sh]
  | .str s, y, n, m, hx, hy => by
    cases y <;> simp_all [D.toP, D.eqb, PyData.eqv, D.sh]
    rw [Bool.eq_iff_iff]; simp
  | .lst xs, y, n, m, hx, hy => by
    cases y <;> first | (simp_all [D.toP, D.eqb, PyData.eqv, D.sh]; done) | skip
    rename_i ys
    cases n <;> first | (simp [D.sh] at hx; done) | skip
    cases m <;> first | (simp [D.sh] at hy; done) | skip
    simp only [D.sh] at hx hy
    simp only [D.toP, D.eqb, PyData.eqv]
    exact eqbs_eqv xs ys _ _ hx hy
  | .tup xs, y, n, m, hx, hy => by
    cases y <;> first | (simp_all [D.toP, D.eqb, PyData.eqv, D.sh]; done) | skip
    rename_i ys
    cases n <;> first | (simp [D.sh] at hx; done) | skip
    cases m <;> first | (simp [D.sh] at hy; done) | skip
    simp only [D.sh] at hx hy
    simp only [D.toP, D.eqb, PyData.eqv]
    exact eqbs_eqv xs ys _ _ hx hy
  | .dic _, y, n, m, hx, hy => by simp [D.sh] at hx
  | .cdic _, y, n, m, hx, hy => by simp [D.sh] at hx
  | .ins _ _, y, n, m, hx, hy => by simp [D.sh] at hx
  | .dice, y, n, m, hx, hy => by simp [D.sh] at hx
  | .fn _, y, n, m, hx, hy => by simp [D.sh] at hx
theorem eqbs_eqv : ∀ (xs ys : List D) (n m : Nat), D.shs xs n = true → D.shs ys m = true → PyData.eqvAll (D.toPs xs) (D.toPs ys) = D.eqbs xs ys
  | [], [], n, m, hx, hy => by simp [D.toPs, D.eqbs, PyData.eqvAll]
  | [], y :: ys, n, m, hx, hy => by simp [D.toPs, D.eqbs, PyData.eqvAll]
  | x :: xs, [], n, m, hx, hy => by simp [D.toPs, D.eqbs, PyData.eqvAll]
  | x :: xs, y :: ys, n, m, hx, hy => by
    simp only [D.shs, Bool.and_eq_true] at hx hy
    simp only [D.toPs, D.eqbs, PyData.eqvAll, eqb_eqv x y n m hx.1 hy.1, eqbs_eqv xs ys n m hx.2 hy.2]
end
section
variable {G : Gm} {dl : Addr} {S H : Hp} {Z : List Addr}
mutual
theorem Rep.dp (g : GrowS S H) : ∀ (d : D) (n : Nat) {v : V}, d.sh n = true → Rep G dl S d v → Dp G.K H v d.toP
  | .non, n, v, h, q => by unfold Rep at q; subst q; exact .non
  | .bl b, n, v, h, q => by unfold Rep at q; subst q; exact .bl b
  | .int i, n, v, h, q => by unfold Rep at q; subst q; exact .int i
  | .str s, n, v, h, q => by unfold Rep at q; subst q; exact .str _
  | .lst xs, 0, v, h, q => by simp [D.sh] at h
  | .lst xs, n + 1, v, h, q => by
    unfold Rep at q
    obtain ⟨a, vs, rfl, h1, h2⟩ := q
    simp only [D.sh] at h
    exact .lst (SqL.of (g a _ h1 fun ps z => by cases z)) (RepL.dp g xs n h h2)
  | .tup xs, 0, v, h, q => by simp [D.sh] at h
  | .tup xs, n + 1, v, h, q => by
    unfold Rep at q
    obtain ⟨a, vs, rfl, h1, h2⟩ := q
    simp only [D.sh] at h
    exact .tup (g.sqt (SqT.of h1)) (RepL.dp g xs n h h2)
  | .dic _, n, v, h, q => by simp [D.sh] at h
  | .cdic _, n, v, h, q => by simp [D.sh] at h
  | .ins _ _, n, v, h, q => by simp [D.sh] at h
  | .dice, n, v, h, q => by simp [D.sh] at h
  | .fn _, n, v, h, q => by simp [D.sh] at h
theorem RepL.dp (g : GrowS S H) : ∀ (ds : List D) (n : Nat) {vs : List V}, D.shs ds n = true → RepL G dl S ds vs → DpAll G.K H vs (D.toPs ds)
  | [], n, vs, h, q => by unfold RepL at q; subst q; exact .nil
  | d :: ds, n, vs, h, q => by
    unfold RepL at q
    obtain ⟨v, r, rfl, h1, h2⟩ := q
    simp only [D.shs, Bool.and_eq_true] at h
    exact .cons (Rep.dp g d n h.1 h1) (RepL.dp g ds n h.2 h2)
end
theorem RepP.dp {d : D} {n : Nat} {v : V} (h : d.sh n = true) (q : RepP G dl H Z d v) : Dp G.K H v d.toP := by
  rcases q with q | ⟨a, rfl, hz, hd, q⟩
  · exact Rep.dp (cut_grow H Z) d n h q
  · cases d <;> first | exact q.elim | (simp [D.sh] at h; done) | skip
    rename_i xs
    obtain ⟨vs, e, rl⟩ := q
    cases n <;> first | (simp [D.sh] at h; done) | skip
    simp only [D.sh] at h
    exact .lst (SqL.of e) (RepL.dp (cut_grow H Z) xs _ h rl)
end
/-- scalars of kinds that == tells apart -/
def D.sc : D → D → Bool
  | .non, .non => true | .non, .int _ => true | .int _, .non => true | .non, .bl _ => true | .bl _, .non => true | .non, .str _ => true | .str _, .non => true
  | .int _, .int _ => true | .bl _, .bl _ => true | .str _, .str _ => true
  | .int _, .str _ => true | .str _, .int _ => true | .bl _, .str _ => true | .str _, .bl _ => true
  | _, _ => false
def eqD (x y : D) : R D := if (x.sc y || (x.sh 64 && y.sh 64)) = true then .ok (.bl (x.eqb y)) else .stuck
def neD (x y : D) : R D := if (x.sc y || (x.sh 64 && y.sh 64)) = true then .ok (.bl (!x.eqb y)) else .stuck
section
variable {X : Cx} {G : Gm}
theorem RepP.sc {dl : Addr} {H : Hp} {Z : List Addr} {x y : D} {vx vy : V} (h : x.sc y = true) (hx : RepP G dl H Z x vx) (hy : RepP G dl H Z y vy) : scal vx vy = true ∧ decide (vx = vy) = x.eqb y := by
  cases x <;> cases y <;> first | (simp [D.sc] at h; done) | skip
  all_goals first
    | (cases hx.non; cases hy.non; simp [scal, D.eqb]; done)
    | (cases hx.non; cases hy.int; simp [scal, D.eqb]; done)
    | (cases hx.non; cases hy.bl; simp [scal, D.eqb]; done)
    | (cases hx.non; cases hy.str; simp [scal, D.eqb]; done)
    | (cases hx.int; cases hy.non; simp [scal, D.eqb]; done)
    | (cases hx.int; cases hy.int; simp [scal, D.eqb, Bool.beq_eq_decide_eq]; done)
    | (cases hx.int; cases hy.str; simp [scal, D.eqb]; done)
    | (cases hx.bl; cases hy.non; simp [scal, D.eqb]; done)
    | (cases hx.bl; cases hy.bl; simp [scal, D.eqb, Bool.beq_eq_decide_eq]; done)
    | (cases hx.bl; cases hy.str; simp [scal, D.eqb]; done)
    | (cases hx.str; cases hy.non; simp [scal, D.eqb]; done)
    | (cases hx.str; cases hy.int; simp [scal, D.eqb]; done)
    | (cases hx.str; cases hy.bl; simp [scal, D.eqb]; done)
    | (cases hx.str; cases hy.str; simp only [scal, D.eqb, true_and]; rw [Bool.eq_iff_iff]; simp; done)
theorem op_eq_d (hG : G.K = X.K) (hu : X.A.units + 64 < cLine) : OpD X G (compareOp .Eq) eqD := by
  refine ⟨_, OpR.or op_eq (op_eqD hu), fun dl Z O r sg x y vx vy H Q E A hx hy h => ?_⟩
  unfold eqD at h
  split at h
  · rename_i hc
    rw [Bool.or_eq_true, Bool.and_eq_true] at hc
    rcases hc with hc | ⟨h1, h2⟩
    · obtain ⟨e1, e2⟩ := hx.sc hc hy
      refine .inl ⟨e1, ?_⟩
      rw [e2]; exact h _ H (.refl _ _) A.gl Rep.bl_
    · refine .inr ⟨x.toP, y.toP, hG ▸ hx.dp h1, hG ▸ hy.dp h2, sh_shaped h1, sh_shaped h2, ?_⟩
      rw [eqb_eqv x y _ _ h1 h2]; exact h _ H (.refl _ _) A.gl Rep.bl_
  · exact h.elim
theorem op_ne_d (hG : G.K = X.K) (hu : X.A.units + 64 < cLine) : OpD X G (compareOp .NotEq) neD := by
  refine ⟨_, OpR.or op_ne (op_neD hu), fun dl Z O r sg x y vx vy H Q E A hx hy h => ?_⟩
  unfold neD at h
  split at h
  · rename_i hc
    rw [Bool.or_eq_true, Bool.and_eq_true] at hc
    rcases hc with hc | ⟨h1, h2⟩
    · obtain ⟨e1, e2⟩ := hx.sc hc hy
      refine .inl ⟨e1, ?_⟩
      rw [e2]; exact h _ H (.refl _ _) A.gl Rep.bl_
    · refine .inr ⟨x.toP, y.toP, hG ▸ hx.dp h1, hG ▸ hy.dp h2, sh_shaped h1, sh_shaped h2, ?_⟩
      rw [eqb_eqv x y _ _ h1 h2]; exact h _ H (.refl _ _) A.gl Rep.bl_
  · exact h.elim
def subD : D → D → R D
  | .int i, .int j => .ok (.int (i - j))
  | _, _ => .stuck
def modD : D → D → R D
  | .int i, .int j => if 0 < j then .ok (.int (i % j)) else .stuck
  | _, _ => .stuck
def ltD : D → D → R D
  | .int i, .int j => .ok (.bl (decide (i < j)))
  | .str i, .str j => .ok (.bl (decide (i < j)))
  | _, _ => .stuck
def leD : D → D → R D
  | .int i, .int j => .ok (.bl (decide (i ≤ j)))
  | .str i, .str j => .ok (.bl (!decide (j < i)))
  | _, _ => .stuck
def gtD : D → D → R D
  | .int i, .int j => .ok (.bl (decide (j < i)))
  | .str i, .str j => .ok (.bl (decide (j < i)))
  | _, _ => .stuck
def geD : D → D → R D
  | .int i, .int j => .ok (.bl (decide (j ≤ i)))
  | .str i, .str j => .ok (.bl (!decide (i < j)))
  | _, _ => .stuck
theorem op_sub_d : OpD X G (binaryOp .Sub) subD := by
  refine ⟨_, op_sub, fun dl Z O r sg x y vx vy H Q E A hx hy h => ?_⟩
  unfold subD at h
  split at h
  · exact ⟨_, _, hx.int, hy.int, h _ H (.refl _ _) A.gl Rep.int_⟩
  · exact h.elim
theorem op_mod_d : OpD X G (binaryOp .Mod) modD := by
  refine ⟨_, op_mod, fun dl Z O r sg x y vx vy H Q E A hx hy h => ?_⟩
  unfold modD at h
  split at h
  · split at h
    · rename_i hc
      exact ⟨_, _, hx.int, hy.int, hc, h _ H (.refl _ _) A.gl Rep.int_⟩
    · exact h.elim
  · exact h.elim
theorem op_lt_d : OpD X G (compareOp .Lt) ltD := by
  refine ⟨_, OpR.or op_lt op_lt_str, fun dl Z O r sg x y vx vy H Q E A hx hy h => ?_⟩
  unfold ltD at h
  split at h
  · exact .inl ⟨_, _, hx.int, hy.int, h _ H (.refl _ _) A.gl Rep.bl_⟩
  · exact .inr ⟨_, _, hx.str, hy.str, h _ H (.refl _ _) A.gl Rep.bl_⟩
  · exact h.elim
theorem op_le_d : OpD X G (compareOp .LtE) leD := by
  refine ⟨_, OpR.or op_le op_le_str, fun dl Z O r sg x y vx vy H Q E A hx hy h => ?_⟩
  unfold leD at h
  split at h
  · exact .inl ⟨_, _, hx.int, hy.int, h _ H (.refl _ _) A.gl Rep.bl_⟩
  · exact .inr ⟨_, _, hx.str, hy.str, h _ H (.refl _ _) A.gl Rep.bl_⟩
  · exact h.elim
theorem op_gt_d : OpD X G (compareOp .Gt) gtD := by
  refine ⟨_, OpR.or op_gt op_gt_str, fun dl Z O r sg x y vx vy H Q E A hx hy h => ?_⟩
  unfold gtD at h
  split at h
  · exact .inl ⟨_, _, hx.int, hy.int, h _ H (.refl _ _) A.gl Rep.bl_⟩
  · exact .inr ⟨_, _, hx.str, hy.str, h _ H (.refl _ _) A.gl Rep.bl_⟩
  · exact h.elim
end
def addD : D → D → R D
  | .int i, .int j => .ok (.int (i + j))
  | .str a, .str b => if a.length + b.length ≤ 16777216 then .ok (.str (a ++ b)) else .stuck
  | .lst a, .lst b => if a.length + b.length ≤ 16777216 then .ok (.lst (a ++ b)) else .stuck
  | .tup a, .tup b => if a.length + b.length ≤ 16777216 then .ok (.tup (a ++ b)) else .stuck
  | _, _ => .stuck
def mulD : D → D → R D
  | .int i, .int j => if (-(18446744073709551616) < i ∧ i < 18446744073709551616) ∨ (-(18446744073709551616) < j ∧ j < 18446744073709551616) then .ok (.int (i * j)) else .stuck
  | _, _ => .stuck
section
variable {X : Cx} {G : Gm}
theorem str_add (a b : List Nat) : (⟨a.toArray⟩ : Str) ++ ⟨b.toArray⟩ = ⟨(a ++ b).toArray⟩ := by
  show Str.mk (a.toArray ++ b.toArray) = _
  simp
theorem op_mul_d : OpD X G (binaryOp .Mult) mulD := by
  refine ⟨_, op_mul, fun dl Z O r sg x y vx vy H Q E A hx hy h => ?_⟩
  unfold mulD at h
  split at h
  · split at h
    · rename_i hc
      exact ⟨_, _, hx.int, hy.int, (by unfold CMul; omega), h _ H (.refl _ _) A.gl Rep.int_⟩
    · exact h.elim
  · exact h.elim
theorem op_add_d (hG : G.K = X.K) : OpD X G (binaryOp .Add) addD := by
  refine ⟨_, OpR.or op_add (OpR.or op_add_str (OpR.or op_cat op_catA)), fun dl Z O r sg x y vx vy H Q E A hx hy h => ?_⟩
  unfold addD at h
  split at h
  · exact .inl ⟨_, _, hx.int, hy.int, h _ H (.refl _ _) A.gl Rep.int_⟩
  · split at h
    · rename_i a b hc
      refine .inr (.inl ⟨_, _, hx.str, hy.str, by rw [sizeLine_eq]; simpa [Str.length] using hc, ?_⟩)
      rw [str_add]
      exact h _ H (.refl _ _) A.gl Rep.str_
    · exact h.elim
  · split at h
    · rename_i a b hc
      obtain ⟨p, vs, rfl, h1, r1⟩ := hx.lst
      obtain ⟨q, us, rfl, h2, r2⟩ := hy.lst
      refine .inr (.inr (.inl ⟨_, _, _, _, rfl, rfl, h1, h2, by rw [sizeLine_eq, r1.length, r2.length]; exact hc, fun l hl => ?_⟩))
      exact h _ _ (.new hl) (A.gl.new hl) (Rep.lst_new A hl (r1.append r2))
    · exact h.elim
  · split at h
    · rename_i a b hc
      obtain ⟨p, vs, rfl, h1, r1⟩ := hx.tup
      obtain ⟨q, us, rfl, h2, r2⟩ := hy.tup
      have e1 := r1.length
      have e2 := r2.length
      refine .inr (.inr (.inr ⟨_, _, _, _, rfl, rfl, hG ▸ h1, hG ▸ h2, by rw [sizeLine_eq, e1, e2]; exact hc, fun z => ?_, fun z1 z2 => ?_, fun _ _ l hl => ?_⟩))
      · subst z
        have : a = [] := List.length_eq_zero_iff.mp e1.symm
        subst this
        rcases hy with hy | ⟨_, _, _, _, hy⟩
        · exact h _ H (.refl _ _) A.gl hy
        · exact hy.elim
      · subst z2
        have : b = [] := List.length_eq_zero_iff.mp e2.symm
        subst this
        rcases hx with hx | ⟨_, _, _, _, hx⟩
        · rw [List.append_nil] at h
          exact h _ H (.refl _ _) A.gl hx
        · exact hx.elim
      · exact h _ _ (.new hl) (A.gl.new hl) (Rep.tup_new A hl (r1.append r2))
    · exact h.elim
  · exact h.elim
end
end DL
set_option Elab.async false
set_option linter.all false
set_option maxRecDepth 100000
namespace DL
open PySem L2 PySem.Spec PyProof.Rows
def andT (f g : LE → R Bool) : LE → R Bool := fun r => do if (← f r) then g r else .ok false
def orT (f g : LE → R Bool) : LE → R Bool := fun r => do if (← f r) then .ok true else g r
def notT (f : LE → R Bool) : LE → R Bool := fun r => do let b ← f r; .ok (!b)
def andV (f g : LE → R D) : LE → R D := fun r => do
  match ← f r with
  | .bl true => g r
  | .bl false => .ok (.bl false)
  | _ => .stuck
def orV (f g : LE → R D) : LE → R D := fun r => do
  match ← f r with
  | .bl true => .ok (.bl true)
  | .bl false => g r
  | _ => .stuck
def notV (f : LE → R D) : LE → R D := fun r => do
  match ← f r with
  | .bl b => .ok (.bl (!b))
  | _ => .stuck
def iteE (c : LE → R Bool) (f g : LE → R D) : LE → R D := fun r => do if (← c r) then f r else g r
section
variable {X : Cx} {G : Gm} {W : WX} {ex a b c : Expr} {rest : List Expr} {f g : LE → R D} {h k : LE → R Bool} {pos : Pos}
theorem dw_and1 (ha : DT X G W a h) : DW X G W (.BoolOp .And [a] pos) h := pw_and1 ha
theorem dw_or1 (ha : DT X G W a h) : DW X G W (.BoolOp .Or [a] pos) h := pw_or1 ha
theorem dw_and (ha : DT X G W a h) (hb : DW X G W (.BoolOp .And (b :: rest) pos) k) : DW X G W (.BoolOp .And (a :: b :: rest) pos) (andT h k) := PW_imp (pw_and ha hb) fun sg H Q ⟨dl, Z, O, r, A, q⟩ => by
  refine ⟨dl, Z, O, r, A, q.bind.thn fun b hb H1 g1 k1 => ?_⟩
  cases b with
  | true => exact ⟨dl, Z, O, r, A.grow g1 k1, hb.mono (fun b q H2 g2 k2 => q H2 (g1.trans g2) k2) fun e => epost g1⟩
  | false => exact hb H1 g1 k1
theorem dw_or (ha : DT X G W a h) (hb : DW X G W (.BoolOp .Or (b :: rest) pos) k) : DW X G W (.BoolOp .Or (a :: b :: rest) pos) (orT h k) := PW_imp (pw_or ha hb) fun sg H Q ⟨dl, Z, O, r, A, q⟩ => by
  refine ⟨dl, Z, O, r, A, q.bind.thn fun b hb H1 g1 k1 => ?_⟩
  cases b with
  | true => exact hb H1 g1 k1
  | false => exact ⟨dl, Z, O, r, A.grow g1 k1, hb.mono (fun b q H2 g2 k2 => q H2 (g1.trans g2) k2) fun e => epost g1⟩
theorem dt_w (h' : DW X G W ex h) : DT X G W ex h := h'.pt
theorem dt_not (ha : DT X G W a h) : DT X G W (.UnaryOp .Not a pos) (notT h) := PT_imp (pt_not ha) fun sg H Q ⟨dl, Z, O, r, A, q⟩ =>
  ⟨dl, Z, O, r, A, q.bind.thn fun b hb H1 g1 k1 => hb H1 g1 k1⟩
theorem de_not (ha : DE X G W a f) : DE X G W (.UnaryOp .Not a pos) (notV f) := PE_imp (pe_not ha) fun sg H Q ⟨dl, Z, O, r, A, q⟩ => by
  refine ⟨dl, Z, O, r, A, q.bind.thn fun d hd v H1 g1 k1 rp => ?_⟩
  split at hd
  · exact ⟨_, (RepP.of rp).bl, hd _ H1 g1 k1 Rep.bl_⟩
  · exact hd.elim
theorem de_if (hc : DT X G W c h) (ha : DE X G W a f) (hb : DE X G W b g) : DE X G W (.IfExp c a b pos) (iteE h f g) := PE_imp (pe_ifExp hc ha hb) fun sg H Q ⟨dl, Z, O, r, A, q⟩ => by
  refine ⟨dl, Z, O, r, A, q.bind.thn fun b hb H1 g1 k1 => ?_⟩
  cases b with
  | true => exact ⟨dl, Z, O, r, A.grow g1 k1, hb.mono (fun d q v H2 g2 k2 => q v H2 (g1.trans g2) k2) fun e => epost g1⟩
  | false => exact ⟨dl, Z, O, r, A.grow g1 k1, hb.mono (fun d q v H2 g2 k2 => q v H2 (g1.trans g2) k2) fun e => epost g1⟩
def chainE (f1 f2 f3 : LE → R D) (g g' : D → D → R D) : LE → R D := fun r => do
  let x ← f1 r
  let y ← f2 r
  match ← g x y with
  | .bl true => do
    let w ← f3 r
    g' y w
  | .bl false => .ok (.bl false)
  | _ => .stuck
theorem chain_core {f1 f2 f3 : LE → R D} {g1 g2 : D → D → R D} {r1 r2 : R2}
    (h1 : ∀ (dl : Addr) (Z : List Addr) (O : List (Nat × Addr)) (r : LE) (sg : L2.St) (x y : D) (vx vy : V) (H : Hp) (Q : VK) (E : Exc → Prop), At G dl Z O r sg H → RepP G dl H Z x vx → RepP G dl H Z y vy →
      Wp (g1 x y) (fun d => ∀ v H', Grow dl H H' → GlOk G dl H' → Rep G dl (cut H' Z) d v → Q v H') E → r1 vx vy H Q)
    (h2 : ∀ (dl : Addr) (Z : List Addr) (O : List (Nat × Addr)) (r : LE) (sg : L2.St) (x y : D) (vx vy : V) (H : Hp) (Q : VK) (E : Exc → Prop), At G dl Z O r sg H → RepP G dl H Z x vx → RepP G dl H Z y vy →
      Wp (g2 x y) (fun d => ∀ v H', Grow dl H H' → GlOk G dl H' → Rep G dl (cut H' Z) d v → Q v H') E → r2 vx vy H Q) {sg : L2.St} {H : Hp} {Q : VK} (h : tD G W (chainE f1 f2 f3 g1 g2) sg H Q) :
    tChain r1 r2 (tP G W f1) (tP G W f2) (tP G W f3) sg H Q := by
  obtain ⟨dl, Z, O, r, A, q⟩ := h
  refine ⟨dl, Z, O, r, A, q.bind.thn fun x hx vx H1 q1 k1 rx => ?_⟩
  have A1 := A.grow q1 k1
  refine ⟨dl, Z, O, r, A1, hx.bind.mono (fun y hy vy H2 q2 k2 ry => ?_) fun e he => epost q1 he⟩
  have A2 := A1.grow q2 k2
  refine h1 dl Z O r sg x y vx vy H2 _ _ A2 (rx.grow A1 q2) ry (hy.bind.thn fun z hz v H3 q3 k3 rz => ?_)
  have A3 := A2.grow q3 k3
  split at hz
  · refine ⟨true, (RepP.of rz).bl, ?_⟩
    rw [if_pos rfl]
    refine ⟨dl, Z, O, r, A3, hz.bind.mono (fun w hw vw H4 q4 k4 rw_ => ?_) fun e he => epost ((q1.trans q2).trans q3) he⟩
    exact h2 dl Z O r sg y w vy vw H4 Q _ (A3.grow q4 k4) ((ry.grow A2 q3).grow A3 q4) rw_ (hw.thn fun d hd v H' g k rp => hd v H' ((((q1.trans q2).trans q3).trans q4).trans g) k rp)
  · refine ⟨false, (RepP.of rz).bl, ?_⟩
    rw [if_neg Bool.false_ne_true]
    exact hz _ H3 ((q1.trans q2).trans q3) k3 Rep.bl_
  · exact hz.elim
theorem dt_chain {op op' : CmpOp} {f1 f2 f3 : LE → R D} {g1 g2 : D → D → R D} (ho : OpD X G (compareOp op) g1) (ho' : OpD X G (compareOp op') g2) (ha : DP X G W a f1) (hb : DP X G W b f2) (hc : DP X G W c f3)
    (hm : lastMarks [op, op'] [b, c] = false := by with_unfolding_all rfl) : DT X G W (.Compare a [op, op'] [b, c] pos) (fun r => chainE f1 f2 f3 g1 g2 r >>= asB) := by
  obtain ⟨r1, h1, h2⟩ := ho
  obtain ⟨r2, h3, h4⟩ := ho'
  exact PT_imp (pt_chain h1 h3 ha hb hc hm) fun sg H Q h => tT_of (t := tChain r1 r2 (tP G W f1) (tP G W f2) (tP G W f3)) (fun sg H Q h => chain_core h2 h4 h) h
end
def anil : LE → R (List D) := fun _ => .ok []
def acons (f : LE → R D) (fs : LE → R (List D)) : LE → R (List D) := fun r => do
  let x ← f r
  let xs ← fs r
  .ok (x :: xs)
def tupE (fs : LE → R (List D)) : LE → R D := fun r => do
  let ds ← fs r
  if ds.length ≤ 16777216 then .ok (.tup ds) else .stuck
def lstE (fs : LE → R (List D)) : LE → R (List D) := fun r => do
  let ds ← fs r
  if ds.length ≤ 16777216 then .ok ds else .stuck
section
variable {X : Cx} {G : Gm} {W : WX} {ex a b c : Expr} {es : List Expr} {f g : LE → R D} {fs : LE → R (List D)} {pos : Pos}
theorem da_nil : DA X G W [] anil := PA_imp pa_nil fun sg H Q ⟨dl, Z, O, r, A, q⟩ => q [] H (.refl _ _) A.gl RepL.nil
theorem da_cons (ha : DE X G W a f) (hs : DA X G W es fs) (hst : starEach (a :: es) X.env = (false, eval a X.env) :: starEach es X.env := by rfl) : DA X G W (a :: es) (acons f fs) := PA_imp (pa_cons ha hs hst) fun sg H Q ⟨dl, Z, O, r, A, q⟩ => by
  refine ⟨dl, Z, O, r, A, q.bind.thn fun x hx v H1 g1 k1 rp => ?_⟩
  refine ⟨dl, Z, O, r, A.grow g1 k1, hx.bind.mono (fun xs hxs vs H2 g2 k2 rl => ?_) fun e => epost g1⟩
  exact hxs (v :: vs) H2 (g1.trans g2) k2 (RepL.cons (rp.mono (g2.cut A.dz)) rl)
theorem de_tup {x1} (h : DA X G W es fs) : DE X G W (.Tuple es x1 pos) (tupE fs) := PE_imp (pe_tup h) fun sg H Q ⟨dl, Z, O, r, A, q⟩ => by
  refine ⟨dl, Z, O, r, A, q.bind.thn fun ds hd vs H1 g1 k1 rl => ?_⟩
  split at hd
  · rename_i hc
    refine ⟨by rw [sizeLine_eq, rl.length]; exact hc, fun p hp => ?_⟩
    exact hd _ _ (g1.trans (.new hp)) (k1.new hp) (Rep.tup_new (A.grow g1 k1) hp rl)
  · exact hd.elim
theorem df_lst (h : DA X G W es fs) : DF X G W (.List es pos) (lstE fs) := PE_imp (pe_lst h) fun sg H Q ⟨dl, Z, O, r, A, q⟩ => by
  refine ⟨dl, Z, O, r, A, q.bind.thn fun ds hd vs H1 g1 k1 rl => ?_⟩
  split at hd
  · rename_i hc
    exact ⟨by rw [sizeLine_eq, rl.length]; exact hc, fun p hp => hd p vs H1 g1 k1 hp rl⟩
  · exact hd.elim
/-- the place of a field: by the class -/
def fldD (fx : Nat → Option Nat) : D → R D
  | .ins c ds => match fx c with
    | some j => match ds[j]? with
      | some d => .ok d
      | none => .stuck
    | none => .stuck
  | _ => .stuck
def ixD : D → D → R D
  | .lst xs, .int i => match atI xs i with
    | some d => .ok d
    | none => .stuck
  | .tup xs, .int i => match atI xs i with
    | some d => .ok d
    | none => .stuck
  | .str s, .int i => if s.length ≤ 16777216 then (match atI s i with
    | some c => .ok (.str [c])
    | none => .stuck) else .stuck
  | _, _ => .stuck
theorem atI_rep {G : Gm} {dl : Addr} {S : Hp} {ds : List D} {vs : List V} {i : Int} {d : D} (rl : RepL G dl S ds vs) (h : atI ds i = some d) : ∃ v, atI vs i = some v ∧ Rep G dl S d v := by
  unfold atI at *
  rw [rl.length]
  cases e : ixN ds.length i with
  | none => rw [e] at h; cases h
  | some j =>
    rw [e] at h
    exact RepL.getD ds vs j d rl h
end
end DL
set_option Elab.async false
set_option linter.all false
set_option maxRecDepth 100000
set_option maxHeartbeats 1000000
namespace LG
open PySem PySem.Spec PyProof.Rows L2
abbrev St := L2.St
/-- the contexts, one behind the other, from v on -/
def ChL : List (Addr × Obj) → Value → Prop
  | [], v => v = .none
  | q :: r, v => v = .ref q.1 ∧ ∃ vs u, q.2.data = .fields vs ∧ vs[2]? = some u ∧ ChL r u
/-- the contexts of an object stand in B, untracked -/
def CtxC (B : Heap) (H : Hp) (o : Obj) : Prop := ∀ vs, o.data = .fields vs → ∃ v cs, vs[2]? = some v ∧ ChL cs v ∧ ∀ q ∈ cs, B.get? q.1 = some q.2 ∧ H q.1 = none
theorem steady_ctxC {B : Heap} {H : Hp} : PXN.Steady1 (CtxC B H) := fun o v h => by
  obtain ⟨c, d, dt, sl⟩ := o
  cases dt with
  | fields vs0 =>
    intro vs e
    have e2 : vs0.setIfInBounds 1 v = vs := Data.fields.inj e
    have e3 : (vs0.setIfInBounds 1 v)[2]? = vs0[2]? := by
      first
      | exact Array.getElem?_setIfInBounds_ne (by decide)
      | simp [Array.getElem?_setIfInBounds]
    rw [← e2, e3]
    exact h vs0 rfl
  | _ =>
    intro vs e
    first
    | exact Data.noConfusion e
    | cases e
/-- what is kept of the exception's object -/
def Zg (B : Heap) (H : Hp) (cls : Value) (d : Option Addr) : Obj → Prop := fun o => o.cls = cls ∧ o.dict = d ∧ CtxC B H o
theorem Zg.steady {B : Heap} {H : Hp} {cls : Value} {d : Option Addr} : PXN.Steady1 (Zg B H cls d) := fun o v h => ⟨PXN.steady_cls o v h.1, PXN.steady_dict o v h.2.1, steady_ctxC o v h.2.2⟩
theorem Zg.ofN {B : Heap} {H : Hp} {cls : Value} {d : Option Addr} {o : Obj} (h : L2N.Zn cls d o) : Zg B H cls d o := ⟨h.1, h.2.1, fun vs e => ⟨.none, [], h.2.2 vs e, rfl, fun q hq => nomatch hq⟩⟩
theorem Zg.zc {B : Heap} {H : Hp} {cls : Value} {d : Option Addr} {o : Obj} (h : Zg B H cls d o) : Zc cls d o := ⟨h.1, h.2.1⟩
theorem Zg.sub {B B' : Heap} {H : Hp} {cls : Value} {d : Option Addr} {o : Obj} (h : Zg B H cls d o) (k : ∀ b u vs, B.get? b = some u → u.data = .fields vs → B'.get? b = some u) : Zg B' H cls d o := by
  refine ⟨h.1, h.2.1, fun vs e => ?_⟩
  obtain ⟨v, cs, h1, h2, h3⟩ := h.2.2 vs e
  refine ⟨v, cs, h1, h2, fun q hq => ⟨?_, (h3 q hq).2⟩⟩
  have fld : ∀ {cs : List (Addr × Obj)} {v : Value}, ChL cs v → ∀ q ∈ cs, ∃ vs, q.2.data = .fields vs := by
    intro cs
    induction cs with
    | nil => intro v _ q hq; cases hq
    | cons p r ih =>
      intro v hc q hq
      obtain ⟨_, vs, u, k1, _, k3⟩ := hc
      rcases List.mem_cons.mp hq with rfl | hq
      · exact ⟨vs, k1⟩
      · exact ih k3 q hq
  obtain ⟨ws, hw⟩ := fld h2 q hq
  exact k _ _ ws (h3 q hq).1 hw
theorem sky_imp {B : Heap} {l : List Env} {a L : Addr} {Z Z' : Obj → Prop} {h : Heap} (z : ∀ o, Z o → Z' o) (x : Sky B l a Z L h) : Sky B l a Z' L h := by
  rcases x with ⟨hB, hn, hl, oe, vs, he, hz, r⟩ | f | ⟨k1, k2, k3, k4⟩
  · exact .inl ⟨hB, hn, hl, oe, vs, he, z _ hz, r⟩
  · exact .inr (.inl (L2H.flyingZ_imp z f))
  · exact .inr (.inr ⟨k1, k2, k3, L2H.tracedZ_imp z k4⟩)
/-- an exception in the air of X: sI is the state without it -/
def XE (X : Cx) (W : WX) (u : Value) (s' : Shared) : Prop :=
  ∃ (a : Addr) (B : Heap) (sI : Shared) (pins : List (Addr × Obj)) (σ : St) (H : Hp) (cls : Value) (d : Option Addr),
    u = .ref a ∧ Inv X pins σ H sI ∧ (∀ b o, sI.heap.get? b = some o → b ∉ frs X.stack → B.get? b = some o) ∧ sI.heap.UpToSlots s'.heap ∧
      Sky B X.stack a (Zg B H cls d) X.env.locals s'.heap ∧ H a = none ∧ s'.os = sI.os ∧ AllBare s'.gens ∧ W cls d σ H
def Takes (X : Cx) (W : WX) : Prop := ∀ u s', XE X W u s' → X.xe u s'
theorem XE.toL2 {X : Cx} {W : WX} {u : Value} {s' : Shared} (x : XE X W u s') : L2.XE X W u s' := by
  obtain ⟨a, B, sI, pins, σ, H, cls, d, e, I, nb, up, sky, r⟩ := x
  exact ⟨a, B, sI, pins, σ, H, cls, d, e, I, nb, up, sky_imp (fun _ z => z.zc) sky, r⟩
theorem XE.ofN {X : Cx} {W : WX} {u : Value} {s' : Shared} (x : L2N.XE X W u s') : XE X W u s' := by
  obtain ⟨a, B, sI, pins, σ, H, cls, d, e, I, nb, up, sky, r⟩ := x
  exact ⟨a, B, sI, pins, σ, H, cls, d, e, I, nb, up, sky_imp (fun _ z => Zg.ofN z) sky, r⟩
theorem Takes.ofL2 {X : Cx} {W : WX} (t : L2.Takes X W) : Takes X W := fun u s' x => t u s' x.toL2
theorem Takes.toN {X : Cx} {W : WX} (t : Takes X W) : L2N.Takes X W := fun u s' x => t u s' (.ofN x)
theorem Takes.imp {X : Cx} {W W' : WX} (t : Takes X W) (h : ∀ c d σ H, W' c d σ H → W c d σ H) : Takes X W' := fun u s' ⟨a, B, sI, pins, σ, H, cls, d, e, I, nb, up, sky, na, os, ag, w⟩ =>
  t u s' ⟨a, B, sI, pins, σ, H, cls, d, e, I, nb, up, sky, na, os, ag, h _ _ _ _ w⟩
/-- behind a call that let an exception out -/
def CX (P : Program) (w : World) (outer : List Env) (H : Hp) (s : Shared) (E : XK) (u : Value) (s' : Shared) : Prop :=
  ∃ (a : Addr) (B : Heap) (H' : Hp) (cls : Value) (d : Option Addr), u = .ref a ∧ HandSPX.FlyingZ B outer a (Zg B H' cls d) s'.heap ∧ HOk P w H' B ∧ UB (frs outer) H H' s.heap B s'.heap ∧ H' a = none ∧ s'.os = s.os ∧ AllBare s'.gens ∧ E cls d H'
theorem CX.toL2 {P : Program} {w : World} {outer : List Env} {H : Hp} {s : Shared} {E : XK} {u : Value} {s' : Shared} (c : CX P w outer H s E u s') : L2.CX P w outer H s E u s' := by
  obtain ⟨a, B, H', cls, d, e, fl, r⟩ := c
  exact ⟨a, B, H', cls, d, e, L2H.flyingZ_imp (fun _ z => z.zc) fl, r⟩
theorem FnOk.weaken {P : Program} {w : World} {K : PySem.W.Frag} {mg : Str → Option Value} {base : Heap} {k : Nat} {f : Addr} {fd : FuncData} {ps : List Str} {sp : Sp} (F : FnOk P w K mg base (CX P w) k f fd ps sp) : FnOk P w K mg base (L2.CX P w) k f fd ps sp :=
  ⟨F.len, fun A outer s H args us vs Q E hr e0 b r h => codeAny_mono (F.run A outer s H args us vs Q E hr e0 b r h) fun r s' q => by
    cases r with
    | ok f => cases f <;> exact q
    | error e => exact CX.toL2 q⟩
section
variable {X : Cx} {pins : List (Addr × Obj)} {σ : St} {H : Hp} {sI s s' : Shared} {B : Heap} {W : WX} {E : XK}
/-- a call's exception is in our air -/
theorem XE.of_call (I : Inv X pins σ H s) (hW : ∀ cls d H', E cls d H' → W cls d σ H') {u : Value} (c : CX X.prog X.w X.stack H s E u s') : XE X W u s' := by
  obtain ⟨a, B, H', cls, d, rfl, fl, hok, ub, na, os, ag, hE⟩ := c
  obtain ⟨G, g1, g2⟩ := restrict s'.heap fun b => (B.get? b).isSome || decide (b ∈ frs X.stack)
  have st : B.StaysIn s'.heap := fl.1
  have inB : ∀ b o, B.get? b = some o → G.get? b = some o := fun b o e => (g1 b (by simp [e])).trans (st b o e)
  have inF : ∀ b, b ∈ frs X.stack → G.get? b = s'.heap.get? b := fun b hb => g1 b (by simp [hb])
  have back : ∀ b o, G.get? b = some o → s'.heap.get? b = some o ∧ ((B.get? b).isSome = true ∨ b ∈ frs X.stack) := fun b o e => by
    cases q : ((B.get? b).isSome || decide (b ∈ frs X.stack)) with
    | false => rw [g2 b q] at e; cases e
    | true => exact ⟨(g1 b q) ▸ e, by simpa [Bool.or_eq_true] using q⟩
  have J : Inv X pins σ H' { s with heap := G, gens := s'.gens, drawn := s'.drawn, toks := s'.toks } := by
    refine I.call (ch := []) ⟨fun b o e n hb _ => inB b o (ub.keep b o e n hb), fun b o e n hb _ => ?_, fun b o e n _ => ub.free b o e n, fun b o e _ => ?_, ub.tups, ub.frzs, ub.tbls⟩ (hok.kept inB) ag (fun _ z => nomatch z)
    · obtain ⟨sl, q⟩ := ub.slot b o e hb
      exact ⟨sl, (inF b hb).trans q⟩
    · by_cases hb : b ∈ frs X.stack
      · obtain ⟨sl, q⟩ := ub.slot b o e hb
        exact ⟨_, (inF b hb).trans q⟩
      · obtain ⟨o', q⟩ := ub.there b o e hb
        exact ⟨o', inB b o' q⟩
  refine ⟨a, B, _, pins, σ, H', cls, d, rfl, J, fun b o e hb => ?_, Heap.UpToSlots.of_keeps fun b o e => (back b o e).1, .inr (.inl fl), na, os, ag, hW _ _ _ hE⟩
  obtain ⟨e', h⟩ := back b o e
  rcases h with h | h
  · obtain ⟨o', q⟩ := Option.isSome_iff_exists.mp h
    have z := st b o' q
    rw [e'] at z; cases z
    exact q
  · exact absurd h hb
/-- a new exception is in our air -/
theorem XE.new {a : Addr} {oe : Obj} {vs : Array Value} {cls : Value} {d : Option Addr} (I : Inv X pins σ H sI) (k : ∀ b o, sI.heap.get? b = some o → s'.heap.get? b = some o) (hne : sI.heap.get? a = none) (he : s'.heap.get? a = some oe)
    (hc : oe.cls = cls) (hdd : oe.dict = d) (hd : oe.data = .fields vs) (h1 : vs[1]? = some .none) {v : Value} {cs : List (Addr × Obj)} (h2 : vs[2]? = some v) (hch : ChL cs v) (hcs : ∀ q ∈ cs, sI.heap.get? q.1 = some q.2 ∧ H q.1 = none ∧ q.1 ∉ frs X.stack)
    (na : H a = none) (os : s'.os = sI.os) (ag : AllBare s'.gens) (w : W cls d σ H) : XE X W (.ref a) s' := by
  refine ⟨a, PySem.W.hideAll sI.heap (frs X.stack), sI, pins, σ, H, cls, d, rfl, I, fun b o e hb => PySem.W.hideAll_get _ e hb, Heap.UpToSlots.of_keeps k,
    .inl ⟨fun b o e => k b o (PySem.W.of_hideAll _ e), ?_, ?_, oe, vs, he, ⟨hc, hdd, fun ws e => ?_⟩, hd, h1⟩, na, os, ag, w⟩
  · cases q : (PySem.W.hideAll sI.heap (frs X.stack)).get? a with
    | none => rfl
    | some o =>
      have z := PySem.W.of_hideAll _ q
      rw [hne] at z; cases z
  · exact Heap.FunFrames.of_keeps (fun b o e _ => ⟨o, k b o e, rfl⟩) (funFrames_none I.stack fun b hb => PySem.W.hideAll_none _ hb)
  · rw [hd] at e
    cases e
    exact ⟨v, cs, h2, hch, fun q hq => ⟨PySem.W.hideAll_get _ (hcs q hq).1 (hcs q hq).2.2, (hcs q hq).2.1⟩⟩
/-- it leaves the def -/
theorem XE.leave (hs : X.stack = X.env :: X.outer) (hf : X.env.frame = some X.env.locals) (hex : X.ex = []) {E₁ : Value → Shared → Prop} (hW : ∀ cls d σ H, W cls d σ H → E cls d H) {u : Value} (x : XE X W u s') :
    wpAny (model X.prog X.w) X.A (leaving X.env u) (fun _ s'' => CX X.prog X.w X.outer X.H_0 X.s_0 E u s'') E₁ s' := by
  obtain ⟨a, B, sI, pins, σ, H, cls, d, rfl, I, nb, up, sky, na, os, ag, w⟩ := x
  have hfr : X.A.frames = some (X.env :: X.outer) := by rw [I.ok.frames, hs]
  have old : ∀ b o, X.s_0.heap.get? b = some o → b ∉ X.fs → b ∉ frs X.stack := fun b o e hb hm =>
    (List.mem_cons.mp (I.stkSub b hm)).elim (fun z => absurd (z ▸ Nat.lt_of_lt_of_le (Heap.lt_size e) I.ok.above) (Nat.lt_irrefl _)) hb
  have nex : ∀ b, b ∉ X.ex := fun b hb => by rw [hex] at hb; cases hb
  have fin : ∀ h', HandSPX.FlyingZ B X.outer a (Zg B H cls d) h' → s'.heap.UpToSlots h' → CX X.prog X.w X.outer X.H_0 X.s_0 E (.ref a) { s' with heap := h' } := fun h' fl up' => by
    refine ⟨a, B, H, cls, d, rfl, fl, I.inGround nb, ⟨fun b o e n hb => nb b o (I.base.keep b o e n hb (nex b)) (old b o e hb), fun b o e hb => ?_, fun b o e n => I.base.free b o e n (nex b), fun b o e hb => ?_, I.base.tups, I.base.frzs, I.base.tbls⟩,
      na, os.trans I.os, ag, hW _ _ _ _ w⟩
    · obtain ⟨_, o₀, e₀, hnf⟩ := I.ok.funs.mem hb
      rw [e] at e₀; cases e₀
      obtain ⟨sl, e1⟩ := I.base.slot b o e (I.ok.frf b hb) hb (nex b)
      obtain ⟨sl2, e2⟩ := up b _ e1 hnf
      obtain ⟨sl3, e3⟩ := up' b _ e2 hnf
      exact ⟨sl3, e3⟩
    · obtain ⟨o', e1⟩ := I.base.there b o e (nex b)
      exact ⟨o', nb b o' e1 (old b o e hb)⟩
  rw [hs] at sky
  rcases sky with ⟨hB, hn, hl, oe, vs, he, hz, hd, h1⟩ | fl | hd
  · exact PXN.leaving_firstZ Zg.steady hfr hl hf he hB hn hd h1 hz fin
  · exact PXN.leaves_onZ Zg.steady hfr hf fl fin
  · exact HandSPX.leaves_heldZ hf hd fin
theorem takes_of (hs : X.stack = X.env :: X.outer) (hf : X.env.frame = some X.env.locals) (hex : X.ex = []) {E₁ : Value → Shared → Prop}
    (hx : X.xe = fun e s' => wpAny (model X.prog X.w) X.A (leaving X.env e) (fun _ s'' => CX X.prog X.w X.outer X.H_0 X.s_0 E e s'') E₁ s') : Takes X (fun cls d _ H => E cls d H) := fun u s' x => by
  rw [hx]
  exact XE.leave (W := fun cls d _ H => E cls d H) (E := E) hs hf hex (fun _ _ _ _ h => h) x
end
theorem passAt {X : Cx} {W : WX} (tk : Takes X W) (σ : St) : PassesAt (CX X.prog X.w) X σ (WE W σ) := fun _ _ _ e s' I c => tk e s' (XE.of_call I (fun _ _ _ h => h) c)
theorem takes0 {X : Cx} : Takes X (fun _ _ _ _ => False) := Takes.ofL2 LamX.takes0
/-- where nothing is handled -/
theorem ps_raise {X : Cx} {W : WX} {e : Expr} {t : St → Hp → XK → Prop} {pos : Pos} (hc : X.calm = true) (tk : Takes X W) (he : L2N.PMk X e t) : PS X (.Raise (some e) none pos) (fun _ σ H => t σ H fun cls d H' => W cls d σ H') := L2N.ps_raise hc tk.toN he
end LG
set_option Elab.async false
set_option linter.all false
set_option maxRecDepth 100000
set_option maxHeartbeats 1000000
namespace LG
open PySem PySem.Spec PyProof.Rows L2 HotX
/-- a chain of n objects from v on, as it stands in B -/
def Chn (B : Heap) : Nat → Value → Prop
  | 0, v => v = .none
  | n + 1, v => ∃ x o vs u, v = .ref x ∧ B.get? x = some o ∧ o.data = .fields vs ∧ vs[2]? = some u ∧ Chn B n u
theorem chn_of {B : Heap} : ∀ {cs : List (Addr × Obj)} {v : Value}, ChL cs v → (∀ q ∈ cs, B.get? q.1 = some q.2) → Chn B cs.length v
  | [], _, h, _ => h
  | q :: r, _, ⟨h1, vs, u, h2, h3, h4⟩, hb => ⟨q.1, q.2, vs, u, h1, hb q List.mem_cons_self, h2, h3, chn_of h4 fun p hp => hb p (List.mem_cons_of_mem _ hp)⟩
section
variable {prog : Program} {w : World} {E : Value → Shared → Prop} {s : Shared}
/-- the chain is walked; slow is never behind its end -/
theorem unchain_go {a : Addr} {B : Heap} (hB : B.StaysIn s.heap) (na : B.get? a = none) : ∀ (k m : Nat) (x y : Addr) (tg : Bool) {A : Around} {R : Result → Shared → Prop}, k ≤ m → Chn B (k + 1) (.ref x) → Chn B (m + 1) (.ref y) → R (.ok (.ret .none)) s →
    codeAny (model prog w) A (.builtin "proto.unchain" ⟨[.ref a, .ref x, .ref y, .bool tg], []⟩) R s := by
  intro k
  induction k with
  | zero =>
    intro m x y tg A R _ hx _ hr
    obtain ⟨x', o, vs, u, e1, e2, e3, e4, e5⟩ := hx
    cases e1
    have e5 : u = .none := e5
    subst e5
    refine codeAny_builtin HotX.entry_unchain ?_
    show wpAny _ _ (field (.ref x) 2 >>= _) _ _ s
    refine wpAny_bind (wpAny_field (hB _ _ e2) e3 e4 ?_)
    rw [if_pos (show (Value.none == Value.none) = true from rfl)]
    first
    | exact wpAny_bind (wpAny_pure (wpAny_pure hr))
    | exact wpAny_bind (wpAny_pure hr)
    | exact wpAny_pure hr
  | succ k ih =>
    intro m x y tg A R hkm hx hy hr
    obtain ⟨x', o, vs, u, e1, e2, e3, e4, e5⟩ := hx
    cases e1
    obtain ⟨x2, o2, vs2, u2, f1, f2, f3, f4, f5⟩ := id e5
    subst f1
    obtain ⟨y', o', vs', u', g1, g2, g3, g4, g5⟩ := id hy
    cases g1
    have nxa : x2 ≠ a := fun z => by rw [z, na] at f2; cases f2
    refine codeAny_builtin HotX.entry_unchain ?_
    show wpAny _ _ (field (.ref x) 2 >>= _) _ _ s
    refine wpAny_bind (wpAny_field (hB _ _ e2) e3 e4 ?_)
    rw [if_neg (show ¬ ((Value.ref x2 == Value.none) = true) from by simp), if_neg (show ¬ ((Value.ref x2 == Value.ref a) = true) from by simp [nxa])]
    by_cases hxy : x2 = y
    · rw [if_pos (show (Value.ref x2 == Value.ref y) = true from by simp [hxy])]
      refine wpAny_bind (wpAny_rule ?_)
      first
      | exact wpAny_bind (wpAny_pure (wpAny_pure hr))
      | exact wpAny_bind (wpAny_pure hr)
      | exact wpAny_pure hr
    · rw [if_neg (show ¬ ((Value.ref x2 == Value.ref y) = true) from by simp [hxy])]
      cases tg with
      | false =>
        rw [if_neg (by decide)]
        refine wpAny_bind (wpAny_pure ?_)
        refine wpAny_pure ⟨by first | kernel_rfl | decide | (simp [Code.quiet]; decide), ?_⟩
        exact ih m x2 y true (Nat.le_of_succ_le hkm) e5 hy hr
      | true =>
        rw [if_pos rfl]
        refine wpAny_bind (wpAny_field (hB _ _ g2) g3 g4 ?_)
        obtain ⟨m', rfl⟩ : ∃ m', m = m' + 1 := ⟨m - 1, by omega⟩
        obtain ⟨y2, o3, vs3, u3, k1, k2, k3, k4, k5⟩ := id g5
        subst k1
        refine wpAny_pure ⟨by first | kernel_rfl | decide | (simp [Code.quiet]; decide), ?_⟩
        exact ih m' x2 y2 false (by omega) e5 g5 hr
theorem raiseNew_chain {α : Type} {A : Around} {a x1 : Addr} {n : Nat} {oe : Obj} {vs : Array Value} {B : Heap} {Q : α → Shared → Prop} (hh : A.handled = some (.ref x1)) (hB : B.StaysIn s.heap) (na : B.get? a = none) (hc : Chn B (n + 1) (.ref x1)) (ha : s.heap.get? a = some oe) (da : oe.data = .fields vs) (hi : 2 < vs.size)
    (hE : E (.ref a) { s with heap := s.heap.update a (Obj.mapFields (·.setIfInBounds 2 (.ref x1))) }) : wpAny (model prog w) A (raiseNew (.ref a) : Sem α) Q E s := by
  have hne : x1 ≠ a := fun z => by
    obtain ⟨x', o, _, _, e1, e2, _⟩ := hc
    cases e1
    rw [z, na] at e2; cases e2
  unfold raiseNew
  refine wpAny_bind (wpAny_handled ?_)
  rw [hh]
  have un : ∀ {Q' : Value → Shared → Prop}, Q' .none s → wpAny (model prog w) A (holding [Value.ref a] (runValue (.builtin "proto.unchain" ⟨[.ref a, .ref x1, .ref x1, .bool false], []⟩))) Q' E s := fun {Q'} q =>
    wpAny_holding (wpAny_runValue (unchain_go hB na n n x1 x1 false (Nat.le_refl _) hc hc q))
  have hb : (Value.ref x1 != Value.ref a) = true := ref_bne hne
  first
  | (show wpAny _ _ (if (Value.ref x1 != Value.ref a) = true then _ else _) _ _ _
     rw [if_pos hb]
     first
     | exact wpAny_bind (un (wpAny_bind (chained ha da hi (wpAny_throw hE))))
     | exact wpAny_bind (wpAny_bind (un (chained ha da hi (wpAny_throw hE)))))
  | (refine wpAny_bind ?_
     show wpAny _ _ (if (Value.ref x1 != Value.ref a) = true then _ else _) _ _ _
     rw [if_pos hb]
     exact wpAny_bind (un (chained ha da hi (wpAny_throw hE))))
theorem raise_made_chain {A : Around} {env : Env} {x : Sem Value} {Q : Flow → Shared → Prop} {x1 : Addr} (hh : A.handled = some (.ref x1))
    (h : wpAny (model prog w) A x (fun v s₁ => ∃ a oe vs cls, v = .ref a ∧ s₁.heap.get? a = some oe ∧ oe.cls = cls ∧ oe.data = .fields vs ∧ vs[1]? = some .none ∧ 2 < vs.size ∧ (∃ B n, B.StaysIn s₁.heap ∧ B.get? a = none ∧ Chn B (n + 1) (.ref x1)) ∧
      PySem.W.Looks (model prog w) s₁.heap (isSubtype cls (.type "BaseException")) true ∧ PySem.W.Looks (model prog w) s₁.heap (typeOf cls) (.type "type") ∧ E (.ref a) { s₁ with heap := s₁.heap.update a (Obj.mapFields (·.setIfInBounds 2 (.ref x1))) }) E s) :
    wpAny (model prog w) A (raiseStmt env (some x) none) Q E s := by
  unfold raiseStmt
  dsimp only
  refine wpAny_bind (wpAny_mono h (fun v s₁ h₁ => ?_) fun _ _ x => x)
  obtain ⟨a, oe, vs, cls, rfl, ha, hcls, hd, h1, hi, ⟨B, n, hB, na, hc⟩, L1, L3, hE⟩ := h₁
  have LT : PySem.W.Looks (model prog w) s₁.heap (typeOf (.ref a)) cls := fun A Q E s k q => wpAny_typeOf_ref (k _ _ ha) (by rw [hcls]; exact q)
  have LI : PySem.W.Looks (model prog w) s₁.heap (isInstance (.ref a) (.type "BaseException")) true := LT.andThen L1
  have hnt : ∀ {Q' : Bool → Shared → Prop}, Q' false s₁ → wpAny (model prog w) A (isType (.ref a)) Q' E s₁ := by
    intro Q' hq
    simp only [isType, loadHead]
    refine wpAny_bind (wpAny_loadPart ha ?_)
    rw [hd]; exact wpAny_pure hq
  refine wpAny_bind (wpAny_pure ?_)
  dsimp only
  refine wpAny_bind (wpAny_holding ?_)
  unfold excFromValue isExcClass
  refine wpAny_bind (wpAny_bind (hnt ?_))
  simp only [Bool.false_eq_true, if_false]
  refine wpAny_pure ?_
  simp only [Bool.false_eq_true, if_false]
  refine wpAny_bind (LI.here ?_)
  simp only [if_true]
  refine wpAny_pure ?_
  refine wpAny_bind (hnt ?_)
  simp only [Bool.false_eq_true, if_false]
  unfold raisedInstance
  refine wpAny_bind (wpAny_bind (LT.here (wpAny_bind (L3.here ?_))))
  rw [if_pos (beq_self_eq_true _)]
  refine wpAny_pure ?_
  unfold setFlight
  refine wpAny_bind (wpAny_bind (wpAny_field ha hd h1 ?_))
  rw [if_neg (by decide)]
  refine wpAny_pure ?_
  exact raiseNew_chain hh hB na hc ha hd hi hE
end
/-- the context bears the handled exception with its chain -/
def HotG (X : Cx) : Prop := ∃ (p : Addr × Obj) (ps : List (Addr × Obj)), X.A.handled = some (.ref p.1) ∧ ChL (p :: ps) (.ref p.1) ∧ ∀ q ∈ p :: ps, q ∈ X.pn
theorem ps_raiseG {X : Cx} {W : WX} {e : Expr} {t : St → Hp → XK → Prop} {pos : Pos} (hc : HotG X) (tk : Takes X W) (he : L2N.PMk X e t) : PS X (.Raise (some e) none pos) (fun _ σ H => t σ H fun cls d H' => W cls d σ H') := by
  refine ⟨fun pins s σ H D I h => ?_⟩
  obtain ⟨p, ps, hh, hch, hin⟩ := hc
  show wpAny _ _ (do standAt pos; raiseStmt X.env (some (do let v ← eval e X.env; standAt pos; pure v)) none) _ _ _
  refine wpAny_bind (wpAny_standAt (raise_made_chain hh (wpAny_bind (wpAny_mono (he pins s σ H _ I h) (fun u s1 hu => wpAny_bind (wpAny_standAt (wpAny_pure ?_))) fun _ _ x => x))))
  obtain ⟨a, oe, vs, sI, H', cls, d, rfl, J, k, hne, ha, hz, hd, h1, na, os, ag, r, q⟩ := hu
  obtain ⟨r1, r2⟩ := r (model X.prog X.w) s1.heap (J.kIn.keeps k)
  have pin : ∀ q ∈ p :: ps, sI.heap.get? q.1 = some q.2 ∧ H' q.1 = none ∧ q.1 ∉ frs X.stack := fun q hq => by
    have P := J.pin q (List.mem_append_left _ (hin q hq))
    exact ⟨P.1, P.2.1, fun hm => (List.mem_cons.mp (J.stkSub q.1 hm)).elim P.2.2.1 P.2.2.2.1⟩
  have hi : 2 < vs.size := (Array.getElem?_eq_some_iff.mp (hz.2.2 vs hd)).1
  have e1 : (vs.setIfInBounds 2 (Value.ref p.1))[1]? = some Value.none := by
    have e3 : (vs.setIfInBounds 2 (Value.ref p.1))[1]? = vs[1]? := by
      first
      | exact Array.getElem?_setIfInBounds_ne (by decide)
      | simp [Array.getElem?_setIfInBounds]
    rw [e3]
    exact h1
  have e2 : (vs.setIfInBounds 2 (Value.ref p.1))[2]? = some (Value.ref p.1) := by
    first
    | exact Array.getElem?_setIfInBounds_self_of_lt hi
    | simp [Array.getElem?_setIfInBounds, hi]
  refine ⟨a, oe, vs, cls, rfl, ha, hz.1, hd, h1, hi, ⟨sI.heap, ps.length, k, hne, chn_of hch fun q hq => (pin q hq).1⟩, r1, r2, tk _ _ (XE.new J (fun b u z => ?_) hne (Heap.get?_update_self _ ha (Obj.isFreed_of_fields (Obj.data_mapFields hd _))) ((Obj.cls_mapFields ..).trans hz.1) ((HandSPX.dict_mapFields ..).trans hz.2.1) (Obj.data_mapFields hd _) e1 e2 hch pin na os ag q)⟩
  have nab : a ≠ b := fun y => by
    rw [← y, hne] at z
    cases z
  show (s1.heap.update a (Obj.mapFields (·.setIfInBounds 2 (.ref p.1)))).get? b = some u
  rw [Heap.get?_update_other _ _ nab]
  exact k b u z
end LG
set_option Elab.async false
set_option linter.all false
set_option maxRecDepth 100000
set_option maxHeartbeats 1000000
namespace LG
open PySem PySem.Spec PyProof.Rows L2
abbrev suiteX (X : Cx) (a : Addr) (pn : List (Addr × Obj)) : Cx := { X with A := X.A.mark (some (.ref a)), calm := false, pn := pn }
section
variable {X : Cx} {pins : List (Addr × Obj)} {σ : St} {H : Hp} {s : Shared}
theorem ok_suite (ok : X.Ok) (a : Addr) (pn : List (Addr × Obj)) : (suiteX X a pn).Ok :=
  ⟨ok.mod, ok.kind, ok.glob, ok.blt, ok.above, ok.inj, ok.has, ok.cab, (fun z => absurd (show false = true from z) Bool.false_ne_true), ok.frames, ok.stk, ok.exf, ok.bs, ok.bsz, ok.noex, ok.exfs, ok.funs, ok.frf⟩
theorem inv_suite {a : Addr} {pn : List (Addr × Obj)} (I : Inv X pins σ H s) (h : ∀ q ∈ pn, s.heap.get? q.1 = some q.2 ∧ H q.1 = none ∧ q.1 ≠ X.env.locals ∧ q.1 ∉ X.fs ∧ ∀ v, q.2.data ≠ .cell v) : Inv (suiteX X a pn) [] σ H s :=
  ⟨ok_suite I.ok a pn, I.os, I.bare, I.base, I.loc, I.cell, I.free, I.freeC, fun p hp => h p (by rw [List.append_nil] at hp; exact hp), I.hok, I.len⟩
theorem inv_unsuite {a : Addr} {pn pn' : List (Addr × Obj)} (ok : X.Ok) (hs : ∀ q ∈ X.pn ++ pins, q ∈ pn) (I : Inv (suiteX X a pn) pn' σ H s) : Inv X pins σ H s :=
  ⟨ok, I.os, I.bare, I.base, I.loc, I.cell, I.free, I.freeC, fun p hp => I.pin p (List.mem_append_left _ (hs p hp)), I.hok, I.len⟩
end
theorem chl_fld : ∀ {cs : List (Addr × Obj)} {v : Value}, ChL cs v → ∀ q ∈ cs, ∃ vs, q.2.data = .fields vs
  | [], _, _, q, hq => nomatch hq
  | p :: r, _, ⟨_, vs, u, k1, _, k3⟩, q, hq => by
    rcases List.mem_cons.mp hq with rfl | hq
    · exact ⟨vs, k1⟩
    · exact chl_fld k3 q hq
inductive HdsOk (X : Cx) (Wout : WX) : List ExceptHandler → List (Value × (Addr → Value → Option Addr → TS)) → Prop
  | nil : HdsOk X Wout [] []
  | cons {x : Str} {c : Value} {ts : Addr → Value → Option Addr → TS} {b₀ : Stmt} {suite : List Stmt} {np pos' : Pos} {hds : List ExceptHandler} {l : List (Value × (Addr → Value → Option Addr → TS))} (hc : Names X x c)
      (hsu : ∀ (a : Addr) (cls : Value) (d : Option Addr) (pn : List (Addr × Obj)), HotG (suiteX X a pn) → Takes (suiteX X a pn) Wout → PSs (suiteX X a pn) (b₀ :: suite) (ts a cls d)) (r : HdsOk X Wout hds l) :
      HdsOk X Wout (.ExceptHandler (some (.Name x np)) none (b₀ :: suite) pos' :: hds) ((c, ts) :: l)
section
variable {X : Cx} {body : List Stmt} {h₀ : ExceptHandler} {hds : List ExceptHandler} {l : List (Value × (Addr → Value → Option Addr → TS))} {pos : Pos} {tb : WX → TS} {Wout : WX}
theorem ps_try_many (hs : X.stack = X.env :: X.outer) (hf : X.env.frame = some X.env.locals) (hpa : ∀ hd : Option Value, PassesOwnAt (model X.prog X.w) (X.A.mark hd) X.A X.env X.xe) (tk : Takes X Wout)
    (hb : ∀ (W : WX) (pn : List (Addr × Obj)) (xe : Value → Shared → Prop), Takes (X.tr pn xe) W → PassesOwn (model X.prog X.w) X.A X.env xe → PSs (X.tr pn xe) body (tb W))
    (hh : HdsOk X Wout (h₀ :: hds) l) : PS X (.Try body (h₀ :: hds) [] [] pos) (fun D σ H => tb (wMany X.K Wout D l) D σ H) := by
  refine ⟨fun pins s σ H D I h => ?_⟩
  have ok := I.ok
  have hfr : X.A.frames = some (X.env :: X.outer) := by rw [ok.frames, hs]
  refine wpAny_Try_except ?_
  refine wpAny_mono ((hb (wMany X.K Wout D l) (X.pn ++ pins) (fun e s₁ => wpAny (model X.prog X.w) X.A (noteFrame e X.env) (fun _ s₂ => wpAny (model X.prog X.w) X.A (setFlight e none) (fun _ s₃ =>
    wpAny (model X.prog X.w) X.A (handleBy e X.env (h₀ :: hds)) (SP X pins D) X.xe s₃) X.xe s₂) X.xe s₁) (fun u s' xx => ?_) PassesOwn.looking).run [] s σ H D (I.toTry _) h) (fun f s1 hsp => ?_) (fun e s1 he => he)
  · obtain ⟨a, B, sI, pins', σ', H', cls, d, rfl, J', nb, up, sky, na, os, ag, w⟩ := xx
    have J : Inv X pins σ' H' sI := J'.ofTry ok
    have sky' : Sky B (X.env :: X.outer) a (Zg B H' cls d) X.env.locals s'.heap := by rw [← hs]; exact sky
    show wpAny (model X.prog X.w) X.A (noteFrame (.ref a) X.env) _ _ _
    refine L2N.Sky.land Zg.steady hfr hf sky' fun h3 fl3 up3 => ?_
    have offFr : ∀ {h : Heap} {b : Addr} {o : Obj} {vs : Array Value}, h.FunFrames B (X.env :: X.outer) → h.get? b = some o → o.data = .fields vs → b ≠ X.env.locals ∧ b ∉ X.fs := fun {h b o vs} ff e dd => by
      have nf : b ∉ frs (X.env :: X.outer) := fun hm => by
        obtain ⟨_, o', e', hnf⟩ := ff.mem hm
        rw [e] at e'; cases e'
        exact hnf _ dd
      refine ⟨fun z => nf (List.mem_filterMap.mpr ⟨X.env, List.mem_cons_self, by rw [hf, z]⟩), fun hm => ?_⟩
      obtain ⟨e, he, q⟩ := List.mem_filterMap.mp hm
      exact nf (List.mem_filterMap.mpr ⟨e, List.mem_cons_of_mem _ he, q⟩)
    have J3 : Inv X pins σ' H' { s' with heap := h3 } := J.landed nb fl3.1 (up.trans up3) os ag
    -- the suite's state
    have land : ∀ {h4 : Heap}, HandSPX.FlyingZ B (X.env :: X.outer) a (Zg B H' cls d) h4 → Inv X pins σ' H' { s' with heap := h4 } → ∃ pn, (∀ q ∈ X.pn ++ pins, q ∈ pn) ∧ HotG (suiteX X a pn) ∧ Inv (suiteX X a pn) [] σ' H' { s' with heap := h4 } := by
      intro h4 fl4 J4
      obtain ⟨oe4, vs4, he4, hz4, hd4⟩ := fl4.there
      obtain ⟨v, cs, c1, c2, c3⟩ := hz4.2.2 vs4 hd4
      have hch : ChL ((a, oe4) :: cs) (.ref a) := ⟨rfl, vs4, v, hd4, c1, c2⟩
      have hall : ∀ q ∈ (a, oe4) :: cs, h4.get? q.1 = some q.2 ∧ H' q.1 = none := fun q hq => by
        rcases List.mem_cons.mp hq with rfl | hq
        · exact ⟨he4, na⟩
        · exact ⟨fl4.1 _ _ (c3 q hq).1, (c3 q hq).2⟩
      refine ⟨((a, oe4) :: cs) ++ (X.pn ++ pins), fun q hq => List.mem_append_right _ hq, ⟨(a, oe4), cs, rfl, hch, fun q hq => List.mem_append_left _ hq⟩, inv_suite J4 fun q hq => ?_⟩
      rcases List.mem_append.mp hq with hq | hq
      · obtain ⟨ws, hw⟩ := chl_fld hch q hq
        have P := offFr fl4.2.2.1 (hall q hq).1 hw
        exact ⟨(hall q hq).1, (hall q hq).2, P.1, P.2, fun v z => by rw [hw] at z; cases z⟩
      · exact J4.pin q hq
    obtain ⟨oe3, vs3, he3, hz3, hd3⟩ := fl3.there
    obtain ⟨pn3, _, _, S3⟩ := land fl3 J3
    have go : ∀ {hds' : List ExceptHandler} {l' : List (Value × (Addr → Value → Option Addr → TS))}, HdsOk X Wout hds' l' → wMany X.K Wout D l' cls d σ' H' →
        wpAny (model X.prog X.w) X.A (handleBy (.ref a) X.env hds') (SP X pins D) X.xe { s' with heap := h3 } := by
      intro hds' l' hk
      induction hk with
      | nil =>
        intro w
        refine wpAny_handleBy_nil ?_
        obtain ⟨k1, k2, k3, oe, vs, T, oT, ts', he, hz, hd, h1, hr⟩ := id fl3
        unfold PySem.passOn
        refine wpAny_bind (wpAny_field he hd h1 ?_)
        rw [if_neg (show ¬ ((Value.ref T == Value.none) = true) from by simp)]
        have fin : wpAny (model X.prog X.w) X.A (setFlight (.ref a) X.env.frame) (fun _ s4 => wpAny (model X.prog X.w) X.A (throw (.ref a) : Sem Flow) (SP X pins D) X.xe s4) X.xe { s' with heap := h3 } := by
          rw [hf]
          refine HandSPX.setFlight_upZ fl3 fun h4 hh4 up4 => wpAny_throw (tk _ _ ?_)
          exact ⟨a, B, sI, pins, σ', H', cls, d, rfl, J, nb, (up.trans up3).trans up4, .inr (.inr (by rw [hs]; exact hh4)), na, os, ag, w⟩
        first
          | exact wpAny_bind (wpAny_pure (wpAny_bind fin))
          | exact wpAny_bind fin
      | @cons x c ts b₀ suite np pos' hds2 l2 hc hsu r ih =>
        intro w
        obtain ⟨b, hb1, hyes, hno⟩ := w
        refine wpAny_handleBy_cons (codeAny_handlers_test ?_) (by intro q; cases q)
        have LT : PySem.W.Looks (model X.prog X.w) h3 (typeOf (.ref a)) cls := fun A Q E s k q => wpAny_typeOf_ref (k _ _ he3) (by rw [hz3.1]; exact q)
        have LM := PySem.W.exm_one (M := model X.prog X.w) (J3.kIn) LT hb1
        have test : ∀ {Q : Value → Shared → Prop} {E : Value → Shared → Prop}, Q c { s' with heap := h3 } → wpAny (model X.prog X.w) (X.A.mark (some (.ref a))) (eval (.Name x np) X.env) Q E { s' with heap := h3 } := fun {Q E} q => by
          obtain ⟨hg, hdbg, hm | ⟨hm, hv, hnn⟩⟩ := hc
          · exact ld_glob (X := suiteX X a pn3) S3 hg hm q hdbg
          · exact ld_blt (X := suiteX X a pn3) S3 hg hm hv q hnn hdbg
        refine test (LM.here ?_)
        cases b with
        | true =>
          refine codeAny_handlers_suite ?_
          refine HandSPX.lands_againZ fl3 fun h4 fl4 up4 => ?_
          obtain ⟨pn4, sub4, hot4, S4⟩ := land fl4 (J.landed nb fl4.1 ((up.trans up3).trans up4) os ag)
          have tk4 : Takes (suiteX X a pn4) Wout := fun u2 s2 ⟨a2, B2, sI2, pn2, σ2, H2, cls2, d2, e2, I2, r2⟩ => tk u2 s2 ⟨a2, B2, sI2, pins, σ2, H2, cls2, d2, e2, inv_unsuite ok sub4 I2, r2⟩
          refine wpAny_mono ((hsu a cls d pn4 hot4 tk4).run [] _ _ H' _ S4 (hyes rfl a na)) (fun f s6 hsp => ?_) (fun e6 s6 z => hpa (some (.ref a)) e6 s6 z)
          cases f with
          | next =>
            obtain ⟨σ6, H6, S6, q6⟩ := hsp
            exact ⟨_, _, inv_unsuite ok sub4 S6, q6⟩
          | brk =>
            obtain ⟨σ6, H6, S6, q6⟩ := hsp
            exact ⟨_, _, inv_unsuite ok sub4 S6, q6⟩
          | cont =>
            obtain ⟨σ6, H6, S6, q6⟩ := hsp
            exact ⟨_, _, inv_unsuite ok sub4 S6, q6⟩
          | ret u =>
            obtain ⟨v6, σ6, H6, S6, r6, q6⟩ := hsp
            exact ⟨_, _, _, inv_unsuite ok sub4 S6, r6, q6⟩
        | false =>
          show wpAny _ X.A (handleBy (.ref a) X.env hds2) _ _ _
          exact ih (hno rfl)
    exact go hh w
  · cases f with
    | next =>
      obtain ⟨σ', H', J', q⟩ := hsp
      exact wpAny_execs_nil ⟨σ', H', J'.ofTry ok, q⟩
    | brk =>
      obtain ⟨σ', H', J', q⟩ := hsp
      exact ⟨σ', H', J'.ofTry ok, q⟩
    | cont =>
      obtain ⟨σ', H', J', q⟩ := hsp
      exact ⟨σ', H', J'.ofTry ok, q⟩
    | ret u =>
      obtain ⟨v, σ', H', J', r, q⟩ := hsp
      exact ⟨v, σ', H', J'.ofTry ok, r, q⟩
end
end LG
namespace DL
open PySem L2
abbrev Takes (X : Cx) (W : WX) : Prop := LG.Takes X W
abbrev XE (X : Cx) (W : WX) (u : Value) (s' : Shared) : Prop := LG.XE X W u s'
theorem passAt {X : Cx} {W : WX} (tk : Takes X W) (σ : L2.St) : PassesAt (LG.CX X.prog X.w) X σ (WE W σ) := LG.passAt tk σ
end DL
set_option Elab.async false
set_option linter.all false
set_option maxRecDepth 100000
namespace DL
open PySem L2 PySem.Spec PyProof.Rows
abbrev Live (Z : List Addr) (H : Hp) : Prop := ∀ a ∈ Z, ∃ o, H a = some o ∧ NT o
/-- a def's promise: it comes to g of what its arguments are -/
def spD (G : Gm) (n : Nat) (g : List D → R D) : Sp := fun vs H Q E => vs.length = n ∧ ∃ dl Z ds, GlOk G dl H ∧ dl ∈ Z ∧ Live Z H ∧ RepL G dl (cut H Z) ds vs ∧
  Wp (g ds) (fun d => ∀ v H', Grow dl H H' → GlOk G dl H' → Rep G dl (cut H' Z) d v → Q v H')
    (fun e => ∀ cls dx H', Grow dl H H' → GlOk G dl H' → XRep G dl (cut H' Z) e cls dx H' → E cls dx H')
section
variable (P : Program) (w : World) (K : PySem.W.Frag) (mg : Str → Option Value) (base : Heap)
structure FnD (G : Gm) (k : Nat) (x : Str) (f : Addr) (n : Nat) (g : List D → R D) : Prop where
  ex : ∃ (fd : FuncData) (ps : List Str), ps.length = n ∧ FnOk P w K mg base (LG.CX P w) k f fd ps (spD G n g) ∧ Binds K fd ps []
  len : ∀ ds Q E, Wp (g ds) Q E → ds.length = n
  kp : PySem.W.keepIn K (.ref f) = true
  at_ : mg x = some (.ref f)
end
section
variable {X : Cx} {G : Gm} {W : WX} {ex o : Expr} {es : List Expr} {f : LE → R D} {fs : LE → R (List D)} {g : List D → R D} {pos apos p : Pos} {x m : Str} {k n c : Nat} {fa : Addr}
theorem call_core (hl : ∀ ds Q E, Wp (g ds) Q E → ds.length = n) {sg : L2.St} {H : Hp} {Q : VK} (h : tD G W (fun r => fs r >>= g) sg H Q) : tCallS (spD G n g) (WE W) (tA G W fs) sg H Q := by
  obtain ⟨dl, Z, O, r, A, q⟩ := h
  refine ⟨dl, Z, O, r, A, q.bind.thn fun ds hd vs H1 g1 k1 rl => ?_⟩
  refine ⟨by rw [rl.length]; exact hl ds _ _ hd, dl, Z, ds, k1, A.dz, (A.grow g1 k1).live, rl, ?_⟩
  exact hd.mono (fun d q v H2 g2 k2 rp => q v H2 (g1.trans g2) k2 rp) fun e he cls dx H2 g2 k2 xr => he cls dx H2 (g1.trans g2) k2 xr
theorem de_call (F : FnD X.prog X.w X.K X.mg X.base G k x fa n g) (hr : Room k X.A) (tk : Takes X W) (ha : DA X G W (ex :: es) fs) (hg : Gl X x := by rfl)
    (hdb : (x == ("__debug__" : Str)) = false := by decide) (he : starEach (ex :: es) X.env = (false, eval ex X.env) :: starEach es X.env := by rfl) (hpl : (backTo pos (starEach es X.env)).any (·.1) = false := by rfl) :
    DE X G W (.Call (.Name x p) (ex :: es) [] pos) (fun r => fs r >>= g) := by
  obtain ⟨⟨fd, ps, hn, ok, hb⟩, hl, kp, hm⟩ := F
  exact PE_imp (pe_callS ok hr hg hm kp hb (fun sg => passAt tk sg) ha hdb he hpl) fun sg H Q h => call_core hl h
/-- the receiver is of the class c -/
def isC (c : Nat) : D → R D
  | .ins c' fs => if c' = c then .ok (.ins c fs) else .stuck
  | _ => .stuck
end
end DL
set_option Elab.async false
set_option linter.all false
set_option maxRecDepth 100000
namespace DL
open PySem L2 PySem.Spec PyProof.Rows
/-- an expression's result in a statement: what is raised ends it -/
def R.onS {α : Type} : R α → LE → (α → R Out) → R Out
  | .ok a, _, k => k a
  | .err e, r, _ => .ok (.ex e r)
  | .stuck, _, _ => .stuck
  | .roll m f, r, k => .roll m fun i => (f i).onS r k
section
variable {α : Type}
@[simp] theorem onS_ok (a : α) (r : LE) (k : α → R Out) : (R.ok a).onS r k = k a := rfl
@[simp] theorem onS_err (e : Exc) (r : LE) (k : α → R Out) : (R.err e : R α).onS r k = .ok (.ex e r) := rfl
@[simp] theorem onS_stuck (r : LE) (k : α → R Out) : (R.stuck : R α).onS r k = .stuck := rfl
@[simp] theorem onS_roll (m : Nat) (f : Nat → R α) (r : LE) (k : α → R Out) : (R.roll m f).onS r k = .roll m fun i => (f i).onS r k := rfl
theorem onS_wp {Q : Out → Prop} {E : Exc → Prop} {r : LE} {k : α → R Out} : ∀ {m : R α}, Wp (m.onS r k) Q E → Wp m (fun a => Wp (k a) Q E) (fun e => Q (.ex e r))
  | .ok _, h => h
  | .err _, h => h
  | .stuck, h => h
  | .roll _ _, h => fun i hi => onS_wp (h i hi)
end
def skipS : LE → R Out := fun r => .ok (.nx r)
def seqS (F K : LE → R Out) : LE → R Out := fun r => do
  match ← F r with
  | .nx r' => K r'
  | o => .ok o
def retS (f : LE → R D) : LE → R Out := fun r => (f r).onS r fun d => .ok (.rt d)
def dropS (f : LE → R D) : LE → R Out := fun r => (f r).onS r fun _ => .ok (.nx r)
def ifS (c : LE → R Bool) (F K : LE → R Out) : LE → R Out := fun r => (c r).onS r fun b => if b then F r else K r
def frz (i : Nat) (r : LE) : LE := match r[i]? with
  | some (.own (.lst ds)) => r.set i (.val (.lst ds))
  | some (.own (.dic ds)) => r.set i (.val (.dic ds))
  | some (.own (.tdic ds)) => r.set i (.val (.tdic ds))
  | _ => r
section
variable {G : Gm} {dl : Addr} {Z : List Addr} {O : List (Nat × Addr)} {r : LE} {sg : L2.St} {H H1 : Hp} {W : WX} {d : D} {v : V} {De : Ends}
/-- an expression's error, in a statement -/
theorem spost_ex (A : At G dl Z O r sg H) {e : Exc} (h : SPost G W De dl Z O H (.ex e r)) : ∀ cls dx H', Grow dl H H' → GlOk G dl H' → XRep G dl (cut H' Z) e cls dx H' → W cls dx sg H' :=
  fun cls dx H' g k x => h Z O sg H' cls dx (Stp.of_grow g k) (A.grow g k) x
theorem set_get {α : Type} {l : List α} {i j : Nat} {a b : α} (h : (l.set i a)[j]? = some b) : (j = i ∧ b = a ∧ i < l.length) ∨ (j ≠ i ∧ l[j]? = some b) := by
  by_cases e : i = j
  · subst e
    by_cases q : i < l.length
    · rw [List.getElem?_set_self q] at h
      exact .inl ⟨rfl, (Option.some.inj h).symm, q⟩
    · rw [List.getElem?_eq_none (by simpa using q)] at h; cases h
  · rw [List.getElem?_set_ne e] at h
    exact .inr ⟨fun z => e z.symm, h⟩
theorem At.set_val (A : At G dl Z O r sg H) (i : Nat) (rp : Rep G dl (cut H Z) d v) : At G dl Z O (r.set i (.val d)) (sg.set i (some v)) H := by
  refine ⟨A.gl, A.dz, A.live, A.own, A.inj, by rw [List.length_set, List.length_set, A.len], fun j c e => ?_⟩
  rcases set_get e with ⟨rfl, rfl, hl⟩ | ⟨hn, e2⟩
  · exact ⟨v, List.getElem?_set_self (by rw [← A.len]; exact hl), rp⟩
  · rw [List.getElem?_set_ne (fun z => hn z.symm)]
    exact A.slot j c e2
theorem At.set_un (A : At G dl Z O r sg H) (i : Nat) (x : Option V) : At G dl Z O (r.set i .un) (sg.set i x) H := by
  refine ⟨A.gl, A.dz, A.live, A.own, A.inj, by rw [List.length_set, List.length_set, A.len], fun j c e => ?_⟩
  rcases set_get e with ⟨rfl, rfl, hl⟩ | ⟨hn, e2⟩
  · trivial
  · rw [List.getElem?_set_ne (fun z => hn z.symm)]
    exact A.slot j c e2
theorem cut_new {p : Addr} {o : HO} (h : H p = none) : GrowS (cut H Z) (cut (upd H p o) (p :: Z)) := fun b u e n => by
  obtain ⟨e1, e2⟩ := cut_some e
  have hb : b ≠ p := ne_of_none e2 h
  rw [cut_out (by simp only [List.mem_cons, not_or]; exact ⟨hb, e1⟩), upd_ne hb]
  exact e2
theorem At.set_own (A : At G dl Z O r sg H) (i : Nat) {p : Addr} {o : HO} (hp : H p = none) (ow : OwnAt G dl (cut H Z) d (some o)) (hk : kee i d = i ∧ keeOk i d) : At G dl (p :: Z) ((i, p) :: O) (r.set i (.own d)) (sg.set i (some (.ref p))) (upd H p o) := by
  obtain ⟨u, hu, nt⟩ := ow.notTbl
  cases hu
  refine ⟨A.gl.new hp, List.mem_cons_of_mem _ A.dz, fun a ha => ?_, fun q hq => ?_, fun q hq q' hq' e => ?_, by rw [List.length_set, List.length_set, A.len], fun j c e => ?_⟩
  · rcases List.mem_cons.mp ha with rfl | ha
    · exact ⟨o, upd_same, nt⟩
    · obtain ⟨u, e, n⟩ := A.live a ha
      exact ⟨u, by rw [upd_ne (ne_of_none e hp)]; exact e, n⟩
  · rcases List.mem_cons.mp hq with rfl | hq
    · exact ⟨List.mem_cons_self, A.notdl hp⟩
    · exact ⟨List.mem_cons_of_mem _ (A.own q hq).1, (A.own q hq).2⟩
  · have no : ∀ q ∈ O, q.2 ≠ p := fun q hq z => A.out hp (z ▸ (A.own q hq).1)
    rcases List.mem_cons.mp hq with rfl | hq
    · rcases List.mem_cons.mp hq' with rfl | hq'
      · rfl
      · exact (no _ hq' e.symm).elim
    · rcases List.mem_cons.mp hq' with rfl | hq'
      · exact (no _ hq e).elim
      · exact A.inj q hq q' hq' e
  · rcases set_get e with ⟨rfl, rfl, hl⟩ | ⟨hn, e2⟩
    · refine ⟨p, by rw [hk.1]; exact List.mem_cons_self, List.getElem?_set_self (by rw [← A.len]; exact hl), ?_, hk.2⟩
      rw [upd_same]
      exact ow.mono (cut_new hp)
    · rw [List.getElem?_set_ne (fun z => hn z.symm)]
      have := A.slot j c e2
      cases c with
      | un => trivial
      | val d =>
        obtain ⟨v, e, q⟩ := this
        exact ⟨v, e, q.mono (cut_new hp)⟩
      | own d =>
        obtain ⟨a, ha, e, q, ko⟩ := this
        refine ⟨a, List.mem_cons_of_mem _ ha, e, ?_, ko⟩
        have hap : a ≠ p := fun z => A.out hp (by rw [← z]; exact (A.own _ ha).1)
        rw [upd_ne hap]
        exact q.mono (cut_new hp)
theorem Stp.new {p : Addr} {o : HO} {i : Nat} (A : At G dl Z O r sg H) (hp : H p = none) (hi : i ≠ 1000000) : Stp dl Z O H (p :: Z) ((i, p) :: O) (upd H p o) :=
  ⟨fun a u e _ _ _ => by rw [upd_ne (ne_of_none e hp)]; exact e, fun q hq => by
    rcases List.mem_cons.mp hq with rfl | hq
    · exact .inr (Free.of hp)
    · exact .inl ⟨q, hq, rfl⟩, fun a ha _ => List.mem_cons_of_mem _ ha, fun a ha => (List.mem_cons.mp ha).elim (fun e => .inr (by rw [e]; exact Free.of hp)) .inl, fun a ha => (List.mem_cons.mp ha).elim (fun e => (hi (congrArg Prod.fst e).symm).elim) id, fun a f u e => f u (by rw [upd_ne (ne_of_none e hp)]; exact e)⟩
/-- an owned thing is written -/
theorem At.write {d' : D} {o : HO} {i : Nat} {a : Addr} (A : At G dl Z O r sg H) (hi : r[i]? = some (.own d)) (ha : (kee i d, a) ∈ O) (hs : sg[i]? = some (some (.ref a))) (ow : OwnAt G dl (cut H Z) d' (some o)) (hk : kee i d' = kee i d) (ko' : keeOk i d') : At G dl Z O (r.set i (.own d')) sg (upd H a o) := by
  obtain ⟨u, hu, nt⟩ := ow.notTbl
  cases hu
  obtain ⟨haz, had⟩ := A.own _ ha
  obtain ⟨o0, ho0, nt0⟩ := A.live a haz
  have gcut : GrowS (cut H Z) (cut (upd H a o) Z) := fun b u e n => by
    obtain ⟨e1, e2⟩ := cut_some e
    have hba : b ≠ a := fun z => e1 (by rw [z]; exact haz)
    rw [cut_out e1, upd_ne hba]
    exact e2
  obtain ⟨x, y, z, hd⟩ := A.gl.dice
  have ho0x : isX o0 = false := by
    obtain ⟨a', ha', hs', q, _⟩ := A.slot i _ hi
    have ea : a' = a := by rw [hs] at hs'; cases hs'; rfl
    subst ea
    rw [ho0] at q
    unfold OwnAt at q
    split at q
    · obtain ⟨_, z, _⟩ := q; cases z; rfl
    · obtain ⟨_, z, _⟩ := q; cases z; rfl
    · obtain ⟨_, _, z, _⟩ := q; cases z; rfl
    · obtain ⟨_, z, _⟩ := q; cases z; rfl
    · exact q.elim
  refine ⟨⟨⟨x, y, z, by rw [upd_ne (fun e => had e.symm)]; exact hd⟩, A.gl.tab.upd ho0 ho0x⟩, A.dz, fun b hb => ?_, A.own, A.inj, by rw [List.length_set, A.len], fun j c e => ?_⟩
  · by_cases e : b = a
    · rw [e]; exact ⟨o, upd_same, nt⟩
    · obtain ⟨u, h1, h2⟩ := A.live b hb
      exact ⟨u, by rw [upd_ne e]; exact h1, h2⟩
  · rcases set_get e with ⟨rfl, rfl, hl⟩ | ⟨hn, e2⟩
    · exact ⟨a, by rw [hk]; exact ha, hs, by rw [upd_same]; exact ow.mono gcut, ko'⟩
    · have := A.slot j c e2
      cases c with
      | un => trivial
      | val d =>
        obtain ⟨v, e, q⟩ := this
        exact ⟨v, e, q.mono gcut⟩
      | own d =>
        obtain ⟨b, hb, e, q, ko⟩ := this
        refine ⟨b, hb, e, ?_, ko⟩
        obtain ⟨_, _, _, _, koi⟩ := A.slot i _ hi
        have hba : b ≠ a := fun z => hn (kee_inj ko koi (congrArg Prod.fst (A.inj _ hb _ ha z)))
        rw [upd_ne hba]
        exact q.mono gcut
theorem Stp.write {o : HO} {k : Nat} {a : Addr} (ha : (k, a) ∈ O) (nt : ∀ ps, o ≠ .tbl ps) : Stp dl Z O H Z O (upd H a o) :=
  ⟨fun b u e _ m _ => by rw [upd_ne fun z => m _ ha z.symm]; exact e, fun q hq => .inl ⟨q, hq, rfl⟩, fun _ h _ => h, fun _ h => .inl h, fun _ h => h, fun b f u e => by
    by_cases z : b = a
    · obtain ⟨ps, e2⟩ := f o (by rw [z, upd_same])
      exact (nt ps e2).elim
    · exact f u (by rw [upd_ne z]; exact e)⟩
/-- a dict -/
def isDct : HO → Prop
  | .dK _ => True
  | .dT _ => True
  | _ => False
/-- an owned thing is let go: from now on read alone; a dict is locked then -/
theorem At.freeze {i : Nat} (A : At G dl Z O r sg H) : (∃ Z' O', At G dl Z' O' (frz i r) sg H ∧ Stp dl Z O H Z' O' H) ∨
    ∃ a u, H a = some u ∧ isDct u ∧ ∀ od, ∃ Z' O', At G dl Z' O' (frz i r) sg (upd H a (.frz od u)) ∧ Stp dl Z O H Z' O' (upd H a (.frz od u)) := by
  have stpF : ∀ (a : Addr) (k : Nat) (H2 : Hp), (k, a) ∈ O → Stp dl Z O H2 (Z.filter (· ≠ a)) (O.filter (·.2 ≠ a)) H2 := fun a k H2 ha =>
    ⟨fun _ _ h _ _ _ => h, fun q hq => .inl ⟨q, (List.mem_filter.mp hq).1, rfl⟩, fun b hb m => List.mem_filter.mpr ⟨hb, by simpa using fun e : b = a => m _ ha e.symm⟩, fun b hb => .inl (List.mem_filter.mp hb).1, fun b hb => (List.mem_filter.mp hb).1, fun _ h => h⟩
  unfold frz
  split
  · rename_i ds hi
    left
    obtain ⟨a, ha, hs, ow, koi⟩ := A.slot i _ hi
    obtain ⟨haz, had⟩ := A.own _ ha
    have hsub : GrowS (cut H Z) (cut H (Z.filter (· ≠ a))) := cut_sub fun b hb => (List.mem_filter.mp hb).1
    have hout : cut H (Z.filter (· ≠ a)) a = H a := cut_out fun hb => by simp at hb
    refine ⟨Z.filter (· ≠ a), O.filter (·.2 ≠ a), ⟨A.gl, List.mem_filter.mpr ⟨A.dz, by simpa using fun e : dl = a => had e.symm⟩, fun b hb => A.live b (List.mem_filter.mp hb).1, fun q hq => ?_, fun q hq q' hq' => A.inj q (List.mem_filter.mp hq).1 q' (List.mem_filter.mp hq').1, by rw [List.length_set, A.len], fun j c e => ?_⟩, stpF a _ H ha⟩
    · obtain ⟨h1, h2⟩ := List.mem_filter.mp hq
      exact ⟨List.mem_filter.mpr ⟨(A.own q h1).1, h2⟩, (A.own q h1).2⟩
    · rcases set_get e with ⟨rfl, rfl, hl⟩ | ⟨hn, e2⟩
      · obtain ⟨vs, e, rl⟩ := ow
        refine ⟨.ref a, hs, ?_⟩
        unfold Rep
        exact ⟨a, vs, rfl, by rw [hout]; exact e, rl.mono hsub⟩
      · have := A.slot j c e2
        cases c with
        | un => trivial
        | val d =>
          obtain ⟨v, e, q⟩ := this
          exact ⟨v, e, q.mono hsub⟩
        | own d =>
          obtain ⟨b, hb, e, q, ko⟩ := this
          refine ⟨b, List.mem_filter.mpr ⟨hb, ?_⟩, e, q.mono hsub, ko⟩
          simpa using fun z : b = a => hn (kee_inj ko koi (congrArg Prod.fst (A.inj _ hb _ ha z)))
  · rename_i ds hi
    right
    obtain ⟨a, ha, hs, ow, koi⟩ := A.slot i _ hi
    obtain ⟨haz, had⟩ := A.own _ ha
    obtain ⟨kv, e0, rl⟩ := ow
    refine ⟨a, .dK kv, e0, trivial, fun od => ?_⟩
    have hsub : GrowS (cut H Z) (cut (upd H a (.frz od (.dK kv))) (Z.filter (· ≠ a))) := fun b u e n => by
      obtain ⟨e1, e2⟩ := cut_some e
      have hba : b ≠ a := fun z => e1 (by rw [z]; exact haz)
      rw [cut_out fun hb => e1 (List.mem_filter.mp hb).1, upd_ne hba]
      exact e2
    have hout : cut (upd H a (.frz od (.dK kv))) (Z.filter (· ≠ a)) a = some (.frz od (.dK kv)) := by
      rw [cut_out fun hb => by simp at hb, upd_same]
    obtain ⟨x, y, z, hd⟩ := A.gl.dice
    refine ⟨Z.filter (· ≠ a), O.filter (·.2 ≠ a), ⟨⟨⟨x, y, z, by rw [upd_ne (fun e => had e.symm)]; exact hd⟩, A.gl.tab.upd e0 rfl⟩, List.mem_filter.mpr ⟨A.dz, by simpa using fun e : dl = a => had e.symm⟩, fun b hb => ?_, fun q hq => ?_, fun q hq q' hq' => A.inj q (List.mem_filter.mp hq).1 q' (List.mem_filter.mp hq').1, by rw [List.length_set, A.len], fun j c e => ?_⟩,
      Stp.trans A (Stp.write (o := .frz od (.dK kv)) ha fun ps z => by cases z) (stpF a _ _ ha)⟩
    · obtain ⟨h1, h2⟩ := List.mem_filter.mp hb
      obtain ⟨u, h3, h4⟩ := A.live b h1
      exact ⟨u, by rw [upd_ne (by simpa using h2)]; exact h3, h4⟩
    · obtain ⟨h1, h2⟩ := List.mem_filter.mp hq
      exact ⟨List.mem_filter.mpr ⟨(A.own q h1).1, h2⟩, (A.own q h1).2⟩
    · rcases set_get e with ⟨rfl, rfl, hl⟩ | ⟨hn, e2⟩
      · refine ⟨.ref a, hs, ?_⟩
        unfold Rep
        exact ⟨a, od, kv, rfl, hout, rl.mono hsub⟩
      · have := A.slot j c e2
        cases c with
        | un => trivial
        | val d =>
          obtain ⟨v, e, q⟩ := this
          exact ⟨v, e, q.mono hsub⟩
        | own d =>
          obtain ⟨b, hb, e, q, ko⟩ := this
          have hba : b ≠ a := fun z => hn (kee_inj ko koi (congrArg Prod.fst (A.inj _ hb _ ha z)))
          refine ⟨b, List.mem_filter.mpr ⟨hb, by simpa using hba⟩, e, ?_, ko⟩
          rw [upd_ne hba]
          exact q.mono hsub
  · rename_i ds hi
    right
    obtain ⟨a, ha, hs, ow, koi⟩ := A.slot i _ hi
    obtain ⟨haz, had⟩ := A.own _ ha
    obtain ⟨kv, e0, rl⟩ := ow
    refine ⟨a, .dT kv, e0, trivial, fun od => ?_⟩
    have hsub : GrowS (cut H Z) (cut (upd H a (.frz od (.dT kv))) (Z.filter (· ≠ a))) := fun b u e n => by
      obtain ⟨e1, e2⟩ := cut_some e
      have hba : b ≠ a := fun z => e1 (by rw [z]; exact haz)
      rw [cut_out fun hb => e1 (List.mem_filter.mp hb).1, upd_ne hba]
      exact e2
    have hout : cut (upd H a (.frz od (.dT kv))) (Z.filter (· ≠ a)) a = some (.frz od (.dT kv)) := by
      rw [cut_out fun hb => by simp at hb, upd_same]
    obtain ⟨x, y, z, hd⟩ := A.gl.dice
    refine ⟨Z.filter (· ≠ a), O.filter (·.2 ≠ a), ⟨⟨⟨x, y, z, by rw [upd_ne (fun e => had e.symm)]; exact hd⟩, A.gl.tab.upd e0 rfl⟩, List.mem_filter.mpr ⟨A.dz, by simpa using fun e : dl = a => had e.symm⟩, fun b hb => ?_, fun q hq => ?_, fun q hq q' hq' => A.inj q (List.mem_filter.mp hq).1 q' (List.mem_filter.mp hq').1, by rw [List.length_set, A.len], fun j c e => ?_⟩,
      Stp.trans A (Stp.write (o := .frz od (.dT kv)) ha fun ps z => by cases z) (stpF a _ _ ha)⟩
    · obtain ⟨h1, h2⟩ := List.mem_filter.mp hb
      obtain ⟨u, h3, h4⟩ := A.live b h1
      exact ⟨u, by rw [upd_ne (by simpa using h2)]; exact h3, h4⟩
    · obtain ⟨h1, h2⟩ := List.mem_filter.mp hq
      exact ⟨List.mem_filter.mpr ⟨(A.own q h1).1, h2⟩, (A.own q h1).2⟩
    · rcases set_get e with ⟨rfl, rfl, hl⟩ | ⟨hn, e2⟩
      · refine ⟨.ref a, hs, ?_⟩
        unfold Rep
        exact ⟨a, od, kv, rfl, hout, rl.mono hsub⟩
      · have := A.slot j c e2
        cases c with
        | un => trivial
        | val d =>
          obtain ⟨v, e, q⟩ := this
          exact ⟨v, e, q.mono hsub⟩
        | own d =>
          obtain ⟨b, hb, e, q, ko⟩ := this
          have hba : b ≠ a := fun z => hn (kee_inj ko koi (congrArg Prod.fst (A.inj _ hb _ ha z)))
          refine ⟨b, List.mem_filter.mpr ⟨hb, by simpa using hba⟩, e, ?_, ko⟩
          rw [upd_ne hba]
          exact q.mono hsub
  · exact .inl ⟨Z, O, A, Stp.refl⟩
end
end DL
set_option Elab.async false
set_option linter.all false
set_option maxRecDepth 100000
namespace DL
open PySem L2 PySem.Spec PyProof.Rows
/-- a value for a name: read alone (val), or a new list or dict of one's own (own) -/
def tK (G : Gm) (W : WX) (f : LE → R Cell) : TE := fun sg H Q => ∃ dl Z O r, At G dl Z O r sg H ∧
  Wp (f r) (fun c => match c with
    | .val d => ∀ v H', Grow dl H H' → GlOk G dl H' → Rep G dl (cut H' Z) d v → Q v H'
    | .own d => ∀ p o H', Grow dl H H' → GlOk G dl H' → H' p = none → OwnAt G dl (cut H' Z) d (some o) → (∀ i, i ≠ 1000000 → kee i d = i ∧ keeOk i d) → Q (.ref p) (upd H' p o)
    | .un => False)
    (fun e => ∀ cls dx H', Grow dl H H' → GlOk G dl H' → XRep G dl (cut H' Z) e cls dx H' → W cls dx sg H')
abbrev DK (X : Cx) (G : Gm) (W : WX) (e : Expr) (f : LE → R Cell) : Prop := PE X e (tK G W f)
def valK (f : LE → R D) : LE → R Cell := fun r => f r >>= fun d => .ok (.val d)
def ownK (f : LE → R (List D)) : LE → R Cell := fun r => f r >>= fun ds => .ok (.own (.lst ds))
def okK : Cell → R Cell
  | .un => .stuck
  | .val d => .ok (.val d)
  | .own d => .ok (.own d)
def setK (i : Nat) (f : LE → R Cell) : LE → R Out := fun r => (f r >>= okK).onS r fun c => .ok (.nx (r.set i c))
def parK (i j : Nat) (f g : LE → R Cell) : LE → R Out := fun r => (f r >>= okK).onS r fun c => (g r >>= okK).onS r fun c' => .ok (.nx ((r.set i c).set j c'))
def tGd (G : Gm) (gd : D → LE → Option LE) (is : List Nat) : TG := fun v sg H Q => ∃ dl Z O r d, At G dl Z O r sg H ∧ Rep G dl (cut H Z) d v ∧ ∃ r', gd d r = some r' ∧
  ∀ sg', sg'.length = sg.length → (∀ j, j ∉ is → sg'[j]? = sg[j]?) → At G dl Z O r' sg' H → Q sg' H
abbrev DG (X : Cx) (G : Gm) (tg : Expr) (gd : D → LE → Option LE) (is : List Nat) : Prop := PG X tg (tGd G gd is)
def tGs (G : Gm) (gs : List D → LE → Option LE) (is : List Nat) : TGs := fun vs sg H Q => ∃ dl Z O r ds, At G dl Z O r sg H ∧ RepL G dl (cut H Z) ds vs ∧ ∃ r', gs ds r = some r' ∧
  ∀ sg', sg'.length = sg.length → (∀ j, j ∉ is → sg'[j]? = sg[j]?) → At G dl Z O r' sg' H → Q sg' H
abbrev DGs (X : Cx) (G : Gm) (tg : List Expr) (gs : List D → LE → Option LE) (is : List Nat) : Prop := PGs X tg (tGs G gs is)
def gN (i : Nat) : D → LE → Option LE := fun d r => some (r.set i (.val d))
def gNil_ : List D → LE → Option LE
  | [], r => some r
  | _, _ => none
def gCons_ (g : D → LE → Option LE) (gs : List D → LE → Option LE) : List D → LE → Option LE
  | d :: ds, r => (g d r).bind (gs ds)
  | [], _ => none
def gTup_ (n : Nat) (gs : List D → LE → Option LE) : D → LE → Option LE
  | .tup ds, r => if ds.length = n then gs ds r else none
  | _, _ => none
def asgS (f : LE → R D) (gd : D → LE → Option LE) : LE → R Out := fun r => (f r).onS r fun d => match gd d r with
  | some r' => .ok (.nx r')
  | none => .stuck
theorem PG_imp {X : Cx} {e : Expr} {t t' : TG} (h : PG X e t) (i : ∀ v sg H Q, t' v sg H Q → t v sg H Q) : PG X e t' := ⟨fun pins s sg H v u Q I r q => h.run pins s sg H v u Q I r (i _ _ _ _ q)⟩
theorem PGs_imp {X : Cx} {e : List Expr} {t t' : TGs} (h : PGs X e t) (i : ∀ v sg H Q, t' v sg H Q → t v sg H Q) : PGs X e t' := ⟨fun pins s sg H v u Q I r q => h.run pins s sg H v u Q I r (i _ _ _ _ q)⟩
section
variable {X : Cx} {G : Gm} {W : WX} {ex a b c : Expr} {es : List Expr} {f : LE → R D} {fk fk2 : LE → R Cell} {fs : LE → R (List D)} {h : LE → R Bool} {F K : LE → R Out} {st : Stmt} {rest : List Stmt} {pos pos' : Pos} {x y : Str} {i j : Nat}
theorem DE.k (q : DE X G W ex f) : DK X G W ex (valK f) := PE_imp q fun sg H Q ⟨dl, Z, O, r, A, q⟩ => ⟨dl, Z, O, r, A, q.bind.thn fun d z => z⟩
theorem DF.k (q : DF X G W ex fs) : DK X G W ex (ownK fs) := PE_imp q fun sg H Q ⟨dl, Z, O, r, A, q⟩ => ⟨dl, Z, O, r, A, q.bind.thn fun ds z p vs H' g k hp rl => z p (.lst vs) H' g k hp ⟨vs, rfl, rl⟩ fun i hi => ⟨rfl, hi⟩⟩
theorem dss_nil : DSs X G W [] skipS := PSs_imp pss_nil fun De sg H ⟨dl, Z, O, r, A, q⟩ => q Z O sg H Stp.refl A
theorem dss_cons (h1 : DS X G W st F) (h2 : DSs X G W rest K) : DSs X G W (st :: rest) (seqS F K) := PSs_imp (pss_cons h1 h2) fun De sg H ⟨dl, Z, O, r, A, q⟩ => by
  refine ⟨dl, Z, O, r, A, q.bind.thn fun o ho => ?_⟩
  cases o with
  | nx r' => exact fun Z' O' sg' H' s A' => ⟨dl, Z', O', r', A', ho.thn fun o z => SPost.trans A s z⟩
  | bk r' => exact ho
  | ct r' => exact ho
  | rt d => exact ho
  | ex e r' => exact ho
theorem dss_one (h1 : DS X G W st F) : DSs X G W [st] F := PSs_imp (pss_one h1) fun _ _ _ z => z
/-- a dict may be locked ahead -/
def tLk1 (t : TS) : TS := fun De sg H => t De sg H ∨ ∃ a u, H a = some u ∧ isDct u ∧ ∀ od, t De sg (upd H a (.frz od u))
theorem ps_lk1 {X : Cx} {st : Stmt} {t : TS} (h : PS X st t) : PS X st (tLk1 t) := ⟨fun pins s sg H De I q => by
  rcases q with q | ⟨a, u, e, hu, q⟩
  · exact h.run pins s sg H De I q
  · obtain ⟨od, I1⟩ := I.lock e (by cases u <;> first | exact hu.elim | exact trivial)
    exact h.run pins s sg _ De I1 (q od)⟩
/-- a new dict is locked at once -/
def tLkN (t : TE) : TE := fun sg H Q => t sg H fun v H1 => ∃ p u, v = .ref p ∧ H1 p = some u ∧ isDct u ∧ ∀ od, Q v (upd H1 p (.frz od u))
theorem pe_lkN {X : Cx} {e : Expr} {t : TE} (h : PE X e t) : PE X e (tLkN t) := ⟨fun pins s sg H Q I q => by
  refine thn (h.run pins s sg H _ I q) fun v s1 ⟨x, H1, I1, r, p, u, ex, e, hu, q⟩ => ?_
  obtain ⟨od, I2⟩ := I1.lock e (by cases u <;> first | exact hu.elim | exact trivial)
  exact ⟨x, _, I2, r, q od⟩⟩
theorem cr_lkN {X : Cx} {f : Value} {rr : List V → Hp → VK → Prop} (h : CallR X f rr) : CallR X f (fun vs H Q => rr vs H fun v H1 => ∃ p u, v = .ref p ∧ H1 p = some u ∧ isDct u ∧ ∀ od, Q v (upd H1 p (.frz od u))) := by
  intro pins s sg H xs us Q I r q
  refine thn (h pins s sg H xs us _ I r q) fun v s1 ⟨x, H1, I1, r, p, u, ex, e, hu, q⟩ => ?_
  obtain ⟨od, I2⟩ := I1.lock e (by cases u <;> first | exact hu.elim | exact trivial)
  exact ⟨x, _, I2, r, q od⟩
/-- slot i is read alone from here on -/
theorem DS.frz_ (i : Nat) (h1 : DS X G W st F) : DS X G W st (fun r => F (frz i r)) := PS_imp (ps_lk1 h1) fun De sg H ⟨dl, Z, O, r, A, q⟩ => by
  rcases A.freeze (i := i) with ⟨Z', O', A', s⟩ | ⟨a, u, e, hu, k⟩
  · exact .inl ⟨dl, Z', O', _, A', q.thn fun o z => SPost.trans A s z⟩
  · refine .inr ⟨a, u, e, hu, fun od => ?_⟩
    obtain ⟨Z', O', A', s⟩ := k od
    exact ⟨dl, Z', O', _, A', q.thn fun o z => SPost.trans A s z⟩
theorem ds_set (i : Nat) (he : DK X G W ex fk) (hti : i ≠ 1000000 := by decide) (hN : X.N.Nodup) (hi : X.N[i]? = some x := by rfl) (hx : Loc X.env.scope x := by first | exact Or.inl rfl | exact Or.inr rfl) (hs : swapsWith ex (some (.Name x pos')) pos.line X.env = pure false := by rfl)
    (hf : X.fn x = true ∨ X.env.scope.names.lookup x = some .local := by first | exact .inl rfl | exact .inr rfl) : DS X G W (.Assign [.Name x pos'] ex pos) (setK i fk) := PS_imp (ps_set hN hi hx he hs hf) fun De sg H ⟨dl, Z, O, r, A, q⟩ => by
  refine ⟨dl, Z, O, r, A, (onS_wp q).bind.mono (fun c hc => ?_) fun e he => spost_ex A he⟩
  cases c with
  | val d => exact fun v H1 g1 k1 rp => hc Z O _ H1 (Stp.of_grow g1 k1) ((A.grow g1 k1).set_val i rp)
  | own d => exact fun p o H1 g1 k1 hp ow hk => hc _ _ _ _ (Stp.trans A (Stp.of_grow g1 k1) (Stp.new (A.grow g1 k1) hp hti)) ((A.grow g1 k1).set_own i hp ow (hk i hti))
  | un => exact hc.elim
theorem ds_asg {gd : D → LE → Option LE} {is : List Nat} {tg : Expr} (he : DE X G W ex f) (hg : DG X G tg gd is) (hs : swapsWithSole [tg] ex pos.line X.env = pure false := by rfl) (hw : swappedStores [tg] ex X.env = pure none := by rfl)
    (h1 : (assignEach [tg] X.env).map (·.2) = [assign tg X.env] := by rfl) : DS X G W (.Assign [tg] ex pos) (asgS f gd) := PS_imp (ps_asg he hg hs hw h1) fun De sg H ⟨dl, Z, O, r, A, q⟩ => by
  refine ⟨dl, Z, O, r, A, (onS_wp q).mono (fun d hd v H1 g1 k1 rp => ?_) fun e he => spost_ex A he⟩
  split at hd
  · rename_i r' hr
    exact ⟨dl, Z, O, r, d, A.grow g1 k1, rp, r', hr, fun sg' _ _ A' => hd Z O sg' H1 (Stp.of_grow g1 k1) A'⟩
  · exact hd.elim
theorem ds_ret (he : DE X G W ex f) : DS X G W (.Return (some ex) pos) (retS f) := PS_imp (ps_ret he) fun De sg H ⟨dl, Z, O, r, A, q⟩ =>
  ⟨dl, Z, O, r, A, (onS_wp q).mono (fun d hd v H1 g1 k1 rp => hd Z O v H1 (Stp.of_grow g1 k1) k1 rp) fun e he => spost_ex A he⟩
theorem ds_expr (he : DE X G W ex f) (hs : swapsWith ex none pos.line X.env = pure false := by rfl) : DS X G W (.Expr ex pos) (dropS f) := PS_imp (ps_expr he hs) fun De sg H ⟨dl, Z, O, r, A, q⟩ =>
  ⟨dl, Z, O, r, A, (onS_wp q).mono (fun d hd v H1 g1 k1 rp => hd Z O sg H1 (Stp.of_grow g1 k1) (A.grow g1 k1)) fun e he => spost_ex A he⟩
theorem ds_if {sa sb : List Stmt} (hc : DT X G W c h) (ha : DSs X G W sa F) (hb : DSs X G W sb K) : DS X G W (.If c sa sb pos) (ifS h F K) := PS_imp (ps_if hc ha hb) fun De sg H ⟨dl, Z, O, r, A, q⟩ => by
  refine ⟨dl, Z, O, r, A, (onS_wp q).mono (fun b hb H1 g1 k1 => ?_) fun e he => spost_ex A he⟩
  cases b with
  | true => exact ⟨dl, Z, O, r, A.grow g1 k1, hb.thn fun o z => SPost.trans A (Stp.of_grow g1 k1) z⟩
  | false => exact ⟨dl, Z, O, r, A.grow g1 k1, hb.thn fun o z => SPost.trans A (Stp.of_grow g1 k1) z⟩
theorem dg_name (i : Nat) (hN : X.N.Nodup) (hi : X.N[i]? = some x := by rfl) (hx : Loc X.env.scope x := by first | exact Or.inl rfl | exact Or.inr rfl) (hf : X.fn x = true ∨ X.env.scope.names.lookup x = some .local := by first | exact .inl rfl | exact .inr rfl) :
    DG X G (.Name x pos) (gN i) [i] := PG_imp (pg_name hN hi hx hf) fun v sg H Q ⟨dl, Z, O, r, d, A, rp, r', hr, q⟩ => by
  cases hr
  exact q _ (List.length_set ..) (fun j hj => List.getElem?_set_ne (by simpa using fun e : i = j => hj (by simp [e]))) (A.set_val i rp)
theorem dgs_nil : DGs X G [] gNil_ [] := PGs_imp pgs_nil fun vs sg H Q ⟨dl, Z, O, r, ds, A, rl, r', hr, q⟩ => by
  cases ds with
  | nil =>
    cases hr
    unfold RepL at rl
    exact ⟨rl, q sg rfl (fun _ _ => rfl) A⟩
  | cons d ds => cases hr
theorem dgs_cons {g1 : D → LE → Option LE} {gs : List D → LE → Option LE} {is js : List Nat} (h1 : DG X G ex g1 is) (h2 : DGs X G es gs js)
    (hs : (assignEach (ex :: es) X.env).map (·.2) = assign ex X.env :: (assignEach es X.env).map (·.2) := by rfl) : DGs X G (ex :: es) (gCons_ g1 gs) (is ++ js) := PGs_imp (pgs_cons h1 h2 hs) fun vs sg H Q ⟨dl, Z, O, r, ds, A, rl, r', hr, q⟩ => by
  cases ds with
  | nil => cases hr
  | cons d ds =>
    unfold RepL at rl
    obtain ⟨v, us, rfl, rp, rl⟩ := rl
    change (g1 d r).bind (gs ds) = some r' at hr
    cases e : g1 d r with
    | none => rw [e] at hr; cases hr
    | some r1 =>
      rw [e] at hr
      refine ⟨v, us, rfl, dl, Z, O, r, d, A, rp, r1, e, fun sg1 l1 s1 A1 => ?_⟩
      refine ⟨dl, Z, O, r1, ds, A1, rl, r', hr, fun sg2 l2 s2 A2 => q sg2 (l2.trans l1) (fun j hj => ?_) A2⟩
      rw [List.mem_append, not_or] at hj
      rw [s2 j hj.2, s1 j hj.1]
theorem dg_tup {gs : List D → LE → Option LE} {is : List Nat} {k : Nat} {n : Nat} (hG : G.K = X.K) (hc : X.calm = true) (h : DGs X G es gs is) (hn : (assignEach es X.env).length = n := by rfl) (hst : (assignEach es X.env).findIdx? (·.1) = none := by rfl) :
    DG X G (.Tuple es k pos) (gTup_ n gs) is := PG_imp (pg_tup hc h hn hst) fun v sg H Q ⟨dl, Z, O, r, d, A, rp, r', hr, q⟩ => by
  cases d <;> first | (cases hr; done) | skip
  rename_i ds
  change (if ds.length = n then gs ds r else none) = some r' at hr
  split at hr
  · rename_i hl
    unfold Rep at rp
    obtain ⟨a, vs, rfl, e, rl⟩ := rp
    exact ⟨a, vs, rfl, hG ▸ (cut_grow H Z).sqt (SqT.of e), by rw [rl.length]; exact hl, dl, Z, O, r, ds, A, rl, r', hr, q⟩
  · cases hr
theorem At.aside {dl : Addr} {Z : List Addr} {O : List (Nat × Addr)} {r : LE} {sg : L2.St} {H : Hp} (A : At G dl Z O r sg H) {p : Addr} {o : HO} (hp : H p = none) (nt : NT o) : At G dl (p :: Z) O r sg (upd H p o) := by
  refine ⟨A.gl.new hp, List.mem_cons_of_mem _ A.dz, fun a ha => ?_, fun q hq => ⟨List.mem_cons_of_mem _ (A.own q hq).1, (A.own q hq).2⟩, A.inj, A.len, fun j c e => ?_⟩
  · rcases List.mem_cons.mp ha with rfl | ha
    · exact ⟨o, upd_same, nt⟩
    · obtain ⟨u, e, n⟩ := A.live a ha
      exact ⟨u, by rw [upd_ne (ne_of_none e hp)]; exact e, n⟩
  · have := A.slot j c e
    cases c with
    | un => trivial
    | val d =>
      obtain ⟨v, e, q⟩ := this
      exact ⟨v, e, q.mono (cut_new hp)⟩
    | own d =>
      obtain ⟨a, ha, e, q, ko⟩ := this
      have hap : a ≠ p := fun z => A.out hp (by rw [← z]; exact (A.own _ ha).1)
      refine ⟨a, ha, e, ?_, ko⟩
      rw [upd_ne hap]
      exact q.mono (cut_new hp)
theorem XRep.mono {dl : Addr} {S S' : Hp} {e : Exc} {cls : Value} {dx : Option Addr} {H : Hp} (g : GrowS S S') (x : XRep G dl S e cls dx H) : XRep G dl S' e cls dx H := by
  unfold XRep at *
  refine ⟨x.1, ?_⟩
  have x2 := x.2
  split
  · rename_i hn; rw [hn] at x2; exact x2
  · rename_i f hf
    rw [hf] at x2
    obtain ⟨d, v, h1, h2, h3⟩ := x2
    exact ⟨d, v, h1, h2, h3.mono g⟩
end
end DL
set_option Elab.async false
set_option linter.all false
set_option maxRecDepth 100000
namespace DL
open PySem L2 PySem.Spec PyProof.Rows
/-- the iterator J hands out ds, as long as B -/
structure WalkE (G : Gm) (dl : Addr) (J : It) (ds : List D) (B : List Addr → Hp → Prop) : Prop where
  mono : ∀ Z Z' H H', GrowS (cut H Z) (cut H' Z') → Grow dl H H' → B Z H → B Z' H'
  go : ∀ i Z H, B Z H → i < ds.length → J.go i H
  stop : ∀ i Z H, B Z H → ds.length ≤ i → J.stop i H
  yld : ∀ i Z O r sg H x H', At G dl Z O r sg H → B Z H → J.yld i H x H' → ∀ d, ds[i]? = some d → Grow dl H H' ∧ (∀ G2 : Gm, GlOk G2 dl H → GlOk G2 dl H') ∧ Rep G dl (cut H' Z) d x
structure WalkS (G : Gm) (dl : Addr) (J : It) (ds : List D) (B : List Addr → Hp → Prop) : Prop extends WalkE G dl J ds B where
  monoS : ∀ Z Z' H H', GrowS (cut H Z) (cut H' Z') → B Z H → B Z' H'
def tIs (G : Gm) (W : WX) (f : LE → R (List D)) : TI := fun sg H Rr => ∃ dl Z O r, At G dl Z O r sg H ∧
  Wp (f r) (fun ds => ∀ J B H', Grow dl H H' → GlOk G dl H' → WalkS G dl J ds B → B Z H' → Rr J H')
    (fun e => ∀ cls dx H', Grow dl H H' → GlOk G dl H' → XRep G dl (cut H' Z) e cls dx H' → W cls dx sg H')
def tIe (G : Gm) (W : WX) (f : LE → R (List D)) : TI := fun sg H Rr => ∃ dl Z O r, At G dl Z O r sg H ∧
  Wp (f r) (fun ds => ∀ J B H', Grow dl H H' → GlOk G dl H' → WalkE G dl J ds B → B Z H' → Rr J H')
    (fun e => ∀ cls dx H', Grow dl H H' → GlOk G dl H' → XRep G dl (cut H' Z) e cls dx H' → W cls dx sg H')
abbrev DI (X : Cx) (G : Gm) (W : WX) (tg iter : Expr) (f : LE → R (List D)) : Prop := PI X tg iter (tIs G W f)
abbrev DIe (X : Cx) (G : Gm) (W : WX) (tg iter : Expr) (f : LE → R (List D)) : Prop := PI X tg iter (tIe G W f)
theorem PI_imp {X : Cx} {tg e : Expr} {t t' : TI} (h : PI X tg e t) (i : ∀ sg H Q, t' sg H Q → t sg H Q) : PI X tg e t' := ⟨fun pins s sg H Q I q => h.run pins s sg H Q I (i _ _ _ q)⟩
theorem DI.e {X : Cx} {G : Gm} {W : WX} {tg iter : Expr} {f : LE → R (List D)} (h : DI X G W tg iter f) : DIe X G W tg iter f :=
  PI_imp h fun sg H Q ⟨dl, Z, O, r, A, q⟩ => ⟨dl, Z, O, r, A, q.thn fun ds z J B H' g k w b => z J B H' g k w.toWalkE b⟩
def lstD : D → R (List D)
  | .lst ds => .ok ds
  | _ => .stuck
def tupD : D → R (List D)
  | .tup ds => .ok ds
  | _ => .stuck
section
variable {X : Cx} {G : Gm} {W : WX} {tg iter : Expr} {f : LE → R D} {pos p : Pos}
theorem walk_list {dl a : Addr} {ds : List D} {vs : List V} : WalkS G dl (Itl G.K a) ds (fun Z H => cut H Z a = some (.lst vs) ∧ RepL G dl (cut H Z) ds vs) where
  mono := fun Z Z' H H' g _ h => ⟨g a _ h.1 (fun ps z => by cases z), h.2.mono g⟩
  monoS := fun Z Z' H H' g h => ⟨g a _ h.1 (fun ps z => by cases z), h.2.mono g⟩
  go := fun i Z H h hi => by
    have := h.2.length
    exact ⟨vs, vs[i]'(by omega), SqL.of (cut_some h.1).2, by simp⟩
  stop := fun i Z H h hi => ⟨vs, SqL.of (cut_some h.1).2, by have := h.2.length; omega⟩
  yld := fun i Z O r sg H x H' A h hy d hd => by
    obtain ⟨rfl, hy⟩ := hy
    obtain ⟨v, h1, h2⟩ := RepL.getD ds vs i d h.2 hd
    have h3 := hy vs (SqL.of (cut_some h.1).2)
    rw [h1] at h3
    cases h3
    exact ⟨.refl _ _, fun _ k => k, h2⟩
theorem walk_listE {dl a : Addr} {ds : List D} {vs : List V} (had : a ≠ dl) : WalkE G dl (Itl G.K a) ds (fun Z H => H a = some (.lst vs) ∧ RepL G dl (cut H Z) ds vs) where
  mono := fun Z Z' H H' g g2 h => ⟨g2 a _ h.1 had (fun ps z => by cases z), h.2.mono g⟩
  go := fun i Z H h hi => by
    have := h.2.length
    exact ⟨vs, vs[i]'(by omega), SqL.of h.1, by simp⟩
  stop := fun i Z H h hi => ⟨vs, SqL.of h.1, by have := h.2.length; omega⟩
  yld := fun i Z O r sg H x H' A h hy d hd => by
    obtain ⟨rfl, hy⟩ := hy
    obtain ⟨v, h1, h2⟩ := RepL.getD ds vs i d h.2 hd
    have h3 := hy vs (SqL.of h.1)
    rw [h1] at h3
    cases h3
    exact ⟨.refl _ _, fun _ k => k, h2⟩
theorem walk_tup {dl a : Addr} {ds : List D} {vs : List V} : WalkS G dl (Itt G.K a) ds (fun Z H => SqT G.K (cut H Z) a vs ∧ RepL G dl (cut H Z) ds vs) where
  mono := fun Z Z' H H' g _ h => ⟨g.sqt h.1, h.2.mono g⟩
  monoS := fun Z Z' H H' g h => ⟨g.sqt h.1, h.2.mono g⟩
  go := fun i Z H h hi => by
    have := h.2.length
    exact ⟨vs, vs[i]'(by omega), (cut_grow H Z).sqt h.1, by simp⟩
  stop := fun i Z H h hi => ⟨vs, (cut_grow H Z).sqt h.1, by have := h.2.length; omega⟩
  yld := fun i Z O r sg H x H' A h hy d hd => by
    obtain ⟨rfl, hy⟩ := hy
    obtain ⟨v, h1, h2⟩ := RepL.getD ds vs i d h.2 hd
    have h3 := hy vs ((cut_grow _ Z).sqt h.1)
    rw [h1] at h3
    cases h3
    exact ⟨.refl _ _, fun _ k => k, h2⟩
/-- range(..): the ints -/
def rangeL (lo : Int) (n : Nat) : List D := (List.range n).map fun (i : Nat) => D.int (lo + (i : Int))
def rng1 : List D → R (List D)
  | [.int j] => if j < 1073741824 ∧ -(1073741824) < j then .ok (rangeL 0 j.toNat) else .stuck
  | _ => .stuck
def rng2 : List D → R (List D)
  | [.int i, .int j] => if j < 1073741824 ∧ -(1073741824) < j ∧ i < 1073741824 ∧ -(1073741824) < i then .ok (rangeL i (j - i).toNat) else .stuck
  | _ => .stuck
theorem rangeL_get {lo : Int} {n i : Nat} {d : D} (h : (rangeL lo n)[i]? = some d) : d = .int (lo + (i : Int)) := by
  unfold rangeL at h
  rw [List.getElem?_map] at h
  cases e : (List.range n)[i]? with
  | none => rw [e] at h; cases h
  | some k =>
    rw [e] at h
    cases h
    obtain ⟨h1, h2⟩ := List.getElem?_eq_some_iff.mp e
    rw [List.getElem_range] at h2
    rw [h2]
theorem walk_rng {dl : Addr} {lo : Int} {n : Nat} : WalkS G dl (Itr lo n) (rangeL lo n) (fun _ _ => True) where
  mono := fun _ _ _ _ _ _ _ => trivial
  monoS := fun _ _ _ _ _ _ => trivial
  go := fun i Z H h hi => by
    show i < n
    unfold rangeL at hi; simpa using hi
  stop := fun i Z H h hi => by
    show n ≤ i
    unfold rangeL at hi; simpa using hi
  yld := fun i Z O r sg H x H' A h hy d hd => by
    obtain ⟨rfl, rfl⟩ := hy
    rw [rangeL_get hd]
    exact ⟨.refl _ _, fun _ k => k, Rep.int_⟩
theorem RepL.one_int {dl : Addr} {S : Hp} {j : Int} {vs : List V} (h : RepL G dl S [.int j] vs) : vs = [.int j] := by
  unfold RepL at h
  obtain ⟨v, r, rfl, h1, h2⟩ := h
  unfold Rep at h1
  unfold RepL at h2
  rw [h1, h2]
theorem di_rng1 {a : Expr} {fs : LE → R (List D)} (hg : Gl X "range") (hm : X.mg "range" = none) (ha : DA X G W [a] fs) (hs : starEach [a] X.env = [(false, eval a X.env)] := by rfl) : DI X G W tg (.Call (.Name "range" p) [a] [] pos) (fun r => fs r >>= rng1) :=
  PI_imp (pi_range1 hg hm ha hs) fun sg H Q ⟨dl, Z, O, r, A, q⟩ => by
    refine ⟨dl, Z, O, r, A, q.bind.thn fun ds hd vs H1 g1 k1 rl => ?_⟩
    unfold rng1 at hd
    split at hd
    · split at hd
      · rename_i j hj
        exact ⟨j, rl.one_int, by omega, by omega, hd _ _ H1 g1 k1 walk_rng trivial⟩
      · exact hd.elim
    · exact hd.elim
theorem di_rng2 {a b : Expr} {fs : LE → R (List D)} (hg : Gl X "range") (hm : X.mg "range" = none) (ha : DA X G W [a, b] fs) (hs : starEach [a, b] X.env = [(false, eval a X.env), (false, eval b X.env)] := by rfl) (hs2 : starEach [b] X.env = [(false, eval b X.env)] := by rfl) :
    DI X G W tg (.Call (.Name "range" p) [a, b] [] pos) (fun r => fs r >>= rng2) :=
  PI_imp (pi_range2 hg hm ha hs hs2) fun sg H Q ⟨dl, Z, O, r, A, q⟩ => by
    refine ⟨dl, Z, O, r, A, q.bind.thn fun ds hd vs H1 g1 k1 rl => ?_⟩
    unfold rng2 at hd
    split at hd
    · split at hd
      · rename_i i j hj
        unfold RepL at rl
        obtain ⟨v, us, rfl, h1, rl⟩ := rl
        have := rl.one_int
        subst this
        unfold Rep at h1
        subst h1
        exact ⟨i, j, rfl, ⟨by omega, by omega, by omega, by omega⟩, hd _ _ H1 g1 k1 walk_rng trivial⟩
      · exact hd.elim
    · exact hd.elim
end
def loopS (gd : D → LE → Option LE) (body : LE → R Out) : List D → LE → R Out
  | [], r => .ok (.nx r)
  | d :: ds, r => match gd d r with
    | none => .stuck
    | some r' => do
      match ← body r' with
      | .nx r2 => loopS gd body ds r2
      | .ct r2 => loopS gd body ds r2
      | .bk r2 => .ok (.nx r2)
      | .rt d => .ok (.rt d)
      | .ex e r2 => .ok (.ex e r2)
def forS (fi : LE → R (List D)) (gd : D → LE → Option LE) (body : LE → R Out) : LE → R Out := fun r => (fi r).onS r fun ds => loopS gd body ds r
section
variable {X : Cx} {G : Gm} {W : WX} {tg iter : Expr} {fi : LE → R (List D)} {gd : D → LE → Option LE} {is : List Nat} {F : LE → R Out} {body : List Stmt} {pos : Pos}
theorem ds_for (hp : PassesOwn (model X.prog X.w) X.A X.env X.xe) (hc : X.calm = true) (hi : DI X G W tg iter fi) (hg : DG X G tg gd is) (hb : DSs X G W body F)
    (hs : ∀ x, foldedSetIterable iter X.env x = pure x := by intro _; rfl) : DS X G W (.For tg iter body [] pos) (forS fi gd F) := PS_imp (ps_for hp hc hi hg hb hs) fun De sg H ⟨dl, Z, O, r, A, q⟩ => by
  refine ⟨dl, Z, O, r, A, (onS_wp q).mono (fun ds hds J B H1 g1 k1 wk hB => ?_) fun e he => spost_ex A he⟩
  have A1 := A.grow g1 k1
  have s1 : Stp dl Z O H Z O H1 := Stp.of_grow g1 k1
  refine ⟨fun i m sg' H' => m = ds.length - i ∧ i ≤ ds.length ∧ ∃ Z' O' r', At G dl Z' O' r' sg' H' ∧ Stp dl Z O H Z' O' H' ∧ B Z' H' ∧ Wp (loopS gd F (ds.drop i) r') (SPost G W De dl Z O H) (fun _ => False),
    ⟨ds.length, by simp, Nat.zero_le _, Z, O, r, A1, s1, hB, by simpa using hds⟩, ?_⟩
  rintro i m sg' H' ⟨rfl, hi', Z', O', r', A', s', hB', hw⟩
  by_cases hlt : i < ds.length
  · have hdrop : ds.drop i = ds[i] :: ds.drop (i + 1) := List.drop_eq_getElem_cons hlt
    rw [hdrop] at hw
    refine .inr ⟨wk.go i Z' H' hB' hlt, fun sg2 H2 => i + 1 ≤ ds.length ∧ ∃ Z' O' r', At G dl Z' O' r' sg2 H2 ∧ Stp dl Z O H Z' O' H2 ∧ B Z' H2 ∧ Wp (loopS gd F (ds.drop (i + 1)) r') (SPost G W De dl Z O H) (fun _ => False), fun sg2 H2 h2 => ⟨ds.length - (i + 1), by omega, rfl, h2⟩, fun x H2 hy => ?_⟩
    obtain ⟨g2, k2, rp⟩ := wk.yld i Z' O' r' sg' H' x H2 A' hB' hy ds[i] (by simp)
    have k2 := k2 _ A'.gl
    have A2 := A'.grow g2 k2
    have s2 : Stp dl Z O H Z' O' H2 := Stp.trans A s' (Stp.of_grow g2 k2)
    have hB2 : B Z' H2 := wk.mono _ _ _ _ (g2.cut A'.dz) g2 hB'
    unfold loopS at hw
    cases hgd : gd ds[i] r' with
    | none => rw [hgd] at hw; exact hw.elim
    | some r2 =>
      rw [hgd] at hw
      refine ⟨dl, Z', O', r', ds[i], A2, rp, r2, hgd, fun sg3 _ _ A3 => ⟨dl, Z', O', r2, A3, hw.bind.thn fun o ho => ?_⟩⟩
      have step : ∀ {r3 : LE}, Wp (loopS gd F (ds.drop (i + 1)) r3) (SPost G W De dl Z O H) (fun _ => False) → ∀ Z4 O4 sg4 H4, Stp dl Z' O' H2 Z4 O4 H4 → At G dl Z4 O4 r3 sg4 H4 →
          i + 1 ≤ ds.length ∧ ∃ Z' O' r', At G dl Z' O' r' sg4 H4 ∧ Stp dl Z O H Z' O' H4 ∧ B Z' H4 ∧ Wp (loopS gd F (ds.drop (i + 1)) r') (SPost G W De dl Z O H) (fun _ => False) := fun hw4 Z4 O4 sg4 H4 s4 A4 =>
        ⟨hlt, Z4, O4, _, A4, Stp.trans A s2 s4, wk.monoS _ _ _ _ (Stp.cut A3 s4) hB2, hw4⟩
      cases o with
      | nx r3 => exact step ho
      | ct r3 => exact step ho
      | bk r3 => exact fun Z4 O4 sg4 H4 s4 A4 => ho Z4 O4 sg4 H4 (Stp.trans A s2 s4) A4
      | rt d => exact SPost.trans A s2 ho
      | ex e r3 => exact SPost.trans A s2 ho
  · have e : i = ds.length := by omega
    subst e
    rw [List.drop_length] at hw
    exact .inl ⟨wk.stop _ Z' H' hB' (Nat.le_refl _), hw Z' O' sg' H' s' A'⟩
end
end DL
set_option Elab.async false
set_option linter.all false
set_option maxRecDepth 100000
namespace DL
open PySem L2 PySem.Spec PyProof.Rows
/-- what is raised is not served here -/
def R.calm {α : Type} : R α → R α
  | .ok a => .ok a
  | .err _ => .stuck
  | .stuck => .stuck
  | .roll m f => .roll m fun i => (f i).calm
@[simp] theorem calm_ok {α : Type} (a : α) : (R.ok a).calm = .ok a := rfl
@[simp] theorem calm_roll {α : Type} (m : Nat) (f : Nat → R α) : (R.roll m f).calm = .roll m fun i => (f i).calm := rfl
theorem calm_wp {α : Type} {Q : α → Prop} {E E' : Exc → Prop} : ∀ {m : R α}, Wp m.calm Q E → Wp m Q E'
  | .ok _, h => h
  | .err _, h => h.elim
  | .stuck, h => h.elim
  | .roll _ _, h => fun i hi => calm_wp (h i hi)
/-- the comprehension's own names forgotten -/
def wipeL (r : LE) : List Nat → LE
  | [] => r
  | v :: vs => (wipeL r vs).set v .un
def W0 : WX := fun _ _ _ _ => False
def loopC (gd : D → LE → Option LE) (tt : LE → R Bool) (te : LE → R D) (r : LE) : List D → R (List D)
  | [] => .ok []
  | d :: ds => match gd d r with
    | none => .stuck
    | some r' => do
      if (← (tt r').calm) then do
        let y ← (te r').calm
        let ys ← loopC gd tt te r ds
        .ok (y :: ys)
      else loopC gd tt te r ds
def compF (fi : LE → R (List D)) (gd : D → LE → Option LE) (tt : LE → R Bool) (te : LE → R D) (vs : List Nat) : LE → R (List D) := fun r => do
  let ds ← fi r
  if ds.length ≤ 16777216 then loopC gd tt te (wipeL r vs) ds else .stuck
def yesT : LE → R Bool := fun _ => .ok true
section
variable {G : Gm} {dl : Addr} {Z : List Addr} {O : List (Nat × Addr)} {r : LE} {sg : L2.St} {H : Hp}
theorem At.wipe (A : At G dl Z O r sg H) : ∀ vs : List Nat, At G dl Z O (wipeL r vs) (wipe sg vs) H
  | [] => A
  | v :: vs => (At.wipe A vs).set_un v none
theorem wipe_get {sg : L2.St} {j : Nat} : ∀ {vs : List Nat}, j ∉ vs → (wipe sg vs)[j]? = sg[j]?
  | [], _ => rfl
  | v :: vs, h => by
    rw [List.mem_cons, not_or] at h
    unfold wipe
    rw [List.getElem?_set_ne fun e => h.1 e.symm]
    exact wipe_get h.2
theorem wipe_at {sg : L2.St} {j : Nat} : ∀ {vs : List Nat}, j ∈ vs → j < sg.length → (wipe sg vs)[j]? = some none
  | [], h, _ => by cases h
  | v :: vs, h, hl => by
    unfold wipe
    by_cases e : v = j
    · subst e
      rw [List.getElem?_set_self (by rw [wipe_length]; exact hl)]
    · rw [List.getElem?_set_ne e]
      rcases List.mem_cons.mp h with h | h
      · exact (e h.symm).elim
      · exact wipe_at h hl
theorem wipe_same {sg sg' : L2.St} {vs : List Nat} (hl : sg'.length = sg.length) (h : ∀ j, j ∉ vs → sg'[j]? = sg[j]?) : L2.wipe sg' vs = L2.wipe sg vs := by
  refine List.ext_getElem? fun j => ?_
  by_cases e : j ∈ vs
  · by_cases q : j < sg.length
    · rw [wipe_at e q, wipe_at e (by omega)]
    · rw [List.getElem?_eq_none (by rw [wipe_length]; omega), List.getElem?_eq_none (by rw [wipe_length]; omega)]
  · rw [wipe_get e, wipe_get e, h j e]
theorem wipe_wipe {sg : L2.St} (vs : List Nat) : L2.wipe (L2.wipe sg vs) vs = L2.wipe sg vs := wipe_same (wipe_length ..) fun j h => wipe_get h
/-- H without p -/
theorem upd_cut {H : Hp} {p : Addr} {o : HO} (h : H p = some o) : upd (cut H [p]) p o = H := by
  funext b
  unfold upd cut
  by_cases e : b = p
  · subst e; simp [h]
  · simp [e]
end
section
variable {X : Cx} {G : Gm} {W : WX} {tg iter : Expr} {fi : LE → R (List D)} {gd : D → LE → Option LE} {is vs : List Nat} {tt : LE → R Bool} {te : LE → R D}
theorem lc_core_d (hsub : ∀ j ∈ is, j ∈ vs) {sg : L2.St} {H : Hp} {Q : VK} (h : tF G W (compF fi gd tt te vs) sg H Q) : tLc (tIe G W fi) (tGd G gd is) (tT G W0 tt) (tD G W0 te) vs sg H Q := by
  obtain ⟨dl, Z, O, r, A, q⟩ := h
  refine ⟨dl, Z, O, r, A, q.bind.thn fun ds hds J B H1 g1 k1 wk hB D hD => ?_⟩
  have A1 := A.grow g1 k1
  split at hds
  case isFalse => exact hds.elim
  rename_i hlen
  have nt : ∀ (xs : List V) ps, HO.lst xs ≠ HO.tbl ps := fun _ _ z => by cases z
  have B1 : At G dl (D :: Z) O r sg (upd H1 D (.lst [])) := A1.aside hD (NT.lst [])
  have hDZ := A1.out hD
  have hDd := A1.notdl hD
  have hB1 : B (D :: Z) (upd H1 D (.lst [])) := wk.mono _ _ _ _ (cut_new hD) (.new hD) hB
  -- the state between turns
  let St : Nat → Hp → Prop := fun i H' => i ≤ ds.length ∧ ∃ acc us, At G dl (D :: Z) O r sg H' ∧ Grow dl H1 H' ∧ B (D :: Z) H' ∧ H' D = some (.lst us) ∧ RepL G dl (cut H' (D :: Z)) acc us ∧ acc.length ≤ i ∧
    Wp (loopC gd tt te (wipeL r vs) (ds.drop i)) (fun ys => ∀ p us H2, Grow dl H H2 → GlOk G dl H2 → H2 p = none → RepL G dl (cut H2 Z) (acc ++ ys) us → Q (.ref p) (upd H2 p (.lst us))) (fun e => ∀ cls dx H', Grow dl H H' → GlOk G dl H' → XRep G dl (cut H' Z) e cls dx H' → W cls dx sg H')
  refine ⟨fun i m H' => m = ds.length - i ∧ St i H', ⟨ds.length, by simp, Nat.zero_le _, [], [], B1, .new hD, hB1, upd_same, RepL.nil, Nat.le_refl _, by simpa using hds⟩, ?_⟩
  rintro i m H' ⟨rfl, hi', acc, us, A', gH, hB', hDu, rl, hal, hw⟩
  by_cases hlt : i < ds.length
  · have hdrop : ds.drop i = ds[i] :: ds.drop (i + 1) := List.drop_eq_getElem_cons hlt
    rw [hdrop] at hw
    refine .inr ⟨wk.go i _ H' hB' hlt, St (i + 1), fun H2 h2 => ⟨ds.length - (i + 1), by omega, rfl, h2⟩, fun x H2 hy => ?_⟩
    obtain ⟨g2, k2, rp⟩ := wk.yld i _ O r sg H' x H2 A' hB' hy ds[i] (by simp)
    have k2 := k2 _ A'.gl
    have A2 := A'.grow g2 k2
    unfold loopC at hw
    cases hgd : gd ds[i] (wipeL r vs) with
    | none => rw [hgd] at hw; exact hw.elim
    | some r2 =>
      rw [hgd] at hw
      refine ⟨dl, D :: Z, O, wipeL r vs, ds[i], A2.wipe vs, rp, r2, hgd, fun sg3 hl3 hs3 A3 => ⟨?_, ?_⟩⟩
      · exact (wipe_same hl3 fun j hj => hs3 j fun z => hj (hsub j z)).trans (wipe_wipe vs)
      refine ⟨dl, D :: Z, O, r2, A3, (calm_wp hw.bind).mono (fun b hb H3 g3 k3 => ?_) fun e he => he⟩
      have A3' := A3.grow g3 k3
      have D3 : H2 D = some (.lst us) := g2 D _ hDu hDd (nt _)
      have D3' : H3 D = some (.lst us) := g3 D _ D3 hDd (nt _)
      have C3 : At G dl (D :: Z) O r sg H3 := A2.grow g3 k3
      cases b with
      | false =>
        refine ⟨hlt, acc, us, C3, (gH.trans g2).trans g3, wk.mono _ _ _ _ (g3.cut A2.dz) g3 (wk.mono _ _ _ _ (g2.cut A'.dz) g2 hB'), D3', rl.mono ((g2.trans g3).cut A'.dz), by omega, hb⟩
      | true =>
        refine ⟨dl, D :: Z, O, r2, A3', (calm_wp hb.bind).mono (fun y hy2 v H4 g4 k4 rp4 => ?_) fun e he => he⟩
        have D4 : H4 D = some (.lst us) := g4 D _ D3' hDd (nt _)
        have C4 : At G dl (D :: Z) O r sg H4 := C3.grow g4 k4
        have hz : us.length < sizeLine := by rw [sizeLine_eq, rl.length]; omega
        have gall : Grow dl H1 H4 := ((gH.trans g2).trans g3).trans g4
        have gcutD : ∀ xs, GrowS (cut H4 (D :: Z)) (cut (upd H4 D (.lst xs)) (D :: Z)) := fun xs b o e n => by
          obtain ⟨e1, e2⟩ := cut_some e
          have hbD : b ≠ D := fun z => e1 (by rw [z]; exact List.mem_cons_self)
          rw [cut_out e1, upd_ne hbD]; exact e2
        have gD : Grow dl H1 (upd H4 D (.lst (us ++ [v]))) := fun b o e n nt' => by
          rw [upd_ne (ne_of_none e hD)]; exact gall b o e n nt'
        have gl5 : GlOk G dl (upd H4 D (.lst (us ++ [v]))) := by
          obtain ⟨x1, y1, z1, hd1⟩ := k4.dice
          exact ⟨⟨x1, y1, z1, by rw [upd_ne fun e => hDd e.symm]; exact hd1⟩, k4.tab.upd D4 rfl⟩
        have A5 : At G dl (D :: Z) O r sg (upd H4 D (.lst (us ++ [v]))) := by
          refine ⟨gl5, C4.dz, fun b hb => ?_, C4.own, C4.inj, C4.len, fun j c e => ?_⟩
          · by_cases e : b = D
            · rw [e]; exact ⟨_, upd_same, NT.lst _⟩
            · obtain ⟨u, h1, h2⟩ := C4.live b hb
              exact ⟨u, by rw [upd_ne e]; exact h1, h2⟩
          · have := C4.slot j c e
            cases c with
            | un => trivial
            | val d =>
              obtain ⟨v, e, q⟩ := this
              exact ⟨v, e, q.mono (gcutD _)⟩
            | own d =>
              obtain ⟨a, ha, e, q, ko⟩ := this
              have haD : a ≠ D := fun z => hDZ (by rw [← z]; exact (A.own _ ha).1)
              refine ⟨a, ha, e, ?_, ko⟩
              rw [upd_ne haD]; exact q.mono (gcutD _)
        refine ⟨us, D4, hz, hlt, acc ++ [y], us ++ [v], A5, gD, wk.mono _ _ _ _ (fun b o e n => ?_) gD hB, upd_same, ?_, by rw [List.length_append]; simp; omega, ?_⟩
        · obtain ⟨e1, e2⟩ := cut_some e
          have hbD : b ≠ D := ne_of_none e2 hD
          have hbl : b ≠ dl := fun z => e1 (by rw [z]; exact A.dz)
          rw [cut_out (by rw [List.mem_cons, not_or]; exact ⟨hbD, e1⟩)]
          exact gD b o e2 hbl n
        · exact RepL.append (rl.mono ((((g2.trans g3).trans g4).cut A'.dz).trans (gcutD _))) (RepL.cons (rp4.mono (gcutD _)) RepL.nil)
        · exact hy2.bind.thn fun ys hys => by rw [List.append_assoc]; exact hys
  · have e : i = ds.length := by omega
    subst e
    rw [List.drop_length] at hw
    refine .inl ⟨wk.stop _ _ H' hB' (Nat.le_refl _), ?_⟩
    have hw2 : ∀ p us H2, Grow dl H H2 → GlOk G dl H2 → H2 p = none → RepL G dl (cut H2 Z) (acc ++ []) us → Q (.ref p) (upd H2 p (.lst us)) := hw
    rw [List.append_nil] at hw2
    have := hw2 D us (cut H' [D]) (fun b o e n nt' => ?_) ?_ (cut_in (by simp)) ?_
    · rw [upd_cut hDu] at this; exact this
    · have e1 := g1 b o e n nt'
      rw [cut_out (by simpa using ne_of_none e1 hD)]
      exact gH b o e1 n nt'
    · obtain ⟨x1, y1, z1, hd1⟩ := A'.gl.dice
      exact ⟨⟨x1, y1, z1, by rw [cut_out (by simpa using fun e : dl = D => hDd e.symm)]; exact hd1⟩, A'.gl.tab.cut hDu rfl⟩
    · refine rl.mono fun b o e n => ?_
      obtain ⟨e1, e2⟩ := cut_some e
      rw [List.mem_cons, not_or] at e1
      rw [cut_out e1.2, cut_out (by simpa using e1.1)]
      exact e2
abbrev DTs (X : Cx) (G : Gm) (W : WX) (ifs : List Expr) (f : LE → R Bool) : Prop := PTs X ifs (tT G W f)
theorem dts_nil : DTs X G W [] yesT := ⟨fun pins s sg H Q I ⟨dl, Z, O, r, A, q⟩ => pts_nil.run pins s sg H Q I (q H (.refl _ _) A.gl)⟩
theorem dts_one {c : Expr} (h : DT X G W c tt) : DTs X G W [c] tt := pts_one h
/-- [elt for tg in iter if ..] -/
theorem df_comp {elt : Expr} {ifs : List Expr} {scope : Scope} {own : List (Str × Nat)} {pos : Pos} (hc : X.calm = true) (hN : X.N.Nodup) (hi : DIe X G W tg iter fi) (ok : BlkOk X.N X.env.scope scope own)
    (hg : ∀ (s : Shared) (H : Hp) (C : Addr) (cl : List (Str × Addr)) (fp : List Addr), DG (X.blk s H scope (compEnvC scope cl C X.env) fp) G tg gd is)
    (ht : ∀ (s : Shared) (H : Hp) (C : Addr) (cl : List (Str × Addr)) (fp : List Addr), DTs (X.blk s H scope (compEnvC scope cl C X.env) fp) G W0 ifs tt)
    (he : ∀ (s : Shared) (H : Hp) (C : Addr) (cl : List (Str × Addr)) (fp : List Addr), DE (X.blk s H scope (compEnvC scope cl C X.env) fp) G W0 elt te)
    (hsub : ∀ j ∈ is, j ∈ own.map (·.2)) (hs : ∀ x, foldedSetIterable iter X.env x = pure x := by intro _; rfl) :
    DF X G W (.ListComp elt [⟨tg, iter, ifs, 0⟩] scope pos) (compF fi gd tt te (own.map (·.2))) := PE_imp (pe_lc hc hN hi ok hg ht he hs) fun sg H Q h => lc_core_d hsub h
/-- y = [elt for tg in iter if ..], y a plain local, on one line: y one's own -/
theorem ds_setcomp (i : Nat) {y : Str} {py : Pos} {elt : Expr} {ifs : List Expr} {scope : Scope} {own : List (Str × Nat)} {pos spos : Pos} (hc : X.calm = true) (hN : X.N.Nodup) (hi : DIe X G W tg iter fi) (ok : BlkOk X.N X.env.scope scope own)
    (hg : ∀ (s : Shared) (H : Hp) (C : Addr) (cl : List (Str × Addr)) (fp : List Addr), DG (X.blk s H scope (compEnvC scope cl C X.env) fp) G tg gd is)
    (ht : ∀ (s : Shared) (H : Hp) (C : Addr) (cl : List (Str × Addr)) (fp : List Addr), DTs (X.blk s H scope (compEnvC scope cl C X.env) fp) G W0 ifs tt)
    (he : ∀ (s : Shared) (H : Hp) (C : Addr) (cl : List (Str × Addr)) (fp : List Addr), DE (X.blk s H scope (compEnvC scope cl C X.env) fp) G W0 elt te)
    (hsub : ∀ j ∈ is, j ∈ own.map (·.2)) (hti : i ≠ 1000000) (hsw : swapsWith (.ListComp elt [⟨tg, iter, ifs, 0⟩] scope pos) (some (.Name y py)) spos.line X.env = pure true)
    (hy : X.N[i]? = some y := by rfl) (hyl : X.env.scope.names.lookup y = some .local := by rfl) (hs : ∀ x, foldedSetIterable iter X.env x = pure x := by intro _; rfl) :
    DS X G W (.Assign [.Name y py] (.ListComp elt [⟨tg, iter, ifs, 0⟩] scope pos) spos) (setK i (ownK (compF fi gd tt te (own.map (·.2))))) := PS_imp (ps_setLc hc hN hy hyl hsw hi ok hg ht he hs) fun De sg H ⟨dl, Z, O, r, A, q⟩ => by
  refine lc_core_d (W := W) hsub ⟨dl, Z, O, r, A, (onS_wp q).bind.bind.mono (fun ds hd p us H1 g1 k1 hp rl => ?_) fun e he => spost_ex A he⟩
  exact hd _ _ _ _ (Stp.trans A (Stp.of_grow g1 k1) (Stp.new (A.grow g1 k1) hp hti)) ((A.grow g1 k1).set_own i hp ⟨us, rfl, rl⟩ ⟨rfl, hti⟩)
end
end DL
set_option Elab.async false
set_option linter.all false
set_option maxRecDepth 100000
namespace DL
open PySem L2 PySem.Spec PyProof.Rows
def appS (i : Nat) (f : LE → R D) : LE → R Out := fun r => match r[i]? with
  | some (.own (.lst ds)) => (f r).onS r fun d => if ds.length < 16777216 then .ok (.nx (r.set i (.own (.lst (ds ++ [d]))))) else .stuck
  | _ => .stuck
section
variable {X : Cx} {G : Gm} {W : WX} {ex ek : Expr} {f k : LE → R D} {pos apos p p1 p2 : Pos} {x m : Str}
theorem ds_append (i : Nat) (ha : DE X G W ex f) (hN : X.N[i]? = some x := by rfl) (hv : Vis X.env.scope x := by first | exact Or.inl rfl | exact Or.inr (Or.inl rfl) | exact Or.inr (Or.inr rfl)) (hd : (x == ("__debug__" : Str)) = false := by decide)
    (hcd : (x == ("__classdict__" : Str)) = false := by decide) (hs : swapsWith (.Call (.Attribute (.Name x p1) "append" apos) [ex] [] p) none pos.line X.env = pure false := by rfl)
    (hbase : attributeBase (.Name x p1) "append" X.env (eval (.Name x p1) X.env) = eval (.Name x p1) X.env := by rfl)
    (hfew : ((backTo p (starEach [ex] X.env)).all (fun x => !x.1) && (backToKw p (keywordEach [] X.env)).all (fun x => x.1.isSome)
      && decide ([ex].length + ([] : List Keyword).length + (if ([] : List Keyword).isEmpty then 0 else 1) < 30)) = true := by rfl)
    (hline : (apos.endLine == p.line) = true := by rfl) (hst : starEach [ex] X.env = (false, eval ex X.env) :: starEach [] X.env := by rfl) :
    DS X G W (.Expr (.Call (.Attribute (.Name x p1) "append" apos) [ex] [] p) pos) (appS i f) := by
  refine PS_imp (ps_expr (pe_bm PySem.F.plainAttrs_list PySem.F.slot_list_append PySem.F.type_list_append mt_append (pe_var hN hv hd hcd) (pa_cons ha pa_nil hst) hbase hfew hline hst (by rfl)) hs) fun De sg H ⟨dl, Z, O, r, A, q⟩ => ?_
  unfold appS at q
  split at q
  case h_2 => exact q.elim
  rename_i ds hr
  obtain ⟨a, ha', hs', ⟨vs, e, rl⟩, ko⟩ := A.slot i _ hr
  obtain ⟨haz, had⟩ := A.own _ ha'
  refine ⟨.ref a, hs', .inl ⟨rfl, vs, SqL.of e⟩, dl, Z, O, r, A, (onS_wp q).mono (fun d hd' v H1 g1 k1 rp => ?_) fun e he => spost_ex A he⟩
  have A1 := A.grow g1 k1
  have e1 : H1 a = some (.lst vs) := g1 a _ e had (fun ps z => by cases z)
  split at hd'
  case isFalse => exact hd'.elim
  rename_i hlen
  refine ⟨a, vs, v, rfl, rfl, e1, by rw [sizeLine_eq, rl.length]; exact hlen, ?_⟩
  refine hd' Z O sg _ (Stp.trans A (Stp.of_grow g1 k1) (Stp.write ha' fun ps z => by cases z)) (A1.write hr ha' hs' ⟨_, rfl, RepL.append (rl.mono (g1.cut A.dz)) (RepL.cons rp RepL.nil)⟩ rfl ko)
def errS (e : Exc) : LE → R Out := fun r => .ok (.ex e r)
theorem ds_raise {bmB : List Value} {B newId initId : String} {C : Addr} {s : Str} {j : Nat} (c : Nat) (tk : Takes X W) (hc : X.calm = true) (F : PySem.ExcBaseFacts B newId initId bmB) (hC : G.xcls c = C) (hx : G.xfld c = none) (hq : PySem.W.excIn X.K C bmB newId = true) (gC : X.mg x = some (.ref C)) (kC : PySem.W.keepIn X.K (.ref C) = true) (rs : Raises X (.ref C))
    (hg : Gl X x := by rfl) (hdb : (x == ("__debug__" : Str)) = false := by decide) : DS X G W (.Raise (some (.Call (.Name x p) [.Constant (.str s) j p2] [] p1)) none pos) (errS ⟨c, .non⟩) :=
  PS_imp (LG.ps_raise hc tk (L2N.pmk_own F hq gC kC rs hg hdb)) fun De sg H ⟨dl, Z, O, r, A, q⟩ => by
    subst hC
    exact q Z O sg H _ none Stp.refl A ⟨rfl, by rw [hx]⟩
/-- .. in an except suite -/
theorem ds_raiseH {bmB : List Value} {B newId initId : String} {C : Addr} {s : Str} {j : Nat} (c : Nat) (tk : Takes X W) (hc : LG.HotG X) (F : PySem.ExcBaseFacts B newId initId bmB) (hC : G.xcls c = C) (hx : G.xfld c = none) (hq : PySem.W.excIn X.K C bmB newId = true) (gC : X.mg x = some (.ref C)) (kC : PySem.W.keepIn X.K (.ref C) = true) (rs : Raises X (.ref C))
    (hg : Gl X x := by rfl) (hdb : (x == ("__debug__" : Str)) = false := by decide) : DS X G W (.Raise (some (.Call (.Name x p) [.Constant (.str s) j p2] [] p1)) none pos) (errS ⟨c, .non⟩) :=
  PS_imp (LG.ps_raiseG hc tk (L2N.pmk_own F hq gC kC rs hg hdb)) fun De sg H ⟨dl, Z, O, r, A, q⟩ => by
    subst hC
    exact q Z O sg H _ none Stp.refl A ⟨rfl, by rw [hx]⟩
end
end DL
set_option Elab.async false
set_option linter.all false
set_option maxRecDepth 100000
namespace DL
open PySem L2 PySem.Spec PyProof.Rows
/-- a def of n arguments and m names, by its body -/
def runF (n m : Nat) (F : LE → R Out) (ds : List D) : R D := if ds.length = n then (do
  match ← (F (ds.map Cell.val ++ List.replicate (m - n) Cell.un)).calm with
  | .nx _ => .ok .non
  | .rt d => .ok d
  | .ex e _ => .err e
  | _ => .stuck) else .stuck
theorem runF_len {n m : Nat} {F : LE → R Out} : ∀ ds Q E, Wp (runF n m F ds) Q E → ds.length = n := fun ds Q E h => by
  unfold runF at h
  split at h
  · assumption
  · exact h.elim
/-- the wish of a def's body -/
abbrev WD (E : XK) : WX := fun cls d _ H' => E cls d H'
section
variable {P : Program} {w : World} {K : PySem.W.Frag} {mg : Str → Option Value} {base : Heap} {G : Gm} {x qual : Str} {st : Stmt} {f : Addr} {fd : FuncData} {N ps : List Str} {k n m c nf : Nat} {F : LE → R Out}
abbrev cxD (P : Program) (w : World) (K : PySem.W.Frag) (mg : Str → Option Value) (base : Heap) (N : List Str) (qual : Str) (st : Stmt) (f : Addr) (cdv : Value) (A : Around) (outer : List Env) (s : Shared) (H : Hp) (E : XK) : Cx :=
  cxOf (LG.CX P w) P w K mg base N qual (defScope st) f cdv A outer s H E
theorem takes_cxD {cdv A outer s H E} : Takes (cxD P w K mg base N qual st f cdv A outer s H E) (WD E) := LG.takes_of rfl rfl rfl rfl
theorem owns_cxD {cdv A outer s H E} : PassesOwn (model P w) (cxD P w K mg base N qual st f cdv A outer s H E).A (cxD P w K mg base N qual st f cdv A outer s H E).env (cxD P w K mg base N qual st f cdv A outer s H E).xe := passes_of rfl
theorem start_get {vs : List V} {ds : List D} {dl : Addr} {Z : List Addr} {H : Hp} (rl : RepL G dl (cut H Z) ds vs) (hl : vs.length = n) (hN : N.length = m) {O : List (Nat × Addr)} : ∀ i c, (ds.map Cell.val ++ List.replicate (m - n) Cell.un)[i]? = some c → Slot G dl Z O H i (L2.start N vs)[i]? c := fun i c e => by
  have hl2 := rl.length
  by_cases hi : i < ds.length
  · rw [List.getElem?_append_left (by simpa using hi), List.getElem?_map, List.getElem?_eq_getElem hi] at e
    cases e
    obtain ⟨v, h1, h2⟩ := RepL.getD ds vs i ds[i] rl (by simp)
    refine ⟨v, ?_, h2⟩
    unfold L2.start
    rw [List.getElem?_append_left (by rw [List.length_map]; omega), List.getElem?_map, h1]
    rfl
  · rw [List.getElem?_append_right (by simpa using hi), List.getElem?_replicate] at e
    split at e
    · cases e; trivial
    · cases e
theorem fun_okG {qual : Str} {sp : Sp} (Fn : Fun K x qual st f fd) (S : FnScope N ps (defScope st)) (len : ∀ vs H Q E, sp vs H Q E → vs.length = ps.length)
    (hbody : ∀ (cdv : Value) (A : Around) (outer : List Env) (s : Shared) (H : Hp) (vs : List V) (Q : VK) (E : XK), Room k (A.deeper (envOfC qual (defScope st) s.heap.objs.size f cdv)) → sp vs H Q E →
      ∃ t, PSs (cxD P w K mg base N qual st f cdv A outer s H E) (defBody st) t ∧ t { nx := fun _ H' => Q .non H', rt := Q } (L2.start N vs) H) : FnOk P w K mg base (LG.CX P w) (k + 1) f fd ps sp := by
  obtain ⟨oc, od, kV, doc, pm, an, cdv, ct, osl, rfl, lk, hcd⟩ := Fn.ex
  exact fn_of lk hcd S len fun A outer s H vs Q E hr hsp => hbody cdv A outer s H vs Q E hr hsp
theorem fnOk_of (Fn : Fun K x qual st f fd) (S : FnScope N ps (defScope st)) (hn : ps.length = n) (hm : N.length = m)
    (hb : ∀ cdv A outer s H E, Room k (A.deeper (envOfC qual (defScope st) s.heap.objs.size f cdv)) → DSs (cxD P w K mg base N qual st f cdv A outer s H E) G (WD E) (defBody st) F) :
    FnOk P w K mg base (LG.CX P w) (k + 1) f fd ps (spD G n (runF n m F)) := by
  refine fun_okG Fn S (fun vs H Q E h => by rw [hn]; exact h.1) fun cdv A outer s H vs Q E hr h => ⟨_, hb cdv A outer s H E hr, ?_⟩
  obtain ⟨hl, dl, Z, ds, gl, dz, live, rl, hw⟩ := h
  unfold runF at hw
  split at hw
  case isFalse => exact hw.elim
  rename_i hdl
  have hpl : ps.length ≤ N.length := by have := congrArg List.length S.pre; rw [List.length_take] at this; omega
  have A0 : At G dl Z [] (ds.map Cell.val ++ List.replicate (m - n) Cell.un) (L2.start N vs) H := by
    refine ⟨gl, dz, live, fun p hp => (by cases hp), fun p hp => (by cases hp), ?_, start_get rl hl hm⟩
    unfold L2.start
    rw [List.length_append, List.length_map, List.length_replicate, List.length_append, List.length_map, List.length_replicate]
    omega
  have gr : ∀ {Z' O' H'}, Stp dl Z [] H Z' O' H' → Grow dl H H' := fun s a o e n nt => s.fr a o e n (fun p hp => (by cases hp)) nt
  have gz : ∀ {Z' O' H'}, Stp dl Z [] H Z' O' H' → GrowS (cut H' Z') (cut H' Z) := fun s => cut_sub fun a ha => s.zk a ha fun p hp => (by cases hp)
  refine ⟨dl, Z, [], _, A0, (calm_wp hw.bind).thn fun o ho => ?_⟩
  cases o with
  | nx r => exact fun Z' O' sg' H' s A' => ho _ _ (gr s) A'.gl Rep.non_
  | rt d => exact fun Z' O' v H' s g rp => ho _ _ (gr s) g (rp.mono (gz s))
  | ex e r => exact fun Z' O' sg' H' cls dx s A' xr => ho cls dx H' (gr s) A'.gl (xr.mono (gz s))
  | bk r => exact ho.elim
  | ct r => exact ho.elim
theorem fnD_of (Fn : Fun K x qual st f fd) (S : FnScope N ps (defScope st)) (bd : Binds K fd ps []) (hx : mg x = some (.ref f)) (hn : ps.length = n) (hm : N.length = m)
    (hb : ∀ cdv A outer s H E, Room k (A.deeper (envOfC qual (defScope st) s.heap.objs.size f cdv)) → DSs (cxD P w K mg base N qual st f cdv A outer s H E) G (WD E) (defBody st) F) :
    FnD P w K mg base G (k + 1) x f n (runF n m F) := ⟨⟨fd, ps, hn, fnOk_of Fn S hn hm hb, bd⟩, runF_len, Fn.kp, hx⟩
end
end DL
set_option Elab.async false
set_option linter.all false
set_option maxRecDepth 100000
set_option maxHeartbeats 1000000
namespace DL
open PySem L2 LamX PySem.Spec PyProof.Rows
theorem codeN_ne {c P : Addr} {q : Str} (ps : Array Value) : CodeN c q P ≠ .tbl ps := fun z => by
  unfold CodeN at z
  cases z
theorem codeN_at {P : Program} {w : World} {H : Hp} {h : Heap} {c P2 : Addr} {q : Str} (hok : HOk P w H h) (e : H c = some (CodeN c q P2)) :
    (∃ (oc : Obj) (vs : Array Value) (t : Tok), h.get? c = some oc ∧ oc.data = .fields vs ∧ vs[1]? = some (.str q t)) ∧ PySem.W.CodeHd h c P2 := (hok c _ e).1
/-- the frame at hand: its code object c, the table at P -/
structure Mkr (X : Cx) (G : Gm) (c P : Addr) : Prop where
  code : X.env.code = .ref c
  mem : (P, X.env.qual) ∈ G.tabs ++ G.subs.map (·.2)
  bm0 : ∃ P0, X.base.BuiltinsAt X.mg P0
  hd : ∀ {pins : List (Addr × Obj)} {σ : L2.St} {H : Hp} {s : Shared}, Inv X pins σ H s → CT G.kd G.tabs G.subs H → PySem.W.CodeHd s.heap c P
theorem mk_def {X : Cx} {G : Gm} {c P : Addr} (TB : TabB X.base X.mg c P) (hcode : X.env.code = .ref c) (hm : (P, X.env.qual) ∈ G.tabs) : Mkr X G c P :=
  ⟨hcode, List.mem_append_left _ hm, ⟨P, TB.bm⟩, fun I _ => TB.code.keeps I.bk⟩
/-- a frame of a code object made since -/
theorem mk_sub {X Y : Cx} {G : Gm} {c P c' P2 : Addr} {q : Str} (M : Mkr X G c P) (hb : Y.base = X.base) (hmg : Y.mg = X.mg) (hcode : Y.env.code = .ref c') (hq : Y.env.qual = q) : Mkr Y (G.sub (c', P2, q)) c' P2 :=
  ⟨hcode, List.mem_append_right _ (by rw [hq]; exact List.mem_cons_self), by rw [hb, hmg]; exact M.bm0, fun I g => by
    obtain ⟨n, h⟩ := g.2 _ List.mem_cons_self
    exact (codeN_at I.hok h).2⟩
section
variable {X : Cx} {G : Gm} {c P : Addr} {pins : List (Addr × Obj)} {σ : L2.St} {H : Hp} {s : Shared}
theorem Mkr.tab (M : Mkr X G c P) (I : Inv X pins σ H s) (g : CT G.kd G.tabs G.subs H) : ∃ (C : List Cob) (ps : Array Value), CTC G.kd (G.tabs ++ G.subs.map (·.2)) C H ∧ H P = some (.tbl ps) ∧ s.heap.get? P = some { cls := .none, data := .fields ps } ∧ TriplesOk ps.toList ∧
    s.heap.BuiltinsAt X.mg P ∧ mainGlobals ≠ P ∧ ∀ (pos : Pos) (cv : Value), codeAmong pos ps.toList = some cv → ∃ c P2, cv = .ref c ∧ (c, nam_ X.env.qual (G.kd pos.line pos.col), pre_ X.env.qual (G.kd pos.line pos.col), P2) ∈ C := by
  obtain ⟨⟨C, hC⟩, _⟩ := id g
  obtain ⟨ps, h1, h2, h3⟩ := hC.tab P X.env.qual (.inl M.mem)
  have hP : s.heap.get? P = some { cls := .none, data := .fields ps } := I.hok P _ h1
  refine ⟨C, ps, hC, h1, hP, h2, ?_, fun z => ?_, h3⟩
  · obtain ⟨P0, bm, o, e1, e2, e3, _, e5, e6, e7, e8⟩ := M.bm0
    refine ⟨bm, o, e1, e2, e3, fun z => ?_, I.bk _ _ e5, e6, e7, e8⟩
    have e9 := I.bk _ _ e5
    rw [z, hP] at e9
    cases e9
    cases e8
  · obtain ⟨o, es, ep, e, hd, _⟩ := I.mod.glob.keeps I.bk
    rw [z, hP] at e
    cases e
    cases hd
/-- the maker's table has grown; the new code object and its empty table are known -/
theorem inv_code {q : Str} {P2 c' : Addr} {ps more : Array Value} {h' : Heap} {t' : Nat} (I : Inv X pins σ H s) (hP : H P = some (.tbl ps)) (kp : ∀ b o, b ≠ P → s.heap.get? b = some o → h'.get? b = some o)
    (hm : h'.get? P = some { cls := .none, data := .fields (ps ++ more) }) (hc : s.heap.objs.size ≤ c') (hn : ∃ (oc : Obj) (vs : Array Value) (t : Tok), h'.get? c' = some oc ∧ oc.data = .fields vs ∧ vs[1]? = some (.str q t))
    (hcd : PySem.W.CodeHd h' c' P2) (hP2 : s.heap.objs.size ≤ P2) (ht : h'.get? P2 = some { cls := .none, data := .fields #[] }) :
    Inv X pins σ (upd (upd (upd H P (.tbl (ps ++ more))) c' (CodeN c' q P2)) P2 (.tbl #[])) { s with heap := h', toks := t' } := by
  have nC : H c' = none := I.hok.fresh hc
  have nT : H P2 = none := I.hok.fresh hP2
  have cP2 : c' ≠ P2 := by obtain ⟨_, _, _, _, _, _, _, _, _, _, _, _, _, _, _, _, _, _, z⟩ := hcd; exact z
  have nPc : P ≠ c' := ne_of_none hP nC
  have nPt : P ≠ P2 := ne_of_none hP nT
  have hx : ∀ b, b ≠ P → b ≠ c' → b ≠ P2 → (upd (upd (upd H P (.tbl (ps ++ more))) c' (CodeN c' q P2)) P2 (.tbl #[])) b = H b := fun b h1 h2 h3 => by rw [upd_ne h3, upd_ne h2, upd_ne h1]
  have hxP : (upd (upd (upd H P (.tbl (ps ++ more))) c' (CodeN c' q P2)) P2 (.tbl #[])) P = some (.tbl (ps ++ more)) := by rw [upd_ne nPt, upd_ne nPc, upd_same]
  have hxc : (upd (upd (upd H P (.tbl (ps ++ more))) c' (CodeN c' q P2)) P2 (.tbl #[])) c' = some (CodeN c' q P2) := by rw [upd_ne cP2, upd_same]
  have oP : ∀ b u, H b = some u → (∀ z, u ≠ .tbl z) → b ≠ P := fun b u e n z => n ps (Option.some.inj (e.symm.trans (z ▸ hP)))
  have eP : ∀ b, H b = none → b ≠ P := fun b e z => by rw [z, hP] at e; cases e
  have ol : ∀ b o, s.heap.get? b = some o → b ≠ c' ∧ b ≠ P2 := fun b o e =>
    ⟨fun z => Nat.lt_irrefl _ (Nat.lt_of_lt_of_le (Heap.lt_size e) (z ▸ hc)), fun z => Nat.lt_irrefl _ (Nat.lt_of_lt_of_le (Heap.lt_size e) (z ▸ hP2))⟩
  have on : ∀ b u, H b = some u → b ≠ c' ∧ b ≠ P2 := fun b u e => ⟨ne_of_none e nC, ne_of_none e nT⟩
  refine I.step (g' := s.gens) (d' := s.drawn) (ch := []) (fun b z => absurd z (by simp)) (fun b o _ _ _ e n => kp b o (eP b n) e) (fun b o _ _ _ e n => ⟨o.slots, kp b o (eP b n) e⟩)
    (fun b o _ e n => (hx b (eP b n) (ol b o e).1 (ol b o e).2).trans n) (fun b o _ e => ?there) (fun b xs e => (hx b (oP b _ e fun _ z => by cases z) (on b _ e).1 (on b _ e).2).trans e)
    (fun b o u e => (hx b (oP b _ e fun _ z => by cases z) (on b _ e).1 (on b _ e).2).trans e) (fun b qs e => ?tbls) (fun m z => ?ns) (fun b u e => ?hok) I.bare
  case there =>
    by_cases z : b = P
    · exact ⟨_, z ▸ hm⟩
    · exact ⟨o, kp b o z e⟩
  case tbls =>
    by_cases z : b = P
    · subst z
      rw [hP] at e
      cases e
      exact ⟨more, hxP⟩
    · exact ⟨#[], by rw [hx b z (on b _ e).1 (on b _ e).2, e]; simp⟩
  case ns =>
    obtain ⟨ob, es, ep, e, r⟩ := z
    exact ⟨ob, es, ep, kp _ _ (eP _ I.free) e, r⟩
  case hok =>
    by_cases z1 : b = P2
    · subst z1
      rw [upd_same] at e
      cases e
      exact ht
    by_cases z2 : b = c'
    · subst z2
      rw [hxc] at e
      cases e
      obtain ⟨oc, vs, t, e1, e2, e3⟩ := hn
      refine ⟨⟨⟨oc, vs, t, e1, e2, e3⟩, hcd⟩, ⟨oc, e1⟩, fun h1 h2 hq st => ?_⟩
      obtain ⟨⟨oc, vs, t, a1, a2, a3⟩, o, us, file, tf, flags, tg, inF, text, tt, b1, b2⟩ := hq
      exact ⟨⟨oc, vs, t, st _ a1, a2, a3⟩, o, us, file, tf, flags, tg, inF, text, tt, st _ b1, b2⟩
    by_cases z3 : b = P
    · subst z3
      rw [hxP] at e
      cases e
      exact hm
    rw [hx b z3 z2 z1] at e
    refine (I.hok b u e).stay (fun d v hd y => kp d v ?_ y) (fun d y => (hx d (oP d _ y fun _ z => by cases z) (on d _ y).1 (on d _ y).2).trans y) fun d xs y => (hx d (oP d _ y fun _ z => by cases z) (on d _ y).1 (on d _ y).2).trans y
    rcases hd with y | y
    · rw [y]; exact z3
    · exact oP d _ y fun _ z => by cases z
/-- .. and all tables stay well -/
theorem ct_code {C : List Cob} {ps : Array Value} {c' P2 : Addr} {pos : Pos} (hC : CTC G.kd (G.tabs ++ G.subs.map (·.2)) C H) (hm : (P, X.env.qual) ∈ G.tabs ++ G.subs.map (·.2)) (hP : H P = some (.tbl ps)) (ht : TriplesOk ps.toList) (nC : H c' = none) (nT : H P2 = none) (cP2 : c' ≠ P2)
    (h3 : ∀ (pos : Pos) (cv : Value), codeAmong pos ps.toList = some cv → ∃ c P2, cv = .ref c ∧ (c, nam_ X.env.qual (G.kd pos.line pos.col), pre_ X.env.qual (G.kd pos.line pos.col), P2) ∈ C) :
    CTC G.kd (G.tabs ++ G.subs.map (·.2)) ((c', nam_ X.env.qual (G.kd pos.line pos.col), pre_ X.env.qual (G.kd pos.line pos.col), P2) :: C)
      (upd (upd (upd H P (.tbl (ps ++ #[rawInt pos.line, rawInt pos.col, .ref c']))) c' (CodeN c' (nam_ X.env.qual (G.kd pos.line pos.col)) P2)) P2 (.tbl #[])) := by
  have nPc : P ≠ c' := ne_of_none hP nC
  have nPt : P ≠ P2 := ne_of_none hP nT
  have eL : (ps ++ #[rawInt pos.line, rawInt pos.col, .ref c']).toList = ps.toList ++ [rawInt pos.line, rawInt pos.col, .ref c'] := by simp
  have old : ∀ p q, TQ (G.tabs ++ G.subs.map (·.2)) C p q → p ≠ P2 := fun p q h z => by
    obtain ⟨us, e, _⟩ := hC.tab p q h
    rw [z, nT] at e
    cases e
  have tq : ∀ p q, TQ (G.tabs ++ G.subs.map (·.2)) ((c', nam_ X.env.qual (G.kd pos.line pos.col), pre_ X.env.qual (G.kd pos.line pos.col), P2) :: C) p q → (p = P2 ∧ q = pre_ X.env.qual (G.kd pos.line pos.col)) ∨ TQ (G.tabs ++ G.subs.map (·.2)) C p q := fun p q h => by
    rcases h with h | ⟨d, n, h⟩
    · exact .inr (.inl h)
    · rcases List.mem_cons.mp h with z | z
      · cases z
        exact .inl ⟨rfl, rfl⟩
      · exact .inr (.inr ⟨d, n, z⟩)
  refine ⟨fun k hk => ?_, fun p q h => ?_, fun p q q' h h' => ?_⟩
  · rcases List.mem_cons.mp hk with z | z
    · subst z
      show upd _ P2 _ c' = _
      rw [upd_ne cP2, upd_same]
    · have e := hC.obj k z
      rw [upd_ne (ne_of_none e nT), upd_ne (ne_of_none e nC), upd_ne (fun y => by rw [y, hP] at e; exact absurd (Option.some.inj e).symm (codeN_ne ps)), e]
  · rcases tq p q h with ⟨rfl, rfl⟩ | h
    · refine ⟨#[], upd_same, True.intro, fun pos' cv hc => ?_⟩
      have z : codeAmong pos' [] = some cv := hc
      simp [codeAmong] at z
    · obtain ⟨us, e1, e2, e3⟩ := hC.tab p q h
      by_cases z : p = P
      · subst z
        have hq : q = X.env.qual := hC.unq p q X.env.qual h (.inl hm)
        subst hq
        rw [hP] at e1
        cases e1
        refine ⟨_, by rw [upd_ne nPt, upd_ne nPc, upd_same], by rw [eL]; exact PySem.TriplesOk_snoc _ _ _ _ ht, fun pos' cv hc => ?_⟩
        rw [eL] at hc
        rcases NdefX.among_app2 _ ht hc with z | ⟨z, z1, z2⟩
        · obtain ⟨d, P3, y1, y2⟩ := e3 pos' cv z
          exact ⟨d, P3, y1, List.mem_cons_of_mem _ y2⟩
        · refine ⟨c', P2, z, ?_⟩
          rw [z1, z2]
          exact List.mem_cons_self
      · refine ⟨us, by rw [upd_ne (old p q h), upd_ne (ne_of_none e1 nC), upd_ne z, e1], e2, fun pos' cv hc => ?_⟩
        obtain ⟨d, P3, y1, y2⟩ := e3 pos' cv hc
        exact ⟨d, P3, y1, List.mem_cons_of_mem _ y2⟩
  · rcases tq p q h with ⟨y1, y2⟩ | y
    · rcases tq p q' h' with ⟨_, z2⟩ | z
      · rw [y2, z2]
      · exact absurd y1 (old p q' z)
    · rcases tq p q' h' with ⟨z1, z2⟩ | z
      · exact absurd z1 (old p q y)
      · exact hC.unq p q q' y z
theorem ct_ext {ps more : Array Value} {c' P2 : Addr} {q : Str} (hP : H P = some (.tbl ps)) (nC : H c' = none) (nT : H P2 = none) : ExtN H (upd (upd (upd H P (.tbl (ps ++ more))) c' (CodeN c' q P2)) P2 (.tbl #[])) := fun b o e n => by
  rw [upd_ne (ne_of_none e nT), upd_ne (ne_of_none e nC), upd_ne (fun z => n ps (by rw [z, hP] at e; exact (Option.some.inj e).symm)), e]
/-- a table of the frame entered is one of those -/
theorem ct_sub {C : List Cob} {c' P2 : Addr} {n q : Str} {H1 : Hp} (hC : CTC G.kd (G.tabs ++ G.subs.map (·.2)) C H1) (h : (c', n, q, P2) ∈ C) (h2 : ∀ x ∈ G.subs, ∃ n, H1 x.1 = some (CodeN x.1 n x.2.1)) : CT G.kd (G.sub (c', P2, q)).tabs (G.sub (c', P2, q)).subs H1 := by
  have tq : ∀ p r, TQ (G.tabs ++ ((c', P2, q) :: G.subs).map (·.2)) C p r → TQ (G.tabs ++ G.subs.map (·.2)) C p r := fun p r z => by
    rcases z with z | z
    · rcases List.mem_append.mp z with z | z
      · exact .inl (List.mem_append_left _ z)
      · rcases List.mem_cons.mp z with z | z
        · cases z
          exact .inr ⟨c', n, h⟩
        · exact .inl (List.mem_append_right _ z)
    · exact .inr z
  refine ⟨⟨C, hC.obj, fun p r z => hC.tab p r (tq p r z), fun p r r' z z' => hC.unq p r r' (tq p r z) (tq p r' z')⟩, fun x hx => ?_⟩
  rcases List.mem_cons.mp hx with z | z
  · subst z
    exact ⟨n, hC.obj _ h⟩
  · exact h2 x z
end
end DL
set_option Elab.async false
set_option linter.all false
set_option maxRecDepth 100000
set_option maxHeartbeats 1000000
namespace DL
open PySem L2 LamX PySem.Spec PyProof.Rows
section
variable {M : Model} {A : Around} {E : Value → Shared → Prop} {Q : Value → Shared → Prop} {s : Shared} {env : Env} {c P : Addr} {ps : Array Value} {mg : Str → Option Value}
/-- a lambda's function object, its code object new: the new one's own table is told too -/
theorem lam_fresh {nm ql : Str} {prm : Arguments} {bd : Expr} {sc : Scope} {cl : List (Str × Addr)} {at_ : Pos} {ln : Nat} (k1 : closureFor sc env = pure cl) (k2 : env.globals = mainGlobals) (k3 : s.heap.Ns mainGlobals mg) (k4 : env.code = .ref c)
    (k5 : PySem.W.CodeHd s.heap c P) (k6 : s.heap.get? P = some { cls := .none, data := .fields ps }) (k7 : TriplesOk ps.toList) (k8 : codeAmong at_ ps.toList = none) (k9 : mainGlobals ≠ P) (k10 : s.heap.BuiltinsAt mg P)
    (go : ∀ (c' P2 : Addr) (ctv : Value) (g : Heap) (tk : Tok), Heap.ExtBut P s.heap g → s.heap.objs.size ≤ c' → c' < g.objs.size → g.CodeRec (.ref c') ql → g.get? P = some { cls := .none, data := .fields (ps ++ #[rawInt at_.line, rawInt at_.col, .ref c']) } →
      s.heap.objs.size ≤ P2 → PySem.W.CodeHd g c' P2 → g.get? P2 = some { cls := .none, data := .fields #[] } →
      Q (.ref g.objs.size) { s with heap := g.push (PySem.W.kla_obj nm ql prm bd sc cl ((mg "__name__").getD .none) c' ctv), toks := tk }) :
    wpAny M A (makeFunction nm ql prm (.expr bd) sc env [] [] [] at_ ln) Q E s := by
  obtain ⟨bm, ob, b1, b2, _, b3, b4, b5, b6, b7⟩ := k10
  rw [makeFunction_eq]
  simp only [List.zip_nil_right, List.filterMap_nil, List.isEmpty_nil, if_true, pure_bind]
  unfold makeTail
  rw [k1, k2]
  refine wpAny_bind (wpAny_pure ?_)
  have fin : ∀ (h0 : Heap) (ctv : Value), (∀ b o, s.heap.get? b = some o → h0.get? b = some o) → s.heap.objs.size ≤ h0.objs.size → h0.Ns mainGlobals mg → ∀ (s1 : Shared), s1 = { s with heap := h0, toks := s1.toks } →
      wpAny M A (functionCode env at_ ln nm ql prm sc (.expr bd)) (fun cd s2 => ∃ (c' P2 : Addr) (g : Heap) (tk : Tok), cd = .ref c' ∧ s2 = { s with heap := g, toks := tk } ∧ Heap.ExtBut P s.heap g ∧ s.heap.objs.size ≤ c' ∧ c' < g.objs.size ∧ g.CodeRec (.ref c') ql ∧
        g.get? P = some { cls := .none, data := .fields (ps ++ #[rawInt at_.line, rawInt at_.col, .ref c']) } ∧ s.heap.objs.size ≤ P2 ∧ PySem.W.CodeHd g c' P2 ∧ g.get? P2 = some { cls := .none, data := .fields #[] } ∧ g.Ns mainGlobals mg) E s1 := fun h0 ctv e0 z0 n0 s1 es => by
    have eh : s1.heap = h0 := by rw [es]
    have a1 := k5.keeps e0
    have a2 := e0 _ _ k6
    rw [← eh] at a1 a2 n0 z0
    refine wpAny_functionCodeX k4 (a1.code a2 k7) (a1.tab a2) k8 fun c' g tk hx hge hlt _ hrec htb hnew => ?_
    obtain ⟨P2, y1, y2, y3⟩ := hnew
    refine ⟨c', P2, g, tk, rfl, by rw [es], fun b o hb e => hx b o hb (by rw [eh]; exact e0 _ _ e), Nat.le_trans z0 hge, hlt, hrec, htb.2, Nat.le_trans z0 y1, PySem.W.CodeHd.of y2 y3, y3.2, n0.extBut hx k9⟩
  cases cl with
  | nil =>
    simp only [List.isEmpty_nil, if_true]
    refine wpAny_bind (wpAny_pure (wpAny_bind (wpAny_mono (fin s.heap .none (fun _ _ e => e) (Nat.le_refl _) k3 s rfl) (fun cd s2 hq => ?_) fun _ _ e => e)))
    obtain ⟨c', P2, g, tk, rfl, rfl, q1, q2, q3, q4, q5, q6, q7, q8, q9⟩ := hq
    refine wpAny_bind (wpAny_builtinsFor q9 b1 b2 (q1 _ _ b3 b4) b5 b6 b7 (wpAny_bind (wpAny_nsGet q9 ?_)))
    exact wpAny_bind (wpAny_pure (wpAny_newObj_type (go c' P2 .none g tk q1 q2 q3 q4 q5 q6 q7 q8) (by size_fits)))
  | cons x xs =>
    simp only [List.isEmpty_cons, Bool.false_eq_true, if_false]
    refine wpAny_bind (wpAny_newTextTuple (wpAny_bind (wpAny_mono (fin _ .none (fun b o e => Heap.get?_push_of_some _ e) (by rw [Heap.size_push]; omega) (k3.push _) _ rfl) (fun cd s2 hq => ?_) fun _ _ e => e)))
    obtain ⟨c', P2, g, tk, rfl, rfl, q1, q2, q3, q4, q5, q6, q7, q8, q9⟩ := hq
    refine wpAny_bind (wpAny_builtinsFor q9 b1 b2 (q1 _ _ b3 b4) b5 b6 b7 (wpAny_bind (wpAny_nsGet q9 ?_)))
    exact wpAny_bind (wpAny_pure (wpAny_newObj_type (go c' P2 _ g tk q1 q2 q3 q4 q5 q6 q7 q8) (by size_fits)))
end
section
variable {X : Cx} {G : Gm} {c P : Addr} {pins : List (Addr × Obj)} {σ : L2.St} {H : Hp} {s : Shared}
/-- the function f made of a lambda here: its code object c' with the table P2 -/
structure LamMade (X : Cx) (G : Gm) (H : Hp) (pins : List (Addr × Obj)) (σ : L2.St) (params : Arguments) (body : Expr) (scope : Scope) (f c' P2 : Addr) (pm ctv : Value) (H1 : Hp) (s' : Shared) : Prop where
  inv : Inv X pins σ H1 s'
  ext : ExtN H H1
  tab : CT G.kd (G.sub (c', P2, X.env.qual ++ "<lambda>" ++ ".<locals>.")).tabs (G.sub (c', P2, X.env.qual ++ "<lambda>" ++ ".<locals>.")).subs H1
  obj : s'.heap.get? f = some (PySem.W.kla_obj "<lambda>" (X.env.qual ++ "<lambda>") params body scope (cloFrom X.env.cells scope.names []) pm c' ctv)
  new : H1 f = none
  nfr : f ∉ frs X.stack
  cod : H1 c' = some (CodeN c' (X.env.qual ++ "<lambda>") P2)
theorem lam_make {params : Arguments} {body : Expr} {scope : Scope} {pos : Pos} {E : Value → Shared → Prop} {Q : Value → Shared → Prop} (I : Inv X pins σ H s) (M : Mkr X G c P) (g : CT G.kd G.tabs G.subs H) (hk : G.kd pos.line pos.col = true) (hdef : defaultsOf params X.env = ([], []))
    (hfree : ∀ y ∈ scope.names, y.2 = .free → ∃ c, X.env.cells.lookup y.1 = some c) (h : ∀ f c' P2 pm ctv H1 s', LamMade X G H pins σ params body scope f c' P2 pm ctv H1 s' → Q (.ref f) s') :
    wpAny (model X.prog X.w) X.A (eval (.Lambda params body scope pos) X.env) Q E s := by
  obtain ⟨C, ps, hC, hP, hP', ht, hb, hgP, h3⟩ := M.tab I g
  have hcd := M.hd I g
  refine PySem.W.kla_eval hdef ?_
  have nofr : ∀ f, s.heap.objs.size ≤ f → f ∉ frs X.stack := fun f hf z => (List.mem_cons.mp (I.stkSub _ z)).elim (fun e => Nat.lt_irrefl _ (Nat.lt_of_lt_of_le I.lt (e ▸ hf))) (I.nofs hf)
  cases hc : codeAmong pos ps.toList with
  | none =>
    refine lam_fresh (mg := X.mg) (closure_ok hfree) I.ok.glob (I.mod.glob.keeps I.bk) M.code hcd hP' ht hc hgP hb fun c' P2 ctv g' tk q1 q2 q3 q4 q5 q6 q7 q8 => ?_
    obtain ⟨c2, oc, vs, t, e2, hoc, hd, hv⟩ := q4
    cases e2
    have nC : H c' = none := I.hok.fresh q2
    have nT : H P2 = none := I.hok.fresh q6
    have cP2 : c' ≠ P2 := by obtain ⟨_, _, _, _, _, _, _, _, _, _, _, _, _, _, _, _, _, _, z⟩ := id q7; exact z
    have hsz : s.heap.objs.size ≤ g'.objs.size := Nat.le_trans q2 (Nat.le_of_lt q3)
    have ekd : nam_ X.env.qual (G.kd pos.line pos.col) = X.env.qual ++ "<lambda>" := by rw [hk]; rfl
    have ekp : pre_ X.env.qual (G.kd pos.line pos.col) = X.env.qual ++ "<lambda>" ++ ".<locals>." := by rw [hk]; rfl
    have hC1 := ct_code (X := X) (G := G) (pos := pos) hC M.mem hP ht nC nT cP2 h3
    rw [ekd, ekp] at hC1
    have hE := ct_ext (ps := ps) (more := #[rawInt pos.line, rawInt pos.col, .ref c']) (c' := c') (P2 := P2) (q := X.env.qual ++ "<lambda>") hP nC nT
    have I1 := inv_code (t' := tk) (more := #[rawInt pos.line, rawInt pos.col, .ref c']) (q := X.env.qual ++ "<lambda>") (h' := g'.push (PySem.W.kla_obj "<lambda>" (X.env.qual ++ "<lambda>") params body scope (cloFrom X.env.cells scope.names []) ((X.mg "__name__").getD .none) c' ctv)) I hP
      (fun b o hb e => Heap.get?_push_of_some _ (q1 b o hb e)) (Heap.get?_push_of_some _ q5) q2 ⟨oc, vs, t, Heap.get?_push_of_some _ hoc, hd, hv⟩ (q7.keeps fun b o e => Heap.get?_push_of_some _ e) q6 (Heap.get?_push_of_some _ q8)
    refine h g'.objs.size c' P2 ((X.mg "__name__").getD .none) ctv _ _ ⟨I1, hE, ct_sub hC1 List.mem_cons_self fun x hx => ?_, Heap.get?_push_size _ rfl, ?_, nofr _ hsz, by rw [upd_ne cP2, upd_same]⟩
    · obtain ⟨n, e⟩ := g.2 x hx
      exact ⟨n, hE _ _ e codeN_ne⟩
    · have hl2 : P2 < g'.objs.size := Heap.lt_size q8
      rw [upd_ne (Nat.ne_of_gt hl2), upd_ne (Nat.ne_of_gt q3), upd_ne (Nat.ne_of_gt (Nat.lt_of_lt_of_le (Heap.lt_size hP') hsz))]
      exact I.hok.fresh hsz
  | some cv =>
    obtain ⟨c', P2, e, hm⟩ := h3 pos cv hc
    subst e
    rw [hk] at hm
    have hm : (c', X.env.qual ++ "<lambda>", X.env.qual ++ "<lambda>" ++ ".<locals>.", P2) ∈ C := hm
    refine PySem.W.kla_makeFunctionHit (mg := X.mg) (c := c) (P := P) (ps := ps) (closure_ok hfree) I.ok.glob (I.mod.glob.keeps I.bk) M.code hcd hP' ht hc hb fun ctv g' tk hx hsz => ?_
    have I1 : Inv X pins σ H { s with heap := g'.push (PySem.W.kla_obj "<lambda>" (X.env.qual ++ "<lambda>") params body scope (cloFrom X.env.cells scope.names []) ((X.mg "__name__").getD .none) c' ctv), toks := tk } := I.kept fun b o e => Heap.get?_push_of_some _ (hx b o e)
    exact h g'.objs.size c' P2 ((X.mg "__name__").getD .none) ctv H _ ⟨I1, ExtN.refl H, ct_sub hC hm g.2, Heap.get?_push_size _ rfl, I.hok.fresh hsz, nofr _ hsz, hC.obj _ hm⟩
end
end DL
set_option Elab.async false
set_option linter.all false
set_option maxRecDepth 100000
namespace DL
open PySem L2 LamX PySem.Spec PyProof.Rows
/-- what the clauses give back, one after the other -/
def wSel (K : PySem.W.Frag) (Q : VK) : List (Addr × Str) → Value → Hp → Prop
  | [], _, _ => False
  | (C, s) :: r, cls, H => ∃ b, PySem.W.exmOne K cls (.ref C) = some b ∧ (b = true → Q (.str s) H) ∧ (b = false → wSel K Q r cls H)
def TTm (K : PySem.W.Frag) (l : List (Addr × Str)) : (XK → Hp → VK → Prop) → Hp → VK → Prop := fun tl H Q => tl (fun cls _ H' => wSel K Q l cls H') H Q
def hdl (l : List (Addr × Str)) : List (Value × (Addr → Value → Option Addr → TS)) := l.map fun p => (.ref p.1, fun _ _ _ => tRet (tC (.str p.2)))
theorem wSel_many {K : PySem.W.Frag} {Q : VK} {De : Ends} (hq : ∀ v H, Q v H → De.rt v H) : ∀ {l : List (Addr × Str)} {cls : Value} {d : Option Addr} {sg : L2.St} {H : Hp}, wSel K Q l cls H → wMany K (fun _ _ _ _ => False) De (hdl l) cls d sg H
  | [], _, _, _, _, h => h
  | (C, s) :: r, cls, d, sg, H, ⟨b, e, h1, h2⟩ => ⟨b, e, fun hb a _ => hq _ _ (h1 hb), fun hb => wSel_many hq (h2 hb)⟩
inductive HdT (X : Cx) (sg : Scope) : List ExceptHandler → List (Addr × Str) → Prop
  | nil : HdT X sg [] []
  | cons {e : Str} {C : Addr} {s : Str} {j : Nat} {p4 p5 p6 p7 : Pos} {hds : List ExceptHandler} {l : List (Addr × Str)} (h1 : sg.names.lookup e = some .globalImplicit) (h2 : X.mg e = some (.ref C)) (h3 : (e == ("__debug__" : Str)) = false) (t : HdT X sg hds l) :
      HdT X sg (.ExceptHandler (some (.Name e p4)) none [.Return (some (.Constant (.str s) j p5)) p6] p7 :: hds) ((C, s) :: l)
section
variable {X : Cx}
/-- x, a def that calls what it got: a calls it; Kn: what is known of the made lambda's code; TT: what it makes of the lambda's reading -/
def GivesN (X : Cx) (Ng : List Str) (x : Str) (sg : Scope) (g : Addr) (cdg : Value) (bg : List Stmt) (a : Str) (TT : (XK → Hp → VK → Prop) → Hp → VK → Prop) : Prop :=
  ∀ (f : Addr) (Kn : Hp → Prop) (s : Shared) (H : Hp) (Q : VK) (tl : XK → Hp → VK → Prop),
    (∀ (W : WX) (pn : List (Addr × Obj)) (xe : Value → Shared → Prop) (Ech : XK) (q1 q2 : Pos), L2.Takes ((cxOf C8.CX0 X.prog X.w X.K X.mg X.base Ng x sg g cdg X.A X.stack s H C8.E0).tr pn xe) W → (∀ cls d sY HY, Ech cls d HY → W cls d sY HY) →
      PE ((cxOf C8.CX0 X.prog X.w X.K X.mg X.base Ng x sg g cdg X.A X.stack s H C8.E0).tr pn xe) (.Call (.Name a q1) [] [] q2) (fun sY HY QY => sY[0]? = some (some (.ref f)) ∧ Kn HY ∧ tl Ech HY QY)) →
    Kn H → TT tl H Q → ∃ t, PSs (cxOf C8.CX0 X.prog X.w X.K X.mg X.base Ng x sg g cdg X.A X.stack s H C8.E0).nox bg t ∧ t { nx := fun _ HY => Q .non HY, rt := Q } (L2.start Ng [.ref f]) H
theorem told_many {Ng : List Str} {x a : Str} {sg : Scope} {g : Addr} {cdg : Value} {p1 p2 p3 p8 : Pos} {h₀ : ExceptHandler} {hds : List ExceptHandler} {l : List (Addr × Str)} (hh : HdT X sg (h₀ :: hds) l) (h0 : ∀ f : Addr, (L2.start Ng [V.ref f])[0]? = some (some (V.ref f))) :
    GivesN X Ng x sg g cdg [.Try [.Return (some (.Call (.Name a p1) [] [] p2)) p3] (h₀ :: hds) [] [] p8] a (TTm X.K l) := by
  intro f Kn s H Q tl act hc h
  have hk : ∀ {hs : List ExceptHandler} {l : List (Addr × Str)}, HdT X sg hs l → HdsOk (cxOf C8.CX0 X.prog X.w X.K X.mg X.base Ng x sg g cdg X.A X.stack s H C8.E0).nox hs (hdl l) := fun {hs l} hh => by
    induction hh with
    | nil => exact .nil
    | cons h1 h2 h3 t ih => exact .cons ⟨h1, h3, .inl h2⟩ (fun a oe cls d pn _ _ => pss_one (ps_ret pe_str)) ih
  refine ⟨_, pss_one (ps_try_many (X := (cxOf C8.CX0 X.prog X.w X.K X.mg X.base Ng x sg g cdg X.A X.stack s H C8.E0).nox)
      (tb := fun W De sg' H' => ∃ Ech : XK, (∀ cls d s2 H2, Ech cls d H2 → W cls d s2 H2) ∧ sg'[0]? = some (some (.ref f)) ∧ Kn H' ∧ tl Ech H' De.rt)
      rfl rfl LamX.takes0 (fun W pn xe tk _ => ?_) (hk hh)), ?_⟩
  · refine ⟨fun pins s' sg' H' De I ⟨Ech, hW, h1, h2, h3⟩ => ?_⟩
    exact (pss_one (ps_ret (pos := p3) (act W pn xe Ech p1 p2 tk hW))).run pins s' sg' H' De I ⟨h1, h2, h3⟩
  · exact ⟨fun cls _ H' => wSel X.K Q l cls H', fun cls d s2 H2 hw => wSel_many (fun _ _ z => z) hw, h0 f, hc, h⟩
/-- an error told by its word -/
def toldD (l : List (Nat × List Nat)) : R D → R D
  | .ok d => .ok d
  | .err e => match l.lookup e.cls with
    | some s => .ok (.str s)
    | none => .stuck
  | .stuck => .stuck
  | .roll m f => .roll m fun i => toldD l (f i)
@[simp] theorem toldD_ok (l : List (Nat × List Nat)) (d : D) : toldD l (.ok d) = .ok d := rfl
theorem toldD_wp {l : List (Nat × List Nat)} {Q : D → Prop} {E : Exc → Prop} : ∀ {m : R D}, Wp (toldD l m) Q E → Wp m Q (fun e => ∃ s, l.lookup e.cls = some s ∧ Q (.str s))
  | .ok _, h => h
  | .err e, h => by
    unfold toldD at h
    split at h
    · rename_i s hs; exact ⟨s, hs, h⟩
    · exact h.elim
  | .stuck, h => h
  | .roll _ _, h => fun i hi => toldD_wp (h i hi)
/-- the clauses part the classes -/
def ExmOk (K : PySem.W.Frag) (G : Gm) (ks : List Nat) : Prop := ∀ i ∈ ks, ∀ j ∈ ks, PySem.W.exmOne K (.ref (G.xcls i)) (.ref (G.xcls j)) = some (i == j)
theorem wSel_of {K : PySem.W.Frag} {G : Gm} {Q : VK} {H : Hp} {i : Nat} {s : List Nat} : ∀ {l : List (Nat × List Nat)} (ks : List Nat), ExmOk K G ks → i ∈ ks → (∀ j ∈ l.map (·.1), j ∈ ks) → l.lookup i = some s → Q (.str ⟨s.toArray⟩) H → wSel K Q (l.map fun p => (G.xcls p.1, (⟨p.2.toArray⟩ : Str))) (.ref (G.xcls i)) H
  | [], ks, _, _, _, h, _ => by cases h
  | (j, t) :: l, ks, hx, hi, hl, h, q => by
    refine ⟨i == j, hx i hi j (hl j (by simp)), fun hb => ?_, fun hb => ?_⟩
    · rw [List.lookup_cons, hb] at h
      cases h
      exact q
    · rw [List.lookup_cons, hb] at h
      exact wSel_of ks hx hi (fun j hj => hl j (List.mem_cons_of_mem _ hj)) h q
theorem lookup_mem {i : Nat} {s : List Nat} : ∀ {l : List (Nat × List Nat)}, l.lookup i = some s → i ∈ l.map (·.1)
  | [], h => by cases h
  | p :: l, h => by
    rw [List.lookup_cons] at h
    split at h
    · rename_i hh
      exact List.mem_map.mpr ⟨p, List.mem_cons_self, (beq_iff_eq.mp hh).symm⟩
    · exact List.mem_cons_of_mem _ (lookup_mem h)
theorem takes_lam {A outer s H E scope f c'} : Takes (lamCx X A outer s H E scope f c') (WD E) := LG.Takes.ofL2 (L2.takes_of rfl rfl rfl rfl)
theorem Grow.ofExt {dl : Addr} {H H' : Hp} (e : ExtN H H') : Grow dl H H' := fun a o h _ nt => e a o h nt
theorem GlOk.ofExt {G : Gm} {dl : Addr} {H H' : Hp} (k : GlOk G dl H) (e : ExtN H H') (t : CT G.kd G.tabs G.subs H') : GlOk G dl H' := by
  obtain ⟨x, y, z, h⟩ := k.dice
  exact ⟨⟨x, y, z, e _ _ h fun ps z => by cases z⟩, t⟩
section
variable {G : Gm} {x : Addr × Addr × Str} {dl : Addr} {S H : Hp}
mutual
theorem rep_sub : ∀ {d : D} {v : V}, Rep (G.sub x) dl S d v ↔ Rep G dl S d v
  | .non, v => by unfold Rep; exact Iff.rfl
  | .bl b, v => by unfold Rep; exact Iff.rfl
  | .int i, v => by unfold Rep; exact Iff.rfl
  | .str s, v => by unfold Rep; exact Iff.rfl
  | .lst ds, v => by unfold Rep; exact exists_congr fun a => exists_congr fun vs => and_congr Iff.rfl (and_congr Iff.rfl repL_sub)
  | .tup ds, v => by unfold Rep; exact exists_congr fun a => exists_congr fun vs => and_congr Iff.rfl (and_congr Iff.rfl repL_sub)
  | .dic kvs, v => by unfold Rep; exact exists_congr fun a => exists_congr fun o => exists_congr fun kv => and_congr Iff.rfl (and_congr Iff.rfl repK_sub)
  | .ctup ds, v => by unfold Rep; exact exists_congr fun a => exists_congr fun vs => and_congr Iff.rfl (and_congr Iff.rfl repL_sub)
  | .tdic kvs, v => by unfold Rep; exact exists_congr fun a => exists_congr fun o => exists_congr fun kv => and_congr Iff.rfl (and_congr Iff.rfl repT_sub)
  | .cdic kvs, v => by unfold Rep; exact exists_congr fun a => and_congr Iff.rfl repC_sub
  | .ins c ds, v => by unfold Rep; exact exists_congr fun a => exists_congr fun dx => exists_congr fun vs => and_congr Iff.rfl (and_congr Iff.rfl (and_congr Iff.rfl repL_sub))
  | .dice, v => by unfold Rep; exact Iff.rfl
  | .fn n, v => by unfold Rep; exact Iff.rfl
  | .ktup ds, v => by unfold Rep; exact exists_congr fun a => exists_congr fun vs => exists_congr fun o => and_congr Iff.rfl (and_congr Iff.rfl (and_congr Iff.rfl (and_congr Iff.rfl repL_sub)))
theorem repL_sub : ∀ {ds : List D} {vs : List V}, RepL (G.sub x) dl S ds vs ↔ RepL G dl S ds vs
  | [], vs => by unfold RepL; exact Iff.rfl
  | d :: ds, vs => by unfold RepL; exact exists_congr fun v => exists_congr fun r => and_congr Iff.rfl (and_congr rep_sub repL_sub)
theorem repK_sub : ∀ {ds : List (D × D)} {vs : List (Key × V)}, RepK (G.sub x) dl S ds vs ↔ RepK G dl S ds vs
  | [], vs => by unfold RepK; exact Iff.rfl
  | (k, d) :: ds, vs => by unfold RepK; exact exists_congr fun y => exists_congr fun v => exists_congr fun r => and_congr Iff.rfl (and_congr Iff.rfl (and_congr rep_sub repK_sub))
theorem repT_sub : ∀ {ds : List (D × D)} {vs : List (List Key × V)}, RepT (G.sub x) dl S ds vs ↔ RepT G dl S ds vs
  | [], vs => by unfold RepT; exact Iff.rfl
  | (k, d) :: ds, vs => by unfold RepT; exact exists_congr fun y => exists_congr fun v => exists_congr fun r => and_congr Iff.rfl (and_congr Iff.rfl (and_congr rep_sub repT_sub))
theorem repC_sub : ∀ {a : Addr} {ds : List (List Nat × D)}, RepC (G.sub x) dl S a ds ↔ RepC G dl S a ds
  | a, [] => by unfold RepC; exact Iff.rfl
  | a, (k, d) :: ds => by unfold RepC; exact and_congr (exists_congr fun v => and_congr Iff.rfl rep_sub) repC_sub
end
theorem ownAt_sub {d : D} {o : Option HO} : OwnAt (G.sub x) dl S d o ↔ OwnAt G dl S d o := by
  unfold OwnAt
  split
  · exact exists_congr fun vs => and_congr Iff.rfl repL_sub
  · exact exists_congr fun kv => and_congr Iff.rfl repK_sub
  · exact exists_congr fun dx => exists_congr fun vs => and_congr Iff.rfl (and_congr Iff.rfl repL_sub)
  · exact exists_congr fun kv => and_congr Iff.rfl repT_sub
  · exact Iff.rfl
theorem xrep_sub {e : Exc} {cls : Value} {dx : Option Addr} : XRep (G.sub x) dl S e cls dx H ↔ XRep G dl S e cls dx H := by
  unfold XRep
  refine and_congr Iff.rfl ?_
  show (match G.xfld e.cls with | none => _ | some f => _) ↔ (match G.xfld e.cls with | none => _ | some f => _)
  split
  · exact Iff.rfl
  · exact exists_congr fun d => exists_congr fun v => and_congr Iff.rfl (and_congr Iff.rfl rep_sub)
theorem GlOk.drop (k : GlOk (G.sub x) dl H) : GlOk G dl H := ⟨k.dice, k.tab.drop⟩
theorem GlOk.enter (k : GlOk G dl H) (t : CT (G.sub x).kd (G.sub x).tabs (G.sub x).subs H) : GlOk (G.sub x) dl H := ⟨k.dice, t⟩
variable {Z : List Addr} {O : List (Nat × Addr)} {r : LE} {sg : L2.St}
theorem slot_sub {i : Nat} {y : Option (Option V)} : ∀ {c : Cell}, Slot (G.sub x) dl Z O H i y c ↔ Slot G dl Z O H i y c
  | .un => Iff.rfl
  | .val d => exists_congr fun v => and_congr Iff.rfl rep_sub
  | .own d => exists_congr fun a => and_congr Iff.rfl (and_congr Iff.rfl (and_congr ownAt_sub Iff.rfl))
theorem At.drop (A : At (G.sub x) dl Z O r sg H) : At G dl Z O r sg H := ⟨A.gl.drop, A.dz, A.live, A.own, A.inj, A.len, fun i c e => slot_sub.mp (A.slot i c e)⟩
theorem At.enter (A : At G dl Z O r sg H) (t : CT (G.sub x).kd (G.sub x).tabs (G.sub x).subs H) : At (G.sub x) dl Z O r sg H := ⟨A.gl.enter t, A.dz, A.live, A.own, A.inj, A.len, fun i c e => slot_sub.mpr (A.slot i c e)⟩
end
section
variable {pins : List (Addr × Obj)} {σ : L2.St} {H : Hp} {s : Shared}
/-- the call, in the def that got the lambda -/
theorem act_pe {CXg : CXT} {Eg : XK} {Ng : List Str} {qg : Str} {sg : Scope} {g f c' P2 : Addr} {cdg pm ctv : Value} {prm : Arguments} {bd : Expr} {sc : Scope} {k i : Nat} {a : Str} {pn : List (Addr × Obj)} {xe : Value → Shared → Prop} {W : WX} {Ech : XK} {tb : TE} {q1 q2 : Pos}
    (I : Inv X pins σ H s) (L : LamS X.env.scope sc) (hf : s.heap.get? f = some (PySem.W.kla_obj "<lambda>" (X.env.qual ++ "<lambda>") prm bd sc (cloFrom X.env.cells sc.names []) pm c' ctv)) (hfn : H f = none) (hfr : f ∉ frs X.stack)
    (hbind : bindArgs (PySem.W.kla_fn "<lambda>" (X.env.qual ++ "<lambda>") prm bd sc (cloFrom X.env.cells sc.names []) pm (.ref c') ctv) ⟨[], []⟩ = pure [])
    (tk : L2.Takes ((cxOf CXg X.prog X.w X.K X.mg X.base Ng qg sg g cdg X.A X.stack s H Eg).tr pn xe) W) (hW : ∀ cls d sY HY, Ech cls d HY → W cls d sY HY) (hr : Room (k + 1) (X.A.deeper (envOfC qg sg s.heap.objs.size g cdg)))
    (hbody : ∀ (A : Around) (outer : List Env) (s : Shared) (H : Hp), Room k (A.deeper (lamEnv X sc s.heap.objs.size f c')) → PE (lamCx X A outer s H Ech sc f c') bd tb)
    (hN : Ng[i]? = some a) (hv : Vis sg a) (hd : (a == ("__debug__" : Str)) = false := by decide) (hcd : (a == ("__classdict__" : Str)) = false := by decide) :
    PE ((cxOf CXg X.prog X.w X.K X.mg X.base Ng qg sg g cdg X.A X.stack s H Eg).tr pn xe) (.Call (.Name a q1) [] [] q2)
      (fun sY HY QY => sY[i]? = some (some (.ref f)) ∧ HY c' = some (CodeN c' (X.env.qual ++ "<lambda>") P2) ∧ tb σ HY QY) := by
  refine ⟨fun pinsY sY oY HY QY IY ⟨w1, w2, w3⟩ => wpAny_Call_Name_kw (thn ((pe_var (pos := q1) (i := i) hN hv hd hcd).run pinsY sY oY HY (fun v HB => v = .ref f ∧ HB = HY) IY ⟨.ref f, w1, rfl, rfl⟩) fun u sB ⟨v, HB, IB, rB, qB⟩ => ?_)⟩
  obtain ⟨rfl, rfl⟩ := qB
  obtain rfl : u = Value.ref f := rB
  have oB : sB.heap.get? f = some (PySem.W.kla_obj "<lambda>" (X.env.qual ++ "<lambda>") prm bd sc (cloFrom X.env.cells sc.names []) pm c' ctv) := IB.base.keep f _ hf hfn hfr fun z => nomatch (show f ∈ ([] : List Addr) from z)
  have rc : codeAny (model X.prog X.w) (X.A.deeper (envOfC qg sg s.heap.objs.size g cdg)) (.call (.ref f) ⟨[], []⟩) (CR (L2.CX X.prog X.w) (envOfC qg sg s.heap.objs.size g cdg :: X.stack) X.prog X.w HB sB QY Ech) sB := by
    obtain ⟨oc, vs, t, y1, y2, y3⟩ := (codeN_at IB.hok w2).1
    refine PySem.W.kla_callFunE hr.depth oB rfl L.co L.gen rfl ⟨c', oc, vs, t, rfl, y1, y2, y3⟩ ?_
    rw [hbind]
    refine wpAny_pure (wpAny_newFunctionEnv (fun y hy => (L.own y hy).2) (fun y hy => absurd hy (by simp)) (fun hB hns hsb => ⟨IB.nolimit.fresh _ hsb, ?_⟩) L.kind)
    show codeAny _ _ (.expr bd (lamEnv X sc sB.heap.objs.size f c')) _ _
    refine PySem.W.kla_codeExpr (wpAny_mono ((hbody _ _ sB HB (hr.deeper _)).run [] _ _ HB QY (lam_start2 (tk := sB.toks + ([] : List (Str × Value)).length) I L IB.env0 hr.hd IB.base hns fun b o e => hsb.extBut b o (Nat.ne_of_lt (Heap.lt_size e)) (Heap.get?_push_of_some _ e)) w3) (fun v sZ hq => ?_) fun e sZ hq => hq)
    obtain ⟨wv, HZ, JZ, rZ, qZ⟩ := hq
    exact ⟨wv, HZ, JZ.os, JZ.bare, JZ.base, JZ.hok, rZ, qZ⟩
  refine PySem.W.callWith_F0 ⟨_, _, _, _, oB⟩ (wpAny_call (codeAny_mono rc fun r sZ hq => ?_))
  cases r with
  | error e => exact passes_call tk hW pinsY oY HB sB e sZ IB hq
  | ok fl =>
    cases fl with
    | ret u => exact IB.after hq
    | next | brk | cont => exact False.elim hq
/-- what a lambda handed on is read as: t, by the frame of its code -/
def tLamN (G : Gm) (q : Str) (TT : (XK → Hp → VK → Prop) → Hp → VK → Prop) (t : Addr × Addr × Str → XK → TE) : TE := fun σ H Q => CT G.kd G.tabs G.subs H ∧
  ∀ H1 c' P2, ExtN H H1 → CT (G.sub (c', P2, q)).kd (G.sub (c', P2, q)).tabs (G.sub (c', P2, q)).subs H1 → TT (fun Ech HY QY => t (c', P2, q) Ech σ HY QY) H1 Q
theorem pe_lamN {G : Gm} {TT : (XK → Hp → VK → Prop) → Hp → VK → Prop} {x a : Str} {g c P : Addr} {k : Nat} {pg : Arguments} {bg : List Stmt} {sg : Scope} {dV kV doc pm cdv ct oc : Value} {an od : Option Addr} {osl : Array (Option Value)} {Ng : List Str}
    {prm : Arguments} {bd : Expr} {sc : Scope} {t : Addr × Addr × Str → XK → TE} {p lpos pos : Pos} (hg : Gl X x) (hm : X.mg x = some (.ref g)) (hk : PySem.W.keepIn X.K (.ref g) = true)
    (lk : X.K.lookup g = some ⟨oc, od, .func (PySem.W.fnOf x x pg bg sg dV kV doc pm an cdv ct), osl⟩) (hcg : PySem.W.codeIn X.K cdv x = true) (hb : L2.Binds X.K (PySem.W.fnOf x x pg bg sg dV kV doc pm an cdv ct) [a] []) (Sg : FnScope Ng [a] sg) (hNg : Ng[0]? = some a) (hva : Vis sg a)
    (hG : GivesN X Ng x sg g cdv bg a TT) (M : Mkr X G c P) (hkd : G.kd lpos.line lpos.col = true) (hr : Room (k + 2) X.A) (L : LamS X.env.scope sc) (hdef : defaultsOf prm X.env = ([], []))
    (hbind : ∀ (q : Str) (cl : List (Str × Addr)) (pm cv ctv : Value), bindArgs (PySem.W.kla_fn "<lambda>" q prm bd sc cl pm cv ctv) ⟨[], []⟩ = pure [])
    (hbody : ∀ (A : Around) (outer : List Env) (s : Shared) (H : Hp) (Ech : XK) (f c' P2 : Addr), Room k (A.deeper (lamEnv X sc s.heap.objs.size f c')) → PE (lamCx X A outer s H Ech sc f c') bd (t (c', P2, X.env.qual ++ "<lambda>" ++ ".<locals>.") Ech))
    (hdb : (x == ("__debug__" : Str)) = false := by decide) (hd : (a == ("__debug__" : Str)) = false := by decide) (hcd : (a == ("__classdict__" : Str)) = false := by decide) :
    PE X (.Call (.Name x p) [.Lambda prm bd sc lpos] [] pos) (tLamN G (X.env.qual ++ "<lambda>" ++ ".<locals>.") TT t) := by
  refine ⟨fun pins s σ H Q I ⟨hT, h⟩ => wpAny_Call_Name_kw (ld_glob I hg hm ?_ hdb)⟩
  refine PySem.W.callWith_K (h₀ := X.base) I.ok.mod.kin hk ?_ (by rfl) (by rfl)
  show wpAny _ _ (spliced ((false, eval (.Lambda prm bd sc lpos) X.env) :: backTo pos (starEach [] X.env))) _ _ s
  refine Calls.spliced_cons (lam_make I M hT hkd hdef (L.has I.ok) fun f c' P2 pm' ctv H1 sA mA => ?_)
  refine Calls.spliced_nil ⟨mA.inv.kIn, ?_⟩
  refine wpAny_call (codeAny_mono (R := CR C8.CX0 X.stack X.prog X.w H1 sA Q C8.E0) ?_ fun r sB hq => ?_)
  · refine run_ofS (N := Ng) (ps := [a]) (us := [.ref f]) (vs := [.ref f]) lk hcg Sg hr mA.inv.env0 (hb sA [.ref f] mA.inv.kIn rfl) (.cons rfl .nil) rfl fun hrA => ?_
    obtain ⟨tA, htA, hqA⟩ := hG f (fun HY => HY c' = some (CodeN c' (X.env.qual ++ "<lambda>") P2)) sA H1 Q (fun Ech HY QY => t (c', P2, X.env.qual ++ "<lambda>" ++ ".<locals>.") Ech σ HY QY)
      (fun W pn xe Ech q1 q2 tk hW => act_pe (i := 0) mA.inv L mA.obj mA.new mA.nfr (hbind _ _ _ _ _) tk hW hrA (fun A outer s H hrB => hbody A outer s H Ech f c' P2 hrB) hNg hva hd hcd) mA.cod (h H1 c' P2 mA.ext mA.tab)
    exact ⟨tA, htA.nox, hqA⟩
  · cases r with
    | error e => exact (show False from hq).elim
    | ok fl =>
      cases fl with
      | ret u => exact mA.inv.after hq
      | next | brk | cont => exact False.elim hq
end
/-- x(lambda: body), x a def that tells -/
theorem de_told {G : Gm} {W : WX} {l : List (Nat × List Nat)} {x a : Str} {g c P : Addr} {k : Nat} {pg : Arguments} {bg : List Stmt} {sg : Scope} {dV kV doc pm cdv ct oc : Value} {an od : Option Addr} {osl : Array (Option Value)} {Ng : List Str}
    {params : Arguments} {body : Expr} {scope : Scope} {fb : LE → R D} {p lpos pos : Pos} (hm : X.mg x = some (.ref g)) (hk : PySem.W.keepIn X.K (.ref g) = true)
    (lk : X.K.lookup g = some ⟨oc, od, .func (PySem.W.fnOf x x pg bg sg dV kV doc pm an cdv ct), osl⟩) (hcg : PySem.W.codeIn X.K cdv x = true) (hb : L2.Binds X.K (PySem.W.fnOf x x pg bg sg dV kV doc pm an cdv ct) [a] []) (Sg : FnScope Ng [a] sg) (hNg : Ng[0]? = some a) (hva : Vis sg a)
    (hG : GivesN X Ng x sg g cdv bg a (TTm X.K (l.map fun p => (G.xcls p.1, (⟨p.2.toArray⟩ : Str)))))
    (hx : ExmOk X.K G (l.map (·.1))) (M : Mkr X G c P) (hr : Room (k + 2) X.A) (L : LamS X.env.scope scope)
    (hbody : ∀ (A : Around) (outer : List Env) (s : Shared) (H : Hp) (E : XK) (f c' P2 : Addr), Room k (A.deeper (lamEnv X scope s.heap.objs.size f c')) → Mkr (lamCx X A outer s H E scope f c') (G.sub (c', P2, X.env.qual ++ "<lambda>" ++ ".<locals>.")) c' P2 → DE (lamCx X A outer s H E scope f c') (G.sub (c', P2, X.env.qual ++ "<lambda>" ++ ".<locals>.")) (WD E) body fb)
    (hkd : G.kd lpos.line lpos.col = true := by rfl) (hg : Gl X x := by rfl) (hdef : defaultsOf params X.env = ([], []) := by rfl)
    (hbind : ∀ (q : Str) (cl : List (Str × Addr)) (pm cv ctv : Value), bindArgs (PySem.W.kla_fn "<lambda>" q params body scope cl pm cv ctv) ⟨[], []⟩ = pure [] := by intro _ _ _ _ _; rfl)
    (hdb : (x == ("__debug__" : Str)) = false := by decide) (hd : (a == ("__debug__" : Str)) = false := by decide) (hcd : (a == ("__classdict__" : Str)) = false := by decide) :
    DE X G W (.Call (.Name x p) [.Lambda params body scope lpos] [] pos) (fun r => toldD l (fb r)) := by
  refine PE_imp (pe_lamN (G := G) (t := fun y E => tD (G.sub y) (WD E) fb) hg hm hk lk hcg hb Sg hNg hva hG M hkd hr L hdef hbind (fun A outer s H E f c' P2 hr => hbody A outer s H E f c' P2 hr (mk_sub M rfl rfl rfl rfl)) hdb hd hcd) fun sg H Q ⟨dl, Z, O, r, A, q⟩ => ⟨A.gl.tab, fun H1 c' P2 e1 t1 => ?_⟩
  have g1 : Grow dl H H1 := Grow.ofExt e1
  have k1 := A.gl.ofExt e1 t1.drop
  refine ⟨dl, Z, O, r, (A.grow g1 k1).enter t1, (toldD_wp q).mono (fun d hd v H2 g2 k2 rp => hd v H2 (g1.trans g2) k2.drop (rep_sub.mp rp)) fun e ⟨s, hs, hq⟩ cls dx H2 g2 k2 xr => ?_⟩
  obtain ⟨rfl, _⟩ := xrep_sub.mp xr
  have hmem : e.cls ∈ l.map (·.1) := lookup_mem hs
  exact wSel_of _ hx hmem (fun j hj => hj) hs (hq _ H2 (g1.trans g2) k2.drop Rep.str_)
end
end DL
set_option Elab.async false
set_option linter.all false
set_option maxRecDepth 100000
namespace DL
open PySem L2 PySem.Spec PyProof.Rows
def RepPL (G : Gm) (dl : Addr) (H : Hp) (Z : List Addr) : List D → List V → Prop
  | [], vs => vs = []
  | d :: ds, vs => ∃ v r, vs = v :: r ∧ RepP G dl H Z d v ∧ RepPL G dl H Z ds r
theorem RepPL.grow {G : Gm} {dl : Addr} {Z : List Addr} {O : List (Nat × Addr)} {r : LE} {sg : L2.St} {H H' : Hp} (A : At G dl Z O r sg H) (g : Grow dl H H') : ∀ {ds : List D} {vs : List V}, RepPL G dl H Z ds vs → RepPL G dl H' Z ds vs
  | [], _, h => h
  | d :: ds, vs, ⟨v, r, e, h1, h2⟩ => ⟨v, r, e, h1.grow A g, RepPL.grow A g h2⟩
def tAp (G : Gm) (W : WX) (f : LE → R (List D)) : TA := fun sg H Q => ∃ dl Z O r, At G dl Z O r sg H ∧
  Wp (f r) (fun ds => ∀ vs H', Grow dl H H' → GlOk G dl H' → RepPL G dl H' Z ds vs → Q vs H')
    (fun e => ∀ cls dx H', Grow dl H H' → GlOk G dl H' → XRep G dl (cut H' Z) e cls dx H' → W cls dx sg H')
abbrev DAp (X : Cx) (G : Gm) (W : WX) (es : List Expr) (f : LE → R (List D)) : Prop := PA X es (tAp G W f)
/-- a call of a built-in by values -/
def CallD (X : Cx) (G : Gm) (fv : Value) (g : List D → R D) : Prop := ∃ rr : List V → Hp → VK → Prop, CallR X fv rr ∧
  ∀ (dl : Addr) (Z : List Addr) (O : List (Nat × Addr)) (r : LE) (sg : L2.St) (ds : List D) (vs : List V) (H : Hp) (Q : VK) (E : Exc → Prop), At G dl Z O r sg H → RepPL G dl H Z ds vs →
    Wp (g ds) (fun d => ∀ v H', Grow dl H H' → GlOk G dl H' → Rep G dl (cut H' Z) d v → Q v H') E → rr vs H Q
/-- .. that gives a new list -/
def CallF (X : Cx) (G : Gm) (fv : Value) (g : List D → R (List D)) : Prop := ∃ rr : List V → Hp → VK → Prop, CallR X fv rr ∧
  ∀ (dl : Addr) (Z : List Addr) (O : List (Nat × Addr)) (r : LE) (sg : L2.St) (ds : List D) (vs : List V) (H : Hp) (Q : VK) (E : Exc → Prop), At G dl Z O r sg H → RepPL G dl H Z ds vs →
    Wp (g ds) (fun ds => ∀ p vs H', Grow dl H H' → GlOk G dl H' → H' p = none → RepL G dl (cut H' Z) ds vs → Q (.ref p) (upd H' p (.lst vs))) E → rr vs H Q
section
variable {X : Cx} {G : Gm} {W : WX} {ex a b : Expr} {es : List Expr} {f : LE → R D} {fs : LE → R (List D)} {g : List D → R D} {gl : List D → R (List D)} {pos p : Pos} {x : Str} {id T : String}
theorem dap_nil : DAp X G W [] anil := PA_imp pa_nil fun sg H Q ⟨dl, Z, O, r, A, q⟩ => q [] H (.refl _ _) A.gl rfl
theorem dap_cons (ha : DP X G W a f) (hs : DAp X G W es fs) (hst : starEach (a :: es) X.env = (false, eval a X.env) :: starEach es X.env := by rfl) : DAp X G W (a :: es) (acons f fs) := PA_imp (pa_cons ha hs hst) fun sg H Q ⟨dl, Z, O, r, A, q⟩ => by
  refine ⟨dl, Z, O, r, A, q.bind.thn fun x hx v H1 g1 k1 rp => ?_⟩
  refine ⟨dl, Z, O, r, A.grow g1 k1, hx.bind.mono (fun xs hxs vs H2 g2 k2 rl => ?_) fun e => epost g1⟩
  exact hxs (v :: vs) H2 (g1.trans g2) k2 ⟨v, vs, rfl, rp.grow (A.grow g1 k1) g2, rl⟩
theorem de_callB (hc : CallD X G (.builtin id) g) (hm : X.mg x = none) (hv : bootBuiltins x = some (.builtin id)) (ha : DAp X G W (ex :: es) fs) (hg : Gl X x := by rfl) (hn : x ≠ "__name__" := by decide) (hdb : (x == ("__debug__" : Str)) = false := by decide)
    (he : starEach (ex :: es) X.env = (false, eval ex X.env) :: starEach es X.env := by rfl) (hpl : (backTo pos (starEach es X.env)).any (·.1) = false := by rfl) : DE X G W (.Call (.Name x p) (ex :: es) [] pos) (fun r => fs r >>= g) := by
  obtain ⟨rr, h1, h2⟩ := hc
  refine PE_imp (pe_callB h1 hg hm hv ha hn hdb he hpl) fun sg H Q ⟨dl, Z, O, r, A, q⟩ => ⟨dl, Z, O, r, A, q.bind.thn fun ds hd vs H1 g1 k1 rl => ?_⟩
  exact h2 dl Z O r sg ds vs H1 Q _ (A.grow g1 k1) rl (hd.thn fun d h v H' g' k' rp => h v H' (g1.trans g') k' rp)
theorem de_callT (hc : CallD X G (.type T) g) (hm : X.mg x = none) (hv : bootBuiltins x = some (.type T)) (ha : DAp X G W (ex :: es) fs) (hg : Gl X x := by rfl) (hn : x ≠ "__name__" := by decide) (hdb : (x == ("__debug__" : Str)) = false := by decide)
    (he : starEach (ex :: es) X.env = (false, eval ex X.env) :: starEach es X.env := by rfl) (hpl : (backTo pos (starEach es X.env)).any (·.1) = false := by rfl) : DE X G W (.Call (.Name x p) (ex :: es) [] pos) (fun r => fs r >>= g) := by
  obtain ⟨rr, h1, h2⟩ := hc
  refine PE_imp (pe_callTy h1 hg hm hv ha hn hdb he hpl) fun sg H Q ⟨dl, Z, O, r, A, q⟩ => ⟨dl, Z, O, r, A, q.bind.thn fun ds hd vs H1 g1 k1 rl => ?_⟩
  exact h2 dl Z O r sg ds vs H1 Q _ (A.grow g1 k1) rl (hd.thn fun d h v H' g' k' rp => h v H' (g1.trans g') k' rp)
theorem df_callT (hc : CallF X G (.type T) gl) (hm : X.mg x = none) (hv : bootBuiltins x = some (.type T)) (ha : DAp X G W (ex :: es) fs) (hg : Gl X x := by rfl) (hn : x ≠ "__name__" := by decide) (hdb : (x == ("__debug__" : Str)) = false := by decide)
    (he : starEach (ex :: es) X.env = (false, eval ex X.env) :: starEach es X.env := by rfl) (hpl : (backTo pos (starEach es X.env)).any (·.1) = false := by rfl) : DF X G W (.Call (.Name x p) (ex :: es) [] pos) (fun r => fs r >>= gl) := by
  obtain ⟨rr, h1, h2⟩ := hc
  refine PE_imp (pe_callTy h1 hg hm hv ha hn hdb he hpl) fun sg H Q ⟨dl, Z, O, r, A, q⟩ => ⟨dl, Z, O, r, A, q.bind.thn fun ds hd vs H1 g1 k1 rl => ?_⟩
  exact h2 dl Z O r sg ds vs H1 Q _ (A.grow g1 k1) rl (hd.thn fun d h p vs H' g' k' hp rl => h p vs H' (g1.trans g') k' hp rl)
def lenD : List D → R D
  | [.str s] => if s.length ≤ 16777216 then .ok (.int s.length) else .stuck
  | [.lst xs] => .ok (.int xs.length)
  | [.tup xs] => .ok (.int xs.length)
  | _ => .stuck
def tupleD : List D → R D
  | [.lst xs] => .ok (.tup xs)
  | [.tup xs] => .ok (.tup xs)
  | _ => .stuck
theorem RepPL.one {dl : Addr} {H : Hp} {Z : List Addr} {d : D} {vs : List V} (h : RepPL G dl H Z [d] vs) : ∃ v, vs = [v] ∧ RepP G dl H Z d v := by
  obtain ⟨v, r, rfl, h1, h2⟩ := h
  cases (show r = [] from h2)
  exact ⟨v, rfl, h1⟩
theorem RepPL.two {dl : Addr} {H : Hp} {Z : List Addr} {d e : D} {vs : List V} (h : RepPL G dl H Z [d, e] vs) : ∃ v u, vs = [v, u] ∧ RepP G dl H Z d v ∧ RepP G dl H Z e u := by
  obtain ⟨v, r, rfl, h1, h2⟩ := h
  obtain ⟨u, rfl, h3⟩ := RepPL.one h2
  exact ⟨v, u, rfl, h1, h3⟩
theorem cd_len (hG : G.K = X.K) : CallD X G (.builtin "len") lenD := by
  refine ⟨_, call_len, fun dl Z O r sg ds vs H Q E A rl h => ?_⟩
  unfold lenD at h
  split at h
  · split at h
    · rename_i s hs
      obtain ⟨v, rfl, rp⟩ := rl.one
      refine ⟨v, s.length, rfl, ?_, h _ H (.refl _ _) A.gl Rep.int_⟩
      rw [rp.str]
      exact ⟨by rw [sizeLine_eq]; simpa [Str.length] using hs, by simp [Str.length]⟩
    · exact h.elim
  · obtain ⟨v, rfl, rp⟩ := rl.one
    obtain ⟨a, us, rfl, e, rl'⟩ := rp.lst
    refine ⟨_, us.length, rfl, .inl ⟨us, SqL.of e, rfl⟩, ?_⟩
    rw [rl'.length]
    exact h _ H (.refl _ _) A.gl Rep.int_
  · obtain ⟨v, rfl, rp⟩ := rl.one
    obtain ⟨a, us, rfl, e, rl'⟩ := rp.tup
    refine ⟨_, us.length, rfl, .inr ⟨us, hG ▸ e, rfl⟩, ?_⟩
    rw [rl'.length]
    exact h _ H (.refl _ _) A.gl Rep.int_
  · exact h.elim
theorem cd_tuple (hG : G.K = X.K) : CallD X G (.type "tuple") tupleD := by
  refine ⟨_, call_tuple_of, fun dl Z O r sg ds vs H Q E A rl h => ?_⟩
  unfold tupleD at h
  split at h
  · obtain ⟨v, rfl, rp⟩ := rl.one
    obtain ⟨a, us, rfl, e, rl'⟩ := rp.lst
    exact ⟨a, us, rfl, .inl ⟨SqL.of e, fun l hl => h _ _ (.new hl) (A.gl.new hl) (Rep.tup_new A hl rl')⟩⟩
  · obtain ⟨v, rfl, rp⟩ := rl.one
    obtain ⟨a, us, rfl, e, rl'⟩ := rp.tup
    rcases rp with rp | ⟨_, _, _, _, rp⟩
    · exact ⟨a, us, rfl, .inr ⟨hG ▸ e, h _ _ (.refl _ _) A.gl rp⟩⟩
    · exact rp.elim
  · exact h.elim
def D.ltb (x y : D) : Bool := PySem.W.dataLt x.toP y.toP
def D.ali (x y : D) : Bool := PySem.W.alike x.toP y.toP
/-- all can be compared with one another -/
def alis (ds : List D) : Bool := ds.all fun x => x.sh 50 && (match x with | .non => false | _ => true) && ds.all fun y => x.ali y
def least (d : D) (ds : List D) : D := ds.foldl (fun a y => if y.ltb a then y else a) d
def most (d : D) (ds : List D) : D := ds.foldl (fun a y => if a.ltb y then y else a) d
theorem ReadsAll_get {h : Heap} : ∀ {us : List Value} {ds : List PyData} {as : List Addr} {i : Nat} {u : Value}, ReadsAll h us ds as → us[i]? = some u → ∃ d bs, ds[i]? = some d ∧ Reads h u d bs
  | _, _, _, i, u, .nil, e => by simp at e
  | _, _, _, 0, u, .cons r rs, e => by
    have e := Option.some.inj (show some _ = some u from e)
    subst e
    exact ⟨_, _, rfl, r⟩
  | _, _, _, i + 1, u, .cons r rs, e => by
    obtain ⟨d, bs, h1, h2⟩ := ReadsAll_get rs (i := i) (by simpa using e)
    exact ⟨d, bs, by simpa using h1, h2⟩
theorem Vals_back {xs : List V} {us : List Value} {i : Nat} {u : Value} (r : Vals xs us) (e : us[i]? = some u) : ∃ x, xs[i]? = some x ∧ RelV x u := by
  have hl := r.length
  obtain ⟨h1, h2⟩ := List.getElem?_eq_some_iff.mp e
  have hx : xs[i]? = some (xs[i]'(by omega)) := by simp
  obtain ⟨u', h3, h4⟩ := r.get hx
  rw [e] at h3
  cases h3
  exact ⟨_, hx, h4⟩
theorem minD_mem (x : PyData) (xs : List PyData) : PySem.W.minD x xs ∈ x :: xs := by
  unfold PySem.W.minD
  have : ∀ (ys : List PyData) (a : PyData), ys.foldl (fun a y => if PySem.W.dataLt y a then y else a) a = a ∨ ys.foldl (fun a y => if PySem.W.dataLt y a then y else a) a ∈ ys := by
    intro ys
    induction ys with
    | nil => intro a; exact .inl rfl
    | cons y ys ih =>
      intro a
      rw [List.foldl_cons]
      rcases ih (if PySem.W.dataLt y a then y else a) with e | e
      · rw [e]
        split
        · exact .inr List.mem_cons_self
        · exact .inl rfl
      · exact .inr (List.mem_cons_of_mem _ e)
  rcases this xs x with e | e
  · rw [e]; exact List.mem_cons_self
  · exact List.mem_cons_of_mem _ e
theorem maxD_mem (x : PyData) (xs : List PyData) : PySem.W.maxD x xs ∈ x :: xs := by
  unfold PySem.W.maxD
  have : ∀ (ys : List PyData) (a : PyData), ys.foldl (fun a y => if PySem.W.dataLt a y then y else a) a = a ∨ ys.foldl (fun a y => if PySem.W.dataLt a y then y else a) a ∈ ys := by
    intro ys
    induction ys with
    | nil => intro a; exact .inl rfl
    | cons y ys ih =>
      intro a
      rw [List.foldl_cons]
      rcases ih (if PySem.W.dataLt a y then y else a) with e | e
      · rw [e]
        split
        · exact .inr List.mem_cons_self
        · exact .inl rfl
      · exact .inr (List.mem_cons_of_mem _ e)
  rcases this xs x with e | e
  · rw [e]; exact List.mem_cons_self
  · exact List.mem_cons_of_mem _ e
/-- a list or a tuple of data, one item of which comes back -/
def rPick (K : PySem.W.Frag) (pk : PyData → List PyData → PyData) : List V → Hp → VK → Prop := fun vs H Q => ∃ (a : Addr) (us : List V) (x : PyData) (xs : List PyData), vs = [.ref a] ∧ (SqL K H a us ∨ SqT K H a us) ∧ DpAll K H us (x :: xs) ∧ PySem.W.AlikeAll (x :: xs) ∧
  PyData.depthAll (x :: xs) ≤ 64 ∧ ∀ (i : Nat) v, us[i]? = some v → (x :: xs)[i]? = some (pk x xs) → Q v H
theorem pick_core {pins : List (Addr × Obj)} {s : Shared} {sg : L2.St} {H : Hp} {Q : VK} {us : List V} {x pd : PyData} {xs : List PyData} {its : List Value} {as : List Addr} (I : Inv X pins sg H s) (rv : Vals us its) (hr : ReadsAll s.heap its (x :: xs) as) (ha : PySem.W.AlikeAll (x :: xs)) (hmem : pd ∈ x :: xs)
    (q : ∀ (i : Nat) v, us[i]? = some v → (x :: xs)[i]? = some pd → Q v H) (i : Nat) (u : Value) (h' : Heap) (tk : Nat) (bs : List Addr) (hi : its.toArray[i]? = some u) (hr' : Reads h' u pd bs) (hk : ∀ b o, s.heap.get? b = some o → h'.get? b = some o) : EP X pins sg Q u { s with heap := h', toks := tk } := by
  have hi' : its[i]? = some u := by simpa using hi
  obtain ⟨v, hv, rvu⟩ := Vals_back rv hi'
  obtain ⟨d, cs, hd, hrd⟩ := ReadsAll_get hr hi'
  have hdm : d ∈ x :: xs := List.mem_of_getElem? hd
  have e : d = pd := PySem.W.alike_unique d _ u _ _ (ha.1 d hdm _ hmem) (PySem.W.reads_keeps hk hrd) hr'
  subst e
  exact ⟨v, H, I.kept hk, rvu, q i v hv hd⟩
theorem cr_minP (hc : X.calm = true) (hu : X.A.units + 70 < cLine) : CallR X (.builtin "min") (rPick X.K PySem.W.minD) := by
  intro pins s sg H vs us0 Q I r ⟨a, us, x, xs, ev, hsq, hdp, ha, hdep, q⟩
  subst ev
  rw [Vals.ref1 r]
  rcases hsq with h | h
  · obtain ⟨its, rv, pl, _⟩ := I.list h
    obtain ⟨as, hr⟩ := Dp.readsAll I (x :: xs) us its hdp rv
    exact PySem.W.min_list_data (I.ok.hd hc) pl.isList hr ha (by omega) (pick_core I rv hr ha (minD_mem x xs) q)
  · obtain ⟨its, rv, pl, _⟩ := I.tuple h
    obtain ⟨as, hr⟩ := Dp.readsAll I (x :: xs) us its hdp rv
    exact PySem.W.min_tuple_data (I.ok.hd hc) pl hr ha (by omega) (pick_core I rv hr ha (minD_mem x xs) q)
theorem cr_maxP (hc : X.calm = true) (hu : X.A.units + 70 < cLine) : CallR X (.builtin "max") (rPick X.K PySem.W.maxD) := by
  intro pins s sg H vs us0 Q I r ⟨a, us, x, xs, ev, hsq, hdp, ha, hdep, q⟩
  subst ev
  rw [Vals.ref1 r]
  rcases hsq with h | h
  · obtain ⟨its, rv, pl, _⟩ := I.list h
    obtain ⟨as, hr⟩ := Dp.readsAll I (x :: xs) us its hdp rv
    exact PySem.W.max_list_data (I.ok.hd hc) pl.isList hr ha (by omega) (pick_core I rv hr ha (maxD_mem x xs) q)
  · obtain ⟨its, rv, pl, _⟩ := I.tuple h
    obtain ⟨as, hr⟩ := Dp.readsAll I (x :: xs) us its hdp rv
    exact PySem.W.max_tuple_data (I.ok.hd hc) pl hr ha (by omega) (pick_core I rv hr ha (maxD_mem x xs) q)
mutual
theorem toP_inj : ∀ (x y : D) (n m : Nat), x.sh n = true → y.sh m = true → x.toP = y.toP → x = y
  | .non, y, n, m, hx, hy, e => by cases y <;> simp_all [D.toP, D.sh]
  | .bl b, y, n, m, hx, hy, e => by cases y <;> simp_all [D.toP, D.sh]
  | .int i, y, n, m, hx, hy, e => by cases y <;> simp_all [D.toP, D.sh]
  | .str s, y, n, m, hx, hy, e => by cases y <;> simp_all [D.toP, D.sh]
  | .lst xs, y, n, m, hx, hy, e => by
    cases y <;> first | (simp [D.toP] at e; done) | skip
    rename_i ys
    cases n <;> first | (simp [D.sh] at hx; done) | skip
    cases m <;> first | (simp [D.sh] at hy; done) | skip
    simp only [D.sh] at hx hy
    simp only [D.toP, PyData.list.injEq] at e
    rw [toPs_inj xs ys _ _ hx hy e]
  | .tup xs, y, n, m, hx, hy, e => by
    cases y <;> first | (simp [D.toP] at e; done) | skip
    rename_i ys
    cases n <;> first | (simp [D.sh] at hx; done) | skip
    cases m <;> first | (simp [D.sh] at hy; done) | skip
    simp only [D.sh] at hx hy
    simp only [D.toP, PyData.tuple.injEq] at e
    rw [toPs_inj xs ys _ _ hx hy e]
  | .dic _, y, n, m, hx, hy, e => by simp [D.sh] at hx
  | .cdic _, y, n, m, hx, hy, e => by simp [D.sh] at hx
  | .ins _ _, y, n, m, hx, hy, e => by simp [D.sh] at hx
  | .dice, y, n, m, hx, hy, e => by simp [D.sh] at hx
  | .fn _, y, n, m, hx, hy, e => by simp [D.sh] at hx
theorem toPs_inj : ∀ (xs ys : List D) (n m : Nat), D.shs xs n = true → D.shs ys m = true → D.toPs xs = D.toPs ys → xs = ys
  | [], [], n, m, hx, hy, e => rfl
  | [], y :: ys, n, m, hx, hy, e => by simp [D.toPs] at e
  | x :: xs, [], n, m, hx, hy, e => by simp [D.toPs] at e
  | x :: xs, y :: ys, n, m, hx, hy, e => by
    simp only [D.shs, Bool.and_eq_true] at hx hy
    simp only [D.toPs, List.cons.injEq] at e
    rw [toP_inj x y n m hx.1 hy.1 e.1, toPs_inj xs ys n m hx.2 hy.2 e.2]
end
theorem toPs_map (ds : List D) : D.toPs ds = ds.map D.toP := by
  induction ds with
  | nil => rfl
  | cons d ds ih => simp only [D.toPs, List.map_cons, ih]
theorem shs_of {ds : List D} {n : Nat} (h : ∀ d ∈ ds, d.sh n = true) : D.shs ds n = true := by
  induction ds with
  | nil => rfl
  | cons d ds ih =>
    simp only [D.shs, h d List.mem_cons_self, Bool.true_and]
    exact ih fun e he => h e (List.mem_cons_of_mem _ he)
theorem alis_sh {ds : List D} (h : alis ds = true) : ∀ d ∈ ds, d.sh 50 = true := fun d hd => by
  have := List.all_eq_true.mp h d hd
  simp only [Bool.and_eq_true] at this
  exact this.1.1
theorem alis_alike {ds : List D} (h : alis ds = true) : PySem.W.AlikeAll (D.toPs ds) := by
  rw [toPs_map]
  refine ⟨fun x hx y hy => ?_, fun x hx => ?_⟩
  · obtain ⟨d, hd, rfl⟩ := List.mem_map.mp hx
    obtain ⟨e, he, rfl⟩ := List.mem_map.mp hy
    have := List.all_eq_true.mp h d hd
    simp only [Bool.and_eq_true, List.all_eq_true] at this
    exact this.2 e he
  · obtain ⟨d, hd, rfl⟩ := List.mem_map.mp hx
    have := List.all_eq_true.mp h d hd
    simp only [Bool.and_eq_true] at this
    intro e
    cases d <;> simp_all [D.toP, D.sh]
theorem least_toP (d : D) (ds : List D) : (least d ds).toP = PySem.W.minD d.toP (D.toPs ds) := by
  unfold least PySem.W.minD
  rw [toPs_map, List.foldl_map]
  induction ds generalizing d with
  | nil => rfl
  | cons e ds ih =>
    rw [List.foldl_cons, List.foldl_cons, ih]
    congr 1
    show (if e.ltb d then e else d).toP = if PySem.W.dataLt e.toP d.toP then e.toP else d.toP
    unfold D.ltb
    split <;> rfl
theorem most_toP (d : D) (ds : List D) : (most d ds).toP = PySem.W.maxD d.toP (D.toPs ds) := by
  unfold most PySem.W.maxD
  rw [toPs_map, List.foldl_map]
  induction ds generalizing d with
  | nil => rfl
  | cons e ds ih =>
    rw [List.foldl_cons, List.foldl_cons, ih]
    congr 1
    show (if d.ltb e then e else d).toP = if PySem.W.dataLt d.toP e.toP then e.toP else d.toP
    unfold D.ltb
    split <;> rfl
theorem fold_mem {pk : D → D → D} (hp : ∀ a b, pk a b = a ∨ pk a b = b) : ∀ (ds : List D) (d : D), ds.foldl pk d ∈ d :: ds
  | [], d => List.mem_cons_self
  | e :: ds, d => by
    rw [List.foldl_cons]
    rcases hp d e with q | q
    · rw [q]
      rcases List.mem_cons.mp (fold_mem hp ds d) with z | z
      · rw [z]; exact List.mem_cons_self
      · exact List.mem_cons_of_mem _ (List.mem_cons_of_mem _ z)
    · rw [q]
      exact List.mem_cons_of_mem _ (fold_mem hp ds e)
theorem least_mem (d : D) (ds : List D) : least d ds ∈ d :: ds := fold_mem (fun a b => by split <;> simp) ds d
theorem most_mem (d : D) (ds : List D) : most d ds ∈ d :: ds := fold_mem (fun a b => by split <;> simp) ds d
def minL : List D → R D
  | [.int i, .int j] => .ok (.int (if j < i then j else i))
  | [.lst (d :: ds)] => if alis (d :: ds) then .ok (least d ds) else .stuck
  | [.tup (d :: ds)] => if alis (d :: ds) then .ok (least d ds) else .stuck
  | _ => .stuck
def maxL : List D → R D
  | [.int i, .int j] => .ok (.int (if j > i then j else i))
  | [.lst (d :: ds)] => if alis (d :: ds) then .ok (most d ds) else .stuck
  | [.tup (d :: ds)] => if alis (d :: ds) then .ok (most d ds) else .stuck
  | _ => .stuck
theorem CallR.or {f : Value} {r1 r2 : List V → Hp → VK → Prop} (h1 : CallR X f r1) (h2 : CallR X f r2) : CallR X f (fun vs H Q => r1 vs H Q ∨ r2 vs H Q) := fun pins s sg H xs us Q I r h => by
  rcases h with h | h
  · exact h1 pins s sg H xs us Q I r h
  · exact h2 pins s sg H xs us Q I r h
theorem pick_of {pk : D → List D → D} {pp : PyData → List PyData → PyData} (htp : ∀ d ds, (pk d ds).toP = pp d.toP (D.toPs ds)) (hmem : ∀ d ds, pk d ds ∈ d :: ds) {dl : Addr} {Z : List Addr} {O : List (Nat × Addr)} {r : LE} {sg : L2.St} {H : Hp} {Q : VK} (hG : G.K = X.K) (A : At G dl Z O r sg H) {d : D} {ds : List D} {us : List V} {a : Addr}
    (hsq : SqL X.K H a us ∨ SqT X.K H a us) (rl : RepL G dl (cut H Z) (d :: ds) us) (hal : alis (d :: ds) = true) (h : ∀ v H', Grow dl H H' → GlOk G dl H' → Rep G dl (cut H' Z) (pk d ds) v → Q v H') : rPick X.K pp [.ref a] H Q := by
  have hs := alis_sh hal
  have hss := shs_of hs
  refine ⟨a, us, d.toP, D.toPs ds, rfl, hsq, ?_, ?_, ?_, fun i v hv hi => ?_⟩
  · have := RepL.dp (cut_grow H Z) (d :: ds) 50 hss rl
    rw [hG] at this
    exact this
  · exact alis_alike hal
  · exact Nat.le_trans (shs_lay (d :: ds) 50 hss).2 (by decide)
  · obtain ⟨e, he, rp⟩ := RepL.get (d :: ds) us i v rl hv
    have h1 : (D.toPs (d :: ds))[i]? = some (pp d.toP (D.toPs ds)) := hi
    rw [toPs_map, List.getElem?_map, he] at h1
    have h2 : e.toP = (pk d ds).toP := by rw [htp]; exact Option.some.inj h1
    have h3 := toP_inj e _ 50 50 (hs e (List.mem_of_getElem? he)) (hs _ (hmem d ds)) h2
    rw [← h3] at h
    exact h v H (.refl _ _) A.gl rp
theorem cd_min (hG : G.K = X.K) (hc : X.calm = true) (hu : X.A.units + 70 < cLine) : CallD X G (.builtin "min") minL := by
  refine ⟨_, CallR.or (call_min2 hc) (cr_minP hc hu), fun dl Z O r sg ds vs H Q E A rl h => ?_⟩
  unfold minL at h
  split at h
  · obtain ⟨v, u, rfl, r1, r2⟩ := rl.two
    exact .inl ⟨_, _, by rw [r1.int, r2.int], h _ H (.refl _ _) A.gl Rep.int_⟩
  · split at h
    · rename_i d ds hal
      obtain ⟨v, rfl, rp⟩ := rl.one
      obtain ⟨a, us, rfl, e, rl'⟩ := rp.lst
      exact .inr (pick_of least_toP least_mem hG A (.inl (SqL.of e)) rl' hal h)
    · exact h.elim
  · split at h
    · rename_i d ds hal
      obtain ⟨v, rfl, rp⟩ := rl.one
      obtain ⟨a, us, rfl, e, rl'⟩ := rp.tup
      exact .inr (pick_of least_toP least_mem hG A (.inr (hG ▸ e)) rl' hal h)
    · exact h.elim
  · exact h.elim
theorem cd_max (hG : G.K = X.K) (hc : X.calm = true) (hu : X.A.units + 70 < cLine) : CallD X G (.builtin "max") maxL := by
  refine ⟨_, CallR.or (call_max2 hc) (cr_maxP hc hu), fun dl Z O r sg ds vs H Q E A rl h => ?_⟩
  unfold maxL at h
  split at h
  · obtain ⟨v, u, rfl, r1, r2⟩ := rl.two
    exact .inl ⟨_, _, by rw [r1.int, r2.int], h _ H (.refl _ _) A.gl Rep.int_⟩
  · split at h
    · rename_i d ds hal
      obtain ⟨v, rfl, rp⟩ := rl.one
      obtain ⟨a, us, rfl, e, rl'⟩ := rp.lst
      exact .inr (pick_of most_toP most_mem hG A (.inl (SqL.of e)) rl' hal h)
    · exact h.elim
  · split at h
    · rename_i d ds hal
      obtain ⟨v, rfl, rp⟩ := rl.one
      obtain ⟨a, us, rfl, e, rl'⟩ := rp.tup
      exact .inr (pick_of most_toP most_mem hG A (.inr (hG ▸ e)) rl' hal h)
    · exact h.elim
  · exact h.elim
end
end DL
set_option Elab.async false
set_option linter.all false
set_option maxRecDepth 100000
namespace DL
open PySem L2 PySem.Spec PyProof.Rows
def D.key1 : D → Bool
  | .int _ => true
  | .str _ => true
  | _ => false
def D.keq : D → D → Bool
  | .int i, .int j => i == j
  | .str s, .str t => s == t
  | _, _ => false
theorem keq_key {a b : D} {x y : Key} (h1 : a.key = some x) (h2 : b.key = some y) : a.keq b = decide (x = y) := by
  cases a <;> simp [D.key] at h1 <;> subst h1 <;> cases b <;> simp [D.key] at h2 <;> subst h2 <;> rw [Bool.eq_iff_iff] <;> simp [D.keq]
def getD (kvs : List (D × D)) (k : D) : Option D := (kvs.find? fun p => p.1.keq k).map (·.2)
def putD (kvs : List (D × D)) (k d : D) : List (D × D) := if (kvs.any fun p => p.1.keq k) = true then kvs.map (fun p => if p.1.keq k then (p.1, d) else p) else kvs ++ [(k, d)]
/-- x in y -/
def inB (x : D) : D → R Bool
  | .lst ys => if x.sh 62 && D.shs ys 62 then .ok (ys.any fun z => z.eqb x) else .stuck
  | .tup ys => if x.sh 62 && D.shs ys 62 then .ok (ys.any fun z => z.eqb x) else .stuck
  | .str t => match x with
    | .str [c] => .ok (decide (c ∈ t))
    | _ => .stuck
  | .dic kvs => if x.key1 then .ok ((getD kvs x).isSome) else .stuck
  | _ => .stuck
def inD (x y : D) : R D := inB x y >>= fun b => .ok (.bl b)
def notInD (x y : D) : R D := inB x y >>= fun b => .ok (.bl (!b))
theorem toPs_any {x : D} {n : Nat} (hx : x.sh n = true) : ∀ {ys : List D} {m : Nat}, D.shs ys m = true → ((D.toPs ys).any fun z => PyData.eqv z x.toP) = ys.any fun z => z.eqb x
  | [], m, h => rfl
  | y :: ys, m, h => by
    simp only [D.shs, Bool.and_eq_true] at h
    simp only [D.toPs, List.any_cons, toPs_any hx h.2, eqb_eqv y x m n h.1 hx]
mutual
theorem sh_mono : ∀ (d : D) (n m : Nat), n ≤ m → d.sh n = true → d.sh m = true
  | .non, _, _, _, _ => rfl
  | .bl _, _, _, _, _ => rfl
  | .int _, _, _, _, _ => rfl
  | .str s, n, m, _, h => by simpa [D.sh] using h
  | .lst xs, n, m, h1, h2 => by
    cases n <;> first | (simp [D.sh] at h2; done) | skip
    cases m <;> first | omega | skip
    simp only [D.sh] at h2 ⊢
    exact shs_mono xs _ _ (by omega) h2
  | .tup xs, n, m, h1, h2 => by
    cases n <;> first | (simp [D.sh] at h2; done) | skip
    cases m <;> first | omega | skip
    simp only [D.sh] at h2 ⊢
    exact shs_mono xs _ _ (by omega) h2
  | .dic _, n, m, _, h => by simp [D.sh] at h
  | .cdic _, n, m, _, h => by simp [D.sh] at h
  | .ins _ _, n, m, _, h => by simp [D.sh] at h
  | .dice, n, m, _, h => by simp [D.sh] at h
  | .fn _, n, m, _, h => by simp [D.sh] at h
theorem shs_mono : ∀ (ds : List D) (n m : Nat), n ≤ m → D.shs ds n = true → D.shs ds m = true
  | [], _, _, _, _ => rfl
  | d :: ds, n, m, h1, h2 => by
    simp only [D.shs, Bool.and_eq_true] at h2 ⊢
    exact ⟨sh_mono d n m h1 h2.1, shs_mono ds n m h1 h2.2⟩
end
section
variable {X : Cx} {G : Gm} {W : WX}
/-- x in a tuple of data -/
def rInTD (K : PySem.W.Frag) (neg : Bool) : R2 := fun x y H Q => ∃ d ds, Dp K H x d ∧ Dp K H y (.tuple ds) ∧ SeqAt.shaped d = true ∧ SeqAt.shaped (.tuple ds) = true ∧ Q (.bl (if neg then !ds.any fun z => PyData.eqv z d else ds.any fun z => PyData.eqv z d)) H
theorem room_tup {A : Around} {ds : List PyData} {d : PyData} (sd : SeqAt.shaped d = true) (hu : A.units + 66 < cLine) : A.units + 1 + min (PyData.depthAll ds) d.depth < cLine := by
  have := SeqAt.depth_of_shaped sd
  omega
theorem op_inTD (hu : X.A.units + 66 < cLine) : OpR X (compareOp .In) (rInTD X.K false) := by
  intro pins s sg H x y v u Q I rx ry ⟨d, ds, hd, he, sd, se, q⟩
  obtain ⟨as, r1⟩ := Dp.reads I d x v hd rx
  obtain ⟨bs, r2⟩ := Dp.reads I (.tuple ds) y u he ry
  exact SeqAt.in_tuple_reads r2 r1 (SeqAt.canLay_of_shaped se) (SeqAt.canLay_of_shaped sd) (room_tup sd hu) ⟨.bl _, H, I, rfl, q⟩
theorem op_notInTD (hu : X.A.units + 66 < cLine) : OpR X (compareOp .NotIn) (rInTD X.K true) := by
  intro pins s sg H x y v u Q I rx ry ⟨d, ds, hd, he, sd, se, q⟩
  obtain ⟨as, r1⟩ := Dp.reads I d x v hd rx
  obtain ⟨bs, r2⟩ := Dp.reads I (.tuple ds) y u he ry
  exact SeqAt.notIn_tuple_reads r2 r1 (SeqAt.canLay_of_shaped se) (SeqAt.canLay_of_shaped sd) (room_tup sd hu) ⟨.bl _, H, I, rfl, q⟩
def rInDc (neg : Bool) : R2 := fun x y H Q => ∃ a o, y = .ref a ∧ DGet H a x o ∧ Q (.bl (if neg then !o.isSome else o.isSome)) H
theorem op_inDc (hu : X.A.units + 66 < cLine) : OpR X (compareOp .In) (rInDc false) := by
  intro pins s sg H x y v u Q I rx ry ⟨a, o, ey, g, q⟩
  subst ey
  obtain rfl : u = Value.ref a := ry
  exact d_in (by omega) I g rx fun s3 I3 => ⟨.bl o.isSome, H, I3, rfl, q⟩
theorem op_notInDc (hu : X.A.units + 66 < cLine) : OpR X (compareOp .NotIn) (rInDc true) := by
  intro pins s sg H x y v u Q I rx ry ⟨a, o, ey, g, q⟩
  subst ey
  obtain rfl : u = Value.ref a := ry
  exact d_notIn (by omega) I g rx fun s3 I3 => ⟨.bl (!o.isSome), H, I3, rfl, q⟩
theorem key_kV {d : D} {x : Key} {dl : Addr} {H : Hp} {Z : List Addr} {v : V} (h : d.key = some x) (rp : RepP G dl H Z d v) : v = kV x := by
  cases d <;> simp [D.key] at h <;> subst h
  · rw [rp.int]; rfl
  · rw [rp.str]; rfl
theorem key1_key {d : D} (h : d.key1 = true) : ∃ x, d.key = some x := by
  cases d <;> simp [D.key1] at h
  · exact ⟨_, rfl⟩
  · exact ⟨_, rfl⟩
theorem RepP.dic {dl : Addr} {H : Hp} {Z : List Addr} {v : V} {kvs : List (D × D)} (h : RepP G dl H Z (.dic kvs) v) : ∃ a kv, v = .ref a ∧ Rd H a (.dK kv) ∧ RepK G dl (cut H Z) kvs kv := by
  rcases h with h | ⟨a, e, hz, hd, q⟩
  · unfold Rep at h
    obtain ⟨a, o, kv, e, q, rl⟩ := h
    exact ⟨a, kv, e, .inr ⟨o, cut_grow H Z a _ q fun ps z => by cases z⟩, rl⟩
  · obtain ⟨kv, e2, rl⟩ := q
    exact ⟨a, kv, e, .inl e2, rl⟩
theorem getD_of {dl : Addr} {S : Hp} {k : D} {x : Key} (hk : k.key = some x) : ∀ {kvs : List (D × D)} {kv : List (Key × V)}, RepK G dl S kvs kv → (getD kvs k = none ∧ valV kv x = none) ∨ ∃ d v, getD kvs k = some d ∧ valV kv x = some v ∧ Rep G dl S d v
  | [], kv, h => by
    unfold RepK at h
    subst h
    exact .inl ⟨rfl, rfl⟩
  | (k', d) :: kvs, kv, h => by
    unfold RepK at h
    obtain ⟨y, v, r, rfl, hk', rp, h2⟩ := h
    have e := keq_key hk' hk
    by_cases q : y = x
    · refine .inr ⟨d, v, ?_, valV_pos q, rp⟩
      unfold getD
      rw [List.find?_cons, show k'.keq k = true by rw [e]; exact decide_eq_true q]
      rfl
    · have e2 : k'.keq k = false := by rw [e]; exact decide_eq_false q
      have h3 : getD ((k', d) :: kvs) k = getD kvs k := by
        unfold getD
        rw [List.find?_cons, e2]
      rw [h3, valV_neg q]
      exact getD_of hk h2
theorem in_core {neg : Bool} {rr : R2} (hG : G.K = X.K)
    (hL : ∀ {x y : V} {H : Hp} {Q : VK} {d : PyData} {ds : List PyData}, Dp X.K H x d → Dp X.K H y (.list ds) → SeqAt.shaped d = true → SeqAt.shaped (.list ds) = true → Q (.bl (if neg then !ds.any fun z => PyData.eqv z d else ds.any fun z => PyData.eqv z d)) H → rr x y H Q)
    (hT : ∀ {x y : V} {H : Hp} {Q : VK}, rInTD X.K neg x y H Q → rr x y H Q) (hS : ∀ {c : Nat} {z : Str} {H : Hp} {Q : VK}, Q (.bl (if neg then !decide (c ∈ z.cps.toList) else decide (c ∈ z.cps.toList))) H → rr (.str ⟨#[c]⟩) (.str z) H Q) (hD : ∀ {x y : V} {H : Hp} {Q : VK}, rInDc neg x y H Q → rr x y H Q)
    (dl : Addr) (Z : List Addr) (O : List (Nat × Addr)) (r : LE) (sg : L2.St) (x y : D) (vx vy : V) (H : Hp) (Q : VK) (E : Exc → Prop) (A : At G dl Z O r sg H) (hx : RepP G dl H Z x vx) (hy : RepP G dl H Z y vy)
    (h : Wp (inB x y >>= fun b => R.ok (D.bl (if neg then !b else b))) (fun d => ∀ v H', Grow dl H H' → GlOk G dl H' → Rep G dl (cut H' Z) d v → Q v H') E) : rr vx vy H Q := by
  unfold inB at h
  split at h
  · split at h
    · rename_i ys hc
      rw [Bool.and_eq_true] at hc
      have e := toPs_any hc.1 hc.2
      refine hL (d := x.toP) (ds := D.toPs ys) (hG ▸ hx.dp hc.1) (hG ▸ (RepP.dp (n := 63) (by simpa [D.sh] using hc.2) hy)) (sh_shaped (sh_mono _ _ _ (by decide) hc.1)) (sh_shaped (d := .lst ys) (by simpa [D.sh] using shs_mono _ _ 63 (by decide) hc.2)) ?_
      rw [e]
      exact h _ H (.refl _ _) A.gl Rep.bl_
    · exact h.elim
  · split at h
    · rename_i ys hc
      rw [Bool.and_eq_true] at hc
      have e := toPs_any hc.1 hc.2
      refine hT ⟨x.toP, D.toPs ys, hG ▸ hx.dp hc.1, hG ▸ (RepP.dp (n := 63) (by simpa [D.sh] using hc.2) hy), sh_shaped (sh_mono _ _ _ (by decide) hc.1), sh_shaped (d := .tup ys) (by simpa [D.sh] using shs_mono _ _ 63 (by decide) hc.2), ?_⟩
      rw [e]
      exact h _ H (.refl _ _) A.gl Rep.bl_
    · exact h.elim
  · split at h
    · rename_i t _ c
      rw [hx.str, hy.str]
      refine hS ?_
      have := h (.bl (if neg then !decide (c ∈ t) else decide (c ∈ t))) H (.refl _ _) A.gl Rep.bl_
      simpa using this
    · exact h.elim
  · split at h
    · rename_i kvs hk1
      obtain ⟨k, hk⟩ := key1_key hk1
      obtain ⟨a, kv, rfl, hrd, rk⟩ := hy.dic
      refine hD ⟨a, valV kv k, rfl, .inl ⟨kv, k, hrd, key_kV hk hx, rfl⟩, ?_⟩
      have hsome : (valV kv k).isSome = (getD kvs x).isSome := by
        rcases getD_of hk rk with ⟨e1, e2⟩ | ⟨d, v, e1, e2, _⟩ <;> simp [e1, e2]
      rw [hsome]
      exact h _ H (.refl _ _) A.gl Rep.bl_
    · exact h.elim
  · exact h.elim
theorem op_in_d (hG : G.K = X.K) (hu : X.A.units + 70 < cLine) : OpD X G (compareOp .In) inD := by
  refine ⟨_, OpR.or (op_inD (by omega)) (OpR.or (op_inTD (by omega)) (OpR.or op_in_sign (op_inDc (by omega)))), ?_⟩
  exact in_core (neg := false) hG (fun h1 h2 h3 h4 q => .inl ⟨_, _, h1, h2, h3, h4, q⟩) (fun h => .inr (.inl h)) (fun q => .inr (.inr (.inl ⟨_, _, rfl, rfl, q⟩))) (fun h => .inr (.inr (.inr h)))
theorem op_notin_d (hG : G.K = X.K) (hu : X.A.units + 70 < cLine) : OpD X G (compareOp .NotIn) notInD := by
  refine ⟨_, OpR.or (op_notInD (by omega)) (OpR.or (op_notInTD (by omega)) (OpR.or op_notIn_sign (op_notInDc (by omega)))), ?_⟩
  exact in_core (neg := true) hG (fun h1 h2 h3 h4 q => .inl ⟨_, _, h1, h2, h3, h4, q⟩) (fun h => .inr (.inl h)) (fun q => .inr (.inr (.inl ⟨_, _, rfl, rfl, q⟩))) (fun h => .inr (.inr (.inr h)))
end
end DL
set_option Elab.async false
set_option linter.all false
set_option maxRecDepth 100000
namespace DL
open PySem L2 PySem.Spec PyProof.Rows
def getC (kvs : List (List Nat × D)) (k : List Nat) : Option D := (kvs.find? fun p => p.1 == k).map (·.2)
def subI (x y : D) : R D := match x with
  | .dic kvs => if y.key1 then (match getD kvs y with
    | some d => .ok d
    | none => .stuck) else .stuck
  | .cdic kvs => match y with
    | .str s => match getC kvs s with
      | some d => .ok d
      | none => .stuck
    | _ => .stuck
  | x => ixD x y
section
variable {X : Cx} {G : Gm} {W : WX} {ex a b : Expr} {es : List Expr} {f g : LE → R D} {fs : LE → R (List D)} {pos p : Pos} {dl : Addr} {S H : Hp} {Z : List Addr}
def rIxDK : R2 := fun x y H Q => ∃ a v, x = .ref a ∧ DGet H a y (some v) ∧ Q v H
theorem ix_dict (hu : X.A.units + 1 < cLine) : IxR X rIxDK := by
  intro value slice pins s sg H x y v u Q I rx ry h hs
  obtain ⟨p, r, rfl, g, q⟩ := h
  obtain rfl : v = Value.ref p := rx
  exact tail_any (dict_typeIs I g) PySem.F.slot_dict_getitem.lookup (d_getItem hu I g ry fun w' s3 I3 rw' => ⟨r, H, I3, rw', q⟩) hs
theorem RepP.cdic {v : V} {kvs : List (List Nat × D)} (h : RepP G dl H Z (.cdic kvs) v) : ∃ a, v = .ref a ∧ RepC G dl (cut H Z) a kvs := by
  rcases h with h | ⟨a, e, hz, hd, q⟩
  · unfold Rep at h
    exact h
  · exact q.elim
theorem getC_of {a : Addr} {k : List Nat} {d : D} : ∀ {kvs : List (List Nat × D)}, RepC G dl S a kvs → getC kvs k = some d → ∃ v, KDct G.K G.w a ⟨k.toArray⟩ v ∧ Rep G dl S d v
  | [], h, e => by simp [getC] at e
  | (k', d') :: kvs, h, e => by
    unfold RepC at h
    unfold getC at e
    rw [List.find?_cons] at e
    by_cases q : k' = k
    · subst q
      simp at e
      subst e
      exact h.1
    · rw [show (k' == k) = false from beq_eq_false_iff_ne.mpr q] at e
      exact getC_of h.2 e
theorem de_sub (hG : G.K = X.K) (hw : G.w = X.w) (hu : X.A.units + 70 < cLine) (ha : DP X G W a f) (hb : DP X G W b g) (hs : PlainIx b) : DE X G W (.Subscript a b pos) (fun r => do let x ← f r; let y ← g r; subI x y) := by
  refine PE_imp (pe_ix (IxR.or (ix_dict (by omega)) (IxR.or ix_kdict ix_seq)) ha hb hs) fun sg H Q h => ?_
  refine op_core (fun dl Z O r sg x y vx vy H Q E A hx hy h => ?_) h
  cases x with
  | dic kvs =>
    unfold subI at h
    dsimp only at h
    split at h
    · rename_i hk1
      obtain ⟨kk, hk⟩ := key1_key hk1
      obtain ⟨a, kv, rfl, hrd, rk⟩ := hx.dic
      split at h
      · rename_i d hd
        rcases getD_of hk rk with ⟨e1, e2⟩ | ⟨d', v, e1, e2, rp⟩
        · rw [e1] at hd; cases hd
        · rw [e1] at hd
          cases hd
          exact .inl ⟨a, v, rfl, .inl ⟨kv, kk, hrd, key_kV hk hy, e2.symm⟩, h v H (.refl _ _) A.gl rp⟩
      · exact h.elim
    · exact h.elim
  | cdic kvs =>
    cases y <;> first | exact h.elim | skip
    rename_i s
    unfold subI at h
    dsimp only at h
    split at h
    · rename_i d hd
      obtain ⟨a, rfl, rc⟩ := hx.cdic
      obtain ⟨v, kd, rp⟩ := getC_of rc hd
      exact .inr (.inl ⟨a, ⟨s.toArray⟩, v, rfl, hy.str, hG ▸ hw ▸ kd, h v H (.refl _ _) A.gl rp⟩)
    · exact h.elim
  | lst xs =>
    cases y <;> first | exact h.elim | skip
    rename_i i
    unfold subI ixD at h
    dsimp only at h
    split at h
    · rename_i d hd
      obtain ⟨p, vs, rfl, h1, rl⟩ := hx.lst
      obtain ⟨v, h2, rp⟩ := atI_rep rl hd
      exact .inr (.inr (.inl ⟨p, vs, i, v, rfl, hy.int, SqL.of h1, h2, h v H (.refl _ _) A.gl rp⟩))
    · exact h.elim
  | tup xs =>
    cases y <;> first | exact h.elim | skip
    rename_i i
    unfold subI ixD at h
    dsimp only at h
    split at h
    · rename_i d hd
      obtain ⟨p, vs, rfl, h1, rl⟩ := hx.tup
      obtain ⟨v, h2, rp⟩ := atI_rep rl hd
      exact .inr (.inr (.inr (.inl ⟨p, vs, i, v, rfl, hy.int, hG ▸ h1, h2, h v H (.refl _ _) A.gl rp⟩)))
    · exact h.elim
  | str s =>
    cases y <;> first | exact h.elim | skip
    rename_i i
    unfold subI ixD at h
    dsimp only at h
    split at h
    · rename_i hz
      split at h
      · rename_i c hc
        refine .inr (.inr (.inr (.inr ⟨_, i, c, hx.str, hy.int, by rw [sizeLine_eq]; simpa [Str.length] using hz, hc, ?_⟩)))
        exact h _ H (.refl _ _) A.gl (Rep.str_ (x := [c]))
      · exact h.elim
    · exact h.elim
  | non => cases y <;> exact h.elim
  | bl b => cases y <;> exact h.elim
  | int b => cases y <;> exact h.elim
  | ins c b => cases y <;> exact h.elim
  | dice => cases y <;> exact h.elim
  | fn b => cases y <;> exact h.elim
  | ktup b => cases y <;> exact h.elim
  | ctup b => cases y <;> exact h.elim
  | tdic b => cases y <;> exact h.elim
def negD : D → R D
  | .int i => .ok (.int (-i))
  | _ => .stuck
theorem de_neg (ha : DP X G W a f) : DE X G W (.UnaryOp .USub a pos) (fun r => do let x ← f r; negD x) := by
  refine PE_imp (pe_un un_neg ha) fun sg H Q ⟨dl, Z, O, r, A, q⟩ => ?_
  refine ⟨dl, Z, O, r, A, q.bind.thn fun d hd v H1 g1 k1 rp => ?_⟩
  unfold negD at hd
  split at hd
  · rename_i i
    exact ⟨i, rp.int, hd _ H1 g1 k1 Rep.int_⟩
  · exact hd.elim
def isT (T : String) : D → R D
  | .str s => if T = "str" then .ok (.str s) else .stuck
  | .lst xs => if T = "list" then .ok (.lst xs) else .stuck
  | .dic xs => if T = "dict" then .ok (.dic xs) else .stuck
  | _ => .stuck
def TyW (K : PySem.W.Frag) (T : String) (x : V) (H : Hp) : Prop := tyV K T x H ∨ (T = "dict" ∧ ∃ p kvs, x = .ref p ∧ Rd H p (.dK kvs))
theorem tyW_is {pins : List (Addr × Obj)} {sg : L2.St} {H : Hp} {s : Shared} {T : String} {x : V} {v : Value} (I : Inv X pins sg H s) (r : RelV x v) (ty : TyW X.K T x H) :
    s.TypeIs v T ∧ ∀ a, v = .ref a → ∃ ob, s.heap.get? a = some ob ∧ ob.dict = none := by
  rcases ty with ty | ⟨rfl, p, kvs, rfl, hd⟩
  · exact tyV_is I r ty
  · cases r
    obtain ⟨_, _, vs, _, dd⟩ := dk_rd I.hok hd
    refine ⟨dd.typeIs, fun b q => ?_⟩
    cases q
    obtain ⟨ob, _, _, h1, h2, _⟩ := dd
    exact ⟨ob, h1, h2.2.1⟩
theorem isT_wp {T : String} {d : D} {Q : D → Prop} {E : Exc → Prop} (h : Wp (isT T d) Q E) : Q d ∧ ∀ (hG : G.K = X.K) {v : V}, RepP G dl H Z d v → TyW X.K T v H := by
  unfold isT at h
  split at h
  all_goals first | exact h.elim | skip
  all_goals split at h
  all_goals first | exact h.elim | skip
  all_goals rename_i e
  all_goals subst e
  all_goals refine ⟨h, fun hG v rp => ?_⟩
  · rw [rp.str]; exact .inl rfl
  · obtain ⟨a, vs, rfl, h1, _⟩ := rp.lst
    exact .inl (.inl ⟨rfl, vs, SqL.of h1⟩)
  · obtain ⟨a, kv, rfl, h1, _⟩ := rp.dic
    exact .inr ⟨rfl, a, kv, rfl, h1⟩
def tBMW (K : PySem.W.Frag) (T : String) (r : V → List V → Hp → VK → Prop) (to : TE) (t : TA) : TE := fun sg H Q => to sg H fun x H1 => TyW K T x H1 ∧ t sg H1 fun xs H2 => r x xs H2 Q
variable {o e : Expr} {to : TE} {t : TA} {name : Str} {apos cpos : Pos} {T id : String} {r : V → List V → Hp → VK → Prop}
theorem pe_bmw (pa : PlainAttrs T) (slot : PySem.Slot T name id) (hty : typeOf (.builtin id) = pure (.type "method_descriptor")) (hm : MtR X id r) (ho : PE X o to) (ha : PA X (e :: es) t)
    (hbase : attributeBase o name X.env (eval o X.env) = eval o X.env)
    (hfew : ((backTo cpos (starEach (e :: es) X.env)).all (fun x => !x.1) && (backToKw cpos (keywordEach [] X.env)).all (fun x => x.1.isSome)
      && decide ((e :: es).length + ([] : List Keyword).length + (if ([] : List Keyword).isEmpty then 0 else 1) < 30)) = true)
    (hline : (apos.endLine == cpos.line) = true) (hs : starEach (e :: es) X.env = (false, eval e X.env) :: starEach es X.env) (hplain : (backTo cpos (starEach es X.env)).any (·.1) = false) :
    PE X (.Call (.Attribute o name apos) (e :: es) [] cpos) (tBMW X.K T r to t) := by
  refine ⟨fun pins s sg H Q I h => ?_⟩
  refine wpAny_Call_method_late hbase hfew hline rfl (thn (ho.run pins s sg H _ I h) fun v s1 ⟨x, H1, I1, r1, ty, q1⟩ => ?_)
  obtain ⟨h1, h2⟩ := tyW_is I1 r1 ty
  refine ⟨T, id, pa, slot, hty, h1, h2, ?_⟩
  have hA := ha.run cpos pins s1 sg H1 _ I1 q1
  rw [hs] at hA ⊢
  refine Calls.callWith_builtin (by show (false || (backTo cpos (starEach es X.env)).any (·.1)) = false; rw [hplain] <;> rfl) (Calls.evalArgs_plain ?_)
  exact thn hA fun us s2 ⟨vs, H2, I2, r2, q2⟩ => hm pins s2 sg H2 x vs v us Q I2 r1 r2 q2
/-- a method of a built-in type -/
structure BmD (X : Cx) (G : Gm) (T : String) (m : Str) (g : D → List D → R D) : Prop where
  ex : ∃ (id : String) (rr : V → List V → Hp → VK → Prop), PySem.Slot T m id ∧ typeOf (.builtin id) = pure (.type "method_descriptor") ∧ MtR X id rr ∧
    ∀ (dl : Addr) (Z : List Addr) (O : List (Nat × Addr)) (r : LE) (sg : L2.St) (x : D) (vx : V) (ds : List D) (vs : List V) (H : Hp) (Q : VK) (E : Exc → Prop), At G dl Z O r sg H → RepP G dl H Z x vx → RepPL G dl H Z ds vs →
      Wp (g x ds) (fun d => ∀ v H', Grow dl H H' → GlOk G dl H' → Rep G dl (cut H' Z) d v → Q v H') E → rr vx vs H Q
  pa : PlainAttrs T
theorem de_bm {gg : D → List D → R D} (B : BmD X G T name gg) (hG : G.K = X.K) (ho : DP X G W o f) (ha : DAp X G W (e :: es) fs) (hbase : attributeBase o name X.env (eval o X.env) = eval o X.env := by rfl)
    (hfew : ((backTo cpos (starEach (e :: es) X.env)).all (fun x => !x.1) && (backToKw cpos (keywordEach [] X.env)).all (fun x => x.1.isSome)
      && decide ((e :: es).length + ([] : List Keyword).length + (if ([] : List Keyword).isEmpty then 0 else 1) < 30)) = true := by rfl)
    (hline : (apos.endLine == cpos.line) = true := by rfl) (hs : starEach (e :: es) X.env = (false, eval e X.env) :: starEach es X.env := by rfl) (hplain : (backTo cpos (starEach es X.env)).any (·.1) = false := by rfl) :
    DE X G W (.Call (.Attribute o name apos) (e :: es) [] cpos) (fun r => do let x ← f r; let x ← isT T x; let ds ← fs r; gg x ds) := by
  obtain ⟨⟨id, rr, slot, hty, hm, hc⟩, pa⟩ := B
  refine PE_imp (pe_bmw pa slot hty hm ho ha hbase hfew hline hs hplain) fun sg H Q ⟨dl, Z, O, r, A, q⟩ => ?_
  refine ⟨dl, Z, O, r, A, q.bind.thn fun x hx v H1 g1 k1 rp => ?_⟩
  obtain ⟨hx, ht⟩ := isT_wp (G := G) (X := X) (dl := dl) (H := H1) (Z := Z) hx.bind
  have A1 := A.grow g1 k1
  refine ⟨ht hG rp, dl, Z, O, r, A1, hx.bind.mono (fun ds hd vs H2 g2 k2 rl => ?_) fun e => epost g1⟩
  exact hc dl Z O r sg x v ds vs H2 Q _ (A1.grow g2 k2) (rp.grow A1 g2) rl (hd.thn fun d h w H' g' k' rp => h w H' ((g1.trans g2).trans g') k' rp)
end
end DL
set_option Elab.async false
set_option linter.all false
set_option maxRecDepth 100000
namespace DL
open PySem L2 PySem.Spec PyProof.Rows
section
variable {X : Cx} {G : Gm} {W : WX} {ex a b o e : Expr} {es : List Expr} {f g : LE → R D} {fs : LE → R (List D)} {pos p apos cpos : Pos} {dl : Addr} {S H : Hp} {Z : List Addr} {name x : Str}
theorem key_inj {a b : D} {x y : Key} (h1 : a.key = some x) (h2 : b.key = some y) : a.keq b = true ↔ x = y := by
  rw [keq_key h1 h2]; simp
theorem RepK.any : ∀ {kvs : List (D × D)} {kv : List (Key × V)} {k : D} {x : Key}, RepK G dl S kvs kv → k.key = some x → (kvs.any fun p => p.1.keq k) = (kv.any fun p => decide (p.1 = x))
  | [], kv, k, x, h, hk => by unfold RepK at h; subst h; rfl
  | (k', d) :: kvs, kv, k, x, h, hk => by
    unfold RepK at h
    obtain ⟨y, v, r, rfl, hk', rp, h2⟩ := h
    rw [List.any_cons, List.any_cons, keq_key hk' hk, RepK.any h2 hk]
theorem RepK.map : ∀ {kvs : List (D × D)} {kv : List (Key × V)} {k d : D} {x : Key} {v : V}, RepK G dl S kvs kv → k.key = some x → Rep G dl S d v →
    RepK G dl S (kvs.map fun p => if p.1.keq k then (p.1, d) else p) (kv.map fun p => if p.1 = x then (p.1, v) else p)
  | [], kv, k, d, x, v, h, hk, rv => by unfold RepK at h; subst h; unfold RepK; rfl
  | (k', d') :: kvs, kv, k, d, x, v, h, hk, rv => by
    unfold RepK at h
    obtain ⟨y, u, r, rfl, hk', rp, h2⟩ := h
    have q := RepK.map (v := v) (d := d) h2 hk rv
    rw [List.map_cons, List.map_cons]
    by_cases e : y = x
    · rw [if_pos ((key_inj hk' hk).mpr e), if_pos e]
      unfold RepK
      exact ⟨y, v, _, rfl, hk', rv, q⟩
    · rw [if_neg fun z => e ((key_inj hk' hk).mp z), if_neg e]
      unfold RepK
      exact ⟨y, u, _, rfl, hk', rp, q⟩
theorem RepK.app : ∀ {kvs : List (D × D)} {kv : List (Key × V)} {k d : D} {x : Key} {v : V}, RepK G dl S kvs kv → k.key = some x → Rep G dl S d v → RepK G dl S (kvs ++ [(k, d)]) (kv ++ [(x, v)])
  | [], kv, k, d, x, v, h, hk, rv => by
    unfold RepK at h
    subst h
    unfold RepK
    exact ⟨x, v, [], rfl, hk, rv, by unfold RepK; rfl⟩
  | (k', d') :: kvs, kv, k, d, x, v, h, hk, rv => by
    unfold RepK at h
    obtain ⟨y, u, r, rfl, hk', rp, h2⟩ := h
    rw [List.cons_append]
    unfold RepK
    exact ⟨y, u, r ++ [(x, v)], rfl, hk', rp, RepK.app h2 hk rv⟩
theorem RepK.put {kvs : List (D × D)} {kv : List (Key × V)} {k d : D} {x : Key} {v : V} (h : RepK G dl S kvs kv) (hk : k.key = some x) (rv : Rep G dl S d v) : RepK G dl S (putD kvs k d) (putK kv x v) := by
  unfold putD putK
  rw [RepK.any h hk]
  by_cases c : (kv.any fun p => decide (p.1 = x)) = true
  · rw [if_pos c, if_pos c]
    exact h.map hk rv
  · rw [if_neg c, if_neg c]
    exact h.app hk rv
theorem RepK.length : ∀ {kvs : List (D × D)} {kv : List (Key × V)}, RepK G dl S kvs kv → kv.length = kvs.length
  | [], kv, h => by unfold RepK at h; subst h; rfl
  | (k', d') :: kvs, kv, h => by
    unfold RepK at h
    obtain ⟨y, u, r, rfl, _, _, h2⟩ := h
    rw [List.length_cons, List.length_cons, RepK.length h2]
/-- the pairs of a display -/
inductive DPs (X : Cx) (G : Gm) (W : WX) (pos : Pos) : List (Option Expr) → List Expr → List ((LE → R D) × (LE → R D)) → Prop
  | nil : DPs X G W pos [] [] []
  | cons {k v : Expr} {ks : List (Option Expr)} {vs : List Expr} {f g : LE → R D} {fs : List ((LE → R D) × (LE → R D))} (hk : DE X G W k f) (hv : DE X G W v g) (h : DPs X G W pos ks vs fs) : DPs X G W pos (some k :: ks) (v :: vs) ((f, g) :: fs)
def prs : List ((LE → R D) × (LE → R D)) → LE → R (List (D × D))
  | [], _ => .ok []
  | (f, g) :: fs, r => do
    let k ← f r
    let v ← g r
    let t ← prs fs r
    if k.key1 then .ok ((k, v) :: t) else .stuck
def mergeD (kvs more : List (D × D)) : List (D × D) := more.foldl (fun acc p => putD acc p.1 p.2) kvs
theorem RepK_merge : ∀ (more : List (D × D)) {mv : List (Key × V)} {kvs : List (D × D)} {kv : List (Key × V)}, RepK G dl S more mv → RepK G dl S kvs kv → RepK G dl S (mergeD kvs more) (mergeK kv mv)
  | [], mv, kvs, kv, h, h2 => by unfold RepK at h; subst h; exact h2
  | (k, d) :: more, mv, kvs, kv, h, h2 => by
    unfold RepK at h
    obtain ⟨y, u, r, rfl, hk, rp, h3⟩ := h
    have z := RepK_merge more h3 (h2.put hk rp)
    exact z
def trsOf (G : Gm) (W : WX) : List ((LE → R D) × (LE → R D)) → List (TE × TE)
  | [] => []
  | (f, g) :: fs => (tD G W f, tD G W g) :: trsOf G W fs
theorem DPs.pps {ks : List (Option Expr)} {vs : List Expr} {fs : List ((LE → R D) × (LE → R D))} (h : DPs X G W pos ks vs fs) : PPs X pos ks vs (trsOf G W fs) := by
  induction h with
  | nil => exact pps_nil
  | cons hk hv h ih => exact pps_cons hk hv ih
theorem pairs_core : ∀ {fs : List ((LE → R D) × (LE → R D))} {dl : Addr} {Z : List Addr} {O : List (Nat × Addr)} {r : LE} {sg : L2.St} {H : Hp} {Q : List (V × V) → Hp → Prop} (A : At G dl Z O r sg H),
    Wp (prs fs r) (fun ds => ∀ kv H', Grow dl H H' → GlOk G dl H' → RepK G dl (cut H' Z) ds kv → Q (kv.map fun p => (kV p.1, p.2)) H')
      (fun e => ∀ cls dx H', Grow dl H H' → GlOk G dl H' → XRep G dl (cut H' Z) e cls dx H' → W cls dx sg H') → tPairs (trsOf G W fs) sg H Q
  | [], dl, Z, O, r, sg, H, Q, A, q => q [] H (.refl _ _) A.gl (by unfold RepK; rfl)
  | (f, g) :: fs, dl, Z, O, r, sg, H, Q, A, q => by
    refine ⟨dl, Z, O, r, A, q.bind.thn fun k hk v H1 g1 k1 rk => ?_⟩
    have A1 := A.grow g1 k1
    refine ⟨dl, Z, O, r, A1, hk.bind.mono (fun d hd u H2 g2 k2 rd => ?_) fun e => epost g1⟩
    have A2 := A1.grow g2 k2
    refine pairs_core A2 (hd.bind.mono (fun ds hds kv H3 g3 k3 rl => ?_) fun e => epost (g1.trans g2))
    split at hds
    · rename_i hk1
      obtain ⟨x, hx⟩ := key1_key hk1
      have rk3 := rk.mono ((g2.trans g3).cut A.dz)
      have e := key_kV hx (.of rk3)
      subst e
      refine hds ((x, u) :: kv) H3 ((g1.trans g2).trans g3) k3 ?_
      unfold RepK
      exact ⟨x, u, kv, rfl, hx, rd.mono (g3.cut A.dz), rl⟩
    · exact hds.elim
def dispE (fs : List ((LE → R D) × (LE → R D))) : LE → R D := fun r => do
  let ps ← prs fs r
  .ok (.dic (mergeD [] ps))
theorem prs_len : ∀ {fs : List ((LE → R D) × (LE → R D))} {r : LE} {Q : List (D × D) → Prop} {E : Exc → Prop}, Wp (prs fs r) Q E → Wp (prs fs r) (fun ps => Q ps ∧ ps.length = fs.length) E
  | [], r, Q, E, h => ⟨h, rfl⟩
  | (f, g) :: fs, r, Q, E, h => by
    refine Wp.of_bind (h.bind.thn fun k hk => Wp.of_bind (hk.bind.thn fun v hv => Wp.of_bind ((prs_len hv.bind).thn fun t ht => ?_)))
    obtain ⟨ht, hl⟩ := ht
    split at ht
    · rename_i c
      rw [if_pos c]
      exact ⟨ht, by rw [List.length_cons, List.length_cons, hl]⟩
    · exact ht.elim
theorem DPs.len {ks : List (Option Expr)} {vs : List Expr} {fs : List ((LE → R D) × (LE → R D))} (h : DPs X G W pos ks vs fs) : fs.length = ks.length := by
  induction h with
  | nil => rfl
  | cons _ _ _ ih => rw [List.length_cons, List.length_cons, ih]
theorem de_disp {ks : List (Option Expr)} {vs : List Expr} {fs : List ((LE → R D) × (LE → R D))} (h : DPs X G W pos ks vs fs) (hall : ks.all (·.isSome) = true := by rfl) (hl : ks.length = vs.length := by rfl) (h0 : ks ≠ [] := by exact nofun) (h15 : ks.length ≤ 15 := by decide) :
    DE X G W (.Dict ks vs pos) (dispE fs) := by
  refine PE_imp (pe_lkN (pe_disp h.pps hall hl h0 h15)) fun sg H Q ⟨dl, Z, O, r, A, q⟩ p hp => ?_
  have nt : ∀ ps, (HO.dK []) ≠ .tbl ps := fun ps z => by cases z
  have B := A.aside hp (NT.dK [])
  have g0 : Grow dl H (upd H p (.dK [])) := .new hp
  refine pairs_core B ((prs_len q.bind).mono (fun ds hd kv H2 g2 k2 rk => ?_) fun e he cls dx H' g k xr => he cls dx H' (g0.trans g) k (xr.mono (cut_sub fun a ha => List.mem_cons_of_mem _ ha)))
  obtain ⟨hd, hlen⟩ := hd
  have hpd : p ≠ dl := A.out hp |> fun z e => z (e ▸ A.dz)
  have hz : p ∉ Z := A.out hp
  refine ⟨g2 p _ upd_same hpd nt, kv, rfl, by rw [rk.length, hlen, h.len]; exact h15, p, .dK (mergeK [] kv), rfl, upd_same, trivial, fun od => ?_⟩
  rw [upd_upd]
  have hgr : Grow dl H (upd H2 p (.frz od (.dK (mergeK [] kv)))) := fun a u e n nt => by
    rw [upd_ne (ne_of_none e hp)]
    exact g2 a u (by rw [upd_ne (ne_of_none e hp)]; exact e) n nt
  have kgl : GlOk G dl (upd H2 p (.frz od (.dK (mergeK [] kv)))) := by
    have h2p : H2 p = some (.dK []) := g2 p _ upd_same hpd nt
    obtain ⟨x, y, z, hdl⟩ := k2.dice
    exact ⟨⟨x, y, z, by rw [upd_ne (fun e => hpd e.symm)]; exact hdl⟩, k2.tab.upd h2p rfl⟩
  refine hd (.ref p) _ hgr kgl ?_
  have hcut : GrowS (cut H2 (p :: Z)) (cut (upd H2 p (.frz od (.dK (mergeK [] kv)))) Z) := fun a u e n => by
    obtain ⟨e1, e2⟩ := cut_some e
    rw [cut_out fun z => e1 (List.mem_cons_of_mem _ z), upd_ne fun z => e1 (by rw [z]; exact List.mem_cons_self)]
    exact e2
  unfold Rep
  refine ⟨p, od, mergeK [] kv, rfl, by rw [cut_out hz]; exact upd_same, ?_⟩
  exact RepK_merge _ (RepK.mono hcut _ rk) (by unfold RepK; rfl)
end
end DL
set_option Elab.async false
set_option linter.all false
set_option maxRecDepth 100000
namespace DL
open PySem L2 PySem.Spec PyProof.Rows
/-- _law_roll -/
def rollD : List D → R D
  | [.dice, .int m] => if 0 < m ∧ m < 1000000000 then .roll m.toNat (fun i => .ok (.int (i : Nat))) else .stuck
  | _ => .stuck
theorem rollD_len : ∀ ds Q E, Wp (rollD ds) Q E → ds.length = 2 := fun ds Q E h => by
  unfold rollD at h
  split at h
  · rfl
  · exact h.elim
/-- what a roll is asked: any number below m may come -/
theorem roll_of {G : Gm} {dl : Addr} {Z : List Addr} {ds : List D} {vs : List V} {H : Hp} {Q : VK} {E : XK} (gl : GlOk G dl H) (dz : dl ∈ Z) (rl : RepL G dl (cut H Z) ds vs)
    (h : Wp (rollD ds) (fun d => ∀ v H', Grow dl H H' → GlOk G dl H' → Rep G dl (cut H' Z) d v → Q v H') (fun e => ∀ cls dx H', Grow dl H H' → GlOk G dl H' → XRep G dl (cut H' Z) e cls dx H' → E cls dx H')) :
    ∃ (m x y z : Int), vs = [.ref dl, .int m] ∧ 0 < m ∧ m < 1000000000 ∧ H dl = some (.lst [.int x, .int y, .int z]) ∧ ∀ (r : Int) (H' : Hp), 0 ≤ r → r < m → (∃ a b c : Int, H' = upd H dl (.lst [.int a, .int b, .int c])) → Q (.int r) H' := by
  unfold rollD at h
  split at h
  · rename_i m
    split at h
    · rename_i hm
      obtain ⟨x, y, z, hd⟩ := gl.dice
      unfold RepL at rl
      obtain ⟨v1, r1, rfl, h1, rl⟩ := rl
      unfold RepL at rl
      obtain ⟨v2, r2, rfl, h2, rl⟩ := rl
      unfold RepL at rl
      subst rl
      unfold Rep at h1 h2
      subst h1 h2
      refine ⟨m, x, y, z, rfl, hm.1, hm.2, hd, fun r H' h0 h1 ⟨a, b, c, e⟩ => ?_⟩
      subst e
      have e : r = ((r.toNat : Nat) : Int) := by omega
      rw [e]
      exact h r.toNat (by omega) _ _ (fun p o hp n nt => by rw [upd_ne n]; exact hp) ⟨⟨a, b, c, upd_same⟩, gl.tab.upd hd rfl⟩ Rep.int_
    · exact h.elim
  · exact h.elim
/-- a new dice -/
def spDice : Sp := fun vs H Q _ => ∃ c : Int, vs = [.int c] ∧ ∀ p (x y z : Int), H p = none → Q (.ref p) (upd H p (.lst [.int x, .int y, .int z]))
/-- one round's dice -/
def spRounds (K : PySem.W.Frag) : Sp := fun vs H Q _ => ∃ (a : Addr) (ns : List Int), vs = [.ref a, .int 1] ∧ SqL K H a (ns.map V.int) ∧
  ∀ (H' : Hp) (l d : Addr) (x y z : Int), (∀ b o, H b = some o → H' b = some o) → l ≠ d → H' l = some (.lst [.ref d]) → H' d = some (.lst [.int x, .int y, .int z]) → Q (.ref l) H'
/-- what is asked of the law -/
def spLaw (K : PySem.W.Frag) (T : List (Addr × Str)) : Sp := fun vs H Q _ => ∃ (a : Addr) (ns : List Int), vs = [.ref a] ∧ SqL K H a (ns.map V.int) ∧ (∀ p ∈ T, H p.1 = some (.tbl #[])) ∧ ∀ H', Q (.bl true) H'
/-- the slots when the round begins -/
def r0 (m : Nat) : LE := .un :: .val .dice :: List.replicate (m - 2) .un
theorem law_core {G : Gm} {W : WX} {N : List Str} {F : LE → R Out} {m : Nat} {a : Addr} {ns : List Int} {H : Hp} {Q : VK} {E : L2.St → XK} {nx0 : L2.St → Hp → Prop} (hm : N.length = m) (h2 : 2 ≤ m) (hS : SqL G.K H a (ns.map V.int)) (hT : ∀ p ∈ G.tabs, H p.1 = some (.tbl #[])) (hU : ∀ p ∈ G.tabs, ∀ q ∈ G.tabs, p.1 = q.1 → p.2 = q.2) (hS0 : G.subs = []) (k : ∀ H', Q (.bl true) H')
    (hF : Wp (F (r0 m)) (fun o => ∃ r, o = .nx r ∨ o = .ct r) (fun _ => False)) :
    tSeq (tFor (iList G.K (tCallS (spRounds G.K) E (tCons (tVar 0) (tCons (tC (.int 1)) tNil)))) (gName 1) (tS G W F)) (tRet (tC (.bl true))) { nx := nx0, rt := Q } (L2.start N [.ref a]) H := by
  obtain ⟨b0, b1, N', rfl⟩ : ∃ b0 b1 N', N = b0 :: b1 :: N' := by
    match N, hm with
    | b0 :: b1 :: N', _ => exact ⟨b0, b1, N', rfl⟩
    | [_], hm => simp at hm; omega
    | [], hm => simp at hm; omega
  refine ⟨_, rfl, a, ns, rfl, hS, fun H1 l d x y z e1 nld hl hd => ⟨l, rfl, ⟨_, SqL.of hl⟩, ?_⟩⟩
  refine for_list (K := G.K) (a := l) (xs := [V.ref d]) (fun i sg H' => H' l = some (.lst [.ref d]) ∧ (i = 0 → sg = L2.start (b0 :: b1 :: N') [.ref a] ∧ H' = H1)) ⟨hl, fun _ => ⟨rfl, rfl⟩⟩ (fun i sg H' _ p => SqL.of p.1) (fun i v sg H' hi p => ?_) (fun sg H' p => k _)
  obtain ⟨p1, p2⟩ := p
  cases i with
  | succ i => simp at hi
  | zero =>
    cases hi
    obtain ⟨rfl, rfl⟩ := p2 rfl
    refine ⟨d, [d], [], r0 m, ?_, hF.mono (fun o ho => ?_) fun _ z => z⟩
    · refine ⟨⟨⟨x, y, z, hd⟩, hS0 ▸ CT.nil hU fun p hp => e1 _ _ (hT p hp)⟩, List.mem_singleton.mpr rfl, fun b hb => ?_, fun p hp => (by cases hp), fun p hp => (by cases hp), ?_, fun j c e => ?_⟩
      · rw [List.mem_singleton] at hb
        subst hb
        exact ⟨_, hd, fun ps z => by cases ps <;> cases z⟩
      · simp [r0, L2.start] at hm ⊢
        omega
      · match j, e with
        | 0, e => cases e; trivial
        | 1, e =>
          cases e
          exact ⟨.ref d, rfl, by unfold Rep; rfl⟩
        | j + 2, e =>
          have e' : (List.replicate (m - 2) Cell.un)[j]? = some c := e
          rw [List.getElem?_replicate] at e'
          split at e'
          · cases e'; trivial
          · cases e'
    · have keep : ∀ {Z' O' H2}, Stp d [d] [] H' Z' O' H2 → H2 l = some (.lst [.ref d]) := fun s => s.fr l _ p1 nld (fun p hp => by cases hp) fun ps z => by cases z
      obtain ⟨r, rfl | rfl⟩ := ho
      · exact fun Z' O' sg' H2 s A => ⟨keep s, fun h => by cases h⟩
      · exact fun Z' O' sg' H2 s A => ⟨keep s, fun h => by cases h⟩
end DL
set_option Elab.async false
set_option linter.all false
set_option maxRecDepth 100000
namespace DL
open PySem L2 LamX PySem.Spec PyProof.Rows
section
variable {P : Program} {w : World} {K : PySem.W.Frag} {mg : Str → Option Value} {base : Heap} {G : Gm} {x qual : Str} {st : Stmt} {f : Addr} {fd : FuncData} {N ps : List Str} {k n m c nf : Nat} {F : LE → R Out}
structure FunE (K : PySem.W.Frag) (x qual : Str) (st : Stmt) (f : Addr) (ps : List Str) : Prop where
  ex : ∃ fd : FuncData, L2.Fun K x qual st f fd ∧ L2.Binds K fd ps []
/-- its code object stands at c -/
structure FunC (K : PySem.W.Frag) (x qual : Str) (st : Stmt) (f c : Addr) (ps : List Str) : Prop where
  ex : ∃ (oc : Value) (od : Option Addr) (kV doc pm : Value) (an : Option Addr) (ct : Value) (osl : Array (Option Value)),
    K.lookup f = some ⟨oc, od, .func (PySem.W.fnOf x qual (defArgs st) (defBody st) (defScope st) .none kV doc pm an (.ref c) ct), osl⟩ ∧
    ∀ us : List Value, us.length = ps.length → bindArgs (PySem.W.fnOf x qual (defArgs st) (defBody st) (defScope st) .none kV doc pm an (.ref c) ct) ⟨us, []⟩ = pure (ps.zip us)
  cd : PySem.W.codeIn K (.ref c) qual = true
  kp : PySem.W.keepIn K (.ref f) = true
theorem funE_of {oc : Value} {od an : Option Addr} {osl : Array (Option Value)} {kV doc pm cdv ct : Value} (l : K.lookup f = some ⟨oc, od, .func (PySem.W.fnOf x qual (defArgs st) (defBody st) (defScope st) .none kV doc pm an cdv ct), osl⟩) (c : PySem.W.codeIn K cdv qual = true) (kp : PySem.W.keepIn K (.ref f) = true)
    (h : ∀ us : List Value, us.length = ps.length → bindArgs (PySem.W.fnOf x qual (defArgs st) (defBody st) (defScope st) .none kV doc pm an cdv ct) ⟨us, []⟩ = pure (ps.zip us)) : FunE K x qual st f ps := ⟨_, L2.fun_mk l c kp, .all h⟩
theorem funC_of {c : Addr} {oc : Value} {od an : Option Addr} {osl : Array (Option Value)} {kV doc pm ct : Value} (l : K.lookup f = some ⟨oc, od, .func (PySem.W.fnOf x qual (defArgs st) (defBody st) (defScope st) .none kV doc pm an (.ref c) ct), osl⟩) (cd : PySem.W.codeIn K (.ref c) qual = true) (kp : PySem.W.keepIn K (.ref f) = true)
    (h : ∀ us : List Value, us.length = ps.length → bindArgs (PySem.W.fnOf x qual (defArgs st) (defBody st) (defScope st) .none kV doc pm an (.ref c) ct) ⟨us, []⟩ = pure (ps.zip us)) : FunC K x qual st f c ps := ⟨⟨oc, od, kV, doc, pm, an, ct, osl, l, h⟩, cd, kp⟩
theorem fn_read (S : FnScope N ps (defScope st)) (hn : ps.length = n) (hm : N.length = m) {vs : List V} {H : Hp} {Q : VK} {E : XK} (h : spD G n (runF n m F) vs H Q E) :
    tS G (WD E) F { nx := fun _ H' => Q .non H', rt := Q } (L2.start N vs) H := by
  obtain ⟨hl, dl, Z, ds, gl, dz, live, rl, hw⟩ := h
  unfold runF at hw
  split at hw
  case isFalse => exact hw.elim
  rename_i hdl
  have hpl : ps.length ≤ N.length := by have := congrArg List.length S.pre; rw [List.length_take] at this; omega
  have A0 : At G dl Z [] (ds.map Cell.val ++ List.replicate (m - n) Cell.un) (L2.start N vs) H := by
    refine ⟨gl, dz, live, fun p hp => (by cases hp), fun p hp => (by cases hp), ?_, start_get rl hl hm⟩
    unfold L2.start
    rw [List.length_append, List.length_map, List.length_replicate, List.length_append, List.length_map, List.length_replicate]
    omega
  have gr : ∀ {Z' O' H'}, Stp dl Z [] H Z' O' H' → Grow dl H H' := fun s a o e n nt => s.fr a o e n (fun p hp => (by cases hp)) nt
  have gz : ∀ {Z' O' H'}, Stp dl Z [] H Z' O' H' → GrowS (cut H' Z') (cut H' Z) := fun s => cut_sub fun a ha => s.zk a ha fun p hp => (by cases hp)
  refine ⟨dl, Z, [], _, A0, (calm_wp hw.bind).thn fun o ho => ?_⟩
  cases o with
  | nx r => exact fun Z' O' sg' H' s A' => ho _ _ (gr s) A'.gl Rep.non_
  | rt d => exact fun Z' O' v H' s g rp => ho _ _ (gr s) g (rp.mono (gz s))
  | ex e r => exact fun Z' O' sg' H' cls dx s A' xr => ho cls dx H' (gr s) A'.gl (xr.mono (gz s))
  | bk r => exact ho.elim
  | ct r => exact ho.elim
theorem fnD_E (Fn : FunE K x qual st f ps) (S : FnScope N ps (defScope st)) (hx : mg x = some (.ref f)) (hn : ps.length = n) (hm : N.length = m)
    (hb : ∀ cdv A outer s H E, Room k (A.deeper (envOfC qual (defScope st) s.heap.objs.size f cdv)) → DSs (cxD P w K mg base N qual st f cdv A outer s H E) G (WD E) (defBody st) F) :
    FnD P w K mg base G (k + 1) x f n (runF n m F) := by
  obtain ⟨fd, Fn, bd⟩ := Fn
  exact fnD_of Fn S bd hx hn hm hb
theorem fnD_C {c : Addr} (Fn : FunC K x qual st f c ps) (S : FnScope N ps (defScope st)) (hx : mg x = some (.ref f)) (hn : ps.length = n) (hm : N.length = m)
    (hb : ∀ A outer s H E, Room k (A.deeper (envOfC qual (defScope st) s.heap.objs.size f (.ref c))) → DSs (cxD P w K mg base N qual st f (.ref c) A outer s H E) G (WD E) (defBody st) F) :
    FnD P w K mg base G (k + 1) x f n (runF n m F) := by
  obtain ⟨⟨oc, od, kV, doc, pm, an, ct, osl, lk, bd⟩, cd, kp⟩ := Fn
  exact ⟨⟨_, ps, hn, fn_of lk cd S (fun vs H Q E h => by rw [hn]; exact h.1) fun A outer s H vs Q E hr h => ⟨_, hb A outer s H E hr, fn_read S hn hm h⟩, .all bd⟩, runF_len, kp, hx⟩
def exmB (K : PySem.W.Frag) (xc : Nat → Addr) (ks : List Nat) : Bool := ks.all fun i => ks.all fun j => PySem.W.exmOne K (.ref (xc i)) (.ref (xc j)) == some (i == j)
theorem exm_by {ks : List Nat} (h : exmB K G.xcls ks = true) : ExmOk K G ks := fun i hi j hj => by
  unfold exmB at h
  rw [List.all_eq_true] at h
  have h2 := h i hi
  rw [List.all_eq_true] at h2
  exact beq_iff_eq.mp (h2 j hj)
end
end DL
set_option Elab.async false
set_option linter.all false
set_option maxRecDepth 100000
namespace DL
open PySem L2 PySem.Spec PyProof.Rows
def opE (g : D → D → R D) (f k : LE → R D) : LE → R D := fun r => do let x ← f r; let y ← k r; g x y
def cmpT (g : D → D → R D) (f k : LE → R D) : LE → R Bool := fun r => (do let x ← f r; let y ← k r; g x y) >>= asB
def valT (f : LE → R D) : LE → R Bool := fun r => f r >>= asB
def chainT (f1 f2 f3 : LE → R D) (g g' : D → D → R D) : LE → R Bool := fun r => chainE f1 f2 f3 g g' r >>= asB
def callE (g : List D → R D) (fs : LE → R (List D)) : LE → R D := fun r => fs r >>= g
def callF (g : List D → R (List D)) (fs : LE → R (List D)) : LE → R (List D) := fun r => fs r >>= g
def methE (c : Nat) (g : List D → R D) (f : LE → R D) (fs : LE → R (List D)) : LE → R D := fun r => do let x ← f r; let x ← isC c x; let ds ← fs r; g (x :: ds)
def meth0E (c : Nat) (g : List D → R D) (f : LE → R D) : LE → R D := fun r => do let x ← f r; let x ← isC c x; g [x]
def fldE (fx : Nat → Option Nat) (f : LE → R D) : LE → R D := fun r => f r >>= fldD fx
def subE (f k : LE → R D) : LE → R D := fun r => do let x ← f r; let y ← k r; subI x y
def negE (f : LE → R D) : LE → R D := fun r => do let x ← f r; negD x
def bmE (T : String) (gg : D → List D → R D) (f : LE → R D) (fs : LE → R (List D)) : LE → R D := fun r => do let x ← f r; let x ← isT T x; let ds ← fs r; gg x ds
def kbmE (d : D) (gg : D → List D → R D) (fs : LE → R (List D)) : LE → R D := fun r => do let ds ← fs r; gg d ds
def toldE (l : List (Nat × List Nat)) (f : LE → R D) : LE → R D := fun r => toldD l (f r)
def lE (f : LE → R (List D)) : LE → R D := fun r => (f r) >>= fun ds => .ok (.lst ds)
def itL (f : LE → R D) : LE → R (List D) := fun r => f r >>= lstD
def itT (f : LE → R D) : LE → R (List D) := fun r => f r >>= tupD
def rng1E (fs : LE → R (List D)) : LE → R (List D) := fun r => fs r >>= rng1
def rng2E (fs : LE → R (List D)) : LE → R (List D) := fun r => fs r >>= rng2
def frzS (i : Nat) (F : LE → R Out) : LE → R Out := fun r => F (frz i r)
def par3S (i j l : Nat) (f g h : LE → R D) : LE → R Out := fun r => (f r).onS r fun a => (g r).onS r fun b => (h r).onS r fun c => .ok (.nx (((r.set i (.val a)).set j (.val b)).set l (.val c)))
theorem huD {k : Nat} {A : Around} (hr : Room k A) : A.units + 70 < cLine := by have := hr.un; omega
theorem huD64 {k : Nat} {A : Around} (hr : Room k A) : A.units + 64 < cLine := by have := hr.un; omega
theorem takes0D {X : Cx} : Takes X W0 := LG.takes0
end DL
set_option Elab.async false
set_option linter.all false
set_option maxRecDepth 100000
namespace DL
open PySem L2 PySem.Spec PyProof.Rows
end DL
set_option Elab.async false
set_option linter.all false
set_option maxRecDepth 100000
namespace DL
theorem var_eq (i : Nat) (r : LE) : var i r = match r[i]? with
  | some (.val d) => .ok d
  | _ => .stuck := rfl
@[simp] theorem cst_eq (d : D) (r : LE) : cst d r = .ok d := rfl
@[simp] theorem opE_eq (g : D → D → R D) (f k : LE → R D) (r : LE) : opE g f k r = f r >>= fun x => k r >>= fun y => g x y := rfl
@[simp] theorem cmpT_eq (g : D → D → R D) (f k : LE → R D) (r : LE) : cmpT g f k r = (f r >>= fun x => k r >>= fun y => g x y) >>= asB := rfl
@[simp] theorem valT_eq (f : LE → R D) (r : LE) : valT f r = f r >>= asB := rfl
@[simp] theorem callE_eq (g : List D → R D) (fs : LE → R (List D)) (r : LE) : callE g fs r = fs r >>= g := rfl
@[simp] theorem methE_eq (c : Nat) (g : List D → R D) (f : LE → R D) (fs : LE → R (List D)) (r : LE) : methE c g f fs r = f r >>= fun x => isC c x >>= fun x => fs r >>= fun ds => g (x :: ds) := rfl
@[simp] theorem meth0E_eq (c : Nat) (g : List D → R D) (f : LE → R D) (r : LE) : meth0E c g f r = f r >>= fun x => isC c x >>= fun x => g [x] := rfl
@[simp] theorem fldE_eq (fx : Nat → Option Nat) (f : LE → R D) (r : LE) : fldE fx f r = f r >>= fldD fx := rfl
@[simp] theorem subE_eq (f k : LE → R D) (r : LE) : subE f k r = f r >>= fun x => k r >>= fun y => subI x y := rfl
@[simp] theorem negE_eq (f : LE → R D) (r : LE) : negE f r = f r >>= negD := rfl
@[simp] theorem negD_int (i : Int) : negD (.int i) = .ok (.int (-i)) := rfl
@[simp] theorem bmE_eq (T : String) (gg : D → List D → R D) (f : LE → R D) (fs : LE → R (List D)) (r : LE) : bmE T gg f fs r = f r >>= fun x => isT T x >>= fun x => fs r >>= fun ds => gg x ds := rfl
@[simp] theorem kbmE_eq (d : D) (gg : D → List D → R D) (fs : LE → R (List D)) (r : LE) : kbmE d gg fs r = fs r >>= fun ds => gg d ds := rfl
@[simp] theorem toldE_eq (l : List (Nat × List Nat)) (f : LE → R D) (r : LE) : toldE l f r = toldD l (f r) := rfl
@[simp] theorem lE_eq (f : LE → R (List D)) (r : LE) : lE f r = f r >>= fun ds => .ok (.lst ds) := rfl
@[simp] theorem itL_eq (f : LE → R D) (r : LE) : itL f r = f r >>= lstD := rfl
@[simp] theorem itT_eq (f : LE → R D) (r : LE) : itT f r = f r >>= tupD := rfl
@[simp] theorem lstD_eq (ds : List D) : lstD (.lst ds) = .ok ds := rfl
@[simp] theorem tupD_eq (ds : List D) : tupD (.tup ds) = .ok ds := rfl
@[simp] theorem rng1E_eq (fs : LE → R (List D)) (r : LE) : rng1E fs r = fs r >>= rng1 := rfl
@[simp] theorem frzS_eq (i : Nat) (F : LE → R Out) (r : LE) : frzS i F r = F (frz i r) := rfl
@[simp] theorem anil_eq (r : LE) : anil r = .ok [] := rfl
@[simp] theorem acons_eq (f : LE → R D) (fs : LE → R (List D)) (r : LE) : acons f fs r = f r >>= fun x => fs r >>= fun xs => .ok (x :: xs) := rfl
@[simp] theorem tupE_eq (fs : LE → R (List D)) (r : LE) : tupE fs r = fs r >>= fun ds => if ds.length ≤ 16777216 then .ok (.tup ds) else .stuck := rfl
@[simp] theorem lstE_eq (fs : LE → R (List D)) (r : LE) : lstE fs r = fs r >>= fun ds => if ds.length ≤ 16777216 then .ok ds else .stuck := rfl
@[simp] theorem iteE_eq (c : LE → R Bool) (f g : LE → R D) (r : LE) : iteE c f g r = c r >>= fun b => if b = true then f r else g r := rfl
@[simp] theorem andT_eq (f g : LE → R Bool) (r : LE) : andT f g r = f r >>= fun b => if b = true then g r else .ok false := rfl
@[simp] theorem orT_eq (f g : LE → R Bool) (r : LE) : orT f g r = f r >>= fun b => if b = true then .ok true else g r := rfl
@[simp] theorem notT_eq (f : LE → R Bool) (r : LE) : notT f r = f r >>= fun b => .ok (!b) := rfl
@[simp] theorem asB_bl (b : Bool) : asB (.bl b) = .ok b := rfl
def andK (x : D) (k : R D) : R D := match x with
  | .bl true => k
  | .bl false => .ok (.bl false)
  | _ => .stuck
def orK (x : D) (k : R D) : R D := match x with
  | .bl true => .ok (.bl true)
  | .bl false => k
  | _ => .stuck
@[simp] theorem andK_bl (b : Bool) (k : R D) : andK (.bl b) k = if b = true then k else .ok (.bl false) := by cases b <;> rfl
@[simp] theorem orK_bl (b : Bool) (k : R D) : orK (.bl b) k = if b = true then .ok (.bl true) else k := by cases b <;> rfl
@[simp] theorem andV_eq (f g : LE → R D) (r : LE) : andV f g r = f r >>= fun x => andK x (g r) := by
  unfold andV
  congr 1
@[simp] theorem orV_eq (f g : LE → R D) (r : LE) : orV f g r = f r >>= fun x => orK x (g r) := by
  unfold orV
  congr 1
@[simp] theorem notV_bl (f : LE → R D) (r : LE) (b : Bool) (h : f r = .ok (.bl b)) : notV f r = .ok (.bl (!b)) := by
  unfold notV
  rw [h]
  rfl
@[simp] theorem seqS_eq (F K : LE → R Out) (r : LE) : seqS F K r = F r >>= fun o => match o with
  | .nx r' => K r'
  | o => .ok o := rfl
@[simp] theorem skipS_eq (r : LE) : skipS r = .ok (.nx r) := rfl
@[simp] theorem retS_eq (f : LE → R D) (r : LE) : retS f r = (f r).onS r fun d => .ok (.rt d) := rfl
@[simp] theorem ifS_eq (c : LE → R Bool) (F K : LE → R Out) (r : LE) : ifS c F K r = (c r).onS r fun b => if b = true then F r else K r := by
  unfold ifS
  congr 1
@[simp] theorem valK_eq (f : LE → R D) (r : LE) : valK f r = f r >>= fun d => .ok (.val d) := rfl
@[simp] theorem ownK_eq (f : LE → R (List D)) (r : LE) : ownK f r = f r >>= fun d => .ok (.own (.lst d)) := rfl
@[simp] theorem okK_val (d : D) : okK (.val d) = .ok (.val d) := rfl
@[simp] theorem okK_own (d : D) : okK (.own d) = .ok (.own d) := rfl
@[simp] theorem setK_eq (i : Nat) (f : LE → R Cell) (r : LE) : setK i f r = (f r >>= okK).onS r fun c => .ok (.nx (r.set i c)) := rfl
@[simp] theorem parK_eq (i j : Nat) (f g : LE → R Cell) (r : LE) : parK i j f g r = (f r >>= okK).onS r fun c => (g r >>= okK).onS r fun c' => .ok (.nx ((r.set i c).set j c')) := rfl
@[simp] theorem par3S_eq (i j l : Nat) (f g h : LE → R D) (r : LE) : par3S i j l f g h r = (f r).onS r fun a => (g r).onS r fun b => (h r).onS r fun c => .ok (.nx (((r.set i (.val a)).set j (.val b)).set l (.val c))) := rfl
@[simp] theorem errS_eq (e : Exc) (r : LE) : errS e r = .ok (.ex e r) := rfl
@[simp] theorem forS_eq (fi : LE → R (List D)) (gd : D → LE → Option LE) (body : LE → R Out) (r : LE) : forS fi gd body r = (fi r).onS r fun ds => loopS gd body ds r := rfl
@[simp] theorem ite_onS {α : Type} (c : Prop) [Decidable c] (a b : R α) (r : LE) (k : α → R Out) : (if c then a else b).onS r k = if c then a.onS r k else b.onS r k := by split <;> rfl
@[simp] theorem ite_bind {α β : Type} (c : Prop) [Decidable c] (a b : R α) (k : α → R β) : (if c then a else b) >>= k = if c then a >>= k else b >>= k := by split <;> rfl
@[simp] theorem ite_calm {α : Type} (c : Prop) [Decidable c] (a b : R α) : (if c then a else b).calm = if c then a.calm else b.calm := by split <;> rfl
@[simp] theorem calm_err {α : Type} (e : Exc) : (R.err e : R α).calm = .stuck := rfl
@[simp] theorem calm_stuck {α : Type} : (R.stuck : R α).calm = .stuck := rfl
/-- what a body's end is to the caller -/
def fin : Out → R D
  | .nx _ => .ok .non
  | .rt d => .ok d
  | .ex e _ => .err e
  | _ => .stuck
@[simp] theorem fin_nx (r : LE) : fin (.nx r) = .ok .non := rfl
@[simp] theorem fin_rt (d : D) : fin (.rt d) = .ok d := rfl
@[simp] theorem fin_ex (e : Exc) (r : LE) : fin (.ex e r) = .err e := rfl
theorem runF_eq (n m : Nat) (F : LE → R Out) (ds : List D) (h : ds.length = n) : runF n m F ds = (F (ds.map Cell.val ++ List.replicate (m - n) Cell.un)).calm >>= fin := by
  unfold runF
  rw [if_pos h]
  rfl
@[simp] theorem isC_eq (c : Nat) (fs : List D) : isC c (.ins c fs) = .ok (.ins c fs) := by simp [isC]
@[simp] theorem addD_int (i j : Int) : addD (.int i) (.int j) = .ok (.int (i + j)) := rfl
@[simp] theorem subD_int (i j : Int) : subD (.int i) (.int j) = .ok (.int (i - j)) := rfl
@[simp] theorem ltD_int (i j : Int) : ltD (.int i) (.int j) = .ok (.bl (decide (i < j))) := rfl
@[simp] theorem leD_int (i j : Int) : leD (.int i) (.int j) = .ok (.bl (decide (i ≤ j))) := rfl
@[simp] theorem gtD_int (i j : Int) : gtD (.int i) (.int j) = .ok (.bl (decide (j < i))) := rfl
@[simp] theorem geD_int (i j : Int) : geD (.int i) (.int j) = .ok (.bl (decide (j ≤ i))) := rfl
@[simp] theorem eqD_int (i j : Int) : eqD (.int i) (.int j) = .ok (.bl (i == j)) := by simp [eqD, D.sc, D.eqb]
@[simp] theorem neD_int (i j : Int) : neD (.int i) (.int j) = .ok (.bl (!(i == j))) := by simp [neD, D.sc, D.eqb]
@[simp] theorem eqD_bl (i j : Bool) : eqD (.bl i) (.bl j) = .ok (.bl (i == j)) := by simp [eqD, D.sc, D.eqb]
@[simp] theorem neD_bl (i j : Bool) : neD (.bl i) (.bl j) = .ok (.bl (!(i == j))) := by simp [neD, D.sc, D.eqb]
@[simp] theorem eqD_str (i j : List Nat) : eqD (.str i) (.str j) = .ok (.bl (i == j)) := by simp [eqD, D.sc, D.eqb]
@[simp] theorem neD_str (i j : List Nat) : neD (.str i) (.str j) = .ok (.bl (!(i == j))) := by simp [neD, D.sc, D.eqb]
@[simp] theorem eqD_tup2 (a b c d : Int) : eqD (.tup [.int a, .int b]) (.tup [.int c, .int d]) = .ok (.bl (a == c && b == d)) := by simp [eqD, D.sc, D.sh, D.shs, D.eqb, D.eqbs]
@[simp] theorem neD_tup2 (a b c d : Int) : neD (.tup [.int a, .int b]) (.tup [.int c, .int d]) = .ok (.bl (!(a == c && b == d))) := by simp [neD, D.sc, D.sh, D.shs, D.eqb, D.eqbs]
@[simp] theorem compF_eq (fi : LE → R (List D)) (gd : D → LE → Option LE) (tt : LE → R Bool) (te : LE → R D) (vs : List Nat) (r : LE) : compF fi gd tt te vs r = fi r >>= fun ds => if ds.length ≤ 16777216 then loopC gd tt te (wipeL r vs) ds else .stuck := rfl
@[simp] theorem yesT_eq (r : LE) : yesT r = .ok true := rfl
@[simp] theorem loopC_nil (gd : D → LE → Option LE) (tt : LE → R Bool) (te : LE → R D) (r : LE) : loopC gd tt te r [] = .ok [] := rfl
theorem loopC_cons (gd : D → LE → Option LE) (tt : LE → R Bool) (te : LE → R D) (r : LE) (d : D) (ds : List D) : loopC gd tt te r (d :: ds) = match gd d r with
    | none => .stuck
    | some r' => (tt r').calm >>= fun b => if b = true then (te r').calm >>= fun y => loopC gd tt te r ds >>= fun ys => .ok (y :: ys) else loopC gd tt te r ds := by
  rw [loopC.eq_2]
  try (cases gd d r <;> rfl)
@[simp] theorem gN_eq (i : Nat) (d : D) (r : LE) : gN i d r = some (r.set i (.val d)) := rfl
@[simp] theorem subl2_0 (a b : D) : subI (.lst [a, b]) (.int 0) = .ok a := rfl
@[simp] theorem subl2_1 (a b : D) : subI (.lst [a, b]) (.int 1) = .ok b := rfl
@[simp] theorem sub2_0 (a b : D) : subI (.tup [a, b]) (.int 0) = .ok a := rfl
@[simp] theorem sub2_1 (a b : D) : subI (.tup [a, b]) (.int 1) = .ok b := rfl
theorem toldD_err (l : List (Nat × List Nat)) (e : Exc) : toldD l (.err e) = match l.lookup e.cls with
  | some s => .ok (.str s)
  | none => .stuck := rfl
@[simp] theorem Wp_ok {α : Type} (a : α) (Q : α → Prop) (E : Exc → Prop) : Wp (.ok a) Q E = Q a := rfl
@[simp] theorem Wp_err {α : Type} (e : Exc) (Q : α → Prop) (E : Exc → Prop) : Wp (.err e : R α) Q E = E e := rfl
@[simp] theorem Wp_stuck {α : Type} (Q : α → Prop) (E : Exc → Prop) : Wp (.stuck : R α) Q E = False := rfl
@[simp] theorem Wp_roll {α : Type} (m : Nat) (k : Nat → R α) (Q : α → Prop) (E : Exc → Prop) : Wp (.roll m k) Q E = ∀ i, i < m → Wp (k i) Q E := rfl
end DL
set_option Elab.async false
set_option linter.all false
set_option maxRecDepth 100000
namespace DL
open PySem L2 PySem.Spec PyProof.Rows
def whileS : Nat → (LE → R Bool) → (LE → R Out) → LE → R Out
  | 0, _, _, _ => .stuck
  | n + 1, c, F, r => (c r).onS r fun b => if b then (do
      match ← F r with
      | .nx r2 => whileS n c F r2
      | .ct r2 => whileS n c F r2
      | .bk r2 => .ok (.nx r2)
      | .rt d => .ok (.rt d)
      | .ex e r2 => .ok (.ex e r2)) else .ok (.nx r)
section
variable {X : Cx} {G : Gm} {W : WX} {c : Expr} {h : LE → R Bool} {F : LE → R Out} {body : List Stmt} {pos : Pos}
theorem ds_while (n : Nat) (hp : PassesOwn (model X.prog X.w) X.A X.env X.xe) (hc : DT X G W c h) (hb : DSs X G W body F) : DS X G W (.While c body [] pos) (whileS n h F) := PS_imp (ps_while hp hc hb) fun De sg H ⟨dl, Z, O, r, A, q⟩ => by
  refine ⟨fun m sg' H' => ∃ Z' O' r', At G dl Z' O' r' sg' H' ∧ Stp dl Z O H Z' O' H' ∧ Wp (whileS m h F r') (SPost G W De dl Z O H) (fun _ => False), ⟨n, Z, O, r, A, Stp.refl, q⟩, ?_⟩
  rintro m sg' H' ⟨Z', O', r', A', s', hw⟩
  cases m with
  | zero => exact hw.elim
  | succ m =>
    unfold whileS at hw
    refine ⟨dl, Z', O', r', A', (onS_wp hw).mono (fun b hb H1 g1 k1 => ?_) fun e he => spost_ex A' (SPost.trans A s' he)⟩
    have A1 := A'.grow g1 k1
    have s1 : Stp dl Z O H Z' O' H1 := Stp.trans A s' (Stp.of_grow g1 k1)
    cases b with
    | false =>
      show if false = true then _ else De.nx sg' H1
      rw [if_neg (by decide)]
      exact hb Z' O' sg' H1 s1 A1
    | true =>
      show if true = true then _ else De.nx sg' H1
      rw [if_pos rfl]
      refine ⟨fun sg2 H2 => ∃ Z' O' r', At G dl Z' O' r' sg2 H2 ∧ Stp dl Z O H Z' O' H2 ∧ Wp (whileS m h F r') (SPost G W De dl Z O H) (fun _ => False), fun sg2 H2 h2 => ⟨m, Nat.lt_succ_self m, h2⟩, ?_⟩
      rw [if_pos rfl] at hb
      refine ⟨dl, Z', O', r', A1, hb.bind.thn fun o ho => ?_⟩
      cases o with
      | nx r3 => exact fun Z4 O4 sg4 H4 s4 A4 => ⟨Z4, O4, r3, A4, Stp.trans A s1 s4, ho⟩
      | ct r3 => exact fun Z4 O4 sg4 H4 s4 A4 => ⟨Z4, O4, r3, A4, Stp.trans A s1 s4, ho⟩
      | bk r3 => exact fun Z4 O4 sg4 H4 s4 A4 => ho Z4 O4 sg4 H4 (Stp.trans A s1 s4) A4
      | rt d => exact SPost.trans A s1 ho
      | ex e r3 => exact SPost.trans A s1 ho
end
section
variable {X : Cx} {G : Gm} {W : WX} {F : LE → R Out} {body : List Stmt} {h₀ : ExceptHandler} {hds : List ExceptHandler} {pos : Pos}
def hdD (G : Gm) (W : WX) (l : List (Nat × (LE → R Out))) : List (Value × (Addr → Value → Option Addr → TS)) := l.map fun p => (.ref (G.xcls p.1), fun _ _ _ => tS G W p.2)
theorem hds_nil : LG.HdsOk X W [] (hdD G W []) := .nil
theorem hds_cons {i : Nat} {C : Addr} {x : Str} {b₀ : Stmt} {suite : List Stmt} {np pos' : Pos} {l : List (Nat × (LE → R Out))} {K : LE → R Out} (hC : G.xcls i = C) (hm : X.mg x = some (.ref C)) (hsu : ∀ (a : Addr) (pn : List (Addr × Obj)), LG.HotG (LG.suiteX X a pn) → Takes (LG.suiteX X a pn) W → DSs (LG.suiteX X a pn) G W (b₀ :: suite) K) (r : LG.HdsOk X W hds (hdD G W l))
    (hg : Gl X x := by rfl) (hdb : (x == ("__debug__" : Str)) = false := by decide) : LG.HdsOk X W (.ExceptHandler (some (.Name x np)) none (b₀ :: suite) pos' :: hds) (hdD G W ((i, K) :: l)) := by
  subst hC
  exact .cons ⟨hg, hdb, .inl hm⟩ (fun a cls d pn hot tk => hsu a pn hot tk) r
end
def stodS (i : Nat) (f k : LE → R D) : LE → R Out := fun r => match r[i]? with
  | some (.own (.dic kvs)) => (f r).onS r fun d => (k r).onS r fun y => if y.key1 = true ∧ kvs.length < 16777216 then .ok (.nx (r.set i (.own (.dic (putD kvs y d))))) else .stuck
  | _ => .stuck
def nodic : LE → R Cell := fun _ => .ok (.own (.dic []))
section
variable {X : Cx} {G : Gm} {W : WX} {ex ek : Expr} {f k : LE → R D} {pos apos p p1 p2 : Pos} {x m : Str}
theorem dk_nodic : DK X G W (.Dict [] [] pos) nodic := PE_imp pe_dnewK fun sg H Q ⟨dl, Z, O, r, A, q⟩ p hp =>
  q p (.dK []) H (.refl _ _) A.gl hp ⟨[], rfl, by unfold RepK; rfl⟩ fun i hi => ⟨rfl, hi⟩
theorem ds_stored (i : Nat) (hu : X.A.units + 1 < cLine) (ha : DE X G W ex f) (hk : DE X G W ek k) (hN : X.N[i]? = some x := by rfl) (hv : Vis X.env.scope x := by first | exact Or.inl rfl | exact Or.inr (Or.inl rfl) | exact Or.inr (Or.inr rfl)) (hd : (x == ("__debug__" : Str)) = false := by decide)
    (hcd : (x == ("__classdict__" : Str)) = false := by decide) (hs : swapsWith ex (some (.Subscript (.Name x p1) ek p2)) pos.line X.env = pure false := by rfl) :
    DS X G W (.Assign [.Subscript (.Name x p1) ek p2] ex pos) (stodS i f k) := by
  refine PS_imp (ps_dput hu (pe_var hN hv hd hcd) hk ha hs) fun De sg H ⟨dl, Z, O, r, A, q⟩ => ?_
  unfold stodS at q
  split at q
  case h_2 => exact q.elim
  rename_i kvs hr
  obtain ⟨a, ha', hs', ⟨kv, e, rk⟩, ko⟩ := A.slot i _ hr
  obtain ⟨haz, had⟩ := A.own _ ha'
  refine ⟨dl, Z, O, r, A, (onS_wp q).mono (fun d hd' v H1 g1 k1 rp => ?_) fun e he => spost_ex A he⟩
  have A1 := A.grow g1 k1
  refine ⟨.ref a, hs', dl, Z, O, r, A1, (onS_wp hd').mono (fun y hy u H2 g2 k2 ru => ?_) fun e he => epost g1 (spost_ex A he)⟩
  have A2 := A1.grow g2 k2
  have e2 : H2 a = some (.dK kv) := g2 a _ (g1 a _ e had (fun ps z => by cases z)) had (fun ps z => by cases z)
  split at hy
  case isFalse => exact hy.elim
  rename_i hc
  obtain ⟨kx, hkx⟩ := key1_key hc.1
  have eu := key_kV hkx (.of ru)
  subst eu
  refine ⟨a, _, rfl, DPut.k e2 (by rw [sizeLine_eq, rk.length]; exact hc.2), ?_⟩
  refine hy Z O sg _ (Stp.trans A (Stp.of_grow (g1.trans g2) k2) (Stp.write ha' fun ps z => by cases z)) (A2.write hr ha' hs' ⟨_, rfl, RepK.put (rk.mono ((g1.trans g2).cut A.dz)) hkx (rp.mono (g2.cut A.dz))⟩ rfl ko)
end
end DL
set_option Elab.async false
set_option linter.all false
set_option maxRecDepth 100000
namespace DL
open PySem L2 PySem.Spec PyProof.Rows
section
variable {X : Cx} {G : Gm} {W : WX} {a b c : Expr} {f g h : LE → R D} {fk : LE → R Cell} {pos apos p p1 p2 : Pos} {x y z : Str}
def del (H : Hp) (p : Addr) : Hp := fun a => if a = p then none else H a
end
end DL
set_option Elab.async false
set_option linter.all false
set_option maxRecDepth 100000
namespace DL
open PySem L2 PySem.Spec PyProof.Rows
section
variable {α : Type}
def insT (lt : α → α → Bool) (x : α) : List α → List α
  | [] => [x]
  | y :: l => if lt y x = true then y :: insT lt x l else x :: y :: l
def isort (lt : α → α → Bool) (l : List α) : List α := l.foldr (insT lt) []
structure Ord (lt : α → α → Bool) : Prop where
  tr : ∀ a b c, lt b a = false → lt c b = false → lt c a = false
  an : ∀ a b, lt a b = false → lt b a = false → a = b
  as : ∀ a b, lt a b = true → lt b a = false
abbrev Up (lt : α → α → Bool) (l : List α) : Prop := l.Pairwise fun a b => lt b a = false
variable {lt : α → α → Bool}
theorem insT_perm (x : α) : ∀ l : List α, (insT lt x l).Perm (x :: l)
  | [] => .refl _
  | y :: l => by
    unfold insT
    split
    · exact ((insT_perm x l).cons y).trans (.swap x y l)
    · exact .refl _
theorem isort_perm : ∀ l : List α, (isort lt l).Perm l
  | [] => .refl _
  | x :: l => (insT_perm x _).trans ((isort_perm l).cons x)
theorem insT_up (o : Ord lt) (x : α) : ∀ l : List α, Up lt l → Up lt (insT lt x l)
  | [], _ => List.pairwise_singleton ..
  | y :: l, h => by
    obtain ⟨h1, h2⟩ := List.pairwise_cons.mp h
    unfold insT
    split
    · rename_i c
      refine List.pairwise_cons.mpr ⟨fun z hz => ?_, insT_up o x l h2⟩
      rcases List.mem_cons.mp ((insT_perm x l).mem_iff.mp hz) with rfl | hz
      · exact o.as _ _ c
      · exact h1 z hz
    · rename_i c
      have c : lt y x = false := by simpa using c
      refine List.pairwise_cons.mpr ⟨fun z hz => ?_, h⟩
      rcases List.mem_cons.mp hz with rfl | hz
      · exact c
      · exact o.tr _ _ _ c (h1 z hz)
theorem isort_up (o : Ord lt) : ∀ l : List α, Up lt (isort lt l)
  | [] => .nil
  | x :: l => insT_up o x _ (isort_up o l)
theorem up_uniq (o : Ord lt) : ∀ l m : List α, Up lt l → Up lt m → l.Perm m → l = m
  | [], m, _, _, p => (List.nil_perm.mp p).symm
  | x :: l, [], _, _, p => (List.perm_nil.mp p)
  | x :: l, y :: m, h, k, p => by
    obtain ⟨h1, h2⟩ := List.pairwise_cons.mp h
    obtain ⟨k1, k2⟩ := List.pairwise_cons.mp k
    have e : x = y := by
      rcases List.mem_cons.mp (p.mem_iff.mp List.mem_cons_self) with e | hx
      · exact e
      rcases List.mem_cons.mp (p.mem_iff.mpr (List.mem_cons_self (a := y))) with e | hy
      · exact e.symm
      exact o.an _ _ (k1 x hx) (h1 y hy)
    subst e
    rw [up_uniq o l m h2 k2 ((List.perm_cons x).mp p)]
theorem isort_eq (o : Ord lt) {l m : List α} (h : Up lt m) (p : m.Perm l) : m = isort lt l := up_uniq o _ _ h (isort_up o l) (p.trans (isort_perm l).symm)
end
theorem ltCps_tr : ∀ a b c : List Nat, ltCps b a = false → ltCps c b = false → ltCps c a = false
  | [], [], c, _, h => h
  | [], _ :: _, [], _, _ => rfl
  | [], x :: b, y :: c, _, _ => rfl
  | x :: a, [], c, h, _ => by simp [ltCps] at h
  | x :: a, y :: b, [], h, k => by simp [ltCps] at k
  | x :: a, y :: b, z :: c, h, k => by
    simp only [ltCps, Bool.or_eq_false_iff, Bool.and_eq_false_iff, decide_eq_false_iff_not, beq_eq_false_iff_ne] at *
    obtain ⟨h1, h2⟩ := h
    obtain ⟨k1, k2⟩ := k
    refine ⟨by omega, ?_⟩
    by_cases e : z = x
    · subst e
      have e2 : y = z := by omega
      subst e2
      exact .inr (ltCps_tr a b c (h2.resolve_left fun q => q rfl) (k2.resolve_left fun q => q rfl))
    · exact .inl e
theorem ltCps_an : ∀ a b : List Nat, ltCps a b = false → ltCps b a = false → a = b
  | [], [], _, _ => rfl
  | [], y :: b, h, _ => by simp [ltCps] at h
  | x :: a, [], _, h => by simp [ltCps] at h
  | x :: a, y :: b, h, k => by
    simp only [ltCps, Bool.or_eq_false_iff, Bool.and_eq_false_iff, decide_eq_false_iff_not, beq_eq_false_iff_ne] at *
    have e : x = y := by omega
    subst e
    rw [ltCps_an a b (h.2.resolve_left fun q => q rfl) (k.2.resolve_left fun q => q rfl)]
theorem ltCps_as : ∀ a b : List Nat, ltCps a b = true → ltCps b a = false
  | [], [], h => by simp [ltCps] at h
  | [], y :: b, _ => rfl
  | x :: a, [], h => by simp [ltCps] at h
  | x :: a, y :: b, h => by
    simp only [ltCps, Bool.or_eq_true, Bool.and_eq_true, decide_eq_true_eq, beq_iff_eq, Bool.or_eq_false_iff, Bool.and_eq_false_iff, decide_eq_false_iff_not, beq_eq_false_iff_ne] at *
    rcases h with h | ⟨rfl, h⟩
    · exact ⟨by omega, .inl (by omega)⟩
    · exact ⟨by omega, .inr (ltCps_as a b h)⟩
theorem ord_str : Ord ltCps := ⟨ltCps_tr, ltCps_an, ltCps_as⟩
def ltI (i j : Int) : Bool := decide (i < j)
theorem ord_int : Ord ltI := ⟨fun a b c h k => by simp [ltI] at *; omega, fun a b h k => by simp [ltI] at *; omega, fun a b h => by simp [ltI] at *; omega⟩
theorem rising_up : ∀ (p : Str) (l : List Str), risingS p l = true → Up ltCps ((p :: l).map fun x => x.cps.toList)
  | p, [], _ => List.pairwise_singleton ..
  | p, x :: r, h => by
    simp only [risingS, Bool.and_eq_true, Bool.not_eq_true'] at h
    have ih := rising_up x r h.2
    rw [List.map_cons]
    refine List.pairwise_cons.mpr ⟨fun z hz => ?_, ih⟩
    rw [List.map_cons] at ih hz
    rcases List.mem_cons.mp hz with rfl | hz
    · exact h.1
    · exact ltCps_tr _ _ _ h.1 ((List.pairwise_cons.mp ih).1 z hz)
theorem sortedS_up : ∀ (l : List Str), sortedS l = true → Up ltCps (l.map fun x => x.cps.toList)
  | [], _ => .nil
  | x :: r, h => rising_up x r h
theorem sortedS_eq {ys : List Str} {zs : List (List Nat)} (h : sortedS ys = true) (p : ys.Perm (zs.map fun z => (⟨z.toArray⟩ : Str))) : ys = (isort ltCps zs).map fun z => ⟨z.toArray⟩ := by
  have q := p.map fun x : Str => x.cps.toList
  rw [List.map_map] at q
  have e0 : (fun x : Str => x.cps.toList) ∘ (fun z : List Nat => (⟨z.toArray⟩ : Str)) = id := by funext z; simp
  rw [e0, List.map_id] at q
  rw [← isort_eq ord_str (sortedS_up ys h) q, List.map_map]
  conv => lhs; rw [← List.map_id ys]
  apply List.map_congr_left
  intro x _
  simp
def txts? : List D → Option (List (List Nat))
  | [] => some []
  | .str s :: r => (txts? r).map (s :: ·)
  | _ => none
def ints? : List D → Option (List Int)
  | [] => some []
  | .int s :: r => (ints? r).map (s :: ·)
  | _ => none
theorem txts_eq : ∀ {xs : List D} {ss : List (List Nat)}, txts? xs = some ss → xs = ss.map D.str
  | [], ss, h => by cases h; rfl
  | x :: r, ss, h => by
    cases x <;> first | (simp [txts?] at h; done) | skip
    rename_i s
    cases e : txts? r with
    | none => simp [txts?, e] at h
    | some t =>
      simp [txts?, e] at h
      subst h
      rw [txts_eq e]; rfl
theorem ints_eq : ∀ {xs : List D} {ss : List Int}, ints? xs = some ss → xs = ss.map D.int
  | [], ss, h => by cases h; rfl
  | x :: r, ss, h => by
    cases x <;> first | (simp [ints?] at h; done) | skip
    rename_i s
    cases e : ints? r with
    | none => simp [ints?, e] at h
    | some t =>
      simp [ints?, e] at h
      subst h
      rw [ints_eq e]; rfl
def sortDs (xs : List D) : R (List D) := if xs.length < 64 then (match txts? xs with
  | some ss => .ok ((isort ltCps ss).map D.str)
  | none => match ints? xs with
    | some is => .ok ((isort ltI is).map D.int)
    | none => .stuck) else .stuck
def sortedL : List D → R (List D)
  | [.lst xs] => sortDs xs
  | [.dic kvs] => sortDs (kvs.map (·.1))
  | _ => .stuck
section
variable {X : Cx} {G : Gm} {W : WX} {dl : Addr} {S : Hp}
theorem RepL.of_strs : ∀ (ss : List (List Nat)), RepL G dl S (ss.map D.str) ((ss.map fun z => (⟨z.toArray⟩ : Str)).map V.str)
  | [] => RepL.nil
  | s :: r => RepL.cons Rep.str_ (RepL.of_strs r)
theorem RepL.of_ints : ∀ (ss : List Int), RepL G dl S (ss.map D.int) (ss.map V.int)
  | [] => RepL.nil
  | s :: r => RepL.cons Rep.int_ (RepL.of_ints r)
theorem RepL.are_strs : ∀ {ss : List (List Nat)} {vs : List V}, RepL G dl S (ss.map D.str) vs → vs = (ss.map fun z => (⟨z.toArray⟩ : Str)).map V.str
  | [], vs, h => by unfold RepL at h; exact h
  | s :: r, vs, h => by
    rw [List.map_cons] at h
    unfold RepL at h
    obtain ⟨v, t, rfl, h1, h2⟩ := h
    unfold Rep at h1
    rw [h1, RepL.are_strs h2]; rfl
theorem RepL.are_ints : ∀ {ss : List Int} {vs : List V}, RepL G dl S (ss.map D.int) vs → vs = ss.map V.int
  | [], vs, h => by unfold RepL at h; exact h
  | s :: r, vs, h => by
    rw [List.map_cons] at h
    unfold RepL at h
    obtain ⟨v, t, rfl, h1, h2⟩ := h
    unfold Rep at h1
    rw [h1, RepL.are_ints h2]; rfl
theorem RepK.keys_str : ∀ {kvs : List (D × D)} {kv : List (Key × V)} {ss : List (List Nat)}, RepK G dl S kvs kv → kvs.map (·.1) = ss.map D.str → kv.map (·.1) = (ss.map fun z => (⟨z.toArray⟩ : Str)).map Sum.inr
  | [], kv, ss, h, e => by
    unfold RepK at h
    subst h
    cases ss with
    | nil => rfl
    | cons s t => cases e
  | (k, d) :: r, kv, ss, h, e => by
    unfold RepK at h
    obtain ⟨x, v, t, rfl, hk, _, h2⟩ := h
    cases ss with
    | nil => cases e
    | cons s ss =>
      have e := List.cons.inj e
      obtain ⟨e1, e2⟩ := e
      change k = .str s at e1
      subst e1
      cases hk
      rw [List.map_cons, RepK.keys_str h2 e2]; rfl
theorem RepK.keys_int : ∀ {kvs : List (D × D)} {kv : List (Key × V)} {ss : List Int}, RepK G dl S kvs kv → kvs.map (·.1) = ss.map D.int → kv.map (·.1) = ss.map Sum.inl
  | [], kv, ss, h, e => by
    unfold RepK at h
    subst h
    cases ss with
    | nil => rfl
    | cons s t => cases e
  | (k, d) :: r, kv, ss, h, e => by
    unfold RepK at h
    obtain ⟨x, v, t, rfl, hk, _, h2⟩ := h
    cases ss with
    | nil => cases e
    | cons s ss =>
      have e := List.cons.inj e
      obtain ⟨e1, e2⟩ := e
      change k = .int s at e1
      subst e1
      cases hk
      rw [List.map_cons, RepK.keys_int h2 e2]; rfl
theorem CallR.or_ {f : Value} {r1 r2 : List V → Hp → VK → Prop} (h1 : CallR X f r1) (h2 : CallR X f r2) : CallR X f (fun vs H Q => r1 vs H Q ∨ r2 vs H Q) := fun pins s sg H vs us Q I r q => q.elim (h1 pins s sg H vs us Q I r) (h2 pins s sg H vs us Q I r)
theorem cf_sorted (hG : G.K = X.K) (hc : X.calm = true) : CallF X G (.builtin "sorted") sortedL := by
  refine ⟨_, CallR.or_ (CallR.or_ cr_sortedS cr_sorted) (CallR.or_ (call_sortedD hc) (call_sortedDI hc)), fun dl Z O r sg ds vs H Q E A rl h => ?_⟩
  unfold sortedL at h
  split at h
  · obtain ⟨v, rfl, rp⟩ := rl.one
    obtain ⟨a, us, rfl, e, rl'⟩ := rp.lst
    unfold sortDs at h
    split at h
    case isFalse => exact h.elim
    rename_i xs hlen
    split at h
    · rename_i ss hss
      have := txts_eq hss
      subst this
      have := rl'.are_strs
      subst this
      refine .inl (.inl ⟨a, ss.map fun z => ⟨z.toArray⟩, rfl, SqL.of e, by simpa using hlen, fun ys p hp hs hf => ?_⟩)
      rw [sortedS_eq hs hp]
      exact h p _ H (.refl _ _) A.gl hf (RepL.of_strs _)
    · split at h
      · rename_i is his
        have := ints_eq his
        subst this
        have := rl'.are_ints
        subst this
        refine .inl (.inr ⟨a, is, rfl, SqL.of e, by simpa using hlen, fun ys p hp hs hf => ?_⟩)
        rw [isort_eq ord_int (hs.imp fun {a b} q => by simpa [ltI] using q) hp]
        exact h p _ H (.refl _ _) A.gl hf (RepL.of_ints _)
      · exact h.elim
  · obtain ⟨v, rfl, rp⟩ := rl.one
    obtain ⟨a, kv, rfl, hrd, rk⟩ := rp.dic
    unfold sortDs at h
    split at h
    case isFalse => exact h.elim
    rename_i kvs hlen
    split at h
    · rename_i ss hss
      have e := txts_eq hss
      refine .inr (.inl ⟨a, kv, ss.map fun z => ⟨z.toArray⟩, rfl, hrd, RepK.keys_str rk e, by rw [e] at hlen; simpa using hlen, fun ys p hp hs hf => ?_⟩)
      rw [sortedS_eq hs hp]
      exact h p _ H (.refl _ _) A.gl hf (RepL.of_strs _)
    · split at h
      · rename_i is his
        have e := ints_eq his
        refine .inr (.inr ⟨a, kv, is, rfl, hrd, RepK.keys_int rk e, by rw [e] at hlen; simpa using hlen, fun ys p hp hs hf => ?_⟩)
        rw [isort_eq ord_int (hs.imp fun {a b} q => by simpa [ltI] using q) hp]
        exact h p _ H (.refl _ _) A.gl hf (RepL.of_ints _)
      · exact h.elim
  · exact h.elim
variable {ex : Expr} {es : List Expr} {fs : LE → R (List D)} {gl : List D → R (List D)} {pos p : Pos} {x : Str} {id : String}
theorem df_callB (hc : CallF X G (.builtin id) gl) (hm : X.mg x = none) (hv : bootBuiltins x = some (.builtin id)) (ha : DAp X G W (ex :: es) fs) (hg : Gl X x := by rfl) (hn : x ≠ "__name__" := by decide) (hdb : (x == ("__debug__" : Str)) = false := by decide)
    (he : starEach (ex :: es) X.env = (false, eval ex X.env) :: starEach es X.env := by rfl) (hpl : (backTo pos (starEach es X.env)).any (·.1) = false := by rfl) : DF X G W (.Call (.Name x p) (ex :: es) [] pos) (fun r => fs r >>= gl) := by
  obtain ⟨rr, h1, h2⟩ := hc
  refine PE_imp (pe_callB h1 hg hm hv ha hn hdb he hpl) fun sg H Q ⟨dl, Z, O, r, A, q⟩ => ⟨dl, Z, O, r, A, q.bind.thn fun ds hd vs H1 g1 k1 rl => ?_⟩
  exact h2 dl Z O r sg ds vs H1 Q _ (A.grow g1 k1) rl (hd.thn fun d h p vs H' g' k' hp rl => h p vs H' (g1.trans g') k' hp rl)
end
end DL
set_option Elab.async false
set_option linter.all false
set_option maxRecDepth 100000
namespace DL
open PySem L2 PySem.Spec PyProof.Rows
theorem DpAll.at_ {K : PySem.W.Frag} {H : Hp} : ∀ {us : List V} {ds : List PyData} {j : Nat} {x : V} {z : PyData}, DpAll K H us ds → us[j]? = some x → ds[j]? = some z → Dp K H x z
  | _, _, j, x, z, .nil, e, _ => by simp at e
  | _, _, 0, x, z, .cons h _, e, e2 => by
    cases (show some _ = some x from e)
    cases (show some _ = some z from e2)
    exact h
  | _, _, j + 1, x, z, .cons _ h, e, e2 => DpAll.at_ (j := j) h (by simpa using e) (by simpa using e2)
end DL
set_option Elab.async false
set_option linter.all false
set_option maxRecDepth 100000
namespace DL
open PySem L2 PySem.Spec PyProof.Rows
end DL
set_option Elab.async false
set_option linter.all false
set_option maxRecDepth 100000
namespace DL
open PySem L2 PySem.Spec PyProof.Rows
def Mild {α : Type} (m : R α) : Prop := ∀ (Q : α → Prop) (E E' : Exc → Prop), Wp m Q E → Wp m Q E'
theorem Mild.ok {α : Type} (a : α) : Mild (R.ok a) := fun _ _ _ h => h
theorem Mild.stuck {α : Type} : Mild (R.stuck : R α) := fun _ _ _ h => h
theorem Mild.calm {α : Type} : ∀ (m : R α), Mild m.calm
  | .ok _ => fun _ _ _ h => h
  | .err _ => fun _ _ _ h => h
  | .stuck => fun _ _ _ h => h
  | .roll n k => fun Q E E' h i hi => Mild.calm (k i) Q E E' (h i hi)
theorem Mild.bind {α β : Type} {m : R α} {k : α → R β} (h : Mild m) (q : ∀ a, Mild (k a)) : Mild (m >>= k) := fun Q E E' w =>
  Wp.of_bind (h _ E E' (w.bind.thn fun a z => q a Q E E' z))
def dvals : D → R (List D)
  | .dic kvs => .ok (kvs.map (·.2))
  | _ => .stuck
def itV (f : LE → R D) : LE → R (List D) := fun r => f r >>= dvals
section
variable {X : Cx} {G : Gm} {W : WX} {tg iter : Expr} {f : LE → R D} {dl : Addr} {pos p apos cpos tpos : Pos} {elts : List Expr} {kk : Nat}
theorem keys_at {S S' : Hp} : ∀ {kvs : List (D × D)} {kv : List (Key × V)}, RepK G dl S kvs kv → ∀ (i : Nat) {e : D} {k : Key} {v : V}, (kvs.map (·.1))[i]? = some e → kv[i]? = some (k, v) → Rep G dl S' e (kV k)
  | [], kv, h, i, e, k, v, he, h1 => by simp at he
  | (q1, q2) :: kvs, kv, h, i, e, k, v, he, h1 => by
    unfold RepK at h
    obtain ⟨x, w, t, rfl, hk1, _, hk2⟩ := h
    cases i with
    | zero =>
      cases he
      cases h1
      cases q1 <;> first | (cases hk1; done) | skip
      · cases hk1; exact Rep.int_
      · cases hk1; exact Rep.str_
    | succ i => exact keys_at hk2 i (by simpa using he) (by simpa using h1)
theorem kvals_at {S : Hp} : ∀ {kvs : List (D × D)} {kv : List (Key × V)}, RepK G dl S kvs kv → ∀ (i : Nat) {e : D} {k : Key} {v : V}, (kvs.map (·.2))[i]? = some e → kv[i]? = some (k, v) → Rep G dl S e v
  | [], kv, h, i, e, k, v, he, h1 => by simp at he
  | (q1, q2) :: kvs, kv, h, i, e, k, v, he, h1 => by
    unfold RepK at h
    obtain ⟨x, w, t, rfl, hk1, hv, hk2⟩ := h
    cases i with
    | zero =>
      cases he
      cases h1
      exact hv
    | succ i => exact kvals_at hk2 i (by simpa using he) (by simpa using h1)
theorem walk_keys {d : Addr} {o : Obj} {kv : List (Key × V)} {kvs : List (D × D)} : WalkS G dl (Itk d o kv) (kvs.map (·.1)) (fun Z H => cut H Z d = some (.frz o (.dK kv)) ∧ RepK G dl (cut H Z) kvs kv) where
  mono := fun Z Z' H H' g _ h => ⟨g d _ h.1 (fun ps z => by cases z), h.2.mono g⟩
  monoS := fun Z Z' H H' g h => ⟨g d _ h.1 (fun ps z => by cases z), h.2.mono g⟩
  go := fun i Z H h hi => by
    have := h.2.length
    rw [List.length_map] at hi
    exact ⟨(cut_some h.1).2, by omega⟩
  stop := fun i Z H h hi => by
    have := h.2.length
    rw [List.length_map] at hi
    exact ⟨(cut_some h.1).2, by omega⟩
  yld := fun i Z O r sg H x H' A h hy e he => by
    obtain ⟨rfl, k, v, h1, rfl⟩ := hy
    exact ⟨.refl _ _, fun _ k => k, keys_at h.2 i he h1⟩
theorem walk_vals {d : Addr} {o : Obj} {kv : List (Key × V)} {kvs : List (D × D)} : WalkS G dl (Itd d o kv) (kvs.map (·.2)) (fun Z H => cut H Z d = some (.frz o (.dK kv)) ∧ RepK G dl (cut H Z) kvs kv) where
  mono := fun Z Z' H H' g _ h => ⟨g d _ h.1 (fun ps z => by cases z), h.2.mono g⟩
  monoS := fun Z Z' H H' g h => ⟨g d _ h.1 (fun ps z => by cases z), h.2.mono g⟩
  go := fun i Z H h hi => by
    have := h.2.length
    rw [List.length_map] at hi
    exact ⟨(cut_some h.1).2, by omega⟩
  stop := fun i Z H h hi => by
    have := h.2.length
    rw [List.length_map] at hi
    exact ⟨(cut_some h.1).2, by omega⟩
  yld := fun i Z O r sg H x H' A h hy e he => by
    obtain ⟨rfl, k, h1⟩ := hy
    exact ⟨.refl _ _, fun _ k => k, kvals_at h.2 i he h1⟩
theorem di_vals (h : DE X G W iter f) (hbase : attributeBase iter "values" X.env (eval iter X.env) = eval iter X.env := by rfl) (hline : (apos.endLine == cpos.line) = true := by rfl) : DI X G W tg (.Call (.Attribute iter "values" apos) [] [] cpos) (itV f) := PI_imp (pi_values h hbase hline) fun sg H Q ⟨dl, Z, O, r, A, q⟩ => by
  refine ⟨dl, Z, O, r, A, q.bind.thn fun d hd v H1 g1 k1 rp => ?_⟩
  unfold dvals at hd
  split at hd
  · unfold Rep at rp
    obtain ⟨a, o, kv, rfl, e, rk⟩ := rp
    exact ⟨a, o, kv, rfl, (cut_some e).2, hd _ _ H1 g1 k1 walk_vals ⟨e, rk⟩⟩
  · exact hd.elim
end
theorem hu1 {k : Nat} {A : Around} (hr : Room k A) : A.units + 1 < cLine := by have := hr.un; omega
end DL
set_option Elab.async false
set_option linter.all false
set_option maxRecDepth 100000
namespace DL
open PySem L2 PySem.Spec PyProof.Rows
end DL
set_option Elab.async false
set_option linter.all false
set_option maxRecDepth 100000
namespace DL
open PySem
end DL
set_option Elab.async false
set_option linter.all false
set_option maxRecDepth 100000
namespace DL
open PySem L2 PySem.Spec PyProof.Rows
def lenX : List D → R D
  | [.dic kvs] => .ok (.int kvs.length)
  | ds => lenD ds
section
variable {X : Cx} {G : Gm} {W : WX}
theorem cr_lenK : CallR X (.builtin "len") (fun xs H Q => ∃ (a : Addr) (kvs : List (Key × V)), xs = [.ref a] ∧ Rd H a (.dK kvs) ∧ Q (.int kvs.length) H) := by
  intro pins s sg H xs us Q I r h
  obtain ⟨a, kvs, rfl, e, q⟩ := h
  obtain ⟨u, rfl, ru⟩ := vals1 r
  obtain rfl : u = Value.ref a := ru
  exact d_len I e fun t s' I' => ⟨.int _, H, I', ⟨t, rfl⟩, q⟩
theorem cd_lenX (hG : G.K = X.K) : CallD X G (.builtin "len") lenX := by
  obtain ⟨rr, h1, h2⟩ := cd_len (X := X) (G := G) hG
  refine ⟨_, CallR.or cr_lenK h1, fun dl Z O r sg ds vs H Q E A rl h => ?_⟩
  unfold lenX at h
  split at h
  · obtain ⟨v, rfl, rp⟩ := rl.one
    obtain ⟨a, kv, rfl, hrd, rk⟩ := rp.dic
    refine .inl ⟨a, kv, rfl, hrd, ?_⟩
    rw [rk.length]
    exact h _ H (.refl _ _) A.gl Rep.int_
  · exact .inr (h2 dl Z O r sg ds vs H Q E A rl h)
end
end DL
set_option Elab.async false
set_option linter.all false
set_option maxRecDepth 100000
namespace DL
theorem Wp_onS {α : Type} {Q : Out → Prop} {r : LE} {k : α → R Out} : ∀ {m : R α}, Wp m (fun a => Wp (k a) Q (fun _ => False)) (fun e => Q (.ex e r)) → Wp (m.onS r k) Q (fun _ => False)
  | .ok _, h => h
  | .err _, h => h
  | .stuck, h => h
  | .roll _ _, h => fun i hi => Wp_onS (h i hi)
theorem Wp_seq {F K : LE → R Out} {r : LE} {Q : Out → Prop} : Wp (F r) (fun o => match o with
    | .nx r' => Wp (K r') Q (fun _ => False)
    | o => Q o) (fun _ => False) → Wp (seqS F K r) Q (fun _ => False) := fun h => by
  rw [seqS_eq]
  refine Wp.of_bind (h.thn fun o ho => ?_)
  cases o <;> exact ho
theorem Wp_setK {i : Nat} {f : LE → R D} {r : LE} {Q : Out → Prop} (h : Wp (f r) (fun d => Q (.nx (r.set i (.val d)))) (fun e => Q (.ex e r))) : Wp (setK i (valK f) r) Q (fun _ => False) := by
  rw [setK_eq, valK_eq]
  refine Wp_onS ?_
  refine Wp.of_bind (Wp.of_bind (h.thn fun d hd => ?_))
  exact hd
/-- the ends of a body: ways P lets through -/
structure Go (P : Out → Prop) (F : LE → R Out) (r : LE) : Prop where
  h : Wp (F r) P (fun _ => False)
theorem Go.cons {P : Out → Prop} {S F K : LE → R Out} {r r2 : LE} (e : S = seqS F K) (h : F r = .ok (.nx r2)) (k : Go P K r2) : Go P S r := by
  subst e
  refine ⟨Wp_seq ?_⟩
  rw [h]
  exact k.h
abbrev Done (o : Out) : Prop := ∃ r, o = .nx r ∨ o = .ct r
end DL
set_option Elab.async false
set_option linter.all false
set_option maxRecDepth 100000
namespace DL
open PySem L2 PySem.Spec PyProof.Rows
def cutD {α : Type} (xs : List α) (lo hi : Option Int) : List α := (xs.drop (HT.sIx xs.length 0 lo)).take (HT.sIx xs.length xs.length hi - HT.sIx xs.length 0 lo)
def slI (x : D) (lo hi : Option Int) : R D := match x with
  | .str s => if s.length ≤ 16777216 then .ok (.str (cutD s lo hi)) else .stuck
  | .tup xs => .ok (.tup (cutD xs lo hi))
  | .lst xs => .ok (.lst (cutD xs lo hi))
  | _ => .stuck
def tO (G : Gm) (W : WX) (p : LE → R (Option Int)) : TO := fun sg H Q => ∃ dl Z O r, At G dl Z O r sg H ∧
  Wp (p r) (fun o => ∀ H', Grow dl H H' → GlOk G dl H' → Q o H') (fun e => ∀ cls dx H', Grow dl H H' → GlOk G dl H' → XRep G dl (cut H' Z) e cls dx H' → W cls dx sg H')
abbrev DO (X : Cx) (G : Gm) (W : WX) (e : Option Expr) (p : LE → R (Option Int)) : Prop := PO X e (tO G W p)
def noP : LE → R (Option Int) := fun _ => .ok none
def someP (f : LE → R D) : LE → R (Option Int) := fun r => f r >>= fun d => match d with
  | .int i => .ok (some i)
  | _ => .stuck
def sliceE (f : LE → R D) (l h : LE → R (Option Int)) : LE → R D := fun r => do let x ← f r; let a ← l r; let b ← h r; slI x a b
section
variable {X : Cx} {G : Gm} {W : WX} {a b : Expr} {f : LE → R D} {lo hi : Option Expr} {l h : LE → R (Option Int)} {pos p2 : Pos}
theorem PO_imp {e : Option Expr} {t t' : TO} (h : PO X e t) (i : ∀ sg H Q, t' sg H Q → t sg H Q) : PO X e t' := ⟨fun pins s sg H Q I q => h.run pins s sg H Q I (i _ _ _ q)⟩
theorem do_none : DO X G W none noP := PO_imp po_none fun sg H Q ⟨dl, Z, O, r, A, q⟩ => q H (.refl _ _) A.gl
theorem do_some (ha : DP X G W a f) : DO X G W (some a) (someP f) := PO_imp (po_some ha) fun sg H Q ⟨dl, Z, O, r, A, q⟩ => by
  refine ⟨dl, Z, O, r, A, q.bind.thn fun d hd v H1 g1 k1 rp => ?_⟩
  cases d <;> first | exact hd.elim | skip
  rename_i i
  exact ⟨i, rp.int, hd H1 g1 k1⟩
theorem RepL.cut_ {dl : Addr} {S : Hp} {ds : List D} {vs : List V} (rl : RepL G dl S ds vs) (lo hi : Option Int) : RepL G dl S (cutD ds lo hi) (cutV vs lo hi) := by
  unfold cutD cutV
  rw [rl.length]
  exact RepL.take _ (RepL.drop _ rl)
theorem cutS_of (s : List Nat) (lo hi : Option Int) : cutS ⟨s.toArray⟩ lo hi = ⟨(cutD s lo hi).toArray⟩ := by
  unfold cutS cutD
  simp [Str.length]
theorem cut_whole {α : Type} (xs : List α) (lo hi : Option Int) (h : HT.sIx xs.length 0 lo = 0 ∧ HT.sIx xs.length xs.length hi = xs.length) : cutD xs lo hi = xs := by
  unfold cutD
  rw [h.1, h.2]
  simp
theorem de_slice (hG : G.K = X.K) (ha : DP X G W a f) (hl : DO X G W lo l) (hh : DO X G W hi h) : DE X G W (.Subscript a (.Slice lo hi none p2) pos) (sliceE f l h) := by
  refine PE_imp (pe_slice (SlR.or (SlR.or sl_str sl_tupA) sl_list) ha hl hh) fun sg H Q ⟨dl, Z, O, r, A, q⟩ => ?_
  refine ⟨dl, Z, O, r, A, q.bind.thn fun x hx v H1 g1 k1 rp => ?_⟩
  have A1 := A.grow g1 k1
  refine ⟨dl, Z, O, r, A1, hx.bind.mono (fun o1 ho1 H2 g2 k2 => ?_) fun e => epost g1⟩
  have A2 := A1.grow g2 k2
  refine ⟨dl, Z, O, r, A2, ho1.bind.mono (fun o2 ho2 H3 g3 k3 => ?_) fun e => epost (g1.trans g2)⟩
  have A3 := A2.grow g3 k3
  have rp3 := rp.grow A1 (g2.trans g3)
  have g := (g1.trans g2).trans g3
  cases x <;> first | exact ho2.elim | skip
  · rename_i s
    change Wp (if s.length ≤ 16777216 then R.ok (D.str (cutD s o1 o2)) else R.stuck) _ _ at ho2
    split at ho2
    case isFalse => exact ho2.elim
    rename_i hz
    refine .inl (.inl ⟨⟨s.toArray⟩, rp3.str, by rw [sizeLine_eq]; simpa [Str.length] using hz, ?_⟩)
    rw [cutS_of]
    exact ho2 _ H3 g k3 Rep.str_
  · rename_i xs
    obtain ⟨p, us, rfl, hl, rl⟩ := rp3.lst
    refine .inr ⟨p, us, rfl, SqL.of hl, fun p' hp => ?_⟩
    exact ho2 _ _ (g.trans (.new hp)) (k3.new hp) (Rep.lst_new A3 hp (rl.cut_ o1 o2))
  · rename_i xs
    obtain ⟨p, us, rfl, hl, rl⟩ := rp3.tup
    have hlen := rl.length
    refine .inl (.inr ⟨p, us, rfl, hG ▸ hl, fun hw => ?_, fun hw p' hp => ?_⟩)
    · rw [hlen] at hw
      have e := cut_whole xs o1 o2 hw
      change Wp (R.ok (D.tup (cutD xs o1 o2))) _ _ at ho2
      rw [e] at ho2
      rcases rp3 with rp3 | ⟨_, _, _, _, own⟩
      · exact ho2 _ H3 g k3 rp3
      · exact own.elim
    · exact ho2 _ _ (g.trans (.new hp)) (k3.new hp) (Rep.tup_new A3 hp (rl.cut_ o1 o2))
end
end DL
set_option Elab.async false
set_option linter.all false
set_option maxRecDepth 100000
namespace DL
open PySem L2 PySem.Spec PyProof.Rows
def iaddD : D → D → R D
  | .int i, .int j => .ok (.int (i + j))
  | .str a, .str b => if a.length + b.length ≤ 16777216 then .ok (.str (a ++ b)) else .stuck
  | _, _ => .stuck
section
variable {X : Cx} {G : Gm} {W : WX} {a b : Expr} {f g : LE → R D} {pos pos' p : Pos} {x : Str}
theorem oi_add : OpD X G (inplaceOp .Add) iaddD := by
  refine ⟨_, OpR.or (opI0 (g := fun i j => i + j) fun _ _ _ _ _ _ _ q => iadd_int q) (in_addS : OpR X (inplaceOp .Add) rAddS), fun dl Z O r sg x y vx vy H Q E A hx hy h => ?_⟩
  unfold iaddD at h
  split at h
  · exact .inl ⟨_, _, hx.int, hy.int, h _ H (.refl _ _) A.gl Rep.int_⟩
  · split at h
    · rename_i a b hc
      refine .inr ⟨_, _, hx.str, hy.str, by rw [sizeLine_eq]; simpa [Str.length] using hc, ?_⟩
      rw [str_add]
      exact h _ H (.refl _ _) A.gl Rep.str_
    · exact h.elim
  · exact h.elim
theorem ds_aug (i : Nat) {op : Operator} {gg : D → D → R D} (ho : OpD X G (inplaceOp op) gg) (hN : X.N.Nodup) (he : DE X G W a f) (hi : X.N[i]? = some x := by rfl) (hx : Loc X.env.scope x := by first | exact Or.inl rfl | exact Or.inr rfl)
    (hf : X.fn x = true ∨ X.env.scope.names.lookup x = some .local := by first | exact .inl rfl | exact .inr rfl) : DS X G W (.AugAssign (.Name x pos') op a pos) (setK i (valK (opE gg (var i) f))) := by
  obtain ⟨rr, h1, h2⟩ := ho
  refine PS_imp (ps_aug hN hi hx he (ti := rr) h1 hf) fun De sg H ⟨dl, Z, O, r, A, q⟩ => ?_
  have q1 := (onS_wp q).bind.bind
  have hv : ∃ d, r[i]? = some (.val d) := by
    cases hc : r[i]? with
    | none => rw [show opE gg (var i) f r = (var i r >>= fun x => f r >>= fun y => gg x y) from rfl, var_eq, hc] at q1; exact q1.elim
    | some c =>
      cases c with
      | val d => exact ⟨d, rfl⟩
      | un => rw [show opE gg (var i) f r = (var i r >>= fun x => f r >>= fun y => gg x y) from rfl, var_eq, hc] at q1; exact q1.elim
      | own d => rw [show opE gg (var i) f r = (var i r >>= fun x => f r >>= fun y => gg x y) from rfl, var_eq, hc] at q1; exact q1.elim
  obtain ⟨d, hd⟩ := hv
  obtain ⟨v, hs, rp⟩ := A.slot i _ hd
  rw [show opE gg (var i) f r = (var i r >>= fun x => f r >>= fun y => gg x y) from rfl, var_eq, hd] at q1
  refine ⟨v, hs, dl, Z, O, r, A, (show Wp (f r >>= fun y => gg d y) _ _ from q1).bind.mono (fun y hy u H1 g1 k1 ru => ?_) fun e he => spost_ex A he⟩
  have A1 := A.grow g1 k1
  refine h2 dl Z O r sg d y v u H1 _ (fun e => SPost G W De dl Z O H (.ex e r)) A1 (.of (rp.mono (g1.cut A.dz))) (.of ru) (hy.thn fun z hz w H2 g2 k2 rw_ => ?_)
  exact hz Z O _ H2 (Stp.of_grow (g1.trans g2) k2) ((A1.grow g2 k2).set_val i rw_)
def isNone : D → R D
  | .non => .ok (.bl true)
  | .int _ => .ok (.bl false)
  | .str _ => .ok (.bl false)
  | .bl _ => .ok (.bl false)
  | .tup _ => .ok (.bl false)
  | .lst _ => .ok (.bl false)
  | _ => .stuck
def isNE (f : LE → R D) : LE → R D := fun r => f r >>= isNone
theorem isNone_rep {dl : Addr} {H : Hp} {Z : List Addr} {d : D} {v : V} {Q : D → Prop} {E : Exc → Prop} (rp : RepP G dl H Z d v) (h : Wp (isNone d) Q E) : Q (.bl (decide (v = .non))) := by
  cases d <;> first | exact h.elim | skip
  · rcases rp with rp | ⟨_, _, _, _, own⟩
    · unfold Rep at rp; subst rp; exact h
    · exact own.elim
  · rw [rp.bl]; exact h
  · rw [rp.int]; exact h
  · rw [rp.str]; exact h
  · obtain ⟨p, us, rfl, _⟩ := rp.lst; exact h
  · obtain ⟨p, us, rfl, _⟩ := rp.tup; exact h
end
end DL
set_option Elab.async false
set_option linter.all false
set_option maxRecDepth 100000
set_option maxHeartbeats 1000000
namespace DL
open PySem L2 PySem.Spec PyProof.Rows GenW
/-- the context of a generator expression's frame, run over A; s, H: ahead of the frame; fp: the iterator's records -/
abbrev genCx (X : Cx) (A : Around) (s : Shared) (H : Hp) (env : Env) (fp : List Addr) : Cx :=
  { X with A := A, s_0 := s, H_0 := H, env := env, outer := X.stack, stack := env :: X.stack, ex := fp, fn := fun x => env.scope.names.lookup x == some .cell, calm := true, pn := [], xe := fun _ _ => False }
/-- its names -/
structure GenOk (scope : Scope) : Prop where
  co : scope.isCoroutine = false
  dot : scope.names.lookup (".0" : Str) = some NameKind.local
def genOkC (scope : Scope) : Bool := !scope.isCoroutine && decide (scope.names.lookup (".0" : Str) = some NameKind.local)
theorem genOk_by {scope : Scope} (h : genOkC scope = true) : GenOk scope := by
  unfold genOkC at h
  simp only [Bool.and_eq_true, Bool.not_eq_true', decide_eq_true_eq] at h
  exact ⟨h.1, h.2⟩
/-- the cells of a generator's frame at L -/
abbrev genCl (X : Cx) (scope : Scope) (L : Addr) : List (Str × Addr) := cellsFrom (L + 1) scope.names (cloFrom X.env.cells scope.names [])
/-- a frame laid at L -/
structure GenAt (names : List (Str × NameKind)) (clo : List (Str × Addr)) (L : Addr) (h0 h5 : Heap) : Prop where
  ns : ∃ m, h5.Ns L m
  kp : ∀ b o, h0.get? b = some o → h5.get? b = some o
  cells : ∀ y c, (cellsFrom (L + 1) names clo).lookup y = some c → (y, c) ∈ clo ∨ ((y, NameKind.cell) ∈ names ∧ L + 1 ≤ c ∧ h5.IsCell c none)
  sz : L < h5.objs.size
theorem GenAt.push {names : List (Str × NameKind)} {clo : List (Str × Addr)} {L : Addr} {h0 h5 h6 : Heap} (h : GenAt names clo L h0 h5) (k : ∀ b o, h5.get? b = some o → h6.get? b = some o) (hz : h5.objs.size ≤ h6.objs.size) : GenAt names clo L h0 h6 :=
  ⟨h.ns.elim fun m hm => ⟨m, hm.keeps k⟩, fun b o e => k b o (h.kp b o e), fun y c e => (h.cells y c e).elim .inl fun ⟨a, b, z⟩ => .inr ⟨a, b, z.keeps k⟩, Nat.lt_of_lt_of_le h.sz hz⟩
theorem gen_env {M : Model} {A : Around} {scope : Scope} {ql : Str} {it code : Value} {clo : List (Str × Addr)} {bi g : Addr} {E : Value → Shared → Prop} {Q : Env → Shared → Prop} {s : Shared} (h0 : scope.names.lookup (".0" : Str) = some NameKind.local) (hk : scope.kind = .function)
    (h : ∀ h5 tk, GenAt scope.names clo s.heap.objs.size s.heap h5 → Q (newEnv scope s.heap.objs.size g (cellsFrom (s.heap.objs.size + 1) scope.names clo) ql none code none bi) { s with heap := h5, toks := tk }) :
    wpAny M A (newFunctionEnv scope g clo [(".0", it)] ql none code none bi) Q E s := by
  simp only [newFunctionEnv, Option.isSome_none, Bool.false_eq_true, if_false]
  refine wpAny_bind (wpAny_alloc ?_)
  refine wpAny_bind (wpAny_layCells _ (fun name kind cells => by cases hkc : kind == NameKind.cell <;> simp [hkc]) _ _ _ _ ?_)
  have hz : (s.heap.push { cls := .type "frame", data := .dict #[] }).objs.size = s.heap.objs.size + 1 := Heap.size_push ..
  rw [show ({ s with heap := s.heap.push { cls := .type "frame", data := .dict #[] } } : Shared).heap.objs.size = s.heap.objs.size + 1 from hz]
  rw [List.forIn_cons]
  have hns : (pushCells (s.heap.push { cls := .type "frame", data := .dict #[] }) scope.names).Ns s.heap.objs.size fun _ => none := (Heap.Ns.new s.heap (.type "frame")).keeps (pushCells_keeps _ _)
  have hp : (scope.kind == .class || (scope.kind == .module && s.heap.objs.size != g)) = false := by rw [hk]; rfl
  refine wpAny_bind (wpAny_bind (wpAny_bind (wpAny_storeName_local (m := fun _ => none) h0 hns (fun h5 hn5 hs5 => wpAny_pure ?_) hp)))
  show wpAny M A (forIn [] _ _) _ _ _
  rw [List.forIn_nil]
  refine wpAny_pure (wpAny_pure (h h5 _ ⟨⟨_, hn5⟩, fun b o e => ?_, fun y c e => ?_, ?_⟩))
  · exact hs5.extBut b o (Nat.ne_of_lt (Heap.lt_size e)) (pushCells_keeps _ _ _ _ (Heap.get?_push_of_some _ e))
  · rw [← hz] at e
    rcases cells_mem (PySem.mem_of_lookup e) with hm | ⟨h1, h2, h3⟩
    · exact .inl hm
    · rw [hz] at h2
      exact .inr ⟨h1, h2, h3.sameBut hs5 (Nat.ne_of_gt h2)⟩
  · obtain ⟨o, _, _, ho, _⟩ := id hn5
    exact Heap.lt_size ho
section
variable {X : Cx} {pins : List (Addr × Obj)} {σ : L2.St} {H : Hp} {s : Shared}
theorem inv_gens {G : Array GenState} (I : Inv X pins σ H s) (hg : AllBare G) : Inv X pins σ H { s with gens := G } :=
  ⟨I.ok, I.os, hg, I.base, I.loc, I.cell, I.free, I.freeC, I.pin, I.hok, I.len⟩
theorem gen_start {A : Around} {scope : Scope} {own : List (Str × Nat)} {fp : List Addr} {code : Value} {h5 : Heap} {G : Array GenState} {tk : Nat} (I : Inv X pins σ H s) (ok : BlkOk X.N X.env.scope scope own) (hN : X.N.Nodup)
    (hfp : ∀ b ∈ fp, FpOk X pins H b ∧ b < s.heap.objs.size) (hh : A.handled = none) (hfr : A.frames = some (genEnv scope (genCl X scope s.heap.objs.size) s.heap.objs.size code builtinsNs X.env :: X.stack))
    (ga : GenAt scope.names (cloFrom X.env.cells scope.names []) s.heap.objs.size s.heap h5) (hG : AllBare G) :
    Inv (genCx X A s H (genEnv scope (genCl X scope s.heap.objs.size) s.heap.objs.size code builtinsNs X.env) fp) [] (wipe σ (own.map (·.2))) H { s with gens := G, toks := tk, heap := h5 } := by
  have kp := ga.kp
  have hfree : ∀ y ∈ scope.names, y.2 = .free → ∃ c, X.env.cells.lookup y.1 = some c := fun y hy e => by
    rcases ok.free y hy e with k | k
    · exact I.ok.has _ (.inl k)
    · exact I.ok.has _ (.inr k)
  have cm : ∀ {y c}, (y, c) ∈ cloFrom X.env.cells scope.names [] → X.env.cells.lookup y = some c ∧ c < s.heap.objs.size := fun {y c} hm => by
    rcases cloFrom_mem hm with hm | ⟨h1, h2⟩
    · cases hm
    · obtain ⟨c1, hc⟩ := hfree _ h1 rfl
      have hc : X.env.cells.lookup y = some c1 := hc
      have e2 : c = c1 := by
        rw [h2, hc] <;> rfl
      obtain ⟨w, z⟩ := I.cell _ _ hc
      rw [e2]
      exact ⟨hc, z.lt⟩
  have mem : ∀ {y c}, (genCl X scope s.heap.objs.size).lookup y = some c → (X.env.cells.lookup y = some c ∧ c < s.heap.objs.size) ∨ ((y, NameKind.cell) ∈ scope.names ∧ s.heap.objs.size + 1 ≤ c ∧ h5.IsCell c none) := fun {y c} e => (ga.cells y c e).elim (fun hm => .inl (cm hm)) .inr
  have look : ∀ {y}, scope.names.lookup y = some .free → ∃ c, (genCl X scope s.heap.objs.size).lookup y = some c ∧ X.env.cells.lookup y = some c := fun {y} hl => by
    have hy : (y, NameKind.free) ∈ scope.names := PySem.mem_of_lookup hl
    obtain ⟨c', e'⟩ := mem_lookup (cells_acc (names := scope.names) (n := s.heap.objs.size + 1) (cloFrom_has (cells := X.env.cells) (acc := []) hy))
    refine ⟨c', e', ?_⟩
    rcases ga.cells y c' e' with hm | ⟨h1, _, _⟩
    · exact (cm hm).1
    · have := ok.uniq _ h1
      rw [hl] at this; cases this
  have cellK : ∀ {c : Addr} {v : Option Value}, s.heap.IsCell c v → h5.IsCell c v := fun {c v} ⟨o, ho, hd⟩ => ⟨o, kp _ _ ho, hd⟩
  obtain ⟨m5, hns⟩ := ga.ns
  refine ⟨⟨I.ok.mod, ok.kind, I.ok.glob, rfl, Nat.le_refl _, fun y z c e1 e2 => ?_, fun y hy => ?_, fun y c z e => ?_, fun _ => hh, hfr, .inr ⟨rfl, rfl⟩, fun b hb => ⟨?_, fun y c e z => ?_⟩, I.bs, Nat.le_trans I.ok.bsz I.sz, fun b o e hb => ?_, fun b hb z => ?_, I.stack, I.stkFree⟩,
    rfl, hG, Un.kept kp, ⟨_, hns, fun i y av e1 e2 e3 => ?_⟩, fun y c e => ?_, I.hok.fresh (Nat.le_refl _), fun y c e => ?_, fun q hq => absurd (show q ∈ ([] : List (Addr × Obj)) ++ [] from hq) (by simp), I.hok.kept kp, by rw [wipe_length]; exact I.len⟩
  · have e1 : (cellsFrom (s.heap.objs.size + 1) scope.names (cloFrom X.env.cells scope.names [])).lookup y = some c := e1
    have e2 : (cellsFrom (s.heap.objs.size + 1) scope.names (cloFrom X.env.cells scope.names [])).lookup z = some c := e2
    have hz : (s.heap.push { cls := .type "frame", data := .dict #[] }).objs.size = s.heap.objs.size + 1 := Heap.size_push ..
    rw [← hz] at e1 e2
    refine cells_inj (fun p hp => ?_) (fun y z c a b => I.ok.inj y z c (cm a).1 (cm b).1) (PySem.mem_of_lookup e1) (PySem.mem_of_lookup e2)
    rw [hz]
    exact Nat.lt_succ_of_lt (cm (y := p.1) (c := p.2) hp).2
  · have hy : scope.names.lookup y = some .cell ∨ scope.names.lookup y = some .free := hy
    rcases hy with hy | hy
    · obtain ⟨c, hm⟩ := cells_has (n := s.heap.objs.size + 1) (acc := cloFrom X.env.cells scope.names []) (PySem.mem_of_lookup hy)
      exact mem_lookup hm
    · obtain ⟨c, h1, _⟩ := look hy
      exact ⟨c, h1⟩
  · have z : (scope.names.lookup y == some NameKind.cell) = true := z
    have z : scope.names.lookup y = some .cell := by simpa using z
    rcases ga.cells y c e with hm | ⟨_, h2, _⟩
    · rcases cloFrom_mem hm with hm | ⟨h1, _⟩
      · cases hm
      · have q := ok.uniq _ h1
        rw [z] at q; cases q
    · exact Nat.le_of_succ_le h2
  · exact Nat.ne_of_lt (hfp b hb).2
  · rcases mem e with ⟨h1, _⟩ | ⟨_, h1, _⟩
    · exact (hfp b hb).1.2.2.2.2.1 y c h1 z
    · have h2 : s.heap.objs.size + 1 ≤ b := by rw [← z]; exact h1
      exact absurd (Nat.lt_of_lt_of_le (hfp b hb).2 (Nat.le_of_succ_le h2)) (Nat.lt_irrefl _)
  · rcases (hfp b hb).1.2.2.2.1 with z | z
    · exact I.ok.noex b o e z
    · exact absurd (Nat.lt_of_lt_of_le (Heap.lt_size e) (Nat.le_trans I.ok.bsz z)) (Nat.lt_irrefl _)
  · rcases List.mem_cons.mp (I.stkSub b z) with z | z
    · exact (hfp b hb).1.2.1 z
    · exact (hfp b hb).1.2.2.1 z
  · obtain ⟨e2, hne⟩ := wipe_some e2
    have hfr : scope.names.lookup y = some .free := by
      have no : ¬ (scope.names.lookup y = some .local ∨ scope.names.lookup y = some .cell) := fun hh => by
        have hm : (y, NameKind.local) ∈ scope.names ∨ (y, NameKind.cell) ∈ scope.names := hh.elim (fun z => .inl (PySem.mem_of_lookup z)) fun z => .inr (PySem.mem_of_lookup z)
        have e' : y ∈ own.map (·.1) ∨ y ∉ X.N := hm.elim (fun z => ok.own _ z (.inl rfl)) fun z => ok.own _ z (.inr rfl)
        rcases e' with e' | e'
        · obtain ⟨p, hp, hpy⟩ := List.mem_map.mp e'
          have e3 := ok.ix p hp
          have : p.1 = y := hpy
          rw [this] at e3
          exact hne (List.mem_map.mpr ⟨p, hp, nodup_ix hN e3 e1⟩)
        · exact e' (List.mem_of_getElem? e1)
      have e3 : Vis scope y := e3
      rcases e3 with e3 | e3 | e3
      · exact (no (.inl e3)).elim
      · exact (no (.inr e3)).elim
      · exact e3
    obtain ⟨m, hn, hl⟩ := I.loc
    have hvis : Vis X.env.scope y := (ok.free _ (PySem.mem_of_lookup hfr) rfl).elim (fun k => .inr (.inl k)) (fun k => .inr (.inr k))
    obtain ⟨w, r, q⟩ := hl i y av e1 e2 hvis
    obtain ⟨c2, h2, c1⟩ := look hfr
    refine ⟨w, r, .inr ⟨.inr hfr, c2, h2, ?_⟩⟩
    rcases q with ⟨k, _⟩ | ⟨_, c', e', z⟩
    · have k : X.env.scope.names.lookup y = some .local := k
      rcases ok.free _ (PySem.mem_of_lookup hfr) rfl with k' | k' <;> rw [show X.env.scope.names.lookup y = _ from k'] at k <;> cases k
    · rw [c1] at e'
      cases e'
      exact cellK z
  · rcases mem e with ⟨h1, _⟩ | ⟨_, _, z⟩
    · obtain ⟨w, z⟩ := I.cell y c h1
      exact ⟨w, cellK z⟩
    · exact ⟨_, z⟩
  · rcases mem e with ⟨h1, _⟩ | ⟨_, h1, _⟩
    · exact I.freeC y c h1
    · exact I.hok.fresh (Nat.le_of_succ_le h1)
end
end DL
set_option Elab.async false
set_option linter.all false
set_option maxRecDepth 100000
set_option maxHeartbeats 1000000
namespace DL
open PySem L2 PySem.Spec PyProof.Rows GenW
/-- the consumer's turn while the generator sleeps: only its own records at S change -/
structure Slp (S : List Addr) (s s' : Shared) : Prop where
  os : s'.os = s.os
  bare : AllBare s'.gens
  keep : ∀ b o, b ∉ S → s.heap.get? b = some o → s'.heap.get? b = some o
/-- the consumer's records as they stand -/
structure Held (S : List Addr) (ps : List (Addr × Obj)) (s : Shared) : Prop where
  at_ : ps.map (·.1) = S
  ok : ∀ p ∈ ps, s.heap.get? p.1 = some p.2 ∧ ∀ v, p.2.data ≠ .cell v
/-- the generator's own things: Xg its context, pa its object (pinned), S the consumer's records, the iterator -/
structure Ge where
  Xg : Cx
  pa : Addr × Obj
  S : List Addr
  σ0 : L2.St
  fp : List Addr
  it : Addr
  tn : Nat → Heap → Prop
  J : It
  vs : List Nat
/-- between two turns -/
structure GInv (g : Ge) (i : Nat) (ps : List (Addr × Obj)) (H : Hp) (s : Shared) : Prop where
  at_ : ps.map (·.1) = g.S
  inv : Inv g.Xg (g.pa :: ps) g.σ0 H s
  tn : g.tn i s.heap
  fp : ∀ b ∈ g.fp, H b = none
/-- at the end -/
structure GEnd (g : Ge) (ps : List (Addr × Obj)) (H : Hp) (s : Shared) : Prop where
  at_ : ps.map (·.1) = g.S
  inv : Inv g.Xg (g.pa :: ps) g.σ0 H s
  fp : ∀ b ∈ g.fp, H b = none
theorem GInv.end {g : Ge} {i : Nat} {ps : List (Addr × Obj)} {H : Hp} {s : Shared} (h : GInv g i ps H s) : GEnd g ps H s := ⟨h.at_, h.inv, h.fp⟩
theorem GEnd.held {g : Ge} {ps : List (Addr × Obj)} {H : Hp} {s : Shared} (h : GEnd g ps H s) : Held g.S ps s := ⟨h.at_, fun p hp =>
  let z := h.inv.pin p (List.mem_append_right _ (List.mem_cons_of_mem _ hp)); ⟨z.1, z.2.2.2.2⟩⟩
structure GeOk (g : Ge) (tg : Expr) : Prop where
  pn : g.Xg.pn = []
  ex : g.Xg.ex = g.fp
  calm : g.Xg.calm = true
  xe : g.Xg.xe = fun _ _ => False
  turn : Turn g.Xg.prog g.Xg.w g.Xg.K tg g.J g.fp g.it g.tn
  apart : ∀ b ∈ g.S, g.Xg.s_0.heap.objs.size ≤ b ∧ b ≠ g.Xg.env.locals ∧ b ≠ g.pa.1 ∧ b ∉ g.fp ∧ ∀ x c, g.Xg.env.cells.lookup x = some c → c ≠ b
  gen : g.pa.1 ∉ g.fp
section
variable {g : Ge} {tg : Expr} {i : Nat} {H : Hp} {s s' : Shared} {ps ps' : List (Addr × Obj)}
theorem GeOk.fpok (k : GeOk g tg) {σ' : L2.St} {ps : List (Addr × Obj)} (hps : ps.map (·.1) = g.S) (I : Inv g.Xg (g.pa :: ps) σ' H s) (hn : ∀ b ∈ g.fp, H b = none) : ∀ b ∈ g.fp, FpOk g.Xg (g.pa :: ps) H b := fun b hb => by
  have hx : b ∈ g.Xg.ex := by rw [k.ex]; exact hb
  refine ⟨hn b hb, (I.ok.exf b hx).1, I.ok.exfs b hx, .inl hx, fun x c e => (I.ok.exf b hx).2 x c e, fun p hp => ?_⟩
  rw [k.pn, List.nil_append] at hp
  rcases List.mem_cons.mp hp with z | z
  · rw [z]
    exact fun e => k.gen (by rw [e]; exact hb)
  · have hm : p.1 ∈ g.S := by rw [← hps]; exact List.mem_map.mpr ⟨p, z, rfl⟩
    exact fun e => (k.apart p.1 hm).2.2.2.1 (by rw [e]; exact hb)
/-- behind the consumer's turn -/
theorem GInv.slept (k : GeOk g tg) (h : GInv g i ps H s) (z : Slp g.S s s') (hd : Held g.S ps' s') : GInv g i ps' H s' := by
  obtain ⟨hps, I, st, hn⟩ := h
  have pinS : ∀ b ∈ g.S, ∃ o, s.heap.get? b = some o ∧ H b = none ∧ b ≠ g.Xg.env.locals ∧ b ∉ g.Xg.fs := fun b hb => by
    rw [← hps] at hb
    obtain ⟨p, hp, e⟩ := List.mem_map.mp hb
    obtain ⟨h1, h2, h3, h4, _⟩ := I.pin p (List.mem_append_right _ (List.mem_cons_of_mem _ hp))
    rw [← e]
    exact ⟨_, h1, h2, h3, h4⟩
  have pinA := I.pin g.pa (List.mem_append_right _ List.mem_cons_self)
  have I0 : Inv g.Xg [g.pa] g.σ0 H s := I.pins_of fun p hp => by
    rw [List.mem_singleton.mp hp]
    exact pinA
  have nt : ∀ b u, H b = some u → b ∉ g.S := fun b u q hb => by
    obtain ⟨_, _, h2, _⟩ := pinS b hb
    rw [h2] at q; cases q
  have hz := z
  obtain ⟨z1, z2, z3⟩ := z
  obtain ⟨hh, G, d, t, o⟩ := s'
  have ho : o = s.os := z1
  subst ho
  have J : Inv g.Xg [g.pa] g.σ0 H { s with heap := hh, gens := G, drawn := d, toks := t } := by
    refine I0.step (g' := G) (t' := t) (d' := d) (ch := g.S) (fun b hb => ?_)
      (fun b ob _ _ hc q _ => z3 b ob hc q) (fun b ob _ _ hc q _ => ⟨ob.slots, z3 b ob hc q⟩) (fun _ _ _ _ n => n) (fun b ob hc q => ⟨ob, z3 b ob hc q⟩)
      (fun _ _ q => q) (fun _ _ _ q => q) (fun b ps q => ⟨#[], by rw [q]; simp⟩) (fun m hm => ?_) (fun b u q => ?_) z2
    · obtain ⟨a1, a2, a3, a4, a5⟩ := k.apart b hb
      refine ⟨.inr a1, a2, a5, fun p hp => ?_⟩
      rw [k.pn, List.nil_append] at hp
      rw [List.mem_singleton.mp hp]
      exact fun e => a3 e.symm
    · obtain ⟨ob, es, ep, ho, r⟩ := hm
      exact ⟨ob, es, ep, z3 _ ob (fun hb => (k.apart _ hb).2.1 rfl) ho, r⟩
    · refine (I0.hok b u q).stay (fun c v hc y => z3 c v ?_ y) (fun _ y => y) fun _ _ y => y
      rcases hc with y | y
      · rw [y]; exact nt b u q
      · exact nt c _ y
  have hp' : ∀ p ∈ ps', hh.get? p.1 = some p.2 ∧ H p.1 = none ∧ p.1 ≠ g.Xg.env.locals ∧ p.1 ∉ g.Xg.fs ∧ ∀ v, p.2.data ≠ .cell v := fun p hp => by
    obtain ⟨q1, q2⟩ := hd.ok p hp
    obtain ⟨_, _, h2, h3, h4⟩ := pinS p.1 (by rw [← hd.at_]; exact List.mem_map.mpr ⟨p, hp, rfl⟩)
    exact ⟨q1, h2, h3, h4, q2⟩
  refine ⟨hd.at_, J.pins_of fun p hp => ?_, k.turn.keep _ _ _ st fun b hb o e => z3 b o (fun hb2 => (k.apart b hb2).2.2.2.1 hb) e, hn⟩
  rcases List.mem_cons.mp hp with z | z
  · rw [z]
    exact J.pin g.pa (List.mem_append_right _ List.mem_cons_self)
  · exact hp' p z
/-- what is told at a yield, at the end -/
def GYld (g : Ge) (N : Nat) (Rest : Nat → List (Addr × Obj) → Hp → Prop) (Yl : Nat → List (Addr × Obj) → V → Hp → Prop) : Protocol := fun n s₀ v s kap =>
  ∃ i x H ps, N ≤ n + (i + 1) ∧ RelV x v ∧ GInv g (i + 1) ps H s ∧ Held g.S ps s₀ ∧ Yl i ps x H ∧ ∀ s' ps', Slp g.S s s' → Held g.S ps' s' → Rest (i + 1) ps' H → kap (.send .none) s'
abbrev GDn (g : Ge) (Dn : List (Addr × Obj) → Hp → Prop) : GenEnd := fun n s₀ r s => r = .ok .next ∧ ∃ H ps, GEnd g ps H s ∧ Held g.S ps s₀ ∧ Dn ps H
theorem compTurn_ge (elt target iter : Expr) (ifs : List Expr) (scope : Scope) (pos : Pos) (it acc : Value) (env : Env) :
    compTurn (.GeneratorExp elt [⟨target, iter, ifs, 0⟩] scope pos) 0 it acc env = (do
      standAt iter.pos
      match ← pyNext it with
      | none => pure (.done .next)
      | some v =>
        letOwnedTupleGo target it v
        assign target env v
        let ok ← forIn ifs true fun c r => if r = true then do let ok ← isTrue c env (eval c env); pure (ForInStep.yield ok) else pure (ForInStep.yield r)
        if ok then
          (do let v ← eval elt env; standAt elt.pos; let _ ← yieldOut env v)
        again (.compLoop (.GeneratorExp elt [⟨target, iter, ifs, 0⟩] scope pos) 0 it acc env)) := by rfl
theorem seg_ge {A : Around} {elt iter : Expr} {ifs : List Expr} {scope : Scope} {pos : Pos} {gd : TG} {tt : TT} {te : TE} {N : Nat} {Rest : Nat → List (Addr × Obj) → Hp → Prop} {Dn : List (Addr × Obj) → Hp → Prop} {Yl : Nat → List (Addr × Obj) → V → Hp → Prop} (k : GeOk g tg)
    (hA : A.over (.compLoop (.GeneratorExp elt [⟨tg, iter, ifs, 0⟩] scope pos) 0 (.ref g.it) .none g.Xg.env) [] = g.Xg.A) (hco : g.Xg.env.scope.isCoroutine = false)
    (hg : PG g.Xg tg gd) (ht : PTs g.Xg ifs tt) (he : PE g.Xg elt te) (hw0 : wipe g.σ0 g.vs = g.σ0)
    (turn : ∀ i ps H, ps.map (·.1) = g.S → Rest i ps H → (g.J.stop i H ∧ Dn ps H) ∨ (i < N ∧ g.J.go i H ∧ ∀ x H', g.J.yld i H x H' → gd x g.σ0 H' fun σ2 H2 => wipe σ2 g.vs = g.σ0 ∧ tt σ2 H2 fun b H3 => if b = true then te σ2 H3 fun y H4 => Yl i ps y H4 else Rest (i + 1) ps H3)) :
    ∀ (m i n : Nat) (s₀ s : Shared) (H : Hp) (ps : List (Addr × Obj)), N - i = m → m ≤ n → GInv g i ps H s → Held g.S ps s₀ → Rest i ps H →
      Seg (model g.Xg.prog g.Xg.w) A (GDn g Dn) (GYld g N Rest Yl) n s₀ (.compLoop (.GeneratorExp elt [⟨tg, iter, ifs, 0⟩] scope pos) 0 (.ref g.it) .none g.Xg.env)
        ((model g.Xg.prog g.Xg.w).den (.compLoop (.GeneratorExp elt [⟨tg, iter, ifs, 0⟩] scope pos) 0 (.ref g.it) .none g.Xg.env)) [] s := by
  have noE : ∀ {α : Type} {Kx : Value → Shared → Prop} {t : Sem α} {Q : α → Shared → Prop} {s : Shared}, wpAny (model g.Xg.prog g.Xg.w) g.Xg.A t Q g.Xg.xe s → wpAny (model g.Xg.prog g.Xg.w) g.Xg.A t Q Kx s := fun h => by
    rw [k.xe] at h
    exact wpAny_mono h (fun _ _ e => e) fun _ _ e => e.elim
  have stop_ : ∀ (i n : Nat) (s₀ s : Shared) (H : Hp) (ps : List (Addr × Obj)), GInv g i ps H s → Held g.S ps s₀ → g.J.stop i H → Dn ps H →
      Seg (model g.Xg.prog g.Xg.w) A (GDn g Dn) (GYld g N Rest Yl) n s₀ (.compLoop (.GeneratorExp elt [⟨tg, iter, ifs, 0⟩] scope pos) 0 (.ref g.it) .none g.Xg.env)
        ((model g.Xg.prog g.Xg.w).den (.compLoop (.GeneratorExp elt [⟨tg, iter, ifs, 0⟩] scope pos) 0 (.ref g.it) .none g.Xg.env)) [] s := by
    intro i n s₀ s H ps hI h0 stop hd
    obtain ⟨hps, I, st, hnn⟩ := hI
    show Seg _ A _ _ _ s₀ _ ((compTurn (.GeneratorExp elt [⟨tg, iter, ifs, 0⟩] scope pos) 0 (.ref g.it) .none g.Xg.env).onRaise (leaving g.Xg.env)) [] s
    rw [compTurn_ge, Sem.onRaise_eq_wrap]
    refine seg_bind_wrap (wpAny_standAt ?_)
    refine seg_bind_wrap ?_
    rw [hA]
    refine thn (k.turn.done g.Xg rfl rfl rfl k.calm i _ s _ H _ I (k.fpok hps I hnn) st stop) fun r s1 ⟨hr, I1⟩ => ?_
    subst hr
    exact seg_end (.ok .next) ⟨rfl, H, ps, ⟨hps, I1, hnn⟩, h0, hd⟩
  intro m
  induction m with
  | zero =>
    intro i n s₀ s H ps hm hn hI h0 hR
    rcases turn i ps H hI.at_ hR with ⟨stop, hd⟩ | ⟨hlt, _⟩
    · exact stop_ i n s₀ s H ps hI h0 stop hd
    · omega
  | succ m ih =>
    intro i n s₀ s H ps hm hn hI h0 hR
    rcases turn i ps H hI.at_ hR with ⟨stop, hd⟩ | ⟨hlt, go, step⟩
    · exact stop_ i n s₀ s H ps hI h0 stop hd
    obtain ⟨hps, I, st, hnn⟩ := hI
    obtain ⟨n, rfl⟩ : ∃ n', n = n' + 1 := ⟨n - 1, by omega⟩
    show Seg _ A _ _ _ s₀ _ ((compTurn (.GeneratorExp elt [⟨tg, iter, ifs, 0⟩] scope pos) 0 (.ref g.it) .none g.Xg.env).onRaise (leaving g.Xg.env)) [] s
    rw [compTurn_ge, Sem.onRaise_eq_wrap]
    refine seg_bind_wrap (wpAny_standAt ?_)
    refine seg_bind_wrap ?_
    rw [hA]
    refine thn (k.turn.item g.Xg rfl rfl rfl k.calm i _ s _ H _ I (k.fpok hps I hnn) st go) fun r s1 ⟨u, hr, h1⟩ => ?_
    subst hr
    refine seg_bind_wrap ?_
    rw [hA]
    refine thn h1 fun _ s2 ⟨x, H2, I2, r2, y2, st2, n2⟩ => ?_
    have I2' := I2.pinned (k.fpok hps I2 n2) (k.turn.obj _ _ st2)
    refine seg_bind_wrap ?_
    rw [hA]
    refine noE (thn (hg.run _ s2 _ H2 x u _ I2' r2 (step x H2 y2)) fun _ s3 ⟨σ3, H3, I3, hw3, q3⟩ => ?_)
    refine seg_bind_wrap ?_
    rw [hA]
    refine noE (thn (ht.run _ s3 σ3 H3 _ I3 q3) fun b s4 ⟨H4, I4, q4⟩ => ?_)
    -- the turn's end
    have fin : ∀ {s' : Shared} {H' : Hp}, Inv g.Xg (g.pa :: ps ++ pinsAt g.fp s2.heap) σ3 H' s' → GInv g (i + 1) ps H' s' := fun {s' H'} I' => by
      have pin' : ∀ b ∈ g.fp, ∀ o, s2.heap.get? b = some o → s'.heap.get? b = some o ∧ H' b = none := fun b hb o e =>
        let z := I'.pin (b, o) (List.mem_append_right _ (List.mem_append_right _ (mem_pinsAt hb e)))
        ⟨z.1, z.2.1⟩
      have hl : g.σ0.length = σ3.length := by rw [← hw3, wipe_length]
      refine ⟨hps, (I'.unpinned (pins := g.pa :: ps)).weak hl (fun j v e => ?_), k.turn.keep _ _ _ st2 fun b hb o e => (pin' b hb o e).1, fun b hb => ?_⟩
      · rw [← hw3] at e
        exact (wipe_some e).1
      · obtain ⟨o, e, _⟩ := k.turn.obj _ _ st2 b hb
        exact (pin' b hb o e).2
    cases b with
    | false =>
      simp only [Bool.false_eq_true, if_false] at q4 ⊢
      exact seg_again rfl (ih (i + 1) (n + 1) s₀ s4 H4 ps (by omega) (by omega) (fin I4) h0 q4)
    | true =>
      simp only [if_true] at q4 ⊢
      have hy : ∀ v, yieldOut g.Xg.env v = yieldValue v := fun v => by simp only [yieldOut, hco, Bool.false_eq_true, if_false]
      simp only [hy]
      rw [Sem.bind_eq_wrap', Sem.bind_eq_wrap', Sem.wrap_wrap, Sem.wrap_wrap]
      refine seg_wrap ?_
      rw [hA]
      refine noE (thn (he.run _ s4 σ3 H4 _ I4 q4) fun z s5 ⟨yv, H5, I5, r5, q5⟩ => ?_)
      refine seg_at (seg_yield rfl rfl rfl ⟨i, yv, H5, ps, by omega, r5, fin I5, h0, q5, fun s'' ps' hz hd' hR' => ?_⟩)
      exact seg_again rfl (ih (i + 1) n s'' s'' H5 ps' (by omega) (by omega) ((fin I5).slept k hz hd') hd' hR')
theorem seg_ge0 {A : Around} {elt iter : Expr} {ifs : List Expr} {scope : Scope} {pos : Pos} {N n : Nat} {Rest : Nat → List (Addr × Obj) → Hp → Prop} {Dn : List (Addr × Obj) → Hp → Prop} {Yl : Nat → List (Addr × Obj) → V → Hp → Prop} {s₀ : Shared} (k : GeOk g tg)
    (hI : GInv g 0 ps H s)
    (loop : Seg (model g.Xg.prog g.Xg.w) A (GDn g Dn) (GYld g N Rest Yl) n s₀ (.compLoop (.GeneratorExp elt [⟨tg, iter, ifs, 0⟩] scope pos) 0 (.ref g.it) .none g.Xg.env)
        ((model g.Xg.prog g.Xg.w).den (.compLoop (.GeneratorExp elt [⟨tg, iter, ifs, 0⟩] scope pos) 0 (.ref g.it) .none g.Xg.env)) [] s) :
    Seg (model g.Xg.prog g.Xg.w) A (GDn g Dn) (GYld g N Rest Yl) n s₀ (.compStart (.GeneratorExp elt [⟨tg, iter, ifs, 0⟩] scope pos) 0 (.ref g.it) .none g.Xg.env)
        ((model g.Xg.prog g.Xg.w).den (.compStart (.GeneratorExp elt [⟨tg, iter, ifs, 0⟩] scope pos) 0 (.ref g.it) .none g.Xg.env)) [] s := by
  obtain ⟨hps, I, st, hnn⟩ := hI
  show Seg _ A _ _ _ s₀ _ ((compStart (.GeneratorExp elt [⟨tg, iter, ifs, 0⟩] scope pos) 0 (.ref g.it) .none g.Xg.env).onRaise (leaving g.Xg.env)) [] s
  unfold compStart
  rw [Sem.onRaise_eq_wrap]
  show Seg _ A _ _ _ s₀ _ ((ask >>= _).wrap _ _ _ _) [] s
  refine seg_bind_wrap (wpAny_askSetting ?_)
  split
  · exact seg_again rfl loop
  · first
      | exact seg_bind_wrap (wpAny_rule (seg_bind_wrap (wpAny_standAt (seg_bind_wrap (k.turn.self _ 0 s _ _ st (seg_again rfl loop))))))
      | (refine seg_bind_wrap (wpAny_rule ?_); show Seg _ A _ _ _ s₀ _ ((standAt iter.pos >>= _).wrap _ _ _ _) [] s; exact seg_bind_wrap (wpAny_standAt (seg_bind_wrap (k.turn.self _ 0 s _ _ st (seg_again rfl loop)))))
/-- ready to be woken, n times at most -/
def GAt (g : Ge) (N : Nat) (Rest : Nat → List (Addr × Obj) → Hp → Prop) (Dn : List (Addr × Obj) → Hp → Prop) (Yl : Nat → List (Addr × Obj) → V → Hp → Prop) (gi : Nat) (A : Around) (n i : Nat) (ps : List (Addr × Obj)) (H : Hp) (s : Shared) : Prop :=
  GInv g i ps H s ∧ ∃ gs, s.gens[gi]? = some gs ∧ ∀ s' ps', Slp g.S s s' → Held g.S ps' s' → Rest i ps' H → gs.Goes (model g.Xg.prog g.Xg.w) A (GDn g Dn) (GYld g N Rest Yl) n (.send .none) s'
theorem GInv.obj (h : GInv g i ps H s) : s.heap.get? g.pa.1 = some g.pa.2 := (h.inv.pin g.pa (List.mem_append_right _ List.mem_cons_self)).1
theorem Slp.gens {S : List Addr} {G : Array GenState} (hG : AllBare G) : Slp S s { s with gens := G } := ⟨rfl, hG, fun _ _ _ e => e⟩
theorem GAt.slept {N n : Nat} {Rest : Nat → List (Addr × Obj) → Hp → Prop} {Dn : List (Addr × Obj) → Hp → Prop} {Yl : Nat → List (Addr × Obj) → V → Hp → Prop} {gi : Nat} {A : Around} (k : GeOk g tg) (h : GAt g N Rest Dn Yl gi A n i ps H s) (z : Slp g.S s s') (hd : Held g.S ps' s') (hg : s'.gens[gi]? = s.gens[gi]?) : GAt g N Rest Dn Yl gi A n i ps' H s' := by
  obtain ⟨h1, gs, h2, h4⟩ := h
  exact ⟨h1.slept k z hd, gs, by rw [hg]; exact h2, fun s'' ps'' z' => h4 s'' ps'' ⟨z'.os.trans z.os, z'.bare, fun b o hb e => z'.keep b o hb (z.keep b o hb e)⟩⟩
theorem held_inj {S : List Addr} (h : Held S ps s) (h' : Held S ps' s) : ps = ps' := by
  obtain ⟨a, b⟩ := h
  obtain ⟨a', b'⟩ := h'
  refine List.ext_getElem? fun j => ?_
  have e : (ps.map (·.1))[j]? = (ps'.map (·.1))[j]? := by rw [a, a']
  rw [List.getElem?_map, List.getElem?_map] at e
  cases h1 : ps[j]? with
  | none =>
    cases h2 : ps'[j]? with
    | none => rfl
    | some q => rw [h1, h2] at e; cases e
  | some p =>
    cases h2 : ps'[j]? with
    | none => rw [h1, h2] at e; cases e
    | some q =>
      rw [h1, h2] at e
      have e1 : p.1 = q.1 := Option.some.inj e
      have e2 := (b p (List.mem_of_getElem? h1)).1
      have e3 := (b' q (List.mem_of_getElem? h2)).1
      rw [e1, e3] at e2
      have e4 : q.2 = p.2 := Option.some.inj e2
      rw [show p = q from Prod.ext e1 e4.symm]
theorem ge_next {A : Around} {N n : Nat} {Rest : Nat → List (Addr × Obj) → Hp → Prop} {Dn : List (Addr × Obj) → Hp → Prop} {Yl : Nat → List (Addr × Obj) → V → Hp → Prop} {gi : Nat} {Q : Option Value → Shared → Prop} {E : Value → Shared → Prop} (k : GeOk g tg) (hgen : ∀ h : Heap, h.get? g.pa.1 = some g.pa.2 → h.IsGen g.pa.1 gi)
    (hh : A.handled = none) (hroom : A.depth < recursionLimit) (h : GAt g N Rest Dn Yl gi A.in1 n i ps H s) (hR : Rest i ps H)
    (hY : ∀ j x v H' s', RelV x v → Yl j ps x H' → GInv g (j + 1) ps H' s' → (∀ s'' ps', Slp g.S s' s'' → Held g.S ps' s'' → s''.gens[gi]? = s'.gens[gi]? → Rest (j + 1) ps' H' → ∃ n', n = n' + 1 ∧ GAt g N Rest Dn Yl gi A.in1 n' (j + 1) ps' H' s'') → Q (some v) s')
    (hD : ∀ H' s', GEnd g ps H' s' → Dn ps H' → Q none s') : wpAny (model g.Xg.prog g.Xg.w) A (pyNext (.ref g.pa.1)) Q E s := by
  obtain ⟨hI, gs, hgs, hgo⟩ := h
  have hlt : gi < s.gens.size := by
    rcases Nat.lt_or_ge gi s.gens.size with h' | h'
    · exact h'
    · rw [Array.getElem?_eq_none h'] at hgs; cases hgs
  have hh0 : Held g.S ps (s.setGen gi .running) := ⟨hI.end.held.at_, hI.end.held.ok⟩
  refine wpAny_gsz (n := gi + 1) hlt ?_
  refine wpAny_pyNext_genexpQ (P := fun _ s₀ s₁ => ∃ H ps, GEnd g ps H s₁ ∧ Held g.S ps s₀ ∧ Dn ps H) (Y := GYld g N Rest Yl) hh hI.inv.nolimit hroom (hgen _ hI.obj) hgs (hgo _ ps (Slp.gens (allBare_setGen hI.inv.bare rfl)) hh0 hR) (fun v s₁ gs' hb hv => ?_) (fun s₁ hp h' hk => ?_)
  · obtain ⟨j, x, H', ps1, hn', rv, hI', hs0, hy, hkap⟩ := hv
    obtain rfl := held_inj hs0 hh0
    intro hsz
    have hsz' : gi < s₁.gens.size := by
      have := setGen_size s₁ gi gs'
      omega
    have slp : Slp g.S s₁ (s₁.setGen gi gs') := Slp.gens (allBare_setGen hI'.inv.bare hb)
    have hI2 : GInv g (j + 1) ps1 H' (s₁.setGen gi gs') := hI'.slept k slp ⟨hI'.end.held.at_, hI'.end.held.ok⟩
    refine hY j x v H' _ rv hy hI2 fun s'' ps' hz hd hg hR => ?_
    have hz1 : Slp g.S s₁ s'' := ⟨hz.os, hz.bare, fun b o hb e => hz.keep b o hb e⟩
    cases n with
    | zero => exact (hkap s'' ps' hz1 hd hR).elim
    | succ n =>
      refine ⟨n, rfl, hI2.slept k hz hd, gs', by rw [hg]; simp [Shared.setGen, hsz'], fun s3 ps3 hz3 hd3 hR3 => ?_⟩
      exact hkap s3 ps3 ⟨hz3.os.trans hz1.os, hz3.bare, fun b o hb e => hz3.keep b o hb (hz1.keep b o hb e)⟩ hd3 hR3
  · obtain ⟨H', ps1, ⟨hps, I, hnn⟩, hs0, hd⟩ := hp
    obtain rfl := held_inj hs0 hh0
    intro _
    exact hD H' _ ⟨hps, (inv_gens I (allBare_setGen I.bare rfl)).kept (t' := s₁.toks) hk, hnn⟩ hd
end
end DL
set_option Elab.async false
set_option linter.all false
set_option maxRecDepth 100000
set_option maxHeartbeats 1000000
namespace DL
open PySem L2 PySem.Spec PyProof.Rows GenW
theorem gen_made {M : Model} {A : Around} {E : Value → Shared → Prop} {s : Shared} {env : Env} {elt target iter : Expr} {ifs : List Expr} {scope : Scope} {cl : List (Str × Addr)} {pos : Pos} {Q : Value → Shared → Prop}
    (hco : scope.isCoroutine = false) (hclos : closureFor scope env = pure cl) (h0 : scope.names.lookup (".0" : Str) = some NameKind.local) (hkind : scope.kind = .function)
    (hroom : A.depth < recursionLimit)
    (h : wpAny M A (eval iter env) (fun xv s₁ => wpAny M A (pyIter xv) (fun it s₂ => s₂.heap.NoLimit ∧
      wpAny M A (genexprCode env pos (env.qual ++ "<genexpr>") scope) (fun code s₃ => wpAny M A (builtinsFor env.globals env.builtins) (fun bi s₄ =>
        ∀ h' tk1 tk2 tk3, GenAt scope.names cl s₄.heap.objs.size s₄.heap h' →
          Q (.ref h'.objs.size) { s₄ with
            gens := s₄.gens.push (.fresh (.compStart (.GeneratorExp elt [⟨target, iter, ifs, 0⟩] scope pos) 0 it .none (genEnv scope (cellsFrom (s₄.heap.objs.size + 1) scope.names cl) s₄.heap.objs.size code bi env))),
            toks := tk3,
            heap := h'.push { cls := .type "generator", data := .fields #[.int s₄.gens.size 0, .str "<genexpr>" tk1, .str (env.qual ++ "<genexpr>") tk2] } }) E s₃) E s₂) E s₁) E s)
    (hs : ∀ x, genFold iter env x = pure x) :
    wpAny M A (eval (.GeneratorExp elt [⟨target, iter, ifs, 0⟩] scope pos) env) Q E s := by
  rw [eval_GeneratorExp1 _ _ _ _ _ _ _ hco, hclos]
  refine wpAny_bind (wpAny_mono h (fun xv s₁ h₁ => ?_) fun _ _ e => e)
  refine wpAny_bind (wpAny_standAt ?_)
  refine wpAny_bind (wpAny_of_eq (hs xv) ?_)
  refine wpAny_bind (wpAny_holding (wpAny_mono h₁ (fun it s₂ h₂ => ?_) fun _ _ e => e))
  refine wpAny_bind (wpAny_enterFrame h₂.1 hroom ?_)
  refine wpAny_bind (wpAny_pure ?_)
  refine wpAny_bind (wpAny_mono h₂.2 (fun code s₃ h₃ => ?_) fun _ _ e => e)
  refine wpAny_bind (wpAny_mono h₃ (fun bi s₄ h₄ => ?_) fun _ _ e => e)
  refine wpAny_bind (gen_env h0 hkind fun h' tk ga => ?_)
  simp only [newGenerator, newFields]
  refine wpAny_bind (wpAny_newGen (wpAny_bind (wpAny_mkText (wpAny_bind (wpAny_mkText (wpAny_newObj_type ?_ (by size_fits)))))))
  exact h₄ h' _ _ _ ga
/-- a generator has been made: s4 the state ahead of its frame -/
structure GNew (X : Cx) (pins : List (Addr × Obj)) (σ : L2.St) (elt tg iter : Expr) (ifs : List Expr) (scope : Scope) (gpos : Pos) (H4 : Hp) (J : It) (a : Addr) (s5 : Shared) (code : Value) : Prop where
  ex : ∃ (s4 : Shared) (it : Addr) (fp : List Addr) (tn : Nat → Heap → Prop) (gs : GenState) (tk : Nat) (h5 : Heap) (ob : Obj),
    Inv X pins σ H4 s4 ∧ Turn X.prog X.w X.K tg J fp it tn ∧ tn 0 s4.heap ∧ (∀ b ∈ fp, FpOk X pins H4 b ∧ b < s4.heap.objs.size) ∧
    gs = .fresh (.compStart (.GeneratorExp elt [⟨tg, iter, ifs, 0⟩] scope gpos) 0 (.ref it) .none (genEnv scope (genCl X scope s4.heap.objs.size) s4.heap.objs.size code builtinsNs X.env)) ∧
    s5 = { s4 with gens := s4.gens.push gs, toks := tk, heap := h5 } ∧ GenAt scope.names (cloFrom X.env.cells scope.names []) s4.heap.objs.size s4.heap h5 ∧ s4.heap.objs.size < a ∧ h5.get? a = some ob ∧
    (∀ h : Heap, h.get? a = some ob → h.IsGen a s4.gens.size) ∧ ∀ v, ob.data ≠ .cell v
section
variable {X : Cx} {pins : List (Addr × Obj)} {σ : L2.St} {H : Hp} {s : Shared}
theorem ge_make {G : Gm} {c P : Addr} {elt tg iter : Expr} {ifs : List Expr} {scope : Scope} {gpos : Pos} {own : List (Str × Nat)} {wi : TI} {Q : Value → Shared → Prop} {k : Nat}
    (I : Inv X pins σ H s) (hr : Room k X.A) (M : Mkr X G c P) (hkd : G.kd gpos.line gpos.col = false)
    (hi : PI X tg iter wi) (ok : BlkOk X.N X.env.scope scope own) (gk : GenOk scope) (hs : ∀ v, genFold iter X.env v = pure v)
    {Rr : It → Hp → Prop} (h : wi σ H Rr) (hRr : ∀ J H1, Rr J H1 → CT G.kd G.tabs G.subs H1 ∧ ∀ H2 c' P2, LamX.ExtN H1 H2 → CT G.kd (G.sub (c', P2, X.env.qual ++ "<genexpr>.")).tabs (G.sub (c', P2, X.env.qual ++ "<genexpr>.")).subs H2 → ∀ a s5, GNew X pins σ elt tg iter ifs scope gpos H2 J a s5 (.ref c') → Q (.ref a) s5) :
    wpAny (model X.prog X.w) X.A (eval (.GeneratorExp elt [⟨tg, iter, ifs, 0⟩] scope gpos) X.env) Q X.xe s := by
  have hfree : ∀ y ∈ scope.names, y.2 = .free → ∃ c, X.env.cells.lookup y.1 = some c := fun y hy e => by
    rcases ok.free y hy e with k | k
    · exact I.ok.has _ (.inl k)
    · exact I.ok.has _ (.inr k)
  refine gen_made gk.co (closure_ok hfree) gk.dot ok.kind hr.depth (thn (hi.run pins s σ H _ I h) fun xv s1 hx => thn hx fun itv s2 h2 => ?_) hs
  obtain ⟨it, fp, tn, J, H2, e, I2, Tu, st2, f2, hRj⟩ := h2
  obtain ⟨hT, q⟩ := hRr J H2 hRj
  subst e
  refine ⟨I2.nolimit, ?_⟩
  obtain ⟨C, ps, hC, hP, hP', ht, hbt, hgP, h3⟩ := M.tab I2 hT
  have cd : PySem.W.CodeHd s2.heap c P := M.hd I2 hT
  have sz : ∀ b ∈ fp, b < s2.heap.objs.size := fun b hb => by
    obtain ⟨o, e, _⟩ := Tu.obj _ _ st2 b hb
    exact Heap.lt_size e
  -- behind the code
  have cont : ∀ (c' P2 : Addr) (s4 : Shared) (H4 : Hp), Inv X pins σ H4 s4 → LamX.ExtN H2 H4 → CT G.kd (G.sub (c', P2, X.env.qual ++ "<genexpr>.")).tabs (G.sub (c', P2, X.env.qual ++ "<genexpr>.")).subs H4 → s4.gens = s2.gens → (∀ b o, b ≠ P → s2.heap.get? b = some o → s4.heap.get? b = some o) → (∀ b ∈ fp, H4 b = none) → s2.heap.objs.size ≤ s4.heap.objs.size →
      wpAny (model X.prog X.w) X.A (builtinsFor X.env.globals X.env.builtins) (fun bi s₄ =>
        ∀ h' tk1 tk2 tk3, GenAt scope.names (cloFrom X.env.cells scope.names []) s₄.heap.objs.size s₄.heap h' →
          Q (.ref h'.objs.size) { s₄ with
            gens := s₄.gens.push (.fresh (.compStart (.GeneratorExp elt [⟨tg, iter, ifs, 0⟩] scope gpos) 0 (.ref it) .none (genEnv scope (genCl X scope s₄.heap.objs.size) s₄.heap.objs.size (.ref c') bi X.env))),
            toks := tk3,
            heap := h'.push { cls := .type "generator", data := .fields #[.int s₄.gens.size 0, .str "<genexpr>" tk1, .str (X.env.qual ++ "<genexpr>") tk2] } }) X.xe s4 := by
    intro c' P2 s4 H4 I4 e4 t4 g4 k4 n4 z4
    obtain ⟨P0, bm, ob, e1, e2, e3, e4', e5, e6, e7, e8⟩ := M.bm0
    refine wpAny_builtinsFor (m := X.mg) (by rw [I4.ok.glob]; exact I4.mod.glob.keeps I4.bk) e1 e2 (I4.bk _ _ e5) e6 e7 e8 ?_
    intro h' tk1 tk2 tk3 ga
    refine q H4 c' P2 e4 t4 h'.objs.size _ ⟨⟨s4, it, fp, tn, _, _, _, { cls := .type "generator", data := .fields #[.int s4.gens.size 0, .str "<genexpr>" tk1, .str (X.env.qual ++ "<genexpr>") tk2] }, I4, Tu, ?_, fun b hb => ?_, rfl, rfl, ga.push (fun b o e => Heap.get?_push_of_some _ e) (by rw [Heap.size_push]; exact Nat.le_succ _), ga.sz, Heap.get?_push_size _ rfl, fun h hh => ⟨_, _, _, hh, rfl, rfl, rfl⟩, fun v e => by cases e⟩⟩
    · refine Tu.keep _ _ _ st2 fun b hb o e => k4 b o (fun z => ?_) e
      have := (f2 b hb).1
      rw [z, hP] at this
      cases this
    · exact ⟨⟨n4 b hb, (f2 b hb).2⟩, Nat.lt_of_lt_of_le (sz b hb) z4⟩
  cases hc : codeAmong gpos ps.toList with
  | none =>
    refine wpAny_genexprCodeX M.code (cd.code hP' ht) (cd.tab hP') hc fun c' h' tk hx hge hlt hco hrec htab hnew => ?_
    obtain ⟨c2, oc, vs, t, e2, hoc, hd, hv⟩ := hrec
    cases e2
    obtain ⟨P2, y1, y2, y3⟩ := hnew
    have hcd2 := PySem.W.CodeHd.of y2 y3
    have hszz : s2.heap.objs.size ≤ h'.objs.size := Nat.le_trans hge (Nat.le_of_lt hlt)
    have nC : H2 c' = none := I2.hok.fresh hge
    have nT : H2 P2 = none := I2.hok.fresh y1
    have cP2 : c' ≠ P2 := by obtain ⟨_, _, _, _, _, _, _, _, _, _, _, _, _, _, _, _, _, _, z⟩ := id hcd2; exact z
    have ekd : nam_ X.env.qual (G.kd gpos.line gpos.col) = X.env.qual ++ "<genexpr>" := by rw [hkd]; rfl
    have ekp : pre_ X.env.qual (G.kd gpos.line gpos.col) = X.env.qual ++ "<genexpr>." := by rw [hkd]; rfl
    have hC1 := ct_code (X := X) (G := G) (pos := gpos) hC M.mem hP ht nC nT cP2 h3
    rw [ekd, ekp] at hC1
    have hE := ct_ext (ps := ps) (more := #[rawInt gpos.line, rawInt gpos.col, .ref c']) (c' := c') (P2 := P2) (q := X.env.qual ++ "<genexpr>") hP nC nT
    have I3 := inv_code (t' := tk) (more := #[rawInt gpos.line, rawInt gpos.col, .ref c']) (q := X.env.qual ++ "<genexpr>") (h' := h') I2 hP hx htab.2 hge ⟨oc, vs, t, hoc, hd, hv⟩ hcd2 y1 y3.2
    refine cont c' P2 _ _ I3 hE (ct_sub hC1 List.mem_cons_self fun x hx => ?_) rfl hx (fun b hb => ?_) hszz
    · obtain ⟨n, e⟩ := hT.2 x hx
      exact ⟨n, hE _ _ e codeN_ne⟩
    · have n1 : b ≠ c' := fun z => Nat.lt_irrefl _ (Nat.lt_of_lt_of_le (sz b hb) (by rw [z]; exact hge))
      have n3 : b ≠ P2 := fun z => Nat.lt_irrefl _ (Nat.lt_of_lt_of_le (sz b hb) (by rw [z]; exact y1))
      have n2 : b ≠ P := fun z => by
        have := (f2 b hb).1
        rw [z, hP] at this
        cases this
      rw [upd_ne n3, upd_ne n1, upd_ne n2]
      exact (f2 b hb).1
  | some cv =>
    obtain ⟨c', P2, e, hm⟩ := h3 gpos cv hc
    subst e
    rw [hkd] at hm
    refine wpAny_genexprCode_hit M.code (cd.code hP' ht) hc ?_
    exact cont c' P2 s2 H2 I2 (LamX.ExtN.refl H2) (ct_sub hC hm hT.2) rfl (fun b o _ e => e) (fun b hb => (f2 b hb).1) (Nat.le_refl _)
/-- the around of the element: over the consumer's loop -/
abbrev genA (X : Cx) (elt tg iter : Expr) (ifs : List Expr) (scope : Scope) (gpos : Pos) (it : Addr) (env : Env) : Around := X.A.in1.in1.over (.compLoop (.GeneratorExp elt [⟨tg, iter, ifs, 0⟩] scope gpos) 0 (.ref it) .none env) []
theorem genA_room {k : Nat} {elt tg iter : Expr} {ifs : List Expr} {scope : Scope} {gpos : Pos} {it : Addr} {env : Env} (hr : Room (k + 1) X.A) : Room k (genA X elt tg iter ifs scope gpos it env) :=
  ⟨hr.hd, by have := hr.dp; show X.A.depth + 1 + 3 * k + 5 < _; omega, by have := hr.un; show X.A.units + 5 + 16 * k + 200 < _; omega⟩
theorem genA_frames {elt tg iter : Expr} {ifs : List Expr} {scope : Scope} {gpos : Pos} {it : Addr} {env : Env} {st : List Env} (h : X.A.frames = some st) : (genA X elt tg iter ifs scope gpos it env).frames = some (env :: st) := by
  show pushEnvs [env] X.A.frames = _
  rw [h]
  rfl
theorem ge_ready {code : Value} {k N : Nat} {elt tg iter : Expr} {ifs : List Expr} {scope : Scope} {gpos : Pos} {own : List (Str × Nat)} {H4 : Hp} {J : It} {a : Addr} {s5 s6 : Shared} {gd : TG} {tt : TT} {te : TE} {Rest : Nat → List (Addr × Obj) → Hp → Prop} {Dn : List (Addr × Obj) → Hp → Prop} {Yl : Nat → List (Addr × Obj) → V → Hp → Prop}
    (hr : Room (k + 1) X.A) (hN : X.N.Nodup) (ok : BlkOk X.N X.env.scope scope own) (gk : GenOk scope) (hnew : GNew X pins σ elt tg iter ifs scope gpos H4 J a s5 code)
    (hg : ∀ (A : Around) (s : Shared) (H : Hp) (C : Addr) (cl : List (Str × Addr)) (fp : List Addr), Room k A → PG (genCx X A s H (genEnv scope cl C code builtinsNs X.env) fp) tg gd)
    (ht : ∀ (A : Around) (s : Shared) (H : Hp) (C : Addr) (cl : List (Str × Addr)) (fp : List Addr), Room k A → PTs (genCx X A s H (genEnv scope cl C code builtinsNs X.env) fp) ifs tt)
    (he : ∀ (A : Around) (s : Shared) (H : Hp) (C : Addr) (cl : List (Str × Addr)) (fp : List Addr), Room k A → PE (genCx X A s H (genEnv scope cl C code builtinsNs X.env) fp) elt te)
    {S : List Addr} {ps : List (Addr × Obj)} (turn : ∀ i ps H, ps.map (·.1) = S → Rest i ps H → (J.stop i H ∧ Dn ps H) ∨ (i < N ∧ J.go i H ∧ ∀ x H', J.yld i H x H' → gd x (wipe σ (own.map (·.2))) H' fun σ2 H2 => wipe σ2 (own.map (·.2)) = wipe σ (own.map (·.2)) ∧ tt σ2 H2 fun b H3 => if b = true then te σ2 H3 fun y H4 => Yl i ps y H4 else Rest (i + 1) ps H3))
    (hS : ∀ b ∈ S, s5.heap.objs.size ≤ b) (hps : Held S ps s6) (kp : ∀ b o, s5.heap.get? b = some o → s6.heap.get? b = some o) (e6 : ∃ h6 t6, s6 = { s5 with heap := h6, toks := t6 }) :
    ∃ g : Ge, g.pa.1 = a ∧ g.S = S ∧ g.Xg.prog = X.prog ∧ g.Xg.w = X.w ∧ GeOk g tg ∧ (∃ gi, (∀ h : Heap, h.get? g.pa.1 = some g.pa.2 → h.IsGen g.pa.1 gi) ∧ GAt g N Rest Dn Yl gi X.A.in1.in1 N 0 ps H4 s6) ∧ ∀ ps H' s', GEnd g ps H' s' → Inv X pins σ H' s' := by
  obtain ⟨s4, it, fp, tn, gs, tk, h5, ob, I4, Tu, st4, f4, rfl, rfl, ga, ha, hob, hgen, hnc⟩ := hnew.ex
  have k5 := ga.kp
  obtain ⟨h6, t6, rfl⟩ := e6
  generalize hgv : genEnv scope (genCl X scope s4.heap.objs.size) s4.heap.objs.size code builtinsNs X.env = gv
  have hC : gv.locals = s4.heap.objs.size := by rw [← hgv]; rfl
  have hG : AllBare (s4.gens.push (.fresh (.compStart (.GeneratorExp elt [⟨tg, iter, ifs, 0⟩] scope gpos) 0 (.ref it) .none gv))) := I4.bare.push rfl
  have I5 := gen_start (A := genA X elt tg iter ifs scope gpos it gv) (code := code) (tk := tk) I4 ok hN f4 hr.hd (by rw [hgv]; exact genA_frames I4.ok.frames) ga hG
  rw [hgv] at I5
  have I6 : Inv (genCx X (genA X elt tg iter ifs scope gpos it gv) s4 H4 gv fp) [] (wipe σ (own.map (·.2))) H4 { s4 with gens := s4.gens.push (.fresh (.compStart (.GeneratorExp elt [⟨tg, iter, ifs, 0⟩] scope gpos) 0 (.ref it) .none gv)), toks := t6, heap := h6 } := I5.kept (t' := t6) (h' := h6) kp
  have hz5 : s4.heap.objs.size < h5.objs.size := Nat.lt_trans ha (Heap.lt_size hob)
  have young : ∀ b, s4.heap.objs.size ≤ b → H4 b = none ∧ b ∉ frs X.stack := fun b hb => ⟨I4.hok.fresh hb, fun z => by
    rcases List.mem_cons.mp (I4.stkSub b z) with z | z
    · exact absurd (Nat.lt_of_lt_of_le I4.lt hb) (by rw [z]; exact Nat.lt_irrefl _)
    · exact I4.nofs hb z⟩
  have bigS : ∀ b ∈ S, s4.heap.objs.size ≤ b ∧ a < b := fun b hb => by
    have h1 : h5.objs.size ≤ b := hS b hb
    exact ⟨Nat.le_trans (Nat.le_of_lt hz5) h1, Nat.lt_of_lt_of_le (Heap.lt_size hob) h1⟩
  have I7 : Inv (genCx X (genA X elt tg iter ifs scope gpos it gv) s4 H4 gv fp) ((a, ob) :: ps) (wipe σ (own.map (·.2))) H4 { s4 with gens := s4.gens.push (.fresh (.compStart (.GeneratorExp elt [⟨tg, iter, ifs, 0⟩] scope gpos) 0 (.ref it) .none gv)), toks := t6, heap := h6 } := I6.pins_of fun p hp => by
    rcases List.mem_cons.mp hp with z | z
    · rw [z]
      obtain ⟨y1, y2⟩ := young a (Nat.le_of_lt ha)
      exact ⟨kp _ _ hob, y1, by show a ≠ gv.locals; rw [hC]; exact Nat.ne_of_gt ha, y2, hnc⟩
    · obtain ⟨q2, q3⟩ := hps.ok p z
      have q1 : p.1 ∈ S := by rw [← hps.at_]; exact List.mem_map.mpr ⟨p, z, rfl⟩
      obtain ⟨y1, y2⟩ := young p.1 (bigS _ q1).1
      exact ⟨q2, y1, by show p.1 ≠ gv.locals; rw [hC]; exact Nat.ne_of_gt (Nat.lt_trans ha (bigS _ q1).2), y2, q3⟩
  have nfp : ∀ b ∈ fp, H4 b = none := fun b hb => (f4 b hb).1.1
  have st6 : tn 0 h6 := Tu.keep _ _ _ st4 fun b _ o e => kp b o (k5 b o e)
  let g : Ge := { Xg := genCx X (genA X elt tg iter ifs scope gpos it gv) s4 H4 gv fp, pa := (a, ob), S := S, σ0 := wipe σ (own.map (·.2)), fp := fp, it := it, tn := tn, J := J, vs := own.map (·.2) }
  have gok : GeOk g tg := by
    refine ⟨rfl, rfl, rfl, rfl, Tu, fun b hb => ⟨(bigS b hb).1, ?_, Nat.ne_of_gt (bigS b hb).2, fun z => ?_, fun x c e z => ?_⟩, fun z => ?_⟩
    · show b ≠ gv.locals
      rw [hC]
      exact Nat.ne_of_gt (Nat.lt_trans ha (bigS b hb).2)
    · exact absurd (Nat.lt_of_lt_of_le (f4 b z).2 (bigS b hb).1) (Nat.lt_irrefl _)
    · obtain ⟨v, zc⟩ := I5.cell x c e
      have h1 : c < h5.objs.size := zc.lt
      have h2 : h5.objs.size ≤ b := hS b hb
      rw [z] at h1
      exact absurd (Nat.lt_of_lt_of_le h1 h2) (Nat.lt_irrefl _)
    · exact absurd (Nat.lt_trans (f4 a z).2 ha) (Nat.lt_irrefl _)
  have hI : GInv g 0 ps H4 { s4 with gens := s4.gens.push (.fresh (.compStart (.GeneratorExp elt [⟨tg, iter, ifs, 0⟩] scope gpos) 0 (.ref it) .none gv)), toks := t6, heap := h6 } := ⟨hps.at_, I7, st6, nfp⟩
  have room := genA_room (elt := elt) (tg := tg) (iter := iter) (ifs := ifs) (scope := scope) (gpos := gpos) (it := it) (env := gv) hr
  refine ⟨g, rfl, rfl, rfl, rfl, gok, ⟨s4.gens.size, hgen, hI, _, Array.getElem?_push_size .., fun s' ps' hz hd hR => ⟨rfl, ?_⟩⟩, fun ps H' s' ⟨_, I', hn'⟩ => ?_⟩
  · have hI' := hI.slept gok hz hd
    refine seg_ge0 gok hI' (seg_ge gok rfl ?_ ?_ ?_ ?_ ?_ turn N 0 N s' s' H4 ps' (Nat.sub_zero _) (Nat.le_refl _) hI' hd hR)
    · show gv.scope.isCoroutine = false
      rw [← hgv]; exact gk.co
    · have := hg (genA X elt tg iter ifs scope gpos it gv) s4 H4 s4.heap.objs.size (genCl X scope s4.heap.objs.size) fp room
      rw [hgv] at this; exact this
    · have := ht (genA X elt tg iter ifs scope gpos it gv) s4 H4 s4.heap.objs.size (genCl X scope s4.heap.objs.size) fp room
      rw [hgv] at this; exact this
    · have := he (genA X elt tg iter ifs scope gpos it gv) s4 H4 s4.heap.objs.size (genCl X scope s4.heap.objs.size) fp room
      rw [hgv] at this; exact this
    · exact wipe_wipe _
  · exact I4.call' (ch := fp) I'.os I'.base I'.hok I'.bare fun b hb => ⟨(f4 b hb).1.2.2.2.1, (f4 b hb).1.2.1, (f4 b hb).1.2.2.2.2.1, (f4 b hb).1.2.2.2.2.2⟩
def YlB (Qx : Hp → Prop) (Rest : Nat → List (Addr × Obj) → Hp → Prop) (x : Bool) (i : Nat) (ps : List (Addr × Obj)) (y : V) (H : Hp) : Prop := ∃ c, y = .bl c ∧ if c = x then Qx H else Rest (i + 1) ps H
theorem any_loop {g : Ge} {tg : Expr} {N gi : Nat} {A : Around} {Rest : Nat → List (Addr × Obj) → Hp → Prop} {Qx Dn : Hp → Prop} {R : Result → Shared → Prop} (k : GeOk g tg) (hS : g.S = []) (hgen : ∀ h : Heap, h.get? g.pa.1 = some g.pa.2 → h.IsGen g.pa.1 gi) (hh : A.handled = none) (hroom : A.depth < recursionLimit)
    (hx : ∀ ps H' s', GEnd g ps H' s' → Qx H' → R (.ok (.ret (.bool true))) s') (hd : ∀ ps H' s', GEnd g ps H' s' → Dn H' → R (.ok (.ret (.bool false))) s') : ∀ (n i : Nat) (ps : List (Addr × Obj)) (H : Hp) (s : Shared),
    GAt g N Rest (fun _ => Dn) (YlB Qx Rest true) gi A.in1.in1 n i ps H s → Rest i ps H → codeAny (model g.Xg.prog g.Xg.w) A (.builtin "any.loop" ⟨[.ref g.pa.1], []⟩) R s := by
  intro n
  induction n using Nat.strongRecOn with
  | ind n ih =>
    intro i ps H s hG hR
    refine codeAny_builtin F.entry_any_loop ?_
    rw [Around.under_plainId F.plain_any_loop _]
    show wpAny _ A.in1 (pyNext (.ref g.pa.1) >>= _) _ _ s
    refine wpAny_bind (ge_next (A := A.in1) k hgen hh hroom hG hR (fun j x v H' s' rv hy hI next => ?_) fun H' s' hE hD => ?_)
    · obtain ⟨c, rfl, hc⟩ := hy
      obtain rfl : v = Value.bool c := rv
      refine wpAny_bind (wpAny_holding (wpAny_truthy_bool ?_))
      refine wpAny_bind (wpAny_letGo ?_)
      cases c with
      | false =>
        simp only [Bool.false_eq_true, if_false] at hc ⊢
        obtain ⟨n', hn', hG'⟩ := next s' ps ⟨rfl, hI.inv.bare, fun _ _ _ e => e⟩ hI.end.held rfl hc
        exact wpAny_pure ⟨plainId_quiet F.plain_any_loop _, ih n' (by omega) (j + 1) ps H' s' hG' hc⟩
      | true =>
        simp only [if_true] at hc ⊢
        exact wpAny_bind (wpAny_rule (wpAny_pure (hx ps H' s' hI.end hc)))
    · exact wpAny_bind (wpAny_rule (wpAny_pure (hd ps H' s' hE hD)))
theorem all_loop {g : Ge} {tg : Expr} {N gi : Nat} {A : Around} {Rest : Nat → List (Addr × Obj) → Hp → Prop} {Qx Dn : Hp → Prop} {R : Result → Shared → Prop} (k : GeOk g tg) (hS : g.S = []) (hgen : ∀ h : Heap, h.get? g.pa.1 = some g.pa.2 → h.IsGen g.pa.1 gi) (hh : A.handled = none) (hroom : A.depth < recursionLimit)
    (hx : ∀ ps H' s', GEnd g ps H' s' → Qx H' → R (.ok (.ret (.bool false))) s') (hd : ∀ ps H' s', GEnd g ps H' s' → Dn H' → R (.ok (.ret (.bool true))) s') : ∀ (n i : Nat) (ps : List (Addr × Obj)) (H : Hp) (s : Shared),
    GAt g N Rest (fun _ => Dn) (YlB Qx Rest false) gi A.in1.in1 n i ps H s → Rest i ps H → codeAny (model g.Xg.prog g.Xg.w) A (.builtin "all.loop" ⟨[.ref g.pa.1], []⟩) R s := by
  intro n
  induction n using Nat.strongRecOn with
  | ind n ih =>
    intro i ps H s hG hR
    refine codeAny_builtin F.entry_all_loop ?_
    rw [Around.under_plainId F.plain_all_loop _]
    show wpAny _ A.in1 (pyNext (.ref g.pa.1) >>= _) _ _ s
    refine wpAny_bind (ge_next (A := A.in1) k hgen hh hroom hG hR (fun j x v H' s' rv hy hI next => ?_) fun H' s' hE hD => ?_)
    · obtain ⟨c, rfl, hc⟩ := hy
      obtain rfl : v = Value.bool c := rv
      refine wpAny_bind (wpAny_holding (wpAny_truthy_bool ?_))
      refine wpAny_bind (wpAny_letGo ?_)
      cases c with
      | true =>
        simp only [Bool.true_eq_false, if_false, if_true] at hc ⊢
        obtain ⟨n', hn', hG'⟩ := next s' ps ⟨rfl, hI.inv.bare, fun _ _ _ e => e⟩ hI.end.held rfl hc
        exact wpAny_pure ⟨plainId_quiet F.plain_all_loop _, ih n' (by omega) (j + 1) ps H' s' hG' hc⟩
      | false =>
        simp only [if_true, Bool.false_eq_true, if_false] at hc ⊢
        exact wpAny_bind (wpAny_rule (wpAny_pure (hx ps H' s' hI.end hc)))
    · exact wpAny_bind (wpAny_rule (wpAny_pure (hd ps H' s' hE hD)))
/-- any(elt for tg in iter if ..), all(..): x the value that ends it -/
abbrev Fr_ := Addr × Addr × Str
def tAnyE (G : Gm) (q : Str) (x : Bool) (wi : TI) (gd : Fr_ → TG) (tt : Fr_ → TT) (te : Fr_ → TE) (vs : List Nat) : TE := fun σ H Q => wi σ H fun J H1 => CT G.kd G.tabs G.subs H1 ∧ ∀ H2 c' P2, LamX.ExtN H1 H2 → CT G.kd (G.sub (c', P2, q)).tabs (G.sub (c', P2, q)).subs H2 → ∃ (N : Nat) (Rest : Nat → Hp → Prop), Rest 0 H2 ∧
  ∀ i H, Rest i H → (J.stop i H ∧ Q (.bl (!x)) H) ∨ (i < N ∧ J.go i H ∧ ∀ v H', J.yld i H v H' → gd (c', P2, q) v (wipe σ vs) H' fun σ2 H3 => wipe σ2 vs = wipe σ vs ∧ tt (c', P2, q) σ2 H3 fun b H4 => if b = true then te (c', P2, q) σ2 H4 fun y H5 => ∃ c, y = .bl c ∧ (if c = x then Q (.bl x) H5 else Rest (i + 1) H5) else Rest (i + 1) H4)
theorem pe_anyE {G : Gm} {c P : Addr} {elt tg iter : Expr} {ifs : List Expr} {scope : Scope} {gpos p pos : Pos} {own : List (Str × Nat)} {wi : TI} {gd : Fr_ → TG} {tt : Fr_ → TT} {te : Fr_ → TE} {k : Nat}
    (hr : Room (k + 1) X.A) (hgl : Gl X "any") (hm : X.mg "any" = none) (M : Mkr X G c P) (hkd : G.kd gpos.line gpos.col = false) (hN : X.N.Nodup)
    (hi : PI X tg iter wi) (ok : BlkOk X.N X.env.scope scope own) (gk : GenOk scope)
    (hg : ∀ (c' P2 : Addr) (A : Around) (s : Shared) (H : Hp) (C : Addr) (cl : List (Str × Addr)) (fp : List Addr), Room k A → PG (genCx X A s H (genEnv scope cl C (.ref c') builtinsNs X.env) fp) tg (gd (c', P2, X.env.qual ++ "<genexpr>.")))
    (ht : ∀ (c' P2 : Addr) (A : Around) (s : Shared) (H : Hp) (C : Addr) (cl : List (Str × Addr)) (fp : List Addr), Room k A → PTs (genCx X A s H (genEnv scope cl C (.ref c') builtinsNs X.env) fp) ifs (tt (c', P2, X.env.qual ++ "<genexpr>.")))
    (he : ∀ (c' P2 : Addr) (A : Around) (s : Shared) (H : Hp) (C : Addr) (cl : List (Str × Addr)) (fp : List Addr), Room k A → PE (genCx X A s H (genEnv scope cl C (.ref c') builtinsNs X.env) fp) elt (te (c', P2, X.env.qual ++ "<genexpr>.")))
    (hs : ∀ v, genFold iter X.env v = pure v)
    (hse : starEach [.GeneratorExp elt [⟨tg, iter, ifs, 0⟩] scope gpos] X.env = (false, eval (.GeneratorExp elt [⟨tg, iter, ifs, 0⟩] scope gpos) X.env) :: starEach [] X.env := by rfl) :
    PE X (.Call (.Name "any" p) [.GeneratorExp elt [⟨tg, iter, ifs, 0⟩] scope gpos] [] pos) (tAnyE G (X.env.qual ++ "<genexpr>.") true wi gd tt te (own.map (·.2))) := by
  refine ⟨fun pins s σ H Q I h => ?_⟩
  refine wpAny_Call_Name_kw (ld_blt I hgl hm boot_any ?_)
  refine PyProof.Rows.callWith_builtin1 ?_ hse (by rfl)
  rw [hse]
  show wpAny _ _ (spliced ((false, eval (.GeneratorExp elt [⟨tg, iter, ifs, 0⟩] scope gpos) X.env) :: backTo pos (starEach [] X.env))) _ _ s
  refine Calls.spliced_cons (ge_make I hr M hkd hi ok gk hs h fun J H1 h1 => ⟨h1.1, fun H2 c' P2 x2 t2 a s5 hnew => ?_⟩)
  refine Calls.spliced_nil ?_
  obtain ⟨N, Rest, hR0, turn⟩ := h1.2 H2 c' P2 x2 t2
  obtain ⟨g, ea, eS, ep, ew, gok, ⟨gi, hgen, hG⟩, back⟩ := ge_ready (N := N) (Rest := fun i _ H => Rest i H) (Dn := fun _ H => Q (.bl false) H) (Yl := YlB (Q (.bl true)) (fun i _ H => Rest i H) true) (S := []) (ps := []) hr hN ok gk hnew (hg c' P2) (ht c' P2) (he c' P2)
    (fun i ps H _ hR => turn i H hR) (fun b hb => by cases hb) ⟨rfl, fun p hp => by cases hp⟩ (fun _ _ e => e) ⟨s5.heap, s5.toks, rfl⟩
  refine call_function_tree F.kind_any F.plain_any F.entry_any (F.args_any1 _) ?_
  unfold Builtin.«any»
  refine wpAny_bind (m := oneArg "any" _) (wpAny_pure ?_)
  rw [← ea, ← ep, ← ew]
  refine wpAny_bind (wpAny_pyIter_gen (hgen _ hG.1.obj) ?_)
  exact wpAny_pure ⟨plainId_quiet F.plain_any_loop _, any_loop gok eS hgen hr.hd hr.depth (fun ps H' s' hE q => ⟨.bl true, H', back ps H' s' hE, rfl, q⟩) (fun ps H' s' hE q => ⟨.bl false, H', back ps H' s' hE, rfl, q⟩) N 0 [] H2 s5 hG hR0⟩
theorem pe_allE {G : Gm} {c P : Addr} {elt tg iter : Expr} {ifs : List Expr} {scope : Scope} {gpos p pos : Pos} {own : List (Str × Nat)} {wi : TI} {gd : Fr_ → TG} {tt : Fr_ → TT} {te : Fr_ → TE} {k : Nat}
    (hr : Room (k + 1) X.A) (hgl : Gl X "all") (hm : X.mg "all" = none) (hb : bootBuiltins "all" = some (.builtin "all")) (M : Mkr X G c P) (hkd : G.kd gpos.line gpos.col = false) (hN : X.N.Nodup)
    (hi : PI X tg iter wi) (ok : BlkOk X.N X.env.scope scope own) (gk : GenOk scope)
    (hg : ∀ (c' P2 : Addr) (A : Around) (s : Shared) (H : Hp) (C : Addr) (cl : List (Str × Addr)) (fp : List Addr), Room k A → PG (genCx X A s H (genEnv scope cl C (.ref c') builtinsNs X.env) fp) tg (gd (c', P2, X.env.qual ++ "<genexpr>.")))
    (ht : ∀ (c' P2 : Addr) (A : Around) (s : Shared) (H : Hp) (C : Addr) (cl : List (Str × Addr)) (fp : List Addr), Room k A → PTs (genCx X A s H (genEnv scope cl C (.ref c') builtinsNs X.env) fp) ifs (tt (c', P2, X.env.qual ++ "<genexpr>.")))
    (he : ∀ (c' P2 : Addr) (A : Around) (s : Shared) (H : Hp) (C : Addr) (cl : List (Str × Addr)) (fp : List Addr), Room k A → PE (genCx X A s H (genEnv scope cl C (.ref c') builtinsNs X.env) fp) elt (te (c', P2, X.env.qual ++ "<genexpr>.")))
    (hs : ∀ v, genFold iter X.env v = pure v)
    (hse : starEach [.GeneratorExp elt [⟨tg, iter, ifs, 0⟩] scope gpos] X.env = (false, eval (.GeneratorExp elt [⟨tg, iter, ifs, 0⟩] scope gpos) X.env) :: starEach [] X.env := by rfl) :
    PE X (.Call (.Name "all" p) [.GeneratorExp elt [⟨tg, iter, ifs, 0⟩] scope gpos] [] pos) (tAnyE G (X.env.qual ++ "<genexpr>.") false wi gd tt te (own.map (·.2))) := by
  refine ⟨fun pins s σ H Q I h => ?_⟩
  refine wpAny_Call_Name_kw (ld_blt I hgl hm hb ?_)
  refine PyProof.Rows.callWith_builtin1 ?_ hse (by rfl)
  rw [hse]
  show wpAny _ _ (spliced ((false, eval (.GeneratorExp elt [⟨tg, iter, ifs, 0⟩] scope gpos) X.env) :: backTo pos (starEach [] X.env))) _ _ s
  refine Calls.spliced_cons (ge_make I hr M hkd hi ok gk hs h fun J H1 h1 => ⟨h1.1, fun H2 c' P2 x2 t2 a s5 hnew => ?_⟩)
  refine Calls.spliced_nil ?_
  obtain ⟨N, Rest, hR0, turn⟩ := h1.2 H2 c' P2 x2 t2
  obtain ⟨g, ea, eS, ep, ew, gok, ⟨gi, hgen, hG⟩, back⟩ := ge_ready (N := N) (Rest := fun i _ H => Rest i H) (Dn := fun _ H => Q (.bl true) H) (Yl := YlB (Q (.bl false)) (fun i _ H => Rest i H) false) (S := []) (ps := []) hr hN ok gk hnew (hg c' P2) (ht c' P2) (he c' P2)
    (fun i ps H _ hR => turn i H hR) (fun b hb => by cases hb) ⟨rfl, fun p hp => by cases hp⟩ (fun _ _ e => e) ⟨s5.heap, s5.toks, rfl⟩
  refine call_function_tree F.kind_all F.plain_all F.entry_all (F.args_all1 _) ?_
  unfold Builtin.«all»
  refine wpAny_bind (m := oneArg "all" _) (wpAny_pure ?_)
  rw [← ea, ← ep, ← ew]
  refine wpAny_bind (wpAny_pyIter_gen (hgen _ hG.1.obj) ?_)
  exact wpAny_pure ⟨plainId_quiet F.plain_all_loop _, all_loop gok eS hgen hr.hd hr.depth (fun ps H' s' hE q => ⟨.bl false, H', back ps H' s' hE, rfl, q⟩) (fun ps H' s' hE q => ⟨.bl true, H', back ps H' s' hE, rfl, q⟩) N 0 [] H2 s5 hG hR0⟩
end
end DL
set_option Elab.async false
set_option linter.all false
set_option maxRecDepth 100000
set_option maxHeartbeats 1000000
namespace DL
open PySem L2 PySem.Spec PyProof.Rows GenW
def anyC (x : Bool) (gd : D → LE → Option LE) (tt : LE → R Bool) (te : LE → R D) (r : LE) : List D → R Bool
  | [] => .ok (!x)
  | d :: ds => match gd d r with
    | none => .stuck
    | some r' => do
      if (← (tt r').calm) then do
        match ← (te r').calm with
        | .bl c => if c = x then .ok x else anyC x gd tt te r ds
        | _ => .stuck
      else anyC x gd tt te r ds
def anyE (x : Bool) (fi : LE → R (List D)) (gd : D → LE → Option LE) (tt : LE → R Bool) (te : LE → R D) (vs : List Nat) : LE → R D := fun r => do
  let ds ← fi r
  let b ← anyC x gd tt te (wipeL r vs) ds
  .ok (.bl b)
theorem ext_grow {dl : Addr} {H H' : Hp} (e : LamX.ExtN H H') : Grow dl H H' := fun a o h _ n => e a o h n
section
variable {X : Cx} {G : Gm} {W : WX} {tg iter : Expr} {fi : LE → R (List D)} {gd : D → LE → Option LE} {is vs : List Nat} {tt : LE → R Bool} {te : LE → R D}
theorem any_core_d (q_ : Str) (x : Bool) (hsub : ∀ j ∈ is, j ∈ vs) {sg : L2.St} {H : Hp} {Q : VK} (h : tD G W (anyE x fi gd tt te vs) sg H Q) : tAnyE G q_ x (tIe G W fi) (fun y => tGd (G.sub y) gd is) (fun y => tT (G.sub y) W0 tt) (fun y => tD (G.sub y) W0 te) vs sg H Q := by
  obtain ⟨dl, Z, O, r, A, q⟩ := h
  refine ⟨dl, Z, O, r, A, q.bind.thn fun ds hds J B H1 g1 k1 wk hB => ⟨k1.tab, fun H2 c' P2 x2 t2 => ?_⟩⟩
  have k2 : GlOk G dl H2 := k1.ofExt x2 t2.drop
  have A1 := A.grow g1 k1
  have g2 : Grow dl H1 H2 := ext_grow x2
  have A2 := (A1.grow g2 k2).enter t2
  have hds := hds.bind
  refine ⟨ds.length, fun i H' => i ≤ ds.length ∧ At (G.sub (c', P2, q_)) dl Z O r sg H' ∧ Grow dl H H' ∧ B Z H' ∧
    Wp (anyC x gd tt te (wipeL r vs) (ds.drop i)) (fun b => ∀ v H2, Grow dl H H2 → GlOk G dl H2 → Rep G dl (cut H2 Z) (.bl b) v → Q v H2) (fun e => ∀ cls dx H', Grow dl H H' → GlOk G dl H' → XRep G dl (cut H' Z) e cls dx H' → W cls dx sg H'),
    ⟨Nat.zero_le _, A2, g1.trans g2, wk.mono _ _ _ _ (g2.cut A.dz) g2 hB, by simpa using hds⟩, ?_⟩
  rintro i H' ⟨hi', A', gH, hB', hw⟩
  by_cases hlt : i < ds.length
  · have hdrop : ds.drop i = ds[i] :: ds.drop (i + 1) := List.drop_eq_getElem_cons hlt
    rw [hdrop] at hw
    refine .inr ⟨hlt, wk.go i Z H' hB' hlt, fun v H3 hy => ?_⟩
    obtain ⟨g3, k3, rp⟩ := wk.yld i Z O r sg H' v H3 A'.drop hB' hy ds[i] (by simp)
    have A3 := A'.grow g3 (k3 _ A'.gl)
    unfold anyC at hw
    cases hgd : gd ds[i] (wipeL r vs) with
    | none => rw [hgd] at hw; exact hw.elim
    | some r2 =>
      rw [hgd] at hw
      refine ⟨dl, Z, O, wipeL r vs, ds[i], A3.wipe vs, rep_sub.mpr rp, r2, hgd, fun sg3 hl3 hs3 A4 => ⟨?_, ?_⟩⟩
      · exact (wipe_same hl3 fun j hj => hs3 j fun z => hj (hsub j z)).trans (wipe_wipe vs)
      refine ⟨dl, Z, O, r2, A4, (calm_wp hw.bind).mono (fun b hb H4 g4 k4 => ?_) fun e he => he⟩
      have A5 := A4.grow g4 k4
      have C4 : At (G.sub (c', P2, q_)) dl Z O r sg H4 := A3.grow g4 k4
      have gg : Grow dl H H4 := (gH.trans g3).trans g4
      have hB4 : B Z H4 := wk.mono _ _ _ _ (g4.cut A.dz) g4 (wk.mono _ _ _ _ (g3.cut A.dz) g3 hB')
      cases b with
      | false => exact ⟨hlt, C4, gg, hB4, hb⟩
      | true =>
        refine ⟨dl, Z, O, r2, A5, (calm_wp hb.bind).mono (fun y hy2 w H5 g5 k5 rp5 => ?_) fun e he => he⟩
        have C5 : At (G.sub (c', P2, q_)) dl Z O r sg H5 := C4.grow g5 k5
        have hB5 : B Z H5 := wk.mono _ _ _ _ (g5.cut A.dz) g5 hB4
        cases y with
        | bl c =>
          unfold Rep at rp5
          refine ⟨c, rp5, ?_⟩
          by_cases hc : c = x
          · rw [if_pos hc]
            have hy3 : Wp (if c = x then R.ok x else anyC x gd tt te (wipeL r vs) (ds.drop (i + 1))) _ _ := hy2
            rw [if_pos hc] at hy3
            exact hy3 (.bl x) H5 (gg.trans g5) k5.drop (by unfold Rep; rfl)
          · rw [if_neg hc]
            have hy3 : Wp (if c = x then R.ok x else anyC x gd tt te (wipeL r vs) (ds.drop (i + 1))) _ _ := hy2
            rw [if_neg hc] at hy3
            exact ⟨hlt, C5, gg.trans g5, hB5, hy3⟩
        | _ => exact hy2.elim
  · have e : i = ds.length := by omega
    subst e
    rw [List.drop_length] at hw
    exact .inl ⟨wk.stop _ _ H' hB' (Nat.le_refl _), hw (.bl (!x)) H' gH A'.gl.drop (by unfold Rep; rfl)⟩
abbrev GenC (X : Cx) (G : Gm) (k : Nat) (scope : Scope) (P : Cx → Gm → Prop) : Prop := ∀ (c' P2 : Addr) (A : Around) (s : Shared) (H : Hp) (C : Addr) (cl : List (Str × Addr)) (fp : List Addr), Room k A → Mkr (genCx X A s H (genEnv scope cl C (.ref c') builtinsNs X.env) fp) (G.sub (c', P2, X.env.qual ++ "<genexpr>.")) c' P2 → P (genCx X A s H (genEnv scope cl C (.ref c') builtinsNs X.env) fp) (G.sub (c', P2, X.env.qual ++ "<genexpr>."))
theorem GenC.mk {X : Cx} {G : Gm} {k : Nat} {scope : Scope} {P : Cx → Gm → Prop} {c P0 : Addr} (h : GenC X G k scope P) (M : Mkr X G c P0) : ∀ (c' P2 : Addr) (A : Around) (s : Shared) (H : Hp) (C : Addr) (cl : List (Str × Addr)) (fp : List Addr), Room k A → P (genCx X A s H (genEnv scope cl C (.ref c') builtinsNs X.env) fp) (G.sub (c', P2, X.env.qual ++ "<genexpr>.")) :=
  fun c' P2 A s H C cl fp hr => h c' P2 A s H C cl fp hr (mk_sub M rfl rfl rfl rfl)
theorem de_any {c P : Addr} {elt : Expr} {ifs : List Expr} {scope : Scope} {gpos p pos : Pos} {own : List (Str × Nat)} {k : Nat}
    (hr : Room (k + 1) X.A) (hgl : Gl X "any") (hm : X.mg "any" = none) (M : Mkr X G c P) (hN : X.N.Nodup)
    (hi : DIe X G W tg iter fi) (ok : BlkOk X.N X.env.scope scope own) (gk : GenOk scope)
    (hg : GenC X G k scope fun Y G => DG Y G tg gd is) (ht : GenC X G k scope fun Y G => DTs Y G W0 ifs tt) (he : GenC X G k scope fun Y G => DE Y G W0 elt te)
    (hsub : ∀ j ∈ is, j ∈ own.map (·.2)) (hkd : G.kd gpos.line gpos.col = false := by rfl) (hs : ∀ v, genFold iter X.env v = pure v := by intro _; rfl)
    (hse : starEach [.GeneratorExp elt [⟨tg, iter, ifs, 0⟩] scope gpos] X.env = (false, eval (.GeneratorExp elt [⟨tg, iter, ifs, 0⟩] scope gpos) X.env) :: starEach [] X.env := by rfl) :
    DE X G W (.Call (.Name "any" p) [.GeneratorExp elt [⟨tg, iter, ifs, 0⟩] scope gpos] [] pos) (anyE true fi gd tt te (own.map (·.2))) :=
  PE_imp (pe_anyE hr hgl hm M hkd hN hi ok gk (GenC.mk hg M) (GenC.mk ht M) (GenC.mk he M) hs hse) fun sg H Q h => any_core_d _ true hsub h
theorem de_all {c P : Addr} {elt : Expr} {ifs : List Expr} {scope : Scope} {gpos p pos : Pos} {own : List (Str × Nat)} {k : Nat}
    (hr : Room (k + 1) X.A) (hgl : Gl X "all") (hm : X.mg "all" = none) (M : Mkr X G c P) (hN : X.N.Nodup)
    (hi : DIe X G W tg iter fi) (ok : BlkOk X.N X.env.scope scope own) (gk : GenOk scope)
    (hg : GenC X G k scope fun Y G => DG Y G tg gd is) (ht : GenC X G k scope fun Y G => DTs Y G W0 ifs tt) (he : GenC X G k scope fun Y G => DE Y G W0 elt te)
    (hsub : ∀ j ∈ is, j ∈ own.map (·.2)) (hkd : G.kd gpos.line gpos.col = false := by rfl) (hs : ∀ v, genFold iter X.env v = pure v := by intro _; rfl) (hb : bootBuiltins "all" = some (.builtin "all") := by rfl)
    (hse : starEach [.GeneratorExp elt [⟨tg, iter, ifs, 0⟩] scope gpos] X.env = (false, eval (.GeneratorExp elt [⟨tg, iter, ifs, 0⟩] scope gpos) X.env) :: starEach [] X.env := by rfl) :
    DE X G W (.Call (.Name "all" p) [.GeneratorExp elt [⟨tg, iter, ifs, 0⟩] scope gpos] [] pos) (anyE false fi gd tt te (own.map (·.2))) :=
  PE_imp (pe_allE hr hgl hm hb M hkd hN hi ok gk (GenC.mk hg M) (GenC.mk ht M) (GenC.mk he M) hs hse) fun sg H Q h => any_core_d _ false hsub h
end
end DL
set_option Elab.async false
set_option linter.all false
set_option maxRecDepth 100000
set_option maxHeartbeats 1000000
namespace DL
open PySem L2 PySem.Spec PyProof.Rows GenW
end DL
set_option Elab.async false
set_option linter.all false
set_option maxRecDepth 100000
set_option maxHeartbeats 1000000
namespace DL
open PySem L2 PySem.Spec PyProof.Rows GenW
end DL
set_option Elab.async false
set_option linter.all false
set_option maxRecDepth 100000
namespace DL
open PySem L2 LamX PySem.Spec PyProof.Rows
section
variable {P : Program} {w : World} {K : PySem.W.Frag} {mg : Str → Option Value} {base : Heap} {G : Gm} {x qual : Str} {st : Stmt} {f : Addr} {fd : FuncData} {N ps : List Str} {k n m c nf : Nat} {F : LE → R Out}
/-- the law's own def -/
theorem law_V {cdv : Value} {m : Nat} {oc : Value} {od : Option Addr} {kV doc pm : Value} {an : Option Addr} {ct : Value} {osl : Array (Option Value)} (lk : K.lookup f = some ⟨oc, od, .func (PySem.W.fnOf "law" "law" (defArgs st) (defBody st) (defScope st) .none kV doc pm an cdv ct), osl⟩)
    (cd : PySem.W.codeIn K cdv "law" = true) (S : FnScope N ["script"] (defScope st)) (hm : N.length = m) (h2 : 2 ≤ m) (hG : G.K = K) (hU : ∀ p ∈ G.tabs, ∀ q ∈ G.tabs, p.1 = q.1 → p.2 = q.2) (hS0 : G.subs = []) (hF : Wp (F (r0 m)) (fun o => ∃ r, o = .nx r ∨ o = .ct r) (fun _ => False))
    (hb : ∀ A outer s H E, Room k (A.deeper (envOfC "law" (defScope st) s.heap.objs.size f cdv)) → ∃ E', PSs (cxD P w K mg base N "law" st f cdv A outer s H E) (defBody st) (tSeq (tFor (iList G.K (tCallS (spRounds G.K) E' (tCons (tVar 0) (tCons (tC (.int 1)) tNil)))) (gName 1) (tS G (WD E) F)) (tRet (tC (.bl true))))) :
    FnOk P w K mg base (L2.CX P w) (k + 1) f (PySem.W.fnOf "law" "law" (defArgs st) (defBody st) (defScope st) .none kV doc pm an cdv ct) ["script"] (spLaw K G.tabs) := by
  refine LG.FnOk.weaken ?_
  refine fn_of lk cd S (fun vs H Q E h => by obtain ⟨a, ns, rfl, _⟩ := h; rfl) fun A outer s H vs Q E hr h => ?_
  obtain ⟨E', hp⟩ := hb A outer s H E hr
  obtain ⟨a, ns, rfl, hS, hT, kq⟩ := h
  exact ⟨_, hp, law_core hm h2 (hG.symm ▸ hS) hT hU hS0 kq hF⟩
end
end DL
set_option Elab.async false
set_option linter.all false
set_option maxRecDepth 100000
set_option maxHeartbeats 1000000
namespace DL
open PySem L2 PySem.Spec PyProof.Rows
def strD : D → R (List D)
  | .str s => .ok (s.map fun c => .str [c])
  | _ => .stuck
theorem signs_get {s : List Nat} {i : Nat} {d : D} (h : (s.map fun c => D.str [c])[i]? = some d) : ∃ c, s[i]? = some c ∧ d = .str [c] := by
  rw [List.getElem?_map] at h
  cases e : s[i]? with
  | none => rw [e] at h; cases h
  | some c => rw [e] at h; cases h; exact ⟨c, rfl, rfl⟩
section
variable {X : Cx} {G : Gm} {W : WX} {tg iter : Expr} {f : LE → R D} {pos p : Pos}
theorem walk_str {dl : Addr} {s : List Nat} : WalkS G dl (Its ⟨s.toArray⟩) (s.map fun c => D.str [c]) (fun _ _ => True) where
  mono := fun _ _ _ _ _ _ _ => trivial
  monoS := fun _ _ _ _ _ _ => trivial
  go := fun i Z H h hi => by
    show i < s.toArray.size
    simpa using hi
  stop := fun i Z H h hi => by
    show s.toArray.size ≤ i
    simpa using hi
  yld := fun i Z O r sg H x H' A h hy d hd => by
    obtain ⟨rfl, c, hc, rfl⟩ := hy
    obtain ⟨c', hc', rfl⟩ := signs_get hd
    have hc2 : s.toArray[i]? = some c := hc
    rw [List.getElem?_toArray, hc'] at hc2
    cases hc2
    exact ⟨.refl _ _, fun _ k => k, Rep.str_⟩
theorem di_str (h : DE X G W iter f) : DI X G W tg iter (fun r => f r >>= strD) := PI_imp (pi_str h) fun sg H Q ⟨dl, Z, O, r, A, q⟩ => by
  refine ⟨dl, Z, O, r, A, q.bind.thn fun d hd v H1 g1 k1 rp => ?_⟩
  unfold strD at hd
  split at hd
  · rename_i s
    unfold Rep at rp
    subst rp
    exact ⟨_, rfl, hd _ _ H1 g1 k1 walk_str trivial⟩
  · exact hd.elim
end
end DL
set_option Elab.async false
set_option linter.all false
set_option maxRecDepth 100000
set_option maxHeartbeats 1000000
namespace DL
open PySem L2 PySem.Spec PyProof.Rows
section
variable {X : Cx} {G : Gm} {W : WX} {e : Expr} {f : LE → R D} {te : TE} {p pos tpos kpos : Pos} {elts : List Expr} {kk : Nat}
def signsV (x : Str) : List V := x.cps.toList.map fun c => V.str ⟨#[c]⟩
end
end DL
set_option Elab.async false
set_option linter.all false
set_option maxRecDepth 100000
set_option maxHeartbeats 1000000
namespace DL
open PySem L2 PySem.Spec PyProof.Rows
end DL
set_option Elab.async false
set_option linter.all false
set_option maxRecDepth 100000
set_option maxHeartbeats 2000000
namespace DLR
open PySem PySem.Spec PyProof.Rows
def IsRs (h : Heap) (a : Addr) (x : Str) (t : Tok) (i : Int) : Prop := ∃ o, h.get? a = some o ∧ o.cls = .type "reversed" ∧ o.data = .fields #[.str x t, rawInt i]
theorem IsRs.at {h h' : Heap} {a : Addr} {x : Str} {t : Tok} {i : Int} (q : IsRs h a x t i) (e : ∀ o, h.get? a = some o → h'.get? a = some o) : IsRs h' a x t i := let ⟨o, ho, r⟩ := q; ⟨o, e _ ho, r⟩
section
variable {prog : Program} {w : World} {A : Around} {E : Value → Shared → Prop} {s : Shared} {x : Str} {t : Tok}
theorem IsRs.typeIs {a : Addr} {i : Int} (q : IsRs s.heap a x t i) : s.TypeIs (.ref a) "reversed" := let ⟨o, ho, hc, _⟩ := q; ⟨o, ho, hc⟩
end
end DLR
set_option Elab.async false
set_option linter.all false
set_option maxRecDepth 100000
set_option maxHeartbeats 2000000
namespace DL
open PySem L2 PySem.Spec PyProof.Rows
end DL
set_option Elab.async false
set_option linter.all false
set_option maxRecDepth 100000
set_option maxHeartbeats 1000000
namespace DL
open PySem L2 PySem.Spec PyProof.Rows
def loopC2 (gd : D → LE → Option LE) (tt : LE → R Bool) (fi1 : LE → R (List D)) (gd1 : D → LE → Option LE) (tt1 : LE → R Bool) (te : LE → R D) (vs1 : List Nat) (r : LE) : List D → R (List D)
  | [] => .ok []
  | d :: ds => match gd d r with
    | none => .stuck
    | some r' => do
      if (← (tt r').calm) then do
        let es ← (fi1 r').calm
        if es.length ≤ 64 then do
          let xs ← loopC gd1 tt1 te (wipeL r' vs1) es
          let ys ← loopC2 gd tt fi1 gd1 tt1 te vs1 r ds
          .ok (xs ++ ys)
        else .stuck
      else loopC2 gd tt fi1 gd1 tt1 te vs1 r ds
def compF2 (fi : LE → R (List D)) (gd : D → LE → Option LE) (tt : LE → R Bool) (fi1 : LE → R (List D)) (gd1 : D → LE → Option LE) (tt1 : LE → R Bool) (te : LE → R D) (vs vs1 : List Nat) : LE → R (List D) := fun r => do
  let ds ← fi r
  if ds.length ≤ 262144 then loopC2 gd tt fi1 gd1 tt1 te vs1 (wipeL r vs) ds else .stuck
section
variable {G : Gm} {dl D : Addr} {Z : List Addr} {O : List (Nat × Addr)} {r : LE} {sg : L2.St} {H : Hp} {us xs : List V}
theorem app_cut (hD : H D = some (.lst us)) : GrowS (cut H (D :: Z)) (cut (upd H D (.lst xs)) (D :: Z)) := fun b o e n => by
  obtain ⟨e1, e2⟩ := cut_some e
  have hbD : b ≠ D := fun z => e1 (by rw [z]; exact List.mem_cons_self)
  rw [cut_out e1, upd_ne hbD]; exact e2
theorem GlOk.app (k4 : GlOk G dl H) (D4 : H D = some (.lst us)) (hDd : D ≠ dl) : GlOk G dl (upd H D (.lst xs)) := by
  obtain ⟨x1, y1, z1, hd1⟩ := k4.dice
  exact ⟨⟨x1, y1, z1, by rw [upd_ne fun e => hDd e.symm]; exact hd1⟩, k4.tab.upd D4 rfl⟩
theorem At.app (C4 : At G dl (D :: Z) O r sg H) (D4 : H D = some (.lst us)) (hDd : D ≠ dl) (hO : ∀ q ∈ O, q.2 ≠ D) : At G dl (D :: Z) O r sg (upd H D (.lst xs)) := by
  have nt : ∀ (xs : List V) ps, HO.lst xs ≠ HO.tbl ps := fun _ _ z => by cases z
  refine ⟨C4.gl.app D4 hDd, C4.dz, fun b hb => ?_, C4.own, C4.inj, C4.len, fun j c e => ?_⟩
  · by_cases e : b = D
    · rw [e]; exact ⟨_, upd_same, NT.lst _⟩
    · obtain ⟨u, h1, h2⟩ := C4.live b hb
      exact ⟨u, by rw [upd_ne e]; exact h1, h2⟩
  · have := C4.slot j c e
    cases c with
    | un => trivial
    | val d =>
      obtain ⟨v, e, q⟩ := this
      exact ⟨v, e, q.mono (app_cut D4)⟩
    | own d =>
      obtain ⟨a, ha, e, q, ko⟩ := this
      refine ⟨a, ha, e, ?_, ko⟩
      rw [upd_ne (hO _ ha)]; exact q.mono (app_cut D4)
end
section
variable {X : Cx} {G : Gm} {W : WX} {tg iter tg1 iter1 : Expr} {fi fi1 : LE → R (List D)} {gd gd1 : D → LE → Option LE} {is is1 vs vs1 : List Nat} {tt tt1 : LE → R Bool} {te : LE → R D}
theorem lc2_core_d (hsub : ∀ j ∈ is, j ∈ vs) (hsub1 : ∀ j ∈ is1, j ∈ vs1) {sg : L2.St} {H : Hp} {Q : VK} (h : tF G W (compF2 fi gd tt fi1 gd1 tt1 te vs vs1) sg H Q) : tLc2 (tIe G W fi) (tGd G gd is) (tT G W0 tt) (tIs G W0 fi1) (tGd G gd1 is1) (tT G W0 tt1) (tD G W0 te) vs vs1 sg H Q := by
  obtain ⟨dl, Z, O, r, A, q⟩ := h
  refine ⟨dl, Z, O, r, A, q.bind.thn fun ds hds J B H1 g1 k1 wk hB D hD => ?_⟩
  have A1 := A.grow g1 k1
  split at hds
  case isFalse => exact hds.elim
  rename_i hlen
  have nt : ∀ (xs : List V) ps, HO.lst xs ≠ HO.tbl ps := fun _ _ z => by cases z
  have B1 : At G dl (D :: Z) O r sg (upd H1 D (.lst [])) := A1.aside hD (NT.lst [])
  have hDZ := A1.out hD
  have hDd := A1.notdl hD
  have hO : ∀ q ∈ O, q.2 ≠ D := fun q hq z => hDZ (by rw [← z]; exact (A.own _ hq).1)
  have hB1 : B (D :: Z) (upd H1 D (.lst [])) := wk.mono _ _ _ _ (cut_new hD) (.new hD) hB
  let St : Nat → Hp → Prop := fun i H' => i ≤ ds.length ∧ ∃ acc us, At G dl (D :: Z) O r sg H' ∧ Grow dl H1 H' ∧ B (D :: Z) H' ∧ H' D = some (.lst us) ∧ RepL G dl (cut H' (D :: Z)) acc us ∧ acc.length ≤ i * 64 ∧
    Wp (loopC2 gd tt fi1 gd1 tt1 te vs1 (wipeL r vs) (ds.drop i)) (fun ys => ∀ p us H2, Grow dl H H2 → GlOk G dl H2 → H2 p = none → RepL G dl (cut H2 Z) (acc ++ ys) us → Q (.ref p) (upd H2 p (.lst us))) (fun e => ∀ cls dx H', Grow dl H H' → GlOk G dl H' → XRep G dl (cut H' Z) e cls dx H' → W cls dx sg H')
  refine ⟨fun i m H' => m = ds.length - i ∧ St i H', ⟨ds.length, by simp, Nat.zero_le _, [], [], B1, .new hD, hB1, upd_same, RepL.nil, Nat.zero_le _, by simpa using hds⟩, ?_⟩
  rintro i m H' ⟨rfl, hi', acc, us, A', gH, hB', hDu, rl, hal, hw⟩
  by_cases hlt : i < ds.length
  · have hdrop : ds.drop i = ds[i] :: ds.drop (i + 1) := List.drop_eq_getElem_cons hlt
    rw [hdrop] at hw
    refine .inr ⟨wk.go i _ H' hB' hlt, St (i + 1), fun H2 h2 => ⟨ds.length - (i + 1), by omega, rfl, h2⟩, fun x H2 hy => ?_⟩
    obtain ⟨g2, k2, rp⟩ := wk.yld i _ O r sg H' x H2 A' hB' hy ds[i] (by simp)
    have k2 := k2 _ A'.gl
    have A2 := A'.grow g2 k2
    unfold loopC2 at hw
    cases hgd : gd ds[i] (wipeL r vs) with
    | none => rw [hgd] at hw; exact hw.elim
    | some r2 =>
      rw [hgd] at hw
      refine ⟨dl, D :: Z, O, wipeL r vs, ds[i], A2.wipe vs, rp, r2, hgd, fun sg3 hl3 hs3 A3 => ⟨?_, ?_⟩⟩
      · exact (wipe_same hl3 fun j hj => hs3 j fun z => hj (hsub j z)).trans (wipe_wipe vs)
      refine ⟨dl, D :: Z, O, r2, A3, (calm_wp hw.bind).mono (fun b hb H3 g3 k3 => ?_) fun e he => he⟩
      have A3' := A3.grow g3 k3
      have D3 : H2 D = some (.lst us) := g2 D _ hDu hDd (nt _)
      have D3' : H3 D = some (.lst us) := g3 D _ D3 hDd (nt _)
      have C3 : At G dl (D :: Z) O r sg H3 := A2.grow g3 k3
      have B3 : B (D :: Z) H3 := wk.mono _ _ _ _ (g3.cut A2.dz) g3 (wk.mono _ _ _ _ (g2.cut A'.dz) g2 hB')
      cases b with
      | false =>
        refine ⟨hlt, acc, us, C3, (gH.trans g2).trans g3, B3, D3', rl.mono ((g2.trans g3).cut A'.dz), by omega, hb⟩
      | true =>
        refine ⟨dl, D :: Z, O, r2, A3', (calm_wp hb.bind).mono (fun es hes J1 B1' H4 g4 k4 wk1 hB4 => ?_) fun e he => he⟩
        split at hes
        case isFalse => exact hes.elim
        rename_i hlen1
        have C4 := C3.grow g4 k4
        have A4 := A3'.grow g4 k4
        have D4 : H4 D = some (.lst us) := g4 D _ D3' hDd (nt _)
        have B4 : B (D :: Z) H4 := wk.mono _ _ _ _ (g4.cut A3.dz) g4 B3
        let St1 : Nat → Hp → Prop := fun j H' => j ≤ es.length ∧ ∃ acc us, At G dl (D :: Z) O r sg H' ∧ At G dl (D :: Z) O r2 sg3 H' ∧ Grow dl H1 H' ∧ B (D :: Z) H' ∧ B1' (D :: Z) H' ∧ H' D = some (.lst us) ∧ RepL G dl (cut H' (D :: Z)) acc us ∧ acc.length ≤ i * 64 + j ∧
          Wp (loopC gd1 tt1 te (wipeL r2 vs1) (es.drop j)) (fun xs => Wp (loopC2 gd tt fi1 gd1 tt1 te vs1 (wipeL r vs) (ds.drop (i + 1))) (fun ys => ∀ p us H2, Grow dl H H2 → GlOk G dl H2 → H2 p = none → RepL G dl (cut H2 Z) (acc ++ (xs ++ ys)) us → Q (.ref p) (upd H2 p (.lst us))) (fun e => ∀ cls dx H', Grow dl H H' → GlOk G dl H' → XRep G dl (cut H' Z) e cls dx H' → W cls dx sg H')) (fun e => ∀ cls dx H', Grow dl H H' → GlOk G dl H' → XRep G dl (cut H' Z) e cls dx H' → W cls dx sg H')
        refine ⟨fun j m H' => m = es.length - j ∧ St1 j H', ⟨es.length, by simp, Nat.zero_le _, acc, us, C4, A4, ((gH.trans g2).trans g3).trans g4, B4, hB4, D4, rl.mono (((g2.trans g3).trans g4).cut A'.dz), by omega, ?_⟩, ?_⟩
        · rw [List.drop_zero]
          exact hes.bind.mono (fun xs hx => hx.bind.mono (fun ys hy => hy) fun e he => he) fun e he => he
        rintro j m H5 ⟨rfl, hj', acc1, us1, C5, A5, gH5, hB5, hB15, hDu5, rl5, hal5, hw5⟩
        by_cases hlt1 : j < es.length
        · have hdrop1 : es.drop j = es[j] :: es.drop (j + 1) := List.drop_eq_getElem_cons hlt1
          rw [hdrop1] at hw5
          refine .inr ⟨wk1.go j _ H5 hB15 hlt1, St1 (j + 1), fun H2 h2 => ⟨es.length - (j + 1), by omega, rfl, h2⟩, fun x1 H6 hy1 => ?_⟩
          obtain ⟨g6, k6, rp6⟩ := wk1.yld j _ O r2 sg3 H5 x1 H6 A5 hB15 hy1 es[j] (by simp)
          have k6 := k6 _ A5.gl
          have A6 := A5.grow g6 k6
          unfold loopC at hw5
          cases hgd1 : gd1 es[j] (wipeL r2 vs1) with
          | none => rw [hgd1] at hw5; exact hw5.elim
          | some r6 =>
            rw [hgd1] at hw5
            refine ⟨dl, D :: Z, O, wipeL r2 vs1, es[j], A6.wipe vs1, rp6, r6, hgd1, fun sg6 hl6 hs6 A6' => ⟨?_, ?_⟩⟩
            · exact (wipe_same hl6 fun j hj => hs6 j fun z => hj (hsub1 j z)).trans (wipe_wipe vs1)
            refine ⟨dl, D :: Z, O, r6, A6', (calm_wp hw5.bind).mono (fun b hb H7 g7 k7 => ?_) fun e he => he⟩
            have A7 := A6'.grow g7 k7
            have D7 : H7 D = some (.lst us1) := g7 D _ (g6 D _ hDu5 hDd (nt _)) hDd (nt _)
            have C7 : At G dl (D :: Z) O r sg H7 := (C5.grow g6 k6).grow g7 k7
            have A7' : At G dl (D :: Z) O r2 sg3 H7 := A6.grow g7 k7
            have B7 : B (D :: Z) H7 := wk.mono _ _ _ _ (g7.cut A6.dz) g7 (wk.mono _ _ _ _ (g6.cut A5.dz) g6 hB5)
            have B17 : B1' (D :: Z) H7 := wk1.mono _ _ _ _ (g7.cut A6.dz) g7 (wk1.mono _ _ _ _ (g6.cut A5.dz) g6 hB15)
            cases b with
            | false => exact ⟨hlt1, acc1, us1, C7, A7', (gH5.trans g6).trans g7, B7, B17, D7, rl5.mono ((g6.trans g7).cut A5.dz), by omega, hb⟩
            | true =>
              refine ⟨dl, D :: Z, O, r6, A7, (calm_wp hb.bind).mono (fun y hy2 v H8 g8 k8 rp8 => ?_) fun e he => he⟩
              have D8 : H8 D = some (.lst us1) := g8 D _ D7 hDd (nt _)
              have C8 : At G dl (D :: Z) O r sg H8 := C7.grow g8 k8
              have A8 : At G dl (D :: Z) O r2 sg3 H8 := A7'.grow g8 k8
              have hz : us1.length < sizeLine := by rw [sizeLine_eq, rl5.length]; omega
              have gall : Grow dl H1 H8 := ((gH5.trans g6).trans g7).trans g8
              have gD : Grow dl H1 (upd H8 D (.lst (us1 ++ [v]))) := fun b o e n nt' => by
                rw [upd_ne (ne_of_none e hD)]; exact gall b o e n nt'
              refine ⟨us1, D8, hz, hlt1, acc1 ++ [y], us1 ++ [v], C8.app D8 hDd hO, A8.app D8 hDd hO, gD, wk.mono _ _ _ _ (fun b o e n => ?_) gD hB, wk1.monoS _ _ _ _ (app_cut D8) (wk1.monoS _ _ _ _ (g8.cut A6.dz) B17), upd_same, ?_, by rw [List.length_append]; simp; omega, ?_⟩
              · obtain ⟨e1, e2⟩ := cut_some e
                have hbD : b ≠ D := ne_of_none e2 hD
                have hbl : b ≠ dl := fun z => e1 (by rw [z]; exact A.dz)
                rw [cut_out (by rw [List.mem_cons, not_or]; exact ⟨hbD, e1⟩)]
                exact gD b o e2 hbl n
              · exact RepL.append (rl5.mono ((((g6.trans g7).trans g8).cut A5.dz).trans (app_cut D8))) (RepL.cons (rp8.mono (app_cut D8)) RepL.nil)
              · exact hy2.bind.mono (fun xs hxs => (show Wp (loopC2 gd tt fi1 gd1 tt1 te vs1 (wipeL r vs) (ds.drop (i + 1))) _ _ from hxs).mono (fun ys hys => by rw [List.append_assoc]; exact hys) fun e he => he) fun e he => he
        · have e : j = es.length := by omega
          subst e
          rw [List.drop_length] at hw5
          refine .inl ⟨wk1.stop _ _ H5 hB15 (Nat.le_refl _), hlt, acc1, us1, C5, gH5, hB5, hDu5, rl5, by omega, ?_⟩
          exact hw5
  · have e : i = ds.length := by omega
    subst e
    rw [List.drop_length] at hw
    refine .inl ⟨wk.stop _ _ H' hB' (Nat.le_refl _), ?_⟩
    have hw2 : ∀ p us H2, Grow dl H H2 → GlOk G dl H2 → H2 p = none → RepL G dl (cut H2 Z) (acc ++ []) us → Q (.ref p) (upd H2 p (.lst us)) := hw
    rw [List.append_nil] at hw2
    have := hw2 D us (cut H' [D]) (fun b o e n nt' => ?_) ?_ (cut_in (by simp)) ?_
    · rw [upd_cut hDu] at this; exact this
    · have e1 := g1 b o e n nt'
      rw [cut_out (by simpa using ne_of_none e1 hD)]
      exact gH b o e1 n nt'
    · obtain ⟨x1, y1, z1, hd1⟩ := A'.gl.dice
      exact ⟨⟨x1, y1, z1, by rw [cut_out (by simpa using fun e : dl = D => hDd e.symm)]; exact hd1⟩, A'.gl.tab.cut hDu rfl⟩
    · refine rl.mono fun b o e n => ?_
      obtain ⟨e1, e2⟩ := cut_some e
      rw [List.mem_cons, not_or] at e1
      rw [cut_out e1.2, cut_out (by simpa using e1.1)]
      exact e2
theorem ds_setcomp2 (i : Nat) {y : Str} {py : Pos} {elt : Expr} {ifs ifs1 : List Expr} {scope : Scope} {own : List (Str × Nat)} {pos spos : Pos} (hc : X.calm = true) (hN : X.N.Nodup) (hi : DIe X G W tg iter fi) (ok : BlkOk X.N X.env.scope scope own) (hv : ∀ i ∈ vs1, i ∈ own.map (·.2))
    (hg : ∀ (s : Shared) (H : Hp) (C : Addr) (cl : List (Str × Addr)) (fp : List Addr), DG (X.blk s H scope (compEnvC scope cl C X.env) fp) G tg gd is)
    (ht : ∀ (s : Shared) (H : Hp) (C : Addr) (cl : List (Str × Addr)) (fp : List Addr), DTs (X.blk s H scope (compEnvC scope cl C X.env) fp) G W0 ifs tt)
    (hi1 : ∀ (s : Shared) (H : Hp) (C : Addr) (cl : List (Str × Addr)) (fp : List Addr), DI (X.blk s H scope (compEnvC scope cl C X.env) fp) G W0 tg1 iter1 fi1)
    (hg1 : ∀ (s : Shared) (H : Hp) (C : Addr) (cl : List (Str × Addr)) (fp : List Addr), DG (X.blk s H scope (compEnvC scope cl C X.env) fp) G tg1 gd1 is1)
    (ht1 : ∀ (s : Shared) (H : Hp) (C : Addr) (cl : List (Str × Addr)) (fp : List Addr), DTs (X.blk s H scope (compEnvC scope cl C X.env) fp) G W0 ifs1 tt1)
    (he : ∀ (s : Shared) (H : Hp) (C : Addr) (cl : List (Str × Addr)) (fp : List Addr), DE (X.blk s H scope (compEnvC scope cl C X.env) fp) G W0 elt te)
    (hsub : ∀ j ∈ is, j ∈ own.map (·.2)) (hsub1 : ∀ j ∈ is1, j ∈ vs1) (hti : i ≠ 1000000) (hsw : swapsWith (.ListComp elt [⟨tg, iter, ifs, 0⟩, ⟨tg1, iter1, ifs1, 0⟩] scope pos) (some (.Name y py)) spos.line X.env = pure true)
    (hy : X.N[i]? = some y := by rfl) (hyl : X.env.scope.names.lookup y = some .local := by rfl) (hs : ∀ x, foldedSetIterable iter X.env x = pure x := by intro _; rfl) (hs1 : ∀ env x, foldedSetIterable iter1 env x = pure x := by intro _ _; rfl) :
    DS X G W (.Assign [.Name y py] (.ListComp elt [⟨tg, iter, ifs, 0⟩, ⟨tg1, iter1, ifs1, 0⟩] scope pos) spos) (setK i (ownK (compF2 fi gd tt fi1 gd1 tt1 te (own.map (·.2)) vs1))) := PS_imp (ps_setLc2 hc hN hy hyl hsw hi ok hv hg ht hi1 hg1 ht1 he hs hs1) fun De sg H ⟨dl, Z, O, r, A, q⟩ => by
  refine lc2_core_d (W := W) hsub hsub1 ⟨dl, Z, O, r, A, (onS_wp q).bind.bind.mono (fun ds hd p us H1 g1 k1 hp rl => ?_) fun e he => spost_ex A he⟩
  exact hd _ _ _ _ (Stp.trans A (Stp.of_grow g1 k1) (Stp.new (A.grow g1 k1) hp hti)) ((A.grow g1 k1).set_own i hp ⟨us, rfl, rl⟩ ⟨rfl, hti⟩)
end
end DL
set_option Elab.async false
set_option linter.all false
set_option maxRecDepth 100000
set_option maxHeartbeats 1000000
namespace DL
open PySem L2 PySem.Spec PyProof.Rows
def pairsD : List D → Option (List (D × D))
  | [] => some []
  | .tup [k, v] :: ds => if k.key1 = true then (pairsD ds).map ((k, v) :: ·) else none
  | _ :: _ => none
def dictL : List D → R (List (D × D))
  | [.lst ds] => (match pairsD ds with
    | some ps => .ok (mergeD [] ps)
    | none => .stuck)
  | _ => .stuck
def dictD (ds : List D) : R D := dictL ds >>= fun kvs => .ok (.dic kvs)
section
variable {X : Cx} {G : Gm} {W : WX} {dl : Addr} {H : Hp} {Z : List Addr}
theorem pairsD_rep : ∀ {ds : List D} {ps : List (D × D)} {vs : List V}, pairsD ds = some ps → RepL G dl (cut H Z) ds vs → ∃ (as : List Addr) (kv : List (Key × V)), vs = as.map V.ref ∧ Paired (fun p kv => SqT G.K H p [kV kv.1, kv.2]) as kv ∧ RepK G dl (cut H Z) ps kv
  | [], ps, vs, h, rl => by
    cases h
    unfold RepL at rl
    exact ⟨[], [], rl, .nil, by unfold RepK; rfl⟩
  | d :: ds, ps, vs, h, rl => by
    unfold RepL at rl
    obtain ⟨v, r, rfl, h1, h2⟩ := rl
    match d, h, h1 with
    | .tup [k, w], h, h1 =>
      unfold pairsD at h
      split at h
      case isFalse => cases h
      rename_i hk
      cases hp : pairsD ds with
      | none => rw [hp] at h; cases h
      | some ps' =>
        rw [hp] at h
        cases h
        obtain ⟨as, kv, e3, h3, h4⟩ := pairsD_rep hp h2
        unfold Rep at h1
        obtain ⟨a, vs2, e5, hs, rl2⟩ := h1
        subst e5
        obtain ⟨x, hx⟩ := key1_key hk
        unfold RepL at rl2
        obtain ⟨v1, r1, e6, r1', rl3⟩ := rl2
        unfold RepL at rl3
        obtain ⟨v2, r2, e7, r2', rl4⟩ := rl3
        unfold RepL at rl4
        subst rl4
        subst e7
        subst e6
        have := key_kV hx (RepP.of r1')
        subst this
        refine ⟨a :: as, (x, v2) :: kv, by rw [e3]; rfl, .cons ((cut_grow H Z).sqt (SqT.of hs)) h3, ?_⟩
        unfold RepK
        exact ⟨x, v2, kv, rfl, hx, r2', h4⟩
theorem cd_dict (hG : G.K = X.K) (hc : X.calm = true) : CallD X G (.type "dict") dictD := by
  refine ⟨_, cr_lkN (call_dictP hc), fun dl Z O r sg ds vs H Q E A rl h => ?_⟩
  unfold dictD dictL at h
  split at h
  · rename_i ds
    split at h
    · rename_i ps hps
      obtain ⟨v, rfl, rp⟩ := rl.one
      obtain ⟨a, us, rfl, e, rl'⟩ := rp.lst
      obtain ⟨as, kv, rfl, h3, h4⟩ := pairsD_rep hps rl'
      refine ⟨a, as, kv, rfl, SqL.of e, hG ▸ h3, fun p hp => ⟨p, _, rfl, upd_same, trivial, fun od => ?_⟩⟩
      rw [upd_upd]
      refine h _ _ (.new hp) (A.gl.new hp) ?_
      have hz := A.out hp
      unfold Rep
      refine ⟨p, od, _, rfl, by rw [cut_out hz]; exact upd_same, ?_⟩
      exact RepK.mono ((Grow.new (dl := dl) hp).cut A.dz) _ (RepK_merge _ h4 (by unfold RepK; rfl))
    · exact h.elim
  · exact h.elim
end
end DL
set_option Elab.async false
set_option linter.all false
set_option maxRecDepth 100000
namespace DL
open PySem L2 PySem.Spec PyProof.Rows
def itS (f : LE → R D) : LE → R (List D) := fun r => f r >>= strD
/-- the law's round keeps the law, whatever is rolled -/
structure LawOk (F : LE → R Out) (m : Nat) : Prop where
  out : Wp (F (r0 m)) (fun o => ∃ r, o = .nx r ∨ o = .ct r) (fun _ => False)
section
variable {P : Program} {w : World} {K : PySem.W.Frag} {mg : Str → Option Value} {base : Heap} {G : Gm} {x qual : Str} {st : Stmt} {f : Addr} {fd : FuncData} {N ps : List Str} {k n m c nf : Nat} {F : LE → R Out}
theorem law_W {cdv : Value} {m : Nat} {oc : Value} {od : Option Addr} {kV doc pm : Value} {an : Option Addr} {ct : Value} {osl : Array (Option Value)} (lk : K.lookup f = some ⟨oc, od, .func (PySem.W.fnOf "law" "law" (defArgs st) (defBody st) (defScope st) .none kV doc pm an cdv ct), osl⟩)
    (cd : PySem.W.codeIn K cdv "law" = true) (S : FnScope N ["script"] (defScope st)) (hm : N.length = m) (h2 : 2 ≤ m) (hG : G.K = K) (hU : ∀ p ∈ G.tabs, ∀ q ∈ G.tabs, p.1 = q.1 → p.2 = q.2) (hS0 : G.subs = []) (hF : LawOk F m)
    (hb : ∀ A outer s H E, Room k (A.deeper (envOfC "law" (defScope st) s.heap.objs.size f cdv)) → ∃ E', PSs (cxD P w K mg base N "law" st f cdv A outer s H E) (defBody st) (tSeq (tFor (iList G.K (tCallS (spRounds G.K) E' (tCons (tVar 0) (tCons (tC (.int 1)) tNil)))) (gName 1) (tS G (WD E) F)) (tRet (tC (.bl true))))) :
    FnOk P w K mg base (L2.CX P w) (k + 1) f (PySem.W.fnOf "law" "law" (defArgs st) (defBody st) (defScope st) .none kV doc pm an cdv ct) ["script"] (spLaw K G.tabs) := by
  exact law_V lk cd S hm h2 hG hU hS0 hF.out hb
end
end DL
set_option Elab.async false
set_option linter.all false
set_option maxRecDepth 100000
namespace DL
open PySem L2 PySem.Spec PyProof.Rows
/-- statements in a row -/
def seqAll : List (LE → R Out) → (LE → R Out) → LE → R Out
  | [], K => K
  | S :: Ss, K => seqS S (seqAll Ss K)
/-- .. run to their end: the state behind them -/
def runAll : List (LE → R Out) → LE → R LE
  | [], r => .ok r
  | S :: Ss, r => S r >>= fun o => match o with
    | .nx r' => runAll Ss r'
    | _ => .stuck
structure GoP (P : Out → Prop) (F : LE → R Out) (r : LE) : Prop where
  h : Wp (F r) P (fun _ => False)
theorem runAll_wp {P : Out → Prop} {K : LE → R Out} {Q : LE → Prop} : ∀ (Ss : List (LE → R Out)) (r : LE), Wp (runAll Ss r) Q (fun _ => False) → (∀ r', Q r' → GoP P K r') → Wp (seqAll Ss K r) P (fun _ => False)
  | [], r, h, k => (k r h).h
  | S :: Ss, r, h, k => by
    show Wp (S r >>= fun o => match o with
      | .nx r' => seqAll Ss K r'
      | o => .ok o) _ _
    refine Wp.of_bind ((show Wp (S r >>= _) _ _ from h).bind.mono (fun o ho => ?_) fun _ z => z)
    cases o with
    | nx r' => exact runAll_wp Ss r' ho k
    | rt _ => exact ho.elim
    | ex _ _ => exact ho.elim
    | bk _ => exact ho.elim
    | ct _ => exact ho.elim
structure Wr {α : Type} (m : R α) (Q : α → Prop) : Prop where
  h : Wp m Q (fun _ => False)
theorem GoP.one {P : Out → Prop} {S F K : LE → R Out} {r : LE} {Q : LE → Prop} (e : F = seqS S K) (h : Wr (runAll [S] r) Q) (k : ∀ r', Q r' → GoP P K r') : GoP P F r := by
  subst e
  exact ⟨runAll_wp [S] r h.h k⟩
theorem Wr.run1 {i : Nat} {f : LE → R D} {r : LE} {Q : LE → Prop} (h : Wr (f r) (fun d => Q (r.set i (.val d)))) : Wr (runAll [setK i (valK f)] r) Q := by
  refine ⟨Wp.of_bind ((Wp_setK (h.h.mono (fun d hd => ?_) fun _ z => z.elim) : Wp (setK i (valK f) r) (fun o => ∃ r', o = .nx r' ∧ Q r') _).mono (fun o ho => ?_) fun _ z => z)⟩
  · exact ⟨_, rfl, hd⟩
  · obtain ⟨r', rfl, hq⟩ := ho
    exact hq
theorem LawOk.of {F : LE → R Out} {m : Nat} (g : GoP (fun o => ∃ r, o = .nx r ∨ o = .ct r) F (r0 m)) : LawOk F m := ⟨g.h⟩
end DL
set_option Elab.async false
set_option linter.all false
set_option maxRecDepth 100000
namespace DL
open PySem L2 PySem.Spec PyProof.Rows
end DL
set_option Elab.async false
set_option linter.all false
set_option maxRecDepth 100000
namespace DL
open PySem L2 PySem.Spec PyProof.Rows
end DL
set_option Elab.async false
set_option linter.all false
set_option maxRecDepth 100000
set_option maxHeartbeats 1000000
namespace L2
open PySem PySem.Spec PyProof.Rows
section
variable {X : Cx}
def signsOf (x : Str) : List Str := x.cps.toList.map fun c => ⟨#[c]⟩
theorem strs_signs {x : Str} {acc : Array Value} (h : ItemsOf (SignAt x) acc x.cps.size) : StrsAre acc.toList (signsOf x) :=
  strs_at (by rw [Array.length_toList, h.1]; simp [signsOf]) fun j v e => by
    obtain ⟨c, u, e1, e2⟩ := h.2 j v (by rw [← Array.getElem?_toList]; exact e)
    refine ⟨⟨#[c]⟩, u, ?_, e2⟩
    unfold signsOf
    rw [List.getElem?_map, Array.getElem?_toList, e1]
    rfl
theorem call_list_S (hcalm : X.calm = true) : CallR X (.type "list") (fun xs H Q => ∃ (x : Str), xs = [.str x] ∧ x.length ≤ sizeLine ∧ ∀ p, H p = none → Q (.ref p) (upd H p (.lst ((signsOf x).map V.str)))) := by
  intro pins s σ H xs us Q I r q
  obtain ⟨x, ex, hz, q⟩ := q
  subst ex
  obtain ⟨u, eu, rx⟩ := vals1 r
  subst eu
  obtain ⟨t, rfl⟩ : ∃ t, u = Value.str x t := rx
  refine call_list_str (I.ok.hd hcalm) x t (hn := hz) fun h' tk acc c' hk hD hacc => ?_
  have hS := strs_signs hacc
  refine ⟨.ref s.heap.objs.size, upd H s.heap.objs.size (.lst ((signsOf x).map V.str)), I.laid (t' := tk) hk (Nat.le_refl _)
    (show ObjOk X.prog X.w _ _ _ (.lst ((signsOf x).map V.str)) from ⟨by simp [signsOf]; exact hz, acc.toList, c', vals_of_strs hS, by rw [Array.toArray_toList]; exact hD⟩), rfl, q _ (I.hok.fresh (Nat.le_refl _))⟩
theorem call_sorted_S (hcalm : X.calm = true) : CallR X (.builtin "sorted") (fun xs H Q => ∃ (x : Str), xs = [.str x] ∧ x.length < 64 ∧
    ∀ ys p, ys.Perm (signsOf x) → sortedS ys = true → H p = none → Q (.ref p) (upd H p (.lst (ys.map V.str)))) := by
  intro pins s σ H xs us Q I r q
  obtain ⟨x, ex, h64, q⟩ := q
  subst ex
  obtain ⟨u, eu, rx⟩ := vals1 r
  subst eu
  obtain ⟨t, rfl⟩ : ∃ t, u = Value.str x t := rx
  have h16 : x.cps.size ≤ sizeLine := by rw [sizeLine_eq]; show x.length ≤ _; omega
  refine Calls.call_function_entry PyProof.Rows.kind_sorted PyProof.Rows.plain_sorted PyProof.Rows.entry_sorted (PyProof.Rows.args_sorted1 _) ?_
  unfold Builtin.«sorted»
  refine wpAny_bind (m := checkCount "sorted" 1 1 _) (wpAny_pure ?_)
  refine wpAny_bind (wpAny_collect_str (A := X.A.in1) (I.ok.hd hcalm) x t (hn := h16) fun s' acc hk hg hd ho hacc => ?_)
  have hS := strs_signs hacc
  have hal : acc.toList.length = (signsOf x).length := hS.length
  have hsl : (signsOf x).length = x.length := by simp [signsOf, Str.length]
  have es : s' = { s with heap := s'.heap, toks := s'.toks } := by
    obtain ⟨h, g, d, t, o⟩ := s'
    subst hg hd ho
    rfl
  rw [es]
  generalize hh' : s'.heap = h' at *
  generalize htk : s'.toks = tk at *
  have I1 : Inv X pins σ H { s with heap := h', toks := tk } := I.kept hk
  refine wpAny_bind (wpAny_newList ?_ (by rw [hal, hsl, sizeLine_eq]; omega))
  have hoL : (h'.push (seqObj "list" acc.toList.toArray 0)).get? h'.objs.size = some (seqObj "list" acc.toList.toArray 0) := Heap.get?_push_size _ rfl
  show wpAny _ _ _ _ _ { s with heap := h'.push (seqObj "list" acc.toList.toArray 0), toks := tk }
  refine wpAny_bind (wpAny_holding (wpAny_call_entry PyProof.Rows.slot_list_sort ⟨_, hoL, rfl⟩ PyProof.Rows.entry_list_sort
    (list_sort_treeK strKind_oneLt (s := { s with heap := h'.push (seqObj "list" acc.toList.toArray 0), toks := tk }) hoL hS.keysOf (fun v₁ v₂ rest e => keyKind_strs (by rw [← e]; exact hS)) (by rw [hal, hsl]; exact h64) fun st' hp hs => ⟨_, rfl, ?_⟩)
    (PyProof.Rows.args_list_sort _)))
  obtain ⟨ys, g1, g2, g3⟩ := sorted_out_str hS hp hs
  obtain ⟨e', he'⟩ := PyProof.Rows.sortedHeap_at (vs := acc.toList) (out := (arrOf st').map (·.2)) hoL
  have hlen : (ys.map V.str).length ≤ sizeLine := by
    rw [List.length_map, g2.length_eq, hsl]
    exact Nat.le_trans (Nat.le_of_lt h64) (by decide)
  refine wpAny_pure ⟨_, rfl, .ref h'.objs.size, upd H h'.objs.size (.lst (ys.map V.str)), I1.laid (t' := tk) (fun b u e => ?_) (Nat.le_refl _)
    (show ObjOk X.prog X.w _ _ _ (.lst (ys.map V.str)) from ⟨hlen, ((arrOf st').map (·.2)).toList, e', vals_of_strs g1, by rw [Array.toArray_toList]; exact he'⟩), rfl, q ys _ g2 g3 (I1.hok.fresh (Nat.le_refl _))⟩
  have hb : b < h'.objs.size := Heap.lt_size e
  rw [PyProof.Rows.sortedHeap_old (Nat.ne_of_lt hb) (by rw [size_push']; exact Nat.lt_succ_of_lt hb)]
  exact Heap.get?_push_of_some _ e
end
end L2
namespace DL
open PySem L2 PySem.Spec PyProof.Rows
def signsD (s : List Nat) : List D := s.map fun c => .str [c]
def listX : List D → R (List D)
  | [.lst xs] => .ok xs
  | [.tup xs] => .ok xs
  | [.str s] => if s.length ≤ 16777216 then .ok (signsD s) else .stuck
  | [.dic kvs] => .ok (kvs.map (·.1))
  | _ => .stuck
def sortedX : List D → R (List D)
  | [.str s] => if s.length < 64 then .ok ((isort ltCps (s.map fun c => [c])).map D.str) else .stuck
  | ds => sortedL ds
section
variable {X : Cx} {G : Gm} {dl : Addr} {S : Hp}
theorem signsOf_eq (s : List Nat) : signsOf ⟨s.toArray⟩ = (s.map fun c => [c]).map fun z => (⟨z.toArray⟩ : Str) := by
  unfold signsOf
  rw [List.map_map]
  rfl
theorem signsD_eq (s : List Nat) : signsD s = (s.map fun c => [c]).map D.str := by
  unfold signsD
  rw [List.map_map]
  rfl
theorem RepK.keysD : ∀ {kvs : List (D × D)} {kv : List (Key × V)}, RepK G dl S kvs kv → RepL G dl S (kvs.map (·.1)) (kv.map fun p => kV p.1)
  | [], kv, h => by unfold RepK at h; subst h; exact RepL.nil
  | (k, d) :: r, kv, h => by
    unfold RepK at h
    obtain ⟨x, v, t, rfl, hk, _, h2⟩ := h
    refine RepL.cons ?_ (RepK.keysD h2)
    cases k with
    | int i => cases hk; exact Rep.int_
    | str s => cases hk; exact Rep.str_
    | _ => cases hk
theorem cf_listX (hG : G.K = X.K) (hc : X.calm = true) : CallF X G (.type "list") listX := by
  refine ⟨_, CallR.or_ call_list_of (CallR.or_ (call_list_S hc) (call_listD hc)), fun dl Z O r sg ds vs H Q E A rl h => ?_⟩
  unfold listX at h
  split at h
  · obtain ⟨v, rfl, rp⟩ := rl.one
    obtain ⟨a, us, rfl, e, rl'⟩ := rp.lst
    exact .inl ⟨a, us, rfl, .inl (SqL.of e), fun l hl => h l us H (.refl _ _) A.gl hl rl'⟩
  · obtain ⟨v, rfl, rp⟩ := rl.one
    obtain ⟨a, us, rfl, e, rl'⟩ := rp.tup
    exact .inl ⟨a, us, rfl, .inr (hG ▸ e), fun l hl => h l us H (.refl _ _) A.gl hl rl'⟩
  · rename_i s
    split at h
    case isFalse => exact h.elim
    rename_i hz
    obtain ⟨v, rfl, rp⟩ := rl.one
    refine .inr (.inl ⟨_, by rw [rp.str], by rw [sizeLine_eq]; simpa [Str.length] using hz, fun l hl => ?_⟩)
    refine h l _ H (.refl _ _) A.gl hl ?_
    rw [signsOf_eq, signsD_eq]
    exact RepL.of_strs _
  · obtain ⟨v, rfl, rp⟩ := rl.one
    obtain ⟨a, kv, rfl, hrd, rk⟩ := rp.dic
    exact .inr (.inr ⟨a, kv, rfl, hrd, fun l hl => h l _ H (.refl _ _) A.gl hl rk.keysD⟩)
  · exact h.elim
theorem cf_sortedX (hG : G.K = X.K) (hc : X.calm = true) : CallF X G (.builtin "sorted") sortedX := by
  obtain ⟨rr, h1, h2⟩ := cf_sorted hG hc
  refine ⟨_, CallR.or_ h1 (call_sorted_S hc), fun dl Z O r sg ds vs H Q E A rl h => ?_⟩
  unfold sortedX at h
  split at h
  · rename_i s
    obtain ⟨v, rfl, rp⟩ := rl.one
    split at h
    case isFalse => exact h.elim
    rename_i hz
    refine .inr ⟨_, by rw [rp.str], by simpa [Str.length] using hz, fun ys p hp hs hf => ?_⟩
    rw [signsOf_eq] at hp
    rw [sortedS_eq hs hp]
    exact h p _ H (.refl _ _) A.gl hf (RepL.of_strs _)
  · exact .inl (h2 dl Z O r sg ds vs H Q E A rl h)
end
end DL
set_option Elab.async false
set_option linter.all false
set_option maxRecDepth 100000
set_option maxHeartbeats 1000000
namespace L2
open PySem PySem.Spec PyProof.Rows
/-- a dict of n entries -/
def DN (p : Addr) (n : Nat) : HO := .ext fun h => (p == sysModules) = false ∧ ∃ (o : Obj) (es : Array DictEntry) (ep : Nat), h.get? p = some o ∧ o.ExactDict ∧ o.data = .dict es ep ∧ es.size = n
def addKey (ks : List (List Key)) (k : List Key) : List (List Key) := if (ks.any fun x => decide (x = k)) = true then ks else ks ++ [k]
theorem any_key {ks : List (List Key)} {k : List Key} : (ks.any fun x => decide (x = k)) = true ↔ k ∈ ks := by
  rw [List.any_eq_true]
  exact ⟨fun ⟨x, hx, e⟩ => of_decide_eq_true e ▸ hx, fun h => ⟨k, h, decide_eq_true rfl⟩⟩
def ndKeys (ks : List (List Key)) : List (List Key) := ks.foldl addKey []
theorem atKey_some {xs : List (List Key × Addr × Value)} {k : List Key} : (atKey xs k).isSome = true ↔ k ∈ xs.map (·.1) := by
  unfold atKey
  rw [Option.isSome_map, List.find?_isSome]
  constructor
  · rintro ⟨x, hx, e⟩
    exact List.mem_map.mpr ⟨x, hx, of_decide_eq_true e⟩
  · intro h
    obtain ⟨x, hx, e⟩ := List.mem_map.mp h
    exact ⟨x, hx, decide_eq_true e⟩
theorem keys_storedH (xs : List (List Key × Addr × Value)) (k : List Key) (a : Addr) (v : Value) : (storedH xs k a v).map (·.1) = addKey (xs.map (·.1)) k := by
  unfold storedH addKey
  by_cases h : k ∈ xs.map (·.1)
  · rw [if_pos (any_key.mpr h), if_pos (atKey_some.mpr h), List.map_map]
    refine List.map_congr_left fun x _ => ?_
    show (putAt k v x).1 = x.1
    unfold putAt
    split <;> rfl
  · rw [if_neg (fun z => h (any_key.mp z)), if_neg (fun z => h (atKey_some.mp z)), List.map_append]
    rfl
theorem keys_storedAll : ∀ (ps xs : List (List Key × Addr × Value)), (storedAllH xs ps).map (·.1) = (ps.map (·.1)).foldl addKey (xs.map (·.1))
  | [], xs => rfl
  | p :: ps, xs => by
    show (storedAllH (storedH xs p.1 p.2.1 p.2.2) ps).map (·.1) = _
    rw [keys_storedAll ps, keys_storedH]
    rfl
section
variable {X : Cx}
theorem tup_pairs {pins : List (Addr × Obj)} {σ : L2.St} {H : Hp} {s : Shared} (I : Inv X pins σ H s) : ∀ {ps : List Addr} {kvs : List (List Key × V)}, Paired (fun (p : Addr) (kv : List Key × V) => ∃ b, SqT X.K H p [.ref b, kv.2] ∧ SqT X.K H b (kv.1.map kV)) ps kvs →
    ∃ prs : List (List Key × Addr × Value), prs.map (·.1) = kvs.map (·.1) ∧ prs.length = ps.length ∧ ∀ (j : Nat) (q : List Key × Addr × Value), prs[j]? = some q → ∃ (b : Addr), ps[j]? = some b ∧ IsTup s.heap b #[.ref q.2.1, q.2.2] ∧ (tupleKind (mixKind X.prog X.w)).is s.heap q.1 q.2.1
  | _, _, .nil => ⟨[], rfl, rfl, fun j q e => by simp at e⟩
  | _, _, .cons (a := p) (b := kv) h t => by
    obtain ⟨prs, hk, hl, hp⟩ := tup_pairs I t
    obtain ⟨b, h1, h2⟩ := h
    obtain ⟨its, rv, ht, _⟩ := I.tuple h1
    obtain ⟨u, y, ei, ru, ry⟩ := vals2 rv
    subst ei
    cases ru
    obtain ⟨its2, rv2, ⟨o, e1, e2, n, e3⟩, _⟩ := I.tuple h2
    refine ⟨(kv.1, b, y) :: prs, by rw [List.map_cons, List.map_cons, hk], by rw [List.length_cons, List.length_cons, hl], fun j q e => ?_⟩
    cases j with
    | zero =>
      have e' : (kv.1, b, y) = q := Option.some.inj e
      subst e'
      exact ⟨p, rfl, ht, o, its2.toArray, n, e1, e2, e3, by simpa using items_are rv2⟩
    | succ j =>
      obtain ⟨b, e1, e2, e3⟩ := hp j q (by simpa using e)
      exact ⟨b, by simpa using e1, e2, e3⟩
def rDictN (K : PySem.W.Frag) : List V → Hp → VK → Prop := fun xs H Q => ∃ (a : Addr) (ps : List Addr) (kvs : List (List Key × V)), xs = [.ref a] ∧ SqL K H a (ps.map V.ref) ∧ Paired (fun (p : Addr) (kv : List Key × V) => ∃ b, SqT K H p [.ref b, kv.2] ∧ SqT K H b (kv.1.map kV)) ps kvs ∧
    ∀ p, H p = none → Q (.ref p) (upd H p (DN p (ndKeys (kvs.map (·.1))).length))
theorem call_dictN (hcalm : X.calm = true) (hu : X.A.units + 3 < cLine) : CallR X (.type "dict") (rDictN X.K) := by
  intro pins s σ H xs us Q I r q
  obtain ⟨a, ps, kvs, ex, hq, hp, q⟩ := q
  subst ex
  obtain ⟨u, eu, rx⟩ := vals1 r
  subst eu
  cases rx
  obtain ⟨its, rv, pl, hz⟩ := I.list hq
  have ei := refs_at rv
  subst ei
  rw [List.length_map] at hz
  obtain ⟨prs, hk, hl, hpr⟩ := tup_pairs I hp
  obtain ⟨o, n, ho, hc, hd, hdat⟩ := pl
  have prsAt : ∀ {j : Nat} {k v : Value}, (prs.map fun q => ((Value.ref q.2.1 : Value), q.2.2))[j]? = some (k, v) → ∃ q, prs[j]? = some q ∧ k = .ref q.2.1 ∧ v = q.2.2 := fun {j k v} e => by
    rw [List.getElem?_map] at e
    obtain ⟨q, hq, e2⟩ := Option.map_eq_some_iff.mp e
    cases e2
    exact ⟨q, hq, rfl, rfl⟩
  refine call_dict_pairsH (knd := tupleKind (mixKind X.prog X.w)) (ps := prs) (PairArg.list a (ps.map Value.ref).toArray (fun j => ps.getD j 0) (prs.map fun q => ((Value.ref q.2.1 : Value), q.2.2))) (I.ok.hd hcalm) (by show X.A.in1.in1.units < cLine; simp only [units_in1]; omega) ⟨⟨o, n, ho, hc, hd, hdat⟩, by simp [hl], fun j k v e => ?_⟩ ⟨by simp, fun i key v e => ?_⟩ (fun h' kk x hx => ?_) (by rw [List.length_map, hl]; exact hz) fun h' tk hd' k => ?_
  · obtain ⟨q, hq2, rfl, rfl⟩ := prsAt e
    obtain ⟨b, e1, e2, e3⟩ := hpr j q hq2
    refine ⟨by simp [e1, List.getD_eq_getElem?_getD], .inl ?_⟩
    have : ps.getD j 0 = b := by rw [List.getD_eq_getElem?_getD, e1]; rfl
    show s.heap.IsTuple (ps.getD j 0) _
    rw [this]
    exact e2
  · obtain ⟨q, hq2, rfl, rfl⟩ := prsAt e
    exact ⟨q.1, q.2.1, hq2, rfl⟩
  · obtain ⟨j, hj⟩ := List.mem_iff_getElem?.mp hx
    obtain ⟨b, e1, e2, o3, it3, n3, e3, e4, e5, e6⟩ := hpr j x hj
    exact ⟨o3, it3, n3, kk _ _ (Nat.ne_of_lt (Heap.lt_size e3)) (by simp) e3, e4, e5, e6⟩
  · have hlen := hd'
    obtain ⟨od, es, ep, f1, f2, f3, f4, f5, f6⟩ := hd'
    refine ⟨.ref s.heap.objs.size, upd H s.heap.objs.size (DN s.heap.objs.size (ndKeys (kvs.map (·.1))).length), I.laid (t' := tk) (fun b ob e => k b ob (by simp) e) (Nat.le_refl _) ⟨⟨beq_eq_false_iff_ne.mpr (Nat.ne_of_gt I.big), od, es, ep, f1, f2, f3, ?_⟩, ⟨od, f1⟩, fun h1 h2 ⟨g0, o1, es1, ep1, g1, g2, g3, g4⟩ st => ⟨g0, o1, es1, ep1, st _ g1, g2, g3, g4⟩⟩, rfl, q _ (I.hok.fresh (Nat.le_refl _))⟩
    have e1 := keys_storedAll prs []
    rw [hk] at e1
    have e2 := congrArg List.length f4
    have e3 := congrArg List.length e1
    simp only [List.length_map, Array.length_toList] at e2 e3
    rw [e2, e3]
    rfl
def rLenN : List V → Hp → VK → Prop := fun xs H Q => ∃ (p : Addr) (n : Nat), xs = [.ref p] ∧ H p = some (DN p n) ∧ n ≤ 16777216 ∧ Q (.int (n : Nat)) H
theorem call_len_N : CallR X (.builtin "len") rLenN := by
  intro pins s σ H xs us Q I r h
  obtain ⟨p, n, rfl, hp, hn, q⟩ := h
  obtain ⟨u, rfl, rx⟩ := vals1 r
  obtain rfl : u = .ref p := rx
  obtain ⟨⟨hsys, o, es, ep, f1, f2, f3, f4⟩, _, _⟩ := I.hok p _ hp
  have hr : s.heap.DictRaw p es ep := ⟨o, f1, f2, f3⟩
  refine Calls.call_function_entry kind_len plain_len entry_len (args_len1 _) ?_
  unfold Builtin.«len»
  refine wpAny_bind (m := oneArg "len" _) (wpAny_pure ?_)
  refine wpAny_bind (m := callSpecial? (.ref p) (Str.ofString "__len__")) (wpAny_callSpecial?_slot (name := Str.ofString "__len__") hr.typeIs PySem.F.slot_dict_len
    (call_len_raw hsys hr ?_))
  show wpAny _ _ _ _ _ { s with toks := s.toks + 1 }
  refine wpAny_bind (wpAny_holding (wpAny_pure ?_))
  refine wpAny_bind (wpAny_letGo ?_)
  show wpAny _ _ (if ((es.size : Nat) : Int) < 0 then _ else _) _ _ _
  rw [if_neg (by omega)]
  show wpAny _ _ (if ((es.size : Nat) : Int) ≥ 2 ^ 63 then _ else _) _ _ _
  rw [if_neg (by omega)]
  refine wpAny_bind (wpAny_mkInt (wpAny_pure ⟨_, rfl, ?_⟩))
  rw [f4]
  exact ⟨.int (n : Nat), H, I.tok _, ⟨_, rfl⟩, q⟩
end
end L2
namespace DL
open PySem L2 PySem.Spec PyProof.Rows
def keysD : List D → Option (List D)
  | [] => some []
  | .int i :: r => (keysD r).map (.int i :: ·)
  | .str s :: r => (keysD r).map (.str s :: ·)
  | _ :: _ => none
def keqsD : List D → List D → Bool
  | [], [] => true
  | a :: r, b :: t => a.keq b && keqsD r t
  | _, _ => false
/-- the keys of pairs whose keys are tuples -/
def tkeysD : List D → Option (List (List D))
  | [] => some []
  | .tup [.tup ks, _] :: ds => (match keysD ks, tkeysD ds with
    | some k, some r => some (k :: r)
    | _, _ => none)
  | _ :: _ => none
def addD_ (acc : List (List D)) (k : List D) : List (List D) := if (acc.any fun x => keqsD x k) = true then acc else acc ++ [k]
def lenDD : D → R D
  | .lst ds => (match pairsD ds with
    | some ps => .ok (.int ((mergeD [] ps).length : Nat))
    | none => match tkeysD ds with
      | some ks => if ds.length ≤ 16777216 then .ok (.int ((ks.foldl addD_ []).length : Nat)) else .stuck
      | none => .stuck)
  | _ => .stuck
def lenDictE (f : LE → R D) : LE → R D := fun r => f r >>= lenDD
def D.keyOf : D → Key
  | .int i => .inl i
  | .str s => .inr ⟨s.toArray⟩
  | _ => .inl 0
section
variable {X : Cx} {G : Gm} {W : WX} {dl : Addr} {S : Hp} {f : LE → R D} {e : Expr} {p p2 pos pos2 : Pos}
theorem keysD_rep : ∀ {ks k : List D} {vs : List V}, keysD ks = some k → RepL G dl S ks vs → k = ks ∧ vs = (k.map D.keyOf).map kV
  | [], k, vs, h, rl => by
    cases h
    unfold RepL at rl
    exact ⟨rfl, rl⟩
  | d :: ks, k, vs, h, rl => by
    unfold RepL at rl
    obtain ⟨v, r, rfl, h1, h2⟩ := rl
    cases d <;> first | (simp [keysD] at h; done) | skip
    all_goals
      unfold keysD at h
      cases e : keysD ks with
      | none => rw [e] at h; cases h
      | some t =>
        rw [e] at h
        cases h
        obtain ⟨e1, e2⟩ := keysD_rep e h2
        unfold Rep at h1
        rw [h1, e2, e1]
        exact ⟨rfl, rfl⟩
theorem keysD_plain : ∀ {ks k : List D}, keysD ks = some k → keysD k = some k
  | [], k, h => by cases h; rfl
  | d :: ks, k, h => by
    cases d <;> first | (simp [keysD] at h; done) | skip
    all_goals
      unfold keysD at h
      cases e : keysD ks with
      | none => rw [e] at h; cases h
      | some t =>
        rw [e] at h
        cases h
        unfold keysD
        rw [keysD_plain e]
        rfl
theorem keqs_key : ∀ {a b : List D}, keysD a = some a → keysD b = some b → keqsD a b = decide (a.map D.keyOf = b.map D.keyOf)
  | [], [], _, _ => by simp [keqsD]
  | [], y :: b, _, _ => by simp [keqsD]
  | x :: a, [], _, _ => by simp [keqsD]
  | x :: a, y :: b, h1, h2 => by
    have k1 : x.key = some x.keyOf ∧ keysD a = some a := by
      cases x <;> first | (simp [keysD] at h1; done) | skip
      all_goals
        unfold keysD at h1
        cases e : keysD a with
        | none => rw [e] at h1; cases h1
        | some t => rw [e] at h1; have := Option.some.inj h1; exact ⟨rfl, by rw [(List.cons.inj this).2]⟩
    have k2 : y.key = some y.keyOf ∧ keysD b = some b := by
      cases y <;> first | (simp [keysD] at h2; done) | skip
      all_goals
        unfold keysD at h2
        cases e : keysD b with
        | none => rw [e] at h2; cases h2
        | some t => rw [e] at h2; have := Option.some.inj h2; exact ⟨rfl, by rw [(List.cons.inj this).2]⟩
    unfold keqsD
    rw [keq_key k1.1 k2.1, keqs_key k1.2 k2.2, Bool.eq_iff_iff]
    simp
theorem add_keys : ∀ (ks acc : List (List D)), (∀ k ∈ ks, keysD k = some k) → (∀ k ∈ acc, keysD k = some k) →
    (ks.foldl addD_ acc).map (fun k => k.map D.keyOf) = (ks.map fun k => k.map D.keyOf).foldl addKey (acc.map fun k => k.map D.keyOf)
  | [], acc, _, _ => rfl
  | k :: ks, acc, h1, h2 => by
    rw [List.foldl_cons, List.map_cons, List.foldl_cons]
    have hk := h1 k List.mem_cons_self
    have e : (addD_ acc k).map (fun k => k.map D.keyOf) = addKey (acc.map fun k => k.map D.keyOf) (k.map D.keyOf) := by
      unfold addD_ addKey
      have : (acc.any fun x => keqsD x k) = ((acc.map fun k => k.map D.keyOf).any fun x => decide (x = k.map D.keyOf)) := by
        rw [List.any_map]
        have : ∀ l : List (List D), (∀ x ∈ l, keysD x = some x) → (l.any fun x => keqsD x k) = l.any ((fun x => decide (x = k.map D.keyOf)) ∘ fun k => k.map D.keyOf) := fun l => by
          induction l with
          | nil => intro _; rfl
          | cons x l ih =>
            intro h
            rw [List.any_cons, List.any_cons, ih fun y hy => h y (List.mem_cons_of_mem _ hy), keqs_key (h x List.mem_cons_self) hk]
            rfl
        exact this acc h2
      rw [this]
      split
      · rfl
      · rw [List.map_append]; rfl
    rw [← e]
    refine add_keys ks _ (fun k hk => h1 k (List.mem_cons_of_mem _ hk)) fun x hx => ?_
    unfold addD_ at hx
    split at hx
    · exact h2 x hx
    · rcases List.mem_append.mp hx with hx | hx
      · exact h2 x hx
      · rw [List.mem_singleton.mp hx]; exact hk
theorem tkeys_rep : ∀ {ds : List D} {ks : List (List D)} {vs : List V}, tkeysD ds = some ks → RepL G dl S ds vs →
    (∀ k ∈ ks, keysD k = some k) ∧ ∃ (ps : List Addr) (kvs : List (List Key × V)), vs = ps.map V.ref ∧ kvs.map (·.1) = ks.map (fun k => k.map D.keyOf) ∧ Paired (fun (p : Addr) (kv : List Key × V) => ∃ b, SqT G.K S p [.ref b, kv.2] ∧ SqT G.K S b (kv.1.map kV)) ps kvs
  | [], ks, vs, h, rl => by
    cases h
    unfold RepL at rl
    exact ⟨(fun k hk => by cases hk), [], [], rl, rfl, Paired.nil⟩
  | d :: ds, ks, vs, h, rl => by
    unfold RepL at rl
    obtain ⟨v, r, rfl, h1, h2⟩ := rl
    unfold tkeysD at h
    split at h
    · cases ‹_ = []›
    · rename_i kk x ds' heq
      injection heq with q1 q2
      subst q1 q2
      split at h
      · rename_i k t hk ht
        cases h
        obtain ⟨z, ps, kvs, e1, e2, e3⟩ := tkeys_rep ht h2
        unfold Rep at h1
        obtain ⟨a, us, rfl, hs, hl⟩ := h1
        unfold RepL at hl
        obtain ⟨u1, r1, rfl, g1, g2⟩ := hl
        unfold RepL at g2
        obtain ⟨u2, r2, rfl, g3, g4⟩ := g2
        unfold RepL at g4
        subst g4
        unfold Rep at g1
        obtain ⟨b, ws, rfl, hs2, hl2⟩ := g1
        obtain ⟨e4, e5⟩ := keysD_rep hk hl2
        refine ⟨(fun y hy => ?_), a :: ps, (k.map D.keyOf, u2) :: kvs, by rw [e1]; rfl, by rw [List.map_cons, List.map_cons, e2], .cons ⟨b, SqT.of hs, by rw [← e5]; exact SqT.of hs2⟩ e3⟩
        rcases List.mem_cons.mp hy with rfl | hy
        · exact keysD_plain hk
        · exact z y hy
      · cases h
    · cases h
theorem paired_mono {K : PySem.W.Frag} {S S' : Hp} (g : GrowS S S') {ps : List Addr} {kvs : List (List Key × V)} (h : Paired (fun (p : Addr) (kv : List Key × V) => ∃ b, SqT K S p [.ref b, kv.2] ∧ SqT K S b (kv.1.map kV)) ps kvs) :
    Paired (fun (p : Addr) (kv : List Key × V) => ∃ b, SqT K S' p [.ref b, kv.2] ∧ SqT K S' b (kv.1.map kV)) ps kvs := Paired.mapP h fun _ _ ⟨b, h1, h2⟩ => ⟨b, g.sqt h1, g.sqt h2⟩
theorem de_lenDict (hG : G.K = X.K) (hc : X.calm = true) (hu : X.A.units + 70 < cLine) (hgl : Gl X "len") (hml : X.mg "len" = none) (hgd : Gl X "dict") (hmd : X.mg "dict" = none) (he : DE X G W e f)
    (hse : starEach [e] X.env = (false, eval e X.env) :: starEach [] X.env := by rfl)
    (hsl : starEach [.Call (.Name "dict" p2) [e] [] pos2] X.env = (false, eval (.Call (.Name "dict" p2) [e] [] pos2) X.env) :: starEach [] X.env := by rfl) :
    DE X G W (.Call (.Name "len" p) [.Call (.Name "dict" p2) [e] [] pos2] [] pos) (lenDictE f) := by
  refine PE_imp (pe_callB (CallR.or_ (call_lenD (X := X)) call_len_N) hgl hml rfl (pa_cons (pe_callTy (CallR.or_ (call_dictP hc) (call_dictN hc (by omega))) hgd hmd rfl (pa_cons he pa_nil hse) (he := hse)) pa_nil hsl) (by decide) (by decide) hsl rfl) fun sg H Q ⟨dl, Z, O, r, A, q⟩ => ?_
  refine ⟨dl, Z, O, r, A, (Wp.bind q).thn fun d hd v H1 g1 k1 rp => ?_⟩
  have A1 := A.grow g1 k1
  unfold lenDD at hd
  split at hd
  · rename_i ds
    unfold Rep at rp
    obtain ⟨a, us, rfl, hs, rl⟩ := rp
    split at hd
    · rename_i ps hps
      obtain ⟨as, kv, rfl, h3, h4⟩ := pairsD_rep hps rl
      refine .inl ⟨a, as, kv, rfl, SqL.of (cut_some hs).2, hG ▸ h3, fun p hp => .inl ⟨p, mergeK [] kv, rfl, upd_same, ?_⟩⟩
      have hR := RepK_merge (G := G) (dl := dl) (S := cut H1 Z) ps h4 (by unfold RepK; rfl : RepK G dl (cut H1 Z) [] [])
      have : (mergeK [] kv).length = (mergeD [] ps).length := by
        have : ∀ {kvs : List (D × D)} {kv : List (Key × V)}, RepK G dl (cut H1 Z) kvs kv → kv.length = kvs.length := fun {kvs} => by
          induction kvs with
          | nil => intro kv h; unfold RepK at h; subst h; rfl
          | cons x kvs ih =>
            intro kv h
            obtain ⟨k, d⟩ := x
            unfold RepK at h
            obtain ⟨_, _, r, rfl, _, _, h2⟩ := h
            rw [List.length_cons, List.length_cons, ih h2]
        exact this hR
      rw [this]
      exact hd _ _ (g1.trans (.new hp)) (A1.gl.new hp) Rep.int_
    · split at hd
      · rename_i ks hks
        split at hd
        case isFalse => exact hd.elim
        rename_i hz
        obtain ⟨z, ps, kvs, rfl, e2, h3⟩ := tkeys_rep hks rl
        have hlen : (ndKeys (kvs.map (·.1))).length = (ks.foldl addD_ []).length := by
          have := congrArg List.length (add_keys ks [] z fun k hk => by cases hk)
          rw [List.length_map] at this
          unfold ndKeys
          rw [e2, this]
          rfl
        have hb : (ks.foldl addD_ []).length ≤ 16777216 := by
          have h1 : ∀ (l acc : List (List D)), (l.foldl addD_ acc).length ≤ acc.length + l.length := fun l => by
            induction l with
            | nil => intro acc; exact Nat.le_refl _
            | cons x l ih =>
              intro acc
              refine Nat.le_trans (ih _) ?_
              have : (addD_ acc x).length ≤ acc.length + 1 := by
                unfold addD_
                split
                · omega
                · simp
              rw [List.length_cons]
              omega
          have h2 := h1 ks []
          have h3 : ks.length = ds.length := by
            have : ∀ {ds : List D} {ks : List (List D)}, tkeysD ds = some ks → ks.length = ds.length := fun {ds} => by
              induction ds with
              | nil => intro ks h; cases h; rfl
              | cons d ds ih =>
                intro ks h
                unfold tkeysD at h
                split at h
                · cases ‹_ = []›
                · rename_i heq
                  injection heq with q1 q2
                  subst q1 q2
                  split at h
                  · rename_i k t hk ht
                    cases h
                    rw [List.length_cons, List.length_cons, ih ht]
                  · cases h
                · cases h
            exact this hks
          rw [List.length_nil] at h2
          omega
        refine .inr ⟨a, ps, kvs, rfl, SqL.of (cut_some hs).2, hG ▸ paired_mono (cut_grow H1 Z) h3, fun p hp => .inr ⟨p, _, rfl, upd_same, by rw [hlen]; exact hb, ?_⟩⟩
        rw [hlen]
        exact hd _ _ (g1.trans (.new hp)) (A1.gl.new hp) Rep.int_
      · exact hd.elim
  · exact hd.elim
end
end DL
set_option Elab.async false
set_option linter.all false
set_option maxRecDepth 100000
set_option maxHeartbeats 2000000
set_option Elab.async false
set_option linter.all false
set_option maxRecDepth 100000
set_option maxHeartbeats 2000000
namespace DL
open PySem L2 PySem.Spec PyProof.Rows
end DL
set_option Elab.async false
set_option linter.all false
set_option maxRecDepth 100000
set_option maxHeartbeats 2000000
namespace DL
open PySem L2 PySem.Spec PyProof.Rows
end DL
set_option Elab.async false
set_option linter.all false
set_option maxRecDepth 100000
set_option maxHeartbeats 2000000
namespace DL
open PySem L2 PySem.Spec PyProof.Rows
end DL
set_option Elab.async false
set_option linter.all false
set_option maxRecDepth 100000
set_option maxHeartbeats 2000000
namespace DSX
open PySem PySem.W PySem.Spec PySem.Calls PyProof.Rows L2
abbrev exE (C t0 : Addr) (d : Option Addr) : Obj := { cls := .ref C, dict := d, data := .fields #[.ref t0, .none, .none, .none, .bool false, .none] }
abbrev supBody (p0 p1 p2 p3 p4 p5 p6 p7 p8 p9 : Pos) (txt : Str) (j : Nat) (fx px : Str) : List Stmt :=
  [.Expr (.Call (.Attribute (.Call (.Name "super" p0) [] [] p1) "__init__" p2) [.Constant (.str txt) j p3] [] p4) p5, .Assign [.Attribute (.Name "self" p6) fx p7] (.Name px p8) p9]
section
variable {prog : Program} {w : World} {A : Around} {E : Value → Shared → Prop} {K : Frag} {mg mb : Str → Option Value} {R : Result → Shared → Prop} {h : Heap} {g : Array GenState} {dr : Drawn} {tk : Nat} {os : OsState}
/-- ValueError.__init__ bound to the exception, called -/
theorem call_mw {u x C t0 : Addr} {rest : List Value} {nm q : Str} {N : Addr} {bs bm : List Value} {hdct : Bool} {sn : List Str} {sub : List Value} {ab : Bool} {col : Option Bool} {dd : Option Addr} {k0 k1 k2 k3 k5 : Option Value} {Q : Value → Shared → Prop}
    (hC : h.get? C = some (excClassObj nm q C N bs bm hdct sn sub ab col dd k0 k1 k2 k3 k5 "ValueError.__new__")) (hx : h.get? x = some (exE C t0 none)) (hu : h.get? u = some (kxs_mw "ValueError.__init__" x)) (hz : rest.length ≤ sizeLine)
    (hq : ∀ h' t1, (∀ b o, b ≠ x → h.get? b = some o → h'.get? b = some o) → h'.get? x = some (exE C t1 none) → Q .none ⟨h', g, dr, tk, os⟩) :
    wpAny (model prog w) A (call (.ref u) rest) Q E ⟨h, g, dr, tk, os⟩ := by
  refine wpAny_call (codeAny_of_tree ?_)
  show wpAny _ A.in1 (callAny (.ref u) ⟨rest, []⟩) _ _ _
  simp only [callAny]
  refine wpAny_bind (wpAny_load hu ?_)
  simp only [kxs_mw, show (Value.type "method-wrapper" == Value.type "method" || Value.type "method-wrapper" == Value.type "builtin_function_or_method" || Value.type "method-wrapper" == Value.type "method-wrapper") = true by decide, if_true]
  refine KFB.if_so (by decide) ?_
  refine wpAny_bind (check_bound_init F.excBase_ValueError.toExcCallFacts hC hx rfl ?_)
  refine wpAny_bind (wpAny_pure (wpAny_pure ?_))
  refine ⟨plainId_quiet F.excBase_ValueError.init.plain _, codeAny_builtin F.excBase_ValueError.initEntry ?_⟩
  rw [Around.under_plainId F.excBase_ValueError.init.plain _]
  wp_walk
  refine hq _ h.objs.size (fun b o hb ho => ?_) ?_
  · rw [Heap.get?_update_other _ _ (Ne.symm hb)]
    exact Heap.get?_push_of_some _ ho
  · rw [Heap.get?_update_self _ (Heap.get?_push_of_some _ hx) rfl]
    rfl
/-- what the written part says of the class -/
structure SupC (prog : Program) (K : Frag) (mg : Str → Option Value) (C fI : Addr) (fd : FuncData) : Prop where
  oex : L2.OexC K C
  iC : findIn K (.ref C) "__init__" = some (some (.ref fI))
  tI : typeIn K (.ref fI) = some (.type "function")
  subC : mroIn K C (.ref C) = some true
  subV : subIn K (.ref C) (.type "ValueError") = some true
  supr : ks_superIn K C C "__init__" = some (some (.builtin "ValueError.__init__"))
  opq : nsIn K cStatics "thirdparty.any" = some none
  mgS : mg "super" = none
  fn : ∃ (p0 p1 p2 p3 p4 p5 p6 p7 p8 p9 : Pos) (txt : Str) (j : Nat) (fx px name qual file : Str) (tf : Tok) (params : Arguments) (scope : Scope) (dV kV doc pm ct oc ccl cl : Value) (an od cdd cld : Option Addr) (osl ccs csl : Array (Option Value)) (vs : Array Value) (cc cda : Addr) (ar : Arg),
    fd = ksFn name qual params (supBody p0 p1 p2 p3 p4 p5 p6 p7 p8 p9 txt j fx px) scope dV kV doc pm an (.ref cda) ct cc ∧
    K.lookup fI = some ⟨oc, od, .func fd, osl⟩ ∧ codeIn K (.ref cda) qual = true ∧ K.lookup cda = some ⟨ccl, cdd, .fields vs, ccs⟩ ∧ vs[2]? = some (.str file tf) ∧ ((prog.main.file : Str) == file) = true ∧
    K.lookup cc = some ⟨cl, cld, .cell (some (.ref C)), csl⟩ ∧ (params.posonlyargs ++ params.args).head? = some ar ∧ ar.arg = "self" ∧ px ≠ "self" ∧ findIn K (.ref C) fx = some none ∧
    scope.names.lookup ("super" : Str) = some .globalImplicit ∧ scope.names.lookup ("__class__" : Str) = some .free ∧ scope.names.lookup ("self" : Str) = some .local ∧ scope.names.lookup px = some .local ∧ (∀ x ∈ scope.names, x.2 ≠ .cell) ∧
    scope.isCoroutine = false ∧ scope.isGenerator = false ∧ scope.kind = .function ∧ (prog.main.scope.names.lookup ("super" : Str)).isSome = false ∧ (px == ("__debug__" : Str)) = false ∧ (p2.endLine == p4.line) = true ∧
    (∀ (s : Shared) (a u : Value), BindsTo s fd ⟨[a, u], []⟩ [("self", a), (px, u)])
end
end DSX
namespace DSX
open PySem PySem.W PySem.Spec PySem.Calls PyProof.Rows L2
section
variable {prog : Program} {w : World} {A : Around} {E : Value → Shared → Prop} {K : Frag} {mg mb : Str → Option Value} {R : Result → Shared → Prop} {h : Heap} {g : Array GenState} {dr : Drawn} {tk : Nat} {os : OsState}
theorem ld_loc {M : Model} {s : Shared} {env : Env} {m : Str → Option Value} {x : Str} {pos : Pos} {v : Value} {Q : Value → Shared → Prop} (hn : s.heap.Ns env.locals m) (hv : m x = some v) (h : Q v s)
    (hk : env.scope.kind = .function) (hl : env.kindOf x = some .local) (hd : (x == ("__debug__" : Str)) = false) : wpAny M A (eval (.Name x pos) env) Q E s := wpAny_Name (wpAny_loadName_local hk hl hn hv h) hd
theorem he_of {env : Env} {o e : Expr} {name : Str} {apos pos : Pos} (hl : (apos.endLine == pos.line) = true) (hs : starEach [e] env = [(false, eval e env)]) :
    eval (.Call (.Attribute o name apos) [e] [] pos) env = (do
      let ov ← attributeBase o name env (eval o env)
      standAt apos.atName
      let (f, first) ← holding [ov] (getMethod ov name (do return (← importBound o env).getD true))
      callWith pos f first (backTo pos (starEach [e] env)) []) := by
  rw [arm_eval_Call]
  have hf : methodCallForm ([e].length + ([] : List Keyword).length) (backTo pos (starEach [e] env)) (backToKw pos (keywordEach [] env)) = true := by rw [hs]; rfl
  unfold methodCall calleeOf methodCallPos
  rw [hf]
  simp only [hl, if_true, Bool.not_true, Bool.or_true, pure_bind]
  rfl
theorem sup_code {C fI x t0 : Addr} {fd : FuncData} {u : Value} (T : SupC prog K mg C fI fd) (X : K.In h) (glob : h.Ns mainGlobals mg) (blt : h.Ns builtinsNs mb) (hmb : ∀ y : Str, y ≠ "__name__" → mb y = bootBuiltins y) (lim : h.NoLimit) (hroom : A.depth < recursionLimit)
    (hx : h.get? x = some (exE C t0 none)) (hKx : K.lookup x = none)
    (hq : ∀ h' tk' d t1, (∀ b o, b ≠ x → h.get? b = some o → h'.get? b = some o) → h'.get? x = some (exE C t1 (some d)) → R (.ok (.ret .none)) ⟨h', g, dr, tk', os⟩) :
    codeAny (model prog w) A (.call (.ref fI) ⟨[.ref x, u], []⟩) R ⟨h, g, dr, tk, os⟩ := by
  obtain ⟨p0, p1, p2, p3, p4, p5, p6, p7, p8, p9, txt, j, fx, px, name, qual, file, tf, params, scope, dV, kV, doc, pm, ct, oc, ccl, cl, an, od, cdd, cld, osl, ccs, csl, vs, cc, cda, ar, rfl, lk, hcd, lcd, hvs, hfile, hcell, hp, hself, hps, noF, ks, kc, ksf, kp, hnc, hco, hgen, hk, htop, hdb, hline, hbind⟩ := T.fn
  obtain ⟨nm, q, N, bs, bm, sn, sub, ab, col, dd, k0, k1, k2, k3, k5, hC, hbm⟩ := T.oex.cls
  have hcl : clsIn K C = some { name := nm, bases := bs, mro := .ref C :: bm, ns := N, qualname := q, hasDict := true, slotNames := sn, subclasses := sub, abstract := ab, collection := col, hasDel := false } := by unfold clsIn; rw [hC] <;> rfl
  have xC : x ≠ C := fun z => by
    rw [z, X _ _ hC] at hx
    cases hx
  refine ks_codeAny_call_defAt (s := ⟨h, g, dr, tk, os⟩) hroom (X _ _ lk) rfl lim (codeRec_of X hcd) rfl (hbind _ _ _) hnc (fun y hy => ?_) (fun h₁ hns hk₁ => ?_) hco hgen hk
  · simp only [List.mem_cons, List.not_mem_nil, or_false] at hy
    rcases hy with rfl | rfl
    · exact ksf
    · exact kp
  have X1 : K.In h₁ := X.keeps hk₁
  have hx1 := hk₁ _ _ hx
  refine ks_wpAt_execs_cons (ks_wpAt_Expr_any (hi := by simp [interactive, callEnv, newEnv, hk]) (ks_wpAt_MethodCall (he := he_of hline rfl) (ks_wpAt_super_base (cc := cda) ks kc (by decide) rfl (hk₁ _ _ (X _ _ lk)) rfl hp rfl (hk₁ _ _ (X _ _ lcd)) rfl hvs hfile htop ?_)))
  refine ks_loadName_global hk ks (loadGlobal_builtin (glob.keeps hk₁) T.mgS (blt.keeps hk₁) ((hmb _ (by decide)).trans (by rfl)) ⟨rfl, ?_⟩)
  refine wpAny_loadName_free hk kc rfl ⟨_, hk₁ _ _ (X _ _ hcell), rfl⟩ ?_
  rw [hself]
  have hvs1 : ([(("self" : Str), Value.ref x), (px, u)] : List (Str × Value)).reverse.lookup ("self" : Str) = some (Value.ref x) := by
    show (match (("self" : Str) == px) with | true => some u | false => List.lookup ("self" : Str) [(("self" : Str), Value.ref x)]) = _
    rw [show (("self" : Str) == px) = false from beq_eq_false_iff_ne.mpr (Ne.symm hps)]
    rfl
  have hvs2 : ([(("self" : Str), Value.ref x), (px, u)] : List (Str × Value)).reverse.lookup px = some u := by
    show (match (px == px) with | true => some u | false => List.lookup px [(("self" : Str), Value.ref x)]) = _
    rw [beq_self_eq_true px]
  refine wpAny_loadName_local hk ksf hns (v := .ref x) hvs1 ?_
  refine ks_wpAny_isType_cls (hk₁ _ _ (X _ _ hC)) rfl ⟨rfl, ?_⟩
  refine ks_wpAny_call_super (hk₁ _ _ (X _ _ hC)) rfl hx1 rfl (fun c z => by cases z) (looks_mroIn X1 T.subC) (fun h₂ e₂ k₂ => ?_)
  have X2 : K.In h₂ := X1.keeps k₂
  have hx2 := k₂ _ _ hx1
  have I2 : InstAt h₂ x (exE C t0 none) C none := ⟨hx2, rfl, rfl, trivial⟩
  have hsup := T.supr
  unfold ks_superIn at hsup
  rw [hcl] at hsup
  refine kxs_getMethod kxs_ValueError e₂ (looks_opaque X2 T.opq) (fun A Q E s k q => wpAny_bind ((looks_clsIn X2 hcl) A _ E s k (wpAny_pure q))) rfl X2 hsup (I2.type.andThen (looks_subIn X2 T.subV)) xC (by decide) ?_
  have k3 : ∀ b o, h₂.get? b = some o → (h₂.push (kxs_mw "ValueError.__init__" x)).get? b = some o := fun b o e => Heap.get?_push_of_some _ e
  have hu3 : (h₂.push (kxs_mw "ValueError.__init__" x)).get? h₂.objs.size = some (kxs_mw "ValueError.__init__" x) := Heap.get?_push_size _ rfl
  refine kxs_callWith (i := "ValueError.__init__") (x := x) rfl (evalArgs_plain (args_cons (Calls.Constant_str (args_nil ⟨hu3, ?_⟩)) rfl))
  refine call_mw (k3 _ _ (k₂ _ _ (hk₁ _ _ (X _ _ hC)))) (k3 _ _ hx2) hu3 (by show 1 ≤ sizeLine; rw [sizeLine_eq]; omega) fun h₄ t1 k₄ hx4 => ?_
  have kk4 : ∀ b o, b ≠ x → h.get? b = some o → h₄.get? b = some o := fun b o hb e => k₄ b o hb (k3 _ _ (k₂ _ _ (hk₁ _ _ e)))
  have X4 : K.In h₄ := fun b o e => by
    by_cases hb : b = x
    · rw [hb, hKx] at e
      cases e
    · exact kk4 b o hb (X _ _ e)
  have hLx : h.objs.size ≠ x := Ne.symm (Nat.ne_of_lt (Heap.lt_size hx))
  have hns4 : h₄.Ns h.objs.size (fun y => ([(("self" : Str), Value.ref x), (px, u)] : List (Str × Value)).reverse.lookup y) := hns.at fun o e => k₄ _ _ hLx (k3 _ _ (k₂ _ _ e))
  show _root_.PySem.wpAt _ _ _ (execs [_] _) _ _ _
  refine ks_wpAt_execs_cons (ks_wpAt_Assign_Attr (wpAt_of_wpAny (ld_loc hns4 hvs2 (ld_loc hns4 hvs1 ?_ hk ksf (by decide)) hk kp hdb)))
  refine set_plain X4 (ox := exE C t1 none) (od := none) ⟨hx4, rfl, rfl, trivial⟩ T.oex.sa ?_
  refine HandSPX.exc_osa X4 hx4 hcl (show HandSPX.refsVE (.ref C :: bm) = true from hbm) rfl noF fun h' tk' dx k dn dne hx' hn => ?_
  show _root_.PySem.wpAt _ _ _ (execs [] _) _ _ _
  rw [execs_nil]
  exact wpAt_of_wpAny (wpAny_pure (hq h' _ dx t1 (fun b o hb e => k b o hb (kk4 b o hb e)) hx'))
end
end DSX
set_option Elab.async false
set_option linter.all false
set_option maxRecDepth 100000
set_option maxHeartbeats 2000000
namespace DL
open PySem L2 PySem.Spec PyProof.Rows DSX
def errES (c : Exc) (f : LE → R D) : LE → R Out := fun r => (f r).onS r fun _ => .ok (.ex c r)
section
variable {X : Cx} {G : Gm} {W : WX} {e : Expr} {f : LE → R D} {te : TE} {p p1 pos : Pos} {x : Str} {C fI : Addr} {fd : FuncData} {k : Nat}
theorem pmk_sup (T : SupC X.prog X.K X.mg C fI fd) (hr : L2H.RoomH (k + 1) X.A) (hg : Gl X x) (hm : X.mg x = some (.ref C)) (he : PE X e te)
    (hdb : (x == ("__debug__" : Str)) = false := by decide) (hs : starEach [e] X.env = (false, eval e X.env) :: starEach [] X.env := by rfl) (hpl : (backTo pos (starEach [] X.env)).any (·.1) = false := by rfl) :
    L2N.PMk X (.Call (.Name x p) [e] [] pos) (fun σ H Q => te σ H fun _ H1 => ∀ d, Q (.ref C) (some d) H1) := by
  intro pins s σ H Q I h
  obtain ⟨nm, q, N, bs, bm, sn, sub, ab, col, dd, k0, k1, k2, k3, k5, hC, hbm⟩ := T.oex.cls
  refine wpAny_Call_Name_kw (ld_glob I hg hm ?_ hdb)
  refine PySem.W.callWith_K (h₀ := X.base) I.ok.mod.kin T.oex.kC (args_cons (thn (he.run pins s σ H _ I h) fun u s1 hu => args_nil ?_) hs) hs hpl
  obtain ⟨v, H1, I1, r1, q1⟩ := hu
  refine ⟨I1.kIn, ?_⟩
  show wpAny _ _ (call (.ref C) [u]) _ _ _
  obtain ⟨mb, hb1, hb2⟩ := I1.mod.blt
  have hglob := I1.mod.glob.keeps I1.bk
  have hblt := hb1.keeps I1.bk
  have hlim := I1.mod.nolimit.keeps I1.bk
  obtain ⟨hp, g, dr, tk, os⟩ := s1
  have hsz : hp.objs.size ≤ hp.objs.size + 1 := Nat.le_succ _
  have hn : H1 (hp.objs.size + 1) = none := I1.hok.fresh hsz
  have kk : ∀ b o, hp.get? b = some o → ((hp.push (PySem.W.kdv_tup [u])).push (PySem.HandSPX.excO C hp.objs.size)).get? b = some o := fun b o e => Heap.get?_push_of_some _ (Heap.get?_push_of_some _ e)
  have hget : ((hp.push (PySem.W.kdv_tup [u])).push (PySem.HandSPX.excO C hp.objs.size)).get? (hp.objs.size + 1) = some (exE C hp.objs.size none) := by
    show _ = some (PySem.HandSPX.excO C hp.objs.size)
    heap_get
  have nlt : ∀ {b : Addr} {o : Obj}, hp.get? b = some o → b ≠ hp.objs.size + 1 := fun {b o} z y => by
    have := Heap.lt_size z
    rw [y] at this
    exact absurd this (Nat.not_lt.mpr (Nat.le_succ _))
  have hK : X.K.lookup (hp.objs.size + 1) = none := by
    cases z : X.K.lookup (hp.objs.size + 1) with
    | none => rfl
    | some o => exact absurd rfl (nlt (I1.kIn _ _ z))
  refine wpAny_call (PySem.HandSPX.call_own F.excBase_ValueError (fun Y => PySem.HandSPX.refsVE_contains Y bm hbm) (I1.kIn _ _ hC) (PySem.W.looks_findIn I1.kIn T.iC) (fun self => PySem.W.bind_fn I1.kIn self T.tI) (by show 1 ≤ sizeLine; rw [sizeLine_eq]; omega)
    (sup_code T (I1.kIn.keeps kk) (hglob.keeps kk) (hblt.keeps kk) hb2 (hlim.keeps kk) (hr.make C [u] []).depth hget hK fun h' tk' d t1 k' hx' => ?_))
  refine ⟨rfl, ?_⟩
  exact ⟨hp.objs.size + 1, exE C t1 (some d), _, ⟨hp, g, dr, tk, os⟩, H1, .ref C, some d, rfl, I1, fun b o z => k' b o (nlt z) (kk b o z), by
    cases z : hp.get? (hp.objs.size + 1) with
    | none => rfl
    | some o => exact absurd rfl (nlt z), hx', ⟨rfl, rfl, fun vs e => by cases e; rfl⟩, rfl, rfl, hn, rfl, I1.bare, raises_own T.oex.exC T.oex.tyC, q1 d⟩
theorem ds_raiseX (c : Nat) (tk : Takes X W) (hc : X.calm = true) (T : SupC X.prog X.K X.mg (G.xcls c) fI fd) (hx : G.xfld c = none) (hr : Room (k + 1) X.A) (gC : X.mg x = some (.ref (G.xcls c))) (he : DE X G W e f)
    (hg : Gl X x := by rfl) (hdb : (x == ("__debug__" : Str)) = false := by decide) (hs : starEach [e] X.env = (false, eval e X.env) :: starEach [] X.env := by rfl) (hpl : (backTo p1 (starEach [] X.env)).any (·.1) = false := by rfl) :
    DS X G W (.Raise (some (.Call (.Name x p) [e] [] p1)) none pos) (errES ⟨c, .non⟩ f) :=
  PS_imp (LG.ps_raise hc tk (pmk_sup T (L2H.roomH_of hr) hg gC he hdb hs hpl)) fun De sg H ⟨dl, Z, O, r, A, q⟩ =>
    ⟨dl, Z, O, r, A, (onS_wp q).mono (fun d hd v H1 g1 k1 rp dx => hd Z O sg H1 _ (some dx) (Stp.of_grow g1 k1) (A.grow g1 k1) ⟨rfl, by rw [hx]⟩) fun e he => spost_ex A he⟩
end
end DL
set_option Elab.async false
set_option linter.all false
set_option maxRecDepth 100000
set_option maxHeartbeats 2000000
namespace DSX
open PySem PySem.W PySem.Spec PySem.Calls PyProof.Rows L2 DL
def supCls (K : Frag) (C : Addr) : Bool := match K.lookup C with
  | some ⟨.type "type", _, .cls cd, sl⟩ => (match cd.mro, sl.toList with
    | .ref C' :: bm, [_, _, _, _, some (.builtin n), _] => C' == C && n == "ValueError.__new__" && !cd.hasDel && cd.hasDict && HandSPX.refsVE bm
    | _, _ => false)
  | _ => false
theorem supCls_of {K : Frag} {C : Addr} (q : supCls K C = true) : ∃ nm q N bs bm sn sub ab col dd k0 k1 k2 k3 k5, K.lookup C = some (excClassObj nm q C N bs bm true sn sub ab col dd k0 k1 k2 k3 k5 "ValueError.__new__") ∧ HandSPX.refsVE bm = true := by
  unfold supCls at q
  split at q
  · rename_i dd cd sl ho
    split at q
    · rename_i C' bm k0 k1 k2 k3 n k5 hm hs
      simp only [Bool.and_eq_true, beq_iff_eq, Bool.not_eq_true'] at q
      obtain ⟨⟨⟨⟨rfl, rfl⟩, hdel⟩, hd⟩, ht⟩ := q
      obtain ⟨nm, bs, mro, ns, qn, hd', sn, sub, ab, col, del⟩ := cd
      dsimp only at hm hdel hd
      subst hm hdel hd
      have hsl : sl = #[k0, k1, k2, k3, some (.builtin "ValueError.__new__"), k5] := by
        obtain ⟨l⟩ := sl
        simp only at hs
        rw [hs]
      subst hsl
      exact ⟨nm, qn, ns, bs, bm, sn, sub, ab, col, dd, k0, k1, k2, k3, k5, ho, ht⟩
    · cases q
  · cases q
theorem supC_of {prog : Program} {K : Frag} {mg : Str → Option Value} {C fI cc cda : Addr} {st : Stmt} {qual fx px file txt : Str} {p0 p1 p2 p3 p4 p5 p6 p7 p8 p9 : Pos} {j : Nat} {kV doc pm ct oc ccl cl : Value} {an od cdd cld : Option Addr} {osl ccs csl : Array (Option Value)} {vs : Array Value} {tf : Tok} {ar : Arg}
    (hcls : supCls K C = true) (sa : findIn K (.ref C) "__setattr__" = some (some (.builtin "object.__setattr__"))) (exC : subIn K (.ref C) (.type "BaseException") = some true) (tyC : typeIn K (.ref C) = some (.type "type")) (kC : keepIn K (.ref C) = true)
    (iC : findIn K (.ref C) "__init__" = some (some (.ref fI))) (tI : typeIn K (.ref fI) = some (.type "function")) (subC : mroIn K C (.ref C) = some true) (subV : subIn K (.ref C) (.type "ValueError") = some true) (supr : ks_superIn K C C "__init__" = some (some (.builtin "ValueError.__init__")))
    (opq : nsIn K cStatics "thirdparty.any" = some none) (mgS : mg "super" = none)
    (lk : K.lookup fI = some ⟨oc, od, .func (ksFn "__init__" qual (defArgs st) (defBody st) (defScope st) .none kV doc pm an (.ref cda) ct cc), osl⟩) (hcd : codeIn K (.ref cda) qual = true) (lcd : K.lookup cda = some ⟨ccl, cdd, .fields vs, ccs⟩) (hvs : vs[2]? = some (.str file tf)) (hfile : ((prog.main.file : Str) == file) = true)
    (hcell : K.lookup cc = some ⟨cl, cld, .cell (some (.ref C)), csl⟩) (noF : findIn K (.ref C) fx = some none) (htop : (prog.main.scope.names.lookup ("super" : Str)).isSome = false)
    (hb : defBody st = supBody p0 p1 p2 p3 p4 p5 p6 p7 p8 p9 txt j fx px) (hp : ((defArgs st).posonlyargs ++ (defArgs st).args).head? = some ar) (hself : ar.arg = "self") (hps : px ≠ "self")
    (ks : (defScope st).names.lookup ("super" : Str) = some .globalImplicit) (kc : (defScope st).names.lookup ("__class__" : Str) = some .free) (ksf : (defScope st).names.lookup ("self" : Str) = some .local) (kp : (defScope st).names.lookup px = some .local)
    (hnc : ∀ x ∈ (defScope st).names, x.2 ≠ .cell) (hco : (defScope st).isCoroutine = false) (hgen : (defScope st).isGenerator = false) (hk : (defScope st).kind = .function) (hdb : (px == ("__debug__" : Str)) = false) (hline : (p2.endLine == p4.line) = true)
    (hbind : ∀ us : List Value, us.length = 2 → bindArgs (ksFn "__init__" qual (defArgs st) (defBody st) (defScope st) .none kV doc pm an (.ref cda) ct cc) ⟨us, []⟩ = pure ([("self" : Str), px].zip us)) :
    ∃ fI fd, SupC prog K mg C fI fd := by
  refine ⟨fI, _, ⟨⟨supCls_of hcls, sa, exC, tyC, kC⟩, iC, tI, subC, subV, supr, opq, mgS,
    ⟨p0, p1, p2, p3, p4, p5, p6, p7, p8, p9, txt, j, fx, px, "__init__", qual, file, tf, defArgs st, defScope st, .none, kV, doc, pm, ct, oc, ccl, cl, an, od, cdd, cld, osl, ccs, csl, vs, cc, cda, ar, by rw [← hb], lk, hcd, lcd, hvs, hfile, hcell, hp, hself, hps, noF, ks, kc, ksf, kp, hnc, hco, hgen, hk, htop, hdb, hline, fun s a u => .of_eq (hbind [a, u] rfl)⟩⟩⟩
end DSX
namespace DL
open PySem L2 PySem.Spec PyProof.Rows DSX
section
variable {X : Cx} {G : Gm} {W : WX} {e : Expr} {f : LE → R D} {p p1 pos : Pos} {x : Str}
theorem ds_raiseS (c : Nat) (tk : Takes X W) (hc : X.calm = true) (T : ∃ fI fd, SupC X.prog X.K X.mg (G.xcls c) fI fd) (hx : G.xfld c = none) (hr : Room 1 X.A) (gC : X.mg x = some (.ref (G.xcls c))) (he : DE X G W e f)
    (hg : Gl X x := by rfl) (hdb : (x == ("__debug__" : Str)) = false := by decide) (hs : starEach [e] X.env = (false, eval e X.env) :: starEach [] X.env := by rfl) (hpl : (backTo p1 (starEach [] X.env)).any (·.1) = false := by rfl) :
    DS X G W (.Raise (some (.Call (.Name x p) [e] [] p1)) none pos) (errES ⟨c, .non⟩ f) := by
  obtain ⟨fI, fd, T⟩ := T
  exact ds_raiseX (k := 0) c tk hc T hx hr gC he hg hdb hs hpl
end
end DL
set_option Elab.async false
set_option linter.all false
set_option maxRecDepth 100000
set_option maxHeartbeats 2000000
namespace DL
open PySem L2 PySem.Spec PyProof.Rows
end DL
set_option Elab.async false
set_option linter.all false
set_option maxRecDepth 100000
set_option maxHeartbeats 2000000
namespace DL
open PySem L2 PySem.Spec PyProof.Rows
end DL
set_option Elab.async false
set_option linter.all false
set_option maxRecDepth 100000
set_option maxHeartbeats 1000000
namespace DL
open PySem L2 LamX PySem.Spec PyProof.Rows
/-- one parameter a, no other name of its own; a may be captured -/
structure LamP (sc scope : Scope) (a : Str) : Prop where
  kind : scope.kind = .function
  co : scope.isCoroutine = false
  gen : scope.isGenerator = false
  own : ∀ y ∈ scope.names, y.2 = .local ∨ y.2 = .cell → y.1 = a
  free : ∀ y ∈ scope.names, y.2 = .free → sc.names.lookup y.1 = some .cell ∨ sc.names.lookup y.1 = some .free
  par : (scope.names.lookup a = some .local ∧ ∀ y ∈ scope.names, y.2 ≠ .cell) ∨ (scope.names.lookup a = some .cell ∧ (scope.names.filter fun y => decide (y.2 = .cell)) = [(a, .cell)])
section
variable {X : Cx} {pins : List (Addr × Obj)} {σ : L2.St} {H : Hp} {s : Shared}
theorem LamP.has {scope : Scope} {a : Str} (L : LamP X.env.scope scope a) (ok : X.Ok) : ∀ y ∈ scope.names, y.2 = .free → ∃ c, X.env.cells.lookup y.1 = some c := fun y hy e =>
  (L.free y hy e).elim (fun k => ok.has _ (.inl k)) fun k => ok.has _ (.inr k)
end
end DL
set_option Elab.async false
set_option linter.all false
set_option maxRecDepth 100000
set_option maxHeartbeats 1000000
namespace DL
open PySem L2 LamX PySem.Spec PyProof.Rows
end DL
set_option Elab.async false
set_option linter.all false
set_option maxRecDepth 100000
set_option maxHeartbeats 1000000
namespace DL
open PySem L2 LamX PySem.Spec PyProof.Rows
end DL
set_option Elab.async false
set_option linter.all false
set_option maxRecDepth 100000
set_option maxHeartbeats 1000000
namespace DL
open PySem L2 LamX PySem.Spec PyProof.Rows
end DL
set_option Elab.async false
set_option linter.all false
set_option maxRecDepth 100000
set_option maxHeartbeats 1000000
namespace DL
open PySem L2 LamX PySem.Spec PyProof.Rows
end DL
set_option Elab.async false
set_option linter.all false
set_option maxRecDepth 100000
set_option maxHeartbeats 1000000
namespace DL
open PySem L2 LamX PySem.Spec PyProof.Rows
end DL
set_option Elab.async false
set_option linter.all false
set_option maxRecDepth 100000
set_option maxHeartbeats 1000000
namespace DL
open PySem L2 LamX PySem.Spec PyProof.Rows
theorem RepL.snoc {G : Gm} {dl : Addr} {S : Hp} {ds : List D} {vs : List V} {d : D} {v : V} (h : RepL G dl S ds vs) (q : Rep G dl S d v) : RepL G dl S (ds ++ [d]) (vs ++ [v]) := h.append (RepL.cons q RepL.nil)
end DL
set_option Elab.async false
set_option linter.all false
set_option maxRecDepth 100000
set_option maxHeartbeats 1000000
namespace DL
open PySem L2 PySem.Spec PyProof.Rows
end DL
set_option Elab.async false
set_option linter.all false
set_option maxRecDepth 100000
set_option maxHeartbeats 1000000
namespace DL
open PySem L2 PySem.Spec PyProof.Rows
def get2E (fo fe ff : LE → R D) : LE → R D := fun r => fo r >>= fun x => match x with
  | .dic kvs => fe r >>= fun y => ff r >>= fun z => if y.key1 then .ok ((getD kvs y).getD z) else .stuck
  | _ => .stuck
section
variable {X : Cx} {G : Gm} {W : WX} {o e f a ek : Expr} {fo fe ff : LE → R D} {pos apos cpos p p1 p2 : Pos} {x : Str}
theorem de_get2 (hu : X.A.units + 1 < cLine) (ho : DP X G W o fo) (he : DP X G W e fe) (hf : DE X G W f ff) (m : M2 X o "get" apos e f cpos := by exact ⟨rfl, rfl, rfl, rfl⟩) : DE X G W (.Call (.Attribute o "get" apos) [e, f] [] cpos) (get2E fo fe ff) :=
  PE_imp (pe_dget2 hu ho he hf m) fun sg H Q ⟨dl, Z, O, r, A, q⟩ => by
    refine ⟨dl, Z, O, r, A, q.bind.thn fun x hx v H1 g1 k1 rx => ?_⟩
    have A1 := A.grow g1 k1
    cases x <;> first | exact hx.elim | skip
    rename_i kvs
    obtain ⟨a, kv, rfl, hrd, rk⟩ := rx.dic
    refine ⟨a, rfl, .inl ⟨kv, hrd⟩, dl, Z, O, r, A1, hx.bind.mono (fun y hy u H2 g2 k2 ry => ?_) fun e he => epost g1 he⟩
    have A2 := A1.grow g2 k2
    refine ⟨dl, Z, O, r, A2, hy.bind.mono (fun z hz w H3 g3 k3 rz => ?_) fun e he => epost (g1.trans g2) he⟩
    have hz : Wp (if y.key1 = true then R.ok ((getD kvs y).getD z) else .stuck) _ _ := hz
    split at hz
    case isFalse => exact hz.elim
    rename_i hk1
    obtain ⟨kk, hk⟩ := key1_key hk1
    obtain ⟨a', kv', ea, hrd', rk'⟩ := (rx.grow A1 (g2.trans g3)).dic
    cases ea
    have ry3 := ry.grow A2 g3
    rcases getD_of hk rk' with ⟨e1, e2⟩ | ⟨d', v', e1, e2, rp⟩
    · refine ⟨none, .inl ⟨kv', kk, hrd', key_kV hk ry3, e2.symm⟩, ?_⟩
      rw [e1] at hz
      exact hz w H3 ((g1.trans g2).trans g3) k3 rz
    · refine ⟨some v', .inl ⟨kv', kk, hrd', key_kV hk ry3, e2.symm⟩, ?_⟩
      rw [e1] at hz
      exact hz v' H3 ((g1.trans g2).trans g3) k3 rp
end
end DL
set_option Elab.async false
set_option linter.all false
set_option maxRecDepth 100000
set_option maxHeartbeats 1000000
namespace DL
open PySem L2 PySem.Spec PyProof.Rows
/-- the rows of one dict looked up in the other, compared as data -/
inductive HitsV (K : PySem.W.Frag) (H : Hp) (kb : List (Key × V)) : List (Key × V) → Bool → Prop
  | nil : HitsV K H kb [] true
  | miss {k : Key} {v : V} {r : List (Key × V)} : valV kb k = none → HitsV K H kb ((k, v) :: r) false
  | hit {k : Key} {v y : V} {d e : PyData} {r : List (Key × V)} {b : Bool} : valV kb k = some y → Dp K H v d → Dp K H y e → SeqAt.shaped d = true → SeqAt.shaped e = true → HitsV K H kb r b → HitsV K H kb ((k, v) :: r) (PyData.eqv d e && b)
def rEqDc (K : PySem.W.Frag) (neg : Bool) : R2 := fun x y H Q => ∃ (a b : Addr) (ka kb : List (Key × V)) (t : Bool), x = .ref a ∧ y = .ref b ∧ Rd H a (.dK ka) ∧ Rd H b (.dK kb) ∧ HitsV K H kb ka t ∧ Q (.bl (Bool.xor neg (ka.length == kb.length && t))) H
section
variable {X : Cx}
theorem hits_of {pins : List (Addr × Obj)} {sg : L2.St} {H : Hp} {s : Shared} {ka kb : List (Key × V)} {vs ws : List (Key × Value)} {t : Bool} (I : Inv X pins sg H s) (hu : X.A.in1.units + 64 < cLine) (h : HitsV X.K H kb ka t) (ra : KV ka vs) (rb : KV kb ws) : PySem.W.KeqHits X.A.in1 s ws vs t := by
  unfold KV at ra
  induction h generalizing vs with
  | nil => cases ra; exact .nil
  | miss hn =>
    rename_i k v r
    cases ra with
    | cons h1 h2 =>
      rename_i q qs
      obtain ⟨k2, u⟩ := q
      obtain ⟨e1, e2⟩ := h1
      have e1 : k = k2 := e1
      subst e1
      have := rb.val k
      rw [hn] at this
      refine .miss ?_
      cases hq : PySem.valueAt ws k with
      | none => rfl
      | some z => rw [hq] at this; exact this.elim
  | hit hy hd he sd se _ ih =>
    rename_i k v y d e r b _
    cases ra with
    | cons h1 h2 =>
      rename_i q qs
      obtain ⟨k2, u⟩ := q
      obtain ⟨e1, e2⟩ := h1
      have e1 : k = k2 := e1
      subst e1
      have := rb.val k
      rw [hy] at this
      cases hq : PySem.valueAt ws k with
      | none => rw [hq] at this; exact this.elim
      | some z =>
        rw [hq] at this
        obtain ⟨as, r1⟩ := Dp.reads I d v u hd e2
        obtain ⟨bs, r2⟩ := Dp.reads I e y z he this
        exact .hit hq (PySem.W.keq_at r1 r2 sd se hu) (ih h2)
theorem op_neDc (hu : X.A.units + 70 < cLine) : OpR X (compareOp .NotEq) (rEqDc X.K true) := by
  intro pins s sg H x y v u Q I rx ry ⟨a, b, ka, kb, t, ex, ey, ha, hb, hh, q⟩
  subst ex ey
  obtain rfl : v = Value.ref a := rx
  obtain rfl : u = Value.ref b := ry
  obtain ⟨_, sa, vs, ra, da⟩ := dk_rd I.hok ha
  obtain ⟨_, sb, ws, rb, db⟩ := dk_rd I.hok hb
  have hi := hits_of I (by show X.A.units + 1 + 64 < _; omega) hh ra rb
  refine PySem.W.keq_ne sa sb da db (by omega) (fun _ => hi) ?_
  rw [← ra.length, ← rb.length]
  exact ⟨.bl _, H, I, rfl, by simpa using q⟩
end
def dicEq (a b : List (D × D)) : Bool := a.length == b.length && a.all fun p => match getD b p.1 with
  | some z => p.2.eqb z
  | none => false
def dicOk (a : List (D × D)) : Bool := D.shs (a.map (·.2)) 64
def neX (x y : D) : R D := match x, y with
  | .dic a, .dic b => if dicOk a && dicOk b then .ok (.bl (!dicEq a b)) else .stuck
  | x, y => neD x y
section
variable {X : Cx} {G : Gm}
theorem getD_mem {b : List (D × D)} {k z : D} (h : getD b k = some z) : z ∈ b.map (·.2) := by
  unfold getD at h
  cases hf : b.find? fun p => p.1.keq k with
  | none => rw [hf] at h; cases h
  | some p =>
    rw [hf] at h
    cases h
    exact List.mem_map.mpr ⟨p, List.mem_of_find?_eq_some hf, rfl⟩
theorem shs_mem {ds : List D} {n : Nat} (h : D.shs ds n = true) {d : D} (hd : d ∈ ds) : d.sh n = true := by
  induction ds with
  | nil => cases hd
  | cons e ds ih =>
    simp only [D.shs, Bool.and_eq_true] at h
    rcases List.mem_cons.mp hd with rfl | hd
    · exact h.1
    · exact ih h.2 hd
theorem hitsV_of {dl : Addr} {Z : List Addr} {H : Hp} {b : List (D × D)} {kb : List (Key × V)} (rb : RepK G dl (cut H Z) b kb) (hb : dicOk b = true) : ∀ {a : List (D × D)} {ka : List (Key × V)}, RepK G dl (cut H Z) a ka → dicOk a = true →
    HitsV G.K H kb ka (a.all fun p => match getD b p.1 with | some z => p.2.eqb z | none => false)
  | [], ka, h, _ => by unfold RepK at h; subst h; exact .nil
  | (k, d) :: a, ka, h, ok => by
    unfold RepK at h
    obtain ⟨x, v, r, rfl, hk, rp, h2⟩ := h
    have ok' : dicOk a = true := by
      unfold dicOk at ok ⊢
      simp only [List.map_cons, D.shs, Bool.and_eq_true] at ok
      exact ok.2
    have okd : d.sh 64 = true := by
      unfold dicOk at ok
      simp only [List.map_cons, D.shs, Bool.and_eq_true] at ok
      exact ok.1
    rw [List.all_cons]
    rcases getD_of hk rb with ⟨e1, e2⟩ | ⟨z, w, e1, e2, rz⟩
    · rw [e1]
      exact .miss e2
    · rw [e1]
      have okz : z.sh 64 = true := shs_mem hb (getD_mem e1)
      have e3 : d.eqb z = PyData.eqv d.toP z.toP := (eqb_eqv d z _ _ okd okz).symm
      show HitsV _ _ _ _ (d.eqb z && _)
      rw [e3]
      exact .hit e2 (RepP.dp (n := 64) okd (.inl rp)) (RepP.dp (n := 64) okz (.inl rz)) (sh_shaped okd) (sh_shaped okz) (hitsV_of rb hb h2 ok')
theorem op_neX_d (hG : G.K = X.K) (hu : X.A.units + 70 < cLine) : OpD X G (compareOp .NotEq) neX := by
  obtain ⟨rr, h1, h2⟩ := op_ne_d (X := X) (G := G) hG (by omega)
  refine ⟨_, OpR.or (op_neDc hu) h1, fun dl Z O r sg x y vx vy H Q E A hx hy h => ?_⟩
  unfold neX at h
  split at h
  · rename_i a b
    split at h
    case isFalse => exact h.elim
    rename_i hc
    simp only [Bool.and_eq_true] at hc
    obtain ⟨p, ka, rfl, ha, ra⟩ := hx.dic
    obtain ⟨q, kb, rfl, hb, rb⟩ := hy.dic
    refine .inl ⟨p, q, ka, kb, _, rfl, rfl, ha, hb, hG ▸ hitsV_of rb hc.2 ra hc.1, ?_⟩
    rw [ra.length, rb.length]
    simpa [dicEq] using h _ H (.refl _ _) A.gl Rep.bl_
  · exact .inr (h2 dl Z O r sg _ _ vx vy H Q E A hx hy h)
end
end DL
set_option Elab.async false
set_option linter.all false
set_option maxRecDepth 100000
namespace DL
open PySem L2 PySem.Spec PyProof.Rows
section
variable {X : Cx} {G : Gm} {W : WX} {a : Expr} {f : LE → R D} {pos p' : Pos} {j : Nat}
theorem dt_isN (ha : DP X G W a f) : DT X G W (.Compare a [.Is] [.Constant .none j p'] pos) (fun r => isNE f r >>= asB) :=
  PT_imp (pt_cmp (pc_isN ha) (by rfl)) fun sg H Q h => tT_of (fun sg H Q ⟨dl, Z, O, r, A, q⟩ => ⟨dl, Z, O, r, A, q.bind.thn fun d hd v H1 g1 k1 rp => isNone_rep rp hd _ H1 g1 k1 Rep.bl_⟩) h
end
end DL
set_option Elab.async false
set_option linter.all false
set_option maxRecDepth 100000
set_option maxHeartbeats 2000000
namespace DL
open PySem L2 PySem.Spec PyProof.Rows
end DL
set_option Elab.async false
set_option linter.all false
set_option maxRecDepth 100000
set_option maxHeartbeats 2000000
namespace DL
open PySem L2 LamX PySem.Spec PyProof.Rows PySem.W
end DL
set_option Elab.async false
set_option linter.all false
set_option maxRecDepth 100000
set_option maxHeartbeats 1000000
namespace DL
open PySem L2 LamX PySem.Spec PyProof.Rows PySem.W
theorem insT_split {α : Type} {lt : α → α → Bool} {x : α} : ∀ {l₁ l₂ : List α}, (∀ b ∈ l₁, lt b x = true) → (∀ b ∈ l₂, lt b x = false) → insT lt x (l₁ ++ l₂) = l₁ ++ x :: l₂
  | [], [], _, _ => rfl
  | [], b :: l₂, _, h => by
    show insT lt x (b :: l₂) = _
    unfold insT
    rw [if_neg (by rw [h b List.mem_cons_self]; decide)]
    rfl
  | a :: l₁, l₂, h, k => by
    show insT lt x (a :: (l₁ ++ l₂)) = _
    unfold insT
    rw [if_pos (h a List.mem_cons_self), insT_split (fun b hb => h b (List.mem_cons_of_mem _ hb)) k]
    rfl
theorem isort_merge {α : Type} {lt : α → α → Bool} (T : TotalLe fun a b => !lt b a) : ∀ l : List α, isort lt l = l.mergeSort fun a b => !lt b a
  | [] => by simp [isort]
  | x :: l => by
    obtain ⟨l₁, l₂, e1, e2, h⟩ := List.mergeSort_cons (le := fun a b => !lt b a) (fun a b c h1 h2 => T.trans a b c h1 h2) (fun a b => by have := T.total a b; simpa [Bool.or_eq_true] using this) x l
    rw [e1]
    show insT lt x (isort lt l) = _
    rw [isort_merge T l, e2]
    refine insT_split (fun b hb => by simpa using h b hb) fun b hb => ?_
    have hp := List.pairwise_mergeSort (le := fun a b => !lt b a) (fun a b c h1 h2 => T.trans a b c h1 h2) (fun a b => by have := T.total a b; simpa [Bool.or_eq_true] using this) (x :: l)
    rw [e1] at hp
    have h3 := (List.pairwise_append.mp hp).2.1
    simpa using (List.pairwise_cons.mp h3).1 b hb
def ltKy (p q : D × D) : Bool := p.2.ltb q.2
theorem totLe_key (rev : Bool) {β : Type} (k : β → PyData) : TotalLe (dataLe rev k) := sortLe_total (listOrd itemOrd) rev fun b => keyToks (k b)
theorem dataLe_lt {β : Type} (k : β → PyData) : dataLe false k = fun a b => !dataLt (k b) (k a) := by
  rw [dataLe_eq]
  funext a b
  rfl
/-- by their keys, stably -/
def sortK (ds ks : List D) : List D := (isort ltKy (ds.zip ks)).map (·.1)
section
variable {G : Gm} {dl : Addr} {S : Hp}
theorem RepL.pairs {β : Type} {f : β → D} {g : β → V} : ∀ {l : List β}, (∀ z ∈ l, Rep G dl S (f z) (g z)) → RepL G dl S (l.map f) (l.map g)
  | [], _ => RepL.nil
  | z :: l, h => RepL.cons (h z List.mem_cons_self) (RepL.pairs fun y hy => h y (List.mem_cons_of_mem _ hy))
theorem RepL.zip_mem : ∀ {ds : List D} {us : List V} {ks : List D}, RepL G dl S ds us → ∀ z ∈ us.zip (ds.zip ks), Rep G dl S z.2.1 z.1
  | [], us, ks, h, z, hz => by simp at hz
  | d :: ds, [], ks, h, z, hz => by simp at hz
  | d :: ds, u :: us, [], h, z, hz => by simp at hz
  | d :: ds, u :: us, k :: ks, h, z, hz => by
    unfold RepL at h
    obtain ⟨v, vs, e, h1, h2⟩ := h
    cases e
    simp only [List.zip_cons_cons, List.mem_cons] at hz
    rcases hz with rfl | hz
    · exact h1
    · exact RepL.zip_mem h2 z hz
theorem sortK_rep {ds ks : List D} {us : List V} (h : RepL G dl S ds us) (hl : ks.length = ds.length) : RepL G dl S (sortK ds ks) (((us.zip (D.toPs ks)).mergeSort (dataLe false fun p => p.2)).map (·.1)) := by
  have hul := h.length
  have hZ1 : (us.zip (ds.zip ks)).map (fun z => (z.1, z.2.2.toP)) = us.zip (D.toPs ks) := by
    rw [toPs_map]
    apply List.ext_getElem
    · simp [hl, hul]
    · intro i h1 h2
      simp
  have hZ2 : (us.zip (ds.zip ks)).map (fun z => z.2) = ds.zip ks := List.map_snd_zip (by rw [List.length_zip, hl, hul]; omega)
  have e1 := List.map_mergeSort (r := fun a b : V × (D × D) => !(b.2.2.ltb a.2.2)) (s := dataLe false fun p : V × PyData => p.2) (f := fun z : V × (D × D) => (z.1, z.2.2.toP)) (l := us.zip (ds.zip ks)) fun a _ b _ => by rw [dataLe_lt]; rfl
  have e2 := List.map_mergeSort (r := fun a b : V × (D × D) => !(b.2.2.ltb a.2.2)) (s := fun a b : D × D => !ltKy b a) (f := fun z : V × (D × D) => z.2) (l := us.zip (ds.zip ks)) fun a _ b _ => rfl
  have T : TotalLe fun a b : D × D => !ltKy b a := by
    have := totLe_key false fun p : D × D => p.2.toP
    rw [dataLe_lt] at this
    exact this
  unfold sortK
  have e3 : (ds.zip ks).mergeSort (fun a b : D × D => !ltKy b a) = ((us.zip (ds.zip ks)).mergeSort fun a b => !(b.2.2.ltb a.2.2)).map (·.2) := by rw [e2, hZ2]
  rw [isort_merge T, ← hZ1, ← e1, e3, List.map_map, List.map_map]
  refine RepL.pairs fun z hz => ?_
  exact h.zip_mem z ((List.mergeSort_perm _ _).mem_iff.mp hz)
end
def tup1 : D → Bool
  | .tup (_ :: _) => true
  | _ => false
def notTup : D → Bool
  | .tup _ => false
  | .non => false
  | _ => true
def srtb (ks : List D) : Bool := ks.all tup1 || ks.all notTup
theorem srtb_ok {ks : List D} (ha : alis ks = true) (h : srtb ks = true) : Sortable (D.toPs ks) := by
  rw [toPs_map]
  unfold srtb at h
  rw [Bool.or_eq_true, List.all_eq_true, List.all_eq_true] at h
  rcases h with h | h
  · refine .inl fun d hd => ?_
    obtain ⟨x, hx, rfl⟩ := List.mem_map.mp hd
    have := h x hx
    unfold tup1 at this
    split at this
    · exact ⟨_, _, rfl⟩
    · cases this
  · refine .inr fun d hd => ?_
    obtain ⟨x, hx, rfl⟩ := List.mem_map.mp hd
    have h1 := h x hx
    have h2 := alis_sh ha x hx
    cases x <;> first | (cases h1; done) | (simp [D.sh] at h2; done) | (refine ⟨fun z => ?_, fun xs z => ?_⟩ <;> (simp [D.toP] at z))
theorem alis_all {ks : List D} (h : alis ks = true) : AllAlike (D.toPs ks) := (alis_alike h).1
theorem alis_dep {ks : List D} (h : alis ks = true) : ∀ d ∈ D.toPs ks, d.depth ≤ 50 := fun d hd => by
  rw [toPs_map] at hd
  obtain ⟨x, hx, rfl⟩ := List.mem_map.mp hd
  exact (sh_lay x 50 (alis_sh h x hx)).2
end DL
set_option Elab.async false
set_option linter.all false
set_option maxRecDepth 100000
set_option maxHeartbeats 2000000
namespace DSX
open PySem PySem.W PySem.Spec PySem.Calls PyProof.Rows L2
end DSX
namespace DSX
open PySem PySem.W PySem.Spec PySem.Calls PyProof.Rows L2
end DSX
namespace DL
open PySem L2 PySem.Spec PyProof.Rows DSX
end DL
namespace DSX
open PySem PySem.W PySem.Spec PySem.Calls PyProof.Rows L2 DL
end DSX
namespace DL
open PySem L2 PySem.Spec PyProof.Rows DSX
end DL
set_option Elab.async false
set_option linter.all false
set_option maxRecDepth 100000
set_option maxHeartbeats 2000000
namespace DL
open PySem L2 PySem.Spec PyProof.Rows
inductive Src where
  | l (a : Addr)
  | t (a : Addr)
  | s (x : Str)
def Src.val : Src → V
  | .l a => .ref a
  | .t a => .ref a
  | .s x => .str x
def Src.at_ (K : PySem.W.Frag) (H : Hp) : Src → List V → Prop
  | .l a, vs => SqL K H a vs
  | .t a, vs => SqT K H a vs
  | .s x, vs => vs = signsV x
/-- its iterator at the address it, i items gone -/
def Src.it (h : Heap) (it : Addr) (i : Nat) : Src → Prop
  | .l a => h.IsListIter it a i ∧ a < it
  | .t a => h.IsTupleIter it a i ∧ a < it
  | .s x => ∃ t, h.IsStrIter it (strIterType x) x t i
def Src.fp : Src → List Addr
  | .l a => [a]
  | .t a => [a]
  | .s _ => []
end DL
set_option Elab.async false
set_option linter.all false
set_option maxRecDepth 100000
set_option maxHeartbeats 1000000
namespace DL
open PySem L2 PySem.Spec PyProof.Rows
end DL
set_option Elab.async false
set_option linter.all false
set_option maxRecDepth 100000
set_option maxHeartbeats 1000000
namespace DL
open PySem L2 PySem.Spec PyProof.Rows
end DL
set_option Elab.async false
set_option linter.all false
set_option maxRecDepth 100000
set_option maxHeartbeats 1000000
namespace DL
open PySem L2 PySem.Spec PyProof.Rows
def rgB (i : Int) : Bool := decide (i < 1000000) && decide (-1000000 < i)
def lrg1 : D → R (List D)
  | .int j => if rgB j then .ok (rangeL 0 j.toNat) else .stuck
  | _ => .stuck
def lrg1E (f : LE → R D) : LE → R (List D) := fun r => f r >>= lrg1
theorem rgB_iff {i : Int} : rgB i = true ↔ i < 1000000 ∧ -1000000 < i := by unfold rgB; simp
theorem RepL.ints {G : Gm} {dl : Addr} {S : Hp} (a : Int) : ∀ l : List Nat, RepL G dl S (l.map fun (i : Nat) => D.int (a + (i : Int))) (l.map fun (i : Nat) => V.int (a + (i : Int)))
  | [] => RepL.nil
  | i :: l => RepL.cons Rep.int_ (RepL.ints a l)
section
variable {X : Cx} {G : Gm} {W : WX} {a b : Expr} {f g : LE → R D} {p pos p2 pos2 : Pos}
theorem df_listRg1 (hc : X.calm = true) (hg : Gl X "list") (hm : X.mg "list" = none) (hg2 : Gl X "range") (hm2 : X.mg "range" = none) (ha : DE X G W a f) (hs : starEach [a] X.env = (false, eval a X.env) :: starEach [] X.env := by rfl)
    (hs2 : starEach [.Call (.Name "range" p2) [a] [] pos2] X.env = (false, eval (.Call (.Name "range" p2) [a] [] pos2) X.env) :: starEach [] X.env := by rfl) :
    DF X G W (.Call (.Name "list" p) [.Call (.Name "range" p2) [a] [] pos2] [] pos) (lrg1E f) :=
  PE_imp (pe_listRg hc hg hm (prg_1 hg2 hm2 ha hs) hs2) fun sg H Q ⟨dl, Z, O, r, A, q⟩ => ⟨dl, Z, O, r, A, q.bind.thn fun d hd v H1 g1 k1 rp => by
    unfold lrg1 at hd
    split at hd
    · rename_i j
      split at hd
      · rename_i hj
        rw [rgB_iff] at hj
        unfold Rep at rp
        refine ⟨j, rp, ⟨by omega, by omega, by omega, by omega, by omega⟩, fun l hl => hd l _ H1 g1 k1 hl ?_⟩
        have := RepL.ints (G := G) (dl := dl) (S := cut H1 Z) 0 (List.range j.toNat)
        unfold rgV
        rw [Int.sub_zero]
        exact this
      · exact hd.elim
    · exact hd.elim⟩
end
end DL
set_option Elab.async false
set_option linter.all false
set_option maxRecDepth 100000
set_option maxHeartbeats 1000000
namespace DL
open PySem L2 PySem.Spec PyProof.Rows
end DL
set_option Elab.async false
set_option linter.all false
set_option maxRecDepth 100000
set_option maxHeartbeats 1000000
namespace DL
open PySem L2 PySem.Spec PyProof.Rows
end DL
set_option Elab.async false
set_option linter.all false
set_option maxRecDepth 100000
set_option maxHeartbeats 1000000
namespace PySem
namespace HandSPX
section
variable {M : Model} {A : Around} {E : Value → Shared → Prop} {s : Shared} {Z : Obj → Prop} {base : Heap} {env env' : Env} {outer l : List Env} {L e : Addr}
theorem noteFrame_frame {e : Value} (h : env'.frame = env.frame) : noteFrame e env' = noteFrame e env := by
  unfold noteFrame frameOf
  rw [h]
/-- held at another place (a block's own), noted by the frame -/
theorem held_onZ {C : Addr} {Q : Unit → Shared → Prop} (hZ : PXN.Steady1 Z) (hfr : A.frames = some (env :: outer)) (hf : env.frame = some L) (hCL : C ≠ L) (hfl : HeldZ base (env :: outer) e Z C s.heap)
    (hQ : ∀ h', HeldZ base (env :: outer) e Z L h' → s.heap.UpToSlots h' → Q () { s with heap := h' }) : wpAny M A (noteFrame (.ref e) env) Q E s := by
  obtain ⟨hkb, hen, hl, oe, vs, T, oT, ts, he, hz, hd, h1, hnT, hTe, hT, hdT, h3⟩ := hfl
  unfold noteFrame
  simp only [hf]
  refine wpAny_bind (wpAny_field he hd h1 ?_)
  rw [if_pos (show (Value.ref T != Value.none) = true from by simp)]
  refine wpAny_bind (wpAny_field hT hdT h3 ?_)
  rw [if_neg (show ¬ ((rawInt C == rawInt L) = true) from by simp [rawInt]; exact fun e => hCL (Int.ofNat.inj e))]
  refine wpAny_bind (wpAny_setField hT hdT (Array.getElem?_eq_some_iff.mp h3).1 ?_)
  have other : ∀ b, b ≠ T → (s.heap.update T (Obj.mapFields (·.setIfInBounds 3 Value.none))).get? b = s.heap.get? b := fun b hb => Heap.get?_update_other _ _ (Ne.symm hb)
  have noRecord : ∀ b o, s.heap.get? b = some o → (∀ vs, o.data ≠ .fields vs) → b ≠ T := fun b o hb hnf q => by
    rw [q, hT] at hb; injection hb with hb; subst hb; exact hnf ts hdT
  refine PXN.wpAny_entryZ hZ hfr (hl.of_keeps fun b o hb hnf => ⟨o, (other b (noRecord b o hb hnf)).trans hb, rfl⟩) hf ((other e (Ne.symm hTe)).trans he)
    (fun b o hbo => (other b fun q => by rw [q, hnT] at hbo; cases hbo).trans (hkb b o hbo)) hen hd (Array.getElem?_eq_some_iff.mp h1).1 hz fun h' hN => ?_
  obtain ⟨x1, x2, x3, x4⟩ := hN
  exact hQ h' ⟨x1, hen, x2, x3⟩ fun b o hb hnf => x4 b o ((other b (noRecord b o hb hnf)).trans hb) hnf
end
end HandSPX
end PySem
namespace DL
open PySem L2 PySem.Spec PyProof.Rows HandSPX
/-- what is to stand behind a comprehension's block -/
def compPostF (M : Model) (A : Around) (E : Value → Shared → Prop) (fr : Option Addr) (Q : Value → Shared → Prop) (acc : Value) (C : Addr) (r : Result) (s' : Shared) : Prop := match r with
  | .ok _ => ∃ m, s'.heap.Ns C m ∧ ∀ h', Heap.SameBut C s'.heap h' → Q acc { s' with heap := h' }
  | .error x => ∃ m, s'.heap.Ns C m ∧ ∀ h', Heap.SameBut C s'.heap h' → ∀ cenv : Env, cenv.locals = C → cenv.frame = fr → wpAny M A (passOn "comprehension.variables-let-go" x cenv : Sem Value) (fun _ _ => False) E { s' with heap := h' }
section
variable {M : Model} {A : Around} {E : Value → Shared → Prop} {s : Shared} {env : Env}
theorem comp_freeX {e : Expr} {scope : Scope} {pos : Pos} {first : Sem Value} {g : Comprehension} {gs : List Comprehension} {cl : List (Str × Addr)} {Q : Value → Shared → Prop}
    (hcl : clausesOf e = g :: gs) (hs : ∀ x, foldedSetIterable g.iter env x = pure x) (hclos : closureFor scope env = pure cl)
    (hkind : scope.kind = .function) (hnames : ∀ x ∈ scope.names, x.2 = .local → scope.names.lookup x.1 = some .local)
    (h : wpAny M A first (fun x s₁ => wpAny M A (pyIter x) (fun it s₂ => wpAny M A (newList []) (fun acc s₃ =>
      codeAny M A (.compStart e 0 it acc (compEnvC scope (cellsFrom (s₃.heap.objs.size + 1) scope.names cl) s₃.heap.objs.size env)) (compPostF M A E env.frame Q acc s₃.heap.objs.size) { s₃ with heap := pushCells (s₃.heap.push { cls := .type "dict", data := .dict #[] }) scope.names }) E s₂) E s₁) E s) :
    wpAny M A (comprehension e scope env pos (newList []) false first none) Q E s := by
  unfold comprehension
  rw [hclos, hcl]
  refine wpAny_bind (wpAny_mono h (fun x s₁ h₁ => wpAny_bind (wpAny_standAt (wpAny_bind (wpAny_of_eq (hs x) (wpAny_bind (wpAny_holding (wpAny_mono h₁ (fun it s₂ h₂ =>
    wpAny_standIf (wpAny_bind (wpAny_mono h₂ (fun acc s₃ h₃ => wpAny_bind (wpAny_pure (wpAny_bind (newEnv_comp ?_)))) fun _ _ h' => h')))
      fun _ _ h' => h'))))))) fun _ _ h' => h')
  dsimp only
  have hv : ∀ x ∈ (scope.names.filter fun x => (x.2 == .local || x.2 == .cell) && x.1 != (".0" : Str)).reverse, x.2 = .local →
      Env.kindOf (compEnvC scope (cellsFrom (s₃.heap.objs.size + 1) scope.names cl) s₃.heap.objs.size env) x.1 = some .local := fun x hx hl => lookup_relabel_local (hnames x (List.mem_filter.mp (List.mem_reverse.mp hx)).1 hl)
  refine wpAny_holding (wpAny_bind (wpAny_attempt (wpAny_holding (wpAny_run (codeAny_mono h₃ fun r s' hr => ?_)))))
  cases r with
  | ok f =>
    obtain ⟨m, hn, hr⟩ := hr
    exact wpAny_bind (wpAny_holding (wpAny_comp_letGo (cenv := compEnvC scope (cellsFrom (s₃.heap.objs.size + 1) scope.names cl) s₃.heap.objs.size env) hkind _ s' m hv hn fun h' m' _ hs' => wpAny_pure (hr h' hs')))
  | error x =>
    obtain ⟨m, hn, hr⟩ := hr
    exact wpAny_bind (wpAny_holding (wpAny_comp_letGo (cenv := compEnvC scope (cellsFrom (s₃.heap.objs.size + 1) scope.names cl) s₃.heap.objs.size env) hkind _ s' m hv hn fun h' m' _ hs' => wpAny_mono (hr h' hs' _ rfl rfl) (fun _ _ f => f.elim) fun _ _ y => y))
end
end DL
set_option Elab.async false
set_option linter.all false
set_option maxRecDepth 100000
set_option maxHeartbeats 1000000
namespace DL
open PySem L2 PySem.Spec PyProof.Rows HandSPX
abbrev wx (X : Cx) (xe : Value → Shared → Prop) : Cx := { X with xe := xe }
section
variable {X : Cx} {pins : List (Addr × Obj)} {σ : L2.St} {H : Hp} {s : Shared} {xe : Value → Shared → Prop}
theorem inv_wx (I : Inv (wx X xe) pins σ H s) : Inv X pins σ H s :=
  ⟨⟨I.ok.mod, I.ok.kind, I.ok.glob, I.ok.blt, I.ok.above, I.ok.inj, I.ok.has, I.ok.cab, I.ok.hd, I.ok.frames, I.ok.stk, I.ok.exf, I.ok.bs, I.ok.bsz, I.ok.noex, I.ok.exfs, I.ok.funs, I.ok.frf⟩,
    I.os, I.bare, I.base, I.loc, I.cell, I.free, I.freeC, I.pin, I.hok, I.len⟩
theorem inv_xw (I : Inv X pins σ H s) : Inv (wx X xe) pins σ H s :=
  ⟨⟨I.ok.mod, I.ok.kind, I.ok.glob, I.ok.blt, I.ok.above, I.ok.inj, I.ok.has, I.ok.cab, I.ok.hd, I.ok.frames, I.ok.stk, I.ok.exf, I.ok.bs, I.ok.bsz, I.ok.noex, I.ok.exfs, I.ok.funs, I.ok.frf⟩,
    I.os, I.bare, I.base, I.loc, I.cell, I.free, I.freeC, I.pin, I.hok, I.len⟩
end
/-- the context of a block that may raise -/
abbrev blkX (X : Cx) (W : WX) (s : Shared) (H : Hp) (scope : Scope) (cenv : Env) (fp : List Addr) : Cx := wx (X.blk s H scope cenv fp) (fun u s' => XE (X.blk s H scope cenv fp) W u s')
theorem takes_blkX {X : Cx} {W : WX} {s : Shared} {H : Hp} {scope : Scope} {cenv : Env} {fp : List Addr} : Takes (blkX X W s H scope cenv fp) W :=
  fun u s' ⟨a, B, sI, pins, σ, H', cls, d, e, I, rest⟩ => ⟨a, B, sI, pins, σ, H', cls, d, e, inv_wx I, rest⟩
theorem funFrames_cut {h h' base base' : Heap} {C : Addr} : ∀ {l : List Env}, h.FunFrames base l → C ∉ frs l → (∀ b, b ≠ C → h'.get? b = h.get? b) → (∀ b, base.get? b = none → base'.get? b = none) → h'.FunFrames base' l
  | [], _, _, _, _ => trivial
  | env :: l, ⟨h1, ⟨L, o, h2, h3, h4, h5⟩, h6⟩, hc, k, kb => by
    have hL : L ∈ frs (env :: l) := List.mem_filterMap.mpr ⟨env, List.mem_cons_self, h2⟩
    refine ⟨h1, ⟨L, o, h2, kb L h3, ?_, h5⟩, funFrames_cut h6 (fun z => hc ?_) k kb⟩
    · rw [k L fun z => hc (z ▸ hL)]; exact h4
    · obtain ⟨e, he, hf⟩ := List.mem_filterMap.mp z
      exact List.mem_filterMap.mpr ⟨e, List.mem_cons_of_mem _ he, hf⟩
end DL
set_option Elab.async false
set_option linter.all false
set_option maxRecDepth 100000
set_option maxHeartbeats 1000000
namespace DL
open PySem L2 PySem.Spec PyProof.Rows HandSPX
end DL
set_option Elab.async false
set_option linter.all false
set_option maxRecDepth 100000
set_option maxHeartbeats 1000000
namespace DL
open PySem L2 PySem.Spec PyProof.Rows
def loopX (gd : D → LE → Option LE) (tt : LE → R Bool) (te : LE → R D) (r : LE) : List D → R (List D)
  | [] => .ok []
  | d :: ds => match gd d r with
    | none => .stuck
    | some r' => do
      if (← tt r') then do
        let y ← te r'
        let ys ← loopX gd tt te r ds
        .ok (y :: ys)
      else loopX gd tt te r ds
def compX (fi : LE → R (List D)) (gd : D → LE → Option LE) (tt : LE → R Bool) (te : LE → R D) (vs : List Nat) : LE → R (List D) := fun r => do
  let ds ← fi r
  if ds.length ≤ 16777216 then loopX gd tt te (wipeL r vs) ds else .stuck
end DL
set_option Elab.async false
set_option linter.all false
set_option maxRecDepth 100000
set_option maxHeartbeats 2000000
namespace DL
open PySem L2 PySem.Spec PyProof.Rows
end DL
set_option Elab.async false
set_option linter.all false
set_option maxRecDepth 100000
set_option maxHeartbeats 2000000
namespace L2
open PySem PySem.Spec PyProof.Rows
def mergeT (kvs more : List (List Key × V)) : List (List Key × V) := more.foldl (fun acc kv => putK acc kv.1 kv.2) kvs
/-- a pair with a tracked tuple as its key -/
abbrev KeyP (H : Hp) (p : V × V) (q : List Key × V) : Prop := ∃ b, p.1 = .ref b ∧ H b = some (.tup (q.1.map kV)) ∧ p.2 = q.2
theorem KT.merge {H : Hp} : ∀ {more : List (List Key × V)} {rs : List (List Key × Addr × Value)} {kvs : List (List Key × V)} {xs : List (List Key × Addr × Value)}, KT H more rs → KT H kvs xs → KT H (mergeT kvs more) (storedAllH xs rs)
  | [], [], kvs, xs, .nil, h => h
  | p :: more, q :: rs, kvs, xs, .cons h t, h0 => by
    obtain ⟨q1, q2, q3⟩ := q
    obtain ⟨e1, e2, e3⟩ := h
    have e1 : p.1 = q1 := e1
    subst e1
    exact KT.merge (more := more) (rs := rs) t (h0.put p.1 e2 e3)
end L2
namespace DL
open PySem L2 PySem.Spec PyProof.Rows
def keysOf : List D → Option (List Key)
  | [] => some []
  | d :: ds => match d.key, keysOf ds with
    | some x, some r => some (x :: r)
    | _, _ => none
/-- in its place, or at the end; what stands at a key -/
def putG (kvs : List (List Key × D)) (k : List Key) (v : D) : List (List Key × D) :=
  if (kvs.any fun kv => decide (kv.1 = k)) = true then kvs.map (fun kv => if kv.1 = k then (kv.1, v) else kv) else kvs ++ [(k, v)]
def valG (kvs : List (List Key × D)) (k : List Key) : Option D := (kvs.find? fun kv => decide (kv.1 = k)).map (·.2)
abbrev RepG (G : Gm) (dl : Addr) (S : Hp) : List (List Key × D) → List (List Key × V) → Prop := Paired fun p q => p.1 = q.1 ∧ Rep G dl S p.2 q.2
section
variable {G : Gm} {dl : Addr} {S S' : Hp}
theorem RepG.any {kvs : List (List Key × D)} {kv : List (List Key × V)} (h : RepG G dl S kvs kv) (k : List Key) : (kvs.any fun z => decide (z.1 = k)) = kv.any fun z => decide (z.1 = k) := by
  induction h with
  | nil => rfl
  | cons h t ih => rw [List.any_cons, List.any_cons, ih, h.1]
theorem RepG.put {kvs : List (List Key × D)} {kv : List (List Key × V)} (h : RepG G dl S kvs kv) (k : List Key) {d : D} {v : V} (r : Rep G dl S d v) : RepG G dl S (putG kvs k d) (putK kv k v) := by
  unfold putG putK
  rw [h.any k]
  by_cases c : (kv.any fun z => decide (z.1 = k)) = true
  · rw [if_pos c, if_pos c]
    clear c
    induction h with
    | nil => exact .nil
    | @cons p q ps qs h t ih =>
      rw [List.map_cons, List.map_cons]
      refine .cons ?_ ih
      by_cases e : p.1 = k
      · rw [if_pos e, if_pos (h.1.symm.trans e)]; exact ⟨h.1, r⟩
      · rw [if_neg e, if_neg (fun z => e (h.1.trans z))]; exact h
  · rw [if_neg c, if_neg c]; exact Paired.snoc h ⟨rfl, r⟩
theorem RepG.val {kvs : List (List Key × D)} {kv : List (List Key × V)} (h : RepG G dl S kvs kv) {k : List Key} {d : D} (e : valG kvs k = some d) : ∃ v, valV kv k = some v ∧ Rep G dl S d v := by
  induction h with
  | nil => cases e
  | @cons p q ps qs h t ih =>
    by_cases z : p.1 = k
    · have : valG (p :: ps) k = some p.2 := by simp [valG, List.find?_cons, z]
      rw [this] at e
      cases e
      exact ⟨q.2, valV_pos (h.1.symm.trans z), h.2⟩
    · have : valG (p :: ps) k = valG ps k := by simp [valG, List.find?_cons, z]
      rw [this] at e
      obtain ⟨v, h1, h2⟩ := ih e
      exact ⟨v, (valV_neg (fun y => z (h.1.trans y))).trans h1, h2⟩
end
/-- the pairs of a display, the keys tuples written down -/
inductive DPsT (X : Cx) (G : Gm) (W : WX) (pos : Pos) : List (Option Expr) → List Expr → List ((LE → R (List D)) × (LE → R D)) → Prop
  | nil : DPsT X G W pos [] [] []
  | cons {es : List Expr} {x1 : Nat} {p : Pos} {v : Expr} {ks : List (Option Expr)} {vs : List Expr} {f : LE → R (List D)} {g : LE → R D} {fs : List ((LE → R (List D)) × (LE → R D))} (hk : DA X G W es f) (hv : DE X G W v g) (h : DPsT X G W pos ks vs fs) : DPsT X G W pos (some (.Tuple es x1 p) :: ks) (v :: vs) ((f, g) :: fs)
def trsT (G : Gm) (W : WX) : List ((LE → R (List D)) × (LE → R D)) → List (TE × TE)
  | [] => []
  | (f, g) :: fs => (tTup (tA G W f), tD G W g) :: trsT G W fs
section
variable {X : Cx} {G : Gm} {W : WX} {pos : Pos}
theorem DPsT.pps {ks : List (Option Expr)} {vs : List Expr} {fs : List ((LE → R (List D)) × (LE → R D))} (h : DPsT X G W pos ks vs fs) : PPs X pos ks vs (trsT G W fs) := by
  induction h with
  | nil => exact pps_nil
  | cons hk hv h ih => exact pps_cons (pe_tup hk) hv ih
theorem DPsT.len {ks : List (Option Expr)} {vs : List Expr} {fs : List ((LE → R (List D)) × (LE → R D))} (h : DPsT X G W pos ks vs fs) : fs.length = ks.length := by
  induction h with
  | nil => rfl
  | cons _ _ _ ih => rw [List.length_cons, List.length_cons, ih]
theorem KeyP.grow {dl : Addr} {H H' : Hp} (g : Grow dl H H') {b : Addr} {xs : List V} (hd : b ≠ dl) (e : H b = some (.tup xs)) : H' b = some (.tup xs) := g b _ e hd fun ps z => by cases z
end
end DL
set_option Elab.async false
set_option linter.all false
set_option maxRecDepth 100000
set_option maxHeartbeats 2000000
namespace DL
open PySem L2 LamX PySem.Spec PyProof.Rows
end DL
set_option Elab.async false
set_option linter.all false
set_option maxRecDepth 100000
set_option maxHeartbeats 4000000
namespace DLR
open PySem PySem.Spec PyProof.Rows
section
variable {prog : Program} {w : World} {A : Around} {E : Value → Shared → Prop} {s : Shared}
theorem Walks.rt {t : Addr} {items : Array Value} (hh : A.handled = none) (it : Addr) (hne : t ≠ it) (hz : items.size ≤ sizeLine) :
    Walks prog w A it [it, t] [it] items.size (fun i v => items[items.size - 1 - i]? = some v) (fun i h => i ≤ items.size ∧ RT.IsRt h it t ((items.size : Int) - 1 - (i : Nat)) ∧ IsTup h t items) where
  sub := fun b hb => by simp at hb; simp [hb]
  frame := fun i h h' st k => ⟨st.1, st.2.1.at fun o e => k it (by simp) o e, by
    obtain ⟨o, e, c, n, d⟩ := st.2.2
    exact ⟨o, k t (by simp) o e, c, n, d⟩⟩
  item := fun i s Q E hi st hQ => by
    obtain ⟨_, st, ht⟩ := st
    have e1 : (items.size : Int) - 1 - ((i : Nat) : Int) = ((items.size - 1 - i : Nat) : Int) := by omega
    rw [e1] at st
    have hlt : items.size - 1 - i < items.size := by omega
    refine RT.next_rt_item st ht (x := items[items.size - 1 - i]) (by simp [hlt]) hz fun h' st' sb => ?_
    have e2 : ((items.size - 1 - i : Nat) : Int) - 1 = (items.size : Int) - 1 - ((i + 1 : Nat) : Int) := by omega
    rw [e2] at st'
    refine hQ _ h' _ (by simp [hlt]) ⟨hi, st', ?_⟩ fun b o hb e => (sb.2 b (fun z => hb (by simp [z]))).trans e
    obtain ⟨o, e, c, n, d⟩ := ht
    exact ⟨o, (sb.2 t hne).trans e, c, n, d⟩
  done := fun s Q E st hQ => by
    obtain ⟨_, st, ht⟩ := st
    have e1 : (items.size : Int) - 1 - ((items.size : Nat) : Int) = -1 := by omega
    rw [e1] at st
    exact RT.next_rt_end hh st fun h' eb => hQ h' s.toks fun b o hb e => eb b o (fun z => hb (by simp [z])) e
  self := fun i s Q E st h => RT.iter_rt st.2.1 h
theorem IsTup.keep {h h' : Heap} {t : Addr} {items : Array Value} (x : IsTup h t items) (k : ∀ o, h.get? t = some o → h'.get? t = some o) : IsTup h' t items := by
  obtain ⟨o, e, c⟩ := x
  exact ⟨o, k o e, c⟩
end
end DLR
namespace DL
open PySem L2 PySem.Spec PyProof.Rows
end DL
set_option Elab.async false
set_option linter.all false
set_option maxRecDepth 100000
set_option maxHeartbeats 1000000
namespace DL
open PySem L2 PySem.Spec PyProof.Rows
end DL
set_option Elab.async false
set_option linter.all false
set_option maxRecDepth 100000
set_option maxHeartbeats 1000000
namespace DL
open PySem L2 PySem.Spec PyProof.Rows PySem.W
theorem each_vals : ∀ {us : List V} {its : List Value} {xs : List PyData}, Vals us its → us.length = xs.length → EachIs (fun (v : Value) (b : V × PyData) => RelV b.1 v) its (us.zip xs)
  | [], _, [], h, _ => by cases h; exact .nil
  | [], _, _ :: _, _, e => by cases e
  | _ :: _, _, [], _, e => by cases e
  | u :: us, its, x :: xs, h, e => by
    cases h with
    | cons r t => exact .cons r (each_vals t (by simpa using e))
theorem vals_each : ∀ {bs : List (V × PyData)} {out : List Value}, EachIs (fun (v : Value) (b : V × PyData) => RelV b.1 v) out bs → Vals (bs.map (·.1)) out
  | _, _, .nil => .nil
  | _, _, .cons r t => .cons r (vals_each t)
theorem DpAll.length {K : PySem.W.Frag} {H : Hp} : ∀ {vs : List V} {ds : List PyData}, DpAll K H vs ds → vs.length = ds.length
  | _, _, .nil => rfl
  | _, _, .cons _ t => by simp [DL.DpAll.length t]
def rSortG (K : PySem.W.Frag) (b : Bool) : List V → Hp → VK → Prop := fun vs H Q => ∃ (a : Addr) (us : List V) (xs : List PyData), vs = [.ref a] ∧ SqL K H a us ∧ DpAll K H us xs ∧ AllAlike xs ∧ Sortable xs ∧ (∀ d ∈ xs, d.depth ≤ 50) ∧ us.length ≤ sizeLine ∧
  ∀ p, H p = none → Q (.ref p) (upd H p (.lst (((us.zip xs).mergeSort (dataLe b fun p => p.2)).map (·.1))))
section
variable {X : Cx}
theorem sortG_run {b : Bool} {pins : List (Addr × Obj)} {s : Shared} {σ : L2.St} {H : Hp} {a : Addr} {us : List V} {xs : List PyData} {Q : VK} {f : List (Str × Value)} (I : Inv X pins σ H s) (hs : SqL X.K H a us) (hdp : DpAll X.K H us xs) (ha : AllAlike xs) (hk : Sortable xs) (hd : ∀ d ∈ xs, d.depth ≤ 50) (hz : us.length ≤ sizeLine)
    (hu : X.A.units + 70 < cLine) (hf : f = [] ∧ b = false ∨ f = [(Str.ofString "reverse", .bool b)])
    (q : ∀ p, H p = none → Q (.ref p) (upd H p (.lst (((us.zip xs).mergeSort (dataLe b fun p => p.2)).map (·.1))))) : wpAny (model X.prog X.w) X.A (call (.builtin "sorted") [.ref a] f) (EP X pins σ Q) X.xe s := by
  obtain ⟨its, rv, pl, _⟩ := I.list hs
  obtain ⟨as, hr⟩ := Dp.readsAll I xs us its hdp rv
  have hl := DL.DpAll.length hdp
  have hm : (us.zip xs).map (fun p : V × PyData => p.2) = xs := List.map_snd_zip (by omega)
  have e := each_vals rv hl
  have er := readsAll_each (h := s.heap) (fun p : V × PyData => p.2) (vs := its) (bs := us.zip xs) (as := as) (by rw [hm]; exact hr)
  have hlz : (us.zip xs).length = us.length := by rw [List.length_zip]; omega
  have fin : ∀ out : List Value, out.length = (us.zip xs).length → EachIs (fun (v : Value) (b : V × PyData) => RelV b.1 v) out ((us.zip xs).mergeSort (dataLe b fun p => p.2)) →
      EP X pins σ Q (.ref (s.heap.objs.size + 1)) { s with heap := sortedAll s.heap its (List.toArray out) } := fun out ho eo => by
    obtain ⟨ep, he'⟩ := PyProof.Rows.sortedAll_at s.heap its (List.toArray out)
    have hlen : (((us.zip xs).mergeSort (dataLe b fun p => p.2)).map (·.1)).length ≤ sizeLine := by
      rw [List.length_map, List.length_mergeSort, hlz]; exact hz
    exact ⟨.ref _, upd H (s.heap.objs.size + 1) (.lst (((us.zip xs).mergeSort (dataLe b fun p => p.2)).map (·.1))), I.laid (t' := s.toks) (fun _ _ => PyProof.Rows.sortedAll_old) (Nat.le_succ _) ⟨hlen, _, ep, vals_each eo, he'⟩, rfl, q _ (I.hok.fresh (Nat.le_succ _))⟩
  have hub : ∀ y, y ∈ us.zip xs → X.A.units + 2 + (y.2).depth < cLine := fun y hy => by
    have := hd y.2 (by rw [← hm]; exact List.mem_map.mpr ⟨y, hy, rfl⟩)
    omega
  rcases hf with ⟨rfl, rfl⟩ | rfl
  · exact sorted_data pl.isList e er (by rw [hm]; exact ha) (by rw [hm]; exact hk) (by rw [hlz]; exact hz) hub fin
  · exact sorted_rev_data pl.isList e er (by rw [hm]; exact ha) (by rw [hm]; exact hk) (by rw [hlz]; exact hz) hub fin
theorem cr_sortG (hu : X.A.units + 70 < cLine) : CallR X (.builtin "sorted") (rSortG X.K false) := by
  intro pins s σ H vs us0 Q I r ⟨a, us, xs, ev, hs, hdp, ha, hk, hd, hz, q⟩
  subst ev
  rw [Vals.ref1 r]
  exact sortG_run I hs hdp ha hk hd hz hu (.inl ⟨rfl, rfl⟩) q
end
def sortGD (ds : List D) : R (List D) := if alis ds && srtb ds && decide (ds.length ≤ 16777216) then .ok (sortK ds ds) else .stuck
def sortedY : List D → R (List D)
  | [.lst xs] => match sortedX [.lst xs] with
    | .stuck => sortGD xs
    | z => z
  | ds => sortedX ds
section
variable {X : Cx} {G : Gm} {W : WX} {e : Expr} {f : LE → R D} {p pos : Pos}
theorem sortG_core {dl : Addr} {Z : List Addr} {O : List (Nat × Addr)} {r : LE} {sg : L2.St} {H : Hp} {b : Bool} {xs : List D} {a : Addr} {us : List V} {Q : VK} (hG : G.K = X.K) (e : H a = some (.lst us)) (rl : RepL G dl (cut H Z) xs us) (hal : (alis xs && srtb xs && decide (xs.length ≤ 16777216)) = true)
    (h : ∀ p, H p = none → Q (.ref p) (upd H p (.lst (((us.zip (D.toPs xs)).mergeSort (dataLe b fun p => p.2)).map (·.1))))) : rSortG X.K b [.ref a] H Q := by
  simp only [Bool.and_eq_true, decide_eq_true_eq] at hal
  obtain ⟨⟨hal, hsr⟩, hz⟩ := hal
  have hs := alis_sh hal
  have hdp := RepL.dp (cut_grow H Z) xs 50 (shs_of hs) rl
  rw [hG] at hdp
  exact ⟨a, us, D.toPs xs, rfl, SqL.of e, hdp, alis_all hal, srtb_ok hal hsr, alis_dep hal, by rw [rl.length, sizeLine_eq]; exact hz, h⟩
theorem cf_sortedY (hG : G.K = X.K) (hc : X.calm = true) (hu : X.A.units + 70 < cLine) : CallF X G (.builtin "sorted") sortedY := by
  obtain ⟨rr, h1, h2⟩ := cf_sortedX hG hc
  refine ⟨_, CallR.or_ h1 (cr_sortG hu), fun dl Z O r sg ds vs H Q E A rl h => ?_⟩
  unfold sortedY at h
  split at h
  · rename_i xs
    split at h
    case h_2 => exact .inl (h2 dl Z O r sg _ vs H Q E A rl h)
    obtain ⟨v, rfl, rp⟩ := rl.one
    obtain ⟨a, us, rfl, e, rl'⟩ := rp.lst
    unfold sortGD at h
    split at h
    case isFalse => exact h.elim
    rename_i hal
    refine .inr (sortG_core (O := O) (r := r) (sg := sg) hG e rl' hal fun p hp => ?_)
    exact h p _ H (.refl _ _) A.gl hp (sortK_rep rl' rfl)
  · exact .inl (h2 dl Z O r sg ds vs H Q E A rl h)
end
end DL
set_option Elab.async false
set_option linter.all false
set_option maxRecDepth 100000
set_option maxHeartbeats 1000000
namespace DL
open PySem L2 PySem.Spec PyProof.Rows
end DL
set_option Elab.async false
set_option linter.all false
set_option maxRecDepth 100000
set_option maxHeartbeats 1000000
namespace DL
open PySem L2 PySem.Spec PyProof.Rows
def eqZ (x y : D) : R D := match x, y with
  | .lst xs, .lst ys => if xs.length = ys.length then eqD (.lst xs) (.lst ys) else .ok (.bl false)
  | x, y => eqD x y
def neZ (x y : D) : R D := match x, y with
  | .lst xs, .lst ys => if xs.length = ys.length then neD (.lst xs) (.lst ys) else .ok (.bl true)
  | x, y => neD x y
section
variable {X : Cx}
theorem op_eqLen (hu : X.A.units + 64 < cLine) : OpR X (compareOp .Eq) (fun x y H Q => ∃ a b xs ys, x = .ref a ∧ y = .ref b ∧ SqL X.K H a xs ∧ SqL X.K H b ys ∧ xs.length ≠ ys.length ∧ Q (.bl false) H) := by
  intro pins s σ H x y v u Q I rx ry ⟨a, b, xs, ys, ex, ey, ha, hb, hl, q⟩
  subst ex ey
  obtain rfl : v = Value.ref a := rx
  obtain rfl : u = Value.ref b := ry
  obtain ⟨is, rv, p, _⟩ := I.list ha
  obtain ⟨js, rw', p', _⟩ := I.list hb
  refine PySem.SeqAt.RcAt.lists_lengths p.isList p'.isList ?_ (by omega) _ _ _ _ ⟨.bl _, H, I, rfl, q⟩
  simp only [List.size_toArray, bne_iff_ne, ne_eq]
  rw [← rv.length, ← rw'.length]
  exact hl
theorem op_neLen (hu : X.A.units + 64 < cLine) : OpR X (compareOp .NotEq) (fun x y H Q => ∃ a b xs ys, x = .ref a ∧ y = .ref b ∧ SqL X.K H a xs ∧ SqL X.K H b ys ∧ xs.length ≠ ys.length ∧ Q (.bl true) H) := by
  intro pins s σ H x y v u Q I rx ry ⟨a, b, xs, ys, ex, ey, ha, hb, hl, q⟩
  subst ex ey
  obtain rfl : v = Value.ref a := rx
  obtain rfl : u = Value.ref b := ry
  obtain ⟨is, rv, p, _⟩ := I.list ha
  obtain ⟨js, rw', p', _⟩ := I.list hb
  refine PySem.SeqAt.RcNeAt.lists_lengths p.isList p'.isList ?_ (by omega) _ _ _ _ ⟨.bl _, H, I, rfl, q⟩
  simp only [List.size_toArray, bne_iff_ne, ne_eq]
  rw [← rv.length, ← rw'.length]
  exact hl
end
section
variable {X : Cx} {G : Gm}
theorem op_eqZ_d (hG : G.K = X.K) (hu : X.A.units + 64 < cLine) : OpD X G (compareOp .Eq) eqZ := by
  obtain ⟨rr, h1, h2⟩ := op_eq_d hG hu
  refine ⟨_, OpR.or h1 (op_eqLen hu), fun dl Z O r sg x y vx vy H Q E A hx hy h => ?_⟩
  unfold eqZ at h
  split at h
  · split at h
    · exact .inl (h2 dl Z O r sg _ _ vx vy H Q E A hx hy h)
    · rename_i hl
      obtain ⟨a, us, rfl, e1, r1⟩ := hx.lst
      obtain ⟨b, ws, rfl, e2, r2⟩ := hy.lst
      exact .inr ⟨a, b, us, ws, rfl, rfl, SqL.of e1, SqL.of e2, by rw [r1.length, r2.length]; exact hl, h _ H (.refl _ _) A.gl Rep.bl_⟩
  · exact .inl (h2 dl Z O r sg _ _ vx vy H Q E A hx hy h)
theorem op_neZ_d (hG : G.K = X.K) (hu : X.A.units + 64 < cLine) : OpD X G (compareOp .NotEq) neZ := by
  obtain ⟨rr, h1, h2⟩ := op_ne_d hG hu
  refine ⟨_, OpR.or h1 (op_neLen hu), fun dl Z O r sg x y vx vy H Q E A hx hy h => ?_⟩
  unfold neZ at h
  split at h
  · split at h
    · exact .inl (h2 dl Z O r sg _ _ vx vy H Q E A hx hy h)
    · rename_i hl
      obtain ⟨a, us, rfl, e1, r1⟩ := hx.lst
      obtain ⟨b, ws, rfl, e2, r2⟩ := hy.lst
      exact .inr ⟨a, b, us, ws, rfl, rfl, SqL.of e1, SqL.of e2, by rw [r1.length, r2.length]; exact hl, h _ H (.refl _ _) A.gl Rep.bl_⟩
  · exact .inl (h2 dl Z O r sg _ _ vx vy H Q E A hx hy h)
end
theorem eqZ_nil (xs : List D) : eqZ (.lst xs) (.lst []) = .ok (.bl xs.isEmpty) := by
  cases xs with
  | nil => rfl
  | cons x xs => rfl
theorem neZ_nil (xs : List D) : neZ (.lst xs) (.lst []) = .ok (.bl (!xs.isEmpty)) := by
  cases xs with
  | nil => rfl
  | cons x xs => rfl
end DL
set_option Elab.async false
set_option linter.all false
set_option maxRecDepth 100000
set_option maxHeartbeats 2000000
namespace DL
open PySem L2 PySem.Spec PyProof.Rows
/-- a class without == of its own -/
structure CmpO (K : PySem.W.Frag) (C : Addr) : Prop where
  mro : PySem.W.mroIn K C (.type "object") = some true
  eq : PySem.W.findIn K (.ref C) "__eq__" = some (some (.builtin "object.__eq__"))
  ne : PySem.W.findIn K (.ref C) "__ne__" = some (some (.builtin "object.__ne__"))
theorem CmpO.of {K : PySem.W.Frag} {C : Addr} (h : PySem.W.makesIn K C = true) (h1 : PySem.W.findIn K (.ref C) "__eq__" = some (some (.builtin "object.__eq__"))) (h2 : PySem.W.findIn K (.ref C) "__ne__" = some (some (.builtin "object.__ne__"))) : CmpO K C := ⟨L2.mro_obj h, h1, h2⟩
end DL
set_option Elab.async false
set_option linter.all false
set_option maxRecDepth 100000
set_option maxHeartbeats 1000000
namespace DL
open PySem L2 PySem.Spec PyProof.Rows GenW
section
variable {g : Ge} {tg : Expr} {H : Hp} {s s' : Shared} {ps ps' po : List (Addr × Obj)} {σ : L2.St}
theorem fpOk_to {X : Cx} {pins pins' : List (Addr × Obj)} {H H' : Hp} {b : Addr} (h : FpOk X pins H b) (hn : H' b = none) (hp : pins'.map (·.1) = pins.map (·.1)) : FpOk X pins' H' b := by
  obtain ⟨_, f1, f2, f3, f4, f5⟩ := h
  refine ⟨hn, f1, f2, f3, f4, fun p hp' => ?_⟩
  rcases List.mem_append.mp hp' with z | z
  · exact f5 p (List.mem_append_left _ z)
  · have : p.1 ∈ pins.map (·.1) := by rw [← hp]; exact List.mem_map.mpr ⟨p, z, rfl⟩
    obtain ⟨q, hq, e⟩ := List.mem_map.mp this
    rw [← e]
    exact f5 q (List.mem_append_right _ hq)
/-- behind the consumer's turn, more pinned -/
theorem inv_slept (k : GeOk g tg) (hps : ps.map (·.1) = g.S) (hpo : ∀ p ∈ po, p.1 ∉ g.S) (I : Inv g.Xg (g.pa :: ps ++ po) σ H s) (z : Slp g.S s s') (hd : Held g.S ps' s') : Inv g.Xg (g.pa :: ps' ++ po) σ H s' := by
  have pinS : ∀ b ∈ g.S, ∃ o, s.heap.get? b = some o ∧ H b = none ∧ b ≠ g.Xg.env.locals ∧ b ∉ g.Xg.fs := fun b hb => by
    rw [← hps] at hb
    obtain ⟨p, hp, e⟩ := List.mem_map.mp hb
    obtain ⟨h1, h2, h3, h4, _⟩ := I.pin p (List.mem_append_right _ (List.mem_append_left _ (List.mem_cons_of_mem _ hp)))
    rw [← e]
    exact ⟨_, h1, h2, h3, h4⟩
  have I0 : Inv g.Xg (g.pa :: po) σ H s := I.pins_of fun p hp => by
    rcases List.mem_cons.mp hp with z | z
    · rw [z]; exact I.pin g.pa (List.mem_append_right _ (List.mem_append_left _ List.mem_cons_self))
    · exact I.pin p (List.mem_append_right _ (List.mem_append_right _ z))
  have nt : ∀ b u, H b = some u → b ∉ g.S := fun b u q hb => by
    obtain ⟨_, _, h2, _⟩ := pinS b hb
    rw [h2] at q; cases q
  obtain ⟨z1, z2, z3⟩ := z
  obtain ⟨hh, G, d, t, o⟩ := s'
  have ho : o = s.os := z1
  subst ho
  have J : Inv g.Xg (g.pa :: po) σ H { s with heap := hh, gens := G, drawn := d, toks := t } := by
    refine I0.step (g' := G) (t' := t) (d' := d) (ch := g.S) (fun b hb => ?_)
      (fun b ob _ _ hc q _ => z3 b ob hc q) (fun b ob _ _ hc q _ => ⟨ob.slots, z3 b ob hc q⟩) (fun _ _ _ _ n => n) (fun b ob hc q => ⟨ob, z3 b ob hc q⟩)
      (fun _ _ q => q) (fun _ _ _ q => q) (fun b ps q => ⟨#[], by rw [q]; simp⟩) (fun m hm => ?_) (fun b u q => ?_) z2
    · obtain ⟨a1, a2, a3, a4, a5⟩ := k.apart b hb
      refine ⟨.inr a1, a2, a5, fun p hp => ?_⟩
      rw [k.pn, List.nil_append] at hp
      rcases List.mem_cons.mp hp with z | z
      · rw [z]
        exact fun e => a3 e.symm
      · exact fun e => hpo p z (by rw [e]; exact hb)
    · obtain ⟨ob, es, ep, ho, r⟩ := hm
      exact ⟨ob, es, ep, z3 _ ob (fun hb => (k.apart _ hb).2.1 rfl) ho, r⟩
    · refine (I0.hok b u q).stay (fun c v hc y => z3 c v ?_ y) (fun _ y => y) fun _ _ y => y
      rcases hc with y | y
      · rw [y]; exact nt b u q
      · exact nt c _ y
  have hp' : ∀ p ∈ ps', hh.get? p.1 = some p.2 ∧ H p.1 = none ∧ p.1 ≠ g.Xg.env.locals ∧ p.1 ∉ g.Xg.fs ∧ ∀ v, p.2.data ≠ .cell v := fun p hp => by
    obtain ⟨q1, q2⟩ := hd.ok p hp
    obtain ⟨_, _, h2, h3, h4⟩ := pinS p.1 (by rw [← hd.at_]; exact List.mem_map.mpr ⟨p, hp, rfl⟩)
    exact ⟨q1, h2, h3, h4, q2⟩
  refine J.pins_of fun p hp => ?_
  rcases List.mem_append.mp hp with z | z
  · rcases List.mem_cons.mp z with z | z
    · rw [z]
      exact J.pin g.pa (List.mem_append_right _ List.mem_cons_self)
    · exact hp' p z
  · exact J.pin p (List.mem_append_right _ (List.mem_cons_of_mem _ z))
/-- the inner loop's things -/
structure In2 where
  po : List (Addr × Obj)
  fp : List Addr
  it : Addr
  tn : Nat → Heap → Prop
  J : It
  σ : L2.St
  hp : Heap
  i : Nat
/-- between two turns of the inner loop -/
structure G2 (g : Ge) (q : In2) (j : Nat) (ps : List (Addr × Obj)) (H : Hp) (s : Shared) : Prop where
  at_ : ps.map (·.1) = g.S
  inv : Inv g.Xg (g.pa :: ps ++ q.po) q.σ H s
  tn : q.tn j s.heap
  fp : ∀ b ∈ q.fp, FpOk g.Xg (g.pa :: ps ++ q.po) H b
structure In2Ok (g : Ge) (tg2 : Expr) (q : In2) : Prop where
  turn : Turn g.Xg.prog g.Xg.w g.Xg.K tg2 q.J q.fp q.it q.tn
  po : q.po = pinsAt g.fp q.hp
  out : g.tn q.i q.hp
  σ : q.σ.length = g.σ0.length
theorem In2Ok.apart {tg2 : Expr} {q : In2} (k : GeOk g tg) (o : In2Ok g tg2 q) : ∀ p ∈ q.po, p.1 ∉ g.S := fun p hp => by
  rw [o.po] at hp
  obtain ⟨hb, _⟩ := of_pinsAt hp
  exact fun hS => (k.apart p.1 hS).2.2.2.1 hb
/-- seen from outside -/
theorem G2.out {tg2 : Expr} {q : In2} (k : GeOk g tg) (o : In2Ok g tg2 q) {more : List (Addr × Obj)} (hps : ps.map (·.1) = g.S) (I : Inv g.Xg (g.pa :: ps ++ q.po ++ more) σ H s) (hl : g.σ0.length = σ.length) (hw : ∀ (j : Nat) v, g.σ0[j]? = some (some v) → σ[j]? = some (some v)) : GInv g q.i ps H s := by
  have pin' : ∀ b ∈ g.fp, ∀ ob, q.hp.get? b = some ob → s.heap.get? b = some ob ∧ H b = none := fun b hb ob e => by
    have z := I.pin (b, ob) (List.mem_append_right _ (List.mem_append_left _ (List.mem_append_right _ (by rw [o.po]; exact mem_pinsAt hb e))))
    exact ⟨z.1, z.2.1⟩
  refine ⟨hps, (Inv.unpinned (pins := g.pa :: ps) (pl := q.po ++ more) (by rw [← List.append_assoc]; exact I)).weak hl hw, k.turn.keep _ _ _ o.out fun b hb ob e => (pin' b hb ob e).1, fun b hb => ?_⟩
  obtain ⟨ob, e, _⟩ := k.turn.obj _ _ o.out b hb
  exact (pin' b hb ob e).2
theorem G2.slept {tg2 : Expr} {q : In2} {j : Nat} (k : GeOk g tg) (o : In2Ok g tg2 q) (h : G2 g q j ps H s) (z : Slp g.S s s') (hd : Held g.S ps' s') : G2 g q j ps' H s' := by
  obtain ⟨hps, I, st, hf⟩ := h
  have hmap : (g.pa :: ps' ++ q.po).map (·.1) = (g.pa :: ps ++ q.po).map (·.1) := by
    rw [List.map_append, List.map_append, List.map_cons, List.map_cons, hps, hd.at_]
  refine ⟨hd.at_, inv_slept k hps (o.apart k) I z hd, o.turn.keep _ _ _ st fun b hb ob e => z.keep b ob (fun hS => ?_) e, fun b hb => fpOk_to (hf b hb) (hf b hb).1 hmap⟩
  rw [← hps] at hS
  obtain ⟨p, hp, e2⟩ := List.mem_map.mp hS
  exact (hf b hb).2.2.2.2.2 p (List.mem_append_right _ (List.mem_append_left _ (List.mem_cons_of_mem _ hp))) e2
end
end DL
set_option Elab.async false
set_option linter.all false
set_option maxRecDepth 100000
set_option maxHeartbeats 1000000
namespace DL
open PySem L2 PySem.Spec PyProof.Rows GenW
end DL
set_option Elab.async false
set_option linter.all false
set_option maxRecDepth 100000
set_option maxHeartbeats 1000000
namespace DL
open PySem L2 PySem.Spec PyProof.Rows GenW
end DL
set_option Elab.async false
set_option linter.all false
set_option maxRecDepth 100000
set_option maxHeartbeats 1000000
namespace DL
open PySem L2 PySem.Spec PyProof.Rows GenW
end DL
set_option Elab.async false
set_option linter.all false
set_option maxRecDepth 100000
set_option maxHeartbeats 2000000
namespace DL
open PySem L2 PySem.Spec PyProof.Rows GenW
end DL
set_option Elab.async false
set_option linter.all false
set_option maxRecDepth 100000
set_option maxHeartbeats 1000000
namespace DL
open PySem L2 PySem.Spec PyProof.Rows
section
variable {X : Cx} {G : Gm} {W : WX} {tg l : Expr} {f : LE → R D}
def iAny (K : PySem.W.Frag) (tl : TE) : TI := fun σ H R => tl σ H fun x H1 => (∃ a, x = .ref a ∧ (((∃ xs, SqL K H1 a xs) ∧ R (Itl K a) H1) ∨ ((∃ xs, SqT K H1 a xs) ∧ R (Itt K a) H1))) ∨ ∃ s : Str, x = .str s ∧ R (Its s) H1
theorem pi_any {tl : TE} (hl : PE X l tl) : PI X tg l (iAny X.K tl) := by
  refine ⟨fun pins s σ H R I h => ?_⟩
  refine thn (hl.run pins s σ H _ I h) fun v s1 ⟨x, H1, I1, r1, q1⟩ => ?_
  have hfp : ∀ b ∈ [s1.heap.objs.size], _ := fun b hb => by
    have e : b = s1.heap.objs.size := by simpa using hb
    subst e
    exact I1.fpOk (Nat.le_refl _) (I1.hok.fresh (Nat.le_refl _))
  rcases q1 with ⟨a, e, q⟩ | ⟨y, e, q⟩
  · subst e
    cases r1
    rcases q with ⟨⟨xs, hq⟩, q⟩ | ⟨⟨xs, hq⟩, q⟩
    · obtain ⟨its, rv, p, hz⟩ := I1.list hq
      refine wpAny_pyIter_list p.isList ?_
      exact ⟨s1.heap.objs.size, [s1.heap.objs.size], _, _, H1, rfl, I1.kept (t' := s1.toks) fun b o e => Heap.get?_push_of_some _ e, turn_list a _, ⟨_, Heap.get?_push_size _ rfl, rfl, rfl⟩, hfp, q⟩
    · obtain ⟨its, rv, p, hz⟩ := I1.tuple hq
      refine wpAny_pyIter_tuple (show s1.heap.IsTuple a its.toArray from p) ?_
      exact ⟨s1.heap.objs.size, [s1.heap.objs.size], _, _, H1, rfl, I1.kept (t' := s1.toks) fun b o e => Heap.get?_push_of_some _ e, turn_tuple a _, ⟨_, Heap.get?_push_size _ rfl, rfl, rfl⟩, hfp, q⟩
  · subst e
    obtain ⟨t, rfl⟩ := r1
    cases ha : y.cps.all (· < 128)
    · exact wpAny_pyIter_wide ha (pi_one (tk := s1.toks) I1 _ (turn_str _ y t "str_iterator" (.inr rfl)) ⟨_, Heap.get?_push_size _ rfl, rfl, rfl⟩ q)
    · exact wpAny_pyIter_ascii ha (pi_one (tk := s1.toks) I1 _ (turn_str _ y t "str_ascii_iterator" (.inl rfl)) ⟨_, Heap.get?_push_size _ rfl, rfl, rfl⟩ q)
def itemsA : D → R (List D)
  | .lst ds => .ok ds
  | .tup ds => .ok ds
  | .str s => strD (.str s)
  | _ => .stuck
def itA (f : LE → R D) : LE → R (List D) := fun r => f r >>= itemsA
theorem die_any (hG : G.K = X.K) (h : DP X G W l f) : DIe X G W tg l (itA f) := PI_imp (pi_any h) fun sg H Q ⟨dl, Z, O, r, A, q⟩ => by
  refine ⟨dl, Z, O, r, A, q.bind.thn fun d hd v H1 g1 k1 rp => ?_⟩
  unfold itemsA at hd
  split at hd
  · rcases rp with rp | ⟨a, rfl, haz, had, ow⟩
    · unfold Rep at rp
      obtain ⟨a, vs, rfl, e, rl⟩ := rp
      refine .inl ⟨a, rfl, .inl ⟨⟨vs, SqL.of (cut_some e).2⟩, ?_⟩⟩
      rw [← hG]
      exact hd _ _ H1 g1 k1 walk_list.toWalkE ⟨e, rl⟩
    · obtain ⟨vs, e, rl⟩ := ow
      refine .inl ⟨a, rfl, .inl ⟨⟨vs, SqL.of e⟩, ?_⟩⟩
      rw [← hG]
      exact hd _ _ H1 g1 k1 (walk_listE had) ⟨e, rl⟩
  · rcases rp with rp | ⟨a, rfl, haz, had, ow⟩
    · unfold Rep at rp
      obtain ⟨a, vs, rfl, e, rl⟩ := rp
      refine .inl ⟨a, rfl, .inr ⟨⟨vs, hG ▸ (cut_grow H1 Z).sqt (SqT.of e)⟩, ?_⟩⟩
      rw [← hG]
      exact hd _ _ H1 g1 k1 walk_tup.toWalkE ⟨SqT.of e, rl⟩
    · exact ow.elim
  · have := rp.str
    subst this
    exact .inr ⟨_, rfl, hd _ _ H1 g1 k1 walk_str.toWalkE trivial⟩
  · exact hd.elim
end
end DL
set_option Elab.async false
set_option linter.all false
set_option maxRecDepth 100000
set_option maxHeartbeats 2000000
namespace DL
open PySem L2 PySem.Spec PyProof.Rows
end DL
set_option Elab.async false
set_option linter.all false
set_option maxRecDepth 100000
set_option maxHeartbeats 1000000
namespace DL
open PySem L2 PySem.Spec PyProof.Rows PySem.W
def rSortT (K : PySem.W.Frag) : List V → Hp → VK → Prop := fun vs H Q => ∃ (a : Addr) (us : List V) (xs : List PyData), vs = [.ref a] ∧ SqT K H a us ∧ DpAll K H us xs ∧ AllAlike xs ∧ Sortable xs ∧ (∀ d ∈ xs, d.depth ≤ 50) ∧ us.length ≤ sizeLine ∧
  ∀ p, H p = none → Q (.ref p) (upd H p (.lst (((us.zip xs).mergeSort (dataLe false fun p => p.2)).map (·.1))))
section
variable {X : Cx}
theorem cr_sortT (hu : X.A.units + 70 < cLine) : CallR X (.builtin "sorted") (rSortT X.K) := by
  intro pins s σ H vs us0 Q I0 r ⟨l, us, xs, ev, hs, hdp, ha, hk, hd, hz, q⟩
  subst ev
  rw [Vals.ref1 r]
  obtain ⟨its, rv, pl, _⟩ := I0.tuple hs
  obtain ⟨as, hr⟩ := Dp.readsAll I0 xs us its hdp rv
  have hl := DL.DpAll.length hdp
  have hm : (us.zip xs).map (fun p : V × PyData => p.2) = xs := List.map_snd_zip (by omega)
  have e := each_vals rv hl
  have er := readsAll_each (h := s.heap) (fun p : V × PyData => p.2) (vs := its) (bs := us.zip xs) (as := as) (by rw [hm]; exact hr)
  have hlz : (us.zip xs).length = us.length := by rw [List.length_zip]; omega
  have hub : ∀ y, y ∈ us.zip xs → X.A.in1.in1.units + (y.2).depth < cLine := fun y hy => by
    have := hd y.2 (by rw [← hm]; exact List.mem_map.mpr ⟨y, hy, rfl⟩)
    show X.A.units + 1 + 1 + _ < _
    omega
  refine call_function_entry_kw kind_sorted plain_sorted entry_sorted (args_sorted1 _) ?_
  unfold Builtin.«sorted»
  refine wpAny_bind (m := checkCount "sorted" 1 1 _) (wpAny_pure ?_)
  obtain ⟨o, ho, hc, nn, hdat⟩ := pl
  refine wpAny_bind (wpAny_collect_seq l (.inr rfl) ho hc hdat (fun h1 k1 => ?_) (by rw [List.size_toArray, ← rv.length]; exact hz))
  have len : us.length = its.length := rv.length
  have I1 : Inv X pins σ H { s with heap := h1 } := I0.kept (t' := s.toks) k1
  refine wpAny_bind (wpAny_newList ?_ (by show its.length ≤ _; rw [← len]; exact hz))
  have hoL : (h1.push (seqObj "list" its.toArray 0)).get? h1.objs.size = some (seqObj "list" its.toArray 0) := Heap.get?_push_size _ rfl
  have kp : ∀ b ob, s.heap.get? b = some ob → (sortingHeap (h1.push (seqObj "list" its.toArray 0)) h1.objs.size its).get? b = some ob := fun b ob q => by
    have q1 := k1 b ob q
    exact sortingHeap_old (Nat.ne_of_lt (Heap.lt_size q1)) (Heap.get?_push_of_some _ q1)
  have er' : EachIs (fun v (b : V × PyData) => ∃ as, Reads (sortingHeap (h1.push (seqObj "list" its.toArray 0)) h1.objs.size its) v b.2 as) its (us.zip xs) := er.mono fun _ _ ⟨as, r⟩ => ⟨as, PyProof.Rows.Reads.keeps (fun b ob q => kp b ob q) r⟩
  refine wpAny_bind (wpAny_holding (wpAny_call_entry_kw slot_list_sort ⟨_, hoL, rfl⟩ entry_list_sort ?body (args_list_sort _)))
  case body =>
    refine list_sort_vals (κ := dataKind (sortingHeap (h1.push (seqObj "list" its.toArray 0)) h1.objs.size its) ((us.zip xs).map fun p => p.2)) hoL
      (SortsAt.data (s := { s with heap := sortingHeap (h1.push (seqObj "list" its.toArray 0)) h1.objs.size its }) (each_map (R := fun v d => ∃ as, Reads (sortingHeap (h1.push (seqObj "list" its.toArray 0)) h1.objs.size its) v d as) (fun p : V × PyData => p.2) er') (by rw [hm]; exact ha) (by rw [hm]; exact hk) (bound_map hub)) (by rw [← len]; exact hz) ⟨_, rfl, ?_⟩
    have eo := sortVals_data false e er' (by rw [hm]; exact ha)
    have ho2 : (sortVals (dataKind (sortingHeap (h1.push (seqObj "list" its.toArray 0)) h1.objs.size its) ((us.zip xs).map fun p => p.2)) false its its).length = us.length := by
      rw [sortVals_length false rfl, ← len]
    obtain ⟨ep, he'⟩ := PyProof.Rows.sortedHeap_at (vs := its) (out := (sortVals (dataKind (sortingHeap (h1.push (seqObj "list" its.toArray 0)) h1.objs.size its) ((us.zip xs).map fun p => p.2)) false its its).toArray) hoL
    have hlen : (((us.zip xs).mergeSort (dataLe false fun p => p.2)).map (·.1)).length ≤ sizeLine := by
      rw [List.length_map, List.length_mergeSort, hlz]; exact hz
    refine wpAny_pure ⟨_, rfl, .ref h1.objs.size, upd H h1.objs.size (.lst (((us.zip xs).mergeSort (dataLe false fun p => p.2)).map (·.1))), I1.laid (t' := s.toks) (fun b u e => ?_) (Nat.le_refl _) ⟨hlen, _, ep, vals_each eo, he'⟩, rfl, q _ (I1.hok.fresh (Nat.le_refl _))⟩
    have hb : b < h1.objs.size := Heap.lt_size e
    rw [PyProof.Rows.sortedHeap_old (Nat.ne_of_lt hb) (by rw [size_push']; exact Nat.lt_succ_of_lt hb)]
    exact Heap.get?_push_of_some _ e
end
def sortedZ : List D → R (List D)
  | [.tup xs] => sortGD xs
  | ds => sortedY ds
section
variable {X : Cx} {G : Gm}
theorem cf_sortedZ (hG : G.K = X.K) (hc : X.calm = true) (hu : X.A.units + 70 < cLine) : CallF X G (.builtin "sorted") sortedZ := by
  obtain ⟨rr, h1, h2⟩ := cf_sortedY hG hc hu
  refine ⟨_, CallR.or_ h1 (cr_sortT hu), fun dl Z O r sg ds vs H Q E A rl h => ?_⟩
  unfold sortedZ at h
  split at h
  · rename_i xs
    obtain ⟨v, rfl, rp⟩ := rl.one
    obtain ⟨a, us, rfl, e, rl'⟩ := rp.tup
    unfold sortGD at h
    split at h
    case isFalse => exact h.elim
    rename_i hal
    simp only [Bool.and_eq_true, decide_eq_true_eq] at hal
    obtain ⟨⟨hal, hsr⟩, hz⟩ := hal
    have hs := alis_sh hal
    have hdp := RepL.dp (cut_grow H Z) xs 50 (shs_of hs) rl'
    rw [hG] at hdp
    exact .inr ⟨a, us, D.toPs xs, rfl, hG ▸ e, hdp, alis_all hal, srtb_ok hal hsr, alis_dep hal, by rw [rl'.length, sizeLine_eq]; exact hz, fun p hp => h p _ H (.refl _ _) A.gl hp (sortK_rep rl' rfl)⟩
  · exact .inl (h2 dl Z O r sg ds vs H Q E A rl h)
end
end DL
set_option Elab.async false
set_option linter.all false
set_option maxRecDepth 100000
set_option maxHeartbeats 1000000
namespace DL
open PySem L2 PySem.Spec PyProof.Rows
end DL
set_option Elab.async false
set_option linter.all false
set_option maxRecDepth 100000
set_option maxHeartbeats 1000000
namespace L2
open PySem PySem.Spec PyProof.Rows
end L2
namespace DL
open PySem L2 PySem.Spec PyProof.Rows
end DL
set_option Elab.async false
set_option linter.all false
set_option maxRecDepth 100000
set_option maxHeartbeats 1000000
namespace DL
open PySem L2 LamX PySem.Spec PyProof.Rows PySem.W
end DL
set_option Elab.async false
set_option linter.all false
set_option maxRecDepth 100000
set_option maxHeartbeats 1000000
namespace DL
open PySem L2 PySem.Spec PyProof.Rows
section
variable {X : Cx} {G : Gm} {W : WX} {e : Expr} {te : TE} {f : LE → R D} {p pos apos cpos : Pos}
theorem RepL.app {dl : Addr} {S : Hp} : ∀ {ds es : List D} {us ws : List V}, RepL G dl S ds us → RepL G dl S es ws → RepL G dl S (ds ++ es) (us ++ ws)
  | [], es, us, ws, h, k => by unfold RepL at h; subst h; exact k
  | d :: ds, es, us, ws, h, k => by
    unfold RepL at h
    obtain ⟨v, r, rfl, h1, h2⟩ := h
    exact RepL.cons h1 (RepL.app h2 k)
end
end DL
set_option Elab.async false
set_option linter.all false
set_option maxRecDepth 100000
set_option maxHeartbeats 1000000
namespace DL
open PySem L2 PySem.Spec PyProof.Rows
section
variable {X : Cx} {G : Gm} {W : WX} {tg l e : Expr} {f : LE → R D} {p pos apos cpos : Pos}
def iAnyB (K : PySem.W.Frag) (tl : TE) : TI := fun σ H R => tl σ H fun x H1 => (∃ a, x = .ref a ∧ (((∃ xs, SqL K H1 a xs) ∧ R (Itl K a) H1) ∨ ((∃ xs, SqT K H1 a xs) ∧ R (Itt K a) H1) ∨ ∃ o kvs, H1 a = some (.frz o (.dK kvs)) ∧ R (Itk a o kvs) H1)) ∨ ∃ s : Str, x = .str s ∧ R (Its s) H1
theorem pi_anyB {tl : TE} (hl : PE X l tl) : PI X tg l (iAnyB X.K tl) := by
  refine ⟨fun pins s σ H R I h => ?_⟩
  refine thn (hl.run pins s σ H _ I h) fun v s1 ⟨x, H1, I1, r1, q1⟩ => ?_
  have hfp : ∀ b ∈ [s1.heap.objs.size], _ := fun b hb => by
    have e : b = s1.heap.objs.size := by simpa using hb
    subst e
    exact I1.fpOk (Nat.le_refl _) (I1.hok.fresh (Nat.le_refl _))
  rcases q1 with ⟨a, e, q⟩ | ⟨y, e, q⟩
  · subst e
    cases r1
    rcases q with ⟨⟨xs, hq⟩, q⟩ | ⟨⟨xs, hq⟩, q⟩ | ⟨o, kvs, hd, q⟩
    · obtain ⟨its, rv, p, hz⟩ := I1.list hq
      refine wpAny_pyIter_list p.isList ?_
      exact ⟨s1.heap.objs.size, [s1.heap.objs.size], _, _, H1, rfl, I1.kept (t' := s1.toks) fun b o e => Heap.get?_push_of_some _ e, turn_list a _, ⟨_, Heap.get?_push_size _ rfl, rfl, rfl⟩, hfp, q⟩
    · obtain ⟨its, rv, p, hz⟩ := I1.tuple hq
      refine wpAny_pyIter_tuple (show s1.heap.IsTuple a its.toArray from p) ?_
      exact ⟨s1.heap.objs.size, [s1.heap.objs.size], _, _, H1, rfl, I1.kept (t' := s1.toks) fun b o e => Heap.get?_push_of_some _ e, turn_tuple a _, ⟨_, Heap.get?_push_size _ rfl, rfl, rfl⟩, hfp, q⟩
    · obtain ⟨hs, hgd, hx, es, ep, vs, hdt, hsz, kv, hm⟩ := I1.frzK hd
      refine iter_keys hs hgd hx hdt (pi_one (tk := s1.toks) I1 _ (turn_keys _ hdt) ⟨_, Heap.get?_push_size _ rfl, rfl, ?_⟩ q)
      rw [hsz] <;> rfl
  · subst e
    obtain ⟨t, rfl⟩ := r1
    cases ha : y.cps.all (· < 128)
    · exact wpAny_pyIter_wide ha (pi_one (tk := s1.toks) I1 _ (turn_str _ y t "str_iterator" (.inr rfl)) ⟨_, Heap.get?_push_size _ rfl, rfl, rfl⟩ q)
    · exact wpAny_pyIter_ascii ha (pi_one (tk := s1.toks) I1 _ (turn_str _ y t "str_ascii_iterator" (.inl rfl)) ⟨_, Heap.get?_push_size _ rfl, rfl, rfl⟩ q)
def itemsB : D → R (List D)
  | .lst ds => .ok ds
  | .tup ds => .ok ds
  | .str s => strD (.str s)
  | .dic kvs => .ok (kvs.map (·.1))
  | _ => .stuck
def itB (f : LE → R D) : LE → R (List D) := fun r => f r >>= itemsB
theorem di_anyB (hG : G.K = X.K) (h : DE X G W l f) : DI X G W tg l (itB f) := PI_imp (pi_anyB h) fun sg H Q ⟨dl, Z, O, r, A, q⟩ => by
  refine ⟨dl, Z, O, r, A, q.bind.thn fun d hd v H1 g1 k1 rp => ?_⟩
  unfold itemsB at hd
  split at hd
  · unfold Rep at rp
    obtain ⟨a, vs, rfl, e, rl⟩ := rp
    refine .inl ⟨a, rfl, .inl ⟨⟨vs, SqL.of (cut_some e).2⟩, ?_⟩⟩
    rw [← hG]
    exact hd _ _ H1 g1 k1 walk_list ⟨e, rl⟩
  · unfold Rep at rp
    obtain ⟨a, vs, rfl, e, rl⟩ := rp
    refine .inl ⟨a, rfl, .inr (.inl ⟨⟨vs, hG ▸ (cut_grow H1 Z).sqt (SqT.of e)⟩, ?_⟩)⟩
    rw [← hG]
    exact hd _ _ H1 g1 k1 walk_tup ⟨SqT.of e, rl⟩
  · unfold Rep at rp
    subst rp
    exact .inr ⟨_, rfl, hd _ _ H1 g1 k1 walk_str trivial⟩
  · unfold Rep at rp
    obtain ⟨a, o, kv, rfl, e, rk⟩ := rp
    exact .inl ⟨a, rfl, .inr (.inr ⟨o, kv, (cut_some e).2, hd _ _ H1 g1 k1 walk_keys ⟨e, rk⟩⟩)⟩
  · exact hd.elim
end
end DL
set_option Elab.async false
set_option linter.all false
set_option maxRecDepth 100000
set_option maxHeartbeats 1000000
namespace DL
open PySem L2 LamX PySem.Spec PyProof.Rows
end DL
set_option Elab.async false
set_option linter.all false
set_option maxRecDepth 100000
set_option maxHeartbeats 1000000
namespace DL
open PySem L2 PySem.Spec PyProof.Rows
def D.tkq : D → D → Bool
  | .tup a, .tup b => keqsD a b
  | _, _ => false
def putT (kvs : List (D × D)) (k d : D) : List (D × D) := if (kvs.any fun p => p.1.tkq k) = true then kvs.map (fun p => if p.1.tkq k then (p.1, d) else p) else kvs ++ [(k, d)]
theorem keysK_cons {d : D} {ds : List D} {ks : List Key} (h : keysK (d :: ds) = some ks) : ∃ k r, ks = k :: r ∧ d.key = some k ∧ keysK ds = some r := by
  unfold keysK at h
  split at h
  · rename_i k r e1 e2
    cases h
    exact ⟨k, r, rfl, e1, e2⟩
  · cases h
theorem keqsK : ∀ {a b : List D} {x y : List Key}, keysK a = some x → keysK b = some y → keqsD a b = decide (x = y)
  | [], [], x, y, h1, h2 => by cases h1; cases h2; rfl
  | [], d :: b, x, y, h1, h2 => by
    cases h1
    obtain ⟨k, r, rfl, _, _⟩ := keysK_cons h2
    rfl
  | d :: a, [], x, y, h1, h2 => by
    cases h2
    obtain ⟨k, r, rfl, _, _⟩ := keysK_cons h1
    rfl
  | d :: a, e :: b, x, y, h1, h2 => by
    obtain ⟨k, r, rfl, q1, q2⟩ := keysK_cons h1
    obtain ⟨k', r', rfl, q3, q4⟩ := keysK_cons h2
    unfold keqsD
    rw [keq_key q1 q3, keqsK q2 q4, Bool.eq_iff_iff]
    simp
theorem tkey_tup {a : D} {x : List Key} (h : a.tkey = some x) : ∃ ds, a = .tup ds ∧ keysK ds = some x := by
  cases a <;> first | (cases h; done) | skip
  exact ⟨_, rfl, h⟩
theorem tkq_key {a b : D} {x y : List Key} (h1 : a.tkey = some x) (h2 : b.tkey = some y) : a.tkq b = decide (x = y) := by
  obtain ⟨ds, rfl, q1⟩ := tkey_tup h1
  obtain ⟨es, rfl, q2⟩ := tkey_tup h2
  exact keqsK q1 q2
theorem tkey_some {d : D} (h : d.tkey.isSome = true) : ∃ x, d.tkey = some x := Option.isSome_iff_exists.mp h
section
variable {X : Cx} {G : Gm} {W : WX} {dl : Addr} {S H : Hp} {Z : List Addr} {v : V}
theorem keysK_rep : ∀ {ds : List D} {x : List Key} {vs : List V}, keysK ds = some x → RepL G dl S ds vs → vs = x.map kV
  | [], x, vs, h, rl => by
    cases h
    unfold RepL at rl
    exact rl
  | d :: ds, x, vs, h, rl => by
    obtain ⟨k, r, rfl, q1, q2⟩ := keysK_cons h
    unfold RepL at rl
    obtain ⟨v, u, rfl, h1, h2⟩ := rl
    rw [keysK_rep q2 h2]
    have : v = kV k := by
      cases d <;> simp [D.key] at q1 <;> subst q1 <;> unfold Rep at h1 <;> rw [h1] <;> rfl
    rw [this]
    rfl
theorem tkey_rep {k : D} {x : List Key} (h : k.tkey = some x) (rp : Rep G dl S k v) : ∃ b, v = .ref b ∧ S b = some (.tup (x.map kV)) := by
  obtain ⟨ds, rfl, q⟩ := tkey_tup h
  unfold Rep at rp
  obtain ⟨a, vs, rfl, e, rl⟩ := rp
  rw [keysK_rep q rl] at e
  exact ⟨a, rfl, e⟩
theorem tkey_inj {a b : D} {x y : List Key} (h1 : a.tkey = some x) (h2 : b.tkey = some y) : a.tkq b = true ↔ x = y := by
  rw [tkq_key h1 h2]; simp
theorem RepT.any : ∀ {kvs : List (D × D)} {kv : List (List Key × V)} {k : D} {x : List Key}, RepT G dl S kvs kv → k.tkey = some x → (kvs.any fun p => p.1.tkq k) = (kv.any fun p => decide (p.1 = x))
  | [], kv, k, x, h, hk => by unfold RepT at h; subst h; rfl
  | (k', d) :: kvs, kv, k, x, h, hk => by
    unfold RepT at h
    obtain ⟨y, v, r, rfl, hk', rp, h2⟩ := h
    rw [List.any_cons, List.any_cons, tkq_key hk' hk, RepT.any h2 hk]
theorem RepT.map : ∀ {kvs : List (D × D)} {kv : List (List Key × V)} {k d : D} {x : List Key} {v : V}, RepT G dl S kvs kv → k.tkey = some x → Rep G dl S d v →
    RepT G dl S (kvs.map fun p => if p.1.tkq k then (p.1, d) else p) (kv.map fun p => if p.1 = x then (p.1, v) else p)
  | [], kv, k, d, x, v, h, hk, rv => by unfold RepT at h; subst h; unfold RepT; rfl
  | (k', d') :: kvs, kv, k, d, x, v, h, hk, rv => by
    unfold RepT at h
    obtain ⟨y, u, r, rfl, hk', rp, h2⟩ := h
    have q := RepT.map (v := v) (d := d) h2 hk rv
    rw [List.map_cons, List.map_cons]
    by_cases e : y = x
    · rw [if_pos ((tkey_inj hk' hk).mpr e), if_pos e]
      unfold RepT
      exact ⟨y, v, _, rfl, hk', rv, q⟩
    · rw [if_neg fun z => e ((tkey_inj hk' hk).mp z), if_neg e]
      unfold RepT
      exact ⟨y, u, _, rfl, hk', rp, q⟩
theorem RepT.app : ∀ {kvs : List (D × D)} {kv : List (List Key × V)} {k d : D} {x : List Key} {v : V}, RepT G dl S kvs kv → k.tkey = some x → Rep G dl S d v → RepT G dl S (kvs ++ [(k, d)]) (kv ++ [(x, v)])
  | [], kv, k, d, x, v, h, hk, rv => by
    unfold RepT at h
    subst h
    unfold RepT
    exact ⟨x, v, [], rfl, hk, rv, by unfold RepT; rfl⟩
  | (k', d') :: kvs, kv, k, d, x, v, h, hk, rv => by
    unfold RepT at h
    obtain ⟨y, u, r, rfl, hk', rp, h2⟩ := h
    rw [List.cons_append]
    unfold RepT
    exact ⟨y, u, r ++ [(x, v)], rfl, hk', rp, RepT.app h2 hk rv⟩
theorem RepT.put {kvs : List (D × D)} {kv : List (List Key × V)} {k d : D} {x : List Key} {v : V} (h : RepT G dl S kvs kv) (hk : k.tkey = some x) (rv : Rep G dl S d v) : RepT G dl S (putT kvs k d) (putK kv x v) := by
  unfold putT putK
  rw [RepT.any h hk]
  by_cases c : (kv.any fun p => decide (p.1 = x)) = true
  · rw [if_pos c, if_pos c]
    exact h.map hk rv
  · rw [if_neg c, if_neg c]
    exact h.app hk rv
theorem RepT.length : ∀ {kvs : List (D × D)} {kv : List (List Key × V)}, RepT G dl S kvs kv → kv.length = kvs.length
  | [], kv, h => by unfold RepT at h; subst h; rfl
  | (k', d') :: kvs, kv, h => by
    unfold RepT at h
    obtain ⟨y, u, r, rfl, _, _, h2⟩ := h
    rw [List.length_cons, List.length_cons, RepT.length h2]
theorem RepP.tdic {kvs : List (D × D)} (h : RepP G dl H Z (.tdic kvs) v) : ∃ a kv, v = .ref a ∧ Rd H a (.dT kv) ∧ RepT G dl (cut H Z) kvs kv := by
  rcases h with h | ⟨a, e, hz, hd, q⟩
  · unfold Rep at h
    obtain ⟨a, o, kv, e, q, rl⟩ := h
    exact ⟨a, kv, e, .inr ⟨o, cut_grow H Z a _ q fun ps z => by cases z⟩, rl⟩
  · obtain ⟨kv, e2, rl⟩ := q
    exact ⟨a, kv, e, .inl e2, rl⟩
end
end DL
set_option Elab.async false
set_option linter.all false
set_option maxRecDepth 100000
set_option maxHeartbeats 1000000
namespace DL
open PySem L2 PySem.Spec PyProof.Rows PySem.W
def rSortDT (K : PySem.W.Frag) : List V → Hp → VK → Prop := fun vs H Q => ∃ (d : Addr) (kvs : List (List Key × V)) (xs : List PyData), vs = [.ref d] ∧ Rd H d (.dT kvs) ∧ AllAlike xs ∧ Sortable xs ∧ (∀ d ∈ xs, d.depth ≤ 50) ∧
  ∀ bs, IsKeys H kvs bs → DpAll K H (bs.map V.ref) xs ∧ ∀ p, H p = none → Q (.ref p) (upd H p (.lst ((((bs.map V.ref).zip xs).mergeSort (dataLe false fun p => p.2)).map (·.1))))
section
variable {X : Cx}
theorem cr_sortDT (hc : X.calm = true) (hu : X.A.units + 70 < cLine) : CallR X (.builtin "sorted") (rSortDT X.K) := by
  intro pins s σ H vs us0 Q I0 r ⟨d, kvs, xs, ev, hd, ha, hk, hdep, q0⟩
  subst ev
  rw [Vals.ref1 r]
  obtain ⟨z, hs, ks, pr, o, es, ep, ho, hx, hdt, he, hn⟩ := (show ObjOk X.prog X.w H s.heap d (.dT kvs) from hd.ok I0.hok)
  have l1 : es.size = ks.length := size_of_entries he
  have l2 : kvs.length = ks.length := Paired.length pr
  obtain ⟨hdp, q⟩ := q0 _ (isKeys_of pr)
  have eus : (ks.map fun x => x.2.1).map V.ref = ks.map fun x => V.ref x.2.1 := by rw [List.map_map]; rfl
  have hz : ((ks.map fun x => x.2.1).map V.ref).length ≤ sizeLine := by rw [List.length_map, List.length_map]; omega
  generalize hus : (ks.map fun x => x.2.1).map V.ref = us at hdp q hz
  have rv0 : Vals us ((ks.map fun x => x.2.1).map Value.ref) := hus ▸ vals_refs _
  generalize hits : (ks.map fun x => x.2.1).map Value.ref = its at rv0
  have rv := rv0
  obtain ⟨as, hr⟩ := Dp.readsAll I0 xs us its hdp rv
  have hl := DL.DpAll.length hdp
  have hm : (us.zip xs).map (fun p : V × PyData => p.2) = xs := List.map_snd_zip (by omega)
  have e := each_vals rv hl
  have er := readsAll_each (h := s.heap) (fun p : V × PyData => p.2) (vs := its) (bs := us.zip xs) (as := as) (by rw [hm]; exact hr)
  have hlz : (us.zip xs).length = us.length := by rw [List.length_zip]; omega
  have hub : ∀ y, y ∈ us.zip xs → X.A.in1.in1.units + (y.2).depth < cLine := fun y hy => by
    have := hdep y.2 (by rw [← hm]; exact List.mem_map.mpr ⟨y, hy, rfl⟩)
    show X.A.units + 1 + 1 + _ < _
    omega
  refine call_function_entry_kw kind_sorted plain_sorted entry_sorted (args_sorted1 _) ?_
  unfold Builtin.«sorted»
  refine wpAny_bind (m := checkCount "sorted" 1 1 _) (wpAny_pure ?_)
  refine wpAny_bind (PySem.W.kdu_collect (A := X.A.in1) (kdl_raw hs hx hdt) (I0.ok.hd hc) ho (by omega) fun h1 tk acc k1 it => ?_)
  have ea : acc.toList = its := by
    have hl : acc.toList.length = ks.length := by rw [Array.length_toList, it.1]; exact l1
    rw [← hits, List.map_map]
    apply List.ext_getElem?
    intro j
    rw [List.getElem?_map]
    cases hj : acc.toList[j]? with
    | none =>
      have h1 := List.getElem?_eq_none_iff.mp hj
      rw [List.getElem?_eq_none (by omega)]
      all_goals rfl
    | some v =>
      obtain ⟨en, hen, hv⟩ := it.2 j v (by rw [← Array.getElem?_toList]; exact hj)
      have qe := entry_at he j
      rw [hen] at qe
      cases hb : ks[j]? with
      | none =>
        rw [hb] at qe
        exact nomatch (show some en = none from qe)
      | some b =>
        rw [hb] at qe
        have e2 : en = entryOfKey (tupleKind (mixKind X.prog X.w)) b := Option.some.inj qe
        rw [hv, e2]
        all_goals rfl
  rw [ea]
  have len : us.length = its.length := rv.length
  have I1 : Inv X pins σ H { s with heap := h1, toks := tk } := I0.kept (t' := tk) k1
  refine wpAny_bind (wpAny_newList ?_ (by show its.length ≤ _; rw [← len]; exact hz))
  have hoL : (h1.push (seqObj "list" its.toArray 0)).get? h1.objs.size = some (seqObj "list" its.toArray 0) := Heap.get?_push_size _ rfl
  have kp : ∀ b ob, s.heap.get? b = some ob → (sortingHeap (h1.push (seqObj "list" its.toArray 0)) h1.objs.size its).get? b = some ob := fun b ob q => by
    have q1 := k1 b ob q
    exact sortingHeap_old (Nat.ne_of_lt (Heap.lt_size q1)) (Heap.get?_push_of_some _ q1)
  have er' : EachIs (fun v (b : V × PyData) => ∃ as, Reads (sortingHeap (h1.push (seqObj "list" its.toArray 0)) h1.objs.size its) v b.2 as) its (us.zip xs) := er.mono fun _ _ ⟨as, r⟩ => ⟨as, PyProof.Rows.Reads.keeps (fun b ob q => kp b ob q) r⟩
  refine wpAny_bind (wpAny_holding (wpAny_call_entry_kw slot_list_sort ⟨_, hoL, rfl⟩ entry_list_sort ?body (args_list_sort _)))
  case body =>
    refine list_sort_vals (κ := dataKind (sortingHeap (h1.push (seqObj "list" its.toArray 0)) h1.objs.size its) ((us.zip xs).map fun p => p.2)) hoL
      (SortsAt.data (s := { s with heap := sortingHeap (h1.push (seqObj "list" its.toArray 0)) h1.objs.size its, toks := tk }) (each_map (R := fun v d => ∃ as, Reads (sortingHeap (h1.push (seqObj "list" its.toArray 0)) h1.objs.size its) v d as) (fun p : V × PyData => p.2) er') (by rw [hm]; exact ha) (by rw [hm]; exact hk) (bound_map hub)) (by rw [← len]; exact hz) ⟨_, rfl, ?_⟩
    have eo := sortVals_data false e er' (by rw [hm]; exact ha)
    have ho2 : (sortVals (dataKind (sortingHeap (h1.push (seqObj "list" its.toArray 0)) h1.objs.size its) ((us.zip xs).map fun p => p.2)) false its its).length = us.length := by
      rw [sortVals_length false rfl, ← len]
    obtain ⟨ep, he'⟩ := PyProof.Rows.sortedHeap_at (vs := its) (out := (sortVals (dataKind (sortingHeap (h1.push (seqObj "list" its.toArray 0)) h1.objs.size its) ((us.zip xs).map fun p => p.2)) false its its).toArray) hoL
    have hlen : (((us.zip xs).mergeSort (dataLe false fun p => p.2)).map (·.1)).length ≤ sizeLine := by
      rw [List.length_map, List.length_mergeSort, hlz]; exact hz
    refine wpAny_pure ⟨_, rfl, .ref h1.objs.size, upd H h1.objs.size (.lst (((us.zip xs).mergeSort (dataLe false fun p => p.2)).map (·.1))), I1.laid (t' := tk) (fun b u e => ?_) (Nat.le_refl _) ⟨hlen, _, ep, vals_each eo, he'⟩, rfl, q _ (I1.hok.fresh (Nat.le_refl _))⟩
    have hb : b < h1.objs.size := Heap.lt_size e
    rw [PyProof.Rows.sortedHeap_old (Nat.ne_of_lt hb) (by rw [size_push']; exact Nat.lt_succ_of_lt hb)]
    exact Heap.get?_push_of_some _ e
end
section
variable {X : Cx} {G : Gm} {dl : Addr} {S H : Hp} {Z : List Addr} {O : List (Nat × Addr)} {r : LE} {sg : L2.St}
theorem keysK_repL : ∀ {ds : List D} {x : List Key}, keysK ds = some x → RepL G dl S ds (x.map kV)
  | [], x, h => by cases h; exact RepL.nil
  | d :: ds, x, h => by
    obtain ⟨k, r, rfl, q1, q2⟩ := keysK_cons h
    refine RepL.cons ?_ (keysK_repL q2)
    cases d <;> simp [D.key] at q1 <;> subst q1 <;> unfold Rep <;> rfl
theorem tkey_in {k : D} {x : List Key} {b : Addr} (A : At G dl Z O r sg H) (h : k.tkey = some x) (e : H b = some (.tup (x.map kV))) : Rep G dl (cut H Z) k (.ref b) := by
  obtain ⟨ds, rfl, q⟩ := tkey_tup h
  unfold Rep
  refine ⟨b, _, rfl, ?_, keysK_repL q⟩
  rw [cut_out]
  · exact e
  · intro hz
    obtain ⟨o, e2, n⟩ := A.live b hz
    rw [e] at e2
    exact n.tu _ (Option.some.inj e2).symm
theorem tkeys_in (A : At G dl Z O r sg H) : ∀ {kvs : List (D × D)} {kv : List (List Key × V)} {bs : List Addr}, RepT G dl S kvs kv → IsKeys H kv bs → RepL G dl (cut H Z) (kvs.map (·.1)) (bs.map V.ref)
  | [], kv, bs, h, q => by
    unfold RepT at h
    subst h
    cases q
    exact RepL.nil
  | (k, d) :: kvs, kv, bs, h, q => by
    unfold RepT at h
    obtain ⟨x, v, t, rfl, h1, h2, h3⟩ := h
    cases q with
    | cons e t => exact RepL.cons (tkey_in A h1 e) (tkeys_in A h3 t)
end
def sortedT : List D → R (List D)
  | [.tdic kvs] => sortGD (kvs.map (·.1))
  | ds => sortedZ ds
section
variable {X : Cx} {G : Gm} {W : WX} {tg iter : Expr} {f : LE → R D}
theorem cf_sortedT (hG : G.K = X.K) (hc : X.calm = true) (hu : X.A.units + 70 < cLine) : CallF X G (.builtin "sorted") sortedT := by
  obtain ⟨rr, h1, h2⟩ := cf_sortedZ hG hc hu
  refine ⟨_, CallR.or_ h1 (cr_sortDT hc hu), fun dl Z O r sg ds vs H Q E A rl h => ?_⟩
  unfold sortedT at h
  split at h
  · rename_i kvs
    obtain ⟨v, rfl, rp⟩ := rl.one
    obtain ⟨a, kv, rfl, hrd, rk⟩ := rp.tdic
    unfold sortGD at h
    split at h
    case isFalse => exact h.elim
    rename_i hal
    simp only [Bool.and_eq_true, decide_eq_true_eq] at hal
    obtain ⟨⟨hal, hsr⟩, hz⟩ := hal
    have hs := alis_sh hal
    refine .inr ⟨a, kv, D.toPs (kvs.map (·.1)), rfl, hrd, alis_all hal, srtb_ok hal hsr, alis_dep hal, fun bs hb => ?_⟩
    have rl' := tkeys_in A rk hb
    have hdp := RepL.dp (cut_grow H Z) (kvs.map (·.1)) 50 (shs_of hs) rl'
    rw [hG] at hdp
    exact ⟨hdp, fun p hp => h p _ H (.refl _ _) A.gl hp (sortK_rep rl' rfl)⟩
  · exact .inl (h2 dl Z O r sg ds vs H Q E A rl h)
end
end DL
set_option Elab.async false
set_option linter.all false
set_option maxRecDepth 100000
set_option maxHeartbeats 1000000
namespace L2
open PySem PySem.Spec PyProof.Rows
theorem putK_lenT (kvs : List (List Key × V)) (k : List Key) (v : V) : (putK kvs k v).length ≤ kvs.length + 1 := by
  unfold putK
  split
  · rw [List.length_map]; omega
  · rw [List.length_append]; simp
theorem mergeT_len : ∀ (more kvs : List (List Key × V)), (mergeT kvs more).length ≤ kvs.length + more.length
  | [], kvs => Nat.le_refl _
  | kv :: more, kvs => by
    show (mergeT (putK kvs kv.1 kv.2) more).length ≤ _
    have h1 := mergeT_len more (putK kvs kv.1 kv.2)
    have h2 := putK_lenT kvs kv.1 kv.2
    rw [List.length_cons]
    omega
section
variable {X : Cx}
theorem tup_pairsT {pins : List (Addr × Obj)} {σ : L2.St} {H : Hp} {s : Shared} (I : Inv X pins σ H s) : ∀ {ps : List Addr} {kvs : List (List Key × V)}, Paired (fun (p : Addr) (kv : List Key × V) => ∃ b, SqT X.K H p [.ref b, kv.2] ∧ H b = some (.tup (kv.1.map kV))) ps kvs →
    ∃ prs : List (List Key × Addr × Value), KT H kvs prs ∧ prs.length = ps.length ∧ ∀ (j : Nat) (q : List Key × Addr × Value), prs[j]? = some q → ∃ (b : Addr), ps[j]? = some b ∧ IsTup s.heap b #[.ref q.2.1, q.2.2] ∧ (tupleKind (mixKind X.prog X.w)).is s.heap q.1 q.2.1
  | _, _, .nil => ⟨[], .nil, rfl, fun j q e => by simp at e⟩
  | _, _, .cons (a := p) (b := kv) h t => by
    obtain ⟨prs, hk, hl, hp⟩ := tup_pairsT I t
    obtain ⟨b, h1, h2⟩ := h
    obtain ⟨its, rv, ht, _⟩ := I.tuple h1
    obtain ⟨u, y, ei, ru, ry⟩ := vals2 rv
    subst ei
    cases ru
    refine ⟨(kv.1, b, y) :: prs, .cons ⟨rfl, h2, ry⟩ hk, by rw [List.length_cons, List.length_cons, hl], fun j q e => ?_⟩
    cases j with
    | zero =>
      have e' : (kv.1, b, y) = q := Option.some.inj e
      subst e'
      exact ⟨p, rfl, ht, key_of I.hok h2⟩
    | succ j =>
      obtain ⟨b, e1, e2, e3⟩ := hp j q (by simpa using e)
      exact ⟨b, by simpa using e1, e2, e3⟩
def rDictT (K : PySem.W.Frag) : List V → Hp → VK → Prop := fun xs H Q => ∃ (a : Addr) (ps : List Addr) (kvs : List (List Key × V)), xs = [.ref a] ∧ SqL K H a (ps.map V.ref) ∧ Paired (fun (p : Addr) (kv : List Key × V) => ∃ b, SqT K H p [.ref b, kv.2] ∧ H b = some (.tup (kv.1.map kV))) ps kvs ∧
    ∀ p, H p = none → Q (.ref p) (upd H p (.dT (mergeT [] kvs)))
theorem call_dictT (hcalm : X.calm = true) (hu : X.A.units + 3 < cLine) : CallR X (.type "dict") (rDictT X.K) := by
  intro pins s σ H xs us Q I r q
  obtain ⟨a, ps, kvs, ex, hq, hp, q⟩ := q
  subst ex
  obtain ⟨u, eu, rx⟩ := vals1 r
  subst eu
  cases rx
  obtain ⟨its, rv, pl, hz⟩ := I.list hq
  have ei := refs_at rv
  subst ei
  rw [List.length_map] at hz
  have lpk : ps.length = kvs.length := Paired.length hp
  obtain ⟨prs, hk, hl, hpr⟩ := tup_pairsT I hp
  obtain ⟨o, n, ho, hc, hd, hdat⟩ := pl
  have prsAt : ∀ {j : Nat} {k v : Value}, (prs.map fun q => ((Value.ref q.2.1 : Value), q.2.2))[j]? = some (k, v) → ∃ q, prs[j]? = some q ∧ k = .ref q.2.1 ∧ v = q.2.2 := fun {j k v} e => by
    rw [List.getElem?_map] at e
    obtain ⟨q, hq, e2⟩ := Option.map_eq_some_iff.mp e
    cases e2
    exact ⟨q, hq, rfl, rfl⟩
  refine call_dict_pairsH (knd := tupleKind (mixKind X.prog X.w)) (ps := prs) (PairArg.list a (ps.map Value.ref).toArray (fun j => ps.getD j 0) (prs.map fun q => ((Value.ref q.2.1 : Value), q.2.2))) (I.ok.hd hcalm) (by show X.A.in1.in1.units < cLine; simp only [units_in1]; omega) ⟨⟨o, n, ho, hc, hd, hdat⟩, by simp [hl], fun j k v e => ?_⟩ ⟨by simp, fun i key v e => ?_⟩ (fun h' kk x hx => ?_) (by rw [List.length_map, hl]; exact hz) fun h' tk hd' k => ?_
  · obtain ⟨q, hq2, rfl, rfl⟩ := prsAt e
    obtain ⟨b, e1, e2, e3⟩ := hpr j q hq2
    refine ⟨by simp [e1, List.getD_eq_getElem?_getD], .inl ?_⟩
    have : ps.getD j 0 = b := by rw [List.getD_eq_getElem?_getD, e1]; rfl
    show s.heap.IsTuple (ps.getD j 0) _
    rw [this]
    exact e2
  · obtain ⟨q, hq2, rfl, rfl⟩ := prsAt e
    exact ⟨q.1, q.2.1, hq2, rfl⟩
  · obtain ⟨j, hj⟩ := List.mem_iff_getElem?.mp hx
    obtain ⟨b, e1, e2, o3, it3, n3, e3, e4, e5, e6⟩ := hpr j x hj
    exact ⟨o3, it3, n3, kk _ _ (Nat.ne_of_lt (Heap.lt_size e3)) (by simp) e3, e4, e5, e6⟩
  · obtain ⟨od, es, ep, f1, f2, f3, f4, f5, f6⟩ := hd'
    have hn : H s.heap.objs.size = none := I.hok.fresh (Nat.le_refl _)
    have hKT := KT.merge (kvs := []) (xs := []) hk .nil
    have ht : ∀ b ys, H b = some (.tup ys) → upd H s.heap.objs.size (.dT (mergeT [] kvs)) b = some (.tup ys) := fun b ys e => by
      rw [upd_ne (ne_of_none e hn)]; exact e
    have hlen := mergeT_len kvs []
    refine ⟨.ref s.heap.objs.size, upd H s.heap.objs.size (.dT (mergeT [] kvs)), I.laid (t' := tk) (fun b ob e => k b ob (by simp) e) (Nat.le_refl _) ⟨by rw [List.length_nil] at hlen; omega, beq_eq_false_iff_ne.mpr (Nat.ne_of_gt I.big), storedAllH [] prs, hKT.keeps ht, od, es, ep, f1, f2, f3, f4, f6⟩, rfl, q _ hn⟩
end
end L2
namespace DL
open PySem L2 PySem.Spec PyProof.Rows
def pairsTD : List D → Option (List (D × D))
  | [] => some []
  | d :: ds => match d with
    | .tup [k, v] => if k.tkey.isSome = true then (match pairsTD ds with
      | some r => some ((k, v) :: r)
      | none => none) else none
    | _ => none
def mergeTD (kvs more : List (D × D)) : List (D × D) := more.foldl (fun acc p => putT acc p.1 p.2) kvs
def dictTD : D → R (List (D × D))
  | .lst ds => (match pairsTD ds with
    | some ps => .ok (mergeTD [] ps)
    | none => .stuck)
  | _ => .stuck
def dictTE (f : LE → R D) : LE → R D := fun r => f r >>= fun d => dictTD d >>= fun kvs => .ok (.tdic kvs)
section
variable {X : Cx} {G : Gm} {W : WX} {dl : Addr} {S H : Hp} {Z : List Addr} {f : LE → R D} {e : Expr} {p2 pos2 : Pos}
theorem RepT_merge : ∀ (more : List (D × D)) {mv : List (List Key × V)} {kvs : List (D × D)} {kv : List (List Key × V)}, RepT G dl S more mv → RepT G dl S kvs kv → RepT G dl S (mergeTD kvs more) (mergeT kv mv)
  | [], mv, kvs, kv, h, h2 => by unfold RepT at h; subst h; exact h2
  | (k, d) :: more, mv, kvs, kv, h, h2 => by
    unfold RepT at h
    obtain ⟨y, u, r, rfl, hk, rp, h3⟩ := h
    have z := RepT_merge more h3 (h2.put hk rp)
    exact z
theorem pairsTD_rep : ∀ {ds : List D} {ps : List (D × D)} {vs : List V}, pairsTD ds = some ps → RepL G dl (cut H Z) ds vs → ∃ (as : List Addr) (kv : List (List Key × V)), vs = as.map V.ref ∧ Paired (fun (p : Addr) (kv : List Key × V) => ∃ b, SqT G.K H p [.ref b, kv.2] ∧ H b = some (.tup (kv.1.map kV))) as kv ∧ RepT G dl (cut H Z) ps kv
  | [], ps, vs, h, rl => by
    cases h
    unfold RepL at rl
    exact ⟨[], [], rl, .nil, by unfold RepT; rfl⟩
  | d :: ds, ps, vs, h, rl => by
    unfold RepL at rl
    obtain ⟨v, r, rfl, h1, h2⟩ := rl
    unfold pairsTD at h
    split at h
    case h_2 => cases h
    rename_i k v
    split at h
    case isFalse => cases h
    rename_i hk
    split at h
    case h_2 => cases h
    rename_i t ht
    cases h
    obtain ⟨as, kv, e1, e2, e3⟩ := pairsTD_rep ht h2
    obtain ⟨x, hx⟩ := tkey_some hk
    unfold Rep at h1
    obtain ⟨a, us, rfl, hs, hl⟩ := h1
    unfold RepL at hl
    obtain ⟨u1, r1, rfl, g1, g2⟩ := hl
    unfold RepL at g2
    obtain ⟨u2, r2, rfl, g3, g4⟩ := g2
    unfold RepL at g4
    subst g4
    obtain ⟨b, rfl, hb⟩ := tkey_rep hx g1
    refine ⟨a :: as, (x, u2) :: kv, by rw [e1]; rfl, .cons ⟨b, SqT.of (cut_some hs).2, (cut_some hb).2⟩ e2, ?_⟩
    unfold RepT
    exact ⟨x, u2, kv, rfl, hx, g3, e3⟩
theorem dictT_core (hG : G.K = X.K) {O : List (Nat × Addr)} {r : LE} {sg : L2.St} {d : D} {v : V} {Q : VK} {E : Exc → Prop} (A : At G dl Z O r sg H) (rp : Rep G dl (cut H Z) d v)
    (h : Wp (dictTD d) (fun kvs => ∀ p kv, H p = none → RepT G dl (cut H Z) kvs kv → Q (.ref p) (upd H p (.dT kv))) E) : rDictT X.K [v] H Q := by
  unfold dictTD at h
  split at h
  case h_2 => exact h.elim
  rename_i ds
  split at h
  case h_2 => exact h.elim
  rename_i ps hps
  unfold Rep at rp
  obtain ⟨a, us, rfl, hs, rl⟩ := rp
  obtain ⟨as, kv, rfl, h3, h4⟩ := pairsTD_rep hps rl
  exact ⟨a, as, kv, rfl, SqL.of (cut_some hs).2, hG ▸ h3, fun p hp => h p _ hp (RepT_merge ps h4 (by unfold RepT; rfl))⟩
theorem de_dictT (hG : G.K = X.K) (hc : X.calm = true) (hu : X.A.units + 70 < cLine) (hmd : X.mg "dict" = none) (he : DE X G W e f) (hgd : Gl X "dict" := by rfl)
    (hse : starEach [e] X.env = (false, eval e X.env) :: starEach [] X.env := by rfl) : DE X G W (.Call (.Name "dict" p2) [e] [] pos2) (dictTE f) :=
  PE_imp (pe_lkN (pe_callTy (call_dictT hc (by omega)) hgd hmd rfl (pa_cons he pa_nil hse) (he := hse))) fun sg H Q ⟨dl, Z, O, r, A, q⟩ => by
    refine ⟨dl, Z, O, r, A, (Wp.bind q).thn fun d hd v H1 g1 k1 rp => ?_⟩
    dsimp only [tNil]
    refine dictT_core hG (A.grow g1 k1) rp (hd.bind.thn fun kvs hk p kv hp rk => ?_)
    refine ⟨p, .dT kv, rfl, upd_same, trivial, fun od => ?_⟩
    rw [upd_upd]
    have A1 := A.grow g1 k1
    refine hk (.ref p) _ (g1.trans (.new hp)) (A1.gl.new hp) ?_
    unfold Rep
    exact ⟨p, od, kv, rfl, by rw [cut_out (A1.out hp), upd_same], rk.mono ((Grow.new hp).cut A.dz)⟩
end
end DL
set_option Elab.async false
set_option linter.all false
set_option maxRecDepth 100000
set_option maxHeartbeats 1000000
namespace L2
open PySem PySem.Spec PyProof.Rows
end L2
namespace DL
open PySem L2 PySem.Spec PyProof.Rows
end DL
set_option Elab.async false
set_option linter.all false
set_option maxRecDepth 100000
set_option maxHeartbeats 1000000
namespace DL
open PySem L2 PySem.Spec PyProof.Rows
mutual
theorem sh_plain : ∀ (d : D) (n : Nat), d.sh n = true → d.toP.plain = true
  | .non, _, _ => rfl
  | .bl b, _, _ => rfl
  | .int i, _, _ => rfl
  | .str s, _, _ => rfl
  | .lst xs, 0, h => by simp [D.sh] at h
  | .lst xs, n + 1, h => by
    simp only [D.sh] at h
    simp only [D.toP, PyData.plain]
    exact shs_plain xs n h
  | .tup xs, 0, h => by simp [D.sh] at h
  | .tup xs, n + 1, h => by
    simp only [D.sh] at h
    simp only [D.toP, PyData.plain]
    exact shs_plain xs n h
  | .dic _, n, h => by simp [D.sh] at h
  | .cdic _, n, h => by simp [D.sh] at h
  | .ins _ _, n, h => by simp [D.sh] at h
  | .dice, n, h => by simp [D.sh] at h
  | .fn _, n, h => by simp [D.sh] at h
theorem shs_plain : ∀ (ds : List D) (n : Nat), D.shs ds n = true → PyData.plainAll (D.toPs ds) = true
  | [], n, _ => by simp [D.toPs, PyData.plainAll]
  | d :: ds, n, h => by
    simp only [D.shs, Bool.and_eq_true] at h
    simp only [D.toPs, PyData.plainAll, sh_plain d n h.1, shs_plain ds n h.2, Bool.and_self]
end
def rCountD (K : PySem.W.Frag) : V → List V → Hp → VK → Prop := fun x xs H Q => ∃ (a : Addr) (y : V) (us : List V) (d : PyData) (ds : List PyData), x = V.ref a ∧ xs = [y] ∧ SqL K H a us ∧ DpAll K H us ds ∧ Dp K H y d ∧
  PyData.plainAll ds = true ∧ d.plain = true ∧ d.depth ≤ 62 ∧ Q (.int ((ds.countP fun z => PyData.eqv z d : Nat) : Int)) H
theorem mt_countD {X : Cx} (hu : X.A.units + 65 < cLine) : MtR X "list.count" (rCountD X.K) := by
  intro pins s σ H x xs v us Q I rx rxs h
  obtain ⟨a, y, vs, d, ds, rfl, rfl, hs, hds, hy, h1, h2, h3, q⟩ := h
  cases rx
  cases rxs with
  | cons ry rt =>
    rename_i uy ut
    cases rt
    obtain ⟨bs, r1⟩ := Dp.reads I d y uy hy ry
    obtain ⟨its, rv, pl, hlen⟩ := I.list hs
    obtain ⟨as, h4⟩ := Dp.readsAll I ds _ its hds rv
    refine SeqAt.count_list_data pl.isList (show ReadsAll s.heap its.toArray.toList ds as from h4) r1 h1 h2 (by omega) ?_
    exact ⟨.int _, H, I.tok _, ⟨_, rfl⟩, q⟩
def countLs : D → List D → R D
  | .lst xs, [y] => if y.sh 62 && D.shs xs 62 then .ok (.int ((xs.countP fun z => z.eqb y : Nat) : Int)) else .stuck
  | _, _ => .stuck
theorem countP_eqb {y : D} (hy : y.sh 62 = true) : ∀ {xs : List D}, D.shs xs 62 = true → (D.toPs xs).countP (fun z => PyData.eqv z y.toP) = xs.countP fun z => z.eqb y
  | [], _ => rfl
  | x :: xs, h => by
    simp only [D.shs, Bool.and_eq_true] at h
    simp only [D.toPs, List.countP_cons, countP_eqb hy h.2, eqb_eqv x y 62 62 h.1 hy]
theorem bm_countL {X : Cx} {G : Gm} (hG : G.K = X.K) (hu : X.A.units + 70 < cLine) : BmD X G "list" "count" countLs := by
  refine ⟨⟨_, _, PySem.F.slot_list_count, PySem.F.type_list_count, mt_countD (by omega), ?_⟩, PySem.F.plainAttrs_list⟩
  intro dl Z O r sg x vx ds vs H Q E A hx hds h
  unfold countLs at h
  split at h
  · split at h
    · rename_i xs y hc
      rw [Bool.and_eq_true] at hc
      obtain ⟨v, rfl, hy⟩ := hds.one
      obtain ⟨a, us, rfl, hl, rl⟩ := hx.lst
      refine ⟨a, v, us, y.toP, D.toPs xs, rfl, rfl, SqL.of hl, hG ▸ RepL.dp (cut_grow H Z) xs 62 hc.2 rl, hG ▸ hy.dp hc.1, shs_plain xs 62 hc.2, sh_plain y 62 hc.1, (sh_lay y 62 hc.1).2, ?_⟩
      rw [countP_eqb hc.1 hc.2]
      exact h _ H (.refl _ _) A.gl Rep.int_
    · exact h.elim
  · exact h.elim
end DL
set_option Elab.async false
set_option linter.all false
set_option maxRecDepth 100000
set_option maxHeartbeats 1000000
namespace L2
open PySem PySem.Spec PyProof.Rows
end L2
namespace DL
open PySem L2 PySem.Spec PyProof.Rows
def listK : List D → R (List D)
  | [.ktup xs] => .ok xs
  | [.ctup xs] => .ok xs
  | ds => listX ds
theorem RepP.ctup {G : Gm} {dl : Addr} {H : Hp} {Z : List Addr} {v : V} {ds : List D} (h : RepP G dl H Z (.ctup ds) v) : ∃ a vs, v = .ref a ∧ SqT G.K H a vs ∧ RepL G dl (cut H Z) ds vs := by
  rcases h with h | ⟨a, e, hz, hd, q⟩
  · unfold Rep at h
    obtain ⟨a, vs, e, q, rl⟩ := h
    exact ⟨a, vs, e, (cut_grow H Z).sqt q, rl⟩
  · exact q.elim
theorem RepP.ktup {G : Gm} {dl : Addr} {H : Hp} {Z : List Addr} {v : V} {ds : List D} (h : RepP G dl H Z (.ktup ds) v) : ∃ a vs o, v = .ref a ∧ H a = some (.frz o (.tup vs)) ∧ o.cls = .type "tuple" ∧ o.dict = none ∧ RepL G dl (cut H Z) ds vs := by
  rcases h with h | ⟨a, e, hz, hd, q⟩
  · unfold Rep at h
    obtain ⟨a, vs, o, e, q, h1, h2, rl⟩ := h
    exact ⟨a, vs, o, e, (cut_some q).2, h1, h2, rl⟩
  · exact q.elim
section
variable {X : Cx} {G : Gm}
theorem cf_listK (hG : G.K = X.K) (hc : X.calm = true) : CallF X G (.type "list") listK := by
  obtain ⟨rr, h1, h2⟩ := cf_listX hG hc
  refine ⟨_, CallR.or_ call_list_of h1, fun dl Z O r sg ds vs H Q E A rl h => ?_⟩
  unfold listK at h
  split at h
  · obtain ⟨v, rfl, rp⟩ := rl.one
    obtain ⟨a, us, o, rfl, e, _, _, rl'⟩ := rp.ktup
    exact .inl ⟨a, us, rfl, .inr (.inl (.inr ⟨o, e⟩)), fun l hl => h l us H (.refl _ _) A.gl hl rl'⟩
  · obtain ⟨v, rfl, rp⟩ := rl.one
    obtain ⟨a, us, rfl, e, rl'⟩ := rp.ctup
    exact .inl ⟨a, us, rfl, .inr (hG ▸ e), fun l hl => h l us H (.refl _ _) A.gl hl rl'⟩
  · exact .inr (h2 dl Z O r sg ds vs H Q E A rl h)
end
end DL
set_option Elab.async false
set_option linter.all false
set_option maxRecDepth 100000
set_option maxHeartbeats 1000000
namespace L2
open PySem PySem.Spec PyProof.Rows
end L2
namespace DL
open PySem L2 PySem.Spec PyProof.Rows
end DL
set_option Elab.async false
set_option linter.all false
set_option maxRecDepth 100000
set_option maxHeartbeats 1000000
namespace DL
open PySem L2 PySem.Spec PyProof.Rows
end DL
set_option Elab.async false
set_option linter.all false
set_option maxRecDepth 100000
set_option maxHeartbeats 1000000
namespace DL
open PySem L2 PySem.Spec PyProof.Rows
end DL
set_option Elab.async false
set_option linter.all false
set_option maxRecDepth 100000
set_option maxHeartbeats 1000000
namespace DL
open PySem L2 PySem.Spec PyProof.Rows
end DL
set_option Elab.async false
set_option linter.all false
set_option maxRecDepth 100000
set_option maxHeartbeats 1000000
namespace DL
open PySem L2 PySem.Spec PyProof.Rows PySem.W
end DL
set_option Elab.async false
set_option linter.all false
set_option maxRecDepth 100000
set_option maxHeartbeats 1000000
namespace DL
open PySem L2 PySem.Spec PyProof.Rows PySem.W
end DL
set_option Elab.async false
set_option linter.all false
set_option maxRecDepth 100000
set_option maxHeartbeats 1000000
set_option Elab.async false
set_option linter.all false
set_option maxRecDepth 100000
set_option maxHeartbeats 1000000
namespace DLZ
open PySem PySem.Spec PyProof.Rows PySem.W
def ZSt (h : Heap) (z TI TO : Addr) (as : List Addr) : Prop := (as = [] ∧ IsZip h z TI TO .none ∧ ∃ a1 a2, IsTupOf2 h TO a1 a2) ∨ ∃ T f rest, as = T :: rest ∧ IsZipHeld h z TI TO T f
structure ZG (P1 P2 : Nat → Value → Prop) (lo : Addr) (h : Heap) (as : List Addr) : Prop where
  rise : as.Pairwise (· < ·)
  above : ∀ a ∈ as, lo < a
  pairs : ∀ (j : Nat) (a : Addr), as[j]? = some a → ∃ x1 x2, P1 j x1 ∧ P2 j x2 ∧ IsTupOf2 h a x1 x2
theorem ZG.there {P1 P2 : Nat → Value → Prop} {lo : Addr} {h : Heap} {as : List Addr} (g : ZG P1 P2 lo h as) {a : Addr} (ha : a ∈ as) : a < h.objs.size := by
  obtain ⟨j, hj⟩ := List.mem_iff_getElem?.mp ha
  obtain ⟨_, _, _, _, e⟩ := g.pairs j a hj
  exact Heap.lt_size e
section
variable {prog : Program} {w : World} {A : Around} {E : Value → Shared → Prop} {s : Shared} {z TI TO i1 i2 : Addr} {fp1 fp2 : List Addr} {n1 n2 : Nat} {P1 P2 : Nat → Value → Prop} {St1 St2 : Nat → Heap → Prop}
theorem ZSt.keep {h h' : Heap} {as : List Addr} (x : ZSt h z TI TO as) (kz : ∀ o, h.get? z = some o → h'.get? z = some o) (kT : ∀ o, h.get? TO = some o → h'.get? TO = some o) : ZSt h' z TI TO as := by
  rcases x with ⟨e, hz, a1, a2, hTO⟩ | ⟨T, f, rest, e, hz⟩
  · exact .inl ⟨e, kz _ hz, a1, a2, kT _ hTO⟩
  · exact .inr ⟨T, f, rest, e, kz _ hz⟩
end
end DLZ
set_option Elab.async false
set_option linter.all false
set_option maxRecDepth 100000
set_option maxHeartbeats 1000000
namespace DL
open PySem L2 PySem.Spec PyProof.Rows PySem.W
inductive Sz where
  | q (S : Src)
  | d (a : Addr)
def Sz.val : Sz → V
  | .q S => S.val
  | .d a => .ref a
def Sz.at_ (K : PySem.W.Frag) (H : Hp) : Sz → List V → Prop
  | .q S, vs => S.at_ K H vs
  | .d a, vs => ∃ kvs : List (Key × V), Rd H a (.dK kvs) ∧ vs = kvs.map fun p => kV p.1
end DL
set_option Elab.async false
set_option linter.all false
set_option maxRecDepth 100000
set_option maxHeartbeats 1000000
namespace DL
open PySem L2 PySem.Spec PyProof.Rows
end DL
set_option Elab.async false
set_option linter.all false
set_option maxRecDepth 100000
set_option maxHeartbeats 1000000
namespace DL
open PySem L2 PySem.Spec PyProof.Rows
section
variable {X : Cx} {G : Gm} {W : WX} {F : LE → R Out} {body : List Stmt} {pos : Pos}
def sbF (z i j : Nat) : Bool := Nat.beq i j || Nat.beq j z
def SubOk (K : PySem.W.Frag) (G : Gm) (z : Nat) (ks : List Nat) : Prop := ∀ i ∈ ks, ∀ j ∈ ks, PySem.W.exmOne K (.ref (G.xcls i)) (.ref (G.xcls j)) = some (sbF z i j)
def subB (K : PySem.W.Frag) (xc : Nat → Addr) (z : Nat) (ks : List Nat) : Bool := ks.all fun i => ks.all fun j => PySem.W.exmOne K (.ref (xc i)) (.ref (xc j)) == some (sbF z i j)
theorem sub_by {K : PySem.W.Frag} {z : Nat} {ks : List Nat} (h : subB K G.xcls z ks = true) : SubOk K G z ks := fun i hi j hj => by
  unfold subB at h
  exact beq_iff_eq.mp (List.all_eq_true.mp (List.all_eq_true.mp h i hi) j hj)
def handS (z c : Nat) : List (Nat × (LE → R Out)) → Option (LE → R Out)
  | [] => none
  | (j, K) :: l => match sbF z c j with
    | true => some K
    | false => handS z c l
def tryUS (z : Nat) (ks : List Nat) (F : LE → R Out) (l : List (Nat × (LE → R Out))) : LE → R Out := fun r => do
  match ← F r with
  | .ex e r' => if ks.contains e.cls then (match handS z e.cls l with
    | some K => K r'
    | none => .ok (.ex e r')) else .stuck
  | o => .ok o
theorem wMany_sub {De : Ends} {dl : Addr} {Z' : List Addr} {O' : List (Nat × Addr)} {H' : Hp} {r' : LE} {sg' : L2.St} {e : Exc} {dx : Option Addr} {z : Nat} (ks : List Nat) (hx : SubOk X.K G z ks) (hi : e.cls ∈ ks) (A : At G dl Z' O' r' sg' H') : ∀ {l : List (Nat × (LE → R Out))}, (∀ j ∈ l.map (·.1), j ∈ ks) →
    Wp (match handS z e.cls l with
      | some K => K r'
      | none => .ok (.ex e r')) (SPost G W De dl Z' O' H') (fun _ => False) → (handS z e.cls l = none → W (.ref (G.xcls e.cls)) dx sg' H') → wMany X.K W De (hdD G W l) (.ref (G.xcls e.cls)) dx sg' H'
  | [], _, q, h0 => h0 rfl
  | (j, K) :: l, hl, q, h0 => by
    refine ⟨sbF z e.cls j, hx _ hi j (hl j (by simp)), fun hb a ha => ?_, fun hb => ?_⟩
    · unfold handS at q
      rw [hb] at q
      exact ⟨dl, Z', O', r', A, q⟩
    · unfold handS at q h0
      rw [hb] at q h0
      exact wMany_sub ks hx hi A (fun j hj => hl j (List.mem_cons_of_mem _ hj)) q h0
theorem ds_tryU {h₀ : ExceptHandler} {hds : List ExceptHandler} (z : Nat) (ks : List Nat) {l : List (Nat × (LE → R Out))} (hx : SubOk X.K G z ks) (hl : ∀ j ∈ l.map (·.1), j ∈ ks) (hs : X.stack = X.env :: X.outer) (hf : X.env.frame = some X.env.locals) (hpa : ∀ hd : Option Value, PassesOwnAt (model X.prog X.w) (X.A.mark hd) X.A X.env X.xe) (tk : Takes X W)
    (hb : ∀ (W' : WX) (pn : List (Addr × Obj)) (xe : Value → Shared → Prop), Takes (X.tr pn xe) W' → PassesOwn (model X.prog X.w) X.A X.env xe → DSs (X.tr pn xe) G W' body F)
    (hh : LG.HdsOk X W (h₀ :: hds) (hdD G W l)) : DS X G W (.Try body (h₀ :: hds) [] [] pos) (tryUS z ks F l) := PS_imp (LG.ps_try_many hs hf hpa tk (tb := fun W' => tS G W' F) hb hh) fun De sg H ⟨dl, Z, O, r, A, q⟩ => by
  refine ⟨dl, Z, O, r, A, q.bind.thn fun o ho => ?_⟩
  cases o with
  | nx r' => exact ho
  | bk r' => exact ho
  | ct r' => exact ho
  | rt d => exact ho
  | ex e r' =>
    intro Z' O' sg' H' cls dx s' A' xr
    have ho2 : Wp (if ks.contains e.cls then (match handS z e.cls l with
      | some K => K r'
      | none => .ok (.ex e r')) else .stuck) (SPost G W De dl Z O H) (fun _ => False) := ho
    split at ho2
    case isFalse => exact ho2.elim
    rename_i hk
    obtain ⟨rfl, xr2⟩ := id xr
    refine wMany_sub ks hx (by simpa using hk) A' hl (ho2.thn fun o z => SPost.trans A s' z) fun hn => ?_
    rw [hn] at ho2
    exact ho2 Z' O' sg' H' _ dx s' A' xr
end
end DL
set_option Elab.async false
set_option linter.all false
set_option maxRecDepth 100000
namespace DL
open PySem L2 PySem.Spec PyProof.Rows
end DL
set_option Elab.async false
set_option linter.all false
set_option maxRecDepth 100000
namespace DL
open PySem L2 PySem.Spec PyProof.Rows
def subC (x y : D) : R D := match x with
  | .ctup xs => ixD (.tup xs) y
  | _ => .stuck
end DL
set_option Elab.async false
set_option linter.all false
set_option maxRecDepth 100000
namespace DL
open PySem L2 PySem.Spec PyProof.Rows
def stuckS : LE → R Out := fun _ => .stuck
theorem dss_stuck {X : Cx} {G : Gm} {W : WX} {ss : List Stmt} : DSs X G W ss stuckS := ⟨fun pins s sg H De I ⟨dl, Z, O, r, A, q⟩ => q.elim⟩
def rLenTR : List V → Hp → VK → Prop := fun xs H Q => ∃ (p : Addr) (kvs : List (List Key × V)), xs = [.ref p] ∧ Rd H p (.dT kvs) ∧ Q (.int ((kvs.length : Nat) : Int)) H
theorem call_lenTR {X : Cx} : CallR X (.builtin "len") rLenTR := by
  intro pins s σ H xs us Q I r h
  obtain ⟨p, kvs, rfl, hp, q⟩ := h
  obtain ⟨u, rfl, rx⟩ := vals1 r
  obtain rfl : u = .ref p := rx
  obtain ⟨z, hd, ys, rel, dd⟩ := dt_rd I.hok hp
  have hl : kvs.length = ys.length := Paired.length rel
  refine call_len_dictH hd dd (by rw [sizeLine_eq] at z; omega) ?_
  rw [← hl]
  exact ⟨.int _, H, I.tok _, ⟨_, rfl⟩, q⟩
theorem RepT.len {G : Gm} {dl : Addr} {S : Hp} : ∀ {kvs : List (D × D)} {kv : List (List Key × V)}, RepT G dl S kvs kv → kv.length = kvs.length
  | [], kv, h => by unfold RepT at h; subst h; rfl
  | (k, d) :: kvs, kv, h => by
    unfold RepT at h
    obtain ⟨x, v, r, rfl, _, _, h2⟩ := h
    rw [List.length_cons, List.length_cons, RepT.len h2]
def lenTX : List D → R D
  | [.tdic kvs] => .ok (.int kvs.length)
  | _ => .stuck
theorem cd_lenTX {X : Cx} {G : Gm} : CallD X G (.builtin "len") lenTX := by
  refine ⟨_, call_lenTR, fun dl Z O r sg ds vs H Q E A rl h => ?_⟩
  unfold lenTX at h
  split at h
  · obtain ⟨v, rfl, rp⟩ := rl.one
    obtain ⟨a, kv, rfl, hrd, rk⟩ := rp.tdic
    refine ⟨a, kv, rfl, hrd, ?_⟩
    rw [rk.len]
    exact h _ H (.refl _ _) A.gl Rep.int_
  · exact h.elim
end DL
set_option Elab.async false
set_option linter.all false
set_option maxRecDepth 100000
set_option maxHeartbeats 1000000
namespace DL
open PySem L2 PySem.Spec PyProof.Rows HandSPX
/-- the wish, held at the variables of the comprehension's own place -/
abbrev atW (W : WX) (σ : L2.St) : WX := fun c d _ H => W c d σ H
theorem air_outT {X : Cx} {pins : List (Addr × Obj)} {σ : L2.St} {H3 : Hp} {s3 s' : Shared} {scope : Scope} {ce : Env} {fp : List Addr} {W : WX} {u : Value} {Qf : Value → Shared → Prop} {acc : Value} {E' : Value → Shared → Prop}
    (hs : X.stack = X.env :: X.outer) (hf : X.env.frame = some X.env.locals) (tk : Takes X W) (I3 : Inv X pins σ H3 s3) (f3 : ∀ b ∈ fp, FpOk X pins H3 b ∧ b < s3.heap.objs.size)
    (ceL : ce.locals = s3.heap.objs.size) (cef : ce.frame = X.env.frame) (hx : XE (X.blk s3 H3 scope ce fp) (atW W σ) u s') :
    notedBy (model X.prog X.w) X.A ce (fun e s'' => compPostF (model X.prog X.w) X.A X.xe X.env.frame Qf acc s3.heap.objs.size (.error e) s'') u s' := by
  obtain ⟨a, B, sI, pins', σ', H', cls, d, rfl, I, nb, up, sky, na, os, ag, w⟩ := hx
  show wpAny _ _ (noteFrame (.ref a) ce) _ _ s'
  rw [noteFrame_frame cef]
  have hfr : X.A.frames = some (X.env :: X.outer) := by rw [I3.ok.frames, hs]
  have nC : H' s3.heap.objs.size = none := by
    have z : H' ce.locals = none := I.free
    rw [ceL] at z
    exact z
  have hCL : s3.heap.objs.size ≠ X.env.locals := Nat.ne_of_gt I3.lt
  obtain ⟨m, hn, _⟩ := I.loc
  have hn : sI.heap.Ns s3.heap.objs.size m := by
    have hn : sI.heap.Ns ce.locals m := hn
    rw [ceL] at hn
    exact hn
  have I7 : Inv X pins σ H' sI := I3.call' (ch := fp) I.os I.base I.hok I.bare fun b hb => ⟨(f3 b hb).1.2.2.2.1, (f3 b hb).1.2.1, (f3 b hb).1.2.2.2.2.1, (f3 b hb).1.2.2.2.2.2⟩
  have fC := I3.fpOk (Nat.le_refl _) nC
  generalize hC : s3.heap.objs.size = C at *
  have key : ∀ h1, HeldZ B (X.env :: X.outer) a (LG.Zg B H' cls d) X.env.locals h1 → s'.heap.UpToSlots h1 → compPostF (model X.prog X.w) X.A X.xe X.env.frame Qf acc C (.error (.ref a)) { s' with heap := h1 } := by
    intro h1 hh u1
    have hn1 : h1.Ns C m := (up.trans u1).ns hn
    refine ⟨m, hn1, fun h' sb cenv hcl hcf => ?_⟩
    obtain ⟨G, g1, g2⟩ := restrict sI.heap (fun b => b != C)
    obtain ⟨B2, b1, b2⟩ := restrict B (fun b => b != C)
    have I8 : Inv X pins σ H' { sI with heap := G } := I7.turned (t' := sI.toks) (fun b o hb e => (g1 b (by simpa using hb)).trans e) fC.1 fC.2.1 fC.2.2.2.1 fC.2.2.2.2.1 fC.2.2.2.2.2
    have Bsub : ∀ b o, B2.get? b = some o → b ≠ C ∧ B.get? b = some o := fun b o e => by
      by_cases hb : b = C
      · rw [b2 b (by simpa using hb)] at e; cases e
      · rw [b1 b (by simpa using hb)] at e; exact ⟨hb, e⟩
    have Bnone : ∀ b, B.get? b = none → B2.get? b = none := fun b e => by
      cases q : B2.get? b with
      | none => rfl
      | some o => rw [(Bsub b o q).2] at e; cases e
    have hCs : C ∉ frs (X.env :: X.outer) := by
      intro z
      obtain ⟨e, he, hfe⟩ := List.mem_filterMap.mp z
      rcases List.mem_cons.mp he with rfl | he
      · rw [hf] at hfe; exact hCL (Option.some.inj hfe).symm
      · exact fC.2.2.1 (List.mem_filterMap.mpr ⟨e, he, hfe⟩)
    have hh' : HeldZ B2 (X.env :: X.outer) a (LG.Zg B2 H' cls d) X.env.locals h' := by
      obtain ⟨k1, k2, k3, oe, vs, T, oT, ts, he, hz, hd, hv1, hnT, hTe, hT, hdT, h3⟩ := hh
      obtain ⟨oC, es, ep, hoC, hdC, _⟩ := id hn1
      have naC : a ≠ C := fun z => by
        rw [z, hoC] at he
        rw [← Option.some.inj he, hdC] at hd
        cases hd
      have nTC : T ≠ C := fun z => by
        rw [z, hoC] at hT
        rw [← Option.some.inj hT, hdC] at hdT
        cases hdT
      have hz2 : LG.Zg B2 H' cls d oe := hz.sub fun b u ws e1 e2 => (b1 b (by
        have : b ≠ C := fun z => by
          have y := k1 b u e1
          rw [z, hoC] at y
          rw [← Option.some.inj y, hdC] at e2
          cases e2
        simpa using this)).trans e1
      exact ⟨fun b o e => (sb.2 b (Bsub b o e).1).trans (k1 b o (Bsub b o e).2), Bnone _ k2, funFrames_cut k3 hCs (fun b hb => sb.2 b hb) Bnone, oe, vs, T, oT, ts, (sb.2 a naC).trans he, hz2, hd, hv1, Bnone _ hnT, hTe, (sb.2 T nTC).trans hT, hdT, h3⟩
    have hu : G.UpToSlots h' := fun b o e hnf => by
      by_cases hb : b = C
      · rw [g2 b (by simpa using hb)] at e; cases e
      · rw [g1 b (by simpa using hb)] at e
        obtain ⟨sl, e2⟩ := (up.trans u1) b o e hnf
        exact ⟨sl, (sb.2 b hb).trans e2⟩
    unfold PySem.passOn
    obtain ⟨_, _, _, oe, vs, T, oT, ts, he, hz, hd, hv1, hnT, hTe, hT, hdT, h3⟩ := id hh'
    refine wpAny_bind (wpAny_field he hd hv1 ?_)
    rw [if_neg (by simp)]
    refine wpAny_bind ?_
    rw [hcf, hf]
    refine setFlight_onZ hh' fun h2 hh2 u2 => ?_
    refine wpAny_throw (tk _ _ ⟨a, B2, { sI with heap := G }, pins, σ, H', cls, d, rfl, I8, fun b o e hb => ?_, hu.trans u2, .inr (.inr (by rw [hs]; exact hh2)), na, os, ag, w⟩)
    have hb' : b ≠ C := fun z => by
      have e : G.get? b = some o := e
      rw [g2 b (by simpa using z)] at e; cases e
    have e : G.get? b = some o := e
    rw [g1 b (by simpa using hb')] at e
    rw [b1 b (by simpa using hb')]
    exact nb b o e hb
  have sky : Sky B (X.env :: X.outer) a (LG.Zg B H' cls d) C s'.heap := by
    have sky : Sky B X.stack a (LG.Zg B H' cls d) ce.locals s'.heap := sky
    rw [hs, ceL] at sky
    exact sky
  rcases sky with ⟨hkb, hen, hl, oe, vs, he, hz, hd, h1⟩ | fly | held
  · exact PXN.look_newZ LG.Zg.steady hfr hl hf he hkb hen hd h1 hz key
  · exact PXN.looks_onZ LG.Zg.steady hfr hf fly key
  · exact held_onZ LG.Zg.steady hfr hf hCL held key
section
variable {X : Cx}
theorem lc_coreT {W : WX} {pins : List (Addr × Obj)} {s : Shared} {σ : L2.St} {H : Hp} {Q : VK} {elt tg iter : Expr} {ifs : List Expr} {scope : Scope} {own : List (Str × Nat)} {pos pos' : Pos} {wi : TI} {g : TG} {tt : TT} {te : TE} {Qf : Value → Shared → Prop}
    (hs_ : X.stack = X.env :: X.outer) (hf_ : X.env.frame = some X.env.locals) (tk : Takes X W)
    (hc : X.calm = true) (hN : X.N.Nodup) (I : Inv X pins σ H s) (hi : PI X tg iter wi) (ok : BlkOk X.N X.env.scope scope own)
    (hg : ∀ (s : Shared) (H : Hp) (C : Addr) (cl : List (Str × Addr)) (fp : List Addr), PG (blkX X (atW W σ) s H scope (compEnvC scope cl C X.env) fp) tg g) (ht : ∀ (s : Shared) (H : Hp) (C : Addr) (cl : List (Str × Addr)) (fp : List Addr), PTs (blkX X (atW W σ) s H scope (compEnvC scope cl C X.env) fp) ifs tt)
    (he : ∀ (s : Shared) (H : Hp) (C : Addr) (cl : List (Str × Addr)) (fp : List Addr), PE (blkX X (atW W σ) s H scope (compEnvC scope cl C X.env) fp) elt te) (hs : ∀ x, foldedSetIterable iter X.env x = pure x)
    (h : tLc wi g tt te (own.map (·.2)) σ H Q)
    (hRR : ∀ D C s' m H', Inv X pins σ H' s' → Q (.ref D) H' → s'.heap.Ns C m → FpOk X pins H' C → compPostF (model X.prog X.w) X.A X.xe X.env.frame Qf (.ref D) C (.ok .next) s') :
    wpAny (model X.prog X.w) X.A (comprehension (.ListComp elt [⟨tg, iter, ifs, 0⟩] scope pos) scope X.env pos' (newList []) false (eval iter X.env) none) Qf X.xe s := by
  have hfree : ∀ y ∈ scope.names, y.2 = .free → ∃ c, X.env.cells.lookup y.1 = some c := fun y hy e => by
    rcases ok.free y hy e with k | k
    · exact I.ok.has _ (.inl k)
    · exact I.ok.has _ (.inr k)
  refine comp_freeX rfl hs (closure_ok hfree) ok.kind (fun y hy e => by rw [ok.uniq y hy, e])
    (thn (hi.run pins s σ H _ I h) fun xv s1 hx => thn hx fun itv s2 h2 => ?_)
  obtain ⟨it, fp, tn, J, H2, e, I2, T, st2, f2, q⟩ := h2
  subst e
  refine wpAny_newObj_type ?_ (by show 0 ≤ sizeLine; decide)
  generalize hD : s2.heap.objs.size = D
  have hDn : H2 D = none := I2.hok.fresh (Nat.le_of_eq hD)
  obtain ⟨Wm, ⟨m0, w0⟩, turn⟩ := q D hDn
  -- the new list
  generalize hs3 : ({ s2 with heap := s2.heap.push { cls := .type "list", data := .seq ([] : List Value).toArray } } : Shared) = s3
  have I3 : Inv X pins σ (upd H2 D (.lst [])) s3 := by
    rw [← hs3]
    refine I2.laid (t' := s2.toks) (fun b o e => Heap.get?_push_of_some _ e) (Nat.le_of_eq hD) ⟨Nat.zero_le _, [], 0, .nil, ?_⟩
    rw [← hD]
    exact Heap.get?_push_size _ rfl
  have h3 : s3.heap = s2.heap.push { cls := .type "list", data := .seq ([] : List Value).toArray } := by rw [← hs3]
  have sz : ∀ b ∈ fp, b < s2.heap.objs.size := fun b hb => by
    obtain ⟨o, e, _⟩ := T.obj _ _ st2 b hb
    exact Heap.lt_size e
  have f3 : ∀ b ∈ fp, FpOk X pins (upd H2 D (.lst [])) b ∧ b < s3.heap.objs.size := fun b hb => by
    have hlt := sz b hb
    refine ⟨⟨?_, (f2 b hb).2⟩, by rw [h3, Heap.size_push]; exact Nat.lt_succ_of_lt hlt⟩
    rw [upd_ne (by rw [← hD]; exact Nat.ne_of_lt hlt)]
    exact (f2 b hb).1
  have st3 : tn 0 s3.heap := T.keep _ _ _ st2 fun b _ o e => by rw [h3]; exact Heap.get?_push_of_some _ e
  have I4 := inv_xw (xe := fun u s' => XE (X.blk s3 (upd H2 D (.lst [])) scope (compEnvC scope (cellsFrom (s3.heap.objs.size + 1) scope.names (cloFrom X.env.cells scope.names [])) s3.heap.objs.size X.env) fp) (atW W σ) u s') (block_start I3 ok hN f3)
  have pg := hg s3 (upd H2 D (.lst [])) s3.heap.objs.size (cellsFrom (s3.heap.objs.size + 1) scope.names (cloFrom X.env.cells scope.names [])) fp
  have pt := ht s3 (upd H2 D (.lst [])) s3.heap.objs.size (cellsFrom (s3.heap.objs.size + 1) scope.names (cloFrom X.env.cells scope.names [])) fp
  have pe := he s3 (upd H2 D (.lst [])) s3.heap.objs.size (cellsFrom (s3.heap.objs.size + 1) scope.names (cloFrom X.env.cells scope.names [])) fp
  show codeAny _ _ (.compStart (.ListComp elt [⟨tg, iter, ifs, 0⟩] scope pos) 0 (.ref it) (.ref D) (compEnvC scope (cellsFrom (s3.heap.objs.size + 1) scope.names (cloFrom X.env.cells scope.names [])) s3.heap.objs.size X.env)) (compPostF (model X.prog X.w) X.A X.xe X.env.frame Qf (.ref D) s3.heap.objs.size) { s3 with heap := pushCells (s3.heap.push { cls := .type "dict", data := .dict #[] }) scope.names }
  have nfp : ∀ b ∈ fp, (upd H2 D (.lst [])) b = none := fun b hb => (f3 b hb).1.1
  generalize hce : compEnvC scope (cellsFrom (s3.heap.objs.size + 1) scope.names (cloFrom X.env.cells scope.names [])) s3.heap.objs.size X.env = ce at I4 pg pt pe ⊢
  have cL : ce.locals = s3.heap.objs.size := by subst hce; rfl
  have cF : ce.frame = X.env.frame := by subst hce; rfl
  generalize hH3 : upd H2 D (.lst []) = H3 at I3 I4 pg pt pe w0 nfp f3
  generalize hs4 : ({ s3 with heap := pushCells (s3.heap.push { cls := .type "dict", data := .dict #[] }) scope.names } : Shared) = s4 at I4 ⊢
  have st4 : tn 0 s4.heap := T.keep _ _ _ st3 fun b _ o e => by rw [← hs4]; exact pushCells_keeps _ _ _ _ (Heap.get?_push_of_some _ e)
  have stat : ∀ {σ' : L2.St} {H' : Hp} {s' : Shared}, Inv (blkX X (atW W σ) s3 H3 scope ce fp) [] σ' H' s' → (∀ b ∈ fp, H' b = none) → ∀ b ∈ fp, FpOk (blkX X (atW W σ) s3 H3 scope ce fp) [] H' b := fun {σ' H' s'} I' hn b hb =>
    ⟨hn b hb, (I'.ok.exf b hb).1, I'.ok.exfs b hb, .inl hb, fun x c e => (I'.ok.exf b hb).2 x c e, fun p hp => absurd (show p ∈ ([] : List (Addr × Obj)) ++ [] from hp) (by simp)⟩
  have air : ∀ {u : Value} {s' : Shared}, XE (X.blk s3 H3 scope ce fp) (atW W σ) u s' → notedBy (model X.prog X.w) X.A ce (fun e s'' => compPostF (model X.prog X.w) X.A X.xe X.env.frame Qf (.ref D) s3.heap.objs.size (.error e) s'') u s' := fun hx => air_outT (E' := X.xe) hs_ hf_ tk I3 f3 cL cF hx
  have loop : codeAny (model X.prog X.w) X.A (.compLoop (.ListComp elt [⟨tg, iter, ifs, 0⟩] scope pos) 0 (.ref it) (.ref D) ce) (compPostF (model X.prog X.w) X.A X.xe X.env.frame Qf (.ref D) s3.heap.objs.size) s4 := by
    refine compLoop_any (fun n s' => ∃ i H', Inv (blkX X (atW W σ) s3 H3 scope ce fp) [] (wipe σ (own.map (·.2))) H' s' ∧ tn i s'.heap ∧ (∀ b ∈ fp, H' b = none) ∧ Wm i n H') ?_ m0 ⟨0, H3, I4, st4, nfp, w0⟩
    rintro n s5 ⟨i, H5, I5, st5, n5, w5⟩
    rcases turn i n H5 w5 with ⟨stop, qq⟩ | ⟨go, Nx, hNx, step⟩
    · have td := T.done (blkX X (atW W σ) s3 H3 scope ce fp) rfl rfl rfl hc i [] s5 _ H5 (fun _ _ => False) I5 (stat I5 n5) st5 stop
      refine thnF td fun r s6 ⟨hr, I6⟩ => ?_
      subst hr
      have I7 : Inv X pins σ H5 s6 := I3.call' (ch := fp) I6.os I6.base I6.hok I6.bare fun b hb => ⟨(f3 b hb).1.2.2.2.1, (f3 b hb).1.2.1, (f3 b hb).1.2.2.2.2.1, (f3 b hb).1.2.2.2.2.2⟩
      have nC : H5 s3.heap.objs.size = none := by
        have z : H5 ce.locals = none := I6.free
        rw [cL] at z
        exact z
      obtain ⟨m, hn, _⟩ := I6.loc
      have hn : s6.heap.Ns ce.locals m := hn
      rw [cL] at hn
      exact hRR D s3.heap.objs.size s6 m H5 I7 qq hn (I3.fpOk (Nat.le_refl _) nC)
    · have ti := T.item (blkX X (atW W σ) s3 H3 scope ce fp) rfl rfl rfl hc i [] s5 _ H5 (fun _ _ => False) I5 (stat I5 n5) st5 go
      refine thnF ti fun r s6 ⟨u, hr, h6⟩ => ?_
      subst hr
      refine thnF h6 fun _ s7 ⟨x, H7, I7, r7, y7, st7, n7⟩ => ?_
      have I7' := I7.pinned (stat I7 n7) (T.obj _ _ st7)
      refine wpAny_mono (pg.run _ s7 _ H7 x u _ I7' r7 (step x H7 y7)) (fun _ s8 ⟨σ8, H8, I8, hw8, q8⟩ => ?_) fun _ _ z => air z
      refine wpAny_mono (pt.run _ s8 σ8 H8 _ I8 q8) (fun b s9 ⟨H9, I9, q9⟩ => ?_) fun _ _ z => air z
      -- the turn's end
      have fin : ∀ {s' : Shared} {H' : Hp}, Inv (blkX X (atW W σ) s3 H3 scope ce fp) ([] ++ pinsAt fp s7.heap) σ8 H' s' → Nx H' → ∃ m, m < n ∧ ∃ i H', Inv (blkX X (atW W σ) s3 H3 scope ce fp) [] (wipe σ (own.map (·.2))) H' s' ∧ tn i s'.heap ∧ (∀ b ∈ fp, H' b = none) ∧ Wm i m H' := fun {s' H'} I' nx => by
        obtain ⟨m', hm, w'⟩ := hNx H' nx
        have pin' : ∀ b ∈ fp, ∀ o, s7.heap.get? b = some o → s'.heap.get? b = some o ∧ H' b = none := fun b hb o e =>
          let z := I'.pin (b, o) (List.mem_append_right _ (List.mem_append_right _ (mem_pinsAt hb e)))
          ⟨z.1, z.2.1⟩
        have hl : (wipe σ (own.map (·.2))).length = σ8.length := by rw [← hw8, wipe_length]
        refine ⟨m', hm, i + 1, H', (I'.unpinned (pins := [])).weak hl (fun j v e => ?_), T.keep _ _ _ st7 fun b hb o e => (pin' b hb o e).1, fun b hb => ?_, w'⟩
        · rw [← hw8] at e
          exact (wipe_some e).1
        · obtain ⟨o, e, _⟩ := T.obj _ _ st7 b hb
          exact (pin' b hb o e).2
      cases b with
      | false =>
        simp only [Bool.false_eq_true, if_false] at q9 ⊢
        exact fin I9 q9
      | true =>
        simp only [if_true] at q9 ⊢
        refine wpAny_mono (pe.run _ s9 σ8 H9 _ I9 q9) (fun z s10 ⟨yv, H10, I10, r10, acc, hD10, hz10, nx⟩ => ?_) fun _ _ z => air z
        exact app_ok (X := blkX X (atW W σ) s3 H3 scope ce fp) I10 hD10 hz10 r10 fun s11 I11 => fin I11 nx
  exact codeAny_compStart_list loop (T.self X.A 0 _ _ _ st4 loop)
theorem pe_lcT {W : WX} {elt tg iter : Expr} {ifs : List Expr} {scope : Scope} {own : List (Str × Nat)} {pos : Pos} {wi : TI} {g : TG} {tt : L2.St → TT} {te : L2.St → TE}
    (hs_ : X.stack = X.env :: X.outer) (hf_ : X.env.frame = some X.env.locals) (tk : Takes X W)
    (hc : X.calm = true) (hN : X.N.Nodup) (hi : PI X tg iter wi) (ok : BlkOk X.N X.env.scope scope own)
    (hg : ∀ (σ : L2.St) (s : Shared) (H : Hp) (C : Addr) (cl : List (Str × Addr)) (fp : List Addr), PG (blkX X (atW W σ) s H scope (compEnvC scope cl C X.env) fp) tg g) (ht : ∀ (σ : L2.St) (s : Shared) (H : Hp) (C : Addr) (cl : List (Str × Addr)) (fp : List Addr), PTs (blkX X (atW W σ) s H scope (compEnvC scope cl C X.env) fp) ifs (tt σ))
    (he : ∀ (σ : L2.St) (s : Shared) (H : Hp) (C : Addr) (cl : List (Str × Addr)) (fp : List Addr), PE (blkX X (atW W σ) s H scope (compEnvC scope cl C X.env) fp) elt (te σ)) (hs : ∀ x, foldedSetIterable iter X.env x = pure x := by intro _; rfl) :
    PE X (.ListComp elt [⟨tg, iter, ifs, 0⟩] scope pos) (fun σ H Q => tLc wi g (tt σ) (te σ) (own.map (·.2)) σ H Q) := by
  refine ⟨fun pins s σ H Q I h => ?_⟩
  rw [eval_ListComp]
  refine lc_coreT hs_ hf_ tk hc hN I hi ok (hg σ) (ht σ) (he σ) hs h fun D C s' m H' I' q hn f => ⟨m, hn, fun h'' sb => ?_⟩
  obtain ⟨f0, f1, f2, f3, f4, f5⟩ := f
  exact ⟨.ref D, H', I'.turned (t' := s'.toks) (fun b o hb e => (sb.2 b hb).trans e) f0 f1 f3 f4 f5, rfl, q⟩
end
section
variable {X : Cx} {G : Gm} {W : WX} {tg iter : Expr} {fi : LE → R (List D)} {gd : D → LE → Option LE} {is vs : List Nat} {tt : LE → R Bool} {te : LE → R D}
theorem lc_core_dT (hsub : ∀ j ∈ is, j ∈ vs) {sg : L2.St} {H : Hp} {Q : VK} (h : tF G W (compX fi gd tt te vs) sg H Q) : tLc (tIe G W fi) (tGd G gd is) (tT G (atW W sg) tt) (tD G (atW W sg) te) vs sg H Q := by
  obtain ⟨dl, Z, O, r, A, q⟩ := h
  refine ⟨dl, Z, O, r, A, q.bind.thn fun ds hds J B H1 g1 k1 wk hB D hD => ?_⟩
  have A1 := A.grow g1 k1
  split at hds
  case isFalse => exact hds.elim
  rename_i hlen
  have nt : ∀ (xs : List V) ps, HO.lst xs ≠ HO.tbl ps := fun _ _ z => by cases z
  have B1 : At G dl (D :: Z) O r sg (upd H1 D (.lst [])) := A1.aside hD (NT.lst [])
  have hDZ := A1.out hD
  have hDd := A1.notdl hD
  have hB1 : B (D :: Z) (upd H1 D (.lst [])) := wk.mono _ _ _ _ (cut_new hD) (.new hD) hB
  -- the state between turns
  let St : Nat → Hp → Prop := fun i H' => i ≤ ds.length ∧ ∃ acc us, At G dl (D :: Z) O r sg H' ∧ Grow dl H1 H' ∧ B (D :: Z) H' ∧ H' D = some (.lst us) ∧ RepL G dl (cut H' (D :: Z)) acc us ∧ acc.length ≤ i ∧
    Wp (loopX gd tt te (wipeL r vs) (ds.drop i)) (fun ys => ∀ p us H2, Grow dl H H2 → GlOk G dl H2 → H2 p = none → RepL G dl (cut H2 Z) (acc ++ ys) us → Q (.ref p) (upd H2 p (.lst us))) (fun e => ∀ cls dx H', Grow dl H H' → GlOk G dl H' → XRep G dl (cut H' Z) e cls dx H' → W cls dx sg H')
  refine ⟨fun i m H' => m = ds.length - i ∧ St i H', ⟨ds.length, by simp, Nat.zero_le _, [], [], B1, .new hD, hB1, upd_same, RepL.nil, Nat.le_refl _, by simpa using hds⟩, ?_⟩
  rintro i m H' ⟨rfl, hi', acc, us, A', gH, hB', hDu, rl, hal, hw⟩
  by_cases hlt : i < ds.length
  · have hdrop : ds.drop i = ds[i] :: ds.drop (i + 1) := List.drop_eq_getElem_cons hlt
    rw [hdrop] at hw
    refine .inr ⟨wk.go i _ H' hB' hlt, St (i + 1), fun H2 h2 => ⟨ds.length - (i + 1), by omega, rfl, h2⟩, fun x H2 hy => ?_⟩
    obtain ⟨g2, k2, rp⟩ := wk.yld i _ O r sg H' x H2 A' hB' hy ds[i] (by simp)
    have k2 := k2 _ A'.gl
    have A2 := A'.grow g2 k2
    unfold loopX at hw
    cases hgd : gd ds[i] (wipeL r vs) with
    | none => rw [hgd] at hw; exact hw.elim
    | some r2 =>
      rw [hgd] at hw
      refine ⟨dl, D :: Z, O, wipeL r vs, ds[i], A2.wipe vs, rp, r2, hgd, fun sg3 hl3 hs3 A3 => ⟨?_, ?_⟩⟩
      · exact (wipe_same hl3 fun j hj => hs3 j fun z => hj (hsub j z)).trans (wipe_wipe vs)
      have cutm : ∀ K : Hp, GrowS (cut K (D :: Z)) (cut K Z) := fun K b o e n => by
        obtain ⟨e1, e2⟩ := cut_some e
        rw [cut_out fun z => e1 (List.mem_cons_of_mem _ z)]; exact e2
      refine ⟨dl, D :: Z, O, r2, A3, hw.bind.mono (fun b hb H3 g3 k3 => ?_) fun e he cls dx H3 g3 k3 xr => he cls dx H3 (((g1.trans gH).trans g2).trans g3) k3 (xr.mono (cutm H3))⟩
      have A3' := A3.grow g3 k3
      have D3 : H2 D = some (.lst us) := g2 D _ hDu hDd (nt _)
      have D3' : H3 D = some (.lst us) := g3 D _ D3 hDd (nt _)
      have C3 : At G dl (D :: Z) O r sg H3 := A2.grow g3 k3
      cases b with
      | false =>
        refine ⟨hlt, acc, us, C3, (gH.trans g2).trans g3, wk.mono _ _ _ _ (g3.cut A2.dz) g3 (wk.mono _ _ _ _ (g2.cut A'.dz) g2 hB'), D3', rl.mono ((g2.trans g3).cut A'.dz), by omega, hb⟩
      | true =>
        refine ⟨dl, D :: Z, O, r2, A3', Wp.mono (show Wp (te r2 >>= _) _ _ from hb).bind (fun y hy2 v H4 g4 k4 rp4 => ?_) fun e he cls dx H4 g4 k4 xr => he cls dx H4 ((((g1.trans gH).trans g2).trans g3).trans g4) k4 (xr.mono (cutm H4))⟩
        have D4 : H4 D = some (.lst us) := g4 D _ D3' hDd (nt _)
        have C4 : At G dl (D :: Z) O r sg H4 := C3.grow g4 k4
        have hz : us.length < sizeLine := by rw [sizeLine_eq, rl.length]; omega
        have gall : Grow dl H1 H4 := ((gH.trans g2).trans g3).trans g4
        have gcutD : ∀ xs, GrowS (cut H4 (D :: Z)) (cut (upd H4 D (.lst xs)) (D :: Z)) := fun xs b o e n => by
          obtain ⟨e1, e2⟩ := cut_some e
          have hbD : b ≠ D := fun z => e1 (by rw [z]; exact List.mem_cons_self)
          rw [cut_out e1, upd_ne hbD]; exact e2
        have gD : Grow dl H1 (upd H4 D (.lst (us ++ [v]))) := fun b o e n nt' => by
          rw [upd_ne (ne_of_none e hD)]; exact gall b o e n nt'
        have gl5 : GlOk G dl (upd H4 D (.lst (us ++ [v]))) := by
          obtain ⟨x1, y1, z1, hd1⟩ := k4.dice
          exact ⟨⟨x1, y1, z1, by rw [upd_ne fun e => hDd e.symm]; exact hd1⟩, k4.tab.upd D4 rfl⟩
        have A5 : At G dl (D :: Z) O r sg (upd H4 D (.lst (us ++ [v]))) := by
          refine ⟨gl5, C4.dz, fun b hb => ?_, C4.own, C4.inj, C4.len, fun j c e => ?_⟩
          · by_cases e : b = D
            · rw [e]; exact ⟨_, upd_same, NT.lst _⟩
            · obtain ⟨u, h1, h2⟩ := C4.live b hb
              exact ⟨u, by rw [upd_ne e]; exact h1, h2⟩
          · have := C4.slot j c e
            cases c with
            | un => trivial
            | val d =>
              obtain ⟨v, e, q⟩ := this
              exact ⟨v, e, q.mono (gcutD _)⟩
            | own d =>
              obtain ⟨a, ha, e, q, ko⟩ := this
              have haD : a ≠ D := fun z => hDZ (by rw [← z]; exact (A.own _ ha).1)
              refine ⟨a, ha, e, ?_, ko⟩
              rw [upd_ne haD]; exact q.mono (gcutD _)
        refine ⟨us, D4, hz, hlt, acc ++ [y], us ++ [v], A5, gD, wk.mono _ _ _ _ (fun b o e n => ?_) gD hB, upd_same, ?_, by rw [List.length_append]; simp; omega, ?_⟩
        · obtain ⟨e1, e2⟩ := cut_some e
          have hbD : b ≠ D := ne_of_none e2 hD
          have hbl : b ≠ dl := fun z => e1 (by rw [z]; exact A.dz)
          rw [cut_out (by rw [List.mem_cons, not_or]; exact ⟨hbD, e1⟩)]
          exact gD b o e2 hbl n
        · exact RepL.append (rl.mono ((((g2.trans g3).trans g4).cut A'.dz).trans (gcutD _))) (RepL.cons (rp4.mono (gcutD _)) RepL.nil)
        · exact hy2.bind.thn fun ys hys => by rw [List.append_assoc]; exact hys
  · have e : i = ds.length := by omega
    subst e
    rw [List.drop_length] at hw
    refine .inl ⟨wk.stop _ _ H' hB' (Nat.le_refl _), ?_⟩
    have hw2 : ∀ p us H2, Grow dl H H2 → GlOk G dl H2 → H2 p = none → RepL G dl (cut H2 Z) (acc ++ []) us → Q (.ref p) (upd H2 p (.lst us)) := hw
    rw [List.append_nil] at hw2
    have := hw2 D us (cut H' [D]) (fun b o e n nt' => ?_) ?_ (cut_in (by simp)) ?_
    · rw [upd_cut hDu] at this; exact this
    · have e1 := g1 b o e n nt'
      rw [cut_out (by simpa using ne_of_none e1 hD)]
      exact gH b o e1 n nt'
    · obtain ⟨x1, y1, z1, hd1⟩ := A'.gl.dice
      exact ⟨⟨x1, y1, z1, by rw [cut_out (by simpa using fun e : dl = D => hDd e.symm)]; exact hd1⟩, A'.gl.tab.cut hDu rfl⟩
    · refine rl.mono fun b o e n => ?_
      obtain ⟨e1, e2⟩ := cut_some e
      rw [List.mem_cons, not_or] at e1
      rw [cut_out e1.2, cut_out (by simpa using e1.1)]
      exact e2
theorem df_compXT {elt : Expr} {ifs : List Expr} {scope : Scope} {own : List (Str × Nat)} {pos : Pos} (tk : Takes X W) (hc : X.calm = true) (hN : X.N.Nodup) (hi : DIe X G W tg iter fi) (ok : BlkOk X.N X.env.scope scope own)
    (hg : ∀ (σ : L2.St) (s : Shared) (H : Hp) (C : Addr) (cl : List (Str × Addr)) (fp : List Addr), DG (blkX X (atW W σ) s H scope (compEnvC scope cl C X.env) fp) G tg gd is)
    (ht : ∀ (σ : L2.St) (s : Shared) (H : Hp) (C : Addr) (cl : List (Str × Addr)) (fp : List Addr), DTs (blkX X (atW W σ) s H scope (compEnvC scope cl C X.env) fp) G (atW W σ) ifs tt)
    (he : ∀ (σ : L2.St) (s : Shared) (H : Hp) (C : Addr) (cl : List (Str × Addr)) (fp : List Addr), DE (blkX X (atW W σ) s H scope (compEnvC scope cl C X.env) fp) G (atW W σ) elt te)
    (hsub : ∀ j ∈ is, j ∈ own.map (·.2)) (hs_ : X.stack = X.env :: X.outer := by rfl) (hf_ : X.env.frame = some X.env.locals := by rfl) (hs : ∀ x, foldedSetIterable iter X.env x = pure x := by intro _; rfl) :
    DF X G W (.ListComp elt [⟨tg, iter, ifs, 0⟩] scope pos) (compX fi gd tt te (own.map (·.2))) :=
  PE_imp (pe_lcT (tt := fun σ => tT G (atW W σ) tt) (te := fun σ => tD G (atW W σ) te) hs_ hf_ tk hc hN hi ok hg ht he hs) fun sg H Q h => lc_core_dT hsub h
end
end DL
set_option Elab.async false
set_option linter.all false
set_option maxRecDepth 100000
set_option maxHeartbeats 1000000
namespace K20
open PySem L2 DL LamX PySem.Spec PyProof.Rows
def top (i : Nat) : Stmt := PySem.Challenge.pw_flaghall_k20_watchwords.main.body.getD i (.Pass ⟨0, 0, 0, 0⟩)
abbrev s_law_dice : Stmt := top 28
abbrev s_law_roll : Stmt := top 29
abbrev s_law_rounds : Stmt := top 30
abbrev s_law_told : Stmt := top 31
abbrev s_check_table : Stmt := top 12
abbrev s_reply_of : Stmt := top 13
abbrev s_keys_left : Stmt := top 14
abbrev s_key_told : Stmt := top 15
abbrev s_parts_by : Stmt := top 17
abbrev s_are_unlike : Stmt := top 16
abbrev s_fewest_questions : Stmt := top 18
abbrev s_law_depth : Stmt := top 32
abbrev s_law_flat : Stmt := top 27
abbrev s_fixed_questions : Stmt := top 19
abbrev s_guess_chance : Stmt := top 20
abbrev s_day_key : Stmt := top 21
abbrev s_days_until_again : Stmt := top 22
abbrev s_safe_days : Stmt := top 23
abbrev s_turned_table : Stmt := top 24
abbrev s_changed_replies : Stmt := top 25
abbrev s_law_rest1 : Stmt := top 33
abbrev s_law : Stmt := top 34
abbrev s_sup_Unclear : Stmt := inClass (top 7) 0
structure Adr where
  f_law_dice : Addr
  f_law_roll : Addr
  f_law_rounds : Addr
  f_law_told : Addr
  f_check_table : Addr
  f_reply_of : Addr
  f_keys_left : Addr
  f_key_told : Addr
  f_parts_by : Addr
  f_are_unlike : Addr
  f_fewest_questions : Addr
  f_law_depth : Addr
  f_law_flat : Addr
  f_fixed_questions : Addr
  f_guess_chance : Addr
  f_day_key : Addr
  f_days_until_again : Addr
  f_safe_days : Addr
  f_turned_table : Addr
  f_changed_replies : Addr
  f_law_rest1 : Addr
  f_law : Addr
  x_BadBook : Addr
  x_BadFlag : Addr
  x_BadFleet : Addr
  x_BadHoist : Addr
  x_Foul : Addr
  x_NoWay : Addr
  x_TooLarge : Addr
  x_Unclear : Addr
  x_BadText : Addr
  k_check_table : Addr
  t_check_table : Addr
  k_keys_left : Addr
  t_keys_left : Addr
  k_safe_days : Addr
  t_safe_days : Addr
  k_law_rest1 : Addr
  t_law_rest1 : Addr
  k_law : Addr
  t_law : Addr
def flds : Nat → List Str
  | _ => []
def clsA (a : Adr) : Nat → Addr
  | _ => 0
def excA (a : Adr) : Nat → Addr
  | 3 => a.x_BadBook
  | 1 => a.x_BadFlag
  | 4 => a.x_BadFleet
  | 2 => a.x_BadHoist
  | 5 => a.x_Foul
  | 7 => a.x_NoWay
  | 8 => a.x_TooLarge
  | 6 => a.x_Unclear
  | 9 => a.x_BadText
  | _ => 0
def excF : Nat → Option Str
  | _ => none
def excL : List Nat := [3, 1, 4, 2, 5, 7, 8, 6, 9]
def tabsA (a : Adr) : List (Addr × Str) := [(a.t_check_table, ("check_table" : Str) ++ ".<locals>."), (a.t_keys_left, ("keys_left" : Str) ++ ".<locals>."), (a.t_safe_days, ("safe_days" : Str) ++ ".<locals>."), (a.t_law_rest1, ("_law_rest1" : Str) ++ ".<locals>."), (a.t_law, ("law" : Str) ++ ".<locals>.")]
def lamPos : List (Nat × Nat) := [(193, 17), (195, 17), (197, 17), (199, 17), (201, 17), (203, 17), (205, 17), (207, 17), (228, 25), (219, 21), (236, 21)]
def kdT (l c : Nat) : Bool := lamPos.any fun p => Nat.beq p.1 l && Nat.beq p.2 c
abbrev gm (K : PySem.W.Frag) (w : World) (a : Adr) (xs : List (Addr × Addr × Str)) : Gm := { K := K, w := w, cls := clsA a, flds := flds, fns := fun _ => 0, xcls := excA a, xfld := excF, tabs := tabsA a, kd := kdT, subs := xs }
def toldL : List (Nat × List Nat) := [(3, [98, 111, 111, 107]), (1, [102, 108, 97, 103]), (4, [102, 108, 101, 101, 116]), (2, [104, 111, 105, 115, 116]), (5, [102, 111, 117, 108]), (7, [110, 111, 32, 119, 97, 121]), (8, [108, 97, 114, 103, 101]), (6, [117, 110, 99, 108, 101, 97, 114]), (9, [116, 101, 120, 116])]
def FunL (K : PySem.W.Frag) (x : Str) (st : Stmt) (f : Addr) (ps : List Str) : Prop := ∃ (oc : Value) (od : Option Addr) (kV doc pm : Value) (an : Option Addr) (cdv ct : Value) (osl : Array (Option Value)),
  K.lookup f = some ⟨oc, od, .func (PySem.W.fnOf x x (defArgs st) (defBody st) (defScope st) .none kV doc pm an cdv ct), osl⟩ ∧ PySem.W.codeIn K cdv x = true ∧ PySem.W.keepIn K (.ref f) = true ∧ L2.Binds K (PySem.W.fnOf x x (defArgs st) (defBody st) (defScope st) .none kV doc pm an cdv ct) ps []
/-- what the head knows -/
structure Txt (P : Program) (w : World) (K : PySem.W.Frag) (mg : Str → Option Value) (base : Heap) (a : Adr) : Prop where
  b_range : mg "range" = none
  b_len : mg "len" = none
  b_any : mg "any" = none
  b_all : mg "all" = none
  b_tuple : mg "tuple" = none
  b_list : mg "list" = none
  b_super : mg "super" = none
  b_sorted : mg "sorted" = none
  b_dict : mg "dict" = none
  b_max : mg "max" = none
  b_min : mg "min" = none
  b_int : mg "int" = none
  b_abs : mg "abs" = none
  g_law_dice : mg "_law_dice" = some (.ref a.f_law_dice)
  e_law_dice : FunE K "_law_dice" "_law_dice" s_law_dice a.f_law_dice ["cell"]
  g_law_roll : mg "_law_roll" = some (.ref a.f_law_roll)
  e_law_roll : FunE K "_law_roll" "_law_roll" s_law_roll a.f_law_roll ["dice", "many"]
  g_law_rounds : mg "_law_rounds" = some (.ref a.f_law_rounds)
  e_law_rounds : FunE K "_law_rounds" "_law_rounds" s_law_rounds a.f_law_rounds ["script", "most"]
  g_law_told : mg "_law_told" = some (.ref a.f_law_told)
  l_told : FunL K "_law_told" s_law_told a.f_law_told ["what"]
  g_check_table : mg "check_table" = some (.ref a.f_check_table)
  e_check_table : FunC K "check_table" "check_table" s_check_table a.f_check_table a.k_check_table ["table"]
  g_reply_of : mg "reply_of" = some (.ref a.f_reply_of)
  e_reply_of : FunE K "reply_of" "reply_of" s_reply_of a.f_reply_of ["table", "key", "challenge"]
  g_keys_left : mg "keys_left" = some (.ref a.f_keys_left)
  e_keys_left : FunC K "keys_left" "keys_left" s_keys_left a.f_keys_left a.k_keys_left ["table", "heard"]
  g_key_told : mg "key_told" = some (.ref a.f_key_told)
  e_key_told : FunE K "key_told" "key_told" s_key_told a.f_key_told ["table", "heard"]
  g_parts_by : mg "parts_by" = some (.ref a.f_parts_by)
  e_parts_by : FunE K "parts_by" "parts_by" s_parts_by a.f_parts_by ["table", "keys", "challenge"]
  g_are_unlike : mg "are_unlike" = some (.ref a.f_are_unlike)
  e_are_unlike : FunE K "are_unlike" "are_unlike" s_are_unlike a.f_are_unlike ["table"]
  g_fewest_questions : mg "fewest_questions" = some (.ref a.f_fewest_questions)
  e_fewest_questions : FunE K "fewest_questions" "fewest_questions" s_fewest_questions a.f_fewest_questions ["table", "keys"]
  g_law_depth : mg "_law_depth" = some (.ref a.f_law_depth)
  e_law_depth : FunE K "_law_depth" "_law_depth" s_law_depth a.f_law_depth ["table", "keys", "most"]
  g_law_flat : mg "_law_flat" = some (.ref a.f_law_flat)
  e_law_flat : FunE K "_law_flat" "_law_flat" s_law_flat a.f_law_flat ["rows"]
  g_fixed_questions : mg "fixed_questions" = some (.ref a.f_fixed_questions)
  e_fixed_questions : FunE K "fixed_questions" "fixed_questions" s_fixed_questions a.f_fixed_questions ["table"]
  g_guess_chance : mg "guess_chance" = some (.ref a.f_guess_chance)
  e_guess_chance : FunE K "guess_chance" "guess_chance" s_guess_chance a.f_guess_chance ["table", "heard", "challenge"]
  g_day_key : mg "day_key" = some (.ref a.f_day_key)
  e_day_key : FunE K "day_key" "day_key" s_day_key a.f_day_key ["first", "step", "day", "keys"]
  g_days_until_again : mg "days_until_again" = some (.ref a.f_days_until_again)
  e_days_until_again : FunE K "days_until_again" "days_until_again" s_days_until_again a.f_days_until_again ["step", "keys"]
  g_safe_days : mg "safe_days" = some (.ref a.f_safe_days)
  e_safe_days : FunC K "safe_days" "safe_days" s_safe_days a.f_safe_days a.k_safe_days ["table", "heard", "first", "step", "days"]
  g_turned_table : mg "turned_table" = some (.ref a.f_turned_table)
  e_turned_table : FunE K "turned_table" "turned_table" s_turned_table a.f_turned_table ["table"]
  g_changed_replies : mg "changed_replies" = some (.ref a.f_changed_replies)
  e_changed_replies : FunE K "changed_replies" "changed_replies" s_changed_replies a.f_changed_replies ["table", "swap"]
  g_law_rest1 : mg "_law_rest1" = some (.ref a.f_law_rest1)
  e_law_rest1 : FunC K "_law_rest1" "_law_rest1" s_law_rest1 a.f_law_rest1 a.k_law_rest1 ["dice", "keys", "table", "secret", "one", "unlike"]
  g_law : mg "law" = some (.ref a.f_law)
  e_law : FunC K "law" "law" s_law a.f_law a.k_law ["script"]
  x_BadBook : PySem.W.excIn K a.x_BadBook [.type "ValueError", .type "Exception", .type "BaseException", .type "object"] "ValueError.__new__" = true ∧ mg "BadBook" = some (.ref a.x_BadBook) ∧ PySem.W.keepIn K (.ref a.x_BadBook) = true ∧ PySem.W.subIn K (.ref a.x_BadBook) (.type "BaseException") = some true ∧ PySem.W.typeIn K (.ref a.x_BadBook) = some (.type "type")
  x_BadFlag : PySem.W.excIn K a.x_BadFlag [.type "ValueError", .type "Exception", .type "BaseException", .type "object"] "ValueError.__new__" = true ∧ mg "BadFlag" = some (.ref a.x_BadFlag) ∧ PySem.W.keepIn K (.ref a.x_BadFlag) = true ∧ PySem.W.subIn K (.ref a.x_BadFlag) (.type "BaseException") = some true ∧ PySem.W.typeIn K (.ref a.x_BadFlag) = some (.type "type")
  x_BadFleet : PySem.W.excIn K a.x_BadFleet [.type "ValueError", .type "Exception", .type "BaseException", .type "object"] "ValueError.__new__" = true ∧ mg "BadFleet" = some (.ref a.x_BadFleet) ∧ PySem.W.keepIn K (.ref a.x_BadFleet) = true ∧ PySem.W.subIn K (.ref a.x_BadFleet) (.type "BaseException") = some true ∧ PySem.W.typeIn K (.ref a.x_BadFleet) = some (.type "type")
  x_BadHoist : PySem.W.excIn K a.x_BadHoist [.type "ValueError", .type "Exception", .type "BaseException", .type "object"] "ValueError.__new__" = true ∧ mg "BadHoist" = some (.ref a.x_BadHoist) ∧ PySem.W.keepIn K (.ref a.x_BadHoist) = true ∧ PySem.W.subIn K (.ref a.x_BadHoist) (.type "BaseException") = some true ∧ PySem.W.typeIn K (.ref a.x_BadHoist) = some (.type "type")
  x_Foul : mg "Foul" = some (.ref a.x_Foul)
  x_NoWay : PySem.W.excIn K a.x_NoWay [.type "ValueError", .type "Exception", .type "BaseException", .type "object"] "ValueError.__new__" = true ∧ mg "NoWay" = some (.ref a.x_NoWay) ∧ PySem.W.keepIn K (.ref a.x_NoWay) = true ∧ PySem.W.subIn K (.ref a.x_NoWay) (.type "BaseException") = some true ∧ PySem.W.typeIn K (.ref a.x_NoWay) = some (.type "type")
  x_TooLarge : PySem.W.excIn K a.x_TooLarge [.type "ValueError", .type "Exception", .type "BaseException", .type "object"] "ValueError.__new__" = true ∧ mg "TooLarge" = some (.ref a.x_TooLarge) ∧ PySem.W.keepIn K (.ref a.x_TooLarge) = true ∧ PySem.W.subIn K (.ref a.x_TooLarge) (.type "BaseException") = some true ∧ PySem.W.typeIn K (.ref a.x_TooLarge) = some (.type "type")
  x_Unclear : mg "Unclear" = some (.ref a.x_Unclear)
  x_BadText : mg "BadText" = some (.ref a.x_BadText)
  s_Unclear : ∃ fI fd, DSX.SupC P K mg a.x_Unclear fI fd
  sub : ∀ xs, SubOk K (gm K w a xs) 0 excL
  exm : ∀ xs, ExmOk K (gm K w a xs) (toldL.map (·.1))
  tb_check_table : TabB base mg a.k_check_table a.t_check_table
  tb_keys_left : TabB base mg a.k_keys_left a.t_keys_left
  tb_safe_days : TabB base mg a.k_safe_days a.t_safe_days
  tb_law_rest1 : TabB base mg a.k_law_rest1 a.t_law_rest1
  tb_law : TabB base mg a.k_law a.t_law
  ne_check_table_keys_left : a.t_check_table ≠ a.t_keys_left
  ne_check_table_safe_days : a.t_check_table ≠ a.t_safe_days
  ne_check_table_law_rest1 : a.t_check_table ≠ a.t_law_rest1
  ne_check_table_law : a.t_check_table ≠ a.t_law
  ne_keys_left_safe_days : a.t_keys_left ≠ a.t_safe_days
  ne_keys_left_law_rest1 : a.t_keys_left ≠ a.t_law_rest1
  ne_keys_left_law : a.t_keys_left ≠ a.t_law
  ne_safe_days_law_rest1 : a.t_safe_days ≠ a.t_law_rest1
  ne_safe_days_law : a.t_safe_days ≠ a.t_law
  ne_law_rest1_law : a.t_law_rest1 ≠ a.t_law
theorem sc_law_dice : FnScope ["cell"] ["cell"] (defScope s_law_dice) := ⟨rfl, rfl, rfl, by decide +kernel, rfl, by decide +kernel, by decide +kernel⟩
theorem sc_law_roll : FnScope ["dice", "many", "found"] ["dice", "many"] (defScope s_law_roll) := ⟨rfl, rfl, rfl, by decide +kernel, rfl, by decide +kernel, by decide +kernel⟩
theorem sc_law_rounds : FnScope ["script", "most", "cells", "cell"] ["script", "most"] (defScope s_law_rounds) := ⟨rfl, rfl, rfl, by decide +kernel, rfl, by decide +kernel, by decide +kernel⟩
theorem sc_law_told : FnScope ["what"] ["what"] (defScope s_law_told) := ⟨rfl, rfl, rfl, by decide +kernel, rfl, by decide +kernel, by decide +kernel⟩
theorem sc_check_table : FnScope ["table", "row"] ["table"] (defScope s_check_table) := ⟨rfl, rfl, rfl, by decide +kernel, rfl, by decide +kernel, by decide +kernel⟩
theorem sc_reply_of : FnScope ["table", "key", "challenge"] ["table", "key", "challenge"] (defScope s_reply_of) := ⟨rfl, rfl, rfl, by decide +kernel, rfl, by decide +kernel, by decide +kernel⟩
theorem sc_keys_left : FnScope ["table", "heard", "key", "one", "reply"] ["table", "heard"] (defScope s_keys_left) := ⟨rfl, rfl, rfl, by decide +kernel, rfl, by decide +kernel, by decide +kernel⟩
theorem sc_key_told : FnScope ["table", "heard", "found"] ["table", "heard"] (defScope s_key_told) := ⟨rfl, rfl, rfl, by decide +kernel, rfl, by decide +kernel, by decide +kernel⟩
theorem sc_parts_by : FnScope ["table", "keys", "challenge", "found", "key", "reply"] ["table", "keys", "challenge"] (defScope s_parts_by) := ⟨rfl, rfl, rfl, by decide +kernel, rfl, by decide +kernel, by decide +kernel⟩
theorem sc_are_unlike : FnScope ["table", "row"] ["table"] (defScope s_are_unlike) := ⟨rfl, rfl, rfl, by decide +kernel, rfl, by decide +kernel, by decide +kernel⟩
theorem sc_fewest_questions : FnScope ["table", "keys", "best", "challenge", "parts", "need", "reply"] ["table", "keys"] (defScope s_fewest_questions) := ⟨rfl, rfl, rfl, by decide +kernel, rfl, by decide +kernel, by decide +kernel⟩
theorem sc_law_depth : FnScope ["table", "keys", "most", "one", "replies", "key", "reply"] ["table", "keys", "most"] (defScope s_law_depth) := ⟨rfl, rfl, rfl, by decide +kernel, rfl, by decide +kernel, by decide +kernel⟩
theorem sc_law_flat : FnScope ["rows", "found", "row"] ["rows"] (defScope s_law_flat) := ⟨rfl, rfl, rfl, by decide +kernel, rfl, by decide +kernel, by decide +kernel⟩
theorem sc_fixed_questions : FnScope ["table", "rows", "size", "row", "seen", "one", "line"] ["table"] (defScope s_fixed_questions) := ⟨rfl, rfl, rfl, by decide +kernel, rfl, by decide +kernel, by decide +kernel⟩
theorem sc_guess_chance : FnScope ["table", "heard", "challenge", "left", "row"] ["table", "heard", "challenge"] (defScope s_guess_chance) := ⟨rfl, rfl, rfl, by decide +kernel, rfl, by decide +kernel, by decide +kernel⟩
theorem sc_day_key : FnScope ["first", "step", "day", "keys"] ["first", "step", "day", "keys"] (defScope s_day_key) := ⟨rfl, rfl, rfl, by decide +kernel, rfl, by decide +kernel, by decide +kernel⟩
theorem sc_days_until_again : FnScope ["step", "keys", "days"] ["step", "keys"] (defScope s_days_until_again) := ⟨rfl, rfl, rfl, by decide +kernel, rfl, by decide +kernel, by decide +kernel⟩
theorem sc_safe_days : FnScope ["table", "heard", "first", "step", "days", "keys", "starts", "start", "day", "one", "reply", "found"] ["table", "heard", "first", "step", "days"] (defScope s_safe_days) := ⟨rfl, rfl, rfl, by decide +kernel, rfl, by decide +kernel, by decide +kernel⟩
theorem sc_turned_table : FnScope ["table", "row", "k"] ["table"] (defScope s_turned_table) := ⟨rfl, rfl, rfl, by decide +kernel, rfl, by decide +kernel, by decide +kernel⟩
theorem sc_changed_replies : FnScope ["table", "swap", "reply", "row"] ["table", "swap"] (defScope s_changed_replies) := ⟨rfl, rfl, rfl, by decide +kernel, rfl, by decide +kernel, by decide +kernel⟩
theorem sc_law_rest1 : FnScope ["dice", "keys", "table", "secret", "one", "unlike", "step", "day", "k", "news", "starts", "start", "ask", "reply", "safe", "row", "swapped"] ["dice", "keys", "table", "secret", "one", "unlike"] (defScope s_law_rest1) := ⟨rfl, rfl, rfl, by decide +kernel, rfl, by decide +kernel, by decide +kernel⟩
theorem sc_law : FnScope ["script", "dice", "keys", "many", "table", "k", "j", "secret", "count", "heard", "left", "key", "one", "reply", "replies", "row", "unlike", "need", "rows", "good", "line", "shares"] ["script"] (defScope s_law) := ⟨rfl, rfl, rfl, by decide +kernel, rfl, by decide +kernel, by decide +kernel⟩
section
variable {P : Program} {w : World} {K : PySem.W.Frag} {mg : Str → Option Value} {base : Heap} {G : Gm} {a : Adr} {xs : List (Addr × Addr × Str)}
theorem ok_roll {f : Addr} {fd : FuncData} (F : Fun K "_law_roll" "_law_roll" s_law_roll f fd) (mi : mg "int" = none) : FnOk P w K mg base (LG.CX P w) 1 f fd ["dice", "many"] (spD G 2 rollD) := by
  refine fun_okG F sc_law_roll (fun vs H Q E h => h.1) (fun cdv A outer s H vs Q E hr h => ?_)
  obtain ⟨hl, dl, Z, ds, gl, dz, live, rl, hw⟩ := h
  obtain ⟨m, x, y, z, rfl, m0, m1, hd, k⟩ := roll_of gl dz rl hw
  refine ⟨_, pss_cons (ps_if (pw_or (pt_cmpR op_eq (pe_ix ix_list (pv 0) pe_int fun _ _ => rfl) pe_int (nomark _)) (pw_or1 (pw_and (pt_cmpR op_eq (pe_ix ix_list (pv 0) pe_int fun _ _ => rfl) pe_int (nomark _)) (pw_and1 (pt_cmpR op_gt (pe_ix ix_list (pv 0) pe_int fun _ _ => rfl) pe_int (nomark _)))).pt)).pt
      (pss_cons (ps_set (i := 2) sc_law_roll.nd rfl (Or.inl rfl) (pe_op op_mod (pe_callTy call_int1 rfl mi rfl (pa_cons (pe_ix ix_list (pv 0) pe_int fun _ _ => rfl) pa_nil)) (pv 1)))
        (pss_cons (ps_asg (pe_op op_fdiv (pe_ix ix_list (pv 0) pe_int fun _ _ => rfl) (pv 1)) (pg_sub (pv 0) pe_int set_list))
          (pss_one (ps_ret (pv 2))))) pss_nil)
    (pss_cons (ps_asg pe_int (pg_sub (pv 0) pe_int set_list))
      (pss_cons (ps_asg (pe_op op_mod (pe_callTy call_int1 rfl mi rfl (pa_cons (pe_op op_add (pe_op op_add (pe_op op_mul (pe_ix ix_list (pv 0) pe_int fun _ _ => rfl) pe_int) (pe_op op_mul (pe_ix ix_list (pv 0) pe_int fun _ _ => rfl) pe_int)) pe_int) pa_nil)) pe_int) (pg_sub (pv 0) pe_int set_list))
        (pss_cons (ps_asg (pe_op op_add (pe_ix ix_list (pv 0) pe_int fun _ _ => rfl) pe_int) (pg_sub (pv 0) pe_int set_list))
          (pss_one (ps_ret (pe_op op_mod (pe_callTy call_int1 rfl mi rfl (pa_cons (pe_op op_add (pe_op op_fdiv (pe_ix ix_list (pv 0) pe_int fun _ _ => rfl) pe_int) (pe_ix ix_list (pv 0) pe_int fun _ _ => rfl)) pa_nil)) (pv 1))))))), ?_⟩
  have hm1 : m < 1073741824 := by omega
  have r0 : 0 ≤ x % m := Int.emod_nonneg _ (by omega)
  have r1 : x % m < m := Int.emod_lt_of_pos _ m0
  refine ⟨_, rfl, dl, _, _, _, rfl, rfl, SqL.of hd, rfl, rfl, _, rfl, ?_⟩
  refine ite2 (fun _ => ite2 (fun _ => ?y1) (fun h => absurd rfl h)) (fun _ => ⟨_, rfl, dl, _, _, _, rfl, rfl, SqL.of hd, rfl, rfl, _, rfl, ite2 (fun _ => ⟨_, rfl, dl, _, _, _, rfl, rfl, SqL.of hd, rfl, _, _, rfl, rfl, _, rfl, ite2 (fun _ => ?y2) (fun _ => ?n1)⟩) (fun _ => ite2 (fun h => nomatch h) (fun _ => ?n2))⟩)
  case y1 =>
    refine ⟨_, rfl, dl, _, _, _, rfl, rfl, SqL.of hd, rfl, .inl ⟨_, rfl, _, rfl, _, _, rfl, rfl, m0, ?_⟩⟩
    refine ⟨_, rfl, dl, _, _, _, rfl, rfl, SqL.of hd, rfl, _, rfl, _, _, rfl, rfl, ⟨m0, hm1⟩, _, rfl, dl, _, _, _, rfl, rfl, hd, rfl, _, rfl, ?_⟩
    exact k _ _ r0 r1 ⟨_, _, _, rfl⟩
  case y2 =>
    refine ⟨_, rfl, dl, _, _, _, rfl, rfl, SqL.of hd, rfl, .inl ⟨_, rfl, _, rfl, _, _, rfl, rfl, m0, ?_⟩⟩
    refine ⟨_, rfl, dl, _, _, _, rfl, rfl, SqL.of hd, rfl, _, rfl, _, _, rfl, rfl, ⟨m0, hm1⟩, _, rfl, dl, _, _, _, rfl, rfl, hd, rfl, _, rfl, ?_⟩
    exact k _ _ r0 r1 ⟨_, _, _, rfl⟩
  all_goals
    refine ⟨_, rfl, dl, _, _, _, rfl, rfl, hd, rfl, ?_⟩
    have h2 : (upd H dl (.lst [V.int x, V.int y, V.int 0])) dl = some (.lst [V.int x, V.int y, V.int 0]) := upd_same
    refine ⟨_, rfl, dl, _, _, _, rfl, rfl, SqL.of h2, rfl, _, _, rfl, rfl, .inr ⟨by decide, by decide⟩, _, rfl, dl, _, _, _, rfl, rfl, SqL.of h2, rfl, _, _, rfl, rfl, .inr ⟨by decide, by decide⟩, _, _, rfl, rfl, _, _, rfl, rfl, .inl ⟨_, rfl, _, _, rfl, rfl, (by show (0 : Int) < 2147483647; decide), _, rfl, dl, _, _, _, rfl, rfl, h2, rfl, ?_⟩⟩
    refine ⟨_, rfl, dl, _, _, _, rfl, rfl, SqL.of upd_same, rfl, _, _, rfl, rfl, _, rfl, dl, _, _, _, rfl, rfl, upd_same, rfl, ?_⟩
    refine ⟨_, rfl, dl, _, _, _, rfl, rfl, SqL.of upd_same, rfl, _, _, rfl, rfl, ⟨(by show (0 : Int) < 7; decide), (by show (7 : Int) < 1073741824; decide)⟩, _, rfl, dl, _, _, _, rfl, rfl, SqL.of upd_same, rfl, _, _, rfl, rfl, .inl ⟨_, rfl, _, rfl, _, _, rfl, rfl, m0, ?_⟩⟩
    refine k _ _ (Int.emod_nonneg _ (by omega)) (Int.emod_lt_of_pos _ m0) ⟨(x * 48271 + y * 69621 + 11) % 2147483647, y + 1, 0, ?_⟩
    rw [upd_upd, upd_upd]
    rfl
theorem ok_dice {f : Addr} {fd : FuncData} (F : Fun K "_law_dice" "_law_dice" s_law_dice f fd) (mi : mg "int" = none) (ma : mg "abs" = none) : FnOk P w K mg base (LG.CX P w) 1 f fd ["cell"] spDice := by
  refine fun_okG F sc_law_dice (fun vs H Q E h => by obtain ⟨c, rfl, _⟩ := h; rfl) (fun cdv A outer s H vs Q E hr h => ?_)
  obtain ⟨c, rfl, k⟩ := h
  refine ⟨_, pss_cons (ps_if (pt_chain op_lt op_lt (pe_op op_sub pe_int pe_int) (pv 0) pe_int) (pss_one (ps_ret (pe_lst (pa_cons (pe_callB call_abs rfl ma rfl (pa_cons (pv 0) pa_nil)) (pa_cons pe_int (pa_cons pe_int pa_nil)))))) pss_nil)
    (pss_one (ps_ret (pe_lst (pa_cons (pv 0) (pa_cons (pe_op op_add pe_int (pe_op op_mod (pe_callTy call_int1 rfl mi rfl (pa_cons (pv 0) pa_nil)) pe_int)) (pa_cons (pe_callTy call_int1 rfl mi rfl (pa_cons (pe_cmpR op_ge (pv 0) (pe_op op_pow pe_int pe_int) (nomark _)) pa_nil)) pa_nil)))))), ?_⟩
  have kk : ∀ a : Int, [V.int a, V.int 0, V.int 2].length ≤ sizeLine ∧ ∀ p, H p = none → Q (.ref p) (upd H p (.lst [V.int a, V.int 0, V.int 2])) := fun a => ⟨by rw [sizeLine_eq]; exact Nat.le_of_ble_eq_true rfl, fun p hp => k p a 0 2 hp⟩
  have kn : ∀ b : Bool, [V.int c, V.int (1 + c % 1009), V.int (if b = true then 1 else 0)].length ≤ sizeLine ∧ ∀ p, H p = none → Q (.ref p) (upd H p (.lst [V.int c, V.int (1 + c % 1009), V.int (if b = true then 1 else 0)])) := fun b => ⟨by rw [sizeLine_eq]; exact Nat.le_of_ble_eq_true rfl, fun p hp => k p c _ _ hp⟩
  have no : tRet
      (tLst
        (tCons (tVar 0)
          (tCons
            (tOp (rI0 fun i j => V.int (i + j)) (tC (V.int 1))
              (tOp (rI (fun x j => 0 < j) fun i j => V.int (i % j))
                (tCB
                  (fun xs H Q =>
                    (∃ i, xs = [V.int i] ∧ Q (V.int i) H) ∨
                      ∃ k, xs = [V.bl k] ∧ Q (V.int (if k = true then 1 else 0)) H)
                  (tCons (tVar 0) tNil))
                (tC (V.int 1009))))
            (tCons
              (tCB
                (fun xs H Q =>
                  (∃ i, xs = [V.int i] ∧ Q (V.int i) H) ∨ ∃ k, xs = [V.bl k] ∧ Q (V.int (if k = true then 1 else 0)) H)
                (tCons
                  (tOp (rI0 fun i j => V.bl (decide (j ≤ i))) (tVar 0)
                    (tOp (rI CPow fun i j => V.int (i ^ j.toNat)) (tC (V.int 10)) (tC (V.int 18))))
                  tNil))
              tNil)))) { nx := fun x H' => Q V.non H', rt := Q } (L2.start [Str.ofString "cell"] [V.int c]) H := by
    exact ⟨_, rfl, _, rfl, .inl ⟨_, rfl, _, _, rfl, rfl, (by show (0 : Int) < 1009; decide), _, _, rfl, rfl, _, rfl, _, _, rfl, rfl, ⟨by decide, by decide, by decide⟩, _, _, rfl, rfl, .inr ⟨_, rfl, kn _⟩⟩⟩
  refine ⟨_, _, rfl, rfl, _, rfl, _, _, rfl, rfl, _, rfl, ite2 (fun _ => ⟨_, _, rfl, rfl, _, rfl, ite2 (fun _ => ⟨_, rfl, _, rfl, kk _⟩) (fun _ => no)⟩) (fun _ => ⟨_, rfl, ite2 (fun h => nomatch h) (fun _ => no)⟩)⟩
theorem ok_rounds {f fD : Addr} {fd fdD : FuncData} (F : Fun K "_law_rounds" "_law_rounds" s_law_rounds f fd) (D : FnOk P w K mg base (LG.CX P w) 1 fD fdD ["cell"] spDice) (kD : PySem.W.keepIn K (.ref fD) = true) (bD : Binds K fdD ["cell"] []) (mD : mg "_law_dice" = some (.ref fD)) : FnOk P w K mg base (LG.CX P w) 2 f fd ["script", "most"] (spRounds K) := by
  refine fun_okG F sc_law_rounds (fun vs H Q E h => by obtain ⟨a, ns, rfl, _⟩ := h; rfl) (fun cdv A outer s H vs Q E hr h => ?_)
  obtain ⟨a, ns, rfl, hS, k⟩ := h
  have hu : (A.deeper (PyProof.Rows.envOfC "_law_rounds" (defScope s_law_rounds) s.heap.objs.size f cdv)).units + 64 < cLine := by have := hr.un; omega
  refine ⟨_, pss_cons (ps_set (i := 2) sc_law_rounds.nd rfl (Or.inl rfl) (pe_slice sl_list (pv 0) po_none (po_some (pv 1))))
    (pss_cons (ps_if (pt_cmpR (op_eqD hu) (pv 2) (pe_lst pa_nil) (nomark _)) (pss_one (ps_set (i := 2) sc_law_rounds.nd rfl (Or.inl rfl) (pe_lst (pa_cons pe_int pa_nil)))) pss_nil)
      (pss_one (ps_ret (pe_lc (own := [("cell", 3)]) (g := gName 3) (tt := tYes) rfl sc_law_rounds.nd (pi_list (pv 2)) (blkOk_by (N := ["script", "most", "cells", "cell"]) (sc := defScope s_law_rounds) (by decide +kernel)) (fun _ _ _ _ _ => pg_name (i := 3) sc_law_rounds.nd rfl (Or.inl rfl)) (fun _ _ _ _ _ => pts_nil)
        (fun _ _ _ _ _ => pe_callS D hr rfl mD kD bD (fun sg => DL.passAt takes0D sg) (pa_cons (pv 3) pa_nil)))))), ?_⟩
  have fin : ∀ (H1 : Hp) (l : Addr) (c : Int), (∀ b o, H b = some o → H1 b = some o) → H1 l = some (.lst [.int c]) →
      (tRet (tLc (iList K (tVar 2)) (gName 3) tYes (tCallS spDice (WE W0) (tCons (tVar 3) tNil)) [3])) { nx := fun x H' => Q V.non H', rt := Q } [some (.ref a), some (.int 1), some (.ref l), none] H1 := fun H1 l c e1 hl => by
    refine ⟨_, rfl, l, rfl, ⟨_, SqL.of hl⟩, fun D hD => ?_⟩
    have hlD : l ≠ D := ne_of_none hl hD
    refine lc_list (xs := [V.int c]) (fun i H' => (∀ b o, H1 b = some o → H' b = some o) ∧ ((i = 0 ∧ H' D = some (.lst [])) ∨ (i = 1 ∧ ∃ (d : Addr) (x y z : Int), D ≠ d ∧ H' D = some (.lst [.ref d]) ∧ H' d = some (.lst [.int x, .int y, .int z])))) ⟨fun b o e => by rw [upd_ne (ne_of_none e hD)]; exact e, .inl ⟨rfl, upd_same⟩⟩
      (fun i H' _ p => SqL.of (p.1 _ _ hl)) (fun i x H' hx p => ?_) fun H' p => ?_
    · obtain ⟨p1, p2⟩ := p
      cases i with
      | succ i => simp at hx
      | zero =>
        cases hx
        rcases p2 with ⟨_, hDl⟩ | ⟨h, _⟩
        case inr => cases h
        refine ⟨rfl, _, rfl, c, rfl, fun d x y z hd => ?_⟩
        have hDd : D ≠ d := ne_of_none hDl hd
        refine ⟨[], by rw [upd_ne hDd]; exact hDl, by rw [sizeLine_eq]; decide, fun b o e => ?_, .inr ⟨rfl, d, x, y, z, hDd, upd_same, by rw [upd_ne hDd.symm]; exact upd_same⟩⟩
        rw [upd_ne (ne_of_none e hD), upd_ne (ne_of_none (p1 b o e) hd)]
        exact p1 b o e
    · obtain ⟨p1, p2⟩ := p
      rcases p2 with ⟨h, _⟩ | ⟨_, d, x, y, z, n, h1, h2⟩
      · cases h
      · exact k H' D d x y z (fun b o e => p1 b o (e1 b o e)) n h1 h2
  refine ⟨_, rfl, _, rfl, _, rfl, a, _, rfl, hS, fun l hl => ?_⟩
  have dnil : ∀ {H2 : Hp} {q : Addr}, H2 q = some (.lst []) → Dp K H2 (.ref q) (.list []) := fun h => .lst (SqL.of h) .nil
  cases ns with
  | nil =>
    refine ⟨_, rfl, Nat.zero_le _, fun l2 hl2 => ⟨.list [], .list [], dnil ?_, dnil upd_same, by decide, by decide, _, rfl, ite2 (fun _ => ⟨by rw [sizeLine_eq]; decide, fun l3 hl3 => fin _ l3 0 (fun b o e => ?_) upd_same⟩) (fun h => absurd rfl h)⟩⟩
    · have n : l ≠ l2 := fun e => by rw [← e, upd_same] at hl2; cases hl2
      rw [upd_ne n]; exact upd_same
    · have e1 := (upd_ne (o := .lst (cutV ([].map V.int) none (some 1))) (ne_of_none e hl)).trans e
      have e2 := (upd_ne (o := .lst []) (ne_of_none e1 hl2)).trans e1
      exact (upd_ne (o := .lst [V.int 0]) (ne_of_none e2 hl3)).trans e2
  | cons c r =>
    have cv : cutV ((c :: r).map V.int) none (some 1) = [V.int c] := by
      show (List.take (HT.sIx _ _ (some ((1 : Nat) : Int)) - 0) _) = _
      rw [HT.sIx_nat, HT.sIx_none]
      simp
    rw [cv] at *
    refine ⟨_, rfl, Nat.zero_le _, fun l2 hl2 => ⟨.list [.int c], .list [], .lst (xs := [V.int c]) (SqL.of ?_) (.cons (.int c) .nil), dnil upd_same, rfl, by decide, _, rfl, ite2 (fun h => nomatch h) (fun _ => fin _ l c (fun b o e => ?_) ?_)⟩⟩
    · have n : l ≠ l2 := fun e => by rw [← e, upd_same] at hl2; cases hl2
      rw [upd_ne n]; exact upd_same
    · have e1 := (upd_ne (o := .lst [V.int c]) (ne_of_none e hl)).trans e
      exact (upd_ne (o := .lst []) (ne_of_none e1 hl2)).trans e1
    · have n : l ≠ l2 := fun e => by rw [← e, upd_same] at hl2; cases hl2
      rw [upd_ne n]; exact upd_same
theorem tm_check_table : (a.t_check_table, ("check_table" : Str) ++ ".<locals>.") ∈ tabsA a := by unfold tabsA; simp
theorem tm_keys_left : (a.t_keys_left, ("keys_left" : Str) ++ ".<locals>.") ∈ tabsA a := by unfold tabsA; simp
theorem tm_safe_days : (a.t_safe_days, ("safe_days" : Str) ++ ".<locals>.") ∈ tabsA a := by unfold tabsA; simp
theorem tm_law_rest1 : (a.t_law_rest1, ("_law_rest1" : Str) ++ ".<locals>.") ∈ tabsA a := by unfold tabsA; simp
theorem tm_law : (a.t_law, ("law" : Str) ++ ".<locals>.") ∈ tabsA a := by unfold tabsA; simp
theorem tabs_u (T : Txt P w K mg base a) : ∀ p ∈ tabsA a, ∀ q ∈ tabsA a, p.1 = q.1 → p.2 = q.2 := by
  intro p hp q hq e
  unfold tabsA at hp hq
  simp only [List.mem_cons, List.not_mem_nil, or_false] at hp hq
  rcases hp with rfl | rfl | rfl | rfl | rfl
  · rcases hq with rfl | rfl | rfl | rfl | rfl
    · rfl
    · exact (T.ne_check_table_keys_left e).elim
    · exact (T.ne_check_table_safe_days e).elim
    · exact (T.ne_check_table_law_rest1 e).elim
    · exact (T.ne_check_table_law e).elim
  · rcases hq with rfl | rfl | rfl | rfl | rfl
    · exact (T.ne_check_table_keys_left e.symm).elim
    · rfl
    · exact (T.ne_keys_left_safe_days e).elim
    · exact (T.ne_keys_left_law_rest1 e).elim
    · exact (T.ne_keys_left_law e).elim
  · rcases hq with rfl | rfl | rfl | rfl | rfl
    · exact (T.ne_check_table_safe_days e.symm).elim
    · exact (T.ne_keys_left_safe_days e.symm).elim
    · rfl
    · exact (T.ne_safe_days_law_rest1 e).elim
    · exact (T.ne_safe_days_law e).elim
  · rcases hq with rfl | rfl | rfl | rfl | rfl
    · exact (T.ne_check_table_law_rest1 e.symm).elim
    · exact (T.ne_keys_left_law_rest1 e.symm).elim
    · exact (T.ne_safe_days_law_rest1 e.symm).elim
    · rfl
    · exact (T.ne_law_rest1_law e).elim
  · rcases hq with rfl | rfl | rfl | rfl | rfl
    · exact (T.ne_check_table_law e.symm).elim
    · exact (T.ne_keys_left_law e.symm).elim
    · exact (T.ne_safe_days_law e.symm).elim
    · exact (T.ne_law_rest1_law e.symm).elim
    · rfl
theorem gives_told {X : Cx} {cdg : Value} {g : Addr} (T : Txt P w K mg base a) (hK : X.K = K) (hm : X.mg = mg) : GivesN X ["what"] "_law_told" (defScope s_law_told) g cdg (defBody s_law_told) "what" (TTm X.K (toldL.map fun p => ((gm K w a xs).xcls p.1, (⟨p.2.toArray⟩ : Str)))) := by
  subst hm
  exact told_many (X := X) (.cons (by rfl) T.x_BadBook.2.1 (by decide) (.cons (by rfl) T.x_BadFlag.2.1 (by decide) (.cons (by rfl) T.x_BadFleet.2.1 (by decide) (.cons (by rfl) T.x_BadHoist.2.1 (by decide) (.cons (by rfl) T.x_Foul (by decide) (.cons (by rfl) T.x_NoWay.2.1 (by decide) (.cons (by rfl) T.x_TooLarge.2.1 (by decide) (.cons (by rfl) T.x_Unclear (by decide) (.cons (by rfl) T.x_BadText (by decide) .nil))))))))) (fun _ => rfl)
theorem k_law_roll (T : Txt P w K mg base a) : FnD P w K mg base (gm K w a xs) 1 "_law_roll" a.f_law_roll 2 rollD := by
  obtain ⟨fd, F, bd⟩ := T.e_law_roll
  exact ⟨⟨fd, _, rfl, ok_roll F T.b_int, bd⟩, rollD_len, F.kp, T.g_law_roll⟩
def F_check_table : LE → R Out :=
    (seqS (ifS (orT (cmpT eqD (callE lenX (acons (var 0) anil)) (cst (.int 0))) (orT (cmpT gtD (callE lenX (acons (var 0) anil)) (cst (.int 12))) (valT (anyE true (itB (var 0)) (gN 1) yesT (opE neD (callE lenX (acons (var 1) anil)) (callE lenX (acons (subE (var 0) (cst (.int 0))) anil))) [1]))))
    (errS ⟨3, .non⟩)
    skipS)
    (ifS (notT (chainT (cst (.int 1)) (callE lenX (acons (subE (var 0) (cst (.int 0))) anil)) (cst (.int 6)) leD leD))
    (errS ⟨3, .non⟩)
    skipS))
def D_check_table : List D → R D := runF 1 2 F_check_table
theorem k_check_table (T : Txt P w K mg base a) : FnD P w K mg base (gm K w a xs) 2 "check_table" a.f_check_table 1 D_check_table := by
  obtain ⟨oc0, od0, kV0, doc0, pm0, an0, cdv0, ct0, osl0, lk0, cd0, kp0, bd0⟩ := T.l_told
  exact fnD_C T.e_check_table sc_check_table T.g_check_table rfl rfl fun A outer s H E hr =>
    (dss_cons (ds_if (dt_w (dw_or (dt_cmp (op_eq_d rfl (huD64 hr)) (DE.p (de_callB (cd_lenX rfl) T.b_len rfl (dap_cons (DE.p (de_var 0)) dap_nil))) (DE.p de_int)) (dw_or (dt_cmp (op_gt_d) (DE.p (de_callB (cd_lenX rfl) T.b_len rfl (dap_cons (DE.p (de_var 0)) dap_nil))) (DE.p de_int)) (dw_or1 (dt_val (de_any (k := 0) (own := [("row", 1)]) (hr.mono (by decide)) rfl T.b_any (mk_def T.tb_check_table rfl tm_check_table) sc_check_table.nd (DI.e (di_anyB rfl (de_var 0))) (blkOk_by (N := ["table", "row"]) (sc := defScope s_check_table) (by decide +kernel)) (genOk_by (by decide +kernel)) (fun _ _ _ _ _ _ _ _ hrg mk1_ => (dg_name 1 sc_check_table.nd)) (fun _ _ _ _ _ _ _ _ hrg mk1_ => dts_nil) (fun _ _ _ _ _ _ _ _ hrg mk1_ => (de_cmp (op_ne_d rfl (huD64 hrg)) (DE.p (de_callB (cd_lenX rfl) T.b_len rfl (dap_cons (DE.p (de_var 1)) dap_nil))) (DE.p (de_callB (cd_lenX rfl) T.b_len rfl (dap_cons (DE.p (de_sub rfl rfl (huD hrg) (DE.p (de_var 0)) (DE.p de_int) fun _ _ => rfl)) dap_nil))))) (by decide)))))))
    (dss_one (ds_raise 3 takes_cxD rfl PySem.F.excBase_ValueError rfl rfl T.x_BadBook.1 T.x_BadBook.2.1 T.x_BadBook.2.2.1 (raises_own T.x_BadBook.2.2.2.1 T.x_BadBook.2.2.2.2)))
    dss_nil)
    (dss_one (ds_if (dt_not (dt_chain (op_le_d) (op_le_d) (DE.p de_int) (DE.p (de_callB (cd_lenX rfl) T.b_len rfl (dap_cons (DE.p (de_sub rfl rfl (huD hr) (DE.p (de_var 0)) (DE.p de_int) fun _ _ => rfl)) dap_nil))) (DE.p de_int)))
    (dss_one (ds_raise 3 takes_cxD rfl PySem.F.excBase_ValueError rfl rfl T.x_BadBook.1 T.x_BadBook.2.1 T.x_BadBook.2.2.1 (raises_own T.x_BadBook.2.2.2.1 T.x_BadBook.2.2.2.2)))
    dss_nil)))
def F_reply_of : LE → R Out :=
    (seqS (dropS (callE D_check_table (acons (var 0) anil)))
    (seqS (ifS (orT (notT (chainT (cst (.int 0)) (var 1) (callE lenX (acons (var 0) anil)) leD ltD)) (notT (chainT (cst (.int 0)) (var 2) (callE lenX (acons (subE (var 0) (cst (.int 0))) anil)) leD ltD)))
    (errS ⟨3, .non⟩)
    skipS)
    (retS (subE (subE (var 0) (var 1)) (var 2)))))
def D_reply_of : List D → R D := runF 3 3 F_reply_of
theorem k_reply_of (T : Txt P w K mg base a) : FnD P w K mg base (gm K w a xs) 3 "reply_of" a.f_reply_of 3 D_reply_of := by
  exact fnD_E T.e_reply_of sc_reply_of T.g_reply_of rfl rfl fun cdv A outer s H E hr =>
    (dss_cons (ds_expr (de_call (k_check_table T) (hr.mono (by decide)) takes_cxD (da_cons (de_var 0) da_nil)))
    (dss_cons (ds_if (dt_w (dw_or (dt_not (dt_chain (op_le_d) (op_lt_d) (DE.p de_int) (DE.p (de_var 1)) (DE.p (de_callB (cd_lenX rfl) T.b_len rfl (dap_cons (DE.p (de_var 0)) dap_nil))))) (dw_or1 (dt_not (dt_chain (op_le_d) (op_lt_d) (DE.p de_int) (DE.p (de_var 2)) (DE.p (de_callB (cd_lenX rfl) T.b_len rfl (dap_cons (DE.p (de_sub rfl rfl (huD hr) (DE.p (de_var 0)) (DE.p de_int) fun _ _ => rfl)) dap_nil))))))))
    (dss_one (ds_raise 3 takes_cxD rfl PySem.F.excBase_ValueError rfl rfl T.x_BadBook.1 T.x_BadBook.2.1 T.x_BadBook.2.2.1 (raises_own T.x_BadBook.2.2.2.1 T.x_BadBook.2.2.2.2)))
    dss_nil)
    (dss_one (ds_ret (de_sub rfl rfl (huD hr) (DE.p (de_sub rfl rfl (huD hr) (DE.p (de_var 0)) (DE.p (de_var 1)) fun _ _ => rfl)) (DE.p (de_var 2)) fun _ _ => rfl)))))
def F_keys_left : LE → R Out :=
    (seqS (dropS (callE D_check_table (acons (var 0) anil)))
    (retS (callE tupleD (acons (lE (compF (rng1E (acons (callE lenX (acons (var 0) anil)) anil)) (gN 2) (valT (anyE false (itB (var 1)) (gTup_ 2 (gCons_ (gN 3) (gCons_ (gN 4) gNil_))) yesT (opE eqD (callE D_reply_of (acons (var 0) (acons (var 2) (acons (var 3) anil)))) (var 4)) [3, 4])) (var 2) [2])) anil))))
def D_keys_left : List D → R D := runF 2 5 F_keys_left
theorem k_keys_left (T : Txt P w K mg base a) : FnD P w K mg base (gm K w a xs) 5 "keys_left" a.f_keys_left 2 D_keys_left := by
  obtain ⟨oc0, od0, kV0, doc0, pm0, an0, cdv0, ct0, osl0, lk0, cd0, kp0, bd0⟩ := T.l_told
  exact fnD_C T.e_keys_left sc_keys_left T.g_keys_left rfl rfl fun A outer s H E hr =>
    (dss_cons (ds_expr (de_call (k_check_table T) (hr.mono (by decide)) takes_cxD (da_cons (de_var 0) da_nil)))
    (dss_one (ds_ret (de_callT (cd_tuple rfl) T.b_tuple rfl (dap_cons (DE.p (DF.e (df_comp (own := [("key", 2)]) rfl sc_keys_left.nd (DI.e (di_rng1 rfl T.b_range (da_cons (de_callB (cd_lenX rfl) T.b_len rfl (dap_cons (DE.p (de_var 0)) dap_nil)) da_nil))) (blkOk_by (N := ["table", "heard", "key", "one", "reply"]) (sc := defScope s_keys_left) (by decide +kernel)) (fun _ _ _ _ _ => (dg_name 2 sc_keys_left.nd)) (fun _ _ _ _ _ => (dts_one (dt_val (de_all (k := 3) (own := [("one", 3), ("reply", 4)]) (hr.mono (by decide)) rfl T.b_all (mk_def T.tb_keys_left rfl tm_keys_left) sc_keys_left.nd (DI.e (di_anyB rfl (de_var 1))) (blkOk_by (N := ["table", "heard", "key", "one", "reply"]) (sc := _) (by rfl)) (genOk_by (by decide +kernel)) (fun _ _ _ _ _ _ _ _ hrg mk1_ => (dg_tup rfl rfl (dgs_cons (dg_name 3 sc_keys_left.nd) (dgs_cons (dg_name 4 sc_keys_left.nd) dgs_nil)))) (fun _ _ _ _ _ _ _ _ hrg mk1_ => dts_nil) (fun _ _ _ _ _ _ _ _ hrg mk1_ => (de_cmp (op_eq_d rfl (huD64 hrg)) (DE.p (de_call (k_reply_of T) (hrg.mono (by decide)) takes0D (da_cons (de_var 0) (da_cons (de_var 2) (da_cons (de_var 3) da_nil))))) (DE.p (de_var 4)))) (by decide))))) (fun _ _ _ _ _ => (de_var 2)) (by decide)))) dap_nil)))))
def F_key_told : LE → R Out :=
    (seqS (setK 2 (valK (callE D_keys_left (acons (var 0) (acons (var 1) anil)))))
    (seqS (ifS (cmpT eqD (var 2) (tupE anil))
    (errS ⟨7, .non⟩)
    skipS)
    (seqS (ifS (cmpT gtD (callE lenX (acons (var 2) anil)) (cst (.int 1)))
    (errES ⟨6, .non⟩ (callE lenX (acons (var 2) anil)))
    skipS)
    (retS (subE (var 2) (cst (.int 0)))))))
def D_key_told : List D → R D := runF 2 3 F_key_told
theorem k_key_told (T : Txt P w K mg base a) : FnD P w K mg base (gm K w a xs) 6 "key_told" a.f_key_told 2 D_key_told := by
  exact fnD_E T.e_key_told sc_key_told T.g_key_told rfl rfl fun cdv A outer s H E hr =>
    (dss_cons (ds_set 2 (DE.k (de_call (k_keys_left T) (hr.mono (by decide)) takes_cxD (da_cons (de_var 0) (da_cons (de_var 1) da_nil)))) (by decide) sc_key_told.nd)
    (dss_cons (ds_if (dt_cmp (op_eq_d rfl (huD64 hr)) (DE.p (de_var 2)) (DE.p (de_tup da_nil)))
    (dss_one (ds_raise 7 takes_cxD rfl PySem.F.excBase_ValueError rfl rfl T.x_NoWay.1 T.x_NoWay.2.1 T.x_NoWay.2.2.1 (raises_own T.x_NoWay.2.2.2.1 T.x_NoWay.2.2.2.2)))
    dss_nil)
    (dss_cons (ds_if (dt_cmp (op_gt_d) (DE.p (de_callB (cd_lenX rfl) T.b_len rfl (dap_cons (DE.p (de_var 2)) dap_nil))) (DE.p de_int))
    (dss_one (ds_raiseS 6 takes_cxD rfl T.s_Unclear rfl (hr.mono (by decide)) T.x_Unclear (de_callB (cd_lenX rfl) T.b_len rfl (dap_cons (DE.p (de_var 2)) dap_nil))))
    dss_nil)
    (dss_one (ds_ret (de_sub rfl rfl (huD hr) (DE.p (de_var 2)) (DE.p de_int) fun _ _ => rfl))))))
def F_parts_by : LE → R Out :=
    (seqS (setK 3 nodic)
    (seqS (forS (itB (var 1)) (gN 4)
    (seqS (setK 5 (valK (callE D_reply_of (acons (var 0) (acons (var 4) (acons (var 2) anil))))))
    (stodS 3 (opE addD (get2E (varP 3) (var 5) (tupE anil)) (tupE (acons (var 4) anil))) (var 5))))
    (retS (callE dictD (acons (lE (compF (itB (lE (callF sortedT (acons (varP 3) anil)))) (gN 5) yesT (tupE (acons (var 5) (acons (subE (varP 3) (var 5)) anil))) [5])) anil)))))
def D_parts_by : List D → R D := runF 3 6 F_parts_by
theorem k_parts_by (T : Txt P w K mg base a) : FnD P w K mg base (gm K w a xs) 4 "parts_by" a.f_parts_by 3 D_parts_by := by
  exact fnD_E T.e_parts_by sc_parts_by T.g_parts_by rfl rfl fun cdv A outer s H E hr =>
    (dss_cons (ds_set 3 dk_nodic (by decide) sc_parts_by.nd)
    (dss_cons (ds_for owns_cxD rfl (di_anyB rfl (de_var 1)) (dg_name 4 sc_parts_by.nd)
    (dss_cons (ds_set 5 (DE.k (de_call (k_reply_of T) (hr.mono (by decide)) takes_cxD (da_cons (de_var 0) (da_cons (de_var 4) (da_cons (de_var 2) da_nil))))) (by decide) sc_parts_by.nd)
    (dss_one (ds_stored 3 (hu1 hr) (de_op (op_add_d rfl) (DE.p (de_get2 (hu1 hr) (dp_var 3) (DE.p (de_var 5)) (de_tup da_nil))) (DE.p (de_tup (da_cons (de_var 4) da_nil)))) (de_var 5)))))
    (dss_one (ds_ret (de_callT (cd_dict rfl rfl) T.b_dict rfl (dap_cons (DE.p (DF.e (df_comp (own := [("reply", 5)]) rfl sc_parts_by.nd (DI.e (di_anyB rfl (DF.e (df_callB (cf_sortedT rfl rfl (huD hr)) T.b_sorted rfl (dap_cons (dp_var 3) dap_nil))))) (blkOk_by (N := ["table", "keys", "challenge", "found", "key", "reply"]) (sc := defScope s_parts_by) (by decide +kernel)) (fun _ _ _ _ _ => (dg_name 5 sc_parts_by.nd)) (fun _ _ _ _ _ => dts_nil) (fun _ _ _ _ _ => (de_tup (da_cons (de_var 5) (da_cons (de_sub rfl rfl (huD hr) (dp_var 3) (DE.p (de_var 5)) fun _ _ => rfl) da_nil)))) (by decide)))) dap_nil))))))
def F_are_unlike : LE → R Out :=
    (seqS (dropS (callE D_check_table (acons (var 0) anil)))
    (retS (opE eqD (lenDictE (lE (compF (itB (var 0)) (gN 1) yesT (tupE (acons (callE tupleD (acons (var 1) anil)) (acons (cst (.int 1)) anil))) [1]))) (callE lenX (acons (var 0) anil)))))
def D_are_unlike : List D → R D := runF 1 2 F_are_unlike
theorem k_are_unlike (T : Txt P w K mg base a) : FnD P w K mg base (gm K w a xs) 3 "are_unlike" a.f_are_unlike 1 D_are_unlike := by
  exact fnD_E T.e_are_unlike sc_are_unlike T.g_are_unlike rfl rfl fun cdv A outer s H E hr =>
    (dss_cons (ds_expr (de_call (k_check_table T) (hr.mono (by decide)) takes_cxD (da_cons (de_var 0) da_nil)))
    (dss_one (ds_ret (de_cmp (op_eq_d rfl (huD64 hr)) (DE.p (de_lenDict rfl rfl (huD hr) rfl T.b_len rfl T.b_dict (DF.e (df_comp (own := [("row", 1)]) rfl sc_are_unlike.nd (DI.e (di_anyB rfl (de_var 0))) (blkOk_by (N := ["table", "row"]) (sc := defScope s_are_unlike) (by decide +kernel)) (fun _ _ _ _ _ => (dg_name 1 sc_are_unlike.nd)) (fun _ _ _ _ _ => dts_nil) (fun _ _ _ _ _ => (de_tup (da_cons (de_callT (cd_tuple rfl) T.b_tuple rfl (dap_cons (DE.p (de_var 1)) dap_nil)) (da_cons de_int da_nil)))) (by decide))))) (DE.p (de_callB (cd_lenX rfl) T.b_len rfl (dap_cons (DE.p (de_var 0)) dap_nil)))))))
def F_fewest_questions (rec_ : List D → R D) : LE → R Out :=
    (seqS (ifS (cmpT leD (callE lenX (acons (var 1) anil)) (cst (.int 1)))
    (retS (cst (.int 0)))
    skipS)
    (seqS (setK 2 (valK (cst .non)))
    (seqS (forS (rng1E (acons (callE lenX (acons (subE (var 0) (cst (.int 0))) anil)) anil)) (gN 3)
    (seqS (setK 4 (valK (callE D_parts_by (acons (var 0) (acons (var 1) (acons (var 3) anil))))))
    (ifS (cmpT gtD (callE lenX (acons (var 4) anil)) (cst (.int 1)))
    (seqS (tryUS 0 excL
    (setK 5 (valK (opE addD (cst (.int 1)) (callE maxL (acons (lE (compX (itB (var 4)) (gN 6) yesT (callE rec_ (acons (var 0) (acons (subE (var 4) (var 6)) anil))) [6])) anil))))) [(7, (errS ⟨7, .non⟩))])
    (ifS (orT (valT (isNE (var 2))) (cmpT ltD (var 5) (var 2)))
    (setK 2 (valK (var 5)))
    skipS))
    skipS)))
    (seqS (ifS (valT (isNE (var 2)))
    (errS ⟨7, .non⟩)
    skipS)
    (retS (var 2))))))
def D_fewest_questions : Nat → List D → R D
  | 0 => runF 2 7 stuckS
  | k_ + 1 => runF 2 7 (F_fewest_questions (D_fewest_questions k_))
theorem k_fewest_questions (T : Txt P w K mg base a) : ∀ k_ : Nat, FnD P w K mg base (gm K w a xs) (5 + k_) "fewest_questions" a.f_fewest_questions 2 (D_fewest_questions k_)
  | 0 => fnD_E (k := 4) T.e_fewest_questions sc_fewest_questions T.g_fewest_questions rfl rfl fun cdv A outer s H E hr => dss_stuck
  | k_ + 1 => by
    have hrec_ := k_fewest_questions T k_
    exact fnD_E (k := 5 + k_) T.e_fewest_questions sc_fewest_questions T.g_fewest_questions rfl rfl fun cdv A outer s H E hr =>
    (dss_cons (ds_if (dt_cmp (op_le_d) (DE.p (de_callB (cd_lenX rfl) T.b_len rfl (dap_cons (DE.p (de_var 1)) dap_nil))) (DE.p de_int))
    (dss_one (ds_ret de_int))
    dss_nil)
    (dss_cons (ds_set 2 (DE.k de_non) (by decide) sc_fewest_questions.nd)
    (dss_cons (ds_for owns_cxD rfl (di_rng1 rfl T.b_range (da_cons (de_callB (cd_lenX rfl) T.b_len rfl (dap_cons (DE.p (de_sub rfl rfl (huD hr) (DE.p (de_var 0)) (DE.p de_int) fun _ _ => rfl)) dap_nil)) da_nil)) (dg_name 3 sc_fewest_questions.nd)
    (dss_cons (ds_set 4 (DE.k (de_call (k_parts_by T) (hr.mono (by omega)) takes_cxD (da_cons (de_var 0) (da_cons (de_var 1) (da_cons (de_var 3) da_nil))))) (by decide) sc_fewest_questions.nd)
    (dss_one (ds_if (dt_cmp (op_gt_d) (DE.p (de_callB (cd_lenX rfl) T.b_len rfl (dap_cons (DE.p (de_var 4)) dap_nil))) (DE.p de_int))
    (dss_cons (ds_tryU 0 excL (l := [(7, (errS ⟨7, .non⟩))]) (T.sub _) (by decide) rfl rfl (L2H.passesAt_of rfl) takes_cxD (fun _ _ _ tk1 ow1 => (dss_one (ds_set 5 (DE.k (de_op (op_add_d rfl) (DE.p de_int) (DE.p (de_callB (cd_max rfl rfl (huD hr)) T.b_max rfl (dap_cons (DE.p (DF.e (df_compXT (own := [("reply", 6)]) tk1 rfl sc_fewest_questions.nd (DI.e (di_anyB rfl (de_var 4))) (blkOk_by (N := ["table", "keys", "best", "challenge", "parts", "need", "reply"]) (sc := defScope s_fewest_questions) (by decide +kernel)) (fun _ _ _ _ _ _ => (dg_name 6 sc_fewest_questions.nd)) (fun _ _ _ _ _ _ => dts_nil) (fun _ _ _ _ _ _ => (de_call hrec_ hr takes_blkX (da_cons (de_var 0) (da_cons (de_sub rfl rfl (huD hr) (DE.p (de_var 4)) (DE.p (de_var 6)) fun _ _ => rfl) da_nil)))) (by decide)))) dap_nil))))) (by decide) sc_fewest_questions.nd))) (hds_cons (G := gm K w a _) (i := 7) rfl T.x_NoWay.2.1 (fun _ _ hot1 tkh1 => (dss_one (ds_raiseH 7 tkh1 hot1 PySem.F.excBase_ValueError rfl rfl T.x_NoWay.1 T.x_NoWay.2.1 T.x_NoWay.2.2.1 (raises_own T.x_NoWay.2.2.2.1 T.x_NoWay.2.2.2.2)))) hds_nil))
    (dss_one (ds_if (dt_w (dw_or (dt_isN (DE.p (de_var 2))) (dw_or1 (dt_cmp (op_lt_d) (DE.p (de_var 5)) (DE.p (de_var 2))))))
    (dss_one (ds_set 2 (DE.k (de_var 5)) (by decide) sc_fewest_questions.nd))
    dss_nil)))
    dss_nil))))
    (dss_cons (ds_if (dt_isN (DE.p (de_var 2)))
    (dss_one (ds_raise 7 takes_cxD rfl PySem.F.excBase_ValueError rfl rfl T.x_NoWay.1 T.x_NoWay.2.1 T.x_NoWay.2.2.1 (raises_own T.x_NoWay.2.2.2.1 T.x_NoWay.2.2.2.2)))
    dss_nil)
    (dss_one (ds_ret (de_var 2)))))))
def F_law_depth (rec_ : List D → R D) : LE → R Out :=
    (seqS (ifS (cmpT ltD (callE lenX (acons (var 1) anil)) (cst (.int 2)))
    (retS (cst (.bl true)))
    skipS)
    (seqS (ifS (cmpT eqD (var 2) (cst (.int 0)))
    (retS (cst (.bl false)))
    skipS)
    (seqS (forS (rng1E (acons (callE lenX (acons (subE (var 0) (cst (.int 0))) anil)) anil)) (gN 3)
    (seqS (setK 4 (valK (lE (callF sortedT (acons (callE dictD (acons (lE (compF (itB (var 1)) (gN 5) yesT (tupE (acons (subE (subE (var 0) (var 5)) (var 3)) (acons (cst (.int 1)) anil))) [5])) anil)) anil)))))
    (ifS (andT (cmpT gtD (callE lenX (acons (var 4) anil)) (cst (.int 1))) (cmpT eqZ (lE (compF (itB (var 4)) (gN 6) (notT (valT (callE rec_ (acons (var 0) (acons (lE (compF (itB (var 1)) (gN 5) (cmpT eqD (subE (subE (var 0) (var 5)) (var 3)) (var 6)) (var 5) [5])) (acons (opE subD (var 2) (cst (.int 1))) anil)))))) (cst (.int 1)) [6])) (lE (lstE anil))))
    (retS (cst (.bl true)))
    skipS)))
    (retS (cst (.bl false))))))
def D_law_depth : Nat → List D → R D
  | 0 => runF 3 7 stuckS
  | k_ + 1 => runF 3 7 (F_law_depth (D_law_depth k_))
theorem k_law_depth (T : Txt P w K mg base a) : ∀ k_ : Nat, FnD P w K mg base (gm K w a xs) (1 + k_) "_law_depth" a.f_law_depth 3 (D_law_depth k_)
  | 0 => fnD_E (k := 0) T.e_law_depth sc_law_depth T.g_law_depth rfl rfl fun cdv A outer s H E hr => dss_stuck
  | k_ + 1 => by
    have hrec_ := k_law_depth T k_
    exact fnD_E (k := 1 + k_) T.e_law_depth sc_law_depth T.g_law_depth rfl rfl fun cdv A outer s H E hr =>
    (dss_cons (ds_if (dt_cmp (op_lt_d) (DE.p (de_callB (cd_lenX rfl) T.b_len rfl (dap_cons (DE.p (de_var 1)) dap_nil))) (DE.p de_int))
    (dss_one (ds_ret de_bl))
    dss_nil)
    (dss_cons (ds_if (dt_cmp (op_eq_d rfl (huD64 hr)) (DE.p (de_var 2)) (DE.p de_int))
    (dss_one (ds_ret de_bl))
    dss_nil)
    (dss_cons (ds_for owns_cxD rfl (di_rng1 rfl T.b_range (da_cons (de_callB (cd_lenX rfl) T.b_len rfl (dap_cons (DE.p (de_sub rfl rfl (huD hr) (DE.p (de_var 0)) (DE.p de_int) fun _ _ => rfl)) dap_nil)) da_nil)) (dg_name 3 sc_law_depth.nd)
    (dss_cons (ds_set 4 (DE.k (DF.e (df_callB (cf_sortedT rfl rfl (huD hr)) T.b_sorted rfl (dap_cons (DE.p (de_callT (cd_dict rfl rfl) T.b_dict rfl (dap_cons (DE.p (DF.e (df_comp (own := [("key", 5)]) rfl sc_law_depth.nd (DI.e (di_anyB rfl (de_var 1))) (blkOk_by (N := ["table", "keys", "most", "one", "replies", "key", "reply"]) (sc := defScope s_law_depth) (by decide +kernel)) (fun _ _ _ _ _ => (dg_name 5 sc_law_depth.nd)) (fun _ _ _ _ _ => dts_nil) (fun _ _ _ _ _ => (de_tup (da_cons (de_sub rfl rfl (huD hr) (DE.p (de_sub rfl rfl (huD hr) (DE.p (de_var 0)) (DE.p (de_var 5)) fun _ _ => rfl)) (DE.p (de_var 3)) fun _ _ => rfl) (da_cons de_int da_nil)))) (by decide)))) dap_nil))) dap_nil)))) (by decide) sc_law_depth.nd)
    (dss_one (ds_if (dt_w (dw_and (dt_cmp (op_gt_d) (DE.p (de_callB (cd_lenX rfl) T.b_len rfl (dap_cons (DE.p (de_var 4)) dap_nil))) (DE.p de_int)) (dw_and1 (dt_cmp (op_eqZ_d rfl (huD64 hr)) (DE.p (DF.e (df_comp (own := [("reply", 6)]) rfl sc_law_depth.nd (DI.e (di_anyB rfl (de_var 4))) (blkOk_by (N := ["table", "keys", "most", "one", "replies", "key", "reply"]) (sc := defScope s_law_depth) (by decide +kernel)) (fun _ _ _ _ _ => (dg_name 6 sc_law_depth.nd)) (fun _ _ _ _ _ => (dts_one (dt_not (dt_val (de_call hrec_ hr takes0D (da_cons (de_var 0) (da_cons (DF.e (df_comp (own := [("key", 5)]) rfl sc_law_depth.nd (DI.e (di_anyB rfl (de_var 1))) (blkOk_by (N := ["table", "keys", "most", "one", "replies", "key", "reply"]) (sc := _) (by rfl)) (fun _ _ _ _ _ => (dg_name 5 sc_law_depth.nd)) (fun _ _ _ _ _ => (dts_one (dt_cmp (op_eq_d rfl (huD64 hr)) (DE.p (de_sub rfl rfl (huD hr) (DE.p (de_sub rfl rfl (huD hr) (DE.p (de_var 0)) (DE.p (de_var 5)) fun _ _ => rfl)) (DE.p (de_var 3)) fun _ _ => rfl)) (DE.p (de_var 6))))) (fun _ _ _ _ _ => (de_var 5)) (by decide))) (da_cons (de_op (op_sub_d) (DE.p (de_var 2)) (DE.p de_int)) da_nil)))))))) (fun _ _ _ _ _ => de_int) (by decide)))) (DE.p (DF.e (df_lst da_nil)))))))
    (dss_one (ds_ret de_bl))
    dss_nil))))
    (dss_one (ds_ret de_bl)))))
def F_law_flat : LE → R Out :=
    (seqS (setK 1 (valK (lE (lstE anil))))
    (seqS (forS (itB (var 0)) (gN 2)
    (setK 1 (valK (opE addD (var 1) (var 2)))))
    (retS (var 1))))
def D_law_flat : List D → R D := runF 1 3 F_law_flat
theorem k_law_flat (T : Txt P w K mg base a) : FnD P w K mg base (gm K w a xs) 1 "_law_flat" a.f_law_flat 1 D_law_flat := by
  exact fnD_E T.e_law_flat sc_law_flat T.g_law_flat rfl rfl fun cdv A outer s H E hr =>
    (dss_cons (ds_set 1 (DE.k (DF.e (df_lst da_nil))) (by decide) sc_law_flat.nd)
    (dss_cons (ds_for owns_cxD rfl (di_anyB rfl (de_var 0)) (dg_name 2 sc_law_flat.nd)
    (dss_one (ds_set 1 (DE.k (de_op (op_add_d rfl) (DE.p (de_var 1)) (DE.p (de_var 2)))) (by decide) sc_law_flat.nd)))
    (dss_one (ds_ret (de_var 1)))))
def F_fixed_questions : LE → R Out :=
    (seqS (dropS (callE D_check_table (acons (var 0) anil)))
    (seqS (setK 1 (ownK (lstE (acons (tupE anil) anil))))
    (seqS (forS (rng1E (acons (opE addD (callE lenX (acons (subE (var 0) (cst (.int 0))) anil)) (cst (.int 1))) anil)) (gN 2)
    (seqS (frzS 1 (forS (itB (var 1)) (gN 3)
    (seqS (setK 4 (valK (dictTE (lE (compF (itB (var 0)) (gN 6) yesT (tupE (acons (callE tupleD (acons (lE (compF (itB (var 3)) (gN 5) yesT (subE (var 6) (var 5)) [5])) anil)) (acons (cst (.int 1)) anil))) [6])))))
    (ifS (cmpT eqD (callE lenTX (acons (var 4) anil)) (callE lenX (acons (var 0) anil)))
    (retS (var 3))
    skipS))))
    (setK 1 (ownK (compF2 (itA (varP 1)) (gN 3) yesT (rng1E (acons (callE lenX (acons (subE (var 0) (cst (.int 0))) anil)) anil)) (gN 5) (orT (cmpT eqD (var 3) (tupE anil)) (cmpT gtD (var 5) (subE (var 3) (negE (cst (.int 1)))))) (opE addD (var 3) (tupE (acons (var 5) anil))) [3, 5] [5])))))
    (errS ⟨7, .non⟩))))
def D_fixed_questions : List D → R D := runF 1 7 F_fixed_questions
theorem k_fixed_questions (T : Txt P w K mg base a) : FnD P w K mg base (gm K w a xs) 3 "fixed_questions" a.f_fixed_questions 1 D_fixed_questions := by
  exact fnD_E T.e_fixed_questions sc_fixed_questions T.g_fixed_questions rfl rfl fun cdv A outer s H E hr =>
    (dss_cons (ds_expr (de_call (k_check_table T) (hr.mono (by decide)) takes_cxD (da_cons (de_var 0) da_nil)))
    (dss_cons (ds_set 1 (DF.k (df_lst (da_cons (de_tup da_nil) da_nil))) (by decide) sc_fixed_questions.nd)
    (dss_cons (ds_for owns_cxD rfl (di_rng1 rfl T.b_range (da_cons (de_op (op_add_d rfl) (DE.p (de_callB (cd_lenX rfl) T.b_len rfl (dap_cons (DE.p (de_sub rfl rfl (huD hr) (DE.p (de_var 0)) (DE.p de_int) fun _ _ => rfl)) dap_nil))) (DE.p de_int)) da_nil)) (dg_name 2 sc_fixed_questions.nd)
    (dss_cons (DS.frz_ 1 (ds_for owns_cxD rfl (di_anyB rfl (de_var 1)) (dg_name 3 sc_fixed_questions.nd)
    (dss_cons (ds_set 4 (DE.k (de_dictT rfl rfl (huD hr) T.b_dict (DF.e (df_comp (own := [("line", 6)]) rfl sc_fixed_questions.nd (DI.e (di_anyB rfl (de_var 0))) (blkOk_by (N := ["table", "rows", "size", "row", "seen", "one", "line"]) (sc := defScope s_fixed_questions) (by decide +kernel)) (fun _ _ _ _ _ => (dg_name 6 sc_fixed_questions.nd)) (fun _ _ _ _ _ => dts_nil) (fun _ _ _ _ _ => (de_tup (da_cons (de_callT (cd_tuple rfl) T.b_tuple rfl (dap_cons (DE.p (DF.e (df_comp (own := [("one", 5)]) rfl sc_fixed_questions.nd (DI.e (di_anyB rfl (de_var 3))) (blkOk_by (N := ["table", "rows", "size", "row", "seen", "one", "line"]) (sc := _) (by rfl)) (fun _ _ _ _ _ => (dg_name 5 sc_fixed_questions.nd)) (fun _ _ _ _ _ => dts_nil) (fun _ _ _ _ _ => (de_sub rfl rfl (huD hr) (DE.p (de_var 6)) (DE.p (de_var 5)) fun _ _ => rfl)) (by decide)))) dap_nil)) (da_cons de_int da_nil)))) (by decide))))) (by decide) sc_fixed_questions.nd)
    (dss_one (ds_if (dt_cmp (op_eq_d rfl (huD64 hr)) (DE.p (de_callB (cd_lenTX) T.b_len rfl (dap_cons (DE.p (de_var 4)) dap_nil))) (DE.p (de_callB (cd_lenX rfl) T.b_len rfl (dap_cons (DE.p (de_var 0)) dap_nil))))
    (dss_one (ds_ret (de_var 3)))
    dss_nil)))))
    (dss_one (ds_setcomp2 1 (vs1 := [5]) (own := [("row", 3), ("one", 5)]) rfl sc_fixed_questions.nd (die_any rfl (dp_var 1)) (blkOk_by (N := ["table", "rows", "size", "row", "seen", "one", "line"]) (sc := defScope s_fixed_questions) (by decide +kernel)) (by decide) (fun _ _ _ _ _ => (dg_name 3 sc_fixed_questions.nd)) (fun _ _ _ _ _ => dts_nil) (fun _ _ _ _ _ => (di_rng1 rfl T.b_range (da_cons (de_callB (cd_lenX rfl) T.b_len rfl (dap_cons (DE.p (de_sub rfl rfl (huD hr) (DE.p (de_var 0)) (DE.p de_int) fun _ _ => rfl)) dap_nil)) da_nil))) (fun _ _ _ _ _ => (dg_name 5 sc_fixed_questions.nd)) (fun _ _ _ _ _ => (dts_one (dt_w (dw_or (dt_cmp (op_eq_d rfl (huD64 hr)) (DE.p (de_var 3)) (DE.p (de_tup da_nil))) (dw_or1 (dt_cmp (op_gt_d) (DE.p (de_var 5)) (DE.p (de_sub rfl rfl (huD hr) (DE.p (de_var 3)) (DE.p (de_neg (DE.p de_int))) fun _ _ => rfl)))))))) (fun _ _ _ _ _ => (de_op (op_add_d rfl) (DE.p (de_var 3)) (DE.p (de_tup (da_cons (de_var 5) da_nil))))) (by decide) (by decide) (by decide) (sw_true rfl rfl rfl (by decide +kernel))))))
    (dss_one (ds_raise 7 takes_cxD rfl PySem.F.excBase_ValueError rfl rfl T.x_NoWay.1 T.x_NoWay.2.1 T.x_NoWay.2.2.1 (raises_own T.x_NoWay.2.2.2.1 T.x_NoWay.2.2.2.2))))))
def F_guess_chance : LE → R Out :=
    (seqS (setK 3 (valK (callE D_keys_left (acons (var 0) (acons (var 1) anil)))))
    (seqS (ifS (cmpT eqD (var 3) (tupE anil))
    (errS ⟨7, .non⟩)
    skipS)
    (retS (tupE (acons (callE maxL (acons (lE (compF (itV (callE D_parts_by (acons (var 0) (acons (var 3) (acons (var 2) anil))))) (gN 4) yesT (callE lenX (acons (var 4) anil)) [4])) anil)) (acons (callE lenX (acons (var 3) anil)) anil))))))
def D_guess_chance : List D → R D := runF 3 5 F_guess_chance
theorem k_guess_chance (T : Txt P w K mg base a) : FnD P w K mg base (gm K w a xs) 6 "guess_chance" a.f_guess_chance 3 D_guess_chance := by
  exact fnD_E T.e_guess_chance sc_guess_chance T.g_guess_chance rfl rfl fun cdv A outer s H E hr =>
    (dss_cons (ds_set 3 (DE.k (de_call (k_keys_left T) (hr.mono (by decide)) takes_cxD (da_cons (de_var 0) (da_cons (de_var 1) da_nil)))) (by decide) sc_guess_chance.nd)
    (dss_cons (ds_if (dt_cmp (op_eq_d rfl (huD64 hr)) (DE.p (de_var 3)) (DE.p (de_tup da_nil)))
    (dss_one (ds_raise 7 takes_cxD rfl PySem.F.excBase_ValueError rfl rfl T.x_NoWay.1 T.x_NoWay.2.1 T.x_NoWay.2.2.1 (raises_own T.x_NoWay.2.2.2.1 T.x_NoWay.2.2.2.2)))
    dss_nil)
    (dss_one (ds_ret (de_tup (da_cons (de_callB (cd_max rfl rfl (huD hr)) T.b_max rfl (dap_cons (DE.p (DF.e (df_comp (own := [("row", 4)]) rfl sc_guess_chance.nd (DI.e (di_vals (de_call (k_parts_by T) (hr.mono (by decide)) takes_cxD (da_cons (de_var 0) (da_cons (de_var 3) (da_cons (de_var 2) da_nil)))))) (blkOk_by (N := ["table", "heard", "challenge", "left", "row"]) (sc := defScope s_guess_chance) (by decide +kernel)) (fun _ _ _ _ _ => (dg_name 4 sc_guess_chance.nd)) (fun _ _ _ _ _ => dts_nil) (fun _ _ _ _ _ => (de_callB (cd_lenX rfl) T.b_len rfl (dap_cons (DE.p (de_var 4)) dap_nil))) (by decide)))) dap_nil)) (da_cons (de_callB (cd_lenX rfl) T.b_len rfl (dap_cons (DE.p (de_var 3)) dap_nil)) da_nil)))))))
def F_day_key : LE → R Out :=
    (seqS (ifS (orT (cmpT ltD (var 3) (cst (.int 1))) (cmpT ltD (var 2) (cst (.int 0))))
    (errS ⟨3, .non⟩)
    skipS)
    (retS (opE modD (opE addD (var 0) (opE mulD (var 1) (var 2))) (var 3))))
def D_day_key : List D → R D := runF 4 4 F_day_key
theorem k_day_key (T : Txt P w K mg base a) : FnD P w K mg base (gm K w a xs) 1 "day_key" a.f_day_key 4 D_day_key := by
  exact fnD_E T.e_day_key sc_day_key T.g_day_key rfl rfl fun cdv A outer s H E hr =>
    (dss_cons (ds_if (dt_w (dw_or (dt_cmp (op_lt_d) (DE.p (de_var 3)) (DE.p de_int)) (dw_or1 (dt_cmp (op_lt_d) (DE.p (de_var 2)) (DE.p de_int)))))
    (dss_one (ds_raise 3 takes_cxD rfl PySem.F.excBase_ValueError rfl rfl T.x_BadBook.1 T.x_BadBook.2.1 T.x_BadBook.2.2.1 (raises_own T.x_BadBook.2.2.2.1 T.x_BadBook.2.2.2.2)))
    dss_nil)
    (dss_one (ds_ret (de_op (op_mod_d) (DE.p (de_op (op_add_d rfl) (DE.p (de_var 0)) (DE.p (de_op (op_mul_d) (DE.p (de_var 1)) (DE.p (de_var 2)))))) (DE.p (de_var 3))))))
def F_days_until_again : LE → R Out :=
    (seqS (ifS (cmpT ltD (var 1) (cst (.int 1)))
    (errS ⟨3, .non⟩)
    skipS)
    (seqS (setK 2 (valK (cst (.int 1))))
    (seqS (whileS 100 (cmpT neD (opE modD (opE mulD (var 2) (var 0)) (var 1)) (cst (.int 0)))
    (setK 2 (valK (opE iaddD (var 2) (cst (.int 1))))))
    (retS (var 2)))))
def D_days_until_again : List D → R D := runF 2 3 F_days_until_again
theorem k_days_until_again (T : Txt P w K mg base a) : FnD P w K mg base (gm K w a xs) 1 "days_until_again" a.f_days_until_again 2 D_days_until_again := by
  exact fnD_E T.e_days_until_again sc_days_until_again T.g_days_until_again rfl rfl fun cdv A outer s H E hr =>
    (dss_cons (ds_if (dt_cmp (op_lt_d) (DE.p (de_var 1)) (DE.p de_int))
    (dss_one (ds_raise 3 takes_cxD rfl PySem.F.excBase_ValueError rfl rfl T.x_BadBook.1 T.x_BadBook.2.1 T.x_BadBook.2.2.1 (raises_own T.x_BadBook.2.2.2.1 T.x_BadBook.2.2.2.2)))
    dss_nil)
    (dss_cons (ds_set 2 (DE.k de_int) (by decide) sc_days_until_again.nd)
    (dss_cons (ds_while 100 owns_cxD (dt_cmp (op_ne_d rfl (huD64 hr)) (DE.p (de_op (op_mod_d) (DE.p (de_op (op_mul_d) (DE.p (de_var 2)) (DE.p (de_var 0)))) (DE.p (de_var 1)))) (DE.p de_int))
    (dss_one (ds_aug 2 oi_add sc_days_until_again.nd de_int)))
    (dss_one (ds_ret (de_var 2))))))
def F_safe_days : LE → R Out :=
    (seqS (ifS (cmpT gtD (var 4) (cst (.int 60)))
    (errS ⟨8, .non⟩)
    skipS)
    (seqS (dropS (callE D_check_table (acons (var 0) anil)))
    (seqS (setK 5 (valK (callE lenX (acons (var 0) anil))))
    (seqS (setK 6 (ownK (compF (rng1E (acons (var 5) anil)) (gN 7) (valT (anyE false (itB (var 1)) (gTup_ 3 (gCons_ (gN 8) (gCons_ (gN 9) (gCons_ (gN 10) gNil_)))) yesT (opE eqD (callE D_reply_of (acons (var 0) (acons (callE D_day_key (acons (var 7) (acons (var 3) (acons (var 8) (acons (var 5) anil))))) (acons (var 9) anil)))) (var 10)) [8, 9, 10])) (var 7) [7])))
    (seqS (ifS (cmpT notInD (opE modD (var 2) (var 5)) (varP 6))
    (errS ⟨3, .non⟩)
    skipS)
    (seqS (setK 11 (ownK (lstE anil)))
    (seqS (forS (rng1E (acons (var 4) anil)) (gN 8)
    (ifS (cmpT gtD (lenDictE (lE (compF (itA (varP 6)) (gN 7) yesT (tupE (acons (callE D_day_key (acons (var 7) (acons (var 3) (acons (var 8) (acons (var 5) anil))))) (acons (cst (.int 1)) anil))) [7]))) (cst (.int 1)))
    (appS 11 (var 8))
    skipS))
    (retS (callE tupleD (acons (varP 11) anil))))))))))
def D_safe_days : List D → R D := runF 5 12 F_safe_days
theorem k_safe_days (T : Txt P w K mg base a) : FnD P w K mg base (gm K w a xs) 5 "safe_days" a.f_safe_days 5 D_safe_days := by
  obtain ⟨oc0, od0, kV0, doc0, pm0, an0, cdv0, ct0, osl0, lk0, cd0, kp0, bd0⟩ := T.l_told
  exact fnD_C T.e_safe_days sc_safe_days T.g_safe_days rfl rfl fun A outer s H E hr =>
    (dss_cons (ds_if (dt_cmp (op_gt_d) (DE.p (de_var 4)) (DE.p de_int))
    (dss_one (ds_raise 8 takes_cxD rfl PySem.F.excBase_ValueError rfl rfl T.x_TooLarge.1 T.x_TooLarge.2.1 T.x_TooLarge.2.2.1 (raises_own T.x_TooLarge.2.2.2.1 T.x_TooLarge.2.2.2.2)))
    dss_nil)
    (dss_cons (ds_expr (de_call (k_check_table T) (hr.mono (by decide)) takes_cxD (da_cons (de_var 0) da_nil)))
    (dss_cons (ds_set 5 (DE.k (de_callB (cd_lenX rfl) T.b_len rfl (dap_cons (DE.p (de_var 0)) dap_nil))) (by decide) sc_safe_days.nd)
    (dss_cons (ds_setcomp 6 (own := [("start", 7)]) rfl sc_safe_days.nd (DI.e (di_rng1 rfl T.b_range (da_cons (de_var 5) da_nil))) (blkOk_by (N := ["table", "heard", "first", "step", "days", "keys", "starts", "start", "day", "one", "reply", "found"]) (sc := defScope s_safe_days) (by decide +kernel)) (fun _ _ _ _ _ => (dg_name 7 sc_safe_days.nd)) (fun _ _ _ _ _ => (dts_one (dt_val (de_all (k := 3) (own := [("day", 8), ("one", 9), ("reply", 10)]) (hr.mono (by decide)) rfl T.b_all (mk_def T.tb_safe_days rfl tm_safe_days) sc_safe_days.nd (DI.e (di_anyB rfl (de_var 1))) (blkOk_by (N := ["table", "heard", "first", "step", "days", "keys", "starts", "start", "day", "one", "reply", "found"]) (sc := _) (by rfl)) (genOk_by (by decide +kernel)) (fun _ _ _ _ _ _ _ _ hrg mk1_ => (dg_tup rfl rfl (dgs_cons (dg_name 8 sc_safe_days.nd) (dgs_cons (dg_name 9 sc_safe_days.nd) (dgs_cons (dg_name 10 sc_safe_days.nd) dgs_nil))))) (fun _ _ _ _ _ _ _ _ hrg mk1_ => dts_nil) (fun _ _ _ _ _ _ _ _ hrg mk1_ => (de_cmp (op_eq_d rfl (huD64 hrg)) (DE.p (de_call (k_reply_of T) (hrg.mono (by decide)) takes0D (da_cons (de_var 0) (da_cons (de_call (k_day_key T) (hrg.mono (by decide)) takes0D (da_cons (de_var 7) (da_cons (de_var 3) (da_cons (de_var 8) (da_cons (de_var 5) da_nil))))) (da_cons (de_var 9) da_nil))))) (DE.p (de_var 10)))) (by decide))))) (fun _ _ _ _ _ => (de_var 7)) (by decide) (by decide) (sw_true rfl rfl rfl (by decide +kernel)))
    (dss_cons (ds_if (dt_cmp (op_notin_d rfl (huD hr)) (DE.p (de_op (op_mod_d) (DE.p (de_var 2)) (DE.p (de_var 5)))) (dp_var 6))
    (dss_one (ds_raise 3 takes_cxD rfl PySem.F.excBase_ValueError rfl rfl T.x_BadBook.1 T.x_BadBook.2.1 T.x_BadBook.2.2.1 (raises_own T.x_BadBook.2.2.2.1 T.x_BadBook.2.2.2.2)))
    dss_nil)
    (dss_cons (ds_set 11 (DF.k (df_lst da_nil)) (by decide) sc_safe_days.nd)
    (dss_cons (ds_for owns_cxD rfl (di_rng1 rfl T.b_range (da_cons (de_var 4) da_nil)) (dg_name 8 sc_safe_days.nd)
    (dss_one (ds_if (dt_cmp (op_gt_d) (DE.p (de_lenDict rfl rfl (huD hr) rfl T.b_len rfl T.b_dict (DF.e (df_comp (own := [("start", 7)]) rfl sc_safe_days.nd (die_any rfl (dp_var 6)) (blkOk_by (N := ["table", "heard", "first", "step", "days", "keys", "starts", "start", "day", "one", "reply", "found"]) (sc := defScope s_safe_days) (by decide +kernel)) (fun _ _ _ _ _ => (dg_name 7 sc_safe_days.nd)) (fun _ _ _ _ _ => dts_nil) (fun _ _ _ _ _ => (de_tup (da_cons (de_call (k_day_key T) (hr.mono (by decide)) takes0D (da_cons (de_var 7) (da_cons (de_var 3) (da_cons (de_var 8) (da_cons (de_var 5) da_nil))))) (da_cons de_int da_nil)))) (by decide))))) (DE.p de_int))
    (dss_one (ds_append 11 (de_var 8)))
    dss_nil)))
    (dss_one (ds_ret (de_callT (cd_tuple rfl) T.b_tuple rfl (dap_cons (dp_var 11) dap_nil)))))))))))
def F_turned_table : LE → R Out :=
    (seqS (dropS (callE D_check_table (acons (var 0) anil)))
    (retS (callE tupleD (acons (lE (compF (rng1E (acons (callE lenX (acons (subE (var 0) (cst (.int 0))) anil)) anil)) (gN 2) yesT (callE tupleD (acons (lE (compF (itB (var 0)) (gN 1) yesT (subE (var 1) (var 2)) [1])) anil)) [2])) anil))))
def D_turned_table : List D → R D := runF 1 3 F_turned_table
theorem k_turned_table (T : Txt P w K mg base a) : FnD P w K mg base (gm K w a xs) 3 "turned_table" a.f_turned_table 1 D_turned_table := by
  exact fnD_E T.e_turned_table sc_turned_table T.g_turned_table rfl rfl fun cdv A outer s H E hr =>
    (dss_cons (ds_expr (de_call (k_check_table T) (hr.mono (by decide)) takes_cxD (da_cons (de_var 0) da_nil)))
    (dss_one (ds_ret (de_callT (cd_tuple rfl) T.b_tuple rfl (dap_cons (DE.p (DF.e (df_comp (own := [("k", 2)]) rfl sc_turned_table.nd (DI.e (di_rng1 rfl T.b_range (da_cons (de_callB (cd_lenX rfl) T.b_len rfl (dap_cons (DE.p (de_sub rfl rfl (huD hr) (DE.p (de_var 0)) (DE.p de_int) fun _ _ => rfl)) dap_nil)) da_nil))) (blkOk_by (N := ["table", "row", "k"]) (sc := defScope s_turned_table) (by decide +kernel)) (fun _ _ _ _ _ => (dg_name 2 sc_turned_table.nd)) (fun _ _ _ _ _ => dts_nil) (fun _ _ _ _ _ => (de_callT (cd_tuple rfl) T.b_tuple rfl (dap_cons (DE.p (DF.e (df_comp (own := [("row", 1)]) rfl sc_turned_table.nd (DI.e (di_anyB rfl (de_var 0))) (blkOk_by (N := ["table", "row", "k"]) (sc := _) (by rfl)) (fun _ _ _ _ _ => (dg_name 1 sc_turned_table.nd)) (fun _ _ _ _ _ => dts_nil) (fun _ _ _ _ _ => (de_sub rfl rfl (huD hr) (DE.p (de_var 1)) (DE.p (de_var 2)) fun _ _ => rfl)) (by decide)))) dap_nil))) (by decide)))) dap_nil)))))
def F_changed_replies : LE → R Out :=
    (seqS (dropS (callE D_check_table (acons (var 0) anil)))
    (retS (callE tupleD (acons (lE (compF (itB (var 0)) (gN 3) yesT (callE tupleD (acons (lE (compF (itB (var 3)) (gN 2) yesT (get2E (var 1) (var 2) (var 2)) [2])) anil)) [3])) anil))))
def D_changed_replies : List D → R D := runF 2 4 F_changed_replies
theorem k_changed_replies (T : Txt P w K mg base a) : FnD P w K mg base (gm K w a xs) 3 "changed_replies" a.f_changed_replies 2 D_changed_replies := by
  exact fnD_E T.e_changed_replies sc_changed_replies T.g_changed_replies rfl rfl fun cdv A outer s H E hr =>
    (dss_cons (ds_expr (de_call (k_check_table T) (hr.mono (by decide)) takes_cxD (da_cons (de_var 0) da_nil)))
    (dss_one (ds_ret (de_callT (cd_tuple rfl) T.b_tuple rfl (dap_cons (DE.p (DF.e (df_comp (own := [("row", 3)]) rfl sc_changed_replies.nd (DI.e (di_anyB rfl (de_var 0))) (blkOk_by (N := ["table", "swap", "reply", "row"]) (sc := defScope s_changed_replies) (by decide +kernel)) (fun _ _ _ _ _ => (dg_name 3 sc_changed_replies.nd)) (fun _ _ _ _ _ => dts_nil) (fun _ _ _ _ _ => (de_callT (cd_tuple rfl) T.b_tuple rfl (dap_cons (DE.p (DF.e (df_comp (own := [("reply", 2)]) rfl sc_changed_replies.nd (DI.e (di_anyB rfl (de_var 3))) (blkOk_by (N := ["table", "swap", "reply", "row"]) (sc := _) (by rfl)) (fun _ _ _ _ _ => (dg_name 2 sc_changed_replies.nd)) (fun _ _ _ _ _ => dts_nil) (fun _ _ _ _ _ => (de_get2 (hu1 hr) (DE.p (de_var 1)) (DE.p (de_var 2)) (de_var 2))) (by decide)))) dap_nil))) (by decide)))) dap_nil)))))
def F_law_rest1 : LE → R Out :=
    (seqS (asgS (tupE (acons (callE rollD (acons (var 0) (acons (cst (.int 7)) anil))) (acons (callE rollD (acons (var 0) (acons (cst (.int 20)) anil))) anil))) (gTup_ 2 (gCons_ (gN 6) (gCons_ (gN 7) gNil_))))
    (seqS (ifS (cmpT neD (callE D_day_key (acons (var 3) (acons (var 6) (acons (var 7) (acons (var 1) anil))))) (opE modD (opE addD (var 3) (opE mulD (var 6) (var 7))) (var 1)))
    (retS (cst (.bl false)))
    skipS)
    (seqS (ifS (cmpT neD (callE D_days_until_again (acons (var 6) (acons (var 1) anil))) (callE minL (acons (lE (compF (rng2E (acons (cst (.int 1)) (acons (opE addD (var 1) (cst (.int 1))) anil))) (gN 8) (cmpT eqD (opE modD (opE mulD (var 8) (var 6)) (var 1)) (cst (.int 0))) (var 8) [8])) anil)))
    (retS (cst (.bl false)))
    skipS)
    (seqS (setK 9 (valK (lE (compF (rng1E (acons (callE rollD (acons (var 0) (acons (cst (.int 3)) anil))) anil)) (gN 8) yesT (tupE (acons (var 8) (acons (var 4) (acons (subE (subE (var 2) (opE modD (opE addD (var 3) (opE mulD (var 6) (var 8))) (var 1))) (var 4)) anil)))) [8]))))
    (seqS (setK 10 (valK (lE (compF (rng1E (acons (var 1) anil)) (gN 11) (cmpT eqZ (lE (compF (itB (var 9)) (gTup_ 3 (gCons_ (gN 8) (gCons_ (gN 12) (gCons_ (gN 13) gNil_)))) (cmpT neD (subE (subE (var 2) (opE modD (opE addD (var 11) (opE mulD (var 6) (var 8))) (var 1))) (var 12)) (var 13)) (cst (.int 1)) [8, 12, 13])) (lE (lstE anil))) (var 11) [11]))))
    (seqS (setK 14 (ownK (compF (rng1E (acons (cst (.int 4)) anil)) (gN 8) (cmpT gtD (lenDictE (lE (compF (itB (var 10)) (gN 11) yesT (tupE (acons (opE modD (opE addD (var 11) (opE mulD (var 6) (var 8))) (var 1)) (acons (cst (.int 1)) anil))) [11]))) (cst (.int 1))) (var 8) [8])))
    (seqS (ifS (cmpT neD (lE (callF listK (acons (callE D_safe_days (acons (var 2) (acons (var 9) (acons (var 3) (acons (var 6) (acons (cst (.int 4)) anil)))))) anil))) (varP 14))
    (retS (cst (.bl false)))
    skipS)
    (seqS (ifS (cmpT neD (callE D_turned_table (acons (callE D_turned_table (acons (var 2) anil)) anil)) (callE tupleD (acons (lE (compF (itB (var 2)) (gN 15) yesT (callE tupleD (acons (var 15) anil)) [15])) anil)))
    (retS (cst (.bl false)))
    skipS)
    (seqS (setK 16 (valK (callE D_changed_replies (acons (var 2) (acons (dispE [((cst (.str [97])), (cst (.str [98]))), ((cst (.str [98])), (cst (.str [97])))]) anil)))))
    (seqS (ifS (orT (cmpT neD (lE (compF (itB (callE D_changed_replies (acons (var 16) (acons (dispE [((cst (.str [97])), (cst (.str [98]))), ((cst (.str [98])), (cst (.str [97])))]) anil)))) (gN 15) yesT (lE (callF listK (acons (var 15) anil))) [15])) (var 2)) (cmpT neD (callE D_are_unlike (acons (var 16) anil)) (var 5)))
    (retS (cst (.bl false)))
    skipS)
    (seqS (ifS (cmpT neD (toldE toldL (callE D_reply_of (acons (var 2) (acons (var 1) (acons (cst (.int 0)) anil))))) (cst (.str [98, 111, 111, 107])))
    (retS (cst (.bl false)))
    skipS)
    (seqS (ifS (cmpT neD (toldE toldL (callE D_are_unlike (acons (lE (lstE anil)) anil))) (cst (.str [98, 111, 111, 107])))
    (retS (cst (.bl false)))
    skipS)
    (seqS (ifS (cmpT neD (toldE toldL (callE D_key_told (acons (var 2) (acons (lE (lstE (acons (tupE (acons (cst (.int 0)) (acons (cst (.str [122])) anil))) anil))) anil)))) (cst (.str [110, 111, 32, 119, 97, 121])))
    (retS (cst (.bl false)))
    skipS)
    (seqS (ifS (cmpT neD (toldE toldL (callE D_day_key (acons (cst (.int 0)) (acons (cst (.int 1)) (acons (cst (.int 1)) (acons (cst (.int 0)) anil)))))) (cst (.str [98, 111, 111, 107])))
    (retS (cst (.bl false)))
    skipS)
    (seqS (ifS (cmpT neD (toldE toldL (callE D_safe_days (acons (var 2) (acons (lE (lstE anil)) (acons (cst (.int 0)) (acons (cst (.int 1)) (acons (cst (.int 61)) anil))))))) (cst (.str [108, 97, 114, 103, 101])))
    (retS (cst (.bl false)))
    skipS)
    (seqS (ifS (cmpT neD (toldE toldL (callE D_days_until_again (acons (cst (.int 1)) (acons (cst (.int 0)) anil)))) (cst (.str [98, 111, 111, 107])))
    (retS (cst (.bl false)))
    skipS)
    (seqS (ifS (cmpT neD (toldE toldL (callE D_safe_days (acons (var 2) (acons (lE (lstE (acons (tupE (acons (cst (.int 0)) (acons (cst (.int 0)) (acons (cst (.str [122])) anil)))) anil))) (acons (cst (.int 0)) (acons (cst (.int 1)) (acons (cst (.int 1)) anil))))))) (cst (.str [98, 111, 111, 107])))
    (retS (cst (.bl false)))
    skipS)
    (seqS (ifS (cmpT neD (toldE toldL (callE D_guess_chance (acons (var 2) (acons (lE (lstE (acons (tupE (acons (cst (.int 0)) (acons (cst (.str [122])) anil))) anil))) (acons (cst (.int 0)) anil))))) (cst (.str [110, 111, 32, 119, 97, 121])))
    (retS (cst (.bl false)))
    skipS)
    (retS (cst (.bl true)))))))))))))))))))))
def D_law_rest1 : List D → R D := runF 6 17 F_law_rest1
theorem k_law_rest1 (T : Txt P w K mg base a) : FnD P w K mg base (gm K w a xs) 9 "_law_rest1" a.f_law_rest1 6 D_law_rest1 := by
  obtain ⟨oc0, od0, kV0, doc0, pm0, an0, cdv0, ct0, osl0, lk0, cd0, kp0, bd0⟩ := T.l_told
  exact fnD_C T.e_law_rest1 sc_law_rest1 T.g_law_rest1 rfl rfl fun A outer s H E hr =>
    (dss_cons (ds_asg (de_tup (da_cons (de_call (k_law_roll T) (hr.mono (by decide)) takes_cxD (da_cons (de_var 0) (da_cons de_int da_nil))) (da_cons (de_call (k_law_roll T) (hr.mono (by decide)) takes_cxD (da_cons (de_var 0) (da_cons de_int da_nil))) da_nil))) (dg_tup rfl rfl (dgs_cons (dg_name 6 sc_law_rest1.nd) (dgs_cons (dg_name 7 sc_law_rest1.nd) dgs_nil))))
    (dss_cons (ds_if (dt_cmp (op_ne_d rfl (huD64 hr)) (DE.p (de_call (k_day_key T) (hr.mono (by decide)) takes_cxD (da_cons (de_var 3) (da_cons (de_var 6) (da_cons (de_var 7) (da_cons (de_var 1) da_nil)))))) (DE.p (de_op (op_mod_d) (DE.p (de_op (op_add_d rfl) (DE.p (de_var 3)) (DE.p (de_op (op_mul_d) (DE.p (de_var 6)) (DE.p (de_var 7)))))) (DE.p (de_var 1)))))
    (dss_one (ds_ret de_bl))
    dss_nil)
    (dss_cons (ds_if (dt_cmp (op_ne_d rfl (huD64 hr)) (DE.p (de_call (k_days_until_again T) (hr.mono (by decide)) takes_cxD (da_cons (de_var 6) (da_cons (de_var 1) da_nil)))) (DE.p (de_callB (cd_min rfl rfl (huD hr)) T.b_min rfl (dap_cons (DE.p (DF.e (df_comp (own := [("k", 8)]) rfl sc_law_rest1.nd (DI.e (di_rng2 rfl T.b_range (da_cons de_int (da_cons (de_op (op_add_d rfl) (DE.p (de_var 1)) (DE.p de_int)) da_nil)))) (blkOk_by (N := ["dice", "keys", "table", "secret", "one", "unlike", "step", "day", "k", "news", "starts", "start", "ask", "reply", "safe", "row", "swapped"]) (sc := defScope s_law_rest1) (by decide +kernel)) (fun _ _ _ _ _ => (dg_name 8 sc_law_rest1.nd)) (fun _ _ _ _ _ => (dts_one (dt_cmp (op_eq_d rfl (huD64 hr)) (DE.p (de_op (op_mod_d) (DE.p (de_op (op_mul_d) (DE.p (de_var 8)) (DE.p (de_var 6)))) (DE.p (de_var 1)))) (DE.p de_int)))) (fun _ _ _ _ _ => (de_var 8)) (by decide)))) dap_nil))))
    (dss_one (ds_ret de_bl))
    dss_nil)
    (dss_cons (ds_set 9 (DE.k (DF.e (df_comp (own := [("k", 8)]) rfl sc_law_rest1.nd (DI.e (di_rng1 rfl T.b_range (da_cons (de_call (k_law_roll T) (hr.mono (by decide)) takes_cxD (da_cons (de_var 0) (da_cons de_int da_nil))) da_nil))) (blkOk_by (N := ["dice", "keys", "table", "secret", "one", "unlike", "step", "day", "k", "news", "starts", "start", "ask", "reply", "safe", "row", "swapped"]) (sc := defScope s_law_rest1) (by decide +kernel)) (fun _ _ _ _ _ => (dg_name 8 sc_law_rest1.nd)) (fun _ _ _ _ _ => dts_nil) (fun _ _ _ _ _ => (de_tup (da_cons (de_var 8) (da_cons (de_var 4) (da_cons (de_sub rfl rfl (huD hr) (DE.p (de_sub rfl rfl (huD hr) (DE.p (de_var 2)) (DE.p (de_op (op_mod_d) (DE.p (de_op (op_add_d rfl) (DE.p (de_var 3)) (DE.p (de_op (op_mul_d) (DE.p (de_var 6)) (DE.p (de_var 8)))))) (DE.p (de_var 1)))) fun _ _ => rfl)) (DE.p (de_var 4)) fun _ _ => rfl) da_nil))))) (by decide)))) (by decide) sc_law_rest1.nd)
    (dss_cons (ds_set 10 (DE.k (DF.e (df_comp (own := [("start", 11)]) rfl sc_law_rest1.nd (DI.e (di_rng1 rfl T.b_range (da_cons (de_var 1) da_nil))) (blkOk_by (N := ["dice", "keys", "table", "secret", "one", "unlike", "step", "day", "k", "news", "starts", "start", "ask", "reply", "safe", "row", "swapped"]) (sc := defScope s_law_rest1) (by decide +kernel)) (fun _ _ _ _ _ => (dg_name 11 sc_law_rest1.nd)) (fun _ _ _ _ _ => (dts_one (dt_cmp (op_eqZ_d rfl (huD64 hr)) (DE.p (DF.e (df_comp (own := [("k", 8), ("ask", 12), ("reply", 13)]) rfl sc_law_rest1.nd (DI.e (di_anyB rfl (de_var 9))) (blkOk_by (N := ["dice", "keys", "table", "secret", "one", "unlike", "step", "day", "k", "news", "starts", "start", "ask", "reply", "safe", "row", "swapped"]) (sc := _) (by rfl)) (fun _ _ _ _ _ => (dg_tup rfl rfl (dgs_cons (dg_name 8 sc_law_rest1.nd) (dgs_cons (dg_name 12 sc_law_rest1.nd) (dgs_cons (dg_name 13 sc_law_rest1.nd) dgs_nil))))) (fun _ _ _ _ _ => (dts_one (dt_cmp (op_ne_d rfl (huD64 hr)) (DE.p (de_sub rfl rfl (huD hr) (DE.p (de_sub rfl rfl (huD hr) (DE.p (de_var 2)) (DE.p (de_op (op_mod_d) (DE.p (de_op (op_add_d rfl) (DE.p (de_var 11)) (DE.p (de_op (op_mul_d) (DE.p (de_var 6)) (DE.p (de_var 8)))))) (DE.p (de_var 1)))) fun _ _ => rfl)) (DE.p (de_var 12)) fun _ _ => rfl)) (DE.p (de_var 13))))) (fun _ _ _ _ _ => de_int) (by decide)))) (DE.p (DF.e (df_lst da_nil)))))) (fun _ _ _ _ _ => (de_var 11)) (by decide)))) (by decide) sc_law_rest1.nd)
    (dss_cons (ds_setcomp 14 (own := [("k", 8)]) rfl sc_law_rest1.nd (DI.e (di_rng1 rfl T.b_range (da_cons de_int da_nil))) (blkOk_by (N := ["dice", "keys", "table", "secret", "one", "unlike", "step", "day", "k", "news", "starts", "start", "ask", "reply", "safe", "row", "swapped"]) (sc := defScope s_law_rest1) (by decide +kernel)) (fun _ _ _ _ _ => (dg_name 8 sc_law_rest1.nd)) (fun _ _ _ _ _ => (dts_one (dt_cmp (op_gt_d) (DE.p (de_lenDict rfl rfl (huD hr) rfl T.b_len rfl T.b_dict (DF.e (df_comp (own := [("start", 11)]) rfl sc_law_rest1.nd (DI.e (di_anyB rfl (de_var 10))) (blkOk_by (N := ["dice", "keys", "table", "secret", "one", "unlike", "step", "day", "k", "news", "starts", "start", "ask", "reply", "safe", "row", "swapped"]) (sc := _) (by rfl)) (fun _ _ _ _ _ => (dg_name 11 sc_law_rest1.nd)) (fun _ _ _ _ _ => dts_nil) (fun _ _ _ _ _ => (de_tup (da_cons (de_op (op_mod_d) (DE.p (de_op (op_add_d rfl) (DE.p (de_var 11)) (DE.p (de_op (op_mul_d) (DE.p (de_var 6)) (DE.p (de_var 8)))))) (DE.p (de_var 1))) (da_cons de_int da_nil)))) (by decide))))) (DE.p de_int)))) (fun _ _ _ _ _ => (de_var 8)) (by decide) (by decide) (sw_true rfl rfl rfl (by decide +kernel)))
    (dss_cons (ds_if (dt_cmp (op_ne_d rfl (huD64 hr)) (DE.p (DF.e (df_callT (cf_listK rfl rfl) T.b_list rfl (dap_cons (DE.p (de_call (k_safe_days T) (hr.mono (by decide)) takes_cxD (da_cons (de_var 2) (da_cons (de_var 9) (da_cons (de_var 3) (da_cons (de_var 6) (da_cons de_int da_nil))))))) dap_nil)))) (dp_var 14))
    (dss_one (ds_ret de_bl))
    dss_nil)
    (dss_cons (ds_if (dt_cmp (op_ne_d rfl (huD64 hr)) (DE.p (de_call (k_turned_table T) (hr.mono (by decide)) takes_cxD (da_cons (de_call (k_turned_table T) (hr.mono (by decide)) takes_cxD (da_cons (de_var 2) da_nil)) da_nil))) (DE.p (de_callT (cd_tuple rfl) T.b_tuple rfl (dap_cons (DE.p (DF.e (df_comp (own := [("row", 15)]) rfl sc_law_rest1.nd (DI.e (di_anyB rfl (de_var 2))) (blkOk_by (N := ["dice", "keys", "table", "secret", "one", "unlike", "step", "day", "k", "news", "starts", "start", "ask", "reply", "safe", "row", "swapped"]) (sc := defScope s_law_rest1) (by decide +kernel)) (fun _ _ _ _ _ => (dg_name 15 sc_law_rest1.nd)) (fun _ _ _ _ _ => dts_nil) (fun _ _ _ _ _ => (de_callT (cd_tuple rfl) T.b_tuple rfl (dap_cons (DE.p (de_var 15)) dap_nil))) (by decide)))) dap_nil))))
    (dss_one (ds_ret de_bl))
    dss_nil)
    (dss_cons (ds_set 16 (DE.k (de_call (k_changed_replies T) (hr.mono (by decide)) takes_cxD (da_cons (de_var 2) (da_cons (de_disp (.cons (de_str [97]) (de_str [98]) (.cons (de_str [98]) (de_str [97]) .nil))) da_nil)))) (by decide) sc_law_rest1.nd)
    (dss_cons (ds_if (dt_w (dw_or (dt_cmp (op_ne_d rfl (huD64 hr)) (DE.p (DF.e (df_comp (own := [("row", 15)]) rfl sc_law_rest1.nd (DI.e (di_anyB rfl (de_call (k_changed_replies T) (hr.mono (by decide)) takes_cxD (da_cons (de_var 16) (da_cons (de_disp (.cons (de_str [97]) (de_str [98]) (.cons (de_str [98]) (de_str [97]) .nil))) da_nil))))) (blkOk_by (N := ["dice", "keys", "table", "secret", "one", "unlike", "step", "day", "k", "news", "starts", "start", "ask", "reply", "safe", "row", "swapped"]) (sc := defScope s_law_rest1) (by decide +kernel)) (fun _ _ _ _ _ => (dg_name 15 sc_law_rest1.nd)) (fun _ _ _ _ _ => dts_nil) (fun _ _ _ _ _ => (DF.e (df_callT (cf_listK rfl rfl) T.b_list rfl (dap_cons (DE.p (de_var 15)) dap_nil)))) (by decide)))) (DE.p (de_var 2))) (dw_or1 (dt_cmp (op_ne_d rfl (huD64 hr)) (DE.p (de_call (k_are_unlike T) (hr.mono (by decide)) takes_cxD (da_cons (de_var 16) da_nil))) (DE.p (de_var 5))))))
    (dss_one (ds_ret de_bl))
    dss_nil)
    (dss_cons (ds_if (dt_cmp (op_ne_d rfl (huD64 hr)) (DE.p (de_told (k := 3) (l := toldL) T.g_law_told kp0 lk0 cd0 bd0 sc_law_told rfl (Or.inl rfl) (gives_told T rfl rfl) (T.exm _) (mk_def T.tb_law_rest1 rfl tm_law_rest1) (hr.mono (by decide)) (lamS_by (sc := defScope s_law_rest1) (by decide +kernel)) (fun _ _ _ _ _ _ _ _ hr' mk1_ => (de_call (k_reply_of T) (hr'.mono (by decide)) takes_lam (da_cons (de_var 2) (da_cons (de_var 1) (da_cons de_int da_nil))))))) (DE.p (de_str [98, 111, 111, 107])))
    (dss_one (ds_ret de_bl))
    dss_nil)
    (dss_cons (ds_if (dt_cmp (op_ne_d rfl (huD64 hr)) (DE.p (de_told (k := 3) (l := toldL) T.g_law_told kp0 lk0 cd0 bd0 sc_law_told rfl (Or.inl rfl) (gives_told T rfl rfl) (T.exm _) (mk_def T.tb_law_rest1 rfl tm_law_rest1) (hr.mono (by decide)) (lamS_by (sc := defScope s_law_rest1) (by decide +kernel)) (fun _ _ _ _ _ _ _ _ hr' mk2_ => (de_call (k_are_unlike T) (hr'.mono (by decide)) takes_lam (da_cons (DF.e (df_lst da_nil)) da_nil))))) (DE.p (de_str [98, 111, 111, 107])))
    (dss_one (ds_ret de_bl))
    dss_nil)
    (dss_cons (ds_if (dt_cmp (op_ne_d rfl (huD64 hr)) (DE.p (de_told (k := 6) (l := toldL) T.g_law_told kp0 lk0 cd0 bd0 sc_law_told rfl (Or.inl rfl) (gives_told T rfl rfl) (T.exm _) (mk_def T.tb_law_rest1 rfl tm_law_rest1) (hr.mono (by decide)) (lamS_by (sc := defScope s_law_rest1) (by decide +kernel)) (fun _ _ _ _ _ _ _ _ hr' mk3_ => (de_call (k_key_told T) (hr'.mono (by decide)) takes_lam (da_cons (de_var 2) (da_cons (DF.e (df_lst (da_cons (de_tup (da_cons de_int (da_cons (de_str [122]) da_nil))) da_nil))) da_nil)))))) (DE.p (de_str [110, 111, 32, 119, 97, 121])))
    (dss_one (ds_ret de_bl))
    dss_nil)
    (dss_cons (ds_if (dt_cmp (op_ne_d rfl (huD64 hr)) (DE.p (de_told (k := 1) (l := toldL) T.g_law_told kp0 lk0 cd0 bd0 sc_law_told rfl (Or.inl rfl) (gives_told T rfl rfl) (T.exm _) (mk_def T.tb_law_rest1 rfl tm_law_rest1) (hr.mono (by decide)) (lamS_by (sc := defScope s_law_rest1) (by decide +kernel)) (fun _ _ _ _ _ _ _ _ hr' mk4_ => (de_call (k_day_key T) (hr'.mono (by decide)) takes_lam (da_cons de_int (da_cons de_int (da_cons de_int (da_cons de_int da_nil)))))))) (DE.p (de_str [98, 111, 111, 107])))
    (dss_one (ds_ret de_bl))
    dss_nil)
    (dss_cons (ds_if (dt_cmp (op_ne_d rfl (huD64 hr)) (DE.p (de_told (k := 5) (l := toldL) T.g_law_told kp0 lk0 cd0 bd0 sc_law_told rfl (Or.inl rfl) (gives_told T rfl rfl) (T.exm _) (mk_def T.tb_law_rest1 rfl tm_law_rest1) (hr.mono (by decide)) (lamS_by (sc := defScope s_law_rest1) (by decide +kernel)) (fun _ _ _ _ _ _ _ _ hr' mk5_ => (de_call (k_safe_days T) (hr'.mono (by decide)) takes_lam (da_cons (de_var 2) (da_cons (DF.e (df_lst da_nil)) (da_cons de_int (da_cons de_int (da_cons de_int da_nil))))))))) (DE.p (de_str [108, 97, 114, 103, 101])))
    (dss_one (ds_ret de_bl))
    dss_nil)
    (dss_cons (ds_if (dt_cmp (op_ne_d rfl (huD64 hr)) (DE.p (de_told (k := 1) (l := toldL) T.g_law_told kp0 lk0 cd0 bd0 sc_law_told rfl (Or.inl rfl) (gives_told T rfl rfl) (T.exm _) (mk_def T.tb_law_rest1 rfl tm_law_rest1) (hr.mono (by decide)) (lamS_by (sc := defScope s_law_rest1) (by decide +kernel)) (fun _ _ _ _ _ _ _ _ hr' mk6_ => (de_call (k_days_until_again T) (hr'.mono (by decide)) takes_lam (da_cons de_int (da_cons de_int da_nil)))))) (DE.p (de_str [98, 111, 111, 107])))
    (dss_one (ds_ret de_bl))
    dss_nil)
    (dss_cons (ds_if (dt_cmp (op_ne_d rfl (huD64 hr)) (DE.p (de_told (k := 5) (l := toldL) T.g_law_told kp0 lk0 cd0 bd0 sc_law_told rfl (Or.inl rfl) (gives_told T rfl rfl) (T.exm _) (mk_def T.tb_law_rest1 rfl tm_law_rest1) (hr.mono (by decide)) (lamS_by (sc := defScope s_law_rest1) (by decide +kernel)) (fun _ _ _ _ _ _ _ _ hr' mk7_ => (de_call (k_safe_days T) (hr'.mono (by decide)) takes_lam (da_cons (de_var 2) (da_cons (DF.e (df_lst (da_cons (de_tup (da_cons de_int (da_cons de_int (da_cons (de_str [122]) da_nil)))) da_nil))) (da_cons de_int (da_cons de_int (da_cons de_int da_nil))))))))) (DE.p (de_str [98, 111, 111, 107])))
    (dss_one (ds_ret de_bl))
    dss_nil)
    (dss_cons (ds_if (dt_cmp (op_ne_d rfl (huD64 hr)) (DE.p (de_told (k := 6) (l := toldL) T.g_law_told kp0 lk0 cd0 bd0 sc_law_told rfl (Or.inl rfl) (gives_told T rfl rfl) (T.exm _) (mk_def T.tb_law_rest1 rfl tm_law_rest1) (hr.mono (by decide)) (lamS_by (sc := defScope s_law_rest1) (by decide +kernel)) (fun _ _ _ _ _ _ _ _ hr' mk8_ => (de_call (k_guess_chance T) (hr'.mono (by decide)) takes_lam (da_cons (de_var 2) (da_cons (DF.e (df_lst (da_cons (de_tup (da_cons de_int (da_cons (de_str [122]) da_nil))) da_nil))) (da_cons de_int da_nil))))))) (DE.p (de_str [110, 111, 32, 119, 97, 121])))
    (dss_one (ds_ret de_bl))
    dss_nil)
    (dss_one (ds_ret de_bl))))))))))))))))))))
def F_law : LE → R Out :=
    (seqS (asgS (tupE (acons (opE addD (cst (.int 1)) (callE rollD (acons (var 1) (acons (cst (.int 5)) anil)))) (acons (opE addD (cst (.int 1)) (callE rollD (acons (var 1) (acons (cst (.int 3)) anil)))) anil))) (gTup_ 2 (gCons_ (gN 2) (gCons_ (gN 3) gNil_))))
    (seqS (setK 4 (valK (lE (compF (rng1E (acons (var 2) anil)) (gN 6) yesT (lE (compF (rng1E (acons (var 3) anil)) (gN 5) yesT (subE (cst (.str [97, 98, 99])) (callE rollD (acons (var 1) (acons (cst (.int 3)) anil)))) [5])) [6]))))
    (seqS (asgS (tupE (acons (callE rollD (acons (var 1) (acons (var 2) anil))) (acons (callE rollD (acons (var 1) (acons (cst (.int 3)) anil))) anil))) (gTup_ 2 (gCons_ (gN 7) (gCons_ (gN 8) gNil_))))
    (seqS (setK 9 (valK (sliceE (lE (compF (rng1E (acons (var 3) anil)) (gN 5) yesT (tupE (acons (var 5) (acons (subE (subE (var 4) (var 7)) (var 5)) anil))) [5])) noP (someP (var 8)))))
    (seqS (setK 10 (ownK (compF (rng1E (acons (var 2) anil)) (gN 11) (cmpT eqZ (lE (compF (itB (var 9)) (gTup_ 2 (gCons_ (gN 12) (gCons_ (gN 13) gNil_))) (cmpT neD (subE (subE (var 4) (var 11)) (var 12)) (var 13)) (cst (.int 1)) [12, 13])) (lE (lstE anil))) (var 11) [11])))
    (seqS (ifS (orT (cmpT neD (lE (callF listK (acons (callE D_keys_left (acons (var 4) (acons (var 9) anil))) anil))) (varP 10)) (cmpT notInD (var 7) (varP 10)))
    (retS (cst (.bl false)))
    skipS)
    (seqS (ifS (cmpT neD (toldE toldL (callE D_key_told (acons (var 4) (acons (var 9) anil)))) (iteE (cmpT eqD (callE lenX (acons (varP 10) anil)) (cst (.int 1))) (subE (varP 10) (cst (.int 0))) (cst (.str [117, 110, 99, 108, 101, 97, 114]))))
    (retS (cst (.bl false)))
    skipS)
    (seqS (setK 12 (valK (callE rollD (acons (var 1) (acons (var 3) anil)))))
    (seqS (setK 14 (valK (lE (compF (itB (var 4)) (gN 15) yesT (subE (var 15) (var 12)) [15]))))
    (seqS (ifS (cmpT neX (callE D_parts_by (acons (var 4) (acons (lE (lrg1E (var 2))) (acons (var 12) anil)))) (callE dictD (acons (lE (compF (itS (cst (.str [97, 98, 99]))) (gN 13) (cmpT inD (var 13) (var 14)) (tupE (acons (var 13) (acons (callE tupleD (acons (lE (compF (rng1E (acons (var 2) anil)) (gN 11) (cmpT eqD (subE (var 14) (var 11)) (var 13)) (var 11) [11])) anil)) anil))) [13])) anil)))
    (retS (cst (.bl false)))
    skipS)
    (seqS (setK 16 (valK (opE eqD (lenDictE (lE (compF (itB (var 4)) (gN 15) yesT (tupE (acons (callE tupleD (acons (var 15) anil)) (acons (cst (.int 1)) anil))) [15]))) (var 2))))
    (seqS (ifS (orT (cmpT neD (callE D_are_unlike (acons (var 4) anil)) (var 16)) (cmpT neD (callE D_reply_of (acons (var 4) (acons (var 7) (acons (var 12) anil)))) (subE (var 14) (var 7))))
    (retS (cst (.bl false)))
    skipS)
    (seqS (setK 17 (valK (toldE toldL (callE (D_fewest_questions 8) (acons (var 4) (acons (lE (lrg1E (var 2))) anil))))))
    (seqS (ifS (cmpT neD (opE eqD (var 17) (cst (.str [110, 111, 32, 119, 97, 121]))) (notV (var 16)))
    (retS (cst (.bl false)))
    skipS)
    (seqS (ifS (andT (valT (var 16)) (orT (notT (valT (callE (D_law_depth 8) (acons (var 4) (acons (lE (lrg1E (var 2))) (acons (var 17) anil)))))) (andT (cmpT gtD (var 17) (cst (.int 0))) (valT (callE (D_law_depth 8) (acons (var 4) (acons (lE (lrg1E (var 2))) (acons (opE subD (var 17) (cst (.int 1))) anil))))))))
    (retS (cst (.bl false)))
    skipS)
    (seqS (setK 18 (valK (opE addD (opE addD (lE (lstE (acons (tupE anil) anil))) (lE (compF (rng1E (acons (var 3) anil)) (gN 5) yesT (tupE (acons (var 5) anil)) [5]))) (callE D_law_flat (acons (lE (compF (rng1E (acons (var 3) anil)) (gN 6) yesT (lE (compF (rng2E (acons (opE addD (var 6) (cst (.int 1))) (acons (var 3) anil))) (gN 5) yesT (tupE (acons (var 6) (acons (var 5) anil))) [5])) [6])) anil)))))
    (seqS (setK 18 (valK (opE addD (var 18) (iteE (cmpT eqD (var 3) (cst (.int 3))) (lE (lstE (acons (tupE (acons (cst (.int 0)) (acons (cst (.int 1)) (acons (cst (.int 2)) anil)))) anil))) (lE (lstE anil))))))
    (seqS (setK 19 (ownK (compF (itB (var 18)) (gN 15) (cmpT eqD (lenDictE (lE (compF (itB (var 4)) (gN 20) yesT (tupE (acons (callE tupleD (acons (lE (compF (itB (var 15)) (gN 5) yesT (subE (var 20) (var 5)) [5])) anil)) (acons (cst (.int 1)) anil))) [20]))) (var 2)) (var 15) [15])))
    (seqS (ifS (cmpT neD (toldE toldL (callE D_fixed_questions (acons (var 4) anil))) (iteE (cmpT neZ (varP 19) (lE (lstE anil))) (subE (varP 19) (cst (.int 0))) (cst (.str [110, 111, 32, 119, 97, 121]))))
    (retS (cst (.bl false)))
    skipS)
    (seqS (ifS (andT (valT (var 16)) (cmpT gtD (var 17) (callE lenX (acons (subE (varP 19) (cst (.int 0))) anil))))
    (retS (cst (.bl false)))
    skipS)
    (seqS (setK 21 (valK (lE (compF (itA (varP 10)) (gN 11) yesT (subE (var 14) (var 11)) [11]))))
    (seqS (ifS (cmpT neD (callE D_guess_chance (acons (var 4) (acons (var 9) (acons (var 12) anil)))) (tupE (acons (callE maxL (acons (lE (compF (itS (cst (.str [97, 98, 99]))) (gN 13) yesT (bmE "list" countLs (var 21) (acons (var 13) anil)) [13])) anil)) (acons (callE lenX (acons (varP 10) anil)) anil))))
    (retS (cst (.bl false)))
    skipS)
    (ifS (notT (valT (callE D_law_rest1 (acons (var 1) (acons (var 2) (acons (var 4) (acons (var 7) (acons (var 12) (acons (var 16) anil)))))))))
    (retS (cst (.bl false)))
    skipS)))))))))))))))))))))))
theorem ok_law (T : Txt P w K mg base a) {oc : Value} {od : Option Addr} {kV doc pm : Value} {an : Option Addr} {ct : Value} {osl : Array (Option Value)} (lk : K.lookup a.f_law = some ⟨oc, od, .func (PySem.W.fnOf "law" "law" (defArgs s_law) (defBody s_law) (defScope s_law) .none kV doc pm an (.ref a.k_law) ct), osl⟩)
    (cd : PySem.W.codeIn K (.ref a.k_law) "law" = true) (hF : LawOk F_law 22) :
    FnOk P w K mg base (L2.CX P w) 16 a.f_law (PySem.W.fnOf "law" "law" (defArgs s_law) (defBody s_law) (defScope s_law) .none kV doc pm an (.ref a.k_law) ct) ["script"] (spLaw K (gm K w a []).tabs) := by
  obtain ⟨oc0, od0, kV0, doc0, pm0, an0, cdv0, ct0, osl0, lk0, cd0, kp0, bd0⟩ := T.l_told
  obtain ⟨fdD, FD, bD⟩ := T.e_law_dice
  obtain ⟨fdR, FR, bR⟩ := T.e_law_rounds
  have hD := ok_dice (P := P) (w := w) (base := base) FD T.b_int T.b_abs
  have hR := ok_rounds (P := P) (w := w) (base := base) FR hD FD.kp bD T.g_law_dice
  exact law_W (G := gm K w a []) (F := F_law) lk cd sc_law rfl (by decide) rfl (tabs_u T) rfl hF fun A outer s H E hr => ⟨_, pss_cons (ps_for owns_cxD rfl (pi_list (pe_callS hR (hr.mono (by decide)) rfl T.g_law_rounds FR.kp bR (fun sg => DL.passAt (takes_cxD (N := ["script", "dice", "keys", "many", "table", "k", "j", "secret", "count", "heard", "left", "key", "one", "reply", "replies", "row", "unlike", "need", "rows", "good", "line", "shares"]) (st := s_law) (f := a.f_law)) sg) (pa_cons (pv 0) (pa_cons pe_int pa_nil)))) (pg_name (i := 1) sc_law.nd rfl (Or.inr rfl))
    (dss_cons (ds_asg (de_tup (da_cons (de_op (op_add_d rfl) (DE.p de_int) (DE.p (de_call (k_law_roll T) (hr.mono (by decide)) takes_cxD (da_cons (de_var 1) (da_cons de_int da_nil))))) (da_cons (de_op (op_add_d rfl) (DE.p de_int) (DE.p (de_call (k_law_roll T) (hr.mono (by decide)) takes_cxD (da_cons (de_var 1) (da_cons de_int da_nil))))) da_nil))) (dg_tup rfl rfl (dgs_cons (dg_name 2 sc_law.nd) (dgs_cons (dg_name 3 sc_law.nd) dgs_nil))))
    (dss_cons (ds_set 4 (DE.k (DF.e (df_comp (own := [("j", 6)]) rfl sc_law.nd (DI.e (di_rng1 rfl T.b_range (da_cons (de_var 2) da_nil))) (blkOk_by (N := ["script", "dice", "keys", "many", "table", "k", "j", "secret", "count", "heard", "left", "key", "one", "reply", "replies", "row", "unlike", "need", "rows", "good", "line", "shares"]) (sc := defScope s_law) (by decide +kernel)) (fun _ _ _ _ _ => (dg_name 6 sc_law.nd)) (fun _ _ _ _ _ => dts_nil) (fun _ _ _ _ _ => (DF.e (df_comp (own := [("k", 5)]) rfl sc_law.nd (DI.e (di_rng1 rfl T.b_range (da_cons (de_var 3) da_nil))) (blkOk_by (N := ["script", "dice", "keys", "many", "table", "k", "j", "secret", "count", "heard", "left", "key", "one", "reply", "replies", "row", "unlike", "need", "rows", "good", "line", "shares"]) (sc := _) (by rfl)) (fun _ _ _ _ _ => (dg_name 5 sc_law.nd)) (fun _ _ _ _ _ => dts_nil) (fun _ _ _ _ _ => (de_sub rfl rfl (huD hr) (DE.p (de_str [97, 98, 99])) (DE.p (de_call (k_law_roll T) (hr.mono (by decide)) takes0D (da_cons (de_var 1) (da_cons de_int da_nil)))) fun _ _ => rfl)) (by decide)))) (by decide)))) (by decide) sc_law.nd)
    (dss_cons (ds_asg (de_tup (da_cons (de_call (k_law_roll T) (hr.mono (by decide)) takes_cxD (da_cons (de_var 1) (da_cons (de_var 2) da_nil))) (da_cons (de_call (k_law_roll T) (hr.mono (by decide)) takes_cxD (da_cons (de_var 1) (da_cons de_int da_nil))) da_nil))) (dg_tup rfl rfl (dgs_cons (dg_name 7 sc_law.nd) (dgs_cons (dg_name 8 sc_law.nd) dgs_nil))))
    (dss_cons (ds_set 9 (DE.k (de_slice rfl (DE.p (DF.e (df_comp (own := [("k", 5)]) rfl sc_law.nd (DI.e (di_rng1 rfl T.b_range (da_cons (de_var 3) da_nil))) (blkOk_by (N := ["script", "dice", "keys", "many", "table", "k", "j", "secret", "count", "heard", "left", "key", "one", "reply", "replies", "row", "unlike", "need", "rows", "good", "line", "shares"]) (sc := defScope s_law) (by decide +kernel)) (fun _ _ _ _ _ => (dg_name 5 sc_law.nd)) (fun _ _ _ _ _ => dts_nil) (fun _ _ _ _ _ => (de_tup (da_cons (de_var 5) (da_cons (de_sub rfl rfl (huD hr) (DE.p (de_sub rfl rfl (huD hr) (DE.p (de_var 4)) (DE.p (de_var 7)) fun _ _ => rfl)) (DE.p (de_var 5)) fun _ _ => rfl) da_nil)))) (by decide)))) do_none (do_some (DE.p (de_var 8))))) (by decide) sc_law.nd)
    (dss_cons (ds_setcomp 10 (own := [("key", 11)]) rfl sc_law.nd (DI.e (di_rng1 rfl T.b_range (da_cons (de_var 2) da_nil))) (blkOk_by (N := ["script", "dice", "keys", "many", "table", "k", "j", "secret", "count", "heard", "left", "key", "one", "reply", "replies", "row", "unlike", "need", "rows", "good", "line", "shares"]) (sc := defScope s_law) (by decide +kernel)) (fun _ _ _ _ _ => (dg_name 11 sc_law.nd)) (fun _ _ _ _ _ => (dts_one (dt_cmp (op_eqZ_d rfl (huD64 hr)) (DE.p (DF.e (df_comp (own := [("one", 12), ("reply", 13)]) rfl sc_law.nd (DI.e (di_anyB rfl (de_var 9))) (blkOk_by (N := ["script", "dice", "keys", "many", "table", "k", "j", "secret", "count", "heard", "left", "key", "one", "reply", "replies", "row", "unlike", "need", "rows", "good", "line", "shares"]) (sc := _) (by rfl)) (fun _ _ _ _ _ => (dg_tup rfl rfl (dgs_cons (dg_name 12 sc_law.nd) (dgs_cons (dg_name 13 sc_law.nd) dgs_nil)))) (fun _ _ _ _ _ => (dts_one (dt_cmp (op_ne_d rfl (huD64 hr)) (DE.p (de_sub rfl rfl (huD hr) (DE.p (de_sub rfl rfl (huD hr) (DE.p (de_var 4)) (DE.p (de_var 11)) fun _ _ => rfl)) (DE.p (de_var 12)) fun _ _ => rfl)) (DE.p (de_var 13))))) (fun _ _ _ _ _ => de_int) (by decide)))) (DE.p (DF.e (df_lst da_nil)))))) (fun _ _ _ _ _ => (de_var 11)) (by decide) (by decide) (sw_true rfl rfl rfl (by decide +kernel)))
    (dss_cons (ds_if (dt_w (dw_or (dt_cmp (op_ne_d rfl (huD64 hr)) (DE.p (DF.e (df_callT (cf_listK rfl rfl) T.b_list rfl (dap_cons (DE.p (de_call (k_keys_left T) (hr.mono (by decide)) takes_cxD (da_cons (de_var 4) (da_cons (de_var 9) da_nil)))) dap_nil)))) (dp_var 10)) (dw_or1 (dt_cmp (op_notin_d rfl (huD hr)) (DE.p (de_var 7)) (dp_var 10)))))
    (dss_one (ds_ret de_bl))
    dss_nil)
    (dss_cons (ds_if (dt_cmp (op_ne_d rfl (huD64 hr)) (DE.p (de_told (k := 6) (l := toldL) T.g_law_told kp0 lk0 cd0 bd0 sc_law_told rfl (Or.inl rfl) (gives_told T rfl rfl) (T.exm _) (mk_def T.tb_law rfl tm_law) (hr.mono (by decide)) (lamS_by (sc := defScope s_law) (by decide +kernel)) (fun _ _ _ _ _ _ _ _ hr' mk1_ => (de_call (k_key_told T) (hr'.mono (by decide)) takes_lam (da_cons (de_var 4) (da_cons (de_var 9) da_nil)))))) (DE.p (de_if (dt_cmp (op_eq_d rfl (huD64 hr)) (DE.p (de_callB (cd_lenX rfl) T.b_len rfl (dap_cons (dp_var 10) dap_nil))) (DE.p de_int)) (de_sub rfl rfl (huD hr) (dp_var 10) (DE.p de_int) fun _ _ => rfl) (de_str [117, 110, 99, 108, 101, 97, 114]))))
    (dss_one (ds_ret de_bl))
    dss_nil)
    (dss_cons (ds_set 12 (DE.k (de_call (k_law_roll T) (hr.mono (by decide)) takes_cxD (da_cons (de_var 1) (da_cons (de_var 3) da_nil)))) (by decide) sc_law.nd)
    (dss_cons (ds_set 14 (DE.k (DF.e (df_comp (own := [("row", 15)]) rfl sc_law.nd (DI.e (di_anyB rfl (de_var 4))) (blkOk_by (N := ["script", "dice", "keys", "many", "table", "k", "j", "secret", "count", "heard", "left", "key", "one", "reply", "replies", "row", "unlike", "need", "rows", "good", "line", "shares"]) (sc := defScope s_law) (by decide +kernel)) (fun _ _ _ _ _ => (dg_name 15 sc_law.nd)) (fun _ _ _ _ _ => dts_nil) (fun _ _ _ _ _ => (de_sub rfl rfl (huD hr) (DE.p (de_var 15)) (DE.p (de_var 12)) fun _ _ => rfl)) (by decide)))) (by decide) sc_law.nd)
    (dss_cons (ds_if (dt_cmp (op_neX_d rfl (huD hr)) (DE.p (de_call (k_parts_by T) (hr.mono (by decide)) takes_cxD (da_cons (de_var 4) (da_cons (DF.e (df_listRg1 rfl rfl T.b_list rfl T.b_range (de_var 2))) (da_cons (de_var 12) da_nil))))) (DE.p (de_callT (cd_dict rfl rfl) T.b_dict rfl (dap_cons (DE.p (DF.e (df_comp (own := [("reply", 13)]) rfl sc_law.nd (DI.e (di_str (de_str [97, 98, 99]))) (blkOk_by (N := ["script", "dice", "keys", "many", "table", "k", "j", "secret", "count", "heard", "left", "key", "one", "reply", "replies", "row", "unlike", "need", "rows", "good", "line", "shares"]) (sc := defScope s_law) (by decide +kernel)) (fun _ _ _ _ _ => (dg_name 13 sc_law.nd)) (fun _ _ _ _ _ => (dts_one (dt_cmp (op_in_d rfl (huD hr)) (DE.p (de_var 13)) (DE.p (de_var 14))))) (fun _ _ _ _ _ => (de_tup (da_cons (de_var 13) (da_cons (de_callT (cd_tuple rfl) T.b_tuple rfl (dap_cons (DE.p (DF.e (df_comp (own := [("key", 11)]) rfl sc_law.nd (DI.e (di_rng1 rfl T.b_range (da_cons (de_var 2) da_nil))) (blkOk_by (N := ["script", "dice", "keys", "many", "table", "k", "j", "secret", "count", "heard", "left", "key", "one", "reply", "replies", "row", "unlike", "need", "rows", "good", "line", "shares"]) (sc := _) (by rfl)) (fun _ _ _ _ _ => (dg_name 11 sc_law.nd)) (fun _ _ _ _ _ => (dts_one (dt_cmp (op_eq_d rfl (huD64 hr)) (DE.p (de_sub rfl rfl (huD hr) (DE.p (de_var 14)) (DE.p (de_var 11)) fun _ _ => rfl)) (DE.p (de_var 13))))) (fun _ _ _ _ _ => (de_var 11)) (by decide)))) dap_nil)) da_nil)))) (by decide)))) dap_nil))))
    (dss_one (ds_ret de_bl))
    dss_nil)
    (dss_cons (ds_set 16 (DE.k (de_cmp (op_eq_d rfl (huD64 hr)) (DE.p (de_lenDict rfl rfl (huD hr) rfl T.b_len rfl T.b_dict (DF.e (df_comp (own := [("row", 15)]) rfl sc_law.nd (DI.e (di_anyB rfl (de_var 4))) (blkOk_by (N := ["script", "dice", "keys", "many", "table", "k", "j", "secret", "count", "heard", "left", "key", "one", "reply", "replies", "row", "unlike", "need", "rows", "good", "line", "shares"]) (sc := defScope s_law) (by decide +kernel)) (fun _ _ _ _ _ => (dg_name 15 sc_law.nd)) (fun _ _ _ _ _ => dts_nil) (fun _ _ _ _ _ => (de_tup (da_cons (de_callT (cd_tuple rfl) T.b_tuple rfl (dap_cons (DE.p (de_var 15)) dap_nil)) (da_cons de_int da_nil)))) (by decide))))) (DE.p (de_var 2)))) (by decide) sc_law.nd)
    (dss_cons (ds_if (dt_w (dw_or (dt_cmp (op_ne_d rfl (huD64 hr)) (DE.p (de_call (k_are_unlike T) (hr.mono (by decide)) takes_cxD (da_cons (de_var 4) da_nil))) (DE.p (de_var 16))) (dw_or1 (dt_cmp (op_ne_d rfl (huD64 hr)) (DE.p (de_call (k_reply_of T) (hr.mono (by decide)) takes_cxD (da_cons (de_var 4) (da_cons (de_var 7) (da_cons (de_var 12) da_nil))))) (DE.p (de_sub rfl rfl (huD hr) (DE.p (de_var 14)) (DE.p (de_var 7)) fun _ _ => rfl))))))
    (dss_one (ds_ret de_bl))
    dss_nil)
    (dss_cons (ds_set 17 (DE.k (de_told (k := 13) (l := toldL) T.g_law_told kp0 lk0 cd0 bd0 sc_law_told rfl (Or.inl rfl) (gives_told T rfl rfl) (T.exm _) (mk_def T.tb_law rfl tm_law) (hr.mono (by decide)) (lamS_by (sc := defScope s_law) (by decide +kernel)) (fun _ _ _ _ _ _ _ _ hr' mk2_ => (de_call (k_fewest_questions T 8) (hr'.mono (by decide)) takes_lam (da_cons (de_var 4) (da_cons (DF.e (df_listRg1 rfl rfl T.b_list rfl T.b_range (de_var 2))) da_nil)))))) (by decide) sc_law.nd)
    (dss_cons (ds_if (dt_cmp (op_ne_d rfl (huD64 hr)) (DE.p (de_cmp (op_eq_d rfl (huD64 hr)) (DE.p (de_var 17)) (DE.p (de_str [110, 111, 32, 119, 97, 121])))) (DE.p (de_not (de_var 16))))
    (dss_one (ds_ret de_bl))
    dss_nil)
    (dss_cons (ds_if (dt_w (dw_and (dt_val (de_var 16)) (dw_and1 (dt_w (dw_or (dt_not (dt_val (de_call (k_law_depth T 8) (hr.mono (by decide)) takes_cxD (da_cons (de_var 4) (da_cons (DF.e (df_listRg1 rfl rfl T.b_list rfl T.b_range (de_var 2))) (da_cons (de_var 17) da_nil)))))) (dw_or1 (dt_w (dw_and (dt_cmp (op_gt_d) (DE.p (de_var 17)) (DE.p de_int)) (dw_and1 (dt_val (de_call (k_law_depth T 8) (hr.mono (by decide)) takes_cxD (da_cons (de_var 4) (da_cons (DF.e (df_listRg1 rfl rfl T.b_list rfl T.b_range (de_var 2))) (da_cons (de_op (op_sub_d) (DE.p (de_var 17)) (DE.p de_int)) da_nil))))))))))))))
    (dss_one (ds_ret de_bl))
    dss_nil)
    (dss_cons (ds_set 18 (DE.k (de_op (op_add_d rfl) (DE.p (de_op (op_add_d rfl) (DE.p (DF.e (df_lst (da_cons (de_tup da_nil) da_nil)))) (DE.p (DF.e (df_comp (own := [("k", 5)]) rfl sc_law.nd (DI.e (di_rng1 rfl T.b_range (da_cons (de_var 3) da_nil))) (blkOk_by (N := ["script", "dice", "keys", "many", "table", "k", "j", "secret", "count", "heard", "left", "key", "one", "reply", "replies", "row", "unlike", "need", "rows", "good", "line", "shares"]) (sc := defScope s_law) (by decide +kernel)) (fun _ _ _ _ _ => (dg_name 5 sc_law.nd)) (fun _ _ _ _ _ => dts_nil) (fun _ _ _ _ _ => (de_tup (da_cons (de_var 5) da_nil))) (by decide)))))) (DE.p (de_call (k_law_flat T) (hr.mono (by decide)) takes_cxD (da_cons (DF.e (df_comp (own := [("j", 6)]) rfl sc_law.nd (DI.e (di_rng1 rfl T.b_range (da_cons (de_var 3) da_nil))) (blkOk_by (N := ["script", "dice", "keys", "many", "table", "k", "j", "secret", "count", "heard", "left", "key", "one", "reply", "replies", "row", "unlike", "need", "rows", "good", "line", "shares"]) (sc := defScope s_law) (by decide +kernel)) (fun _ _ _ _ _ => (dg_name 6 sc_law.nd)) (fun _ _ _ _ _ => dts_nil) (fun _ _ _ _ _ => (DF.e (df_comp (own := [("k", 5)]) rfl sc_law.nd (DI.e (di_rng2 rfl T.b_range (da_cons (de_op (op_add_d rfl) (DE.p (de_var 6)) (DE.p de_int)) (da_cons (de_var 3) da_nil)))) (blkOk_by (N := ["script", "dice", "keys", "many", "table", "k", "j", "secret", "count", "heard", "left", "key", "one", "reply", "replies", "row", "unlike", "need", "rows", "good", "line", "shares"]) (sc := _) (by rfl)) (fun _ _ _ _ _ => (dg_name 5 sc_law.nd)) (fun _ _ _ _ _ => dts_nil) (fun _ _ _ _ _ => (de_tup (da_cons (de_var 6) (da_cons (de_var 5) da_nil)))) (by decide)))) (by decide))) da_nil))))) (by decide) sc_law.nd)
    (dss_cons (ds_set 18 (DE.k (de_op (op_add_d rfl) (DE.p (de_var 18)) (DE.p (de_if (dt_cmp (op_eq_d rfl (huD64 hr)) (DE.p (de_var 3)) (DE.p de_int)) (DF.e (df_lst (da_cons (de_tup (da_cons de_int (da_cons de_int (da_cons de_int da_nil)))) da_nil))) (DF.e (df_lst da_nil)))))) (by decide) sc_law.nd)
    (dss_cons (ds_setcomp 19 (own := [("row", 15)]) rfl sc_law.nd (DI.e (di_anyB rfl (de_var 18))) (blkOk_by (N := ["script", "dice", "keys", "many", "table", "k", "j", "secret", "count", "heard", "left", "key", "one", "reply", "replies", "row", "unlike", "need", "rows", "good", "line", "shares"]) (sc := defScope s_law) (by decide +kernel)) (fun _ _ _ _ _ => (dg_name 15 sc_law.nd)) (fun _ _ _ _ _ => (dts_one (dt_cmp (op_eq_d rfl (huD64 hr)) (DE.p (de_lenDict rfl rfl (huD hr) rfl T.b_len rfl T.b_dict (DF.e (df_comp (own := [("line", 20)]) rfl sc_law.nd (DI.e (di_anyB rfl (de_var 4))) (blkOk_by (N := ["script", "dice", "keys", "many", "table", "k", "j", "secret", "count", "heard", "left", "key", "one", "reply", "replies", "row", "unlike", "need", "rows", "good", "line", "shares"]) (sc := _) (by rfl)) (fun _ _ _ _ _ => (dg_name 20 sc_law.nd)) (fun _ _ _ _ _ => dts_nil) (fun _ _ _ _ _ => (de_tup (da_cons (de_callT (cd_tuple rfl) T.b_tuple rfl (dap_cons (DE.p (DF.e (df_comp (own := [("k", 5)]) rfl sc_law.nd (DI.e (di_anyB rfl (de_var 15))) (blkOk_by (N := ["script", "dice", "keys", "many", "table", "k", "j", "secret", "count", "heard", "left", "key", "one", "reply", "replies", "row", "unlike", "need", "rows", "good", "line", "shares"]) (sc := _) (by rfl)) (fun _ _ _ _ _ => (dg_name 5 sc_law.nd)) (fun _ _ _ _ _ => dts_nil) (fun _ _ _ _ _ => (de_sub rfl rfl (huD hr) (DE.p (de_var 20)) (DE.p (de_var 5)) fun _ _ => rfl)) (by decide)))) dap_nil)) (da_cons de_int da_nil)))) (by decide))))) (DE.p (de_var 2))))) (fun _ _ _ _ _ => (de_var 15)) (by decide) (by decide) (sw_true rfl rfl rfl (by decide +kernel)))
    (dss_cons (ds_if (dt_cmp (op_ne_d rfl (huD64 hr)) (DE.p (de_told (k := 3) (l := toldL) T.g_law_told kp0 lk0 cd0 bd0 sc_law_told rfl (Or.inl rfl) (gives_told T rfl rfl) (T.exm _) (mk_def T.tb_law rfl tm_law) (hr.mono (by decide)) (lamS_by (sc := defScope s_law) (by decide +kernel)) (fun _ _ _ _ _ _ _ _ hr' mk3_ => (de_call (k_fixed_questions T) (hr'.mono (by decide)) takes_lam (da_cons (de_var 4) da_nil))))) (DE.p (de_if (dt_cmp (op_neZ_d rfl (huD64 hr)) (dp_var 19) (DE.p (DF.e (df_lst da_nil)))) (de_sub rfl rfl (huD hr) (dp_var 19) (DE.p de_int) fun _ _ => rfl) (de_str [110, 111, 32, 119, 97, 121]))))
    (dss_one (ds_ret de_bl))
    dss_nil)
    (dss_cons (ds_if (dt_w (dw_and (dt_val (de_var 16)) (dw_and1 (dt_cmp (op_gt_d) (DE.p (de_var 17)) (DE.p (de_callB (cd_lenX rfl) T.b_len rfl (dap_cons (DE.p (de_sub rfl rfl (huD hr) (dp_var 19) (DE.p de_int) fun _ _ => rfl)) dap_nil)))))))
    (dss_one (ds_ret de_bl))
    dss_nil)
    (dss_cons (ds_set 21 (DE.k (DF.e (df_comp (own := [("key", 11)]) rfl sc_law.nd (die_any rfl (dp_var 10)) (blkOk_by (N := ["script", "dice", "keys", "many", "table", "k", "j", "secret", "count", "heard", "left", "key", "one", "reply", "replies", "row", "unlike", "need", "rows", "good", "line", "shares"]) (sc := defScope s_law) (by decide +kernel)) (fun _ _ _ _ _ => (dg_name 11 sc_law.nd)) (fun _ _ _ _ _ => dts_nil) (fun _ _ _ _ _ => (de_sub rfl rfl (huD hr) (DE.p (de_var 14)) (DE.p (de_var 11)) fun _ _ => rfl)) (by decide)))) (by decide) sc_law.nd)
    (dss_cons (ds_if (dt_cmp (op_ne_d rfl (huD64 hr)) (DE.p (de_call (k_guess_chance T) (hr.mono (by decide)) takes_cxD (da_cons (de_var 4) (da_cons (de_var 9) (da_cons (de_var 12) da_nil))))) (DE.p (de_tup (da_cons (de_callB (cd_max rfl rfl (huD hr)) T.b_max rfl (dap_cons (DE.p (DF.e (df_comp (own := [("reply", 13)]) rfl sc_law.nd (DI.e (di_str (de_str [97, 98, 99]))) (blkOk_by (N := ["script", "dice", "keys", "many", "table", "k", "j", "secret", "count", "heard", "left", "key", "one", "reply", "replies", "row", "unlike", "need", "rows", "good", "line", "shares"]) (sc := defScope s_law) (by decide +kernel)) (fun _ _ _ _ _ => (dg_name 13 sc_law.nd)) (fun _ _ _ _ _ => dts_nil) (fun _ _ _ _ _ => (de_bm (bm_countL rfl (huD hr)) rfl (DE.p (de_var 21)) (dap_cons (DE.p (de_var 13)) dap_nil))) (by decide)))) dap_nil)) (da_cons (de_callB (cd_lenX rfl) T.b_len rfl (dap_cons (dp_var 10) dap_nil)) da_nil)))))
    (dss_one (ds_ret de_bl))
    dss_nil)
    (dss_one (ds_if (dt_not (dt_val (de_call (k_law_rest1 T) (hr.mono (by decide)) takes_cxD (da_cons (de_var 1) (da_cons (de_var 2) (da_cons (de_var 4) (da_cons (de_var 7) (da_cons (de_var 12) (da_cons (de_var 16) da_nil)))))))))
    (dss_one (ds_ret de_bl))
    dss_nil)))))))))))))))))))))))))
    (pss_one (ps_ret pe_bl))⟩
end
theorem all_mk {l : PySem.W.OpenLaw} {w : World} {K : PySem.W.Frag} {h : Heap} {mg : Str → Option Value} {fa : Addr} {ts : List Addr} (X : K.In h) (hN : h.Ns mainGlobals mg) (hfa : mg "law" = some (.ref fa)) (hTS : ∀ P ∈ ts, h.get? P = some { cls := .none, data := .fields #[] })
    (hF : LawOk F_law 22)
    {f_law_dice f_law_roll f_law_rounds f_law_told f_check_table f_reply_of f_keys_left f_key_told f_parts_by f_are_unlike f_fewest_questions f_law_depth f_law_flat f_fixed_questions f_guess_chance f_day_key f_days_until_again f_safe_days f_turned_table f_changed_replies f_law_rest1 f_law x_BadBook x_BadFlag x_BadFleet x_BadHoist x_Foul x_NoWay x_TooLarge x_Unclear x_BadText k_check_table t_check_table k_keys_left t_keys_left k_safe_days t_safe_days k_law_rest1 t_law_rest1 k_law t_law : Addr} {oc_law_dice kV_law_dice dc_law_dice pm_law_dice ct_law_dice cd_law_dice : Value} {od_law_dice an_law_dice : Option Addr} {sl_law_dice : Array (Option Value)} {oc_law_roll kV_law_roll dc_law_roll pm_law_roll ct_law_roll cd_law_roll : Value} {od_law_roll an_law_roll : Option Addr} {sl_law_roll : Array (Option Value)} {oc_law_rounds kV_law_rounds dc_law_rounds pm_law_rounds ct_law_rounds cd_law_rounds : Value} {od_law_rounds an_law_rounds : Option Addr} {sl_law_rounds : Array (Option Value)} {oc_law_told kV_law_told dc_law_told pm_law_told ct_law_told cd_law_told : Value} {od_law_told an_law_told : Option Addr} {sl_law_told : Array (Option Value)} {oc_check_table kV_check_table dc_check_table pm_check_table ct_check_table : Value} {od_check_table an_check_table : Option Addr} {sl_check_table : Array (Option Value)} {oc_reply_of kV_reply_of dc_reply_of pm_reply_of ct_reply_of cd_reply_of : Value} {od_reply_of an_reply_of : Option Addr} {sl_reply_of : Array (Option Value)} {oc_keys_left kV_keys_left dc_keys_left pm_keys_left ct_keys_left : Value} {od_keys_left an_keys_left : Option Addr} {sl_keys_left : Array (Option Value)} {oc_key_told kV_key_told dc_key_told pm_key_told ct_key_told cd_key_told : Value} {od_key_told an_key_told : Option Addr} {sl_key_told : Array (Option Value)} {oc_parts_by kV_parts_by dc_parts_by pm_parts_by ct_parts_by cd_parts_by : Value} {od_parts_by an_parts_by : Option Addr} {sl_parts_by : Array (Option Value)} {oc_are_unlike kV_are_unlike dc_are_unlike pm_are_unlike ct_are_unlike cd_are_unlike : Value} {od_are_unlike an_are_unlike : Option Addr} {sl_are_unlike : Array (Option Value)} {oc_fewest_questions kV_fewest_questions dc_fewest_questions pm_fewest_questions ct_fewest_questions cd_fewest_questions : Value} {od_fewest_questions an_fewest_questions : Option Addr} {sl_fewest_questions : Array (Option Value)} {oc_law_depth kV_law_depth dc_law_depth pm_law_depth ct_law_depth cd_law_depth : Value} {od_law_depth an_law_depth : Option Addr} {sl_law_depth : Array (Option Value)} {oc_law_flat kV_law_flat dc_law_flat pm_law_flat ct_law_flat cd_law_flat : Value} {od_law_flat an_law_flat : Option Addr} {sl_law_flat : Array (Option Value)} {oc_fixed_questions kV_fixed_questions dc_fixed_questions pm_fixed_questions ct_fixed_questions cd_fixed_questions : Value} {od_fixed_questions an_fixed_questions : Option Addr} {sl_fixed_questions : Array (Option Value)} {oc_guess_chance kV_guess_chance dc_guess_chance pm_guess_chance ct_guess_chance cd_guess_chance : Value} {od_guess_chance an_guess_chance : Option Addr} {sl_guess_chance : Array (Option Value)} {oc_day_key kV_day_key dc_day_key pm_day_key ct_day_key cd_day_key : Value} {od_day_key an_day_key : Option Addr} {sl_day_key : Array (Option Value)} {oc_days_until_again kV_days_until_again dc_days_until_again pm_days_until_again ct_days_until_again cd_days_until_again : Value} {od_days_until_again an_days_until_again : Option Addr} {sl_days_until_again : Array (Option Value)} {oc_safe_days kV_safe_days dc_safe_days pm_safe_days ct_safe_days : Value} {od_safe_days an_safe_days : Option Addr} {sl_safe_days : Array (Option Value)} {oc_turned_table kV_turned_table dc_turned_table pm_turned_table ct_turned_table cd_turned_table : Value} {od_turned_table an_turned_table : Option Addr} {sl_turned_table : Array (Option Value)} {oc_changed_replies kV_changed_replies dc_changed_replies pm_changed_replies ct_changed_replies cd_changed_replies : Value} {od_changed_replies an_changed_replies : Option Addr} {sl_changed_replies : Array (Option Value)} {oc_law_rest1 kV_law_rest1 dc_law_rest1 pm_law_rest1 ct_law_rest1 : Value} {od_law_rest1 an_law_rest1 : Option Addr} {sl_law_rest1 : Array (Option Value)} {oc_law kV_law dc_law pm_law ct_law : Value} {od_law an_law : Option Addr} {sl_law : Array (Option Value)} {i_Unclear j_Unclear y_Unclear : Addr} {va_Unclear vb_Unclear vc_Unclear vd_Unclear ve_Unclear vf_Unclear vg_Unclear : Value} {oa_Unclear ob_Unclear oc_Unclear od_Unclear : Option Addr} {sa_Unclear sb_Unclear sc_Unclear : Array (Option Value)} {vs_Unclear : Array Value} {fi_Unclear : Str} {tf_Unclear : Tok} {vs_check_table : Array Value} {zo_check_table : Option Addr} {zs_check_table : Array (Option Value)} {vs_keys_left : Array Value} {zo_keys_left : Option Addr} {zs_keys_left : Array (Option Value)} {vs_safe_days : Array Value} {zo_safe_days : Option Addr} {zs_safe_days : Array (Option Value)} {vs_law_rest1 : Array Value} {zo_law_rest1 : Option Addr} {zs_law_rest1 : Array (Option Value)} {vs_law : Array Value} {zo_law : Option Addr} {zs_law : Array (Option Value)}
    (nk_law_dice : PySem.W.nsIn K mainGlobals "_law_dice" = some (some (.ref f_law_dice)))
    (lk_law_dice : K.lookup f_law_dice = some ⟨oc_law_dice, od_law_dice, .func (PySem.W.fnOf "_law_dice" "_law_dice" (defArgs s_law_dice) (defBody s_law_dice) (defScope s_law_dice) .none kV_law_dice dc_law_dice pm_law_dice an_law_dice cd_law_dice ct_law_dice), sl_law_dice⟩)
    (dk_law_dice : PySem.W.codeIn K cd_law_dice "_law_dice" = true)
    (kk_law_dice : PySem.W.keepIn K (.ref f_law_dice) = true)
    (nk_law_roll : PySem.W.nsIn K mainGlobals "_law_roll" = some (some (.ref f_law_roll)))
    (lk_law_roll : K.lookup f_law_roll = some ⟨oc_law_roll, od_law_roll, .func (PySem.W.fnOf "_law_roll" "_law_roll" (defArgs s_law_roll) (defBody s_law_roll) (defScope s_law_roll) .none kV_law_roll dc_law_roll pm_law_roll an_law_roll cd_law_roll ct_law_roll), sl_law_roll⟩)
    (dk_law_roll : PySem.W.codeIn K cd_law_roll "_law_roll" = true)
    (kk_law_roll : PySem.W.keepIn K (.ref f_law_roll) = true)
    (nk_law_rounds : PySem.W.nsIn K mainGlobals "_law_rounds" = some (some (.ref f_law_rounds)))
    (lk_law_rounds : K.lookup f_law_rounds = some ⟨oc_law_rounds, od_law_rounds, .func (PySem.W.fnOf "_law_rounds" "_law_rounds" (defArgs s_law_rounds) (defBody s_law_rounds) (defScope s_law_rounds) .none kV_law_rounds dc_law_rounds pm_law_rounds an_law_rounds cd_law_rounds ct_law_rounds), sl_law_rounds⟩)
    (dk_law_rounds : PySem.W.codeIn K cd_law_rounds "_law_rounds" = true)
    (kk_law_rounds : PySem.W.keepIn K (.ref f_law_rounds) = true)
    (nk_law_told : PySem.W.nsIn K mainGlobals "_law_told" = some (some (.ref f_law_told)))
    (lk_law_told : K.lookup f_law_told = some ⟨oc_law_told, od_law_told, .func (PySem.W.fnOf "_law_told" "_law_told" (defArgs s_law_told) (defBody s_law_told) (defScope s_law_told) .none kV_law_told dc_law_told pm_law_told an_law_told cd_law_told ct_law_told), sl_law_told⟩)
    (dk_law_told : PySem.W.codeIn K cd_law_told "_law_told" = true)
    (kk_law_told : PySem.W.keepIn K (.ref f_law_told) = true)
    (nk_check_table : PySem.W.nsIn K mainGlobals "check_table" = some (some (.ref f_check_table)))
    (lk_check_table : K.lookup f_check_table = some ⟨oc_check_table, od_check_table, .func (PySem.W.fnOf "check_table" "check_table" (defArgs s_check_table) (defBody s_check_table) (defScope s_check_table) .none kV_check_table dc_check_table pm_check_table an_check_table (.ref k_check_table) ct_check_table), sl_check_table⟩)
    (dk_check_table : PySem.W.codeIn K (.ref k_check_table) "check_table" = true)
    (kk_check_table : PySem.W.keepIn K (.ref f_check_table) = true)
    (nk_reply_of : PySem.W.nsIn K mainGlobals "reply_of" = some (some (.ref f_reply_of)))
    (lk_reply_of : K.lookup f_reply_of = some ⟨oc_reply_of, od_reply_of, .func (PySem.W.fnOf "reply_of" "reply_of" (defArgs s_reply_of) (defBody s_reply_of) (defScope s_reply_of) .none kV_reply_of dc_reply_of pm_reply_of an_reply_of cd_reply_of ct_reply_of), sl_reply_of⟩)
    (dk_reply_of : PySem.W.codeIn K cd_reply_of "reply_of" = true)
    (kk_reply_of : PySem.W.keepIn K (.ref f_reply_of) = true)
    (nk_keys_left : PySem.W.nsIn K mainGlobals "keys_left" = some (some (.ref f_keys_left)))
    (lk_keys_left : K.lookup f_keys_left = some ⟨oc_keys_left, od_keys_left, .func (PySem.W.fnOf "keys_left" "keys_left" (defArgs s_keys_left) (defBody s_keys_left) (defScope s_keys_left) .none kV_keys_left dc_keys_left pm_keys_left an_keys_left (.ref k_keys_left) ct_keys_left), sl_keys_left⟩)
    (dk_keys_left : PySem.W.codeIn K (.ref k_keys_left) "keys_left" = true)
    (kk_keys_left : PySem.W.keepIn K (.ref f_keys_left) = true)
    (nk_key_told : PySem.W.nsIn K mainGlobals "key_told" = some (some (.ref f_key_told)))
    (lk_key_told : K.lookup f_key_told = some ⟨oc_key_told, od_key_told, .func (PySem.W.fnOf "key_told" "key_told" (defArgs s_key_told) (defBody s_key_told) (defScope s_key_told) .none kV_key_told dc_key_told pm_key_told an_key_told cd_key_told ct_key_told), sl_key_told⟩)
    (dk_key_told : PySem.W.codeIn K cd_key_told "key_told" = true)
    (kk_key_told : PySem.W.keepIn K (.ref f_key_told) = true)
    (nk_parts_by : PySem.W.nsIn K mainGlobals "parts_by" = some (some (.ref f_parts_by)))
    (lk_parts_by : K.lookup f_parts_by = some ⟨oc_parts_by, od_parts_by, .func (PySem.W.fnOf "parts_by" "parts_by" (defArgs s_parts_by) (defBody s_parts_by) (defScope s_parts_by) .none kV_parts_by dc_parts_by pm_parts_by an_parts_by cd_parts_by ct_parts_by), sl_parts_by⟩)
    (dk_parts_by : PySem.W.codeIn K cd_parts_by "parts_by" = true)
    (kk_parts_by : PySem.W.keepIn K (.ref f_parts_by) = true)
    (nk_are_unlike : PySem.W.nsIn K mainGlobals "are_unlike" = some (some (.ref f_are_unlike)))
    (lk_are_unlike : K.lookup f_are_unlike = some ⟨oc_are_unlike, od_are_unlike, .func (PySem.W.fnOf "are_unlike" "are_unlike" (defArgs s_are_unlike) (defBody s_are_unlike) (defScope s_are_unlike) .none kV_are_unlike dc_are_unlike pm_are_unlike an_are_unlike cd_are_unlike ct_are_unlike), sl_are_unlike⟩)
    (dk_are_unlike : PySem.W.codeIn K cd_are_unlike "are_unlike" = true)
    (kk_are_unlike : PySem.W.keepIn K (.ref f_are_unlike) = true)
    (nk_fewest_questions : PySem.W.nsIn K mainGlobals "fewest_questions" = some (some (.ref f_fewest_questions)))
    (lk_fewest_questions : K.lookup f_fewest_questions = some ⟨oc_fewest_questions, od_fewest_questions, .func (PySem.W.fnOf "fewest_questions" "fewest_questions" (defArgs s_fewest_questions) (defBody s_fewest_questions) (defScope s_fewest_questions) .none kV_fewest_questions dc_fewest_questions pm_fewest_questions an_fewest_questions cd_fewest_questions ct_fewest_questions), sl_fewest_questions⟩)
    (dk_fewest_questions : PySem.W.codeIn K cd_fewest_questions "fewest_questions" = true)
    (kk_fewest_questions : PySem.W.keepIn K (.ref f_fewest_questions) = true)
    (nk_law_depth : PySem.W.nsIn K mainGlobals "_law_depth" = some (some (.ref f_law_depth)))
    (lk_law_depth : K.lookup f_law_depth = some ⟨oc_law_depth, od_law_depth, .func (PySem.W.fnOf "_law_depth" "_law_depth" (defArgs s_law_depth) (defBody s_law_depth) (defScope s_law_depth) .none kV_law_depth dc_law_depth pm_law_depth an_law_depth cd_law_depth ct_law_depth), sl_law_depth⟩)
    (dk_law_depth : PySem.W.codeIn K cd_law_depth "_law_depth" = true)
    (kk_law_depth : PySem.W.keepIn K (.ref f_law_depth) = true)
    (nk_law_flat : PySem.W.nsIn K mainGlobals "_law_flat" = some (some (.ref f_law_flat)))
    (lk_law_flat : K.lookup f_law_flat = some ⟨oc_law_flat, od_law_flat, .func (PySem.W.fnOf "_law_flat" "_law_flat" (defArgs s_law_flat) (defBody s_law_flat) (defScope s_law_flat) .none kV_law_flat dc_law_flat pm_law_flat an_law_flat cd_law_flat ct_law_flat), sl_law_flat⟩)
    (dk_law_flat : PySem.W.codeIn K cd_law_flat "_law_flat" = true)
    (kk_law_flat : PySem.W.keepIn K (.ref f_law_flat) = true)
    (nk_fixed_questions : PySem.W.nsIn K mainGlobals "fixed_questions" = some (some (.ref f_fixed_questions)))
    (lk_fixed_questions : K.lookup f_fixed_questions = some ⟨oc_fixed_questions, od_fixed_questions, .func (PySem.W.fnOf "fixed_questions" "fixed_questions" (defArgs s_fixed_questions) (defBody s_fixed_questions) (defScope s_fixed_questions) .none kV_fixed_questions dc_fixed_questions pm_fixed_questions an_fixed_questions cd_fixed_questions ct_fixed_questions), sl_fixed_questions⟩)
    (dk_fixed_questions : PySem.W.codeIn K cd_fixed_questions "fixed_questions" = true)
    (kk_fixed_questions : PySem.W.keepIn K (.ref f_fixed_questions) = true)
    (nk_guess_chance : PySem.W.nsIn K mainGlobals "guess_chance" = some (some (.ref f_guess_chance)))
    (lk_guess_chance : K.lookup f_guess_chance = some ⟨oc_guess_chance, od_guess_chance, .func (PySem.W.fnOf "guess_chance" "guess_chance" (defArgs s_guess_chance) (defBody s_guess_chance) (defScope s_guess_chance) .none kV_guess_chance dc_guess_chance pm_guess_chance an_guess_chance cd_guess_chance ct_guess_chance), sl_guess_chance⟩)
    (dk_guess_chance : PySem.W.codeIn K cd_guess_chance "guess_chance" = true)
    (kk_guess_chance : PySem.W.keepIn K (.ref f_guess_chance) = true)
    (nk_day_key : PySem.W.nsIn K mainGlobals "day_key" = some (some (.ref f_day_key)))
    (lk_day_key : K.lookup f_day_key = some ⟨oc_day_key, od_day_key, .func (PySem.W.fnOf "day_key" "day_key" (defArgs s_day_key) (defBody s_day_key) (defScope s_day_key) .none kV_day_key dc_day_key pm_day_key an_day_key cd_day_key ct_day_key), sl_day_key⟩)
    (dk_day_key : PySem.W.codeIn K cd_day_key "day_key" = true)
    (kk_day_key : PySem.W.keepIn K (.ref f_day_key) = true)
    (nk_days_until_again : PySem.W.nsIn K mainGlobals "days_until_again" = some (some (.ref f_days_until_again)))
    (lk_days_until_again : K.lookup f_days_until_again = some ⟨oc_days_until_again, od_days_until_again, .func (PySem.W.fnOf "days_until_again" "days_until_again" (defArgs s_days_until_again) (defBody s_days_until_again) (defScope s_days_until_again) .none kV_days_until_again dc_days_until_again pm_days_until_again an_days_until_again cd_days_until_again ct_days_until_again), sl_days_until_again⟩)
    (dk_days_until_again : PySem.W.codeIn K cd_days_until_again "days_until_again" = true)
    (kk_days_until_again : PySem.W.keepIn K (.ref f_days_until_again) = true)
    (nk_safe_days : PySem.W.nsIn K mainGlobals "safe_days" = some (some (.ref f_safe_days)))
    (lk_safe_days : K.lookup f_safe_days = some ⟨oc_safe_days, od_safe_days, .func (PySem.W.fnOf "safe_days" "safe_days" (defArgs s_safe_days) (defBody s_safe_days) (defScope s_safe_days) .none kV_safe_days dc_safe_days pm_safe_days an_safe_days (.ref k_safe_days) ct_safe_days), sl_safe_days⟩)
    (dk_safe_days : PySem.W.codeIn K (.ref k_safe_days) "safe_days" = true)
    (kk_safe_days : PySem.W.keepIn K (.ref f_safe_days) = true)
    (nk_turned_table : PySem.W.nsIn K mainGlobals "turned_table" = some (some (.ref f_turned_table)))
    (lk_turned_table : K.lookup f_turned_table = some ⟨oc_turned_table, od_turned_table, .func (PySem.W.fnOf "turned_table" "turned_table" (defArgs s_turned_table) (defBody s_turned_table) (defScope s_turned_table) .none kV_turned_table dc_turned_table pm_turned_table an_turned_table cd_turned_table ct_turned_table), sl_turned_table⟩)
    (dk_turned_table : PySem.W.codeIn K cd_turned_table "turned_table" = true)
    (kk_turned_table : PySem.W.keepIn K (.ref f_turned_table) = true)
    (nk_changed_replies : PySem.W.nsIn K mainGlobals "changed_replies" = some (some (.ref f_changed_replies)))
    (lk_changed_replies : K.lookup f_changed_replies = some ⟨oc_changed_replies, od_changed_replies, .func (PySem.W.fnOf "changed_replies" "changed_replies" (defArgs s_changed_replies) (defBody s_changed_replies) (defScope s_changed_replies) .none kV_changed_replies dc_changed_replies pm_changed_replies an_changed_replies cd_changed_replies ct_changed_replies), sl_changed_replies⟩)
    (dk_changed_replies : PySem.W.codeIn K cd_changed_replies "changed_replies" = true)
    (kk_changed_replies : PySem.W.keepIn K (.ref f_changed_replies) = true)
    (nk_law_rest1 : PySem.W.nsIn K mainGlobals "_law_rest1" = some (some (.ref f_law_rest1)))
    (lk_law_rest1 : K.lookup f_law_rest1 = some ⟨oc_law_rest1, od_law_rest1, .func (PySem.W.fnOf "_law_rest1" "_law_rest1" (defArgs s_law_rest1) (defBody s_law_rest1) (defScope s_law_rest1) .none kV_law_rest1 dc_law_rest1 pm_law_rest1 an_law_rest1 (.ref k_law_rest1) ct_law_rest1), sl_law_rest1⟩)
    (dk_law_rest1 : PySem.W.codeIn K (.ref k_law_rest1) "_law_rest1" = true)
    (kk_law_rest1 : PySem.W.keepIn K (.ref f_law_rest1) = true)
    (nk_law : PySem.W.nsIn K mainGlobals "law" = some (some (.ref f_law)))
    (lk_law : K.lookup f_law = some ⟨oc_law, od_law, .func (PySem.W.fnOf "law" "law" (defArgs s_law) (defBody s_law) (defScope s_law) .none kV_law dc_law pm_law an_law (.ref k_law) ct_law), sl_law⟩)
    (dk_law : PySem.W.codeIn K (.ref k_law) "law" = true)
    (kk_law : PySem.W.keepIn K (.ref f_law) = true)
    (xn_BadBook : PySem.W.nsIn K mainGlobals "BadBook" = some (some (.ref x_BadBook)))
    (xe_BadBook : PySem.W.excIn K x_BadBook [.type "ValueError", .type "Exception", .type "BaseException", .type "object"] "ValueError.__new__" = true)
    (xk_BadBook : PySem.W.keepIn K (.ref x_BadBook) = true)
    (xs_BadBook : PySem.W.subIn K (.ref x_BadBook) (.type "BaseException") = some true)
    (xt_BadBook : PySem.W.typeIn K (.ref x_BadBook) = some (.type "type"))
    (xn_BadFlag : PySem.W.nsIn K mainGlobals "BadFlag" = some (some (.ref x_BadFlag)))
    (xe_BadFlag : PySem.W.excIn K x_BadFlag [.type "ValueError", .type "Exception", .type "BaseException", .type "object"] "ValueError.__new__" = true)
    (xk_BadFlag : PySem.W.keepIn K (.ref x_BadFlag) = true)
    (xs_BadFlag : PySem.W.subIn K (.ref x_BadFlag) (.type "BaseException") = some true)
    (xt_BadFlag : PySem.W.typeIn K (.ref x_BadFlag) = some (.type "type"))
    (xn_BadFleet : PySem.W.nsIn K mainGlobals "BadFleet" = some (some (.ref x_BadFleet)))
    (xe_BadFleet : PySem.W.excIn K x_BadFleet [.type "ValueError", .type "Exception", .type "BaseException", .type "object"] "ValueError.__new__" = true)
    (xk_BadFleet : PySem.W.keepIn K (.ref x_BadFleet) = true)
    (xs_BadFleet : PySem.W.subIn K (.ref x_BadFleet) (.type "BaseException") = some true)
    (xt_BadFleet : PySem.W.typeIn K (.ref x_BadFleet) = some (.type "type"))
    (xn_BadHoist : PySem.W.nsIn K mainGlobals "BadHoist" = some (some (.ref x_BadHoist)))
    (xe_BadHoist : PySem.W.excIn K x_BadHoist [.type "ValueError", .type "Exception", .type "BaseException", .type "object"] "ValueError.__new__" = true)
    (xk_BadHoist : PySem.W.keepIn K (.ref x_BadHoist) = true)
    (xs_BadHoist : PySem.W.subIn K (.ref x_BadHoist) (.type "BaseException") = some true)
    (xt_BadHoist : PySem.W.typeIn K (.ref x_BadHoist) = some (.type "type"))
    (xn_Foul : PySem.W.nsIn K mainGlobals "Foul" = some (some (.ref x_Foul)))
    (xn_NoWay : PySem.W.nsIn K mainGlobals "NoWay" = some (some (.ref x_NoWay)))
    (xe_NoWay : PySem.W.excIn K x_NoWay [.type "ValueError", .type "Exception", .type "BaseException", .type "object"] "ValueError.__new__" = true)
    (xk_NoWay : PySem.W.keepIn K (.ref x_NoWay) = true)
    (xs_NoWay : PySem.W.subIn K (.ref x_NoWay) (.type "BaseException") = some true)
    (xt_NoWay : PySem.W.typeIn K (.ref x_NoWay) = some (.type "type"))
    (xn_TooLarge : PySem.W.nsIn K mainGlobals "TooLarge" = some (some (.ref x_TooLarge)))
    (xe_TooLarge : PySem.W.excIn K x_TooLarge [.type "ValueError", .type "Exception", .type "BaseException", .type "object"] "ValueError.__new__" = true)
    (xk_TooLarge : PySem.W.keepIn K (.ref x_TooLarge) = true)
    (xs_TooLarge : PySem.W.subIn K (.ref x_TooLarge) (.type "BaseException") = some true)
    (xt_TooLarge : PySem.W.typeIn K (.ref x_TooLarge) = some (.type "type"))
    (xn_Unclear : PySem.W.nsIn K mainGlobals "Unclear" = some (some (.ref x_Unclear)))
    (xn_BadText : PySem.W.nsIn K mainGlobals "BadText" = some (some (.ref x_BadText)))
    (u1_Unclear : DSX.supCls K x_Unclear = true)
    (u2_Unclear : PySem.W.findIn K (.ref x_Unclear) "__setattr__" = some (some (.builtin "object.__setattr__")))
    (u3_Unclear : PySem.W.subIn K (.ref x_Unclear) (.type "BaseException") = some true)
    (u4_Unclear : PySem.W.typeIn K (.ref x_Unclear) = some (.type "type"))
    (u5_Unclear : PySem.W.keepIn K (.ref x_Unclear) = true)
    (u6_Unclear : PySem.W.findIn K (.ref x_Unclear) "__init__" = some (some (.ref i_Unclear)))
    (u7_Unclear : PySem.W.typeIn K (.ref i_Unclear) = some (.type "function"))
    (u8_Unclear : PySem.W.mroIn K x_Unclear (.ref x_Unclear) = some true)
    (u9_Unclear : PySem.W.subIn K (.ref x_Unclear) (.type "ValueError") = some true)
    (u10_Unclear : PySem.W.ks_superIn K x_Unclear x_Unclear "__init__" = some (some (.builtin "ValueError.__init__")))
    (u11_Unclear : PySem.W.nsIn K cStatics "thirdparty.any" = some none)
    (u12_Unclear : K.lookup i_Unclear = some ⟨va_Unclear, oa_Unclear, .func (PySem.W.ksFn "__init__" "Unclear.__init__" (defArgs s_sup_Unclear) (defBody s_sup_Unclear) (defScope s_sup_Unclear) .none vb_Unclear vc_Unclear vd_Unclear ob_Unclear (.ref y_Unclear) ve_Unclear j_Unclear), sa_Unclear⟩)
    (u13_Unclear : PySem.W.codeIn K (.ref y_Unclear) "Unclear.__init__" = true)
    (u14_Unclear : K.lookup y_Unclear = some ⟨vf_Unclear, oc_Unclear, .fields vs_Unclear, sb_Unclear⟩)
    (u15_Unclear : (vs_Unclear[2]? : Option Value) = some (.str fi_Unclear tf_Unclear))
    (u16_Unclear : ((l.prog.main.file : Str) == fi_Unclear) = true)
    (u17_Unclear : K.lookup j_Unclear = some ⟨vg_Unclear, od_Unclear, .cell (some (.ref x_Unclear)), sc_Unclear⟩)
    (u18_Unclear : PySem.W.findIn K (.ref x_Unclear) "many" = some none)
    (u19_Unclear : (l.prog.main.scope.names.lookup ("super" : Str)).isSome = false)
    (exu : subB K (excA ⟨f_law_dice, f_law_roll, f_law_rounds, f_law_told, f_check_table, f_reply_of, f_keys_left, f_key_told, f_parts_by, f_are_unlike, f_fewest_questions, f_law_depth, f_law_flat, f_fixed_questions, f_guess_chance, f_day_key, f_days_until_again, f_safe_days, f_turned_table, f_changed_replies, f_law_rest1, f_law, x_BadBook, x_BadFlag, x_BadFleet, x_BadHoist, x_Foul, x_NoWay, x_TooLarge, x_Unclear, x_BadText, k_check_table, t_check_table, k_keys_left, t_keys_left, k_safe_days, t_safe_days, k_law_rest1, t_law_rest1, k_law, t_law⟩) 0 excL = true)
    (exq : exmB K (excA ⟨f_law_dice, f_law_roll, f_law_rounds, f_law_told, f_check_table, f_reply_of, f_keys_left, f_key_told, f_parts_by, f_are_unlike, f_fewest_questions, f_law_depth, f_law_flat, f_fixed_questions, f_guess_chance, f_day_key, f_days_until_again, f_safe_days, f_turned_table, f_changed_replies, f_law_rest1, f_law, x_BadBook, x_BadFlag, x_BadFleet, x_BadHoist, x_Foul, x_NoWay, x_TooLarge, x_Unclear, x_BadText, k_check_table, t_check_table, k_keys_left, t_keys_left, k_safe_days, t_safe_days, k_law_rest1, t_law_rest1, k_law, t_law⟩) (toldL.map (·.1)) = true)
    (bz_range : PySem.W.nsIn K mainGlobals "range" = some none)
    (bz_len : PySem.W.nsIn K mainGlobals "len" = some none)
    (bz_any : PySem.W.nsIn K mainGlobals "any" = some none)
    (bz_all : PySem.W.nsIn K mainGlobals "all" = some none)
    (bz_tuple : PySem.W.nsIn K mainGlobals "tuple" = some none)
    (bz_list : PySem.W.nsIn K mainGlobals "list" = some none)
    (bz_super : PySem.W.nsIn K mainGlobals "super" = some none)
    (bz_sorted : PySem.W.nsIn K mainGlobals "sorted" = some none)
    (bz_dict : PySem.W.nsIn K mainGlobals "dict" = some none)
    (bz_max : PySem.W.nsIn K mainGlobals "max" = some none)
    (bz_min : PySem.W.nsIn K mainGlobals "min" = some none)
    (bz_int : PySem.W.nsIn K mainGlobals "int" = some none)
    (bz_abs : PySem.W.nsIn K mainGlobals "abs" = some none)
    (zl_check_table : K.lookup k_check_table = some ⟨.type "code", zo_check_table, .fields vs_check_table, zs_check_table⟩)
    (zv_check_table : (vs_check_table[11]? : Option Value) = some (.ref t_check_table))
    (zh_check_table : PySem.W.codeHdIn K k_check_table t_check_table = true)
    (zn_check_table : K.lookup t_check_table = none)
    (zt_check_table : t_check_table ∈ ts)
    (zl_keys_left : K.lookup k_keys_left = some ⟨.type "code", zo_keys_left, .fields vs_keys_left, zs_keys_left⟩)
    (zv_keys_left : (vs_keys_left[11]? : Option Value) = some (.ref t_keys_left))
    (zh_keys_left : PySem.W.codeHdIn K k_keys_left t_keys_left = true)
    (zn_keys_left : K.lookup t_keys_left = none)
    (zt_keys_left : t_keys_left ∈ ts)
    (zl_safe_days : K.lookup k_safe_days = some ⟨.type "code", zo_safe_days, .fields vs_safe_days, zs_safe_days⟩)
    (zv_safe_days : (vs_safe_days[11]? : Option Value) = some (.ref t_safe_days))
    (zh_safe_days : PySem.W.codeHdIn K k_safe_days t_safe_days = true)
    (zn_safe_days : K.lookup t_safe_days = none)
    (zt_safe_days : t_safe_days ∈ ts)
    (zl_law_rest1 : K.lookup k_law_rest1 = some ⟨.type "code", zo_law_rest1, .fields vs_law_rest1, zs_law_rest1⟩)
    (zv_law_rest1 : (vs_law_rest1[11]? : Option Value) = some (.ref t_law_rest1))
    (zh_law_rest1 : PySem.W.codeHdIn K k_law_rest1 t_law_rest1 = true)
    (zn_law_rest1 : K.lookup t_law_rest1 = none)
    (zt_law_rest1 : t_law_rest1 ∈ ts)
    (zl_law : K.lookup k_law = some ⟨.type "code", zo_law, .fields vs_law, zs_law⟩)
    (zv_law : (vs_law[11]? : Option Value) = some (.ref t_law))
    (zh_law : PySem.W.codeHdIn K k_law t_law = true)
    (zn_law : K.lookup t_law = none)
    (zt_law : t_law ∈ ts)
    (ne_check_table_keys_left : t_check_table ≠ t_keys_left)
    (ne_check_table_safe_days : t_check_table ≠ t_safe_days)
    (ne_check_table_law_rest1 : t_check_table ≠ t_law_rest1)
    (ne_check_table_law : t_check_table ≠ t_law)
    (ne_keys_left_safe_days : t_keys_left ≠ t_safe_days)
    (ne_keys_left_law_rest1 : t_keys_left ≠ t_law_rest1)
    (ne_keys_left_law : t_keys_left ≠ t_law)
    (ne_safe_days_law_rest1 : t_safe_days ≠ t_law_rest1)
    (ne_safe_days_law : t_safe_days ≠ t_law)
    (ne_law_rest1_law : t_law_rest1 ≠ t_law) :
    LawAtS l w K (L2.CX l.prog w) 16 63 "script" mg fa h := by
  have M : ∀ {x : Str} {v : Value}, PySem.W.nsIn K mainGlobals x = some (some v) → mg x = some v := fun e => PySem.W.mg_of X hN e
  have M0 : ∀ {x : Str}, PySem.W.nsIn K mainGlobals x = some none → mg x = none := fun e => PySem.W.mg_none_of X hN e
  have e := hfa.symm.trans (M nk_law)
  have e2 : f_law = fa := by injection e with e; injection e with e; exact e.symm
  subst e2
  have TT : ∀ base : Heap, (∀ p ∈ ([(k_check_table, t_check_table), (k_keys_left, t_keys_left), (k_safe_days, t_safe_days), (k_law_rest1, t_law_rest1), (k_law, t_law)] : List (Addr × Addr)), TabB base mg p.1 p.2) → Txt l.prog w K mg base ⟨f_law_dice, f_law_roll, f_law_rounds, f_law_told, f_check_table, f_reply_of, f_keys_left, f_key_told, f_parts_by, f_are_unlike, f_fewest_questions, f_law_depth, f_law_flat, f_fixed_questions, f_guess_chance, f_day_key, f_days_until_again, f_safe_days, f_turned_table, f_changed_replies, f_law_rest1, f_law, x_BadBook, x_BadFlag, x_BadFleet, x_BadHoist, x_Foul, x_NoWay, x_TooLarge, x_Unclear, x_BadText, k_check_table, t_check_table, k_keys_left, t_keys_left, k_safe_days, t_safe_days, k_law_rest1, t_law_rest1, k_law, t_law⟩ := fun base hTB => {
    b_range := M0 bz_range,
    b_len := M0 bz_len,
    b_any := M0 bz_any,
    b_all := M0 bz_all,
    b_tuple := M0 bz_tuple,
    b_list := M0 bz_list,
    b_super := M0 bz_super,
    b_sorted := M0 bz_sorted,
    b_dict := M0 bz_dict,
    b_max := M0 bz_max,
    b_min := M0 bz_min,
    b_int := M0 bz_int,
    b_abs := M0 bz_abs,
    g_law_dice := M nk_law_dice,
    e_law_dice := funE_of lk_law_dice dk_law_dice kk_law_dice (fun us hl => match us, hl with | [_], _ => rfl),
    g_law_roll := M nk_law_roll,
    e_law_roll := funE_of lk_law_roll dk_law_roll kk_law_roll (fun us hl => match us, hl with | [_, _], _ => rfl),
    g_law_rounds := M nk_law_rounds,
    e_law_rounds := funE_of lk_law_rounds dk_law_rounds kk_law_rounds (fun us hl => match us, hl with | [_, _], _ => rfl),
    g_law_told := M nk_law_told,
    l_told := ⟨_, _, _, _, _, _, _, _, _, lk_law_told, dk_law_told, kk_law_told, .all (fun us hl => match us, hl with | [_], _ => rfl)⟩,
    g_check_table := M nk_check_table,
    e_check_table := funC_of lk_check_table dk_check_table kk_check_table (fun us hl => match us, hl with | [_], _ => rfl),
    g_reply_of := M nk_reply_of,
    e_reply_of := funE_of lk_reply_of dk_reply_of kk_reply_of (fun us hl => match us, hl with | [_, _, _], _ => rfl),
    g_keys_left := M nk_keys_left,
    e_keys_left := funC_of lk_keys_left dk_keys_left kk_keys_left (fun us hl => match us, hl with | [_, _], _ => rfl),
    g_key_told := M nk_key_told,
    e_key_told := funE_of lk_key_told dk_key_told kk_key_told (fun us hl => match us, hl with | [_, _], _ => rfl),
    g_parts_by := M nk_parts_by,
    e_parts_by := funE_of lk_parts_by dk_parts_by kk_parts_by (fun us hl => match us, hl with | [_, _, _], _ => rfl),
    g_are_unlike := M nk_are_unlike,
    e_are_unlike := funE_of lk_are_unlike dk_are_unlike kk_are_unlike (fun us hl => match us, hl with | [_], _ => rfl),
    g_fewest_questions := M nk_fewest_questions,
    e_fewest_questions := funE_of lk_fewest_questions dk_fewest_questions kk_fewest_questions (fun us hl => match us, hl with | [_, _], _ => rfl),
    g_law_depth := M nk_law_depth,
    e_law_depth := funE_of lk_law_depth dk_law_depth kk_law_depth (fun us hl => match us, hl with | [_, _, _], _ => rfl),
    g_law_flat := M nk_law_flat,
    e_law_flat := funE_of lk_law_flat dk_law_flat kk_law_flat (fun us hl => match us, hl with | [_], _ => rfl),
    g_fixed_questions := M nk_fixed_questions,
    e_fixed_questions := funE_of lk_fixed_questions dk_fixed_questions kk_fixed_questions (fun us hl => match us, hl with | [_], _ => rfl),
    g_guess_chance := M nk_guess_chance,
    e_guess_chance := funE_of lk_guess_chance dk_guess_chance kk_guess_chance (fun us hl => match us, hl with | [_, _, _], _ => rfl),
    g_day_key := M nk_day_key,
    e_day_key := funE_of lk_day_key dk_day_key kk_day_key (fun us hl => match us, hl with | [_, _, _, _], _ => rfl),
    g_days_until_again := M nk_days_until_again,
    e_days_until_again := funE_of lk_days_until_again dk_days_until_again kk_days_until_again (fun us hl => match us, hl with | [_, _], _ => rfl),
    g_safe_days := M nk_safe_days,
    e_safe_days := funC_of lk_safe_days dk_safe_days kk_safe_days (fun us hl => match us, hl with | [_, _, _, _, _], _ => rfl),
    g_turned_table := M nk_turned_table,
    e_turned_table := funE_of lk_turned_table dk_turned_table kk_turned_table (fun us hl => match us, hl with | [_], _ => rfl),
    g_changed_replies := M nk_changed_replies,
    e_changed_replies := funE_of lk_changed_replies dk_changed_replies kk_changed_replies (fun us hl => match us, hl with | [_, _], _ => rfl),
    g_law_rest1 := M nk_law_rest1,
    e_law_rest1 := funC_of lk_law_rest1 dk_law_rest1 kk_law_rest1 (fun us hl => match us, hl with | [_, _, _, _, _, _], _ => rfl),
    g_law := M nk_law,
    e_law := funC_of lk_law dk_law kk_law (fun us hl => match us, hl with | [_], _ => rfl),
    x_BadBook := ⟨xe_BadBook, M xn_BadBook, xk_BadBook, xs_BadBook, xt_BadBook⟩,
    x_BadFlag := ⟨xe_BadFlag, M xn_BadFlag, xk_BadFlag, xs_BadFlag, xt_BadFlag⟩,
    x_BadFleet := ⟨xe_BadFleet, M xn_BadFleet, xk_BadFleet, xs_BadFleet, xt_BadFleet⟩,
    x_BadHoist := ⟨xe_BadHoist, M xn_BadHoist, xk_BadHoist, xs_BadHoist, xt_BadHoist⟩,
    x_Foul := M xn_Foul,
    x_NoWay := ⟨xe_NoWay, M xn_NoWay, xk_NoWay, xs_NoWay, xt_NoWay⟩,
    x_TooLarge := ⟨xe_TooLarge, M xn_TooLarge, xk_TooLarge, xs_TooLarge, xt_TooLarge⟩,
    x_Unclear := M xn_Unclear,
    x_BadText := M xn_BadText,
    s_Unclear := DSX.supC_of (st := s_sup_Unclear) (fx := "many") (px := "many") u1_Unclear u2_Unclear u3_Unclear u4_Unclear u5_Unclear u6_Unclear u7_Unclear u8_Unclear u9_Unclear u10_Unclear u11_Unclear (M0 bz_super) u12_Unclear u13_Unclear u14_Unclear u15_Unclear u16_Unclear u17_Unclear u18_Unclear u19_Unclear rfl rfl rfl (by decide) rfl rfl rfl rfl (by decide) rfl rfl rfl (by decide) (by decide) (fun us hl => match us, hl with | [_, _], _ => rfl),
    sub := fun _ => sub_by exu,
    exm := fun _ => exm_by exq,
    tb_check_table := hTB (k_check_table, t_check_table) (by simp),
    tb_keys_left := hTB (k_keys_left, t_keys_left) (by simp),
    tb_safe_days := hTB (k_safe_days, t_safe_days) (by simp),
    tb_law_rest1 := hTB (k_law_rest1, t_law_rest1) (by simp),
    tb_law := hTB (k_law, t_law) (by simp),
    ne_check_table_keys_left := ne_check_table_keys_left,
    ne_check_table_safe_days := ne_check_table_safe_days,
    ne_check_table_law_rest1 := ne_check_table_law_rest1,
    ne_check_table_law := ne_check_table_law,
    ne_keys_left_safe_days := ne_keys_left_safe_days,
    ne_keys_left_law_rest1 := ne_keys_left_law_rest1,
    ne_keys_left_law := ne_keys_left_law,
    ne_safe_days_law_rest1 := ne_safe_days_law_rest1,
    ne_safe_days_law := ne_safe_days_law,
    ne_law_rest1_law := ne_law_rest1_law }
  refine ⟨_, [(k_check_table, t_check_table), (k_keys_left, t_keys_left), (k_safe_days, t_safe_days), (k_law_rest1, t_law_rest1), (k_law, t_law)], spLaw K (tabsA ⟨f_law_dice, f_law_roll, f_law_rounds, f_law_told, f_check_table, f_reply_of, f_keys_left, f_key_told, f_parts_by, f_are_unlike, f_fewest_questions, f_law_depth, f_law_flat, f_fixed_questions, f_guess_chance, f_day_key, f_days_until_again, f_safe_days, f_turned_table, f_changed_replies, f_law_rest1, f_law, x_BadBook, x_BadFlag, x_BadFleet, x_BadHoist, x_Foul, x_NoWay, x_TooLarge, x_Unclear, x_BadText, k_check_table, t_check_table, k_keys_left, t_keys_left, k_safe_days, t_safe_days, k_law_rest1, t_law_rest1, k_law, t_law⟩), fun p hp => ?_, fun p hp => ?_, fun p hp => ?_, fun s u => .of_eq rfl, fun H a ns hl hb hT hS => ⟨a, ns, rfl, hS, fun p hp => ?_, fun _ => rfl⟩, fun base _ _ hTB => ok_law (TT base hTB) lk_law dk_law hF⟩
  · simp only [List.mem_cons, List.not_mem_nil, or_false] at hp
    rcases hp with rfl | rfl | rfl | rfl | rfl
    · exact hTS _ zt_check_table
    · exact hTS _ zt_keys_left
    · exact hTS _ zt_safe_days
    · exact hTS _ zt_law_rest1
    · exact hTS _ zt_law
  · simp only [List.mem_cons, List.not_mem_nil, or_false] at hp
    rcases hp with rfl | rfl | rfl | rfl | rfl
    · exact zn_check_table
    · exact zn_keys_left
    · exact zn_safe_days
    · exact zn_law_rest1
    · exact zn_law
  · simp only [List.mem_cons, List.not_mem_nil, or_false] at hp
    rcases hp with rfl | rfl | rfl | rfl | rfl
    · exact PySem.W.codeHd_of_K X zh_check_table
    · exact PySem.W.codeHd_of_K X zh_keys_left
    · exact PySem.W.codeHd_of_K X zh_safe_days
    · exact PySem.W.codeHd_of_K X zh_law_rest1
    · exact PySem.W.codeHd_of_K X zh_law
  · unfold tabsA at hp
    simp only [List.mem_cons, List.not_mem_nil, or_false] at hp
    rcases hp with rfl | rfl | rfl | rfl | rfl
    · exact hT (k_check_table, t_check_table) (by simp)
    · exact hT (k_keys_left, t_keys_left) (by simp)
    · exact hT (k_safe_days, t_safe_days) (by simp)
    · exact hT (k_law_rest1, t_law_rest1) (by simp)
    · exact hT (k_law, t_law) (by simp)
end K20
set_option Elab.async false
set_option linter.all false
set_option maxRecDepth 100000
namespace DL
noncomputable def bdF {α β : Type} (m : R α) (k : α → R β) : R β := @R.rec α (fun _ => R β) k (fun e => .err e) .stuck (fun m _ ih => .roll m ih) m
theorem bd_f {α β : Type} (m : R α) (k : α → R β) : (m >>= k) = bdF m k := by
  induction m with
  | ok a => rfl
  | err e => rfl
  | stuck => rfl
  | roll m f ih => show R.roll m (fun i => f i >>= k) = R.roll m (fun i => bdF (f i) k); congr; funext i; exact ih i
noncomputable def onF {α : Type} (m : R α) (r : LE) (k : α → R Out) : R Out := @R.rec α (fun _ => R Out) k (fun e => .ok (.ex e r)) .stuck (fun m _ ih => .roll m ih) m
theorem on_f {α : Type} (m : R α) (r : LE) (k : α → R Out) : m.onS r k = onF m r k := by
  induction m with
  | ok a => rfl
  | err e => rfl
  | stuck => rfl
  | roll m f ih => show R.roll m (fun i => (f i).onS r k) = R.roll m (fun i => onF (f i) r k); congr; funext i; exact ih i
noncomputable def cmF {α : Type} (m : R α) : R α := @R.rec α (fun _ => R α) (fun a => .ok a) (fun _ => .stuck) .stuck (fun m _ ih => .roll m ih) m
theorem cm_f {α : Type} (m : R α) : m.calm = cmF m := by
  induction m with
  | ok a => rfl
  | err e => rfl
  | stuck => rfl
  | roll m f ih => show R.roll m (fun i => (f i).calm) = R.roll m (fun i => cmF (f i)); congr; funext i; exact ih i
noncomputable def bifF {α : Type} (b : Bool) (x y : α) : α := @Bool.rec (fun _ => α) y x b
noncomputable def setF (r : LE) : Nat → Cell → LE := @List.rec Cell (fun _ => Nat → Cell → LE) (fun _ _ => []) (fun c t ih i x => @Nat.rec (fun _ => LE) (x :: t) (fun i _ => c :: ih i x) i) r
theorem set_f : ∀ (r : LE) (i : Nat) (x : Cell), r.set i x = setF r i x
  | [], _, _ => rfl
  | c :: r, 0, x => rfl
  | c :: r, i + 1, x => by show c :: r.set i x = c :: setF r i x; rw [set_f r i x]
/-- the state with its cells in sight -/
noncomputable def nfF {α : Type} (r : LE) : (LE → α) → α := @List.rec Cell (fun _ => (LE → α) → α) (fun k => k []) (fun c _ ih k => ih fun t => k (c :: t)) r
theorem nf_f {α : Type} : ∀ (r : LE) (k : LE → α), nfF r k = k r
  | [], k => rfl
  | c :: r, k => by show nfF r (fun t => k (c :: t)) = k (c :: r); rw [nf_f r]
noncomputable def nxF (r : LE) : R Out := nfF r fun r => .ok (.nx r)
theorem nx_f (r : LE) : R.ok (.nx r) = nxF r := by unfold nxF; rw [nf_f]
noncomputable def cellF {α : Type} (c : Cell) (z : α) (f g : D → α) : α := @Cell.rec (fun _ => α) z f g c
noncomputable def opEF (g : D → D → R D) (f k : LE → R D) : LE → R D := fun r => bdF (f r) fun x => bdF (k r) fun y => g x y
noncomputable def lenF {α : Type} (l : List α) : Nat := @List.rec α (fun _ => Nat) 0 (fun _ _ n => Nat.succ n) l
/-- at most as long: looked at no further than needed -/
noncomputable def okLenF {α : Type} (l : List α) : Bool := Nat.ble (lenF l) 16777216
noncomputable def outF {α : Type} (o : Out) (n : LE → α) (d : D → α) (b c : LE → α) (e : Exc → LE → α) : α := @Out.rec (fun _ => α) n d b c e o
noncomputable def seqSF (F K : LE → R Out) : LE → R Out := fun r => bdF (F r) fun o => outF o K (fun d => .ok (.rt d)) (fun r => .ok (.bk r)) (fun r => .ok (.ct r)) (fun e r => .ok (.ex e r))
theorem seqS_f (F K : LE → R Out) : seqS F K = seqSF F K := by
  funext r; unfold seqS seqSF; rw [bd_f]; congr; funext o; cases o <;> rfl
noncomputable def valKF (f : LE → R D) : LE → R Cell := fun r => bdF (f r) fun d => .ok (.val d)
theorem valK_f (f : LE → R D) : valK f = valKF f := by funext r; exact bd_f ..
noncomputable def setKF (i : Nat) (f : LE → R Cell) : LE → R Out := fun r => onF (f r) r fun c => cellF c .stuck (fun d => nxF (setF r i (.val d))) (fun d => nxF (setF r i (.own d)))
theorem onF_bdF {α β : Type} (m : R α) (g : α → R β) (r : LE) (k : β → R Out) : onF (bdF m g) r k = onF m r fun x => onF (g x) r k := by
  induction m with
  | ok a => rfl
  | err e => rfl
  | stuck => rfl
  | roll m f ih => show R.roll m (fun i => onF (bdF (f i) g) r k) = R.roll m (fun i => onF (f i) r fun x => onF (g x) r k); congr; funext i; exact ih i
theorem setK_f (i : Nat) (f : LE → R Cell) : setK i f = setKF i f := by
  funext r; unfold setK setKF; rw [bd_f, on_f, onF_bdF]; congr; funext c
  cases c with
  | un => rfl
  | val d => show R.ok (Out.nx (r.set i (.val d))) = nxF _; rw [← nx_f, set_f]
  | own d => show R.ok (Out.nx (r.set i (.own d))) = nxF _; rw [← nx_f, set_f]
end DL
set_option Elab.async false
set_option linter.all false
set_option maxRecDepth 100000
namespace DL
open L2
noncomputable def ieqF (i j : Int) : Bool := @Int.rec (fun _ => Int → Bool) (fun m j => @Int.rec (fun _ => Bool) (fun n => Nat.beq m n) (fun _ => false) j) (fun m j => @Int.rec (fun _ => Bool) (fun _ => false) (fun n => Nat.beq m n) j) i j
noncomputable def seqF (s t : List Nat) : Bool := @List.rec Nat (fun _ => List Nat → Bool) (fun t => @List.rec Nat (fun _ => Bool) true (fun _ _ _ => false) t) (fun a _ ih t => @List.rec Nat (fun _ => Bool) false (fun b u _ => @Bool.rec (fun _ => Bool) false (ih u) (Nat.beq a b)) t) s t
end DL
set_option Elab.async false
set_option linter.all false
set_option maxRecDepth 100000
namespace DL
open L2
noncomputable def key1F (d : D) : Bool := match d with
  | .int _ => true
  | .str _ => true
  | _ => false
noncomputable def keqF (x y : D) : Bool := match x with
  | .int i => (match y with
    | .int j => ieqF i j
    | _ => false)
  | .str s => (match y with
    | .str t => seqF s t
    | _ => false)
  | _ => false
noncomputable def getDF (kvs : List (D × D)) (k : D) : Option D := @List.rec (D × D) (fun _ => Option D) none (fun p _ ih => @Bool.rec (fun _ => Option D) ih (some p.2) (keqF p.1 k)) kvs
noncomputable def nthF {α : Type} (xs : List α) : Nat → Option α := @List.rec α (fun _ => Nat → Option α) (fun _ => none) (fun x _ ih i => @Nat.rec (fun _ => Option α) (some x) (fun i _ => ih i) i) xs
noncomputable def atF {α : Type} (xs : List α) (i : Int) : Option α := @Int.rec (fun _ => Option α) (fun k => nthF xs k) (fun k => @Bool.rec (fun _ => Option α) none (nthF xs (Nat.sub (lenF xs) (Nat.succ k))) (Nat.ble (Nat.succ k) (lenF xs))) i
noncomputable def okF {α : Type} (o : Option α) (k : α → D) : R D := @Option.rec α (fun _ => R D) .stuck (fun a => .ok (k a)) o
noncomputable def ixDF (x y : D) : R D := match x with
  | .lst xs => (match y with
    | .int i => okF (atF xs i) fun d => d
    | _ => .stuck)
  | .tup xs => (match y with
    | .int i => okF (atF xs i) fun d => d
    | _ => .stuck)
  | .str s => (match y with
    | .int i => bifF (okLenF s) (okF (atF s i) fun c => .str [c]) .stuck
    | _ => .stuck)
  | _ => .stuck
noncomputable def subIF (x y : D) : R D := match x with
  | .dic kvs => bifF (key1F y) (okF (getDF kvs y) fun d => d) .stuck
  | .cdic kvs => subI (.cdic kvs) y
  | x => ixDF x y
noncomputable def subEF (f k : LE → R D) : LE → R D := fun r => bdF (f r) fun x => bdF (k r) fun y => subIF x y
end DL
set_option Elab.async false
set_option linter.all false
set_option maxRecDepth 100000
namespace DL
open L2 PySem.Spec
end DL
set_option Elab.async false
set_option linter.all false
set_option maxRecDepth 100000
namespace DL
open PySem L2 PySem.Spec PyProof.Rows
/-- all that comes out of it -/
def Ev {α : Type} : R α → (α → Prop) → Prop
  | .ok a, P => P a
  | .err _, _ => True
  | .stuck, _ => True
  | .roll _ k, P => ∀ i, Ev (k i) P
theorem Ev.mono {α : Type} {P Q : α → Prop} : ∀ {m : R α}, Ev m P → (∀ a, P a → Q a) → Ev m Q
  | .ok _, h, k => k _ h
  | .err _, _, _ => trivial
  | .stuck, _, _ => trivial
  | .roll _ _, h, k => fun i => Ev.mono (h i) k
theorem Ev.all {α : Type} {P : α → Prop} (h : ∀ a, P a) : ∀ m : R α, Ev m P
  | .ok _ => h _
  | .err _ => trivial
  | .stuck => trivial
  | .roll _ f => fun i => Ev.all h (f i)
/-- only the slots vs are written -/
def Same_ (vs : List Nat) (r r' : LE) : Prop := r'.length = r.length ∧ ∀ j, j ∉ vs → r'[j]? = r[j]?
theorem Same_.refl {vs : List Nat} {r : LE} : Same_ vs r r := ⟨rfl, fun _ _ => rfl⟩
theorem Same_.set {vs : List Nat} {r : LE} {i : Nat} {x : Cell} (h : i ∈ vs) : Same_ vs r (setF r i x) := by
  rw [← set_f]
  exact ⟨List.length_set, fun j hj => List.getElem?_set_ne fun e : i = j => hj (by rw [← e]; exact h)⟩
theorem GoP.set {P : Out → Prop} {f : LE → R D} {i : Nat} {K F : LE → R Out} {r : LE} (e : F = seqS (setKF i (valKF f)) K) {Q : D → Prop} (h : Wr (f r) Q) (k : ∀ d, Q d → GoP P K (r.set i (.val d))) : GoP P F r := by
  subst e
  refine GoP.one (Q := fun r' => ∃ d, Q d ∧ r' = r.set i (.val d)) rfl ?_ fun r' ⟨d, hd, e⟩ => e ▸ k d hd
  rw [← valK_f, ← setK_f]
  exact Wr.run1 ⟨h.h.mono (fun d hd => ⟨d, hd, rfl⟩) fun _ z => z⟩
theorem Wr.eq {α : Type} {m : R α} {a : α} {Q : α → Prop} (h : m = .ok a) (q : Q a) : Wr m Q := ⟨by rw [h]; exact q⟩
theorem Wr.mono {α : Type} {m : R α} {Q Q' : α → Prop} (h : Wr m Q) (k : ∀ a, Q a → Q' a) : Wr m Q' := ⟨h.h.mono k fun _ z => z⟩
theorem Wr.bdF {α β : Type} {m : R α} {k : α → R β} {Q : β → Prop} (h : Wr m (fun a => Wr (k a) Q)) : Wr (DL.bdF m k) Q := ⟨by
  rw [← bd_f]
  exact Wp.of_bind (h.h.mono (fun a ha => ha.h) fun _ z => z)⟩
theorem Wr.ok {α : Type} {a : α} {Q : α → Prop} (q : Q a) : Wr (.ok a) Q := ⟨q⟩
end DL
namespace DL
theorem Same_.none {r r' : LE} (h : Same_ [] r r') : r' = r := List.ext_getElem? fun j => h.2 j (by simp)
theorem Same_.one {i : Nat} {r r' : LE} (h : Same_ [i] r r') : ∃ c, r' = r.set i c := by
  refine ⟨r'.getD i .un, List.ext_getElem? fun j => ?_⟩
  by_cases e : j = i
  · subst e
    by_cases hj : j < r.length
    · rw [List.getElem?_set_self hj, List.getD_eq_getElem?_getD, List.getElem?_eq_getElem (by rw [h.1]; exact hj)]
      rfl
    · rw [List.getElem?_eq_none (by rw [h.1]; omega), List.getElem?_eq_none (by rw [List.length_set]; omega)]
  · rw [h.2 j (by simpa using e), List.getElem?_set_ne (Ne.symm e)]
theorem Same_.two {i k : Nat} {r r' : LE} (h : Same_ [i, k] r r') : ∃ c d, r' = (r.set i c).set k d := by
  refine ⟨r'.getD i .un, r'.getD k .un, List.ext_getElem? fun j => ?_⟩
  by_cases e : j = k
  · subst e
    by_cases hj : j < r.length
    · rw [List.getElem?_set_self (by rw [List.length_set]; exact hj), List.getD_eq_getElem?_getD, List.getElem?_eq_getElem (by rw [h.1]; exact hj)]
      rfl
    · rw [List.getElem?_eq_none (by rw [h.1]; omega), List.getElem?_eq_none (by rw [List.length_set, List.length_set]; omega)]
  · rw [List.getElem?_set_ne (Ne.symm e)]
    by_cases e2 : j = i
    · subst e2
      by_cases hj : j < r.length
      · rw [List.getElem?_set_self hj, List.getD_eq_getElem?_getD, List.getElem?_eq_getElem (by rw [h.1]; exact hj)]
        rfl
      · rw [List.getElem?_eq_none (by rw [h.1]; omega), List.getElem?_eq_none (by rw [List.length_set]; omega)]
    · rw [h.2 j (by simp [e, e2]), List.getElem?_set_ne (Ne.symm e2)]
end DL
set_option Elab.async false
set_option linter.all false
set_option maxRecDepth 100000
namespace DL
open PySem L2 PySem.Spec PyProof.Rows
theorem bdF_ok {α β : Type} (a : α) (k : α → R β) : bdF (.ok a) k = k a := rfl
end DL
namespace DL
theorem Wr.cm {α : Type} {m : R α} {Q : α → Prop} (h : Wr m Q) : Wr (cmF m) Q := by
  refine ⟨?_⟩
  rw [← cm_f]
  have : ∀ {m : R α}, Wp m Q (fun _ => False) → Wp m.calm Q (fun _ => False) := fun {m} hm => by
    induction m with
    | ok a => exact hm
    | err e => exact hm.elim
    | stuck => exact hm
    | roll n k ih => exact fun i hi => ih i (hm i hi)
  exact this h.h
end DL
set_option Elab.async false
set_option linter.all false
set_option maxRecDepth 100000
namespace DL
open L2 PySem.Spec
end DL
set_option Elab.async false
set_option linter.all false
set_option maxRecDepth 100000
namespace DL
open L2 PySem.Spec
end DL
set_option Elab.async false
set_option linter.all false
set_option maxRecDepth 100000
namespace DL
open PySem L2 PySem.Spec PyProof.Rows
theorem GoP.wrF {P : Out → Prop} {S K : LE → R Out} {r : LE} {Q : LE → Prop} (h : Wr (S r) (fun o => ∃ r2, o = .nx r2 ∧ Q r2)) (k : ∀ r2, Q r2 → GoP P K r2) : GoP P (seqSF S K) r := ⟨by
  rw [← seqS_f]
  show Wp (S r >>= _) _ _
  refine Wp.of_bind (h.h.mono (fun o ho => ?_) fun _ z => z.elim)
  obtain ⟨r2, rfl, hq⟩ := ho
  exact (k r2 hq).h⟩
theorem Wr.onF {α : Type} {m : R α} {k : α → R Out} {r : LE} {Q : Out → Prop} (h : Wr m (fun a => Wr (k a) Q)) : Wr (DL.onF m r k) Q := ⟨by
  rw [← on_f]
  exact Wp_onS (h.h.mono (fun a ha => ha.h) fun _ z => z.elim)⟩
theorem Wr.sub {f k : LE → R D} {r : LE} {x : D} {P Q : D → Prop} (h1 : f r = .ok x) (h2 : Wr (k r) P) (h3 : ∀ y, P y → Wr (subIF x y) Q) : Wr (subEF f k r) Q := by
  unfold subEF
  rw [h1, bdF_ok]
  exact Wr.bdF (h2.mono fun y hy => h3 y hy)
end DL
set_option Elab.async false
set_option linter.all false
set_option maxRecDepth 100000
namespace DL
open PySem L2 PySem.Spec PyProof.Rows
end DL
set_option Elab.async false
set_option linter.all false
set_option maxRecDepth 100000
namespace DL
open PySem L2 PySem.Spec PyProof.Rows
theorem Wr.op {g : D → D → R D} {f k : LE → R D} {r : LE} {P Q : D → Prop} {x : D} (h1 : f r = .ok x) (h2 : Wr (k r) P) (h3 : ∀ y, P y → Wr (g x y) Q) : Wr (opEF g f k r) Q := by
  show Wr (DL.bdF (f r) _) _
  rw [h1]
  exact Wr.bdF (Wr.ok (Wr.bdF (h2.mono h3)))
end DL
set_option Elab.async false
set_option linter.all false
set_option maxRecDepth 100000
namespace DL
open PySem L2 PySem.Spec PyProof.Rows
theorem Same_.trans {vs : List Nat} {a b c : LE} (h1 : Same_ vs a b) (h2 : Same_ vs b c) : Same_ vs a c := ⟨h2.1.trans h1.1, fun j hj => (h2.2 j hj).trans (h1.2 j hj)⟩
end DL
set_option Elab.async false
set_option linter.all false
set_option maxRecDepth 100000
namespace DL
open PySem L2 PySem.Spec PyProof.Rows
@[simp] theorem asgS_eq (f : LE → R D) (gd : D → LE → Option LE) (r : LE) : asgS f gd r = (f r).onS r fun d => match gd d r with
  | some r' => .ok (.nx r')
  | none => .stuck := rfl
@[simp] theorem gTup_eq (n : Nat) (gs : List D → LE → Option LE) (ds : List D) (r : LE) : gTup_ n gs (.tup ds) r = if ds.length = n then gs ds r else none := rfl
@[simp] theorem gCons_eq (g : D → LE → Option LE) (gs : List D → LE → Option LE) (d : D) (ds : List D) (r : LE) : gCons_ g gs (d :: ds) r = (g d r).bind (gs ds) := rfl
@[simp] theorem gNil_eq (r : LE) : gNil_ [] r = some r := rfl
@[simp] theorem rng2E_eq (fs : LE → R (List D)) (r : LE) : rng2E fs r = fs r >>= rng2 := rfl
@[simp] theorem callF_eq (g : List D → R (List D)) (fs : LE → R (List D)) (r : LE) : callF g fs r = fs r >>= g := rfl
@[simp] theorem noP_eq (r : LE) : noP r = .ok none := rfl
@[simp] theorem someP_int (f : LE → R D) (r : LE) (i : Int) (h : f r = .ok (.int i)) : someP f r = .ok (some i) := by unfold someP; rw [h]; rfl
@[simp] theorem sliceE_eq (f : LE → R D) (l h : LE → R (Option Int)) (r : LE) : sliceE f l h r = f r >>= fun x => l r >>= fun a => h r >>= fun b => slI x a b := rfl
@[simp] theorem slI_tup (xs : List D) (lo hi : Option Int) : slI (.tup xs) lo hi = .ok (.tup (cutD xs lo hi)) := rfl
@[simp] theorem slI_lst (xs : List D) (lo hi : Option Int) : slI (.lst xs) lo hi = .ok (.lst (cutD xs lo hi)) := rfl
@[simp] theorem tupleD_lst (xs : List D) : tupleD [.lst xs] = .ok (.tup xs) := rfl
@[simp] theorem tupleD_tup (xs : List D) : tupleD [.tup xs] = .ok (.tup xs) := rfl
@[simp] theorem listX_lst (xs : List D) : listX [.lst xs] = .ok xs := rfl
@[simp] theorem listX_tup (xs : List D) : listX [.tup xs] = .ok xs := rfl
@[simp] theorem modD_4 (i : Int) : modD (.int i) (.int 4) = .ok (.int (i % 4)) := rfl
theorem appS_own {i : Nat} {f : LE → R D} {r : LE} {ds : List D} {d : D} (h : r[i]? = some (.own (.lst ds))) (hf : f r = .ok d) (hl : ds.length < 16777216) : appS i f r = .ok (.nx (r.set i (.own (.lst (ds ++ [d]))))) := by
  unfold appS
  rw [h]
  show (f r).onS r _ = _
  rw [hf]
  exact if_pos hl
theorem GoP.okS {P : Out → Prop} {S K : LE → R Out} {r r2 : LE} (h : S r = .ok (.nx r2)) (k : GoP P K r2) : GoP P (seqS S K) r := ⟨by
  show Wp (S r >>= _) _ _
  rw [h]
  exact k.h⟩
theorem GoP.wrS {P : Out → Prop} {S K : LE → R Out} {r : LE} {Q : LE → Prop} (h : Wr (S r) (fun o => ∃ r2, o = .nx r2 ∧ Q r2)) (k : ∀ r2, Q r2 → GoP P K r2) : GoP P (seqS S K) r := by
  rw [seqS_f]
  exact GoP.wrF h k
theorem orT_ff {f g : LE → R Bool} {r : LE} (h1 : f r = .ok false) (h2 : g r = .ok false) : orT f g r = .ok false := by
  rw [orT_eq, h1]
  exact h2
theorem cmpT_ok {g : D → D → R D} {f k : LE → R D} {r : LE} {x y : D} {b : Bool} (h1 : f r = .ok x) (h2 : k r = .ok y) (h3 : g x y = .ok (.bl b)) : cmpT g f k r = .ok b := by
  rw [cmpT_eq, h1, R.ok_bind, h2, R.ok_bind, h3]
  rfl
theorem seqS_go {F K : LE → R Out} {r r' : LE} {x : R Out} (h : F r = .ok (.nx r')) (k : K r' = x) : seqS F K r = x := by rw [seqS_eq, h]; exact k
theorem seqS_rt {F K : LE → R Out} {r : LE} {d : D} (h : F r = .ok (.rt d)) : seqS F K r = .ok (.rt d) := by rw [seqS_eq, h]; rfl
theorem seqS_ex {F K : LE → R Out} {r r' : LE} {e : Exc} (h : F r = .ok (.ex e r')) : seqS F K r = .ok (.ex e r') := by rw [seqS_eq, h]; rfl
theorem retS_ok {f : LE → R D} {r : LE} {d : D} (h : f r = .ok d) : retS f r = .ok (.rt d) := by rw [retS_eq, h]; rfl
theorem setK_val {i : Nat} {f : LE → R D} {r : LE} {d : D} (h : f r = .ok d) : setK i (valK f) r = .ok (.nx (r.set i (.val d))) := by rw [setK_eq, valK_eq, h]; rfl
theorem setK_own {i : Nat} {f : LE → R (List D)} {r : LE} {d : List D} (h : f r = .ok d) : setK i (ownK f) r = .ok (.nx (r.set i (.own (.lst d)))) := by rw [setK_eq, ownK_eq, h]; rfl
theorem forS_ok {fi : LE → R (List D)} {gd : D → LE → Option LE} {F : LE → R Out} {r : LE} {ds : List D} {x : R Out} (h : fi r = .ok ds) (k : loopS gd F ds r = x) : forS fi gd F r = x := by rw [forS_eq, h]; exact k
theorem opE_k {g : D → D → R D} {f k : LE → R D} {r : LE} {x y z : D} (h1 : f r = .ok x) (h2 : k r = .ok y) (h3 : g x y = .ok z) : opE g f k r = .ok z := by rw [opE_eq, h1, R.ok_bind, h2, R.ok_bind, h3]
theorem subE_k {f k : LE → R D} {r : LE} {x y z : D} (h1 : f r = .ok x) (h2 : k r = .ok y) (h3 : subI x y = .ok z) : subE f k r = .ok z := by rw [subE_eq, h1, R.ok_bind, h2, R.ok_bind, h3]
theorem acons_ok {f : LE → R D} {fs : LE → R (List D)} {r : LE} {x : D} {xs : List D} (h1 : f r = .ok x) (h2 : fs r = .ok xs) : acons f fs r = .ok (x :: xs) := by rw [acons_eq, h1, R.ok_bind, h2]; rfl
theorem callE_ok {g : List D → R D} {fs : LE → R (List D)} {r : LE} {xs : List D} {z : D} (h1 : fs r = .ok xs) (h2 : g xs = .ok z) : callE g fs r = .ok z := by rw [callE_eq, h1]; exact h2
theorem callE1_ok {g : List D → R D} {f : LE → R D} {r : LE} {x z : D} (h1 : f r = .ok x) (h2 : g [x] = .ok z) : callE g (acons f anil) r = .ok z := callE_ok (acons_ok h1 (xs := []) rfl) h2
theorem callE2_ok {g : List D → R D} {f k : LE → R D} {r : LE} {x y z : D} (h1 : f r = .ok x) (h2 : k r = .ok y) (h3 : g [x, y] = .ok z) : callE g (acons f (acons k anil)) r = .ok z := callE_ok (acons_ok h1 (acons_ok h2 (xs := []) rfl)) h3
theorem callE3_ok {g : List D → R D} {f k l : LE → R D} {r : LE} {x y w z : D} (h1 : f r = .ok x) (h2 : k r = .ok y) (h3 : l r = .ok w) (h4 : g [x, y, w] = .ok z) : callE g (acons f (acons k (acons l anil))) r = .ok z := callE_ok (acons_ok h1 (acons_ok h2 (acons_ok h3 (xs := []) rfl))) h4
theorem callE4_ok {g : List D → R D} {f k l m : LE → R D} {r : LE} {x y w v z : D} (h1 : f r = .ok x) (h2 : k r = .ok y) (h3 : l r = .ok w) (h4 : m r = .ok v) (h5 : g [x, y, w, v] = .ok z) : callE g (acons f (acons k (acons l (acons m anil)))) r = .ok z := callE_ok (acons_ok h1 (acons_ok h2 (acons_ok h3 (acons_ok h4 (xs := []) rfl)))) h5
theorem tupE_ok {fs : LE → R (List D)} {r : LE} {xs : List D} (h : fs r = .ok xs) (hl : xs.length ≤ 1000000) : tupE fs r = .ok (.tup xs) := by rw [tupE_eq, h, R.ok_bind, if_pos (by omega)]
theorem lstE_ok {fs : LE → R (List D)} {r : LE} {xs : List D} (h : fs r = .ok xs) (hl : xs.length ≤ 1000000) : lstE fs r = .ok xs := by rw [lstE_eq, h, R.ok_bind, if_pos (by omega)]
theorem lE_ok {f : LE → R (List D)} {r : LE} {xs : List D} (h : f r = .ok xs) : lE f r = .ok (.lst xs) := by rw [lE_eq, h]; rfl
theorem callF1_k {g : List D → R (List D)} {f : LE → R D} {r : LE} {x : D} {zs : List D} (h1 : f r = .ok x) (h2 : g [x] = .ok zs) : callF g (acons f anil) r = .ok zs := by rw [callF_eq, acons_ok h1 (xs := []) rfl]; exact h2
theorem rng1E_ok {f : LE → R D} {r : LE} {n : Nat} (h : f r = .ok (.int (n : Nat))) (hn : n ≤ 1000000) : rng1E (acons f anil) r = .ok ((List.range n).map fun k => D.int (k : Nat)) := by
  rw [rng1E_eq, acons_ok h (xs := []) rfl, R.ok_bind]
  unfold rng1
  dsimp only
  rw [if_pos (by omega), Int.toNat_natCast]
  congr 1
  unfold rangeL
  exact List.map_congr_left fun k _ => by rw [Int.zero_add]
theorem ifS_yes {c : LE → R Bool} {F K : LE → R Out} {r : LE} {x : R Out} (h : c r = .ok true) (k : F r = x) : ifS c F K r = x := by rw [ifS_eq, h]; exact k
theorem ifS_no {c : LE → R Bool} {F K : LE → R Out} {r : LE} {x : R Out} (h : c r = .ok false) (k : K r = x) : ifS c F K r = x := by rw [ifS_eq, h]; exact k
theorem iteE_yes {c : LE → R Bool} {f g : LE → R D} {r : LE} {x : D} (h : c r = .ok true) (k : f r = .ok x) : iteE c f g r = .ok x := by rw [iteE_eq, h]; exact k
theorem iteE_no {c : LE → R Bool} {f g : LE → R D} {r : LE} {x : D} (h : c r = .ok false) (k : g r = .ok x) : iteE c f g r = .ok x := by rw [iteE_eq, h]; exact k
theorem valT_ok {f : LE → R D} {r : LE} {b : Bool} (h : f r = .ok (.bl b)) : valT f r = .ok b := by rw [valT_eq, h]; rfl
theorem notT_ok {f : LE → R Bool} {r : LE} {b : Bool} (h : f r = .ok b) : notT f r = .ok (!b) := by rw [notT_eq, h]; rfl
theorem andT_no {f g : LE → R Bool} {r : LE} (h : f r = .ok false) : andT f g r = .ok false := by rw [andT_eq, h]; rfl
theorem andT_yes {f g : LE → R Bool} {r : LE} {b : Bool} (h : f r = .ok true) (h2 : g r = .ok b) : andT f g r = .ok b := by rw [andT_eq, h]; exact h2
theorem orT_yes {f g : LE → R Bool} {r : LE} (h : f r = .ok true) : orT f g r = .ok true := by rw [orT_eq, h]; rfl
theorem bmE_ok {T : String} {gg : D → List D → R D} {f : LE → R D} {fs : LE → R (List D)} {r : LE} {x z : D} {xs : List D} (h1 : f r = .ok x) (h0 : isT T x = .ok x) (h2 : fs r = .ok xs) (h3 : gg x xs = .ok z) : bmE T gg f fs r = .ok z := by rw [bmE_eq, h1, R.ok_bind, h0, R.ok_bind, h2]; exact h3
/-- over mapped things -/
theorem compF_mapM {α : Type} {fi : LE → R (List D)} {gd : D → LE → Option LE} {te : LE → R D} {vs : List Nat} {r : LE} {e h : α → D} {l : List α} (hf : fi r = .ok (l.map e)) (hl : l.length ≤ 16777216) (q : ∀ a ∈ l, ∃ r', gd (e a) (wipeL r vs) = some r' ∧ te r' = .ok (h a)) :
    compF fi gd yesT te vs r = .ok (l.map h) := by
  rw [compF_eq, hf, R.ok_bind, if_pos (by rw [List.length_map]; exact hl)]
  clear hf hl
  induction l with
  | nil => rfl
  | cons a l ih =>
    obtain ⟨r', h1, h2⟩ := q a List.mem_cons_self
    rw [List.map_cons, loopC_cons, h1]
    dsimp only
    rw [h2, ih fun b hb => q b (List.mem_cons_of_mem _ hb)]
    rfl
theorem compF_fmM {α : Type} {fi : LE → R (List D)} {gd : D → LE → Option LE} {tt : LE → R Bool} {te : LE → R D} {vs : List Nat} {r : LE} {e h : α → D} {p : α → Bool} {l : List α} (hf : fi r = .ok (l.map e)) (hl : l.length ≤ 16777216) (q : ∀ a ∈ l, ∃ r', gd (e a) (wipeL r vs) = some r' ∧ tt r' = .ok (p a) ∧ (p a = true → te r' = .ok (h a))) :
    compF fi gd tt te vs r = .ok ((l.filter p).map h) := by
  rw [compF_eq, hf, R.ok_bind, if_pos (by rw [List.length_map]; exact hl)]
  clear hf hl
  induction l with
  | nil => rfl
  | cons a l ih =>
    obtain ⟨r', h1, h2, h3⟩ := q a List.mem_cons_self
    rw [List.map_cons, loopC_cons, h1]
    dsimp only
    rw [h2, ih fun b hb => q b (List.mem_cons_of_mem _ hb)]
    cases hp : p a with
    | true => rw [List.filter_cons_of_pos hp, h3 hp]; rfl
    | false => rw [List.filter_cons_of_neg (by simp [hp])]; rfl
theorem anyC_allM {α : Type} {x : Bool} {gd : D → LE → Option LE} {te : LE → R D} {r : LE} {e : α → D} : ∀ {l : List α}, (∀ a ∈ l, ∃ r', gd (e a) r = some r' ∧ te r' = .ok (.bl (!x))) → anyC x gd yesT te r (l.map e) = .ok (!x)
  | [], _ => rfl
  | a :: l, q => by
    obtain ⟨r', h1, h2⟩ := q a List.mem_cons_self
    have ih := anyC_allM (x := x) (gd := gd) (te := te) (r := r) (e := e) (l := l) fun b hb => q b (List.mem_cons_of_mem _ hb)
    rw [List.map_cons]
    unfold anyC
    rw [h1]
    show ((te r').calm >>= _) = _
    rw [h2]
    show (if (!x) = x then R.ok x else anyC x gd yesT te r (l.map e)) = _
    rw [if_neg (by cases x <;> simp), ih]
/-- none of them is x -/
theorem anyE_allM {α : Type} {x : Bool} {fi : LE → R (List D)} {gd : D → LE → Option LE} {te : LE → R D} {vs : List Nat} {r : LE} {e : α → D} {l : List α} (hf : fi r = .ok (l.map e)) (q : ∀ a ∈ l, ∃ r', gd (e a) (wipeL r vs) = some r' ∧ te r' = .ok (.bl (!x))) :
    anyE x fi gd yesT te vs r = .ok (.bl (!x)) := by
  unfold anyE
  rw [hf]
  show (anyC x gd yesT te (wipeL r vs) (l.map e) >>= _) = _
  rw [anyC_allM q]
  rfl
theorem anyC_valM {α : Type} {x : Bool} {gd : D → LE → Option LE} {te : LE → R D} {r : LE} {e : α → D} {p : α → Bool} : ∀ {l : List α}, (∀ a ∈ l, ∃ r', gd (e a) r = some r' ∧ te r' = .ok (.bl (p a))) → anyC x gd yesT te r (l.map e) = .ok (if l.any (fun a => p a == x) = true then x else !x)
  | [], _ => rfl
  | a :: l, q => by
    obtain ⟨r', h1, h2⟩ := q a List.mem_cons_self
    have ih := anyC_valM (x := x) (gd := gd) (te := te) (r := r) (e := e) (p := p) (l := l) fun b hb => q b (List.mem_cons_of_mem _ hb)
    rw [List.map_cons]
    unfold anyC
    rw [h1]
    show ((te r').calm >>= _) = _
    rw [h2]
    show (if p a = x then R.ok x else anyC x gd yesT te r (l.map e)) = _
    rw [List.any_cons]
    by_cases h : p a = x
    · rw [if_pos h, if_pos (by rw [h]; simp)]
    · rw [if_neg h, ih, show (p a == x) = false from beq_eq_false_iff_ne.mpr h, Bool.false_or]
theorem anyE_valM {α : Type} {x : Bool} {fi : LE → R (List D)} {gd : D → LE → Option LE} {te : LE → R D} {vs : List Nat} {r : LE} {e : α → D} {p : α → Bool} {l : List α} (hf : fi r = .ok (l.map e)) (q : ∀ a ∈ l, ∃ r', gd (e a) (wipeL r vs) = some r' ∧ te r' = .ok (.bl (p a))) :
    anyE x fi gd yesT te vs r = .ok (.bl (if l.any (fun a => p a == x) = true then x else !x)) := by
  unfold anyE
  rw [hf]
  show (anyC x gd yesT te (wipeL r vs) (l.map e) >>= _) = _
  rw [anyC_valM q]
  rfl
theorem loopS_nx {gd : D → LE → Option LE} {body : LE → R Out} {d : D} {ds : List D} {r r' r2 : LE} (h1 : gd d r = some r') (h2 : body r' = .ok (.nx r2)) : loopS gd body (d :: ds) r = loopS gd body ds r2 := by
  rw [loopS.eq_2, h1]
  dsimp only
  rw [h2]
  rfl
theorem loopS_rt {gd : D → LE → Option LE} {body : LE → R Out} {d v : D} {ds : List D} {r r' : LE} (h1 : gd d r = some r') (h2 : body r' = .ok (.rt v)) : loopS gd body (d :: ds) r = .ok (.rt v) := by
  rw [loopS.eq_2, h1]
  dsimp only
  rw [h2]
  rfl
theorem loopS_ex {gd : D → LE → Option LE} {body : LE → R Out} {d : D} {ds : List D} {r r' r2 : LE} {e : Exc} (h1 : gd d r = some r') (h2 : body r' = .ok (.ex e r2)) : loopS gd body (d :: ds) r = .ok (.ex e r2) := by
  rw [loopS.eq_2, h1]
  dsimp only
  rw [h2]
  rfl
/-- the turns go on, up to the first that ends it -/
theorem loopS_find {α : Type} {gd : D → LE → Option LE} {body : LE → R Out} {e : α → D} (I : LE → Prop) (p : α → Bool) (End : α → Out → Prop) : ∀ {l : List α} {r : LE}, I r → (∀ a r, a ∈ l → I r → ∃ r', gd (e a) r = some r' ∧ (p a = false → ∃ r2, body r' = .ok (.nx r2) ∧ I r2) ∧ (p a = true → ∃ o, body r' = .ok o ∧ End a o ∧ (∀ r, o ≠ .nx r) ∧ (∀ r, o ≠ .bk r) ∧ (∀ r, o ≠ .ct r))) →
    (l.find? p = none ∧ ∃ r2, loopS gd body (l.map e) r = .ok (.nx r2) ∧ I r2) ∨ (∃ a, l.find? p = some a ∧ ∃ o, loopS gd body (l.map e) r = .ok o ∧ End a o)
  | [], r, h, _ => .inl ⟨rfl, r, rfl, h⟩
  | a :: l, r, h, q => by
    obtain ⟨r', h1, h2, h3⟩ := q a r List.mem_cons_self h
    cases hp : p a with
    | false =>
      obtain ⟨r2, h4, h5⟩ := h2 hp
      rw [List.map_cons, loopS_nx h1 h4, List.find?_cons_of_neg (by simp [hp])]
      exact loopS_find I p End h5 fun b r hb => q b r (List.mem_cons_of_mem _ hb)
    | true =>
      obtain ⟨o, h4, h5, n1, n2, n3⟩ := h3 hp
      refine .inr ⟨a, List.find?_cons_of_pos hp, o, ?_, h5⟩
      rw [List.map_cons]
      cases o with
      | nx r => exact (n1 r rfl).elim
      | bk r => exact (n2 r rfl).elim
      | ct r => exact (n3 r rfl).elim
      | rt d => exact loopS_rt h1 h4
      | ex e r => exact loopS_ex h1 h4
theorem cutD_to {α : Type} {s : List α} {k : Nat} : cutD s none (some (k : Int)) = s.take k := by
  unfold cutD
  rw [HT.sIx_none, HT.sIx_nat, List.drop_zero, Nat.sub_zero]
  by_cases h : k ≤ s.length
  · rw [Nat.min_eq_left h]
  · rw [Nat.min_eq_right (by omega), List.take_length, List.take_of_length_le (by omega)]
theorem rangeL_map (n : Nat) : rangeL 0 n = (List.range n).map fun k => D.int (k : Nat) := by
  unfold rangeL
  refine List.map_congr_left fun k _ => ?_
  rw [Int.zero_add]
theorem atI_nat {α : Type} {xs : List α} {k : Nat} {d : α} (h : xs[k]? = some d) : atI xs (k : Int) = some d := by
  have hk := (List.getElem?_eq_some_iff.mp h).1
  unfold atI ixN
  rw [if_pos (by omega), if_pos (by omega)]
  simpa using h
theorem subI_lst {xs : List D} {k : Nat} {d : D} (h : xs[k]? = some d) : subI (.lst xs) (.int (k : Nat)) = .ok d := by
  simp only [subI, ixD, atI_nat h]
theorem subI_tup {xs : List D} {k : Nat} {d : D} (h : xs[k]? = some d) : subI (.tup xs) (.int (k : Nat)) = .ok d := by
  simp only [subI, ixD, atI_nat h]
theorem atI_last {α : Type} {xs : List α} {d : α} (h : xs[xs.length - 1]? = some d) : atI xs (-1) = some d := by
  have hk := (List.getElem?_eq_some_iff.mp h).1
  unfold atI ixN
  rw [if_neg (by omega), if_pos (by omega)]
  rw [show ((-1 : Int) + (xs.length : Int)).toNat = xs.length - 1 by omega]
  exact h
theorem subI_lastT {xs : List D} {d : D} (h : xs[xs.length - 1]? = some d) : subI (.tup xs) (.int (-1)) = .ok d := by
  simp only [subI, ixD, atI_last h]
theorem addD_tup {a b : List D} (h : a.length + b.length ≤ 1000000) : addD (.tup a) (.tup b) = .ok (.tup (a ++ b)) := if_pos (by omega)
mutual
theorem eqb_self : ∀ (d : D) (n : Nat), d.sh n = true → d.eqb d = true
  | .non, _, _ => rfl
  | .bl b, _, _ => beq_self_eq_true b
  | .int i, _, _ => beq_self_eq_true i
  | .str s, _, _ => beq_self_eq_true s
  | .lst xs, 0, h => by unfold D.sh at h; cases h
  | .lst xs, n + 1, h => by unfold D.sh at h; unfold D.eqb; exact eqbs_self xs n h
  | .tup xs, 0, h => by unfold D.sh at h; cases h
  | .tup xs, n + 1, h => by unfold D.sh at h; unfold D.eqb; exact eqbs_self xs n h
  | .dic _, _, h => by unfold D.sh at h; cases h
  | .cdic _, _, h => by unfold D.sh at h; cases h
  | .ins _ _, _, h => by unfold D.sh at h; cases h
  | .dice, _, h => by unfold D.sh at h; cases h
  | .fn _, _, h => by unfold D.sh at h; cases h
  | .ktup _, _, h => by unfold D.sh at h; cases h
  | .ctup _, _, h => by unfold D.sh at h; cases h
  | .tdic _, _, h => by unfold D.sh at h; cases h
theorem eqbs_self : ∀ (ds : List D) (n : Nat), D.shs ds n = true → D.eqbs ds ds = true
  | [], _, _ => rfl
  | d :: ds, n, h => by
    unfold D.shs at h
    rw [Bool.and_eq_true] at h
    unfold D.eqbs
    rw [eqb_self d n h.1, eqbs_self ds n h.2]
    rfl
end
theorem neD_self {d : D} (h : d.sh 64 = true) : neD d d = .ok (.bl false) := by
  unfold neD
  rw [h, if_pos (by rw [Bool.or_eq_true]; exact .inr rfl), eqb_self d 64 h]
  rfl
theorem eqD_self {d : D} (h : d.sh 64 = true) : eqD d d = .ok (.bl true) := by
  unfold eqD
  rw [h, if_pos (by rw [Bool.or_eq_true]; exact .inr rfl), eqb_self d 64 h]
theorem shs_map {α : Type} {e : α → D} {n : Nat} : ∀ {l : List α}, (∀ a ∈ l, (e a).sh n = true) → D.shs (l.map e) n = true
  | [], _ => rfl
  | a :: l, h => by
    rw [List.map_cons]
    unfold D.shs
    rw [h a List.mem_cons_self, shs_map fun b hb => h b (List.mem_cons_of_mem _ hb)]
    rfl
end DL
set_option Elab.async false
set_option linter.all false
set_option maxRecDepth 100000
namespace DL
open PySem L2 PySem.Spec PyProof.Rows
theorem Wr.bindS {α β : Type} {m : R α} {k : α → R β} {Q : β → Prop} (h : Wr m (fun a => Wr (k a) Q)) : Wr (m >>= k) Q := by
  rw [bd_f]
  exact Wr.bdF h
theorem Wr.onS_ {α : Type} {m : R α} {k : α → R Out} {r : LE} {Q : Out → Prop} (h : Wr m (fun a => Wr (k a) Q)) : Wr (m.onS r k) Q := by
  rw [on_f]
  exact Wr.onF h
theorem Wr.calmS {α : Type} {m : R α} {Q : α → Prop} (h : Wr m Q) : Wr m.calm Q := by
  rw [cm_f]
  exact Wr.cm h
theorem runF_wr {n m : Nat} {F : LE → R Out} {ds : List D} {Q : D → Prop} (hn : ds.length = n) (h : Wr (F (ds.map Cell.val ++ List.replicate (m - n) Cell.un)) (fun o => ∃ d, o = .rt d ∧ Q d)) : Wr (runF n m F ds) Q := by
  rw [runF_eq _ _ _ _ hn]
  refine Wr.bindS ((Wr.calmS h).mono fun o ho => ?_)
  obtain ⟨d, rfl, hd⟩ := ho
  exact Wr.ok hd
theorem rollS {f k : LE → R D} {r : LE} {n : Nat} (h1 : f r = .ok .dice) (h2 : k r = .ok (.int (n : Nat))) (hn : 1 ≤ n) (hn2 : n < 1000000) : Wr (callE rollD (acons f (acons k anil)) r) (fun d => ∃ i, i < n ∧ d = .int (i : Nat)) := by
  rw [callE_eq, acons_ok h1 (acons_ok h2 (xs := []) rfl), R.ok_bind]
  show Wr (if 0 < (n : Int) ∧ (n : Int) < 1000000000 then R.roll (n : Int).toNat (fun i => R.ok (D.int (i : Nat))) else R.stuck) _
  rw [if_pos (by omega)]
  exact ⟨fun i hi => ⟨i, by simpa using hi, rfl⟩⟩
theorem opS_wr {g : D → D → R D} {f k : LE → R D} {r : LE} {x : D} {P Q : D → Prop} (h1 : f r = .ok x) (h2 : Wr (k r) P) (h3 : ∀ y, P y → Wr (g x y) Q) : Wr (opE g f k r) Q := by
  rw [opE_eq, h1, R.ok_bind]
  exact Wr.bindS (h2.mono h3)
theorem subS_wr {f k : LE → R D} {r : LE} {x : D} {P Q : D → Prop} (h1 : f r = .ok x) (h2 : Wr (k r) P) (h3 : ∀ y, P y → Wr (subI x y) Q) : Wr (subE f k r) Q := by
  rw [subE_eq, h1, R.ok_bind]
  exact Wr.bindS (h2.mono h3)
/-- 1 + a number drawn -/
theorem roll1S {f : LE → R D} {r : LE} {n : Nat} (h1 : f r = .ok .dice) (hn : 1 ≤ n) (hn2 : n < 1000000) : Wr (opE addD (cst (.int 1)) (callE rollD (acons f (acons (cst (.int (n : Nat))) anil))) r) (fun d => ∃ i, 1 ≤ i ∧ i ≤ n ∧ d = .int (i : Nat)) :=
  opS_wr rfl (rollS h1 rfl hn hn2) fun y ⟨i, hi, e⟩ => by
    subst e
    exact Wr.ok ⟨1 + i, by omega, by omega, by congr 1⟩
theorem aconsS_wr {f : LE → R D} {fs : LE → R (List D)} {r : LE} {P : D → Prop} {Q : List D → Prop} (h1 : Wr (f r) P) (h2 : Wr (fs r) Q) : Wr (acons f fs r) (fun xs => ∃ x ys, xs = x :: ys ∧ P x ∧ Q ys) := by
  rw [acons_eq]
  exact Wr.bindS (h1.mono fun x hx => Wr.bindS (h2.mono fun ys hy => Wr.ok ⟨x, ys, rfl, hx, hy⟩))
theorem tup2_wr {f g : LE → R D} {r : LE} {P Q : D → Prop} (h1 : Wr (f r) P) (h2 : Wr (g r) Q) : Wr (tupE (acons f (acons g anil)) r) (fun d => ∃ x y, d = .tup [x, y] ∧ P x ∧ Q y) := by
  rw [tupE_eq]
  refine Wr.bindS ((aconsS_wr h1 (aconsS_wr h2 (Q := fun ys => ys = []) (Wr.eq (a := []) rfl rfl))).mono fun ds h => ?_)
  obtain ⟨x, ys, rfl, hx, y, zs, rfl, hy, rfl⟩ := h
  rw [if_pos (by simp)]
  exact Wr.ok ⟨x, y, rfl, hx, hy⟩
theorem loopC_wrS {gd : D → LE → Option LE} {te : LE → R D} {r : LE} {P : D → Prop} : ∀ {ds : List D}, (∀ d ∈ ds, ∃ r', gd d r = some r' ∧ Wr (te r') P) → Wr (loopC gd yesT te r ds) (fun ys => ys.length = ds.length ∧ ∀ y ∈ ys, P y)
  | [], _ => Wr.ok ⟨rfl, fun _ h => by cases h⟩
  | d :: ds, q => by
    obtain ⟨r', h1, h2⟩ := q d List.mem_cons_self
    rw [loopC_cons, h1]
    dsimp only
    show Wr ((te r').calm >>= _) _
    refine Wr.bindS ((Wr.calmS h2).mono fun y hy => Wr.bindS ((loopC_wrS fun d hd => q d (List.mem_cons_of_mem _ hd)).mono fun ys h => Wr.ok ⟨by rw [List.length_cons, List.length_cons, h.1], fun z hz => ?_⟩))
    rcases List.mem_cons.mp hz with rfl | hz
    · exact hy
    · exact h.2 z hz
theorem compF_wrS {fi : LE → R (List D)} {gd : D → LE → Option LE} {te : LE → R D} {vs : List Nat} {r : LE} {P : D → Prop} {N : Nat → Prop} (hf : Wr (fi r) (fun ds => N ds.length ∧ ds.length ≤ 1000)) (ht : ∀ d, ∃ r', gd d (wipeL r vs) = some r' ∧ Wr (te r') P) :
    Wr (compF fi gd yesT te vs r) (fun ys => N ys.length ∧ ∀ y ∈ ys, P y) := by
  rw [compF_eq]
  refine Wr.bindS (hf.mono fun ds h => ?_)
  rw [if_pos (by omega)]
  exact (loopC_wrS fun d _ => ht d).mono fun ys q => ⟨by rw [q.1]; exact h.1, q.2⟩
theorem lE_wr {f : LE → R (List D)} {r : LE} {Q : List D → Prop} (h : Wr (f r) Q) : Wr (lE f r) (fun d => ∃ ys, d = .lst ys ∧ Q ys) := by
  rw [lE_eq]
  exact Wr.bindS (h.mono fun ys hy => Wr.ok ⟨ys, rfl, hy⟩)
theorem setK_wr {i : Nat} {f : LE → R D} {r : LE} {Q : D → Prop} (h : Wr (f r) Q) : Wr (setK i (valK f) r) (fun o => ∃ r2, o = .nx r2 ∧ ∃ d, Q d ∧ r2 = r.set i (.val d)) := by
  rw [setK_eq, valK_eq]
  exact Wr.onS_ (Wr.bindS (Wr.bindS (h.mono fun d hd => Wr.ok (Wr.ok (Wr.ok ⟨_, rfl, d, hd, rfl⟩)))))
theorem asgS_wr {f : LE → R D} {gd : D → LE → Option LE} {r : LE} {P : D → Prop} {Q : LE → Prop} (h : Wr (f r) P) (k : ∀ d, P d → ∃ r', gd d r = some r' ∧ Q r') : Wr (asgS f gd r) (fun o => ∃ r2, o = .nx r2 ∧ Q r2) := by
  rw [asgS_eq]
  refine Wr.onS_ (h.mono fun d hd => ?_)
  obtain ⟨r', h1, h2⟩ := k d hd
  rw [h1]
  exact Wr.ok ⟨r', rfl, h2⟩
end DL
set_option Elab.async false
set_option linter.all false
set_option maxRecDepth 100000
namespace DL
open PySem L2 PySem.Spec PyProof.Rows
abbrev nD (n : Nat) : D := .int (n : Int)
theorem runF_rt {n m : Nat} {F : LE → R Out} {ds : List D} {d : D} (hn : ds.length = n) (h : F (ds.map Cell.val ++ List.replicate (m - n) Cell.un) = .ok (.rt d)) : runF n m F ds = .ok d := by
  rw [runF_eq _ _ _ _ hn, h]
  rfl
theorem runF_ex {n m : Nat} {F : LE → R Out} {ds : List D} {e : Exc} {r : LE} (hn : ds.length = n) (h : F (ds.map Cell.val ++ List.replicate (m - n) Cell.un) = .ok (.ex e r)) : runF n m F ds = .err e := by
  rw [runF_eq _ _ _ _ hn, h]
  rfl
theorem runF_nx {n m : Nat} {F : LE → R Out} {ds : List D} {r : LE} (hn : ds.length = n) (h : F (ds.map Cell.val ++ List.replicate (m - n) Cell.un) = .ok (.nx r)) : runF n m F ds = .ok .non := by
  rw [runF_eq _ _ _ _ hn, h]
  rfl
theorem var_k {i : Nat} {r : LE} {d : D} (h : r[i]? = some (.val d)) : var i r = .ok d := by unfold var; rw [h]
theorem varP_o {i : Nat} {r : LE} {d : D} (h : r[i]? = some (.own d)) : varP i r = .ok d := by unfold varP; rw [h]
theorem cst_k {d : D} {r : LE} : cst d r = .ok d := rfl
theorem cst_0 {r : LE} : cst (.int 0) r = .ok (nD 0) := rfl
theorem cst_1 {r : LE} : cst (.int 1) r = .ok (nD 1) := rfl
theorem cst_2 {r : LE} : cst (.int 2) r = .ok (nD 2) := rfl
theorem itA_l {f : LE → R D} {r : LE} {xs : List D} (h : f r = .ok (.lst xs)) : itA f r = .ok xs := by unfold itA; rw [h]; rfl
theorem orT_k {f g : LE → R Bool} {r : LE} {a b : Bool} (h1 : f r = .ok a) (h2 : g r = .ok b) : orT f g r = .ok (a || b) := by
  rw [orT_eq, h1, R.ok_bind]
  cases a
  · exact h2
  · rfl
theorem yesT_k {r : LE} : yesT r = .ok true := rfl
theorem iadd_int (a b : Int) : iaddD (.int a) (.int b) = .ok (.int (a + b)) := rfl
theorem addD_nat (a b : Nat) : addD (nD a) (nD b) = .ok (nD (a + b)) := by
  show (R.ok (D.int ((a : Int) + (b : Int))) : R D) = _
  rw [← Int.natCast_add]
theorem neD_nat (a b : Nat) : neD (nD a) (nD b) = .ok (.bl (!decide (a = b))) := by
  unfold neD
  rw [if_pos (by rfl)]
  show R.ok (D.bl (!((a : Int) == (b : Int)))) = _
  congr 3
  rw [Bool.eq_iff_iff]
  simp only [beq_iff_eq, decide_eq_true_eq]
  omega
theorem eqD_nat (a b : Nat) : eqD (nD a) (nD b) = .ok (.bl (decide (a = b))) := by
  unfold eqD
  rw [if_pos (by rfl)]
  show R.ok (D.bl ((a : Int) == (b : Int))) = _
  congr 2
  rw [Bool.eq_iff_iff]
  simp only [beq_iff_eq, decide_eq_true_eq]
  omega
theorem ltD_nat (a b : Nat) : ltD (nD a) (nD b) = .ok (.bl (decide (a < b))) := by
  rw [ltD_int]
  congr 2
  rw [Bool.eq_iff_iff]
  simp only [decide_eq_true_eq]
  omega
theorem leD_nat (a b : Nat) : leD (nD a) (nD b) = .ok (.bl (decide (a ≤ b))) := by
  rw [leD_int]
  congr 2
  rw [Bool.eq_iff_iff]
  simp only [decide_eq_true_eq]
  omega
theorem gtD_nat (a b : Nat) : gtD (nD a) (nD b) = .ok (.bl (decide (a > b))) := by
  rw [gtD_int]
  congr 2
  rw [Bool.eq_iff_iff]
  simp only [decide_eq_true_eq]
  omega
theorem nD_sh (i n : Nat) : (nD i).sh n = true := by
  unfold D.sh
  rfl
theorem nDs_sh (l : List Nat) (n : Nat) : D.shs (l.map nD) n = true := shs_map fun a _ => nD_sh a n
theorem lenX_l (xs : List D) : lenX [.lst xs] = .ok (nD xs.length) := rfl
theorem lenX_t (xs : List D) : lenX [.tup xs] = .ok (nD xs.length) := rfl
theorem rng2_int (b : Int) (hb : b < 1000000) (hc : -1000000 < b) (a : Nat) (ha : a < 1000000) : rng2 [nD a, .int b] = .ok ((List.range (b - a).toNat).map fun i => nD (a + i)) := by
  show (if b < 1073741824 ∧ -(1073741824) < b ∧ (a : Int) < 1073741824 ∧ -(1073741824) < (a : Int) then R.ok (rangeL a (b - a).toNat) else .stuck) = _
  rw [if_pos (by omega)]
  unfold rangeL
  congr 1
theorem rng1_nat (n : Nat) (hn : n ≤ 1000000) : rng1 [nD n] = .ok ((List.range n).map nD) := by
  unfold rng1
  dsimp only
  rw [if_pos (by omega), Int.toNat_natCast]
  congr 1
  unfold rangeL
  exact List.map_congr_left fun k _ => by rw [Int.zero_add]
theorem loopS_pre {α : Type} {gd : D → LE → Option LE} {body : LE → R Out} {e : α → D} {l0 : List α} (I : List α → LE → Prop) : ∀ {l done : List α} {r : LE}, done ++ l = l0 → I done r → (∀ a done rest r, done ++ a :: rest = l0 → I done r → ∃ r' r2, gd (e a) r = some r' ∧ body r' = .ok (.nx r2) ∧ I (done ++ [a]) r2) →
    ∃ r2, loopS gd body (l.map e) r = .ok (.nx r2) ∧ I (done ++ l) r2
  | [], done, r, _, h, _ => ⟨r, rfl, by simpa using h⟩
  | a :: l, done, r, hd, h, q => by
    obtain ⟨r', r2, h1, h2, h3⟩ := q a done l r hd h
    obtain ⟨r3, h4, h5⟩ := loopS_pre I (l := l) (by rw [List.append_assoc]; exact hd) h3 q
    refine ⟨r3, ?_, by simpa using h5⟩
    rw [List.map_cons, loopS_nx h1 h2, h4]
/-- over `range n`, any reading of its places -/
theorem loopS_rgM {gd : D → LE → Option LE} {body : LE → R Out} {e : Nat → D} (I : Nat → LE → Prop) {n : Nat} {r : LE} (h : I 0 r) (q : ∀ k r, k < n → I k r → ∃ r' r2, gd (e k) r = some r' ∧ body r' = .ok (.nx r2) ∧ I (k + 1) r2) :
    ∃ r2, loopS gd body ((List.range n).map e) r = .ok (.nx r2) ∧ I n r2 := by
  obtain ⟨r2, h1, h2⟩ := loopS_pre (gd := gd) (body := body) (e := e) (l0 := List.range n) (fun T r => I T.length r) (l := List.range n) (done := []) (r := r) rfl h (fun k T rest r hT hI => by
    have e : (List.range n)[T.length]? = some k := by rw [← hT]; simp
    obtain ⟨h1, h2⟩ := List.getElem?_eq_some_iff.mp e
    rw [List.getElem_range] at h2
    rw [List.length_range] at h1
    subst h2
    obtain ⟨r', r2, h3, h4, h5⟩ := q _ r h1 hI
    exact ⟨r', r2, h3, h4, by rw [List.length_append]; exact h5⟩)
  refine ⟨r2, h1, ?_⟩
  rw [List.nil_append, List.length_range] at h2
  exact h2
/-- each of them so: then mapped things -/
theorem map_of_all {α : Type} {e : α → D} {P : α → Prop} : ∀ {ys : List D}, (∀ y ∈ ys, ∃ a, P a ∧ y = e a) → ∃ l : List α, (∀ a ∈ l, P a) ∧ ys = l.map e
  | [], _ => ⟨[], ⟨fun _ h => (by cases h), rfl⟩⟩
  | y :: ys, h => by
    obtain ⟨a, ha, rfl⟩ := h y List.mem_cons_self
    obtain ⟨l, hl, rfl⟩ := map_of_all fun z hz => h z (List.mem_cons_of_mem _ hz)
    exact ⟨a :: l, fun b hb => by
      rcases List.mem_cons.mp hb with rfl | hb
      · exact ha
      · exact hl b hb, rfl⟩
end DL
namespace DL
open PySem L2 PySem.Spec PyProof.Rows
theorem seqS_wr {F K : LE → R Out} {r : LE} {P : LE → Prop} {Q : Out → Prop} (h : Wr (F r) (fun o => ∃ r2, o = .nx r2 ∧ P r2)) (k : ∀ r2, P r2 → Wr (K r2) Q) : Wr (seqS F K r) Q := by
  rw [seqS_eq]
  refine Wr.bindS (h.mono fun o ho => ?_)
  obtain ⟨r2, rfl, h2⟩ := ho
  exact k r2 h2
theorem seqS_okW {F K : LE → R Out} {r r2 : LE} {Q : Out → Prop} (h : F r = .ok (.nx r2)) (k : Wr (K r2) Q) : Wr (seqS F K r) Q := by
  rw [seqS_eq, h]
  exact k
theorem callE_wr {g : List D → R D} {fs : LE → R (List D)} {r : LE} {xs : List D} {Q : D → Prop} (h1 : fs r = .ok xs) (h2 : Wr (g xs) Q) : Wr (callE g fs r) Q := by
  rw [callE_eq, h1]
  exact h2
theorem rng1_roll {f : LE → R D} {k : LE → R D} {r : LE} {n : Nat} (h1 : f r = .ok .dice) (h2 : k r = .ok (.int (n : Nat))) (hn : 1 ≤ n) (hn2 : n < 1000) : Wr (rng1E (acons (callE rollD (acons f (acons k anil))) anil) r) (fun ds => ∃ m, m < n ∧ ds = (List.range m).map nD) := by
  rw [rng1E_eq, acons_eq]
  refine Wr.bindS (Wr.bindS ((rollS h1 h2 hn (by omega)).mono fun d hd => ?_))
  obtain ⟨i, hi, rfl⟩ := hd
  show Wr (R.ok [D.int (i : Nat)]) _
  refine Wr.ok ?_
  rw [rng1_nat i (by omega)]
  exact Wr.ok ⟨i, hi, rfl⟩
end DL
namespace DL
open PySem L2 PySem.Spec PyProof.Rows
def up (f : Nat → Cell) (k : Nat) (c : Cell) : Nat → Cell := fun j => if j = k then c else f j
theorem told_er {l : List (Nat × List Nat)} {f : LE → R D} {r : LE} {e : Exc} {t : List Nat} (h : f r = .err e) (h2 : l.lookup e.cls = some t) : toldE l f r = .ok (.str t) := by rw [toldE_eq, h, toldD_err, h2]
theorem told_no {l : List (Nat × List Nat)} {f : LE → R D} {r : LE} {d : D} (h : f r = .ok d) : toldE l f r = .ok d := by rw [toldE_eq, h]; rfl
theorem callE_err {g : List D → R D} {fs : LE → R (List D)} {r : LE} {xs : List D} {e : Exc} (h1 : fs r = .ok xs) (h2 : g xs = .err e) : callE g fs r = .err e := by rw [callE_eq, h1]; exact h2
theorem ltb_nDD (a b : Nat) : (nD a).ltb (nD b) = decide (a < b) := by
  show PySem.W.dataLt (.int a) (.int b) = _
  rw [PySem.W.dataLt_int, Bool.eq_iff_iff]
  simp only [decide_eq_true_eq]
  omega
theorem alis_nDD (l : List Nat) : alis (l.map nD) = true := by
  unfold alis
  rw [List.all_eq_true]
  intro x hx
  obtain ⟨a, _, rfl⟩ := List.mem_map.mp hx
  rw [nD_sh]
  simp only [Bool.true_and]
  rw [List.all_eq_true]
  intro y hy
  obtain ⟨b, _, rfl⟩ := List.mem_map.mp hy
  rfl
theorem frz_l {i : Nat} {r : LE} {ds : List D} (h : r[i]? = some (.own (.lst ds))) : frz i r = r.set i (.val (.lst ds)) := by unfold frz; rw [h]
/-- the last statement: says False if its test is so -/
theorem lastS {c : LE → R Bool} {f : LE → R D} {r : LE} (h : Wr (c r) (fun b => b = false)) : GoP Done (ifS c (retS f) skipS) r := by
  refine ⟨?_⟩
  rw [ifS_eq]
  refine Wp_onS (h.h.mono (fun b hb => ?_) fun _ z => z.elim)
  rw [hb, if_neg (by simp), skipS_eq, Wp_ok]
  exact ⟨r, Or.inl rfl⟩
theorem not_wr {m : R D} (h : Wr m (fun d => d = .bl true)) : Wr ((m >>= asB) >>= fun b => R.ok (!b)) (fun b => b = false) := by
  refine Wr.bindS (Wr.bindS (h.mono fun d hd => ?_))
  rw [hd, asB_bl]
  exact Wr.ok (Wr.ok rfl)
end DL
set_option Elab.async false
set_option linter.all false
set_option maxRecDepth 100000
namespace DL
open PySem L2 PySem.Spec PyProof.Rows
theorem itB_l {f : LE → R D} {r : LE} {xs : List D} (h : f r = .ok (.lst xs)) : itB f r = .ok xs := by unfold itB; rw [h]; rfl
theorem itB_t {f : LE → R D} {r : LE} {xs : List D} (h : f r = .ok (.tup xs)) : itB f r = .ok xs := by unfold itB; rw [h]; rfl
theorem itB_d {f : LE → R D} {r : LE} {kvs : List (D × D)} (h : f r = .ok (.dic kvs)) : itB f r = .ok (kvs.map (·.1)) := by unfold itB; rw [h]; rfl
theorem itV_d {f : LE → R D} {r : LE} {kvs : List (D × D)} (h : f r = .ok (.dic kvs)) : itV f r = .ok (kvs.map (·.2)) := by unfold itV; rw [h]; rfl
/-- the first of the least -/
def bst {α : Type} (lt : α → α → Bool) (a : α) (l : List α) : α := l.foldl (fun a y => if lt y a = true then y else a) a
theorem least_map {α : Type} {k : α → D} {lt : α → α → Bool} (h : ∀ a b, (k a).ltb (k b) = lt a b) : ∀ (l : List α) (a : α), least (k a) (l.map k) = k (bst lt a l)
  | [], a => rfl
  | b :: l, a => by
    show least (if (k b).ltb (k a) then k b else k a) (l.map k) = k (bst lt (if lt b a = true then b else a) l)
    rw [h b a]
    by_cases q : lt b a = true
    · rw [if_pos q, if_pos q]
      exact least_map h l b
    · rw [if_neg q, if_neg q]
      exact least_map h l a
theorem minL_map {α : Type} {k : α → D} {lt : α → α → Bool} (h : ∀ a b, (k a).ltb (k b) = lt a b) {a : α} {l : List α} (hal : alis ((a :: l).map k) = true) : minL [.lst ((a :: l).map k)] = .ok (k (bst lt a l)) := by
  show (if alis ((a :: l).map k) then R.ok (least (k a) (l.map k)) else .stuck) = _
  rw [hal, if_pos rfl, least_map h]
/-- least of whole numbers -/
def minN : List Nat → Nat
  | [] => 0
  | a :: l => bst (fun a b => decide (a < b)) a l
theorem minL_N {l : List Nat} (h : l ≠ []) : minL [.lst (l.map nD)] = .ok (nD (minN l)) := by
  cases l with
  | nil => exact absurd rfl h
  | cons a l => exact minL_map (k := nD) ltb_nDD (alis_nDD _)
theorem most_nD : ∀ (l : List Nat) (a : Nat), ∃ m, most (nD a) (l.map nD) = nD m ∧ m ∈ a :: l ∧ ∀ x ∈ a :: l, x ≤ m
  | [], a => ⟨a, rfl, by simp, by simp⟩
  | b :: l, a => by
    have e : most (nD a) ((b :: l).map nD) = most (if a < b then nD b else nD a) (l.map nD) := by
      show most (if (nD a).ltb (nD b) then nD b else nD a) (l.map nD) = _
      rw [ltb_nDD]
      simp only [decide_eq_true_eq]
    rw [e]
    by_cases h : a < b
    · rw [if_pos h]
      obtain ⟨m, h1, h2, h3⟩ := most_nD l b
      refine ⟨m, h1, List.mem_cons_of_mem _ h2, fun x hx => ?_⟩
      rcases List.mem_cons.mp hx with rfl | hx
      · have := h3 b List.mem_cons_self
        omega
      · exact h3 x hx
    · rw [if_neg h]
      obtain ⟨m, h1, h2, h3⟩ := most_nD l a
      refine ⟨m, h1, ?_, fun x hx => ?_⟩
      · rcases List.mem_cons.mp h2 with rfl | h2
        · exact List.mem_cons_self
        · exact List.mem_cons_of_mem _ (List.mem_cons_of_mem _ h2)
      · rcases List.mem_cons.mp hx with rfl | hx
        · exact h3 x List.mem_cons_self
        · rcases List.mem_cons.mp hx with rfl | hx
          · have := h3 a List.mem_cons_self
            omega
          · exact h3 x (List.mem_cons_of_mem _ hx)
theorem maxL_nD {l : List Nat} (h : l ≠ []) : ∃ m, maxL [.lst (l.map nD)] = .ok (nD m) ∧ m ∈ l ∧ ∀ x ∈ l, x ≤ m := by
  cases l with
  | nil => exact absurd rfl h
  | cons a l =>
    obtain ⟨m, h1, h2⟩ := most_nD l a
    refine ⟨m, ?_, h2⟩
    show (if alis ((a :: l).map nD) then R.ok (most (nD a) (l.map nD)) else .stuck) = _
    rw [alis_nDD, if_pos rfl, h1]
theorem sliceE_to {f k : LE → R D} {r : LE} {xs : List D} {n : Nat} (h : f r = .ok (.lst xs)) (h2 : k r = .ok (nD n)) : sliceE f noP (someP k) r = .ok (.lst (xs.take n)) := by
  rw [sliceE_eq, h, R.ok_bind, noP_eq, R.ok_bind, someP_int k r n h2, R.ok_bind, slI_lst, cutD_to]
end DL
set_option Elab.async false
set_option linter.all false
set_option maxRecDepth 100000
namespace DL
open PySem L2 PySem.Spec PyProof.Rows
def tks (d : D) : List (Int ⊕ List Nat) := PySem.W.keyToks d.toP
def ltk {α : Type} (k : α → D) (a b : α) : Bool := (k a).ltb (k b)
theorem ord_k {α : Type} {k : α → D} (inj : ∀ a b, tks (k a) = tks (k b) → a = b) : Ord (ltk k) where
  tr a b c h1 h2 := by
    cases h : ltk k c a with
    | false => rfl
    | true =>
      rcases lex_negTrans _ (tks (k b)) _ h with h | h
      · exact absurd (h.symm.trans h2) (by decide)
      · exact absurd (h.symm.trans h1) (by decide)
  an a b h1 h2 := inj _ _ (lex_total _ _ h1 h2)
  as a b h := by
    cases h2 : ltk k b a with
    | false => rfl
    | true =>
      have h3 := lex_trans _ _ _ h h2
      exact absurd (h3.symm.trans (lex_irrefl _)) (by decide)
theorem srt_uniq {α : Type} {k : α → D} (inj : ∀ a b, tks (k a) = tks (k b) → a = b) {l m : List α} (p : l.Perm m) : isort (ltk k) l = isort (ltk k) m :=
  up_uniq (ord_k inj) _ _ (isort_up (ord_k inj) _) (isort_up (ord_k inj) _) ((isort_perm _).trans (p.trans (isort_perm _).symm))
theorem insT_map' {α β : Type} {lt : α → α → Bool} {lt' : β → β → Bool} {f : α → β} (h : ∀ a b, lt' (f a) (f b) = lt a b) (x : α) : ∀ l : List α, insT lt' (f x) (l.map f) = (insT lt x l).map f
  | [] => rfl
  | y :: l => by
    rw [List.map_cons]
    unfold insT
    rw [h y x]
    cases lt y x with
    | true => rw [if_pos rfl, if_pos rfl, insT_map' h x l]; rfl
    | false => rfl
theorem isort_map' {α β : Type} {lt : α → α → Bool} {lt' : β → β → Bool} {f : α → β} (h : ∀ a b, lt' (f a) (f b) = lt a b) : ∀ l : List α, isort lt' (l.map f) = (isort lt l).map f
  | [] => rfl
  | x :: l => by
    show insT lt' (f x) (isort lt' (l.map f)) = _
    rw [isort_map' h l, insT_map' h]
    rfl
theorem txts_k {α : Type} (f : α → List Nat) : ∀ l : List α, txts? (l.map fun a => D.str (f a)) = some (l.map f)
  | [] => rfl
  | a :: l => by
    show (txts? (l.map fun a => D.str (f a))).map (f a :: ·) = _
    rw [txts_k f l]
    rfl
theorem lt_cps : ∀ a b : List Nat, decide (a < b) = ltCps a b
  | [], [] => by simp [ltCps]
  | [], y :: b => by simp [ltCps]
  | x :: a, [] => by simp [ltCps]
  | x :: a, y :: b => by
    have ih := lt_cps a b
    unfold ltCps
    rw [← ih, Bool.eq_iff_iff]
    simp only [decide_eq_true_eq, Bool.or_eq_true, Bool.and_eq_true, beq_iff_eq]
    exact List.cons_lt_cons_iff
theorem ltb_str (a b : List Nat) : (D.str a).ltb (.str b) = ltCps a b := by
  show PySem.W.dataLt (.str ⟨a.toArray⟩) (.str ⟨b.toArray⟩) = _
  rw [PySem.W.dataLt_str]
  exact lt_cps a b
/-- sorted(list of texts) -/
theorem sortDs_str {α : Type} (f : α → List Nat) {l : List α} (h : l.length < 64) : sortDs (l.map fun a => D.str (f a)) = .ok ((isort (ltk fun a => D.str (f a)) l).map fun a => D.str (f a)) := by
  unfold sortDs
  rw [if_pos (by rw [List.length_map]; exact h), txts_k]
  dsimp only
  rw [isort_map' (lt := ltk fun a => D.str (f a)) (f := f) (fun a b => by
    unfold ltk
    rw [ltb_str]), List.map_map]
  rfl
section
variable {α : Type} [DecidableEq α]
def adds (acc : List α) (a : α) : List α := if a ∈ acc then acc else acc ++ [a]
def firsts (l : List α) : List α := l.foldl adds []
theorem firsts_snoc (l : List α) (a : α) : firsts (l ++ [a]) = adds (firsts l) a := by
  unfold firsts
  rw [List.foldl_append]
  rfl
theorem adds_mem {acc : List α} {a b : α} : b ∈ adds acc a ↔ b ∈ acc ∨ b = a := by
  unfold adds
  split
  · rename_i h
    exact ⟨.inl, fun q => q.elim id fun e => e ▸ h⟩
  · simp
theorem foldl_mem : ∀ (l acc : List α) {a : α}, a ∈ l.foldl adds acc ↔ a ∈ acc ∨ a ∈ l
  | [], acc, a => by simp
  | b :: l, acc, a => by
    rw [List.foldl_cons, foldl_mem l, adds_mem, List.mem_cons]
    exact or_assoc
theorem firsts_mem {l : List α} {a : α} : a ∈ firsts l ↔ a ∈ l := by
  unfold firsts
  rw [foldl_mem]
  simp
theorem adds_nodup {acc : List α} {a : α} (h : acc.Nodup) : (adds acc a).Nodup := by
  unfold adds
  split
  · exact h
  · rename_i q
    exact List.nodup_append.mpr ⟨h, by simp, fun x hx y hy e => q (by rw [List.mem_singleton.mp hy] at e; exact e ▸ hx)⟩
theorem firsts_nodup (l : List α) : (firsts l).Nodup := by
  unfold firsts
  have : ∀ (l acc : List α), acc.Nodup → (l.foldl adds acc).Nodup := fun l => by
    induction l with
    | nil => exact fun acc h => h
    | cons a l ih => exact fun acc h => ih _ (adds_nodup h)
  exact this l [] List.nodup_nil
theorem firsts_len (l : List α) : (firsts l).length ≤ l.length := by
  unfold firsts
  have : ∀ (l acc : List α), (l.foldl adds acc).length ≤ acc.length + l.length := fun l => by
    induction l with
    | nil => exact fun acc => Nat.le_refl _
    | cons a l ih =>
      intro acc
      have h1 := ih (adds acc a)
      have h2 : (adds acc a).length ≤ acc.length + 1 := by
        unfold adds
        split
        · omega
        · simp
      rw [List.foldl_cons, List.length_cons]
      omega
  have := this l []
  simpa using this
theorem firsts_of_nodup {l : List α} (h : l.Nodup) : firsts l = l := by
  unfold firsts
  have : ∀ (l acc : List α), (acc ++ l).Nodup → l.foldl adds acc = acc ++ l := fun l => by
    induction l with
    | nil => intro acc _; simp
    | cons a l ih =>
      intro acc h
      have hn : a ∉ acc := fun hm => (List.nodup_append.mp h).2.2 _ hm _ List.mem_cons_self rfl
      rw [List.foldl_cons]
      have e : adds acc a = acc ++ [a] := if_neg hn
      rw [e, ih _ (by rw [List.append_assoc]; exact h), List.append_assoc]
      rfl
  have := this l [] (by simpa using h)
  simpa using this
/-- two lists without doubles, of the same things -/
theorem perm_of {l m : List α} (hl : l.Nodup) (hm : m.Nodup) (h : ∀ a, a ∈ l ↔ a ∈ m) : l.Perm m := (List.perm_ext_iff_of_nodup hl hm).mpr h
/-- d[k] = v, keys compared by q -/
def putQ (q : D → D → Bool) (kvs : List (D × D)) (k d : D) : List (D × D) := if (kvs.any fun p => q p.1 k) = true then kvs.map (fun p => if q p.1 k then (p.1, d) else p) else kvs ++ [(k, d)]
def getQ (q : D → D → Bool) (kvs : List (D × D)) (k : D) : Option D := (kvs.find? fun p => q p.1 k).map (·.2)
theorem putD_q (kvs : List (D × D)) (k d : D) : putD kvs k d = putQ D.keq kvs k d := rfl
theorem getD_q (kvs : List (D × D)) (k : D) : getD kvs k = getQ D.keq kvs k := rfl
/-- a dict with these keys -/
def dcQ (e : α → D) (x : α → D) (l : List α) : List (D × D) := l.map fun a => (e a, x a)
variable {q : D → D → Bool} {e : α → D}
theorem dcQ_any (h : ∀ a b, q (e a) (e b) = decide (a = b)) {x : α → D} {l : List α} {a : α} : ((dcQ e x l).any fun p => q p.1 (e a)) = decide (a ∈ l) := by
  unfold dcQ
  rw [Bool.eq_iff_iff]
  simp only [List.any_eq_true, List.mem_map, decide_eq_true_eq]
  constructor
  · rintro ⟨p, ⟨b, hb, rfl⟩, hq⟩
    dsimp only at hq
    rw [h, decide_eq_true_eq] at hq
    exact hq ▸ hb
  · intro hb
    exact ⟨_, ⟨a, hb, rfl⟩, by dsimp only; rw [h]; exact decide_eq_true rfl⟩
theorem dcQ_put (h : ∀ a b, q (e a) (e b) = decide (a = b)) {x x' : α → D} {l : List α} {a : α} {v : D} (h1 : x' a = v) (h2 : ∀ b ∈ l, b ≠ a → x' b = x b) : putQ q (dcQ e x l) (e a) v = dcQ e x' (adds l a) := by
  unfold putQ
  rw [dcQ_any h]
  unfold adds
  by_cases hm : a ∈ l
  · rw [if_pos (decide_eq_true hm), if_pos hm]
    unfold dcQ
    rw [List.map_map]
    refine List.map_congr_left fun b hb => ?_
    show (if q (e b) (e a) = true then (e b, v) else (e b, x b)) = (e b, x' b)
    rw [h]
    by_cases eb : b = a
    · subst eb
      rw [if_pos (decide_eq_true rfl), h1]
    · rw [if_neg (by simpa using eb), h2 b hb eb]
  · rw [if_neg (by simpa using hm), if_neg hm]
    unfold dcQ
    rw [List.map_append, List.map_cons, h1]
    congr 1
    exact List.map_congr_left fun b hb => by rw [h2 b hb fun eb => hm (eb ▸ hb)]
theorem dcQ_get (h : ∀ a b, q (e a) (e b) = decide (a = b)) {x : α → D} {a : α} : ∀ {l : List α}, getQ q (dcQ e x l) (e a) = if a ∈ l then some (x a) else none
  | [] => by rw [if_neg (by simp)]; rfl
  | b :: l => by
    unfold getQ dcQ
    rw [List.map_cons]
    by_cases eb : b = a
    · subst eb
      rw [List.find?_cons_of_pos (by dsimp only; rw [h]; exact decide_eq_true rfl), if_pos List.mem_cons_self]
      rfl
    · rw [List.find?_cons_of_neg (by dsimp only; rw [h]; simpa using eb)]
      have := dcQ_get h (x := x) (a := a) (l := l)
      unfold getQ dcQ at this
      rw [this]
      have e2 : (a ∈ b :: l) ↔ a ∈ l := by
        rw [List.mem_cons]
        exact ⟨fun q => q.elim (fun e => absurd e.symm eb) id, .inr⟩
      by_cases hm : a ∈ l
      · rw [if_pos hm, if_pos (e2.mpr hm)]
      · rw [if_neg hm, if_neg fun q => hm (e2.mp q)]
theorem dcQ_in (h : ∀ a b, q (e a) (e b) = decide (a = b)) {x : α → D} {a : α} {l : List α} (ha : a ∈ l) : getQ q (dcQ e x l) (e a) = some (x a) := by rw [dcQ_get h, if_pos ha]
/-- a dict made of pairs whose first ones are all different -/
theorem dcQ_merge (h : ∀ a b, q (e a) (e b) = decide (a = b)) {x : α → D} : ∀ (l l0 : List α), (dcQ e x l).foldl (fun acc p => putQ q acc p.1 p.2) (dcQ e x l0) = dcQ e x (l.foldl adds l0)
  | [], l0 => rfl
  | a :: l, l0 => by
    show (dcQ e x l).foldl _ (putQ q (dcQ e x l0) (e a) (x a)) = _
    rw [dcQ_put h (x' := x) rfl fun _ _ _ => rfl, dcQ_merge h l]
    rfl
theorem mergeD_dc (h : ∀ a b, (e a).keq (e b) = decide (a = b)) {x : α → D} (l : List α) : mergeD [] (dcQ e x l) = dcQ e x (firsts l) := dcQ_merge (q := D.keq) h l []
theorem mergeT_dc (h : ∀ a b, (e a).tkq (e b) = decide (a = b)) {x : α → D} (l : List α) : mergeTD [] (dcQ e x l) = dcQ e x (firsts l) := dcQ_merge (q := D.tkq) h l []
theorem pairsD_dc (h : ∀ a, (e a).key1 = true) {x : α → D} : ∀ l : List α, pairsD (l.map fun a => .tup [e a, x a]) = some (dcQ e x l)
  | [] => rfl
  | a :: l => by
    show (if (e a).key1 = true then (pairsD (l.map fun a => .tup [e a, x a])).map ((e a, x a) :: ·) else none) = _
    rw [pairsD_dc h l, if_pos (h a)]
    rfl
theorem pairsT_dc (h : ∀ a, (e a).tkey.isSome = true) {x : α → D} : ∀ l : List α, pairsTD (l.map fun a => .tup [e a, x a]) = some (dcQ e x l)
  | [] => rfl
  | a :: l => by
    show (if (e a).tkey.isSome = true then (match pairsTD (l.map fun a => .tup [e a, x a]) with
      | some r => some ((e a, x a) :: r)
      | none => none) else none) = _
    rw [pairsT_dc h l, if_pos (h a)]
    rfl
theorem dictD_dc (hk : ∀ a, (e a).key1 = true) (h : ∀ a b, (e a).keq (e b) = decide (a = b)) {x : α → D} (l : List α) : dictD [.lst (l.map fun a => .tup [e a, x a])] = .ok (.dic (dcQ e x (firsts l))) := by
  unfold dictD dictL
  dsimp only
  rw [pairsD_dc hk]
  dsimp only
  rw [mergeD_dc h]
  rfl
theorem dictTD_dc (hk : ∀ a, (e a).tkey.isSome = true) (h : ∀ a b, (e a).tkq (e b) = decide (a = b)) {x : α → D} (l : List α) : dictTD (.lst (l.map fun a => .tup [e a, x a])) = .ok (dcQ e x (firsts l)) := by
  unfold dictTD
  dsimp only
  rw [pairsT_dc hk]
  dsimp only
  rw [mergeT_dc h]
end
end DL
set_option Elab.async false
set_option linter.all false
set_option maxRecDepth 100000
namespace DL
open PySem L2 PySem.Spec PyProof.Rows
theorem loopC_fmM {α : Type} {gd : D → LE → Option LE} {tt : LE → R Bool} {te : LE → R D} {r : LE} {e h : α → D} {p : α → Bool} {l : List α} (hl : l.length ≤ 16777216) (q : ∀ a ∈ l, ∃ r', gd (e a) r = some r' ∧ tt r' = .ok (p a) ∧ (p a = true → te r' = .ok (h a))) :
    loopC gd tt te r (l.map e) = .ok ((l.filter p).map h) := by
  have := compF_fmM (fi := fun _ => .ok (l.map e)) (gd := gd) (tt := tt) (te := te) (vs := []) (r := r) (e := e) (h := h) (p := p) (l := l) rfl hl q
  rw [compF_eq, R.ok_bind, if_pos (by rw [List.length_map]; exact hl)] at this
  exact this
theorem loopC2_fmM {α β : Type} {gd gd1 : D → LE → Option LE} {fi1 : LE → R (List D)} {tt1 : LE → R Bool} {te : LE → R D} {vs1 : List Nat} {r : LE} {e : α → D} {e1 : β → D} {h : α → β → D} {p : α → β → Bool} {m : α → List β} : ∀ {l : List α},
    (∀ a ∈ l, ∃ r1, gd (e a) r = some r1 ∧ fi1 r1 = .ok ((m a).map e1) ∧ (m a).length ≤ 64 ∧ ∀ b ∈ m a, ∃ r2, gd1 (e1 b) (wipeL r1 vs1) = some r2 ∧ tt1 r2 = .ok (p a b) ∧ (p a b = true → te r2 = .ok (h a b))) →
    loopC2 gd yesT fi1 gd1 tt1 te vs1 r (l.map e) = .ok (l.flatMap fun a => ((m a).filter (p a)).map (h a))
  | [], _ => rfl
  | a :: l, q => by
    obtain ⟨r1, h1, h2, h3, h4⟩ := q a List.mem_cons_self
    have ih := loopC2_fmM (l := l) fun b hb => q b (List.mem_cons_of_mem _ hb)
    rw [List.map_cons]
    unfold loopC2
    rw [h1]
    show ((fi1 r1).calm >>= fun es => if es.length ≤ 64 then (loopC gd1 tt1 te (wipeL r1 vs1) es >>= fun xs => loopC2 gd yesT fi1 gd1 tt1 te vs1 r (l.map e) >>= fun ys => .ok (xs ++ ys)) else .stuck) = _
    rw [h2]
    show (if ((m a).map e1).length ≤ 64 then (loopC gd1 tt1 te (wipeL r1 vs1) ((m a).map e1) >>= fun xs => loopC2 gd yesT fi1 gd1 tt1 te vs1 r (l.map e) >>= fun ys => .ok (xs ++ ys)) else .stuck) = _
    rw [if_pos (by rw [List.length_map]; exact h3), loopC_fmM (by omega) h4, R.ok_bind, ih]
    rfl
theorem compF2_fmM {α β : Type} {fi : LE → R (List D)} {gd gd1 : D → LE → Option LE} {fi1 : LE → R (List D)} {tt1 : LE → R Bool} {te : LE → R D} {vs vs1 : List Nat} {r : LE} {e : α → D} {e1 : β → D} {h : α → β → D} {p : α → β → Bool} {l : List α} {m : α → List β} (hf : fi r = .ok (l.map e)) (hl : l.length ≤ 262144)
    (q : ∀ a ∈ l, ∃ r1, gd (e a) (wipeL r vs) = some r1 ∧ fi1 r1 = .ok ((m a).map e1) ∧ (m a).length ≤ 64 ∧ ∀ b ∈ m a, ∃ r2, gd1 (e1 b) (wipeL r1 vs1) = some r2 ∧ tt1 r2 = .ok (p a b) ∧ (p a b = true → te r2 = .ok (h a b))) :
    compF2 fi gd yesT fi1 gd1 tt1 te vs vs1 r = .ok (l.flatMap fun a => ((m a).filter (p a)).map (h a)) := by
  unfold compF2
  rw [hf]
  show (if (l.map e).length ≤ 262144 then loopC2 gd yesT fi1 gd1 tt1 te vs1 (wipeL r vs) (l.map e) else .stuck) = _
  rw [if_pos (by rw [List.length_map]; exact hl)]
  exact loopC2_fmM q
theorem head_find {α : Type} (p : α → Bool) : ∀ l : List α, (l.filter p).head? = l.find? p
  | [] => rfl
  | a :: l => by
    cases h : p a with
    | true => rw [List.filter_cons_of_pos h, List.find?_cons_of_pos h]; rfl
    | false => rw [List.filter_cons_of_neg (by rw [h]; simp), List.find?_cons_of_neg (by rw [h]; simp)]; exact head_find p l
end DL
set_option Elab.async false
set_option linter.all false
set_option maxRecDepth 100000
namespace DL
open PySem L2 PySem.Spec PyProof.Rows
theorem tryUS_nx {z : Nat} {ks : List Nat} {F : LE → R Out} {l : List (Nat × (LE → R Out))} {r r' : LE} (h : F r = .ok (.nx r')) : tryUS z ks F l r = .ok (.nx r') := by
  unfold tryUS
  rw [h]
  rfl
theorem tryUS_ex {z : Nat} {ks : List Nat} {F K : LE → R Out} {l : List (Nat × (LE → R Out))} {r r' : LE} {e : Exc} {x : R Out} (h : F r = .ok (.ex e r')) (hk : ks.contains e.cls = true) (hh : handS z e.cls l = some K) (k : K r' = x) : tryUS z ks F l r = x := by
  unfold tryUS
  rw [h]
  show (if ks.contains e.cls then (match handS z e.cls l with
    | some K => K r'
    | none => .ok (.ex e r')) else .stuck) = _
  rw [hk, if_pos rfl, hh]
  exact k
theorem dropS_ok {f : LE → R D} {r : LE} {d : D} (h : f r = .ok d) : dropS f r = .ok (.nx r) := by
  unfold dropS
  rw [h]
  rfl
theorem setK_err {i : Nat} {f : LE → R D} {r : LE} {e : Exc} (h : f r = .err e) : setK i (valK f) r = .ok (.ex e r) := by
  rw [setK_eq, valK_eq, h]
  rfl
theorem acons_err1 {f : LE → R D} {fs : LE → R (List D)} {r : LE} {e : Exc} (h : f r = .err e) : acons f fs r = .err e := by rw [acons_eq, h]; rfl
theorem callE_errA {g : List D → R D} {fs : LE → R (List D)} {r : LE} {e : Exc} (h1 : fs r = .err e) : callE g fs r = .err e := by rw [callE_eq, h1]; rfl
def isNt : R D → Nat → Bool
  | .ok (.int i), n => i == (n : Int)
  | _, _ => false
theorem isNt_eq : ∀ {x : R D} {n : Nat}, isNt x n = true → x = .ok (nD n)
  | .ok (.int i), n, h => by rw [beq_iff_eq.mp (show (i == (n : Int)) = true from h)]
theorem all_rng {p : Nat → Bool} {n : Nat} (h : ((List.range n).all p) = true) {k : Nat} (hk : k < n) : p k = true := List.all_eq_true.mp h k (List.mem_range.mpr hk)
theorem mod_nat (a b : Nat) (h : 0 < b) : modD (nD a) (nD b) = .ok (nD (a % b)) := by
  show (if (0 : Int) < (b : Int) then R.ok (D.int ((a : Int) % (b : Int))) else .stuck) = _
  rw [if_pos (by omega)]
  rfl
theorem sub_nat1 (n : Nat) (h : 1 ≤ n) : subD (nD n) (nD 1) = .ok (nD (n - 1)) := by
  show R.ok (D.int ((n : Int) - ((1 : Nat) : Int))) = _
  congr 2
  omega
theorem mul_int (a b : Int) (h : -1000000 < a ∧ a < 1000000) : mulD (.int a) (.int b) = .ok (.int (a * b)) := if_pos (.inl (by omega))
theorem mul_nat (a b : Nat) (h : a < 1000000) : mulD (nD a) (nD b) = .ok (nD (a * b)) := by
  refine (mul_int a b (by omega)).trans ?_
  congr 2
theorem len_l {f : LE → R D} {r : LE} {xs : List D} (h : f r = .ok (.lst xs)) : callE lenX (acons f anil) r = .ok (nD xs.length) := callE1_ok h (lenX_l _)
theorem len_t {f : LE → R D} {r : LE} {xs : List D} (h : f r = .ok (.tup xs)) : callE lenX (acons f anil) r = .ok (nD xs.length) := callE1_ok h (lenX_t _)
theorem chain_leN {f1 f2 f3 : LE → R D} {r : LE} {a b c : Nat} (h1 : f1 r = .ok (nD a)) (h2 : f2 r = .ok (nD b)) (h3 : f3 r = .ok (nD c)) : chainT f1 f2 f3 leD ltD r = .ok (decide (a ≤ b) && decide (b < c)) := by
  unfold chainT chainE
  rw [h1, R.ok_bind, h2, R.ok_bind, leD_nat]
  by_cases h : a ≤ b
  · rw [decide_eq_true h, R.ok_bind]
    show ((f3 r >>= fun w => ltD (nD b) w) >>= asB) = _
    rw [h3, R.ok_bind, ltD_nat]
    rfl
  · rw [decide_eq_false h]
    rfl
end DL
namespace DL
open PySem L2 PySem.Spec PyProof.Rows
section
variable {α : Type} [DecidableEq α] {ks : α → List D}
theorem tkeysD_dc (h : ∀ a, keysD (ks a) = some (ks a)) {x : α → D} : ∀ l : List α, tkeysD (l.map fun a => .tup [.tup (ks a), x a]) = some (l.map ks)
  | [] => rfl
  | a :: l => by
    show (match keysD (ks a), tkeysD (l.map fun a => .tup [.tup (ks a), x a]) with
      | some k, some r => some (k :: r)
      | _, _ => none) = _
    rw [h a, tkeysD_dc h l]
    rfl
theorem addD_dc (h : ∀ a b, keqsD (ks a) (ks b) = decide (a = b)) : ∀ l acc : List α, (l.map ks).foldl addD_ (acc.map ks) = (l.foldl adds acc).map ks
  | [], acc => rfl
  | a :: l, acc => by
    rw [List.map_cons, List.foldl_cons, List.foldl_cons]
    have e : addD_ (acc.map ks) (ks a) = (adds acc a).map ks := by
      unfold addD_ adds
      have q : ((acc.map ks).any fun x => keqsD x (ks a)) = decide (a ∈ acc) := by
        rw [List.any_map, Bool.eq_iff_iff, List.any_eq_true, decide_eq_true_eq]
        constructor
        · rintro ⟨b, hb, hq⟩
          have hq : keqsD (ks b) (ks a) = true := hq
          rw [h, decide_eq_true_eq] at hq
          exact hq ▸ hb
        · intro hb
          exact ⟨a, hb, by show keqsD (ks a) (ks a) = true; rw [h]; exact decide_eq_true rfl⟩
      rw [q]
      by_cases hm : a ∈ acc
      · rw [if_pos (decide_eq_true hm), if_pos hm]
      · rw [if_neg (by simpa using hm), if_neg hm, List.map_append]
        rfl
    rw [e, addD_dc h l]
theorem lenDictT (hk : ∀ a, keysD (ks a) = some (ks a)) (h : ∀ a b, keqsD (ks a) (ks b) = decide (a = b)) {x : α → D} {f : LE → R D} {r : LE} {l : List α} (hl : l.length ≤ 1000) (hf : f r = .ok (.lst (l.map fun a => .tup [.tup (ks a), x a]))) : lenDictE f r = .ok (nD (firsts l).length) := by
  unfold lenDictE
  rw [hf, R.ok_bind]
  cases e : l with
  | nil => rfl
  | cons a k =>
    have h1 : pairsD (l.map fun a => D.tup [.tup (ks a), x a]) = none := by rw [e]; rfl
    rw [← e]
    unfold lenDD
    dsimp only
    rw [h1]
    dsimp only
    rw [tkeysD_dc hk]
    dsimp only
    rw [if_pos (by rw [List.length_map]; omega)]
    have := addD_dc h l []
    rw [List.map_nil] at this
    rw [this, List.length_map]
    rfl
end
end DL
set_option Elab.async false
set_option linter.all false
set_option maxRecDepth 100000
namespace K20
open DL PySem L2 PySem.Spec PyProof.Rows
abbrev V3 := Fin 3
def rcp (v : V3) : List Nat := [97 + v.val]
def rp (v : V3) : D := .str (rcp v)
def rowD (r : List V3) : D := .lst (r.map rp)
abbrev tabD (T : List (List V3)) : D := .lst (T.map rowD)
structure Tb (n m : Nat) (T : List (List V3)) : Prop where
  n1 : 1 ≤ n
  n5 : n ≤ 5
  m1 : 1 ≤ m
  m3 : m ≤ 3
  len : T.length = n
  row : ∀ r ∈ T, r.length = m
def cell (T : List (List V3)) (k c : Nat) : V3 := ((T[k]?.getD [])[c]?).getD 0
variable {n m : Nat} {T : List (List V3)}
theorem three {P : V3 → Prop} (h0 : P 0) (h1 : P 1) (h2 : P 2) (s : V3) : P s := by
  match s with
  | 0 => exact h0
  | 1 => exact h1
  | 2 => exact h2
theorem rcp_inj (a b : V3) : rcp a = rcp b ↔ a = b := by
  constructor
  · intro h
    injection h with h _
    exact Fin.ext (by omega)
  · intro h
    rw [h]
theorem rp_key1 (a : V3) : (rp a).key1 = true := rfl
theorem rp_keq (a b : V3) : (rp a).keq (rp b) = decide (a = b) := by
  show (rcp a == rcp b) = _
  rw [Bool.eq_iff_iff, beq_iff_eq, decide_eq_true_eq]
  exact rcp_inj a b
theorem rp_eqb (a b : V3) : (rp a).eqb (rp b) = decide (a = b) := rp_keq a b
theorem rp_sh (a : V3) (k : Nat) : (rp a).sh k = true := three (P := fun a => (rp a).sh k = true) (by unfold rp D.sh; decide) (by unfold rp D.sh; decide) (by unfold rp D.sh; decide) a
theorem eqD_rp (a b : V3) : eqD (rp a) (rp b) = .ok (.bl (decide (a = b))) := by
  unfold eqD
  rw [rp_sh, if_pos (by rw [Bool.or_eq_true]; exact .inl rfl), rp_eqb]
theorem rowD_sh (r : List V3) (k : Nat) : (rowD r).sh (k + 1) = true := by
  show D.shs (r.map rp) k = true
  exact shs_map fun a _ => rp_sh a k
theorem tabD_sh (T : List (List V3)) (k : Nat) : (tabD T).sh (k + 2) = true := by
  show D.shs (T.map rowD) (k + 1) = true
  exact shs_map fun a _ => rowD_sh a k
theorem Tb.at_ (t : Tb n m T) {k : Nat} (hk : k < n) : ∃ r, T[k]? = some r ∧ r.length = m ∧ ∀ c, cell T k c = (r[c]?).getD 0 := by
  have hk' : k < T.length := by rw [t.len]; exact hk
  refine ⟨T[k], List.getElem?_eq_getElem hk', t.row _ (List.getElem_mem hk'), fun c => ?_⟩
  unfold cell
  rw [List.getElem?_eq_getElem hk']
  rfl
theorem sub_row (t : Tb n m T) {k : Nat} (hk : k < n) {f g : LE → R D} {r : LE} (h1 : f r = .ok (tabD T)) (h2 : g r = .ok (nD k)) : subE f g r = .ok (rowD (T[k]?.getD [])) := by
  obtain ⟨x, e, _⟩ := t.at_ hk
  refine subE_k h1 h2 (subI_lst ?_)
  rw [List.getElem?_map, e]
  rfl
theorem sub_cell (t : Tb n m T) {k c : Nat} (hk : k < n) (hc : c < m) {f g : LE → R D} {r : LE} (h1 : f r = .ok (rowD (T[k]?.getD []))) (h2 : g r = .ok (nD c)) : subE f g r = .ok (rp (cell T k c)) := by
  obtain ⟨x, e, hl, hcl⟩ := t.at_ hk
  rw [e] at h1
  refine subE_k h1 h2 (subI_lst ?_)
  have h1 : c < x.length := by rw [hl]; exact hc
  show (x.map rp)[c]? = _
  rw [List.getElem?_map, hcl, List.getElem?_eq_getElem h1]
  rfl
theorem len_tab (t : Tb n m T) {f : LE → R D} {r : LE} (h : f r = .ok (tabD T)) : callE lenX (acons f anil) r = .ok (nD n) := (len_l h).trans (by rw [List.length_map, t.len])
theorem len_row0 (t : Tb n m T) {f : LE → R D} {r : LE} (h : f r = .ok (tabD T)) : callE lenX (acons (subE f (cst (.int 0))) anil) r = .ok (nD m) := by
  obtain ⟨x, e, hl, _⟩ := t.at_ (k := 0) t.n1
  have h0 := sub_row t t.n1 (g := cst (.int 0)) h rfl
  rw [e] at h0
  exact (len_l (xs := x.map rp) h0).trans (by rw [List.length_map, hl])
theorem chain_leN3 {f1 f2 f3 : LE → R D} {r : LE} {a b c : Nat} (h1 : f1 r = .ok (nD a)) (h2 : f2 r = .ok (nD b)) (h3 : f3 r = .ok (nD c)) : chainT f1 f2 f3 leD leD r = .ok (decide (a ≤ b) && decide (b ≤ c)) := by
  unfold chainT chainE
  rw [h1, R.ok_bind, h2, R.ok_bind, leD_nat]
  by_cases h : a ≤ b
  · rw [decide_eq_true h, R.ok_bind]
    show ((f3 r >>= fun w => leD (nD b) w) >>= asB) = _
    rw [h3, R.ok_bind, leD_nat]
    rfl
  · rw [decide_eq_false h]
    rfl
theorem check_ok (t : Tb n m T) : D_check_table [tabD T] = .ok .non := by
  have n1 := t.n1
  have n5 := t.n5
  have m1 := t.m1
  have m3 := t.m3
  let r0 : LE := [.val (tabD T), .un]
  refine runF_nx (r := r0) rfl ?_
  show F_check_table r0 = _
  unfold F_check_table
  refine seqS_go (r' := r0) (ifS_no (orT_ff ?_ (orT_ff ?_ ?_)) rfl) (ifS_no (notT_ok (b := true) ((chain_leN3 (a := 1) (b := m) (c := 6) rfl (len_row0 t rfl) rfl).trans ?_)) rfl)
  · exact (cmpT_ok (len_tab t rfl) (y := nD 0) rfl (eqD_nat _ _)).trans (by rw [decide_eq_false (by omega)])
  · exact (cmpT_ok (len_tab t rfl) (y := nD 12) rfl (gtD_nat _ _)).trans (by rw [decide_eq_false (by omega)])
  · refine valT_ok (anyE_allM (x := true) (e := rowD) (l := T) (itB_l (xs := T.map rowD) rfl) fun r hr => ⟨[.val (tabD T), .val (rowD r)], rfl, ?_⟩)
    refine (opE_k (len_l (xs := r.map rp) rfl) (len_row0 t rfl) (neD_nat _ _)).trans ?_
    rw [List.length_map, t.row r hr, decide_eq_true rfl]
  · rw [decide_eq_true m1, decide_eq_true (by omega)]
    rfl
theorem drop_check (t : Tb n m T) {r : LE} (h : r[0]? = some (.val (tabD T))) : dropS (callE D_check_table (acons (var 0) anil)) r = .ok (.nx r) := dropS_ok (callE1_ok (var_k h) (check_ok t))
theorem reply_ok (t : Tb n m T) {k c : Nat} (hk : k < n) (hc : c < m) : D_reply_of [tabD T, nD k, nD c] = .ok (rp (cell T k c)) := by
  let r0 : LE := [.val (tabD T), .val (nD k), .val (nD c)]
  refine runF_rt rfl ?_
  show F_reply_of r0 = _
  unfold F_reply_of
  refine seqS_go (r' := r0) (drop_check t rfl) (seqS_go (r' := r0) (ifS_no (orT_ff (notT_ok (b := true) ((chain_leN (a := 0) (b := k) (c := n) rfl rfl (len_tab t rfl)).trans ?_)) (notT_ok (b := true) ((chain_leN (a := 0) (b := c) (c := m) rfl rfl (len_row0 t rfl)).trans ?_))) rfl) ?_)
  · rw [decide_eq_true (Nat.zero_le _), decide_eq_true hk]
    rfl
  · rw [decide_eq_true (Nat.zero_le _), decide_eq_true hc]
    rfl
  · exact retS_ok (sub_cell t hk hc (sub_row t hk rfl rfl) rfl)
theorem reply_out (t : Tb n m T) {k : Nat} (hk : n ≤ k) (c : Nat) : D_reply_of [tabD T, nD k, nD c] = .err ⟨3, .non⟩ := by
  let r0 : LE := [.val (tabD T), .val (nD k), .val (nD c)]
  refine runF_ex (r := r0) rfl ?_
  show F_reply_of r0 = _
  unfold F_reply_of
  refine seqS_go (r' := r0) (drop_check t rfl) (seqS_ex (ifS_yes (orT_yes (notT_ok (b := false) ((chain_leN (a := 0) (b := k) (c := n) rfl rfl (len_tab t rfl)).trans ?_))) rfl))
  rw [decide_eq_false (show ¬ k < n by omega), Bool.and_false]
/-- heard: pairs of a challenge and a reply's text -/
abbrev Hd := Nat × List Nat
def hD (h : Hd) : D := .tup [nD h.1, .str h.2]
abbrev heardD (hs : List Hd) : D := .lst (hs.map hD)
def fits (T : List (List V3)) (hs : List Hd) (k : Nat) : Bool := hs.all fun h => decide (rcp (cell T k h.1) = h.2)
def left (T : List (List V3)) (n : Nat) (hs : List Hd) : List Nat := (List.range n).filter (fits T hs)
theorem eq_str (a b : List Nat) : eqD (.str a) (.str b) = .ok (.bl (decide (a = b))) := by
  unfold eqD
  rw [if_pos (by rw [Bool.or_eq_true]; exact .inl rfl)]
  show R.ok (D.bl (a == b)) = _
  congr 2
  rw [Bool.eq_iff_iff, beq_iff_eq, decide_eq_true_eq]
theorem not_any {l : List Hd} {p : Hd → Bool} : (if l.any (fun a => p a == false) = true then false else !false) = l.all p := by
  rw [Bool.eq_iff_iff]
  by_cases h : l.any (fun a => p a == false) = true
  · rw [if_pos h]
    rw [List.any_eq_true] at h
    obtain ⟨a, ha, hp⟩ := h
    constructor
    · intro z; cases z
    · intro z
      have := List.all_eq_true.mp z a ha
      rw [this] at hp
      cases hp
  · rw [if_neg h]
    constructor
    · intro _
      rw [List.all_eq_true]
      intro a ha
      cases hp : p a with
      | true => rfl
      | false => exact absurd (List.any_eq_true.mpr ⟨a, ha, by rw [hp]; rfl⟩) h
    · intro _; rfl
abbrev L0 (T : List (List V3)) (hs : List Hd) (c2 c3 c4 : Cell) : LE := [.val (tabD T), .val (heardD hs), c2, c3, c4]
theorem left_ok (t : Tb n m T) {hs : List Hd} (hm : ∀ h ∈ hs, h.1 < m) (hl : hs.length ≤ 100) : D_keys_left [tabD T, heardD hs] = .ok (.tup ((left T n hs).map nD)) := by
  have n5 := t.n5
  let r0 : LE := L0 T hs .un .un .un
  refine runF_rt rfl ?_
  show F_keys_left r0 = _
  unfold F_keys_left
  refine seqS_go (r' := r0) (drop_check t rfl) ?_
  refine retS_ok (callE1_ok (lE_ok (compF_fmM (e := nD) (h := nD) (p := fits T hs) (l := List.range n) (rng1E_ok (n := n) (len_tab t rfl) (by omega)) (by rw [List.length_range]; omega) fun k hk => ?_)) rfl)
  have hk := List.mem_range.mp hk
  refine ⟨L0 T hs (.val (nD k)) .un .un, rfl, valT_ok ?_, fun _ => rfl⟩
  refine (anyE_valM (x := false) (e := hD) (p := fun h => decide (rcp (cell T k h.1) = h.2)) (l := hs) (itB_l (xs := hs.map hD) rfl) fun h hh => ⟨L0 T hs (.val (nD k)) (.val (nD h.1)) (.val (.str h.2)), rfl, opE_k (callE3_ok (x := tabD T) (y := nD k) (w := nD h.1) rfl rfl rfl (reply_ok t hk (hm h hh))) (y := .str h.2) rfl (eq_str _ _)⟩).trans ?_
  rw [not_any]
  rfl
theorem stodS_ok {i : Nat} {f k : LE → R D} {r : LE} {kvs : List (D × D)} {d y : D} (h : r[i]? = some (.own (.dic kvs))) (hf : f r = .ok d) (hk : k r = .ok y) (hy : y.key1 = true) (hl : kvs.length < 16777216) : stodS i f k r = .ok (.nx (r.set i (.own (.dic (putD kvs y d))))) := by
  unfold stodS
  rw [h]
  show (f r).onS r _ = _
  rw [hf, onS_ok, hk, onS_ok]
  exact if_pos ⟨hy, hl⟩
def prt (T : List (List V3)) (ks : List Nat) (c : Nat) (v : V3) : List Nat := ks.filter fun k => decide (cell T k c = v)
def all3 : List V3 := [0, 1, 2]
def reps (T : List (List V3)) (ks : List Nat) (c : Nat) : List V3 := all3.filter fun v => ks.any fun k => decide (cell T k c = v)
theorem all3_mem (v : V3) : v ∈ all3 := three (P := fun v => v ∈ all3) (by decide) (by decide) (by decide) v
theorem reps_mem {ks : List Nat} {c : Nat} {v : V3} : v ∈ reps T ks c ↔ ∃ k ∈ ks, cell T k c = v := by
  unfold reps
  rw [List.mem_filter, List.any_eq_true]
  simp only [decide_eq_true_eq]
  exact ⟨fun h => h.2, fun h => ⟨all3_mem v, h⟩⟩
theorem rp_inj : ∀ a b : V3, tks (rp a) = tks (rp b) → a = b := fun a b h => by
  injection h with h _
  injection h with h
  exact (rcp_inj a b).mp h
theorem lt_all : all3.Pairwise (fun a b => ltk rp b a = false) := by decide +kernel
theorem srt_filter (p : V3 → Bool) : isort (ltk rp) (all3.filter p) = all3.filter p := up_uniq (ord_k rp_inj) _ _ (isort_up (ord_k rp_inj) _) (lt_all.filter p) (isort_perm _)
theorem srt_firsts (ks : List Nat) (c : Nat) : isort (ltk rp) (firsts (ks.map fun k => cell T k c)) = reps T ks c := by
  have : isort (ltk rp) (firsts (ks.map fun k => cell T k c)) = isort (ltk rp) (reps T ks c) := by
    refine srt_uniq rp_inj (perm_of (firsts_nodup _) ((show all3.Nodup by decide).filter _) fun a => ?_)
    rw [firsts_mem, reps_mem, List.mem_map]
  rw [this]
  exact srt_filter _
abbrev ptD (T : List (List V3)) (ks : List Nat) (c : Nat) (v : V3) : D := .tup ((prt T ks c v).map nD)
abbrev partsD (T : List (List V3)) (ks : List Nat) (c : Nat) : D := .dic (dcQ rp (ptD T ks c) (reps T ks c))
abbrev PS (T : List (List V3)) (X : D) (c : Nat) (done : List Nat) (c4 c5 : Cell) : LE := [.val (tabD T), .val X, .val (nD c), .own (.dic (dcQ rp (ptD T done c) (firsts (done.map fun k => cell T k c)))), c4, c5]
theorem get2_v {fo fe ff : LE → R D} {r : LE} {kvs : List (D × D)} {y z : D} (h1 : fo r = .ok (.dic kvs)) (h2 : fe r = .ok y) (h3 : ff r = .ok z) (hy : y.key1 = true) : get2E fo fe ff r = .ok ((getD kvs y).getD z) := by
  unfold get2E
  rw [h1, R.ok_bind]
  dsimp only
  rw [h2, R.ok_bind, h3, R.ok_bind, if_pos hy]
theorem prt_snoc (ks : List Nat) (k c : Nat) (v : V3) : prt T (ks ++ [k]) c v = if cell T k c = v then prt T ks c v ++ [k] else prt T ks c v := by
  unfold prt
  rw [List.filter_append]
  by_cases h : cell T k c = v
  · rw [if_pos h, List.filter_cons_of_pos (by exact decide_eq_true h)]
    rfl
  · rw [if_neg h, List.filter_cons_of_neg (by simpa using h)]
    simp
theorem prt_nil {ks : List Nat} {c : Nat} {v : V3} (h : v ∉ firsts (ks.map fun k => cell T k c)) : prt T ks c v = [] := by
  unfold prt
  rw [List.filter_eq_nil_iff]
  intro k hk he
  refine h (firsts_mem.mpr (List.mem_map.mpr ⟨k, hk, ?_⟩))
  simpa using he
theorem parts_ok (t : Tb n m T) {ks : List Nat} (hk : ∀ k ∈ ks, k < n) (hl : ks.length ≤ 100) {c : Nat} (hc : c < m) {X : D} (hX : ∀ r : LE, r[1]? = some (.val X) → itB (var 1) r = .ok (ks.map nD)) : D_parts_by [tabD T, X, nD c] = .ok (partsD T ks c) := by
  refine runF_rt rfl ?_
  show F_parts_by [.val (tabD T), .val X, .val (nD c), .un, .un, .un] = _
  unfold F_parts_by
  obtain ⟨r2, h2, c4, c5, hI⟩ := loopS_pre (gd := gN 4) (body := (seqS (setK 5 (valK (callE D_reply_of (acons (var 0) (acons (var 4) (acons (var 2) anil))))))
    (stodS 3 (opE addD (get2E (varP 3) (var 5) (tupE anil)) (tupE (acons (var 4) anil))) (var 5)))) (e := nD) (l0 := ks) (fun done r => ∃ c4 c5, r = PS T X c done c4 c5) (l := ks) (done := []) (r := PS T X c [] .un .un) rfl ⟨_, _, rfl⟩ (by
    rintro k done rest r hd ⟨c4, c5, rfl⟩
    have hkn : k < n := hk k (by rw [← hd]; simp)
    have hdl : done.length ≤ 100 := by
      have := congrArg List.length hd
      rw [List.length_append] at this
      omega
    let v := cell T k c
    let r1 : LE := PS T X c done (.val (nD k)) c5
    let r2 : LE := PS T X c done (.val (nD k)) (.val (rp v))
    refine ⟨r1, PS T X c (done ++ [k]) (.val (nD k)) (.val (rp v)), rfl, seqS_go (r' := r2) ((setK_val (callE3_ok (x := tabD T) (y := nD k) (w := nD c) rfl rfl rfl (reply_ok t hkn hc))).trans rfl) ?_, _, _, rfl⟩
    have hp : (prt T done c v).length ≤ done.length := List.length_filter_le ..
    have hf := firsts_len (done.map fun k => cell T k c)
    rw [List.length_map] at hf
    have hg : get2E (varP 3) (var 5) (tupE anil) r2 = .ok (ptD T done c v) := by
      refine (get2_v (kvs := dcQ rp (ptD T done c) (firsts (done.map fun k => cell T k c))) (varP_o rfl) (y := rp v) rfl (z := .tup []) rfl rfl).trans ?_
      rw [getD_q, dcQ_get rp_keq]
      by_cases q : v ∈ firsts (done.map fun k => cell T k c)
      · rw [if_pos q]
        rfl
      · rw [if_neg q]
        unfold ptD
        rw [prt_nil q]
        rfl
    refine (stodS_ok (d := .tup ((prt T done c v).map nD ++ [nD k])) (y := rp v) rfl (opE_k hg (y := .tup [nD k]) rfl (if_pos (by rw [List.length_map]; show _ + 1 ≤ 16777216; omega))) rfl (rp_key1 v) (by unfold dcQ; rw [List.length_map]; omega)).trans ?_
    rw [putD_q, dcQ_put rp_keq (x' := ptD T (done ++ [k]) c) ?_ fun b _ hb => ?_, ← firsts_snoc, ← List.map_singleton (f := fun k => cell T k c), ← List.map_append]
    · rfl
    · unfold ptD
      rw [prt_snoc, if_pos rfl, List.map_append]
      rfl
    · unfold ptD
      rw [prt_snoc, if_neg fun e => hb e.symm])
  rw [List.nil_append] at hI
  subst hI
  let x : LE := PS T X c ks c4 c5
  refine seqS_go (r' := PS T X c [] .un .un) rfl (seqS_go (r' := x) (forS_ok (hX _ rfl) h2) ?_)
  have hf := firsts_len (ks.map fun k => cell T k c)
  rw [List.length_map] at hf
  have hs : callF sortedT (acons (varP 3) anil) x = .ok ((reps T ks c).map rp) := by
    refine callF1_k (x := .dic (dcQ rp (ptD T ks c) (firsts (ks.map fun k => cell T k c)))) (varP_o rfl) ?_
    have e : (dcQ rp (ptD T ks c) (firsts (ks.map fun k => cell T k c))).map (·.1) = (firsts (ks.map fun k => cell T k c)).map rp := by
      unfold dcQ
      rw [List.map_map]
      rfl
    have h3 : (firsts (ks.map fun k => cell T k c)).length ≤ 3 := by
      have := (perm_of (firsts_nodup (ks.map fun k => cell T k c)) ((show all3.Nodup by decide).filter (fun v => decide (v ∈ firsts (ks.map fun k => cell T k c)))) fun a => by rw [List.mem_filter, decide_eq_true_eq]; exact ⟨fun h => ⟨all3_mem a, h⟩, fun h => h.2⟩).length_eq
      rw [this]
      exact List.length_filter_le _ all3
    show sortDs ((dcQ rp (ptD T ks c) (firsts (ks.map fun k => cell T k c))).map (·.1)) = _
    rw [e, ← srt_firsts]
    exact sortDs_str rcp (by omega)
  have hr : (reps T ks c).length ≤ 3 := List.length_filter_le _ all3
  refine retS_ok (callE1_ok (lE_ok (compF_mapM (e := rp) (h := fun v => .tup [rp v, ptD T ks c v]) (l := reps T ks c) (itB_l (lE_ok hs)) (by omega) fun v hv => ⟨PS T X c ks c4 (.val (rp v)), rfl, tupE_ok (acons_ok (x := rp v) rfl (acons_ok (subE_k (x := .dic (dcQ rp (ptD T ks c) (firsts (ks.map fun k => cell T k c)))) (y := rp v) (varP_o rfl) rfl ?_) (xs := []) rfl)) (by simp)⟩)) ?_)
  · have hm : v ∈ firsts (ks.map fun k => cell T k c) := by
      rw [firsts_mem, List.mem_map]
      exact reps_mem.mp hv
    show (if (rp v).key1 = true then (match getD (dcQ rp (ptD T ks c) (firsts (ks.map fun k => cell T k c))) (rp v) with | some d => R.ok d | none => .stuck) else .stuck) = _
    rw [getD_q, dcQ_in rp_keq hm]
    rfl
  · refine (dictD_dc (e := rp) (x := ptD T ks c) rp_key1 rp_keq (reps T ks c)).trans ?_
    rw [firsts_of_nodup (l := reps T ks c) ((show all3.Nodup by decide).filter _)]
end K20
set_option Elab.async false
set_option linter.all false
set_option maxRecDepth 100000
namespace K20
open DL PySem L2 PySem.Spec PyProof.Rows
variable {n m : Nat} {T : List (List V3)}
theorem loopX_mapM {α : Type} {gd : D → LE → Option LE} {te : LE → R D} {r : LE} {e h : α → D} : ∀ {l : List α}, (∀ a ∈ l, ∃ r', gd (e a) r = some r' ∧ te r' = .ok (h a)) → loopX gd yesT te r (l.map e) = .ok (l.map h)
  | [], _ => rfl
  | a :: l, q => by
    obtain ⟨r', h1, h2⟩ := q a List.mem_cons_self
    have ih := loopX_mapM (l := l) fun b hb => q b (List.mem_cons_of_mem _ hb)
    rw [List.map_cons, loopX, h1]
    dsimp only
    rw [yesT_k, R.ok_bind]
    rw [if_pos rfl, h2, R.ok_bind, ih]
    rfl
theorem loopX_err {α : Type} {gd : D → LE → Option LE} {te : LE → R D} {r : LE} {e : α → D} {x : Exc} {p : α → Bool} : ∀ {l : List α}, (∀ a ∈ l, ∃ r', gd (e a) r = some r' ∧ (p a = false → ∃ z, te r' = .ok z) ∧ (p a = true → te r' = .err x)) → (∃ a ∈ l, p a = true) → loopX gd yesT te r (l.map e) = .err x
  | [], _, h => by
    obtain ⟨a, ha, _⟩ := h
    cases ha
  | a :: l, q, h => by
    obtain ⟨r', h1, h2, h3⟩ := q a List.mem_cons_self
    rw [List.map_cons, loopX, h1]
    dsimp only
    rw [yesT_k, R.ok_bind]
    rw [if_pos rfl]
    cases hp : p a with
    | true => rw [h3 hp]; rfl
    | false =>
      obtain ⟨z, hz⟩ := h2 hp
      have ih := loopX_err (l := l) (fun b hb => q b (List.mem_cons_of_mem _ hb)) (by
        obtain ⟨b, hb, pb⟩ := h
        rcases List.mem_cons.mp hb with rfl | hb
        · rw [hp] at pb; cases pb
        · exact ⟨b, hb, pb⟩)
      rw [hz, R.ok_bind, ih]
      rfl
theorem compX_mapM {α : Type} {fi : LE → R (List D)} {gd : D → LE → Option LE} {te : LE → R D} {vs : List Nat} {r : LE} {e h : α → D} {l : List α} (hf : fi r = .ok (l.map e)) (hl : l.length ≤ 16777216) (q : ∀ a ∈ l, ∃ r', gd (e a) (wipeL r vs) = some r' ∧ te r' = .ok (h a)) : compX fi gd yesT te vs r = .ok (l.map h) := by
  unfold compX
  rw [hf, R.ok_bind, if_pos (by rw [List.length_map]; exact hl)]
  exact loopX_mapM q
theorem compX_err {α : Type} {fi : LE → R (List D)} {gd : D → LE → Option LE} {te : LE → R D} {vs : List Nat} {r : LE} {e : α → D} {x : Exc} {p : α → Bool} {l : List α} (hf : fi r = .ok (l.map e)) (hl : l.length ≤ 16777216) (q : ∀ a ∈ l, ∃ r', gd (e a) (wipeL r vs) = some r' ∧ (p a = false → ∃ z, te r' = .ok z) ∧ (p a = true → te r' = .err x)) (hp : ∃ a ∈ l, p a = true) : compX fi gd yesT te vs r = .err x := by
  unfold compX
  rw [hf, R.ok_bind, if_pos (by rw [List.length_map]; exact hl)]
  exact loopX_err q hp
def IsK (X : D) (ks : List Nat) : Prop := X = .lst (ks.map nD) ∨ X = .tup (ks.map nD)
theorem IsK.it {X : D} {ks : List Nat} (h : IsK X ks) {r : LE} {i : Nat} (e : r[i]? = some (.val X)) : itB (var i) r = .ok (ks.map nD) := by
  rcases h with rfl | rfl
  · exact itB_l (var_k e)
  · exact itB_t (var_k e)
theorem IsK.len {X : D} {ks : List Nat} (h : IsK X ks) {r : LE} {i : Nat} (e : r[i]? = some (.val X)) : callE lenX (acons (var i) anil) r = .ok (nD ks.length) := by
  rcases h with rfl | rfl
  · exact (len_l (var_k e)).trans (by rw [List.length_map])
  · exact (len_t (var_k e)).trans (by rw [List.length_map])
def dp (T : List (List V3)) (m : Nat) : Nat → List Nat → Bool
  | 0, ks => decide (ks.length < 2)
  | d + 1, ks => decide (ks.length < 2) || (List.range m).any fun c => decide (1 < (reps T ks c).length) && (reps T ks c).all fun v => dp T m d (prt T ks c v)
def sp (T : List (List V3)) (m : Nat) (ks : List Nat) (c d : Nat) : Bool := decide (1 < (reps T ks c).length) && (reps T ks c).all fun v => dp T m d (prt T ks c v)
theorem dp_succ (d : Nat) (ks : List Nat) : dp T m (d + 1) ks = (decide (ks.length < 2) || (List.range m).any fun c => sp T m ks c d) := rfl
theorem sp_iff {ks : List Nat} {c d : Nat} : sp T m ks c d = true ↔ 1 < (reps T ks c).length ∧ ∀ v ∈ reps T ks c, dp T m d (prt T ks c v) = true := by
  unfold sp
  rw [Bool.and_eq_true, decide_eq_true_eq, List.all_eq_true]
theorem dp_small {d : Nat} {ks : List Nat} (h : ks.length < 2) : dp T m d ks = true := by
  cases d with
  | zero => exact decide_eq_true h
  | succ d => rw [dp_succ, decide_eq_true h, Bool.true_or]
theorem dp_iff {d : Nat} {ks : List Nat} : dp T m (d + 1) ks = true ↔ ks.length < 2 ∨ ∃ c, c < m ∧ sp T m ks c d = true := by
  rw [dp_succ, Bool.or_eq_true, decide_eq_true_eq, List.any_eq_true]
  simp only [List.mem_range]
theorem dp_mono1 : ∀ (d : Nat) (ks : List Nat), dp T m d ks = true → dp T m (d + 1) ks = true
  | 0, ks, h => dp_small (of_decide_eq_true h)
  | d + 1, ks, h => by
    rcases dp_iff.mp h with h | ⟨c, hc, hs⟩
    · exact dp_small h
    · refine dp_iff.mpr (.inr ⟨c, hc, sp_iff.mpr ⟨(sp_iff.mp hs).1, fun v hv => dp_mono1 d _ ((sp_iff.mp hs).2 v hv)⟩⟩)
theorem dp_mono {a b : Nat} {ks : List Nat} (h : dp T m a ks = true) (hab : a ≤ b) : dp T m b ks = true := by
  induction b with
  | zero => rwa [Nat.le_zero.mp hab] at h
  | succ b ih =>
    rcases Nat.lt_or_ge a (b + 1) with q | q
    · exact dp_mono1 _ _ (ih (by omega))
    · rwa [show a = b + 1 by omega] at h
/-- no two keys alike -/
def Dist (T : List (List V3)) (m : Nat) (ks : List Nat) : Prop := ∀ k ∈ ks, ∀ k' ∈ ks, k ≠ k' → ∃ c, c < m ∧ cell T k c ≠ cell T k' c
theorem prt_mem {ks : List Nat} {c k : Nat} {v : V3} : k ∈ prt T ks c v ↔ k ∈ ks ∧ cell T k c = v := by
  unfold prt
  rw [List.mem_filter, decide_eq_true_eq]
theorem Dist.prt {ks : List Nat} (h : Dist T m ks) (c : Nat) (v : V3) : Dist T m (prt T ks c v) := fun k hk k' hk' ne => h k (prt_mem.mp hk).1 k' (prt_mem.mp hk').1 ne
theorem prt_lt {ks : List Nat} {c : Nat} (h : 1 < (reps T ks c).length) (v : V3) : (prt T ks c v).length < ks.length := by
  have nd : (reps T ks c).Nodup := (show all3.Nodup by decide).filter _
  -- another reply
  have : ∃ w ∈ reps T ks c, w ≠ v := by
    match e : reps T ks c with
    | [] => rw [e] at h; simp at h
    | [a] => rw [e] at h; simp at h
    | a :: b :: l =>
      rw [e, List.nodup_cons] at nd
      by_cases q : a = v
      · refine ⟨b, by simp, fun z => nd.1 ?_⟩
        rw [q, ← z]
        exact List.mem_cons_self
      · exact ⟨a, List.mem_cons_self, q⟩
  obtain ⟨w, hw, ne⟩ := this
  obtain ⟨k, hk, e⟩ := reps_mem.mp hw
  refine Nat.lt_of_le_of_ne (List.length_filter_le ..) fun z => ?_
  have := List.length_filter_eq_length_iff.mp z k hk
  rw [decide_eq_true_eq] at this
  exact ne (e.symm.trans this)
theorem no_split {ks : List Nat} {c : Nat} (h : ¬ 1 < (reps T ks c).length) {k k' : Nat} (hk : k ∈ ks) (hk' : k' ∈ ks) : cell T k c = cell T k' c := by
  have h1 : cell T k c ∈ reps T ks c := reps_mem.mpr ⟨k, hk, rfl⟩
  have h2 : cell T k' c ∈ reps T ks c := reps_mem.mpr ⟨k', hk', rfl⟩
  match e : reps T ks c with
  | [] => rw [e] at h1; cases h1
  | [a] =>
    rw [e, List.mem_singleton] at h1 h2
    rw [h1, h2]
  | a :: b :: l => rw [e] at h; simp at h
/-- columns that tell all the keys apart are enough questions -/
theorem dp_cols : ∀ (cs ks : List Nat), (∀ c ∈ cs, c < m) → ks.Nodup → (∀ k ∈ ks, ∀ k' ∈ ks, k ≠ k' → ∃ c ∈ cs, cell T k c ≠ cell T k' c) → dp T m cs.length ks = true
  | [], ks, _, nd, h => by
    refine decide_eq_true ?_
    match ks, nd, h with
    | [], _, _ => simp
    | [a], _, _ => simp
    | a :: b :: l, nd, h =>
      obtain ⟨c, hc, _⟩ := h a (by simp) b (by simp) (fun z => (List.nodup_cons.mp nd).1 (by rw [z]; exact List.mem_cons_self))
      cases hc
  | c :: cs, ks, hm, nd, h => by
    by_cases q : 1 < (reps T ks c).length
    · refine dp_iff.mpr (.inr ⟨c, hm c List.mem_cons_self, sp_iff.mpr ⟨q, fun v hv => dp_cols cs _ (fun c hc => hm c (List.mem_cons_of_mem _ hc)) (nd.filter _) fun k hk k' hk' ne => ?_⟩⟩)
      obtain ⟨c', hc', h2⟩ := h k (prt_mem.mp hk).1 k' (prt_mem.mp hk').1 ne
      rcases List.mem_cons.mp hc' with rfl | hc'
      · exact absurd ((prt_mem.mp hk).2.trans (prt_mem.mp hk').2.symm) h2
      · exact ⟨c', hc', h2⟩
    · refine dp_mono1 _ _ (dp_cols cs ks (fun c hc => hm c (List.mem_cons_of_mem _ hc)) nd fun k hk k' hk' ne => ?_)
      obtain ⟨c', hc', h2⟩ := h k hk k' hk' ne
      rcases List.mem_cons.mp hc' with rfl | hc'
      · exact absurd (no_split q hk hk') h2
      · exact ⟨c', hc', h2⟩
theorem reps_nodup (ks : List Nat) (c : Nat) : (reps T ks c).Nodup := (show all3.Nodup by decide).filter _
theorem reps_le (ks : List Nat) (c : Nat) : (reps T ks c).length ≤ 3 := List.length_filter_le _ all3
abbrev FS (T : List (List V3)) (X best : D) (c3 c4 c5 c6 : Cell) : LE := [.val (tabD T), .val X, .val best, c3, c4, c5, c6]
theorem len_parts {r : LE} {i : Nat} {ks : List Nat} {c : Nat} (h : r[i]? = some (.val (partsD T ks c))) : callE lenX (acons (var i) anil) r = .ok (nD (reps T ks c).length) := by
  refine callE1_ok (var_k h) ?_
  show R.ok (nD (dcQ rp (ptD T ks c) (reps T ks c)).length) = _
  unfold dcQ
  rw [List.length_map]
theorem sub_parts {f g : LE → R D} {r : LE} {ks : List Nat} {c : Nat} {v : V3} (h : f r = .ok (partsD T ks c)) (h2 : g r = .ok (rp v)) (hv : v ∈ reps T ks c) : subE f g r = .ok (ptD T ks c v) := by
  refine subE_k h h2 ?_
  show (if (rp v).key1 = true then (match getD (dcQ rp (ptD T ks c) (reps T ks c)) (rp v) with | some d => R.ok d | none => .stuck) else .stuck) = _
  rw [getD_q, dcQ_in rp_keq hv]
  rfl
theorem it_parts {f : LE → R D} {r : LE} {ks : List Nat} {c : Nat} (h : f r = .ok (partsD T ks c)) : itB f r = .ok ((reps T ks c).map rp) := by
  rw [itB_d h]
  unfold dcQ
  rw [List.map_map]
  rfl
/-- what is best so far -/
def Best (T : List (List V3)) (m : Nat) (ks : List Nat) (k : Nat) (best : D) : Prop :=
  (best = .non ∧ ∀ c, c < k → ¬ 1 < (reps T ks c).length) ∨ ∃ b, best = nD (b + 1) ∧ (∃ c, c < k ∧ sp T m ks c b = true) ∧ ∀ c, c < k → ∀ d, sp T m ks c d = true → b ≤ d
theorem isN_non {i : Nat} {r : LE} (h : r[i]? = some (.val .non)) : isNE (var i) r = .ok (.bl true) := by unfold isNE; rw [var_k h]; rfl
theorem isN_nat {i b : Nat} {r : LE} (h : r[i]? = some (.val (nD b))) : isNE (var i) r = .ok (.bl false) := by unfold isNE; rw [var_k h]; rfl
theorem fewest_ok (t : Tb n m T) : ∀ (f : Nat) (ks : List Nat) (X : D), IsK X ks → (∀ k ∈ ks, k < n) → ks.length < f → ks.length ≤ 5 → ks.Nodup →
    (Dist T m ks ∧ ∃ v, D_fewest_questions f [tabD T, X] = .ok (nD v) ∧ dp T m v ks = true ∧ ∀ d, dp T m d ks = true → v ≤ d) ∨ (¬ Dist T m ks ∧ D_fewest_questions f [tabD T, X] = .err ⟨7, .non⟩)
  | 0, _, _, _, _, h, _, _ => absurd h (by omega)
  | f + 1, ks, X, hX, hk, hf, h5, nd => by
    have m3 := t.m3
    have unf : ∀ xs, D_fewest_questions (f + 1) xs = runF 2 7 (F_fewest_questions (D_fewest_questions f)) xs := fun _ => rfl
    rw [unf]
    let r0 : LE := [.val (tabD T), .val X, .un, .un, .un, .un, .un]
    by_cases h1 : ks.length ≤ 1
    · refine .inl ⟨fun k hk k' hk' ne => ?_, 0, ?_, decide_eq_true (by omega), fun _ _ => Nat.zero_le _⟩
      · match ks, h1, hk, hk' with
        | [a], _, hk, hk' => exact absurd ((List.mem_singleton.mp hk).trans (List.mem_singleton.mp hk').symm) ne
      · refine runF_rt rfl ?_
        show F_fewest_questions _ r0 = _
        unfold F_fewest_questions
        exact seqS_rt (ifS_yes (cmpT_ok (hX.len rfl) cst_1 ((leD_nat _ _).trans (by rw [decide_eq_true h1]))) (retS_ok cst_0))
    have no1 : ∀ rr : LE, rr = r0 → ifS (cmpT leD (callE lenX (acons (var 1) anil)) (cst (.int 1))) (retS (cst (.int 0))) skipS rr = .ok (.nx rr) := fun rr e => by
      subst e
      exact ifS_no (cmpT_ok (hX.len rfl) cst_1 ((leD_nat _ _).trans (by rw [decide_eq_false h1]))) rfl
    have part : ∀ c, c < m → ∀ best c4 c5 c6, setK 4 (valK (callE D_parts_by (acons (var 0) (acons (var 1) (acons (var 3) anil))))) (FS T X best (.val (nD c)) c4 c5 c6) = .ok (.nx (FS T X best (.val (nD c)) (.val (partsD T ks c)) c5 c6)) := fun c hc best c4 c5 c6 => (setK_val (callE3_ok (x := tabD T) (y := X) (w := nD c) rfl rfl rfl (parts_ok t hk (by omega) hc fun r h => hX.it h))).trans rfl
    have rec_ : ∀ c, 1 < (reps T ks c).length → ∀ v, (Dist T m (prt T ks c v) ∧ ∃ w, D_fewest_questions f [tabD T, ptD T ks c v] = .ok (nD w) ∧ dp T m w (prt T ks c v) = true ∧ ∀ d, dp T m d (prt T ks c v) = true → w ≤ d) ∨ (¬ Dist T m (prt T ks c v) ∧ D_fewest_questions f [tabD T, ptD T ks c v] = .err ⟨7, .non⟩) := fun c h v => by
      have := prt_lt h v
      exact fewest_ok t f (prt T ks c v) (ptD T ks c v) (.inr rfl) (fun k q => hk k (prt_mem.mp q).1) (by omega) (by omega) (nd.filter _)
    have rng : ∀ rr : LE, rr[0]? = some (.val (tabD T)) → rng1E (acons (callE lenX (acons (subE (var 0) (cst (.int 0))) anil)) anil) rr = .ok ((List.range m).map nD) := fun rr h => rng1E_ok (len_row0 t (var_k h)) (by omega)
    by_cases hD : Dist T m ks
    · refine .inl ⟨hD, ?_⟩
      obtain ⟨r2, h2, best, c3, c4, c5, c6, rfl, hB⟩ := loopS_rgM (gd := gN 3) (body := (seqS (setK 4 (valK (callE D_parts_by (acons (var 0) (acons (var 1) (acons (var 3) anil))))))
    (ifS (cmpT gtD (callE lenX (acons (var 4) anil)) (cst (.int 1)))
    (seqS (tryUS 0 excL
    (setK 5 (valK (opE addD (cst (.int 1)) (callE maxL (acons (lE (compX (itB (var 4)) (gN 6) yesT (callE (D_fewest_questions f) (acons (var 0) (acons (subE (var 4) (var 6)) anil))) [6])) anil))))) [(7, (errS ⟨7, .non⟩))])
    (ifS (orT (valT (isNE (var 2))) (cmpT ltD (var 5) (var 2)))
    (setK 2 (valK (var 5)))
    skipS))
    skipS))) (e := nD) (fun k r => ∃ best c3 c4 c5 c6, r = FS T X best c3 c4 c5 c6 ∧ Best T m ks k best) (n := m) (r := FS T X .non .un .un .un .un) ⟨_, _, _, _, _, rfl, .inl ⟨rfl, fun c hc => absurd hc (by omega)⟩⟩ (by
        rintro c r hc ⟨best, c3, c4, c5, c6, rfl, hB⟩
        let r1 : LE := FS T X best (.val (nD c)) c4 c5 c6
        let rP : LE := FS T X best (.val (nD c)) (.val (partsD T ks c)) c5 c6
        by_cases q : 1 < (reps T ks c).length
        · have hv : ∀ v, ∃ w, D_fewest_questions f [tabD T, ptD T ks c v] = .ok (nD w) ∧ dp T m w (prt T ks c v) = true ∧ ∀ d, dp T m d (prt T ks c v) = true → w ≤ d := fun v => by
            rcases rec_ c q v with h | h
            · exact h.2
            · exact absurd (hD.prt c v) h.1
          obtain ⟨w, hw⟩ := Classical.axiomOfChoice hv
          obtain ⟨b, hb, hbm, hbl⟩ := maxL_nD (l := (reps T ks c).map w) (by
            intro z
            rw [List.map_eq_nil_iff] at z
            rw [z] at q
            simp at q)
          have hcomp : compX (itB (var 4)) (gN 6) yesT (callE (D_fewest_questions f) (acons (var 0) (acons (subE (var 4) (var 6)) anil))) [6] rP = .ok ((reps T ks c).map fun v => nD (w v)) := by
            refine compX_mapM (e := rp) (l := reps T ks c) (it_parts rfl) (by have := reps_le (T := T) ks c; omega) fun v hv => ⟨FS T X best (.val (nD c)) (.val (partsD T ks c)) c5 (.val (rp v)), rfl, callE2_ok (x := tabD T) rfl (sub_parts rfl rfl hv) (hw v).1⟩
          let rN : LE := FS T X best (.val (nD c)) (.val (partsD T ks c)) (.val (nD (b + 1))) c6
          have hneed : tryUS 0 excL (setK 5 (valK (opE addD (cst (.int 1)) (callE maxL (acons (lE (compX (itB (var 4)) (gN 6) yesT (callE (D_fewest_questions f) (acons (var 0) (acons (subE (var 4) (var 6)) anil))) [6])) anil))))) [(7, (errS ⟨7, .non⟩))] rP = .ok (.nx rN) := by
            refine tryUS_nx ((setK_val (d := nD (b + 1)) (opE_k cst_1 (callE1_ok (lE_ok hcomp) (z := nD b) ?_) ((addD_nat 1 b).trans (by rw [Nat.add_comm])))).trans rfl)
            rw [← hb, List.map_map]
            rfl
          have hsp : ∀ d, sp T m ks c d = true ↔ b ≤ d := fun d => by
            rw [sp_iff]
            constructor
            · rintro ⟨_, h⟩
              obtain ⟨v, hv, rfl⟩ := List.mem_map.mp hbm
              exact (hw v).2.2 d (h v hv)
            · intro h
              exact ⟨q, fun v hv => dp_mono (hw v).2.1 (Nat.le_trans (hbl _ (List.mem_map.mpr ⟨v, hv, rfl⟩)) h)⟩
          have go : ∀ r2 : LE, ifS (orT (valT (isNE (var 2))) (cmpT ltD (var 5) (var 2))) (setK 2 (valK (var 5))) skipS rN = .ok (.nx r2) → (seqS (setK 4 (valK (callE D_parts_by (acons (var 0) (acons (var 1) (acons (var 3) anil))))))
    (ifS (cmpT gtD (callE lenX (acons (var 4) anil)) (cst (.int 1)))
    (seqS (tryUS 0 excL
    (setK 5 (valK (opE addD (cst (.int 1)) (callE maxL (acons (lE (compX (itB (var 4)) (gN 6) yesT (callE (D_fewest_questions f) (acons (var 0) (acons (subE (var 4) (var 6)) anil))) [6])) anil))))) [(7, (errS ⟨7, .non⟩))])
    (ifS (orT (valT (isNE (var 2))) (cmpT ltD (var 5) (var 2)))
    (setK 2 (valK (var 5)))
    skipS))
    skipS)) r1 = .ok (.nx r2) := fun r2 h => seqS_go (part c hc best c4 c5 c6) (ifS_yes (cmpT_ok (len_parts rfl) cst_1 ((gtD_nat _ _).trans (by rw [decide_eq_true q]))) (seqS_go hneed h))
          rcases hB with ⟨rfl, hB⟩ | ⟨b', rfl, ⟨c', hc', hs'⟩, hB⟩
          · refine ⟨r1, FS T X (nD (b + 1)) (.val (nD c)) (.val (partsD T ks c)) (.val (nD (b + 1))) c6, rfl, go _ (ifS_yes (orT_yes (valT_ok (isN_non rfl))) ((setK_val (d := nD (b + 1)) rfl).trans rfl)), _, _, _, _, _, rfl, .inr ⟨b, rfl, ⟨c, by omega, (hsp b).mpr (Nat.le_refl _)⟩, fun c' hc' d hd => ?_⟩⟩
            rcases Nat.lt_or_ge c' c with z | z
            · exact absurd (sp_iff.mp hd).1 (hB c' z)
            · rw [show c' = c by omega] at hd
              exact (hsp d).mp hd
          · by_cases lt : b < b'
            · refine ⟨r1, FS T X (nD (b + 1)) (.val (nD c)) (.val (partsD T ks c)) (.val (nD (b + 1))) c6, rfl, go _ (ifS_yes ((orT_k (valT_ok (isN_nat (b := b' + 1) rfl)) (cmpT_ok (x := nD (b + 1)) (y := nD (b' + 1)) rfl rfl (ltD_nat _ _))).trans (by rw [decide_eq_true (by omega)]; rfl)) ((setK_val (d := nD (b + 1)) rfl).trans rfl)), _, _, _, _, _, rfl, .inr ⟨b, rfl, ⟨c, by omega, (hsp b).mpr (Nat.le_refl _)⟩, fun c2 hc2 d hd => ?_⟩⟩
              rcases Nat.lt_or_ge c2 c with z | z
              · exact Nat.le_trans (by omega) (hB c2 z d hd)
              · rw [show c2 = c by omega] at hd
                exact (hsp d).mp hd
            · refine ⟨r1, FS T X (nD (b' + 1)) (.val (nD c)) (.val (partsD T ks c)) (.val (nD (b + 1))) c6, rfl, go _ (ifS_no ((orT_k (valT_ok (isN_nat (b := b' + 1) rfl)) (cmpT_ok (x := nD (b + 1)) (y := nD (b' + 1)) rfl rfl (ltD_nat _ _))).trans (by rw [decide_eq_false (by omega)]; rfl)) rfl), _, _, _, _, _, rfl, .inr ⟨b', rfl, ⟨c', by omega, hs'⟩, fun c2 hc2 d hd => ?_⟩⟩
              rcases Nat.lt_or_ge c2 c with z | z
              · exact hB c2 z d hd
              · rw [show c2 = c by omega] at hd
                exact Nat.le_trans (by omega) ((hsp d).mp hd)
        · refine ⟨r1, rP, rfl, seqS_go (part c hc best c4 c5 c6) (ifS_no (cmpT_ok (len_parts rfl) cst_1 ((gtD_nat _ _).trans (by rw [decide_eq_false q]))) rfl), _, _, _, _, _, rfl, ?_⟩
          rcases hB with ⟨rfl, hB⟩ | ⟨b', rfl, ⟨c', hc', hs'⟩, hB⟩
          · refine .inl ⟨rfl, fun c' hc' => ?_⟩
            rcases Nat.lt_or_ge c' c with z | z
            · exact hB c' z
            · rw [show c' = c by omega]; exact q
          · refine .inr ⟨b', rfl, ⟨c', by omega, hs'⟩, fun c2 hc2 d hd => ?_⟩
            rcases Nat.lt_or_ge c2 c with z | z
            · exact hB c2 z d hd
            · rw [show c2 = c by omega] at hd
              exact absurd (sp_iff.mp hd).1 q)
      rcases hB with ⟨rfl, hB⟩ | ⟨b, rfl, ⟨c, hc, hs⟩, hB⟩
      · -- two keys, and no column that splits them
        exfalso
        match ks, h1, nd, hD, hB with
        | [], h1, _, _, _ => exact h1 (by simp)
        | [_], h1, _, _, _ => exact h1 (by simp)
        | a :: b :: l, h1, nd, hD, hB =>
          obtain ⟨c, hc, ne⟩ := hD a (by simp) b (by simp) (fun z => (List.nodup_cons.mp nd).1 (by rw [z]; exact List.mem_cons_self))
          exact ne (no_split (hB c hc) (by simp) (by simp))
      · refine ⟨b + 1, ?_, dp_iff.mpr (.inr ⟨c, hc, hs⟩), fun d hd => ?_⟩
        · refine runF_rt rfl ?_
          show F_fewest_questions _ r0 = _
          unfold F_fewest_questions
          let rB : LE := FS T X (nD (b + 1)) c3 c4 c5 c6
          exact seqS_go (no1 _ rfl) (seqS_go (r' := FS T X .non .un .un .un .un) rfl (seqS_go (r' := rB) (forS_ok (rng _ rfl) h2) (seqS_go (r' := rB) (ifS_no (valT_ok (isN_nat (b := b + 1) rfl)) rfl) (retS_ok rfl))))
        · cases d with
          | zero =>
            have := of_decide_eq_true (show decide (ks.length < 2) = true from hd)
            omega
          | succ d =>
            rcases dp_iff.mp hd with z | ⟨c', hc', hs'⟩
            · omega
            · have := hB c' hc' d hs'
              omega
    · refine .inr ⟨hD, ?_⟩
      have hal : ∃ k ∈ ks, ∃ k' ∈ ks, k ≠ k' ∧ ∀ c, c < m → cell T k c = cell T k' c := by
        apply Classical.byContradiction
        intro z
        refine hD fun k hk k' hk' ne => Classical.byContradiction fun y => z ⟨k, hk, k', hk', ne, fun c hc => ?_⟩
        exact Classical.byContradiction fun x => y ⟨c, hc, x⟩
      obtain ⟨k, hkm, k', hkm', ne, hall⟩ := hal
      have key := loopS_find (gd := gN 3) (body := (seqS (setK 4 (valK (callE D_parts_by (acons (var 0) (acons (var 1) (acons (var 3) anil))))))
    (ifS (cmpT gtD (callE lenX (acons (var 4) anil)) (cst (.int 1)))
    (seqS (tryUS 0 excL
    (setK 5 (valK (opE addD (cst (.int 1)) (callE maxL (acons (lE (compX (itB (var 4)) (gN 6) yesT (callE (D_fewest_questions f) (acons (var 0) (acons (subE (var 4) (var 6)) anil))) [6])) anil))))) [(7, (errS ⟨7, .non⟩))])
    (ifS (orT (valT (isNE (var 2))) (cmpT ltD (var 5) (var 2)))
    (setK 2 (valK (var 5)))
    skipS))
    skipS))) (e := nD) (fun r => ∃ c3 c4 c5 c6, r = FS T X .non c3 c4 c5 c6) (fun c => decide (1 < (reps T ks c).length)) (fun _ o => ∃ r, o = .ex ⟨7, .non⟩ r) (l := List.range m) (r := FS T X .non .un .un .un .un) ⟨_, _, _, _, rfl⟩ (by
        rintro c r hc ⟨c3, c4, c5, c6, rfl⟩
        have hc := List.mem_range.mp hc
        let r1 : LE := FS T X .non (.val (nD c)) c4 c5 c6
        let rP : LE := FS T X .non (.val (nD c)) (.val (partsD T ks c)) c5 c6
        refine ⟨r1, rfl, fun q => ?_, fun q => ?_⟩
        · have q := of_decide_eq_false q
          exact ⟨rP, seqS_go (part c hc .non c4 c5 c6) (ifS_no (cmpT_ok (len_parts rfl) cst_1 ((gtD_nat _ _).trans (by rw [decide_eq_false q]))) rfl), _, _, _, _, rfl⟩
        · have q := of_decide_eq_true q
          have hcomp : compX (itB (var 4)) (gN 6) yesT (callE (D_fewest_questions f) (acons (var 0) (acons (subE (var 4) (var 6)) anil))) [6] rP = .err ⟨7, .non⟩ := by
            haveI : ∀ v, Decidable (Dist T m (prt T ks c v)) := fun v => Classical.propDecidable _
            refine compX_err (e := rp) (l := reps T ks c) (p := fun v => !decide (Dist T m (prt T ks c v))) (it_parts rfl) (by have := reps_le (T := T) ks c; omega) (fun v hv => ⟨FS T X .non (.val (nD c)) (.val (partsD T ks c)) c5 (.val (rp v)), rfl, fun z => ?_, fun z => ?_⟩) ⟨cell T k c, reps_mem.mpr ⟨k, hkm, rfl⟩, ?_⟩
            · rw [Bool.not_eq_false', decide_eq_true_eq] at z
              rcases rec_ c q v with ⟨_, w, h, _⟩ | h
              · exact ⟨_, callE2_ok (x := tabD T) rfl (sub_parts rfl rfl hv) h⟩
              · exact absurd z h.1
            · rw [Bool.not_eq_true', decide_eq_false_iff_not] at z
              rcases rec_ c q v with h | ⟨_, h⟩
              · exact absurd h.1 z
              · exact callE_err (acons_ok (x := tabD T) rfl (acons_ok (sub_parts rfl rfl hv) (xs := []) rfl)) h
            · rw [Bool.not_eq_true', decide_eq_false_iff_not]
              intro z
              obtain ⟨c', hc', h⟩ := z k (prt_mem.mpr ⟨hkm, rfl⟩) k' (prt_mem.mpr ⟨hkm', (hall c hc).symm⟩) ne
              exact h (hall c' hc')
          refine ⟨_, seqS_go (part c hc .non c4 c5 c6) (ifS_yes (cmpT_ok (len_parts rfl) cst_1 ((gtD_nat _ _).trans (by rw [decide_eq_true q]))) (seqS_ex (e := ⟨7, .non⟩) (r' := rP) (tryUS_ex (e := ⟨7, .non⟩) (r' := rP) (K := errS ⟨7, .non⟩) ?_ rfl rfl rfl))), ⟨_, rfl⟩, fun _ z => (by cases z), fun _ z => (by cases z), fun _ z => (by cases z)⟩
          refine setK_err ?_
          show opE addD _ _ rP = _
          have : callE maxL (acons (lE (compX (itB (var 4)) (gN 6) yesT (callE (D_fewest_questions f) (acons (var 0) (acons (subE (var 4) (var 6)) anil))) [6])) anil) rP = .err ⟨7, .non⟩ := callE_errA (acons_err1 (by unfold lE; rw [hcomp]; rfl))
          rw [opE_eq, cst_1, R.ok_bind, this]
          rfl)
      have fin : ∃ r, F_fewest_questions (D_fewest_questions f) r0 = .ok (.ex ⟨7, .non⟩ r) := by
        unfold F_fewest_questions
        rcases key with ⟨_, r2, h2, c3, c4, c5, c6, rfl⟩ | ⟨c, _, o, h2, r2, rfl⟩
        · let rB : LE := FS T X .non c3 c4 c5 c6
          exact ⟨_, seqS_go (no1 _ rfl) (seqS_go (r' := FS T X .non .un .un .un .un) rfl (seqS_go (r' := rB) (forS_ok (rng _ rfl) h2) (seqS_ex (ifS_yes (valT_ok (isN_non rfl)) rfl))))⟩
        · exact ⟨_, seqS_go (no1 _ rfl) (seqS_go (r' := FS T X .non .un .un .un .un) rfl (seqS_ex (forS_ok (rng _ rfl) h2)))⟩
      obtain ⟨r, hr⟩ := fin
      exact runF_ex rfl hr
end K20
set_option Elab.async false
set_option linter.all false
set_option maxRecDepth 100000
namespace K20
open DL PySem L2 PySem.Spec PyProof.Rows
variable {n m : Nat} {T : List (List V3)}
abbrev DS_ (T : List (List V3)) (ks : List Nat) (d : Nat) (c3 c4 c5 c6 : Cell) : LE := [.val (tabD T), .val (.lst (ks.map nD)), .val (nD d), c3, c4, c5, c6]
theorem kinds_ok (t : Tb n m T) {ks : List Nat} (hk : ∀ k ∈ ks, k < n) (hl : ks.length ≤ 100) {c : Nat} (hc : c < m) {d : Nat} {c4 c5 c6 : Cell} : setK 4 (valK (lE (callF sortedT (acons (callE dictD (acons (lE (compF (itB (var 1)) (gN 5) yesT (tupE (acons (subE (subE (var 0) (var 5)) (var 3)) (acons (cst (.int 1)) anil))) [5])) anil)) anil)))) (DS_ T ks d (.val (nD c)) c4 c5 c6) = .ok (.nx (DS_ T ks d (.val (nD c)) (.val (.lst ((reps T ks c).map rp))) c5 c6)) := by
  refine (setK_val (d := .lst ((reps T ks c).map rp)) (lE_ok (callF1_k (x := .dic (dcQ rp (fun _ => nD 1) (firsts (ks.map fun k => cell T k c)))) (callE1_ok (x := .lst ((ks.map fun k => cell T k c).map fun v => .tup [rp v, nD 1])) (lE_ok ?_) (dictD_dc (x := fun _ => nD 1) rp_key1 rp_keq (ks.map fun k => cell T k c))) ?_))).trans rfl
  · refine (compF_mapM (e := nD) (h := fun k => .tup [rp (cell T k c), nD 1]) (l := ks) (itB_l (var_k rfl)) (by omega) fun k q => ⟨DS_ T ks d (.val (nD c)) c4 (.val (nD k)) c6, rfl, tupE_ok (acons_ok (sub_cell t (hk k q) hc (sub_row t (hk k q) rfl rfl) rfl) (acons_ok cst_1 (xs := []) rfl)) (by simp)⟩).trans ?_
    rw [List.map_map]
    rfl
  · have e : (dcQ rp (fun _ => nD 1) (firsts (ks.map fun k => cell T k c))).map (·.1) = (firsts (ks.map fun k => cell T k c)).map rp := by
      unfold dcQ
      rw [List.map_map]
      rfl
    have h3 : (firsts (ks.map fun k => cell T k c)).length ≤ 3 := by
      have := (perm_of (firsts_nodup (ks.map fun k => cell T k c)) ((show all3.Nodup by decide).filter (fun v => decide (v ∈ firsts (ks.map fun k => cell T k c)))) fun a => by rw [List.mem_filter, decide_eq_true_eq]; exact ⟨fun h => ⟨all3_mem a, h⟩, fun h => h.2⟩).length_eq
      rw [this]
      exact List.length_filter_le _ all3
    show sortDs ((dcQ rp (fun _ => nD 1) (firsts (ks.map fun k => cell T k c))).map (·.1)) = _
    rw [e, ← srt_firsts]
    exact sortDs_str rcp (by omega)
theorem depth_ok (t : Tb n m T) : ∀ (f : Nat) (ks : List Nat) (d : Nat), (∀ k ∈ ks, k < n) → ks.length < f → ks.length ≤ 5 → D_law_depth f [tabD T, .lst (ks.map nD), nD d] = .ok (.bl (dp T m d ks))
  | 0, _, _, _, h, _ => absurd h (by omega)
  | f + 1, ks, d, hk, hf, h5 => by
    have m3 := t.m3
    have unf : ∀ xs, D_law_depth (f + 1) xs = runF 3 7 (F_law_depth (D_law_depth f)) xs := fun _ => rfl
    rw [unf]
    let r0 : LE := DS_ T ks d .un .un .un .un
    have hlen : ∀ rr : LE, rr[1]? = some (.val (.lst (ks.map nD))) → callE lenX (acons (var 1) anil) rr = .ok (nD ks.length) := fun rr h => (len_l (var_k h)).trans (by rw [List.length_map])
    by_cases h2 : ks.length < 2
    · rw [dp_small h2]
      refine runF_rt rfl ?_
      show F_law_depth _ r0 = _
      unfold F_law_depth
      exact seqS_rt (ifS_yes (cmpT_ok (hlen r0 rfl) cst_2 ((ltD_nat _ _).trans (by rw [decide_eq_true h2]))) (retS_ok rfl))
    have no1 : ifS (cmpT ltD (callE lenX (acons (var 1) anil)) (cst (.int 2))) (retS (cst (.bl true))) skipS r0 = .ok (.nx r0) := ifS_no (cmpT_ok (hlen r0 rfl) cst_2 ((ltD_nat _ _).trans (by rw [decide_eq_false h2]))) rfl
    cases d with
    | zero =>
      have : dp T m 0 ks = false := decide_eq_false h2
      rw [this]
      refine runF_rt rfl ?_
      show F_law_depth _ r0 = _
      unfold F_law_depth
      exact seqS_go no1 (seqS_rt (ifS_yes (cmpT_ok (x := nD 0) (y := nD 0) rfl rfl ((eqD_nat _ _).trans (by rw [decide_eq_true rfl]))) (retS_ok rfl)))
    | succ d =>
      have key := loopS_find (gd := gN 3) (body := (seqS (setK 4 (valK (lE (callF sortedT (acons (callE dictD (acons (lE (compF (itB (var 1)) (gN 5) yesT (tupE (acons (subE (subE (var 0) (var 5)) (var 3)) (acons (cst (.int 1)) anil))) [5])) anil)) anil)))))
    (ifS (andT (cmpT gtD (callE lenX (acons (var 4) anil)) (cst (.int 1))) (cmpT eqZ (lE (compF (itB (var 4)) (gN 6) (notT (valT (callE (D_law_depth f) (acons (var 0) (acons (lE (compF (itB (var 1)) (gN 5) (cmpT eqD (subE (subE (var 0) (var 5)) (var 3)) (var 6)) (var 5) [5])) (acons (opE subD (var 2) (cst (.int 1))) anil)))))) (cst (.int 1)) [6])) (lE (lstE anil))))
    (retS (cst (.bl true)))
    skipS))) (e := nD) (fun r => ∃ c3 c4 c5 c6, r = DS_ T ks (d + 1) c3 c4 c5 c6) (fun c => sp T m ks c d) (fun _ o => o = .rt (.bl true)) (l := List.range m) (r := r0) ⟨_, _, _, _, rfl⟩ (by
        rintro c r hc ⟨c3, c4, c5, c6, rfl⟩
        have hc := List.mem_range.mp hc
        let rP : LE := DS_ T ks (d + 1) (.val (nD c)) (.val (.lst ((reps T ks c).map rp))) c5 c6
        have hlk : callE lenX (acons (var 4) anil) rP = .ok (nD (reps T ks c).length) := (len_l (xs := (reps T ks c).map rp) rfl).trans (by rw [List.length_map])
        have hcond : andT (cmpT gtD (callE lenX (acons (var 4) anil)) (cst (.int 1))) (cmpT eqZ (lE (compF (itB (var 4)) (gN 6) (notT (valT (callE (D_law_depth f) (acons (var 0) (acons (lE (compF (itB (var 1)) (gN 5) (cmpT eqD (subE (subE (var 0) (var 5)) (var 3)) (var 6)) (var 5) [5])) (acons (opE subD (var 2) (cst (.int 1))) anil)))))) (cst (.int 1)) [6])) (lE (lstE anil))) rP = .ok (sp T m ks c d) := by
          by_cases q : 1 < (reps T ks c).length
          · refine (andT_yes (b := sp T m ks c d) (cmpT_ok hlk cst_1 ((gtD_nat _ _).trans (by rw [decide_eq_true q]))) ?_)
            have hcomp : compF (itB (var 4)) (gN 6) (notT (valT (callE (D_law_depth f) (acons (var 0) (acons (lE (compF (itB (var 1)) (gN 5) (cmpT eqD (subE (subE (var 0) (var 5)) (var 3)) (var 6)) (var 5) [5])) (acons (opE subD (var 2) (cst (.int 1))) anil)))))) (cst (.int 1)) [6] rP = .ok (((reps T ks c).filter fun v => !dp T m d (prt T ks c v)).map fun _ => nD 1) := by
              refine compF_fmM (e := rp) (h := fun _ => nD 1) (p := fun v => !dp T m d (prt T ks c v)) (l := reps T ks c) (itB_l (xs := (reps T ks c).map rp) rfl) (by have := reps_le (T := T) ks c; omega) fun v hv => ⟨DS_ T ks (d + 1) (.val (nD c)) (.val (.lst ((reps T ks c).map rp))) c5 (.val (rp v)), rfl, notT_ok (valT_ok (callE3_ok (x := tabD T) (y := .lst ((prt T ks c v).map nD)) (w := nD d) rfl (lE_ok ?_) ?_ ?_)), fun _ => rfl⟩
              · exact compF_fmM (e := nD) (h := nD) (p := fun k => decide (cell T k c = v)) (l := ks) (itB_l (var_k rfl)) (by omega) fun k hkm => ⟨DS_ T ks (d + 1) (.val (nD c)) (.val (.lst ((reps T ks c).map rp))) (.val (nD k)) (.val (rp v)), rfl, cmpT_ok (sub_cell t (hk k hkm) hc (sub_row t (hk k hkm) rfl rfl) rfl) (y := rp v) rfl (eqD_rp _ _), fun _ => rfl⟩
              · exact opE_k (x := nD (d + 1)) (y := nD 1) rfl rfl (sub_nat1 _ (by omega))
              · have := prt_lt q v
                exact depth_ok t f (prt T ks c v) d (fun k z => hk k (prt_mem.mp z).1) (by omega) (by omega)
            refine (cmpT_ok (lE_ok hcomp) (lE_ok (lstE_ok (xs := []) rfl (by simp))) (eqZ_nil _)).trans ?_
            congr 1
            rw [Bool.eq_iff_iff, sp_iff, List.isEmpty_iff, List.map_eq_nil_iff, List.filter_eq_nil_iff]
            constructor
            · intro h
              exact ⟨q, fun v hv => by simpa using h v hv⟩
            · rintro ⟨_, h⟩ v hv
              simpa using h v hv
          · refine (andT_no (cmpT_ok hlk cst_1 ((gtD_nat _ _).trans (by rw [decide_eq_false q])))).trans ?_
            congr 1
            unfold sp
            rw [decide_eq_false q, Bool.false_and]
        refine ⟨DS_ T ks (d + 1) (.val (nD c)) c4 c5 c6, rfl, fun q => ⟨rP, seqS_go (kinds_ok t hk (by omega) hc) (ifS_no (hcond.trans (by rw [q])) rfl), _, _, _, _, rfl⟩, fun q => ⟨_, seqS_go (kinds_ok t hk (by omega) hc) (ifS_yes (hcond.trans (by rw [q])) (retS_ok rfl)), rfl, fun _ z => (by cases z), fun _ z => (by cases z), fun _ z => (by cases z)⟩⟩)
      have no2 : ifS (cmpT eqD (var 2) (cst (.int 0))) (retS (cst (.bl false))) skipS r0 = .ok (.nx r0) := ifS_no (cmpT_ok (x := nD (d + 1)) (y := nD 0) rfl rfl ((eqD_nat _ _).trans (by rw [decide_eq_false (by omega)]))) rfl
      have rng : rng1E (acons (callE lenX (acons (subE (var 0) (cst (.int 0))) anil)) anil) r0 = .ok ((List.range m).map nD) := rng1E_ok (len_row0 t (var_k rfl)) (by omega)
      have e : dp T m (d + 1) ks = (List.range m).any fun c => sp T m ks c d := by rw [dp_succ, decide_eq_false h2, Bool.false_or]
      refine runF_rt rfl ?_
      show F_law_depth _ r0 = _
      unfold F_law_depth
      refine seqS_go no1 (seqS_go no2 ?_)
      rcases key with ⟨hn, r2, hr, c3, c4, c5, c6, rfl⟩ | ⟨c, hs, o, hr, rfl⟩
      · have : dp T m (d + 1) ks = false := by
          rw [e, List.any_eq_false]
          exact fun c hc => List.find?_eq_none.mp hn c hc
        rw [this]
        exact seqS_go (forS_ok rng hr) (retS_ok rfl)
      · have : dp T m (d + 1) ks = true := by
          rw [e, List.any_eq_true]
          exact ⟨c, List.mem_of_find?_eq_some hs, List.find?_some (p := fun c => sp T m ks c d) hs⟩
        rw [this]
        exact seqS_rt (forS_ok rng hr)
def pick (row : List V3) (w : List Nat) : List V3 := w.map fun c => (row[c]?).getD 0
def tells (T : List (List V3)) (n : Nat) (w : List Nat) : Bool := decide ((firsts (T.map fun row => pick row w)).length = n)
def ext (m : Nat) (w : List Nat) : List (List Nat) := ((List.range m).filter fun c => decide (w = []) || decide (w.getLastD 0 < c)).map fun c => w ++ [c]
def wl (m : Nat) : Nat → List (List Nat)
  | 0 => [[]]
  | s + 1 => (wl m s).flatMap (ext m)
def wD (w : List Nat) : D := .tup (w.map nD)
def waysAll (m : Nat) : List (List Nat) := (List.range' 0 (m + 1)).flatMap (wl m)
theorem wl_ok : ∀ m s, 1 ≤ m → m ≤ 3 → s ≤ m → (wl m s).length ≤ 3 ∧ ∀ w ∈ wl m s, w.length ≤ 3 ∧ ∀ c ∈ w, c < m := by
  intro m s h1 h3 hs
  have : ((List.range 4).all fun m => (List.range 4).all fun s => decide (m < s) || (decide ((wl m s).length ≤ 3) && (wl m s).all fun w => decide (w.length ≤ 3) && w.all fun c => decide (c < m))) = true := by decide +kernel
  have := List.all_eq_true.mp (List.all_eq_true.mp this m (List.mem_range.mpr (by omega))) s (List.mem_range.mpr (by omega))
  rw [Bool.or_eq_true, decide_eq_true_eq, Bool.and_eq_true, decide_eq_true_eq, List.all_eq_true] at this
  rcases this with h | ⟨h, h2⟩
  · omega
  · refine ⟨h, fun w hw => ?_⟩
    have := h2 w hw
    rw [Bool.and_eq_true, decide_eq_true_eq, List.all_eq_true] at this
    exact ⟨this.1, fun c hc => of_decide_eq_true (this.2 c hc)⟩
def vK (v : V3) : Key := (rp v).keyOf
theorem vK_key (v : V3) : (rp v).key = some (vK v) := rfl
theorem rps_keysK : ∀ r : List V3, keysK (r.map rp) = some (r.map vK)
  | [] => rfl
  | v :: r => by
    rw [List.map_cons, keysK, vK_key, rps_keysK r]
    rfl
def tD (r : List V3) : D := .tup (r.map rp)
theorem tD_tkey (r : List V3) : (tD r).tkey.isSome = true := by
  show (keysK (r.map rp)).isSome = true
  rw [rps_keysK]
  rfl
theorem vK_inj : ∀ a b : V3, vK a = vK b → a = b := fun a b h => by
  have := keq_key (vK_key a) (vK_key b)
  rw [rp_keq, h, decide_eq_true rfl] at this
  exact of_decide_eq_true this
theorem map_inj_ {α β : Type} {f : α → β} (h : ∀ a b, f a = f b → a = b) : ∀ {l k : List α}, l.map f = k.map f → l = k
  | [], [], _ => rfl
  | [], b :: k, e => by cases e
  | a :: l, [], e => by cases e
  | a :: l, b :: k, e => by
    rw [List.map_cons, List.map_cons] at e
    injection e with e1 e2
    rw [h a b e1, map_inj_ h e2]
theorem tD_tkq (a b : List V3) : (tD a).tkq (tD b) = decide (a = b) := by
  refine (tkq_key (a := tD a) (b := tD b) (x := a.map vK) (y := b.map vK) (rps_keysK a) (rps_keysK b)).trans ?_
  rw [Bool.eq_iff_iff, decide_eq_true_eq, decide_eq_true_eq]
  exact ⟨map_inj_ vK_inj, fun h => by rw [h]⟩
abbrev XS_ (T : List (List V3)) (c1 c2 c3 c4 c5 c6 : Cell) : LE := [.val (tabD T), c1, c2, c3, c4, c5, c6]
theorem pick_ok (t : Tb n m T) {row : List V3} (hr : row ∈ T) {w : List Nat} (hw : w.length ≤ 3 ∧ ∀ c ∈ w, c < m) {c1 c2 c4 c5 : Cell} : callE tupleD (acons (lE (compF (itB (var 3)) (gN 5) yesT (subE (var 6) (var 5)) [5])) anil) (XS_ T c1 c2 (.val (wD w)) c4 c5 (.val (rowD row))) = .ok (tD (pick row w)) := by
  refine callE1_ok (lE_ok (compF_mapM (e := nD) (h := fun c => rp ((row[c]?).getD 0)) (l := w) (itB_t (xs := w.map nD) rfl) (by omega) fun c hc => ⟨XS_ T c1 c2 (.val (wD w)) c4 (.val (nD c)) (.val (rowD row)), rfl, subE_k (x := rowD row) (y := nD c) rfl rfl (subI_lst ?_)⟩)) ?_
  · have hlt : c < row.length := by rw [t.row row hr]; exact hw.2 c hc
    show (row.map rp)[c]? = _
    rw [List.getElem?_map, List.getElem?_eq_getElem hlt]
    rfl
  · rw [tupleD_lst]
    unfold tD pick
    rw [List.map_map]
    rfl
def bT : LE → R Out := (seqS (setK 4 (valK (dictTE (lE (compF (itB (var 0)) (gN 6) yesT (tupE (acons (callE tupleD (acons (lE (compF (itB (var 3)) (gN 5) yesT (subE (var 6) (var 5)) [5])) anil)) (acons (cst (.int 1)) anil))) [6])))))
    (ifS (cmpT eqD (callE lenTX (acons (var 4) anil)) (callE lenX (acons (var 0) anil)))
    (retS (var 3))
    skipS))
theorem told_ok (t : Tb n m T) {w : List Nat} (hw : w.length ≤ 3 ∧ ∀ c ∈ w, c < m) {c1 c2 c4 c5 c6 : Cell} : ∃ c4', bT (XS_ T c1 c2 (.val (wD w)) c4 c5 c6) = if tells T n w = true then .ok (.rt (wD w)) else .ok (.nx (XS_ T c1 c2 (.val (wD w)) c4' c5 c6)) := by
  have n5 := t.n5
  let P := T.map fun row => pick row w
  let X4 : D := .tdic (dcQ tD (fun _ => nD 1) (firsts P))
  let r1 : LE := XS_ T c1 c2 (.val (wD w)) (.val X4) c5 c6
  have h1 : setK 4 (valK (dictTE (lE (compF (itB (var 0)) (gN 6) yesT (tupE (acons (callE tupleD (acons (lE (compF (itB (var 3)) (gN 5) yesT (subE (var 6) (var 5)) [5])) anil)) (acons (cst (.int 1)) anil))) [6])))) (XS_ T c1 c2 (.val (wD w)) c4 c5 c6) = .ok (.nx r1) := by
    refine (setK_val (d := X4) ?_).trans rfl
    unfold dictTE
    rw [lE_ok (compF_mapM (e := rowD) (h := fun row => .tup [tD (pick row w), nD 1]) (l := T) (itB_l (xs := T.map rowD) rfl) (by rw [t.len]; omega) fun row hr => ⟨XS_ T c1 c2 (.val (wD w)) c4 c5 (.val (rowD row)), rfl, tupE_ok (acons_ok (pick_ok t hr hw) (acons_ok cst_1 (xs := []) rfl)) (by simp)⟩), R.ok_bind]
    have := dictTD_dc (e := tD) (x := fun _ => nD 1) tD_tkey tD_tkq P
    rw [List.map_map] at this
    rw [show (T.map fun row => D.tup [tD (pick row w), nD 1]) = T.map ((fun a => D.tup [tD a, nD 1]) ∘ fun row => pick row w) from rfl, this]
    rfl
  have h2 : callE lenTX (acons (var 4) anil) r1 = .ok (nD (firsts P).length) := by
    refine callE1_ok (x := X4) rfl ?_
    show R.ok (nD (dcQ tD (fun _ => nD 1) (firsts P)).length) = _
    unfold dcQ
    rw [List.length_map]
  refine ⟨.val X4, ?_⟩
  unfold bT
  cases q : tells T n w with
  | true => exact (seqS_go h1 (ifS_yes (cmpT_ok h2 (len_tab t rfl) ((eqD_nat _ _).trans (by rw [show decide ((firsts P).length = n) = true from q]))) (retS_ok rfl)))
  | false => exact (seqS_go h1 (ifS_no (cmpT_ok h2 (len_tab t rfl) ((eqD_nat _ _).trans (by rw [show decide ((firsts P).length = n) = false from q]))) rfl))
def bF : LE → R Out := (seqS (frzS 1 (forS (itB (var 1)) (gN 3) bT))
    (setK 1 (ownK (compF2 (itA (varP 1)) (gN 3) yesT (rng1E (acons (callE lenX (acons (subE (var 0) (cst (.int 0))) anil)) anil)) (gN 5) (orT (cmpT eqD (var 3) (tupE anil)) (cmpT gtD (var 5) (subE (var 3) (negE (cst (.int 1)))))) (opE addD (var 3) (tupE (acons (var 5) anil))) [3, 5] [5]))))
theorem eqD_nil (ws : List Nat) : eqD (wD ws) (.tup []) = .ok (.bl (decide (ws = []))) := by
  cases ws with
  | nil => exact eqD_self (by decide)
  | cons a l =>
    unfold eqD
    rw [if_pos (by rw [Bool.or_eq_true, Bool.and_eq_true]; exact .inr ⟨nDs_sh (a :: l) 63, rfl⟩)]
    rfl
def pE (w : List Nat) (c : Nat) : Bool := decide (w = []) || decide (w.getLastD 0 < c)
theorem last_ok {w : List Nat} (h : w ≠ []) : (w.map nD)[(w.map nD).length - 1]? = some (nD (w.getLastD 0)) := by
  rw [List.length_map, List.getElem?_map, ← List.getLast?_eq_getElem?]
  cases e : w.getLast? with
  | none => exact absurd (List.getLast?_eq_none_iff.mp e) h
  | some x =>
    have : w.getLastD 0 = x := by rw [List.getLastD_eq_getLast?, e]; rfl
    rw [this]
    rfl
theorem inner_ok (t : Tb n m T) {ws : List (List Nat)} (hl : ws.length ≤ 3) (hw : ∀ w ∈ ws, w.length ≤ 3 ∧ ∀ c ∈ w, c < m) {c2 c3 c4 c5 c6 : Cell} :
    (∃ w, ws.find? (tells T n) = some w ∧ bF (XS_ T (.own (.lst (ws.map wD))) c2 c3 c4 c5 c6) = .ok (.rt (wD w))) ∨ (ws.find? (tells T n) = none ∧ ∃ d3 d4 d5 d6, bF (XS_ T (.own (.lst (ws.map wD))) c2 c3 c4 c5 c6) = .ok (.nx (XS_ T (.own (.lst ((ws.flatMap (ext m)).map wD))) c2 d3 d4 d5 d6))) := by
  have m3 := t.m3
  unfold bF
  have hfr : ∀ F : LE → R Out, frzS 1 F (XS_ T (.own (.lst (ws.map wD))) c2 c3 c4 c5 c6) = F (XS_ T (.val (.lst (ws.map wD))) c2 c3 c4 c5 c6) := fun F => by
    unfold frzS
    rw [frz_l (ds := ws.map wD) rfl]
    rfl
  have key := loopS_find (gd := gN 3) (body := bT) (e := wD) (fun r => ∃ c3 c4 c5 c6, r = XS_ T (.val (.lst (ws.map wD))) c2 c3 c4 c5 c6) (tells T n) (fun w o => o = .rt (wD w)) (l := ws) (r := XS_ T (.val (.lst (ws.map wD))) c2 c3 c4 c5 c6) ⟨_, _, _, _, rfl⟩ (by
    rintro w r hwm ⟨c3, c4, c5, c6, rfl⟩
    obtain ⟨c4', h⟩ := told_ok t (hw w hwm) (c1 := .val (.lst (ws.map wD))) (c2 := c2) (c4 := c4) (c5 := c5) (c6 := c6)
    refine ⟨XS_ T (.val (.lst (ws.map wD))) c2 (.val (wD w)) c4 c5 c6, rfl, fun q => ?_, fun q => ?_⟩
    · rw [h, if_neg (by rw [q]; exact Bool.noConfusion)]
      exact ⟨_, rfl, _, _, _, _, rfl⟩
    · rw [h, if_pos q]
      exact ⟨_, rfl, rfl, fun _ z => (by cases z), fun _ z => (by cases z), fun _ z => (by cases z)⟩)
  rcases key with ⟨hn, r2, hr, c3', c4', c5', c6', rfl⟩ | ⟨w, hs, o, hr, rfl⟩
  · refine .inr ⟨hn, c3', c4', c5', c6', seqS_go ((hfr _).trans (forS_ok (itB_l (xs := ws.map wD) rfl) hr)) ?_⟩
    refine (setK_own (d := (ws.flatMap (ext m)).map wD) ((compF2_fmM (e := wD) (e1 := nD) (h := fun w c => wD (w ++ [c])) (p := pE) (l := ws) (m := fun _ => List.range m) (itA_l (xs := ws.map wD) rfl) (by omega) fun w hwm => ?_).trans ?_)).trans rfl
    · have hw' := hw w hwm
      refine ⟨XS_ T (.val (.lst (ws.map wD))) c2 (.val (wD w)) c4' .un c6', rfl, rng1E_ok (len_row0 t rfl) (by omega), by rw [List.length_range]; omega, fun c hc => ⟨XS_ T (.val (.lst (ws.map wD))) c2 (.val (wD w)) c4' (.val (nD c)) c6', rfl, ?_, fun _ => opE_k (x := wD w) (y := .tup [nD c]) rfl rfl ?_⟩⟩
      · by_cases e : w = []
        · have : pE w c = true := by unfold pE; rw [decide_eq_true e, Bool.true_or]
          rw [this]
          exact orT_yes (cmpT_ok (x := wD w) (y := .tup []) rfl rfl ((eqD_nil w).trans (by rw [decide_eq_true e])))
        · refine orT_k (cmpT_ok (x := wD w) (y := .tup []) rfl rfl (eqD_nil w)) (cmpT_ok (x := nD c) (y := nD (w.getLastD 0)) rfl (subE_k (x := wD w) (y := .int (-1)) rfl rfl (subI_lastT (last_ok e))) (gtD_nat _ _))
      · show addD (.tup (w.map nD)) (.tup [nD c]) = _
        refine (addD_tup (by rw [List.length_map]; simp; omega)).trans ?_
        unfold wD
        rw [List.map_append]
        rfl
    · rw [List.map_flatMap]
      congr 2
      funext w
      unfold ext
      rw [List.map_map]
      rfl
  · exact .inl ⟨w, hs, seqS_rt ((hfr _).trans (forS_ok (itB_l (xs := ws.map wD) rfl) hr))⟩
theorem outer_ok (t : Tb n m T) : ∀ (j s : Nat), s + j = m + 1 → ∀ c2 c3 c4 c5 c6 : Cell,
    (∃ w, ((List.range' s j).flatMap (wl m)).find? (tells T n) = some w ∧ loopS (gN 2) bF ((List.range' s j).map nD) (XS_ T (.own (.lst ((wl m s).map wD))) c2 c3 c4 c5 c6) = .ok (.rt (wD w))) ∨
    (((List.range' s j).flatMap (wl m)).find? (tells T n) = none ∧ ∃ r, loopS (gN 2) bF ((List.range' s j).map nD) (XS_ T (.own (.lst ((wl m s).map wD))) c2 c3 c4 c5 c6) = .ok (.nx r))
  | 0, s, _, c2, c3, c4, c5, c6 => .inr ⟨rfl, _, rfl⟩
  | j + 1, s, h, c2, c3, c4, c5, c6 => by
    obtain ⟨h1, h2⟩ := wl_ok m s t.m1 t.m3 (by omega)
    rw [List.range'_succ, List.flatMap_cons, List.map_cons, List.find?_append]
    rcases inner_ok t h1 h2 (c2 := .val (nD s)) (c3 := c3) (c4 := c4) (c5 := c5) (c6 := c6) with ⟨w, hw, hr⟩ | ⟨hn, d3, d4, d5, d6, hr⟩
    · refine .inl ⟨w, by rw [hw]; rfl, loopS_rt (r' := XS_ T (.own (.lst ((wl m s).map wD))) (.val (nD s)) c3 c4 c5 c6) rfl hr⟩
    · rw [hn, Option.none_or, loopS_nx (r' := XS_ T (.own (.lst ((wl m s).map wD))) (.val (nD s)) c3 c4 c5 c6) rfl hr]
      exact outer_ok t j (s + 1) (by omega) _ _ _ _ _
theorem fixed_ok (t : Tb n m T) : (∃ w, (waysAll m).find? (tells T n) = some w ∧ D_fixed_questions [tabD T] = .ok (wD w)) ∨ ((waysAll m).find? (tells T n) = none ∧ D_fixed_questions [tabD T] = .err ⟨7, .non⟩) := by
  have m3 := t.m3
  have hF : F_fixed_questions = seqS (dropS (callE D_check_table (acons (var 0) anil))) (seqS (setK 1 (ownK (lstE (acons (tupE anil) anil)))) (seqS (forS (rng1E (acons (opE addD (callE lenX (acons (subE (var 0) (cst (.int 0))) anil)) (cst (.int 1))) anil)) (gN 2) bF) (errS ⟨7, .non⟩))) := rfl
  let r0 : LE := XS_ T .un .un .un .un .un .un
  let r1 : LE := XS_ T (.own (.lst ((wl m 0).map wD))) .un .un .un .un .un
  have h1 : setK 1 (ownK (lstE (acons (tupE anil) anil))) r0 = .ok (.nx r1) := (setK_own (d := [.tup []]) (lstE_ok (acons_ok (tupE_ok (xs := []) rfl (by simp)) (xs := []) rfl) (by simp))).trans rfl
  have hr : rng1E (acons (opE addD (callE lenX (acons (subE (var 0) (cst (.int 0))) anil)) (cst (.int 1))) anil) r1 = .ok ((List.range' 0 (m + 1)).map nD) := (rng1E_ok (opE_k (len_row0 t rfl) cst_1 (addD_nat m 1)) (by omega)).trans (by rw [List.range_eq_range'])
  rcases outer_ok t (m + 1) 0 (by omega) .un .un .un .un .un with ⟨w, hw, h⟩ | ⟨hn, r, h⟩
  · refine .inl ⟨w, hw, runF_rt rfl ?_⟩
    show F_fixed_questions r0 = _
    rw [hF]
    exact seqS_go (drop_check t rfl) (seqS_go h1 (seqS_rt (forS_ok hr h)))
  · refine .inr ⟨hn, runF_ex (r := r) rfl ?_⟩
    show F_fixed_questions r0 = _
    rw [hF]
    exact seqS_go (drop_check t rfl) (seqS_go h1 (seqS_go (forS_ok hr h) rfl))
end K20
set_option Elab.async false
set_option linter.all false
set_option maxRecDepth 100000
namespace K20
open DL PySem L2 PySem.Spec PyProof.Rows
variable {n m : Nat} {T : List (List V3)}
def qD (b : Bool) (xs : List D) : D := if b then .tup xs else .lst xs
theorem q_len {b : Bool} {f : LE → R D} {r : LE} {xs : List D} (h : f r = .ok (qD b xs)) : callE lenX (acons f anil) r = .ok (nD xs.length) := by
  cases b
  · exact len_l h
  · exact len_t h
theorem q_it {b : Bool} {f : LE → R D} {r : LE} {xs : List D} (h : f r = .ok (qD b xs)) : itB f r = .ok xs := by
  cases b
  · exact itB_l h
  · exact itB_t h
theorem q_sub {b : Bool} {xs : List D} {k : Nat} {d : D} (h : xs[k]? = some d) : subI (qD b xs) (nD k) = .ok d := by
  cases b
  · exact subI_lst h
  · exact subI_tup h
theorem q_tup (b : Bool) (xs : List D) : tupleD [qD b xs] = .ok (.tup xs) := by
  cases b <;> rfl
abbrev rowQ (b : Bool) (r : List V3) : D := qD b (r.map rp)
abbrev tabQ (b : Bool) (T : List (List V3)) : D := qD b (T.map (rowQ b))
structure Tw (n m : Nat) (T : List (List V3)) : Prop where
  n1 : 1 ≤ n
  n5 : n ≤ 6
  m1 : 1 ≤ m
  m3 : m ≤ 6
  len : T.length = n
  row : ∀ r ∈ T, r.length = m
theorem Tb.w (t : Tb n m T) : Tw n m T := ⟨t.n1, Nat.le_trans t.n5 (by decide), t.m1, Nat.le_trans t.m3 (by decide), t.len, t.row⟩
theorem len_tabQ (t : Tw n m T) {b : Bool} {f : LE → R D} {r : LE} (h : f r = .ok (tabQ b T)) : callE lenX (acons f anil) r = .ok (nD n) := (q_len h).trans (by rw [List.length_map, t.len])
theorem len_row0Q (t : Tw n m T) {b : Bool} {f : LE → R D} {r : LE} (h : f r = .ok (tabQ b T)) : callE lenX (acons (subE f (cst (.int 0))) anil) r = .ok (nD m) := by
  have n1 := t.n1
  have hk : 0 < T.length := by rw [t.len]; exact n1
  have h0 : subE f (cst (.int 0)) r = .ok (rowQ b T[0]) := subE_k h (y := nD 0) rfl (q_sub (by rw [List.getElem?_map, List.getElem?_eq_getElem hk]; rfl))
  exact (q_len h0).trans (by rw [List.length_map, t.row _ (List.getElem_mem hk)])
theorem check_okQ (t : Tw n m T) (b : Bool) : D_check_table [tabQ b T] = .ok .non := by
  have n1 := t.n1
  have n5 := t.n5
  have m1 := t.m1
  have m3 := t.m3
  let r0 : LE := [.val (tabQ b T), .un]
  refine runF_nx (r := r0) rfl ?_
  show F_check_table r0 = _
  unfold F_check_table
  refine seqS_go (r' := r0) (ifS_no (orT_ff ?_ (orT_ff ?_ ?_)) rfl) (ifS_no (notT_ok (b := true) ((chain_leN3 (a := 1) (b := m) (c := 6) rfl (len_row0Q t rfl) rfl).trans ?_)) rfl)
  · exact (cmpT_ok (len_tabQ t rfl) (y := nD 0) rfl (eqD_nat _ _)).trans (by rw [decide_eq_false (by omega)])
  · exact (cmpT_ok (len_tabQ t rfl) (y := nD 12) rfl (gtD_nat _ _)).trans (by rw [decide_eq_false (by omega)])
  · refine valT_ok (anyE_allM (x := true) (e := rowQ b) (l := T) (q_it (xs := T.map (rowQ b)) rfl) fun r hr => ⟨[.val (tabQ b T), .val (rowQ b r)], rfl, ?_⟩)
    refine (opE_k (q_len (xs := r.map rp) rfl) (len_row0Q t rfl) (neD_nat _ _)).trans ?_
    rw [List.length_map, t.row r hr, decide_eq_true rfl]
  · rw [decide_eq_true m1, decide_eq_true (by omega)]
    rfl
theorem drop_checkQ (t : Tw n m T) {b : Bool} {r : LE} (h : r[0]? = some (.val (tabQ b T))) : dropS (callE D_check_table (acons (var 0) anil)) r = .ok (.nx r) := dropS_ok (callE1_ok (var_k h) (check_okQ t b))
def good (T : List (List V3)) (n : Nat) : Bool := decide ((firsts T).length = n)
theorem rps_keysD : ∀ r : List V3, keysD (r.map rp) = some (r.map rp)
  | [] => rfl
  | v :: r => by
    show (keysD (r.map rp)).map (rp v :: ·) = _
    rw [rps_keysD r]
    rfl
theorem rps_keqs (a b : List V3) : keqsD (a.map rp) (b.map rp) = decide (a = b) := tD_tkq a b
theorem lenRows {f : LE → R D} {r : LE} (hl : T.length ≤ 1000) (hf : f r = .ok (.lst (T.map fun a => .tup [tD a, nD 1]))) : lenDictE f r = .ok (nD (firsts T).length) := lenDictT (ks := fun r : List V3 => r.map rp) (x := fun _ => nD 1) rps_keysD rps_keqs hl hf
theorem unlike_okQ (t : Tw n m T) (b : Bool) : D_are_unlike [tabQ b T] = .ok (.bl (good T n)) := by
  have n5 := t.n5
  let r0 : LE := [.val (tabQ b T), .un]
  refine runF_rt rfl ?_
  show F_are_unlike r0 = _
  unfold F_are_unlike
  refine seqS_go (drop_checkQ t rfl) (retS_ok (opE_k (lenRows (by rw [t.len]; omega) (lE_ok ?_)) (len_tabQ t rfl) (eqD_nat _ _)))
  exact compF_mapM (e := rowQ b) (h := fun a => .tup [tD a, nD 1]) (l := T) (q_it (xs := T.map (rowQ b)) rfl) (by rw [t.len]; omega) fun row hr => ⟨[.val (tabQ b T), .val (rowQ b row)], rfl, tupE_ok (acons_ok (callE1_ok (x := rowQ b row) rfl (q_tup b _)) (acons_ok cst_1 (xs := []) rfl)) (by simp)⟩
def turn (T : List (List V3)) (m : Nat) : List (List V3) := (List.range m).map fun c => T.map fun row => (row[c]?).getD 0
theorem turn_w (t : Tw n m T) : Tw m n (turn T m) := ⟨t.m1, t.m3, t.n1, t.n5, by unfold turn; rw [List.length_map, List.length_range], fun r hr => by
  obtain ⟨c, _, rfl⟩ := List.mem_map.mp hr
  rw [List.length_map, t.len]⟩
theorem turn_turn (t : Tw n m T) : turn (turn T m) n = T := by
  have h : ∀ k, k < n → (turn T m).map (fun row => (row[k]?).getD 0) = T[k]?.getD [] := fun k hk => by
    have hk' : k < T.length := by rw [t.len]; exact hk
    have hl : T[k].length = m := t.row _ (List.getElem_mem hk')
    rw [List.getElem?_eq_getElem hk']
    unfold turn
    rw [List.map_map]
    show _ = T[k]
    have e : T[k] = (List.range m).map fun c => (T[k][c]?).getD 0 := by
      refine List.ext_getElem (by rw [List.length_map, List.length_range, hl]) fun c h1 h2 => ?_
      rw [List.getElem_map, List.getElem_range, List.getElem?_eq_getElem h1]
      rfl
    refine Eq.trans (List.map_congr_left fun c hc => ?_) e.symm
    show ((T.map fun row => (row[c]?).getD 0)[k]?).getD 0 = _
    rw [List.getElem?_map, List.getElem?_eq_getElem hk']
    rfl
  have e2 : T = (List.range n).map fun k => T[k]?.getD [] := by
    refine List.ext_getElem (by rw [List.length_map, List.length_range, t.len]) fun k h1 h2 => ?_
    rw [List.getElem_map, List.getElem_range, List.getElem?_eq_getElem h1]
    rfl
  have e3 : turn (turn T m) n = (List.range n).map fun k => (turn T m).map (fun row => (row[k]?).getD 0) := rfl
  rw [e3]
  refine Eq.trans (List.map_congr_left fun k hk => h k (List.mem_range.mp hk)) e2.symm
theorem turned_okQ (t : Tw n m T) (b : Bool) : D_turned_table [tabQ b T] = .ok (tabQ true (turn T m)) := by
  have n5 := t.n5
  have m3 := t.m3
  let r0 : LE := [.val (tabQ b T), .un, .un]
  refine runF_rt rfl ?_
  show F_turned_table r0 = _
  unfold F_turned_table
  refine seqS_go (drop_checkQ t rfl) (retS_ok (callE1_ok (lE_ok (compF_mapM (e := nD) (h := fun c => rowQ true (T.map fun row => (row[c]?).getD 0)) (l := List.range m) (rng1E_ok (len_row0Q t rfl) (by omega)) (by rw [List.length_range]; omega) fun c hc => ⟨[.val (tabQ b T), .un, .val (nD c)], rfl, callE1_ok (lE_ok (compF_mapM (e := rowQ b) (h := fun row => rp ((row[c]?).getD 0)) (l := T) (q_it (xs := T.map (rowQ b)) rfl) (by rw [t.len]; omega) fun row hr => ⟨[.val (tabQ b T), .val (rowQ b row), .val (nD c)], rfl, subE_k (x := rowQ b row) (y := nD c) rfl rfl (q_sub ?_)⟩)) ?_⟩)) ?_))
  · have hlt : c < row.length := by rw [t.row row hr]; exact List.mem_range.mp hc
    rw [List.getElem?_map, List.getElem?_eq_getElem hlt]
    rfl
  · rw [tupleD_lst]
    show _ = R.ok (D.tup ((T.map fun row => (row[c]?).getD 0).map rp))
    rw [List.map_map]
    rfl
  · rw [tupleD_lst]
    show _ = R.ok (D.tup ((turn T m).map (rowQ true)))
    unfold turn
    rw [List.map_map]
    rfl
def swp (v : V3) : V3 := if v = 0 then 1 else if v = 1 then 0 else 2
theorem swp_swp (v : V3) : swp (swp v) = v := three (P := fun v => swp (swp v) = v) (by decide) (by decide) (by decide) v
def swD : D := .dic [(.str [97], .str [98]), (.str [98], .str [97])]
theorem sw_get (v : V3) : (getD [(.str [97], .str [98]), (.str [98], .str [97])] (rp v)).getD (rp v) = rp (swp v) := three (P := fun v => (getD [(.str [97], .str [98]), (.str [98], .str [97])] (rp v)).getD (rp v) = rp (swp v)) rfl rfl rfl v
abbrev chg (T : List (List V3)) : List (List V3) := T.map fun r => r.map swp
theorem chg_w (t : Tw n m T) : Tw n m (chg T) := ⟨t.n1, t.n5, t.m1, t.m3, by rw [List.length_map, t.len], fun r hr => by
  obtain ⟨c, hc, rfl⟩ := List.mem_map.mp hr
  rw [List.length_map, t.row c hc]⟩
theorem chg_chg (T : List (List V3)) : chg (chg T) = T := by
  unfold chg
  rw [List.map_map]
  refine (List.map_congr_left fun r _ => ?_).trans (List.map_id T)
  show (r.map swp).map swp = r
  rw [List.map_map]
  exact (List.map_congr_left fun v _ => swp_swp v).trans (List.map_id r)
theorem changed_okQ (t : Tw n m T) (b : Bool) : D_changed_replies [tabQ b T, swD] = .ok (tabQ true (chg T)) := by
  have n5 := t.n5
  have m3 := t.m3
  let r0 : LE := [.val (tabQ b T), .val swD, .un, .un]
  refine runF_rt rfl ?_
  show F_changed_replies r0 = _
  unfold F_changed_replies
  refine seqS_go (drop_checkQ t rfl) (retS_ok (callE1_ok (lE_ok (compF_mapM (e := rowQ b) (h := fun row => rowQ true (row.map swp)) (l := T) (q_it (xs := T.map (rowQ b)) rfl) (by rw [t.len]; omega) fun row hr => ⟨[.val (tabQ b T), .val swD, .un, .val (rowQ b row)], rfl, callE1_ok (lE_ok (compF_mapM (e := rp) (h := fun v => rp (swp v)) (l := row) (q_it (xs := row.map rp) rfl) (by rw [t.row row hr]; omega) fun v hv => ⟨[.val (tabQ b T), .val swD, .val (rp v), .val (rowQ b row)], rfl, (get2_v (y := rp v) (z := rp v) rfl rfl rfl rfl).trans (by rw [sw_get])⟩)) ?_⟩)) ?_))
  · rw [tupleD_lst]
    show _ = R.ok (D.tup ((row.map swp).map rp))
    rw [List.map_map]
    rfl
  · rw [tupleD_lst]
    show _ = R.ok (D.tup ((chg T).map (rowQ true)))
    unfold chg
    rw [List.map_map]
    rfl
theorem adds_map {α β : Type} [DecidableEq α] [DecidableEq β] {f : α → β} (h : ∀ a b, f a = f b → a = b) (l : List α) (a : α) : adds (l.map f) (f a) = (adds l a).map f := by
  unfold adds
  by_cases q : a ∈ l
  · rw [if_pos q, if_pos (List.mem_map.mpr ⟨a, q, rfl⟩)]
  · rw [if_neg q, if_neg fun z => by
      obtain ⟨b, hb, e⟩ := List.mem_map.mp z
      exact q (h b a e ▸ hb), List.map_append]
    rfl
theorem firsts_map {α β : Type} [DecidableEq α] [DecidableEq β] {f : α → β} (h : ∀ a b, f a = f b → a = b) (l : List α) : firsts (l.map f) = (firsts l).map f := by
  unfold firsts
  have : ∀ (l acc : List α), (l.map f).foldl adds (acc.map f) = (l.foldl adds acc).map f := fun l => by
    induction l with
    | nil => intro _; rfl
    | cons a l ih =>
      intro acc
      rw [List.map_cons, List.foldl_cons, List.foldl_cons, adds_map h, ih]
  exact this l []
theorem good_chg (T : List (List V3)) : good (chg T) n = good T n := by
  unfold good chg
  rw [firsts_map (fun a b e => map_inj_ (fun x y e => by rw [← swp_swp x, e, swp_swp]) e), List.length_map]
theorem told1_ok (t : Tb n m T) {hs : List Hd} (hm : ∀ h ∈ hs, h.1 < m) (hl : hs.length ≤ 100) : D_key_told [tabD T, heardD hs] = match left T n hs with
    | [] => .err ⟨7, .non⟩
    | [k] => .ok (nD k)
    | _ => .err ⟨6, .non⟩ := by
  have n5 := t.n5
  let r0 : LE := [.val (tabD T), .val (heardD hs), .un]
  let r1 : LE := [.val (tabD T), .val (heardD hs), .val (wD (left T n hs))]
  have h1 : setK 2 (valK (callE D_keys_left (acons (var 0) (acons (var 1) anil)))) r0 = .ok (.nx r1) := (setK_val (callE2_ok (x := tabD T) (y := heardD hs) rfl rfl (left_ok t hm hl))).trans rfl
  have h2 : cmpT eqD (var 2) (tupE anil) r1 = .ok (decide (left T n hs = [])) := cmpT_ok (x := wD (left T n hs)) (y := .tup []) rfl rfl (eqD_nil _)
  have h3 : callE lenX (acons (var 2) anil) r1 = .ok (nD (left T n hs).length) := (len_t (xs := (left T n hs).map nD) rfl).trans (by rw [List.length_map])
  have h4 : cmpT gtD (callE lenX (acons (var 2) anil)) (cst (.int 1)) r1 = .ok (decide ((left T n hs).length > 1)) := cmpT_ok h3 cst_1 (gtD_nat _ _)
  generalize e : left T n hs = L at *
  match L with
  | [] =>
    refine runF_ex (r := r1) rfl ?_
    show F_key_told r0 = _
    unfold F_key_told
    exact seqS_go h1 (seqS_ex (ifS_yes h2 rfl))
  | [k] =>
    refine runF_rt rfl ?_
    show F_key_told r0 = _
    unfold F_key_told
    exact seqS_go h1 (seqS_go (ifS_no h2 rfl) (seqS_go (ifS_no h4 rfl) (retS_ok (subE_k (x := wD [k]) (y := nD 0) (f := var 2) (k := cst (.int 0)) (show R.ok (wD (left T n hs)) = _ by rw [e]) rfl (subI_tup rfl)))))
  | a :: b :: l =>
    refine runF_ex (r := r1) rfl ?_
    show F_key_told r0 = _
    unfold F_key_told
    refine seqS_go h1 (seqS_go (ifS_no h2 rfl) (seqS_ex (ifS_yes (h4.trans (by rw [decide_eq_true (by simp)])) ?_)))
    unfold errES
    rw [h3]
    rfl
theorem guess_ok (t : Tb n m T) {hs : List Hd} (hm : ∀ h ∈ hs, h.1 < m) (hl : hs.length ≤ 100) {c : Nat} (hc : c < m) (hne : left T n hs ≠ []) : ∃ M, D_guess_chance [tabD T, heardD hs, nD c] = .ok (.tup [nD M, nD (left T n hs).length]) ∧ (∃ v, M = (prt T (left T n hs) c v).length) ∧ ∀ v, (prt T (left T n hs) c v).length ≤ M := by
  have n5 := t.n5
  have hlt : ∀ k ∈ left T n hs, k < n := fun k hk => List.mem_range.mp (List.mem_filter.mp hk).1
  have hll : (left T n hs).length ≤ n := by
    have := List.length_filter_le (fits T hs) (List.range n)
    rwa [List.length_range] at this
  generalize eL : left T n hs = L at hlt hll hne
  have hrne : reps T L c ≠ [] := fun z => by
    match L, hne with
    | a :: l, _ =>
      have : cell T a c ∈ reps T (a :: l) c := reps_mem.mpr ⟨a, List.mem_cons_self, rfl⟩
      rw [z] at this
      cases this
  obtain ⟨M, h1, h2, h3⟩ := maxL_nD (l := (reps T L c).map fun v => (prt T L c v).length) (by simpa using hrne)
  refine ⟨M, ?_, ?_, fun v => ?_⟩
  · let r0 : LE := [.val (tabD T), .val (heardD hs), .val (nD c), .un, .un]
    let r1 : LE := [.val (tabD T), .val (heardD hs), .val (nD c), .val (wD L), .un]
    refine runF_rt rfl ?_
    show F_guess_chance r0 = _
    unfold F_guess_chance
    refine seqS_go (r' := r1) ((setK_val (callE2_ok (x := tabD T) (y := heardD hs) rfl rfl (left_ok t hm hl))).trans (by rw [eL]; rfl)) (seqS_go (r' := r1) (ifS_no ((cmpT_ok (x := wD L) (y := .tup []) rfl rfl (eqD_nil _)).trans (by rw [decide_eq_false hne])) rfl) (retS_ok (tupE_ok (acons_ok (callE1_ok (lE_ok (compF_mapM (e := ptD T L c) (h := fun v => nD (prt T L c v).length) (l := reps T L c) ((itV_d (callE3_ok (x := tabD T) (y := wD L) (w := nD c) rfl rfl rfl (parts_ok t hlt (by omega) hc fun r h => IsK.it (.inr rfl) h))).trans ?_) (by have := reps_le (T := T) L c; omega) fun v hv => ⟨[.val (tabD T), .val (heardD hs), .val (nD c), .val (wD L), .val (ptD T L c v)], rfl, (len_t (xs := (prt T L c v).map nD) rfl).trans (by rw [List.length_map])⟩)) ?_) (acons_ok ((len_t (xs := L.map nD) rfl).trans (by rw [List.length_map])) (xs := []) rfl)) (by simp))))
    · unfold dcQ
      rw [List.map_map]
      rfl
    · rw [← h1, List.map_map]
      rfl
  · obtain ⟨v, _, e⟩ := List.mem_map.mp h2
    exact ⟨v, e.symm⟩
  · by_cases hv : v ∈ reps T L c
    · exact h3 _ (List.mem_map.mpr ⟨v, hv, rfl⟩)
    · have : prt T L c v = [] := List.filter_eq_nil_iff.mpr fun k hk z => hv (reps_mem.mpr ⟨k, hk, of_decide_eq_true z⟩)
      rw [this]
      exact Nat.zero_le _
theorem guess_no (t : Tb n m T) {hs : List Hd} (hm : ∀ h ∈ hs, h.1 < m) (hl : hs.length ≤ 100) {c : Nat} (hne : left T n hs = []) : D_guess_chance [tabD T, heardD hs, nD c] = .err ⟨7, .non⟩ := by
  let r0 : LE := [.val (tabD T), .val (heardD hs), .val (nD c), .un, .un]
  let r1 : LE := [.val (tabD T), .val (heardD hs), .val (nD c), .val (wD []), .un]
  refine runF_ex (r := r1) rfl ?_
  show F_guess_chance r0 = _
  unfold F_guess_chance
  exact seqS_go (r' := r1) ((setK_val (callE2_ok (x := tabD T) (y := heardD hs) rfl rfl (left_ok t hm hl))).trans (by rw [hne]; rfl)) (seqS_ex (ifS_yes ((cmpT_ok (x := wD []) (y := .tup []) rfl rfl (eqD_nil _)).trans (by rw [decide_eq_true rfl])) rfl))
theorem day_ok {k s d n : Nat} (hn : 1 ≤ n) (hs : s < 1000) : D_day_key [nD k, nD s, nD d, nD n] = .ok (nD ((k + s * d) % n)) := by
  let r0 : LE := [.val (nD k), .val (nD s), .val (nD d), .val (nD n)]
  refine runF_rt rfl ?_
  show F_day_key r0 = _
  unfold F_day_key
  refine seqS_go (r' := r0) (ifS_no (orT_ff ((cmpT_ok (x := nD n) (y := nD 1) rfl rfl (ltD_nat _ _)).trans (by rw [decide_eq_false (by omega)])) ((cmpT_ok (x := nD d) (y := nD 0) rfl rfl (ltD_nat _ _)).trans (by rw [decide_eq_false (by omega)]))) rfl) (retS_ok (opE_k (opE_k (x := nD k) rfl (opE_k (x := nD s) (y := nD d) rfl rfl (mul_nat _ _ (by omega))) (addD_nat _ _)) (y := nD n) rfl (mod_nat _ _ (by omega))))
def dua (s n : Nat) : Nat := minN (((List.range n).map fun i => 1 + i).filter fun d => decide (d * s % n = 0))
theorem until_all : ((List.range 7).all fun s => (List.range 5).all fun n => isNt (D_days_until_again [nD s, nD (n + 1)]) (dua s (n + 1))) = true := by kernel_rfl
theorem until_ok {s n : Nat} (hs : s < 7) (hn : 1 ≤ n) (h5 : n ≤ 5) : D_days_until_again [nD s, nD n] = .ok (nD (dua s n)) := by
  have := isNt_eq (all_rng (all_rng until_all hs) (k := n - 1) (by omega))
  rwa [show n - 1 + 1 = n by omega] at this
theorem refuse3 : D_day_key [nD 0, nD 1, nD 1, nD 0] = .err ⟨3, .non⟩ ∧ D_days_until_again [nD 1, nD 0] = .err ⟨3, .non⟩ ∧ D_are_unlike [.lst []] = .err ⟨3, .non⟩ := ⟨by kernel_rfl, by kernel_rfl, by kernel_rfl⟩
abbrev H3 := Nat × Nat × List Nat
def h3D (h : H3) : D := .tup [nD h.1, nD h.2.1, .str h.2.2]
abbrev heard3 (hs : List H3) : D := .lst (hs.map h3D)
def fits3 (T : List (List V3)) (n s : Nat) (hs : List H3) (k : Nat) : Bool := hs.all fun h => decide (rcp (cell T ((k + s * h.1) % n) h.2.1) = h.2.2)
def left3 (T : List (List V3)) (n s : Nat) (hs : List H3) : List Nat := (List.range n).filter (fits3 T n s hs)
def spread (n s : Nat) (L : List Nat) (d : Nat) : Bool := decide ((firsts (L.map fun k => (k + s * d) % n)).length > 1)
theorem nD_keq (a b : Nat) : (nD a).keq (nD b) = decide (a = b) := by
  have := keq_key (a := nD a) (b := nD b) (x := (nD a).keyOf) (y := (nD b).keyOf) rfl rfl
  rw [this, Bool.eq_iff_iff, decide_eq_true_eq, decide_eq_true_eq]
  constructor
  · intro h
    injection h with h
    exact Int.ofNat.inj h
  · intro h
    rw [h]
theorem lenNs {f : LE → R D} {r : LE} {L : List Nat} (hf : f r = .ok (.lst (L.map fun a => .tup [nD a, nD 1]))) : lenDictE f r = .ok (nD (firsts L).length) := by
  unfold lenDictE
  rw [hf, R.ok_bind]
  unfold lenDD
  dsimp only
  rw [pairsD_dc (e := nD) (x := fun _ => nD 1) (fun _ => rfl) L]
  dsimp only
  rw [mergeD_dc nD_keq]
  unfold dcQ
  rw [List.length_map]
theorem notIn_ns (l : List Nat) (a : Nat) : notInD (nD a) (.lst (l.map nD)) = .ok (.bl (!decide (a ∈ l))) := by
  show ((if ((nD a).sh 62 && D.shs (l.map nD) 62) = true then R.ok ((l.map nD).any fun z => z.eqb (nD a)) else .stuck) >>= fun b => R.ok (D.bl (!b))) = _
  rw [if_pos (by rw [Bool.and_eq_true]; exact ⟨nD_sh a 62, nDs_sh l 62⟩), R.ok_bind]
  congr 3
  rw [List.any_map, Bool.eq_iff_iff, List.any_eq_true, decide_eq_true_eq]
  constructor
  · rintro ⟨b, hb, h⟩
    have h : ((b : Int) == (a : Int)) = true := h
    rw [beq_iff_eq] at h
    rw [show a = b by omega]
    exact hb
  · intro h
    exact ⟨a, h, by show ((a : Int) == (a : Int)) = true; exact beq_self_eq_true _⟩
abbrev SF (T : List (List V3)) (hs : List H3) (k s dy : Nat) (c5 c6 c7 c8 c9 c10 c11 : Cell) : LE := [.val (tabD T), .val (heard3 hs), .val (nD k), .val (nD s), .val (nD dy), c5, c6, c7, c8, c9, c10, c11]
theorem not_any3 {l : List H3} {p : H3 → Bool} : (if l.any (fun a => p a == false) = true then false else !false) = l.all p := by
  by_cases h : l.any (fun a => p a == false) = true
  · rw [if_pos h]
    obtain ⟨a, ha, hp⟩ := List.any_eq_true.mp h
    symm
    rw [Bool.eq_false_iff]
    intro z
    have := List.all_eq_true.mp z a ha
    rw [this] at hp
    cases hp
  · rw [if_neg h]
    symm
    show _ = true
    rw [List.all_eq_true]
    intro a ha
    cases hp : p a with
    | true => rfl
    | false => exact absurd (List.any_eq_true.mpr ⟨a, ha, by rw [hp]; rfl⟩) h
theorem safe_left (t : Tb n m T) {hs : List H3} {k s dy : Nat} (hs9 : s < 1000) (hm : ∀ h ∈ hs, h.2.1 < m) {c6 c7 c8 c9 c10 c11 : Cell} : compF (rng1E (acons (var 5) anil)) (gN 7) (valT (anyE false (itB (var 1)) (gTup_ 3 (gCons_ (gN 8) (gCons_ (gN 9) (gCons_ (gN 10) gNil_)))) yesT (opE eqD (callE D_reply_of (acons (var 0) (acons (callE D_day_key (acons (var 7) (acons (var 3) (acons (var 8) (acons (var 5) anil))))) (acons (var 9) anil)))) (var 10)) [8, 9, 10])) (var 7) [7] (SF T hs k s dy (.val (nD n)) c6 c7 c8 c9 c10 c11) = .ok ((left3 T n s hs).map nD) := by
  have n1 := t.n1
  have n5 := t.n5
  refine compF_fmM (e := nD) (h := nD) (p := fits3 T n s hs) (l := List.range n) (rng1E_ok (n := n) rfl (by omega)) (by rw [List.length_range]; omega) fun k' hk' => ⟨SF T hs k s dy (.val (nD n)) c6 (.val (nD k')) c8 c9 c10 c11, rfl, valT_ok ?_, fun _ => rfl⟩
  refine (anyE_valM (x := false) (e := h3D) (p := fun h => decide (rcp (cell T ((k' + s * h.1) % n) h.2.1) = h.2.2)) (l := hs) (itB_l (xs := hs.map h3D) rfl) fun h hh => ⟨SF T hs k s dy (.val (nD n)) c6 (.val (nD k')) (.val (nD h.1)) (.val (nD h.2.1)) (.val (.str h.2.2)) c11, rfl, opE_k (callE3_ok (x := tabD T) (y := nD ((k' + s * h.1) % n)) (w := nD h.2.1) rfl (callE4_ok (x := nD k') (y := nD s) (w := nD h.1) (v := nD n) rfl rfl rfl rfl (day_ok n1 hs9)) rfl (reply_ok t (Nat.mod_lt _ n1) (hm h hh))) (y := .str h.2.2) rfl (eq_str _ _)⟩).trans ?_
  rw [not_any3]
  rfl
theorem safe_ok (t : Tb n m T) {hs : List H3} {k s dy : Nat} (hs9 : s < 1000) (hd : dy ≤ 60) (hm : ∀ h ∈ hs, h.2.1 < m) (hk : k % n ∈ left3 T n s hs) : D_safe_days [tabD T, heard3 hs, nD k, nD s, nD dy] = .ok (.tup (((List.range dy).filter (spread n s (left3 T n s hs))).map nD)) := by
  have n1 := t.n1
  have n5 := t.n5
  let L := left3 T n s hs
  have hL : L.length ≤ n := by
    have := List.length_filter_le (fits3 T n s hs) (List.range n)
    rwa [List.length_range] at this
  let r0 : LE := SF T hs k s dy .un .un .un .un .un .un .un
  let r1 : LE := SF T hs k s dy (.val (nD n)) .un .un .un .un .un .un
  let r2 : LE := SF T hs k s dy (.val (nD n)) (.own (.lst (L.map nD))) .un .un .un .un .un
  let r3 : LE := SF T hs k s dy (.val (nD n)) (.own (.lst (L.map nD))) .un .un .un .un (.own (.lst []))
  obtain ⟨r4, h4, c8, rfl⟩ := loopS_pre (gd := gN 8) (body := (ifS (cmpT gtD (lenDictE (lE (compF (itA (varP 6)) (gN 7) yesT (tupE (acons (callE D_day_key (acons (var 7) (acons (var 3) (acons (var 8) (acons (var 5) anil))))) (acons (cst (.int 1)) anil))) [7]))) (cst (.int 1)))
    (appS 11 (var 8))
    skipS)) (e := nD) (l0 := List.range dy) (fun done r => ∃ c8, r = SF T hs k s dy (.val (nD n)) (.own (.lst (L.map nD))) .un c8 .un .un (.own (.lst ((done.filter (spread n s L)).map nD)))) (l := List.range dy) (done := []) (r := r3) rfl ⟨_, rfl⟩ (by
    rintro d done rest r hdn ⟨c8, rfl⟩
    have hdl : done.length ≤ dy := by
      have := congrArg List.length hdn
      rw [List.length_append, List.length_range] at this
      omega
    have hfl : (done.filter (spread n s L)).length ≤ done.length := List.length_filter_le ..
    let rA : LE := SF T hs k s dy (.val (nD n)) (.own (.lst (L.map nD))) .un (.val (nD d)) .un .un (.own (.lst ((done.filter (spread n s L)).map nD)))
    have hc : cmpT gtD (lenDictE (lE (compF (itA (varP 6)) (gN 7) yesT (tupE (acons (callE D_day_key (acons (var 7) (acons (var 3) (acons (var 8) (acons (var 5) anil))))) (acons (cst (.int 1)) anil))) [7]))) (cst (.int 1)) rA = .ok (spread n s L d) := by
      refine cmpT_ok (lenNs (L := L.map fun k => (k + s * d) % n) (lE_ok ?_)) cst_1 (gtD_nat _ _)
      refine (compF_mapM (e := nD) (h := fun k' => .tup [nD ((k' + s * d) % n), nD 1]) (l := L) (itA_l (xs := L.map nD) rfl) (by omega) fun k' hk' => ⟨SF T hs k s dy (.val (nD n)) (.own (.lst (L.map nD))) (.val (nD k')) (.val (nD d)) .un .un (.own (.lst ((done.filter (spread n s L)).map nD))), rfl, tupE_ok (acons_ok (callE4_ok (x := nD k') (y := nD s) (w := nD d) (v := nD n) rfl rfl rfl rfl (day_ok n1 hs9)) (acons_ok cst_1 (xs := []) rfl)) (by simp)⟩).trans ?_
      rw [List.map_map]
      rfl
    refine ⟨rA, SF T hs k s dy (.val (nD n)) (.own (.lst (L.map nD))) .un (.val (nD d)) .un .un (.own (.lst (((done ++ [d]).filter (spread n s L)).map nD))), rfl, ?_, _, rfl⟩
    rw [List.filter_append]
    cases q : spread n s L d with
    | true =>
      rw [List.filter_cons_of_pos q, List.filter_nil, List.map_append]
      exact ifS_yes (hc.trans (by rw [q])) ((appS_own (ds := (done.filter (spread n s L)).map nD) (d := nD d) rfl rfl (by rw [List.length_map]; omega)).trans rfl)
    | false =>
      rw [List.filter_cons_of_neg (by simp [q]), List.filter_nil, List.append_nil]
      exact ifS_no (hc.trans (by rw [q])) rfl)
  rw [List.nil_append] at h4
  refine runF_rt rfl ?_
  show F_safe_days r0 = _
  unfold F_safe_days
  refine seqS_go (r' := r0) (ifS_no ((cmpT_ok (x := nD dy) (y := nD 60) rfl rfl (gtD_nat _ _)).trans (by rw [decide_eq_false (by omega)])) rfl) (seqS_go (r' := r0) (drop_check t rfl) (seqS_go (r' := r1) ((setK_val (len_tab t rfl)).trans rfl) (seqS_go (r' := r2) ((setK_own (safe_left t hs9 hm)).trans rfl) (seqS_go (r' := r2) (ifS_no ((cmpT_ok (opE_k (x := nD k) (y := nD n) rfl rfl (mod_nat _ _ (by omega))) (y := .lst (L.map nD)) rfl (notIn_ns _ _)).trans (by rw [decide_eq_true hk]; rfl)) rfl) (seqS_go (r' := r3) ((setK_own (d := []) (lstE_ok rfl (by simp))).trans rfl) (seqS_go (forS_ok (rng1E_ok (n := dy) rfl (by omega)) h4) (retS_ok (callE1_ok (x := .lst (((List.range dy).filter (spread n s L)).map nD)) rfl rfl))))))))
theorem safe_book (t : Tb n m T) {hs : List H3} {k s dy : Nat} (hs9 : s < 1000) (hd : dy ≤ 60) (hm : ∀ h ∈ hs, h.2.1 < m) (hk : k % n ∉ left3 T n s hs) : D_safe_days [tabD T, heard3 hs, nD k, nD s, nD dy] = .err ⟨3, .non⟩ := by
  have n1 := t.n1
  let L := left3 T n s hs
  let r0 : LE := SF T hs k s dy .un .un .un .un .un .un .un
  let r1 : LE := SF T hs k s dy (.val (nD n)) .un .un .un .un .un .un
  let r2 : LE := SF T hs k s dy (.val (nD n)) (.own (.lst (L.map nD))) .un .un .un .un .un
  refine runF_ex (r := r2) rfl ?_
  show F_safe_days r0 = _
  unfold F_safe_days
  exact seqS_go (r' := r0) (ifS_no ((cmpT_ok (x := nD dy) (y := nD 60) rfl rfl (gtD_nat _ _)).trans (by rw [decide_eq_false (by omega)])) rfl) (seqS_go (r' := r0) (drop_check t rfl) (seqS_go (r' := r1) ((setK_val (len_tab t rfl)).trans rfl) (seqS_go (r' := r2) ((setK_own (safe_left t hs9 hm)).trans rfl) (seqS_ex (ifS_yes ((cmpT_ok (opE_k (x := nD k) (y := nD n) rfl rfl (mod_nat _ _ (by omega))) (y := .lst (L.map nD)) rfl (notIn_ns _ _)).trans (by rw [decide_eq_false hk]; rfl)) rfl)))))
theorem safe_large {hs : List H3} {k s dy : Nat} (hd : 60 < dy) : D_safe_days [tabD T, heard3 hs, nD k, nD s, nD dy] = .err ⟨8, .non⟩ := by
  let r0 : LE := SF T hs k s dy .un .un .un .un .un .un .un
  refine runF_ex (r := r0) rfl ?_
  show F_safe_days r0 = _
  unfold F_safe_days
  exact seqS_ex (ifS_yes ((cmpT_ok (x := nD dy) (y := nD 60) rfl rfl (gtD_nat _ _)).trans (by rw [decide_eq_true (by omega)])) rfl)
end K20
set_option Elab.async false
set_option linter.all false
set_option maxRecDepth 100000
namespace K20
open DL PySem L2 PySem.Spec PyProof.Rows
def LW1 : LE → R Out := (asgS (tupE (acons (opE addD (cst (.int 1)) (callE rollD (acons (var 1) (acons (cst (.int 5)) anil)))) (acons (opE addD (cst (.int 1)) (callE rollD (acons (var 1) (acons (cst (.int 3)) anil)))) anil))) (gTup_ 2 (gCons_ (gN 2) (gCons_ (gN 3) gNil_))))
def LW2 : LE → R Out := (setK 4 (valK (lE (compF (rng1E (acons (var 2) anil)) (gN 6) yesT (lE (compF (rng1E (acons (var 3) anil)) (gN 5) yesT (subE (cst (.str [97, 98, 99])) (callE rollD (acons (var 1) (acons (cst (.int 3)) anil)))) [5])) [6]))))
def LW3 : LE → R Out := (asgS (tupE (acons (callE rollD (acons (var 1) (acons (var 2) anil))) (acons (callE rollD (acons (var 1) (acons (cst (.int 3)) anil))) anil))) (gTup_ 2 (gCons_ (gN 7) (gCons_ (gN 8) gNil_))))
def LW4 : LE → R Out := (setK 9 (valK (sliceE (lE (compF (rng1E (acons (var 3) anil)) (gN 5) yesT (tupE (acons (var 5) (acons (subE (subE (var 4) (var 7)) (var 5)) anil))) [5])) noP (someP (var 8)))))
def LW5 : LE → R Out := (setK 10 (ownK (compF (rng1E (acons (var 2) anil)) (gN 11) (cmpT eqZ (lE (compF (itB (var 9)) (gTup_ 2 (gCons_ (gN 12) (gCons_ (gN 13) gNil_))) (cmpT neD (subE (subE (var 4) (var 11)) (var 12)) (var 13)) (cst (.int 1)) [12, 13])) (lE (lstE anil))) (var 11) [11])))
def LW6 : LE → R Out := (ifS (orT (cmpT neD (lE (callF listK (acons (callE D_keys_left (acons (var 4) (acons (var 9) anil))) anil))) (varP 10)) (cmpT notInD (var 7) (varP 10)))
    (retS (cst (.bl false)))
    skipS)
def LW7 : LE → R Out := (ifS (cmpT neD (toldE toldL (callE D_key_told (acons (var 4) (acons (var 9) anil)))) (iteE (cmpT eqD (callE lenX (acons (varP 10) anil)) (cst (.int 1))) (subE (varP 10) (cst (.int 0))) (cst (.str [117, 110, 99, 108, 101, 97, 114]))))
    (retS (cst (.bl false)))
    skipS)
def LW8 : LE → R Out := (setK 12 (valK (callE rollD (acons (var 1) (acons (var 3) anil)))))
def LW9 : LE → R Out := (setK 14 (valK (lE (compF (itB (var 4)) (gN 15) yesT (subE (var 15) (var 12)) [15]))))
def LW10 : LE → R Out := (ifS (cmpT neX (callE D_parts_by (acons (var 4) (acons (lE (lrg1E (var 2))) (acons (var 12) anil)))) (callE dictD (acons (lE (compF (itS (cst (.str [97, 98, 99]))) (gN 13) (cmpT inD (var 13) (var 14)) (tupE (acons (var 13) (acons (callE tupleD (acons (lE (compF (rng1E (acons (var 2) anil)) (gN 11) (cmpT eqD (subE (var 14) (var 11)) (var 13)) (var 11) [11])) anil)) anil))) [13])) anil)))
    (retS (cst (.bl false)))
    skipS)
def LW11 : LE → R Out := (setK 16 (valK (opE eqD (lenDictE (lE (compF (itB (var 4)) (gN 15) yesT (tupE (acons (callE tupleD (acons (var 15) anil)) (acons (cst (.int 1)) anil))) [15]))) (var 2))))
def LW12 : LE → R Out := (ifS (orT (cmpT neD (callE D_are_unlike (acons (var 4) anil)) (var 16)) (cmpT neD (callE D_reply_of (acons (var 4) (acons (var 7) (acons (var 12) anil)))) (subE (var 14) (var 7))))
    (retS (cst (.bl false)))
    skipS)
def LW13 : LE → R Out := (setK 17 (valK (toldE toldL (callE (D_fewest_questions 8) (acons (var 4) (acons (lE (lrg1E (var 2))) anil))))))
def LW14 : LE → R Out := (ifS (cmpT neD (opE eqD (var 17) (cst (.str [110, 111, 32, 119, 97, 121]))) (notV (var 16)))
    (retS (cst (.bl false)))
    skipS)
def LW15 : LE → R Out := (ifS (andT (valT (var 16)) (orT (notT (valT (callE (D_law_depth 8) (acons (var 4) (acons (lE (lrg1E (var 2))) (acons (var 17) anil)))))) (andT (cmpT gtD (var 17) (cst (.int 0))) (valT (callE (D_law_depth 8) (acons (var 4) (acons (lE (lrg1E (var 2))) (acons (opE subD (var 17) (cst (.int 1))) anil))))))))
    (retS (cst (.bl false)))
    skipS)
def LW16 : LE → R Out := (setK 18 (valK (opE addD (opE addD (lE (lstE (acons (tupE anil) anil))) (lE (compF (rng1E (acons (var 3) anil)) (gN 5) yesT (tupE (acons (var 5) anil)) [5]))) (callE D_law_flat (acons (lE (compF (rng1E (acons (var 3) anil)) (gN 6) yesT (lE (compF (rng2E (acons (opE addD (var 6) (cst (.int 1))) (acons (var 3) anil))) (gN 5) yesT (tupE (acons (var 6) (acons (var 5) anil))) [5])) [6])) anil)))))
def LW17 : LE → R Out := (setK 18 (valK (opE addD (var 18) (iteE (cmpT eqD (var 3) (cst (.int 3))) (lE (lstE (acons (tupE (acons (cst (.int 0)) (acons (cst (.int 1)) (acons (cst (.int 2)) anil)))) anil))) (lE (lstE anil))))))
def LW18 : LE → R Out := (setK 19 (ownK (compF (itB (var 18)) (gN 15) (cmpT eqD (lenDictE (lE (compF (itB (var 4)) (gN 20) yesT (tupE (acons (callE tupleD (acons (lE (compF (itB (var 15)) (gN 5) yesT (subE (var 20) (var 5)) [5])) anil)) (acons (cst (.int 1)) anil))) [20]))) (var 2)) (var 15) [15])))
def LW19 : LE → R Out := (ifS (cmpT neD (toldE toldL (callE D_fixed_questions (acons (var 4) anil))) (iteE (cmpT neZ (varP 19) (lE (lstE anil))) (subE (varP 19) (cst (.int 0))) (cst (.str [110, 111, 32, 119, 97, 121]))))
    (retS (cst (.bl false)))
    skipS)
def LW20 : LE → R Out := (ifS (andT (valT (var 16)) (cmpT gtD (var 17) (callE lenX (acons (subE (varP 19) (cst (.int 0))) anil))))
    (retS (cst (.bl false)))
    skipS)
def LW21 : LE → R Out := (setK 21 (valK (lE (compF (itA (varP 10)) (gN 11) yesT (subE (var 14) (var 11)) [11]))))
def LW22 : LE → R Out := (ifS (cmpT neD (callE D_guess_chance (acons (var 4) (acons (var 9) (acons (var 12) anil)))) (tupE (acons (callE maxL (acons (lE (compF (itS (cst (.str [97, 98, 99]))) (gN 13) yesT (bmE "list" countLs (var 21) (acons (var 13) anil)) [13])) anil)) (acons (callE lenX (acons (varP 10) anil)) anil))))
    (retS (cst (.bl false)))
    skipS)
def LW23 : LE → R Out := (ifS (notT (valT (callE D_law_rest1 (acons (var 1) (acons (var 2) (acons (var 4) (acons (var 7) (acons (var 12) (acons (var 16) anil)))))))))
    (retS (cst (.bl false)))
    skipS)
def LWs23 : LE → R Out := LW23
def LWs22 : LE → R Out := seqS LW22 LWs23
def LWs21 : LE → R Out := seqS LW21 LWs22
def LWs20 : LE → R Out := seqS LW20 LWs21
def LWs19 : LE → R Out := seqS LW19 LWs20
def LWs18 : LE → R Out := seqS LW18 LWs19
def LWs17 : LE → R Out := seqS LW17 LWs18
def LWs16 : LE → R Out := seqS LW16 LWs17
def LWs15 : LE → R Out := seqS LW15 LWs16
def LWs14 : LE → R Out := seqS LW14 LWs15
def LWs13 : LE → R Out := seqS LW13 LWs14
def LWs12 : LE → R Out := seqS LW12 LWs13
def LWs11 : LE → R Out := seqS LW11 LWs12
def LWs10 : LE → R Out := seqS LW10 LWs11
def LWs9 : LE → R Out := seqS LW9 LWs10
def LWs8 : LE → R Out := seqS LW8 LWs9
def LWs7 : LE → R Out := seqS LW7 LWs8
def LWs6 : LE → R Out := seqS LW6 LWs7
def LWs5 : LE → R Out := seqS LW5 LWs6
def LWs4 : LE → R Out := seqS LW4 LWs5
def LWs3 : LE → R Out := seqS LW3 LWs4
def LWs2 : LE → R Out := seqS LW2 LWs3
def LWs1 : LE → R Out := seqS LW1 LWs2
theorem F_law_split : F_law = LWs1 := rfl
def LR1 : LE → R Out := (asgS (tupE (acons (callE rollD (acons (var 0) (acons (cst (.int 7)) anil))) (acons (callE rollD (acons (var 0) (acons (cst (.int 20)) anil))) anil))) (gTup_ 2 (gCons_ (gN 6) (gCons_ (gN 7) gNil_))))
def LR2 : LE → R Out := (ifS (cmpT neD (callE D_day_key (acons (var 3) (acons (var 6) (acons (var 7) (acons (var 1) anil))))) (opE modD (opE addD (var 3) (opE mulD (var 6) (var 7))) (var 1)))
    (retS (cst (.bl false)))
    skipS)
def LR3 : LE → R Out := (ifS (cmpT neD (callE D_days_until_again (acons (var 6) (acons (var 1) anil))) (callE minL (acons (lE (compF (rng2E (acons (cst (.int 1)) (acons (opE addD (var 1) (cst (.int 1))) anil))) (gN 8) (cmpT eqD (opE modD (opE mulD (var 8) (var 6)) (var 1)) (cst (.int 0))) (var 8) [8])) anil)))
    (retS (cst (.bl false)))
    skipS)
def LR4 : LE → R Out := (setK 9 (valK (lE (compF (rng1E (acons (callE rollD (acons (var 0) (acons (cst (.int 3)) anil))) anil)) (gN 8) yesT (tupE (acons (var 8) (acons (var 4) (acons (subE (subE (var 2) (opE modD (opE addD (var 3) (opE mulD (var 6) (var 8))) (var 1))) (var 4)) anil)))) [8]))))
def LR5 : LE → R Out := (setK 10 (valK (lE (compF (rng1E (acons (var 1) anil)) (gN 11) (cmpT eqZ (lE (compF (itB (var 9)) (gTup_ 3 (gCons_ (gN 8) (gCons_ (gN 12) (gCons_ (gN 13) gNil_)))) (cmpT neD (subE (subE (var 2) (opE modD (opE addD (var 11) (opE mulD (var 6) (var 8))) (var 1))) (var 12)) (var 13)) (cst (.int 1)) [8, 12, 13])) (lE (lstE anil))) (var 11) [11]))))
def LR6 : LE → R Out := (setK 14 (ownK (compF (rng1E (acons (cst (.int 4)) anil)) (gN 8) (cmpT gtD (lenDictE (lE (compF (itB (var 10)) (gN 11) yesT (tupE (acons (opE modD (opE addD (var 11) (opE mulD (var 6) (var 8))) (var 1)) (acons (cst (.int 1)) anil))) [11]))) (cst (.int 1))) (var 8) [8])))
def LR7 : LE → R Out := (ifS (cmpT neD (lE (callF listK (acons (callE D_safe_days (acons (var 2) (acons (var 9) (acons (var 3) (acons (var 6) (acons (cst (.int 4)) anil)))))) anil))) (varP 14))
    (retS (cst (.bl false)))
    skipS)
def LR8 : LE → R Out := (ifS (cmpT neD (callE D_turned_table (acons (callE D_turned_table (acons (var 2) anil)) anil)) (callE tupleD (acons (lE (compF (itB (var 2)) (gN 15) yesT (callE tupleD (acons (var 15) anil)) [15])) anil)))
    (retS (cst (.bl false)))
    skipS)
def LR9 : LE → R Out := (setK 16 (valK (callE D_changed_replies (acons (var 2) (acons (dispE [((cst (.str [97])), (cst (.str [98]))), ((cst (.str [98])), (cst (.str [97])))]) anil)))))
def LR10 : LE → R Out := (ifS (orT (cmpT neD (lE (compF (itB (callE D_changed_replies (acons (var 16) (acons (dispE [((cst (.str [97])), (cst (.str [98]))), ((cst (.str [98])), (cst (.str [97])))]) anil)))) (gN 15) yesT (lE (callF listK (acons (var 15) anil))) [15])) (var 2)) (cmpT neD (callE D_are_unlike (acons (var 16) anil)) (var 5)))
    (retS (cst (.bl false)))
    skipS)
def LR11 : LE → R Out := (ifS (cmpT neD (toldE toldL (callE D_reply_of (acons (var 2) (acons (var 1) (acons (cst (.int 0)) anil))))) (cst (.str [98, 111, 111, 107])))
    (retS (cst (.bl false)))
    skipS)
def LR12 : LE → R Out := (ifS (cmpT neD (toldE toldL (callE D_are_unlike (acons (lE (lstE anil)) anil))) (cst (.str [98, 111, 111, 107])))
    (retS (cst (.bl false)))
    skipS)
def LR13 : LE → R Out := (ifS (cmpT neD (toldE toldL (callE D_key_told (acons (var 2) (acons (lE (lstE (acons (tupE (acons (cst (.int 0)) (acons (cst (.str [122])) anil))) anil))) anil)))) (cst (.str [110, 111, 32, 119, 97, 121])))
    (retS (cst (.bl false)))
    skipS)
def LR14 : LE → R Out := (ifS (cmpT neD (toldE toldL (callE D_day_key (acons (cst (.int 0)) (acons (cst (.int 1)) (acons (cst (.int 1)) (acons (cst (.int 0)) anil)))))) (cst (.str [98, 111, 111, 107])))
    (retS (cst (.bl false)))
    skipS)
def LR15 : LE → R Out := (ifS (cmpT neD (toldE toldL (callE D_safe_days (acons (var 2) (acons (lE (lstE anil)) (acons (cst (.int 0)) (acons (cst (.int 1)) (acons (cst (.int 61)) anil))))))) (cst (.str [108, 97, 114, 103, 101])))
    (retS (cst (.bl false)))
    skipS)
def LR16 : LE → R Out := (ifS (cmpT neD (toldE toldL (callE D_days_until_again (acons (cst (.int 1)) (acons (cst (.int 0)) anil)))) (cst (.str [98, 111, 111, 107])))
    (retS (cst (.bl false)))
    skipS)
def LR17 : LE → R Out := (ifS (cmpT neD (toldE toldL (callE D_safe_days (acons (var 2) (acons (lE (lstE (acons (tupE (acons (cst (.int 0)) (acons (cst (.int 0)) (acons (cst (.str [122])) anil)))) anil))) (acons (cst (.int 0)) (acons (cst (.int 1)) (acons (cst (.int 1)) anil))))))) (cst (.str [98, 111, 111, 107])))
    (retS (cst (.bl false)))
    skipS)
def LR18 : LE → R Out := (ifS (cmpT neD (toldE toldL (callE D_guess_chance (acons (var 2) (acons (lE (lstE (acons (tupE (acons (cst (.int 0)) (acons (cst (.str [122])) anil))) anil))) (acons (cst (.int 0)) anil))))) (cst (.str [110, 111, 32, 119, 97, 121])))
    (retS (cst (.bl false)))
    skipS)
def LR19 : LE → R Out := (retS (cst (.bl true)))
def LRs19 : LE → R Out := LR19
def LRs18 : LE → R Out := seqS LR18 LRs19
def LRs17 : LE → R Out := seqS LR17 LRs18
def LRs16 : LE → R Out := seqS LR16 LRs17
def LRs15 : LE → R Out := seqS LR15 LRs16
def LRs14 : LE → R Out := seqS LR14 LRs15
def LRs13 : LE → R Out := seqS LR13 LRs14
def LRs12 : LE → R Out := seqS LR12 LRs13
def LRs11 : LE → R Out := seqS LR11 LRs12
def LRs10 : LE → R Out := seqS LR10 LRs11
def LRs9 : LE → R Out := seqS LR9 LRs10
def LRs8 : LE → R Out := seqS LR8 LRs9
def LRs7 : LE → R Out := seqS LR7 LRs8
def LRs6 : LE → R Out := seqS LR6 LRs7
def LRs5 : LE → R Out := seqS LR5 LRs6
def LRs4 : LE → R Out := seqS LR4 LRs5
def LRs3 : LE → R Out := seqS LR3 LRs4
def LRs2 : LE → R Out := seqS LR2 LRs3
def LRs1 : LE → R Out := seqS LR1 LRs2
theorem F_law_rest1_split : F_law_rest1 = LRs1 := rfl
end K20
set_option Elab.async false
set_option linter.all false
set_option maxRecDepth 100000
namespace K20
open DL PySem L2 PySem.Spec PyProof.Rows
variable {n m : Nat} {T : List (List V3)}
theorem same_no {f g : LE → R D} {F : LE → R Out} {r : LE} {x : D} (h1 : f r = .ok x) (h2 : g r = .ok x) (hs : x.sh 64 = true) : ifS (cmpT neD f g) F skipS r = .ok (.nx r) := ifS_no (cmpT_ok h1 h2 (neD_self hs)) rfl
theorem not_empty {α : Type} {β : Type} {l : List α} {q : α → Bool} {f : α → β} : ((l.filter fun a => !q a).map f).isEmpty = l.all q := by
  rw [Bool.eq_iff_iff, List.isEmpty_iff, List.map_eq_nil_iff, List.filter_eq_nil_iff, List.all_eq_true]
  constructor
  · intro h a ha
    simpa using h a ha
  · intro h a ha
    simpa using h a ha
theorem rng2E_k {fs : LE → R (List D)} {r : LE} {xs zs : List D} (h : fs r = .ok xs) (h2 : rng2 xs = .ok zs) : rng2E fs r = .ok zs := by
  rw [rng2E_eq, h]
  exact h2
theorem rps_sh (r : List V3) (k : Nat) : D.shs (r.map rp) k = true := shs_map fun a _ => rp_sh a k
theorem rowQ_sh (b : Bool) (r : List V3) (k : Nat) : (rowQ b r).sh (k + 1) = true := by
  cases b
  · exact rps_sh r k
  · exact rps_sh r k
theorem tabQ_sh (b : Bool) (T : List (List V3)) (k : Nat) : (tabQ b T).sh (k + 2) = true := by
  have : D.shs (T.map (rowQ b)) (k + 1) = true := shs_map fun a _ => rowQ_sh b a k
  cases b
  · exact this
  · exact this
theorem listK_t (xs : List D) : listK [.tup xs] = .ok xs := rfl
abbrev RS (n : Nat) (T : List (List V3)) (key col : Nat) (c6 c7 c8 c9 c10 c11 c12 c13 c14 c15 c16 : Cell) : LE := [.val .dice, .val (nD n), .val (tabD T), .val (nD key), .val (nD col), .val (.bl (good T n)), c6, c7, c8, c9, c10, c11, c12, c13, c14, c15, c16]
theorem lr1 {key col : Nat} : Wr (LR1 (RS n T key col .un .un .un .un .un .un .un .un .un .un .un)) (fun o => ∃ r2, o = .nx r2 ∧ ∃ s d, s < 7 ∧ d < 20 ∧ r2 = RS n T key col (.val (nD s)) (.val (nD d)) .un .un .un .un .un .un .un .un .un) := by
  refine asgS_wr (tup2_wr (rollS (n := 7) rfl rfl (by decide) (by decide)) (rollS (n := 20) rfl rfl (by decide) (by decide))) ?_
  rintro d ⟨x, y, rfl, ⟨s, hs, rfl⟩, ⟨e, he, rfl⟩⟩
  exact ⟨_, rfl, s, e, hs, he, rfl⟩
/-- what was heard on some days -/
def hs3 (T : List (List V3)) (n key s col j : Nat) : List H3 := (List.range j).map fun d => (d, col, rcp (cell T ((key + s * d) % n) col))
theorem hs3_fit (key s col j : Nat) : fits3 T n s (hs3 T n key s col j) key = true := by
  unfold fits3 hs3
  rw [List.all_eq_true]
  intro h hh
  obtain ⟨d, _, rfl⟩ := List.mem_map.mp hh
  exact decide_eq_true rfl
theorem hs3_col {key s col j : Nat} (hc : col < m) : ∀ h ∈ hs3 T n key s col j, h.2.1 < m := fun h hh => by
  obtain ⟨d, _, rfl⟩ := List.mem_map.mp hh
  exact hc
theorem key_in {key s col j : Nat} (hk : key < n) : key % n ∈ left3 T n s (hs3 T n key s col j) := by
  rw [Nat.mod_eq_of_lt hk]
  exact List.mem_filter.mpr ⟨List.mem_range.mpr hk, hs3_fit key s col j⟩
theorem mod_ok {f g h k : LE → R D} {r : LE} {a s d n : Nat} (hn : 1 ≤ n) (hs : s < 1000) (h1 : f r = .ok (nD a)) (h2 : g r = .ok (nD s)) (h3 : h r = .ok (nD d)) (h4 : k r = .ok (nD n)) : opE modD (opE addD f (opE mulD g h)) k r = .ok (nD ((a + s * d) % n)) :=
  opE_k (opE_k h1 (opE_k h2 h3 (mul_nat _ _ (by omega))) (addD_nat _ _)) h4 (mod_nat _ _ (by omega))
section
variable (t : Tb n m T) {key col s d : Nat} (hk : key < n) (hc : col < m) (hs : s < 7)
include t hk hc hs
theorem lr2 {c8 c9 c10 c11 c12 c13 c14 c15 c16 : Cell} : LR2 (RS n T key col (.val (nD s)) (.val (nD d)) c8 c9 c10 c11 c12 c13 c14 c15 c16) = .ok (.nx (RS n T key col (.val (nD s)) (.val (nD d)) c8 c9 c10 c11 c12 c13 c14 c15 c16)) :=
  same_no (x := nD ((key + s * d) % n)) (callE4_ok (x := nD key) (y := nD s) (w := nD d) (v := nD n) rfl rfl rfl rfl (day_ok t.n1 (by omega))) (mod_ok t.n1 (by omega) rfl rfl rfl rfl) (nD_sh _ _)
theorem lr3 {c8 c9 c10 c11 c12 c13 c14 c15 c16 : Cell} : LR3 (RS n T key col (.val (nD s)) (.val (nD d)) c8 c9 c10 c11 c12 c13 c14 c15 c16) = .ok (.nx (RS n T key col (.val (nD s)) (.val (nD d)) c8 c9 c10 c11 c12 c13 c14 c15 c16)) := by
  have n1 := t.n1
  have n5 := t.n5
  refine same_no (x := nD (dua s n)) (callE2_ok (x := nD s) (y := nD n) rfl rfl (until_ok hs n1 n5)) (callE1_ok (lE_ok (compF_fmM (e := nD) (h := nD) (p := fun d => decide (d * s % n = 0)) (l := (List.range n).map fun i => 1 + i) ?_ (by simp; omega) fun e he => ⟨RS n T key col (.val (nD s)) (.val (nD d)) (.val (nD e)) c9 c10 c11 c12 c13 c14 c15 c16, rfl, ?_, fun _ => rfl⟩)) (minL_N ?_)) (nD_sh _ _)
  · refine rng2E_k (acons_ok cst_1 (acons_ok (opE_k (x := nD n) rfl cst_1 (addD_nat n 1)) (xs := []) rfl)) ((rng2_int ((n + 1 : Nat) : Int) (by omega) (by omega) 1 (by decide)).trans ?_)
    rw [List.map_map, show (((n + 1 : Nat) : Int) - (1 : Nat)).toNat = n by omega]
    rfl
  · obtain ⟨i, hi, rfl⟩ := List.mem_map.mp he
    have hi := List.mem_range.mp hi
    exact cmpT_ok (opE_k (opE_k (x := nD (1 + i)) (y := nD s) rfl rfl (mul_nat _ _ (by omega))) (y := nD n) rfl (mod_nat _ _ (by omega))) (y := nD 0) rfl (eqD_nat _ _)
  · intro z
    have := List.filter_eq_nil_iff.mp z n (List.mem_map.mpr ⟨n - 1, List.mem_range.mpr (by omega), by omega⟩)
    rw [decide_eq_true_eq] at this
    exact this (Nat.mul_mod_right n s)
theorem lr4 {c8 c9 c10 c11 c12 c13 c14 c15 c16 : Cell} : Wr (LR4 (RS n T key col (.val (nD s)) (.val (nD d)) c8 c9 c10 c11 c12 c13 c14 c15 c16)) (fun o => ∃ r2, o = .nx r2 ∧ ∃ j, j < 3 ∧ r2 = RS n T key col (.val (nD s)) (.val (nD d)) c8 (.val (heard3 (hs3 T n key s col j))) c10 c11 c12 c13 c14 c15 c16) := by
  have n1 := t.n1
  refine (setK_wr (Q := fun x => ∃ j, j < 3 ∧ x = heard3 (hs3 T n key s col j)) ((lE_wr (Q := fun ys => ∃ j, j < 3 ∧ ys = (hs3 T n key s col j).map h3D) ?_).mono ?_)).mono ?_
  · unfold compF
    refine Wr.bindS ((rng1_roll (n := 3) rfl rfl (by decide) (by decide)).mono ?_)
    rintro ds ⟨j, hj, rfl⟩
    show Wr (compF (fun _ => R.ok ((List.range j).map nD)) (gN 8) yesT (tupE (acons (var 8) (acons (var 4) (acons (subE (subE (var 2) (opE modD (opE addD (var 3) (opE mulD (var 6) (var 8))) (var 1))) (var 4)) anil)))) [8] _) _
    rw [compF_mapM (fi := fun _ => R.ok ((List.range j).map nD)) (e := nD) (h := fun d => h3D (d, col, rcp (cell T ((key + s * d) % n) col))) (l := List.range j) rfl (by rw [List.length_range]; omega) fun e he => ⟨RS n T key col (.val (nD s)) (.val (nD d)) (.val (nD e)) c9 c10 c11 c12 c13 c14 c15 c16, rfl, tupE_ok (acons_ok (x := nD e) rfl (acons_ok (x := nD col) rfl (acons_ok (x := rp (cell T ((key + s * e) % n) col)) (sub_cell t (Nat.mod_lt _ n1) hc (sub_row t (Nat.mod_lt _ n1) rfl (mod_ok n1 (by omega) rfl rfl rfl rfl)) rfl) (xs := []) rfl))) (by simp)⟩]
    refine Wr.ok ⟨j, hj, ?_⟩
    unfold hs3
    rw [List.map_map]
    rfl
  · rintro x ⟨ys, rfl, j, hj, rfl⟩
    exact ⟨j, hj, rfl⟩
  · rintro o ⟨r2, rfl, x, ⟨j, hj, rfl⟩, rfl⟩
    exact ⟨_, rfl, j, hj, rfl⟩
theorem lr5 {hs' : List H3} (hl : hs'.length ≤ 100) (hm : ∀ h ∈ hs', h.2.1 < m) {c8 c10 c11 c12 c13 c14 c15 c16 : Cell} : LR5 (RS n T key col (.val (nD s)) (.val (nD d)) c8 (.val (heard3 hs')) c10 c11 c12 c13 c14 c15 c16) = .ok (.nx (RS n T key col (.val (nD s)) (.val (nD d)) c8 (.val (heard3 hs')) (.val (.lst ((left3 T n s hs').map nD))) c11 c12 c13 c14 c15 c16)) := by
  have n1 := t.n1
  have n5 := t.n5
  refine (setK_val (lE_ok (compF_fmM (e := nD) (h := nD) (p := fits3 T n s hs') (l := List.range n) (rng1E_ok (n := n) rfl (by omega)) (by rw [List.length_range]; omega) fun k _ => ⟨RS n T key col (.val (nD s)) (.val (nD d)) c8 (.val (heard3 hs')) c10 (.val (nD k)) c12 c13 c14 c15 c16, rfl, ?_, fun _ => rfl⟩))).trans rfl
  refine (cmpT_ok (lE_ok (compF_fmM (e := h3D) (h := fun _ => nD 1) (p := fun h => !decide (rcp (cell T ((k + s * h.1) % n) h.2.1) = h.2.2)) (l := hs') (itB_l (xs := hs'.map h3D) rfl) (by omega) fun h hh => ⟨RS n T key col (.val (nD s)) (.val (nD d)) (.val (nD h.1)) (.val (heard3 hs')) c10 (.val (nD k)) (.val (nD h.2.1)) (.val (.str h.2.2)) c14 c15 c16, rfl, cmpT_ok (sub_cell t (Nat.mod_lt _ n1) (hm h hh) (sub_row t (Nat.mod_lt _ n1) rfl (mod_ok n1 (by omega) rfl rfl rfl rfl)) rfl) (y := .str h.2.2) rfl ?_, fun _ => rfl⟩)) (lE_ok (lstE_ok (xs := []) rfl (by simp))) (eqZ_nil _)).trans ?_
  · unfold neD
    rw [if_pos (by rw [Bool.or_eq_true]; exact .inl rfl)]
    show R.ok (D.bl (!(rcp _ == h.2.2))) = _
    congr 3
    rw [Bool.eq_iff_iff, beq_iff_eq, decide_eq_true_eq]
  · rw [not_empty]
    rfl
theorem lr6 {L : List Nat} (hl : L.length ≤ 100) {c8 c9 c11 c12 c13 c14 c15 c16 : Cell} : LR6 (RS n T key col (.val (nD s)) (.val (nD d)) c8 c9 (.val (.lst (L.map nD))) c11 c12 c13 c14 c15 c16) = .ok (.nx (RS n T key col (.val (nD s)) (.val (nD d)) c8 c9 (.val (.lst (L.map nD))) c11 c12 c13 (.own (.lst (((List.range 4).filter (spread n s L)).map nD))) c15 c16)) := by
  have n1 := t.n1
  refine (setK_own (compF_fmM (e := nD) (h := nD) (p := spread n s L) (l := List.range 4) (rng1E_ok (n := 4) rfl (by omega)) (by rw [List.length_range]; omega) fun e _ => ⟨RS n T key col (.val (nD s)) (.val (nD d)) (.val (nD e)) c9 (.val (.lst (L.map nD))) c11 c12 c13 c14 c15 c16, rfl, ?_, fun _ => rfl⟩)).trans rfl
  refine cmpT_ok (lenNs (L := L.map fun k => (k + s * e) % n) (lE_ok ?_)) cst_1 (gtD_nat _ _)
  refine (compF_mapM (e := nD) (h := fun k' => .tup [nD ((k' + s * e) % n), nD 1]) (l := L) (itB_l (xs := L.map nD) rfl) (by omega) fun k' hk' => ⟨RS n T key col (.val (nD s)) (.val (nD d)) (.val (nD e)) c9 (.val (.lst (L.map nD))) (.val (nD k')) c12 c13 c14 c15 c16, rfl, tupE_ok (acons_ok (mod_ok n1 (by omega) rfl rfl rfl rfl) (acons_ok cst_1 (xs := []) rfl)) (by simp)⟩).trans ?_
  rw [List.map_map]
  rfl
theorem lr7 {j : Nat} {c8 c10 c11 c12 c13 c15 c16 : Cell} : LR7 (RS n T key col (.val (nD s)) (.val (nD d)) c8 (.val (heard3 (hs3 T n key s col j))) c10 c11 c12 c13 (.own (.lst (((List.range 4).filter (spread n s (left3 T n s (hs3 T n key s col j)))).map nD))) c15 c16) = .ok (.nx (RS n T key col (.val (nD s)) (.val (nD d)) c8 (.val (heard3 (hs3 T n key s col j))) c10 c11 c12 c13 (.own (.lst (((List.range 4).filter (spread n s (left3 T n s (hs3 T n key s col j)))).map nD))) c15 c16)) := by
  refine same_no (x := .lst (((List.range 4).filter (spread n s (left3 T n s (hs3 T n key s col j)))).map nD)) (lE_ok (callF1_k (callE_ok (acons_ok (x := tabD T) rfl (acons_ok (x := heard3 (hs3 T n key s col j)) rfl (acons_ok (x := nD key) rfl (acons_ok (x := nD s) rfl (acons_ok (x := nD 4) rfl (xs := []) rfl))))) (safe_ok t (by omega) (by decide) (hs3_col hc) (key_in hk))) (listK_t _))) (varP_o rfl) ?_
  exact nDs_sh _ 63
theorem lr8 {c6 c7 c8 c9 c10 c11 c12 c13 c14 c15 c16 : Cell} : LR8 (RS n T key col c6 c7 c8 c9 c10 c11 c12 c13 c14 c15 c16) = .ok (.nx (RS n T key col c6 c7 c8 c9 c10 c11 c12 c13 c14 c15 c16)) := by
  have n5 := t.n5
  refine same_no (x := tabQ true T) (callE1_ok (callE1_ok (x := tabQ false T) rfl (turned_okQ t.w false)) ((turned_okQ (turn_w t.w) true).trans (by rw [turn_turn t.w]))) (callE1_ok (lE_ok (compF_mapM (e := rowD) (h := rowQ true) (l := T) (itB_l (xs := T.map rowD) rfl) (by rw [t.len]; omega) fun row _ => ⟨RS n T key col c6 c7 c8 c9 c10 c11 c12 c13 c14 (.val (rowD row)) c16, rfl, callE1_ok (x := rowD row) rfl (tupleD_lst _)⟩)) (tupleD_lst _)) (tabQ_sh true T 62)
theorem lr9 {c6 c7 c8 c9 c10 c11 c12 c13 c14 c15 c16 : Cell} : LR9 (RS n T key col c6 c7 c8 c9 c10 c11 c12 c13 c14 c15 c16) = .ok (.nx (RS n T key col c6 c7 c8 c9 c10 c11 c12 c13 c14 c15 (.val (tabQ true (chg T))))) :=
  (setK_val (callE2_ok (x := tabQ false T) (y := swD) rfl rfl (changed_okQ t.w false))).trans rfl
theorem lr10 {c6 c7 c8 c9 c10 c11 c12 c13 c14 c15 : Cell} : LR10 (RS n T key col c6 c7 c8 c9 c10 c11 c12 c13 c14 c15 (.val (tabQ true (chg T)))) = .ok (.nx (RS n T key col c6 c7 c8 c9 c10 c11 c12 c13 c14 c15 (.val (tabQ true (chg T))))) := by
  have n5 := t.n5
  refine ifS_no (orT_ff (cmpT_ok (x := tabD T) (y := tabD T) (lE_ok ((compF_mapM (e := rowQ true) (h := rowD) (l := T) (q_it (b := true) (xs := T.map (rowQ true)) ((callE2_ok (x := tabQ true (chg T)) (y := swD) rfl rfl (changed_okQ (chg_w t.w) true)).trans (by rw [chg_chg]))) (by rw [t.len]; omega) fun row _ => ⟨RS n T key col c6 c7 c8 c9 c10 c11 c12 c13 c14 (.val (rowQ true row)) (.val (tabQ true (chg T))), rfl, lE_ok (callF1_k (x := rowQ true row) rfl (listK_t _))⟩))) rfl (neD_self (tabD_sh T 62))) (cmpT_ok (callE1_ok (x := tabQ true (chg T)) rfl ((unlike_okQ (chg_w t.w) true).trans (by rw [good_chg]))) (y := .bl (good T n)) rfl (neD_self rfl))) rfl
end
end K20
set_option Elab.async false
set_option linter.all false
set_option maxRecDepth 100000
namespace K20
open DL PySem L2 PySem.Spec PyProof.Rows
variable {n m : Nat} {T : List (List V3)}
def zS : List Nat := [122]
theorem z_ne (v : V3) : rcp v ≠ zS := three (P := fun v => rcp v ≠ zS) (by decide) (by decide) (by decide) v
theorem left_z (T : List (List V3)) (n : Nat) : left T n [(0, zS)] = [] := by
  unfold left
  rw [List.filter_eq_nil_iff]
  intro k _ h
  unfold fits at h
  rw [List.all_cons, Bool.and_eq_true, decide_eq_true_eq] at h
  exact z_ne _ h.1
theorem left3_z (T : List (List V3)) (n s : Nat) : left3 T n s [(0, 0, zS)] = [] := by
  unfold left3
  rw [List.filter_eq_nil_iff]
  intro k _ h
  unfold fits3 at h
  rw [List.all_cons, Bool.and_eq_true, decide_eq_true_eq] at h
  exact z_ne _ h.1
theorem told_no_ {f : LE → R D} {r : LE} {e : Exc} {s : List Nat} {F : LE → R Out} (h : f r = .err e) (h2 : toldL.lookup e.cls = some s) (hs : (D.str s).sh 64 = true := by unfold D.sh; decide) : ifS (cmpT neD (toldE toldL f) (cst (.str s))) F skipS r = .ok (.nx r) := same_no (x := .str s) (told_er h h2) rfl hs
section
variable (t : Tb n m T) {key col : Nat} {c6 c7 c8 c9 c10 c11 c12 c13 c14 c15 c16 : Cell}
include t
theorem lr11 : LR11 (RS n T key col c6 c7 c8 c9 c10 c11 c12 c13 c14 c15 c16) = .ok (.nx (RS n T key col c6 c7 c8 c9 c10 c11 c12 c13 c14 c15 c16)) := told_no_ (callE_err (acons_ok (x := tabD T) rfl (acons_ok (x := nD n) rfl (acons_ok (x := nD 0) rfl (xs := []) rfl))) (reply_out t (Nat.le_refl n) 0)) rfl
theorem lr12 : LR12 (RS n T key col c6 c7 c8 c9 c10 c11 c12 c13 c14 c15 c16) = .ok (.nx (RS n T key col c6 c7 c8 c9 c10 c11 c12 c13 c14 c15 c16)) := told_no_ (callE_err (acons_ok (x := .lst []) (lE_ok (lstE_ok (xs := []) rfl (by simp))) (xs := []) rfl) refuse3.2.2) rfl
theorem lr13 : LR13 (RS n T key col c6 c7 c8 c9 c10 c11 c12 c13 c14 c15 c16) = .ok (.nx (RS n T key col c6 c7 c8 c9 c10 c11 c12 c13 c14 c15 c16)) := by
  have m1 := t.m1
  refine told_no_ (e := ⟨7, .non⟩) (callE_err (acons_ok (x := tabD T) rfl (acons_ok (x := heardD [(0, zS)]) (lE_ok (lstE_ok (acons_ok (tupE_ok (acons_ok (x := nD 0) rfl (acons_ok (x := .str zS) rfl (xs := []) rfl)) (by simp)) (xs := []) rfl) (by simp))) (xs := []) rfl)) ((told1_ok t (fun h hh => ?_) (by simp)).trans ?_)) rfl
  · obtain rfl := List.mem_singleton.mp hh
    exact m1
  · rw [left_z]
theorem lr14 : LR14 (RS n T key col c6 c7 c8 c9 c10 c11 c12 c13 c14 c15 c16) = .ok (.nx (RS n T key col c6 c7 c8 c9 c10 c11 c12 c13 c14 c15 c16)) := told_no_ (callE_err (acons_ok (x := nD 0) rfl (acons_ok (x := nD 1) rfl (acons_ok (x := nD 1) rfl (acons_ok (x := nD 0) rfl (xs := []) rfl)))) refuse3.1) rfl
theorem lr15 : LR15 (RS n T key col c6 c7 c8 c9 c10 c11 c12 c13 c14 c15 c16) = .ok (.nx (RS n T key col c6 c7 c8 c9 c10 c11 c12 c13 c14 c15 c16)) := told_no_ (callE_err (acons_ok (x := tabD T) rfl (acons_ok (x := heard3 []) (lE_ok (lstE_ok (xs := []) rfl (by simp))) (acons_ok (x := nD 0) rfl (acons_ok (x := nD 1) rfl (acons_ok (x := nD 61) rfl (xs := []) rfl))))) (safe_large (by decide))) rfl
theorem lr16 : LR16 (RS n T key col c6 c7 c8 c9 c10 c11 c12 c13 c14 c15 c16) = .ok (.nx (RS n T key col c6 c7 c8 c9 c10 c11 c12 c13 c14 c15 c16)) := told_no_ (callE_err (acons_ok (x := nD 1) rfl (acons_ok (x := nD 0) rfl (xs := []) rfl)) refuse3.2.1) rfl
theorem lr17 : LR17 (RS n T key col c6 c7 c8 c9 c10 c11 c12 c13 c14 c15 c16) = .ok (.nx (RS n T key col c6 c7 c8 c9 c10 c11 c12 c13 c14 c15 c16)) := by
  have m1 := t.m1
  refine told_no_ (callE_err (acons_ok (x := tabD T) rfl (acons_ok (x := heard3 [(0, 0, zS)]) (lE_ok (lstE_ok (acons_ok (tupE_ok (acons_ok (x := nD 0) rfl (acons_ok (x := nD 0) rfl (acons_ok (x := .str zS) rfl (xs := []) rfl))) (by simp)) (xs := []) rfl) (by simp))) (acons_ok (x := nD 0) rfl (acons_ok (x := nD 1) rfl (acons_ok (x := nD 1) rfl (xs := []) rfl))))) (safe_book t (by decide) (by decide) (fun h hh => ?_) ?_)) rfl
  · obtain rfl := List.mem_singleton.mp hh
    exact m1
  · rw [left3_z]
    exact List.not_mem_nil
theorem lr18 : LR18 (RS n T key col c6 c7 c8 c9 c10 c11 c12 c13 c14 c15 c16) = .ok (.nx (RS n T key col c6 c7 c8 c9 c10 c11 c12 c13 c14 c15 c16)) := by
  have m1 := t.m1
  refine told_no_ (callE_err (acons_ok (x := tabD T) rfl (acons_ok (x := heardD [(0, zS)]) (lE_ok (lstE_ok (acons_ok (tupE_ok (acons_ok (x := nD 0) rfl (acons_ok (x := .str zS) rfl (xs := []) rfl)) (by simp)) (xs := []) rfl) (by simp))) (acons_ok (x := nD 0) rfl (xs := []) rfl))) (guess_no t (fun h hh => ?_) (by simp) (left_z T n))) rfl
  obtain rfl := List.mem_singleton.mp hh
  exact m1
end
theorem rest1_ok (t : Tb n m T) {key col : Nat} (hk : key < n) (hc : col < m) : Wr (D_law_rest1 [.dice, nD n, tabD T, nD key, nD col, .bl (good T n)]) (fun d => d = .bl true) := by
  refine runF_wr (n := 6) (m := 17) (F := F_law_rest1) rfl ?_
  show Wr (F_law_rest1 (RS n T key col .un .un .un .un .un .un .un .un .un .un .un)) _
  rw [F_law_rest1_split]
  refine seqS_wr (F := LR1) (K := LRs2) lr1 ?_
  rintro r ⟨s, d, hs, hd, rfl⟩
  refine seqS_okW (F := LR2) (K := LRs3) (lr2 t hk hc hs) (seqS_okW (F := LR3) (K := LRs4) (lr3 t hk hc hs) ?_)
  refine seqS_wr (F := LR4) (K := LRs5) (lr4 t hk hc hs) ?_
  rintro r ⟨j, hj, rfl⟩
  have hl : (hs3 T n key s col j).length = j := by unfold hs3; rw [List.length_map, List.length_range]
  have hL : (left3 T n s (hs3 T n key s col j)).length ≤ n := by
    have := List.length_filter_le (fits3 T n s (hs3 T n key s col j)) (List.range n)
    rwa [List.length_range] at this
  have n5 := t.n5
  refine seqS_okW (F := LR5) (K := LRs6) (lr5 t hk hc hs (by omega) (hs3_col hc)) (seqS_okW (F := LR6) (K := LRs7) (lr6 t hk hc hs (by omega)) (seqS_okW (F := LR7) (K := LRs8) (lr7 t hk hc hs) (seqS_okW (F := LR8) (K := LRs9) (lr8 t hk hc hs) (seqS_okW (F := LR9) (K := LRs10) (lr9 t hk hc hs) (seqS_okW (F := LR10) (K := LRs11) (lr10 t hk hc hs) ?_)))))
  refine seqS_okW (F := LR11) (K := LRs12) (lr11 t) (seqS_okW (F := LR12) (K := LRs13) (lr12 t) (seqS_okW (F := LR13) (K := LRs14) (lr13 t) (seqS_okW (F := LR14) (K := LRs15) (lr14 t) (seqS_okW (F := LR15) (K := LRs16) (lr15 t) (seqS_okW (F := LR16) (K := LRs17) (lr16 t) (seqS_okW (F := LR17) (K := LRs18) (lr17 t) (seqS_okW (F := LR18) (K := LRs19) (lr18 t) ?_)))))))
  show Wr (LR19 _) _
  unfold LR19
  rw [retS_ok cst_k]
  exact Wr.ok ⟨_, rfl, rfl⟩
end K20
set_option Elab.async false
set_option linter.all false
set_option maxRecDepth 100000
namespace K20
open DL PySem L2 PySem.Spec PyProof.Rows
variable {n m : Nat} {T : List (List V3)}
theorem neX_self {kvs : List (D × D)} (h : dicOk kvs = true) (h2 : dicEq kvs kvs = true) : neX (.dic kvs) (.dic kvs) = .ok (.bl false) := by
  show (if (dicOk kvs && dicOk kvs) = true then R.ok (D.bl (!dicEq kvs kvs)) else .stuck) = _
  rw [h, h2]
  rfl
abbrev WS (n m : Nat) (T : List (List V3)) (key h : Nat) (c9 c10 c12 c14 c16 c17 c18 c19 c21 : Cell) : LE := [.un, .val .dice, .val (nD n), .val (nD m), .val (tabD T), .un, .un, .val (nD key), .val (nD h), c9, c10, .un, c12, .un, c14, .un, c16, c17, c18, c19, .un, c21]
abbrev W1 (n m : Nat) (c4 : Cell) : LE := [.un, .val .dice, .val (nD n), .val (nD m), c4, .un, .un, .un, .un, .un, .un, .un, .un, .un, .un, .un, .un, .un, .un, .un, .un, .un]
theorem lw1 : Wr (LW1 (r0 22)) (fun o => ∃ r2, o = .nx r2 ∧ ∃ n m, 1 ≤ n ∧ n ≤ 5 ∧ 1 ≤ m ∧ m ≤ 3 ∧ r2 = W1 n m .un) := by
  refine asgS_wr (tup2_wr (roll1S (n := 5) rfl (by decide) (by decide)) (roll1S (n := 3) rfl (by decide) (by decide))) ?_
  rintro d ⟨x, y, rfl, ⟨n, h1, h2, rfl⟩, ⟨m, h3, h4, rfl⟩⟩
  exact ⟨_, rfl, n, m, h1, h2, h3, h4, rfl⟩
theorem reply_any {f k : LE → R D} {r : LE} (h1 : f r = .ok (.str [97, 98, 99])) (h2 : Wr (k r) (fun d => ∃ i, i < 3 ∧ d = .int (i : Nat))) : Wr (subE f k r) (fun d => ∃ v : V3, True ∧ d = rp v) := by
  refine subS_wr h1 h2 ?_
  rintro y ⟨i, hi, rfl⟩
  have : ∀ v : V3, subI (.str [97, 98, 99]) (.int (v.val : Nat)) = .ok (rp v) := fun v => three (P := fun v => subI (.str [97, 98, 99]) (.int (v.val : Nat)) = .ok (rp v)) rfl rfl rfl v
  rw [this ⟨i, hi⟩]
  exact Wr.ok ⟨⟨i, hi⟩, trivial, rfl⟩
theorem cell_any {r : LE} (h : r[1]? = some (.val .dice)) : Wr (subE (cst (.str [97, 98, 99])) (callE rollD (acons (var 1) (acons (cst (.int 3)) anil))) r) (fun d => ∃ v : V3, True ∧ d = rp v) := reply_any rfl (rollS (n := 3) (var_k h) rfl (by decide) (by decide))
abbrev W2 (n m : Nat) (c5 c6 : Cell) : LE := [.un, .val .dice, .val (nD n), .val (nD m), .un, c5, c6, .un, .un, .un, .un, .un, .un, .un, .un, .un, .un, .un, .un, .un, .un, .un]
theorem row_any (m3 : m ≤ 3) (c6 : Cell) : Wr (lE (compF (rng1E (acons (var 3) anil)) (gN 5) yesT (subE (cst (.str [97, 98, 99])) (callE rollD (acons (var 1) (acons (cst (.int 3)) anil)))) [5]) (W2 n m .un c6)) (fun y => ∃ r : List V3, r.length = m ∧ y = rowD r) := by
  have hf : Wr (rng1E (acons (var 3) anil) (W2 n m .un c6)) (fun ds => ds.length = m ∧ ds.length ≤ 1000) := by
    rw [rng1E_ok (n := m) (r := W2 n m .un c6) rfl (by omega)]
    exact Wr.ok ⟨by simp, by simp; omega⟩
  refine (lE_wr (compF_wrS (P := fun y => ∃ v : V3, True ∧ y = rp v) (N := fun k => k = m) hf fun e => ⟨W2 n m (.val e) c6, rfl, cell_any rfl⟩)).mono ?_
  rintro y ⟨ys, rfl, hl, hy⟩
  obtain ⟨r, _, rfl⟩ := map_of_all hy
  exact ⟨r, by rwa [List.length_map] at hl, rfl⟩
theorem lw2 (n1 : 1 ≤ n) (n5 : n ≤ 5) (m1 : 1 ≤ m) (m3 : m ≤ 3) : Wr (LW2 (W1 n m .un)) (fun o => ∃ r2, o = .nx r2 ∧ ∃ T, Tb n m T ∧ r2 = W1 n m (.val (tabD T))) := by
  have hf : Wr (rng1E (acons (var 2) anil) (W1 n m .un)) (fun ds => ds.length = n ∧ ds.length ≤ 1000) := by
    rw [rng1E_ok (n := n) (r := W1 n m .un) rfl (by omega)]
    exact Wr.ok ⟨by simp, by simp; omega⟩
  refine (setK_wr (Q := fun x => ∃ T, Tb n m T ∧ x = tabD T) ((lE_wr (compF_wrS (P := fun y => ∃ r : List V3, r.length = m ∧ y = rowD r) (N := fun k => k = n) hf fun d => ⟨W2 n m .un (.val d), rfl, row_any m3 _⟩)).mono ?_)).mono ?_
  · rintro x ⟨ys, rfl, hl, hy⟩
    obtain ⟨T, hT, rfl⟩ := map_of_all hy
    rw [List.length_map] at hl
    exact ⟨T, ⟨n1, n5, m1, m3, hl, hT⟩, rfl⟩
  · rintro o ⟨r2, rfl, x, ⟨T, t, rfl⟩, rfl⟩
    exact ⟨_, rfl, T, t, rfl⟩
theorem lw3 (t : Tb n m T) : Wr (LW3 (W1 n m (.val (tabD T)))) (fun o => ∃ r2, o = .nx r2 ∧ ∃ key h, key < n ∧ h < 3 ∧ r2 = WS n m T key h .un .un .un .un .un .un .un .un .un) := by
  have n5 := t.n5
  refine asgS_wr (tup2_wr (rollS (n := n) rfl rfl t.n1 (by omega)) (rollS (n := 3) rfl rfl (by decide) (by decide))) ?_
  rintro d ⟨x, y, rfl, ⟨key, hk, rfl⟩, ⟨h, hh, rfl⟩⟩
  exact ⟨_, rfl, key, h, hk, hh, rfl⟩
/-- what was heard -/
def hrd (T : List (List V3)) (m key h : Nat) : List Hd := ((List.range m).map fun c => (c, rcp (cell T key c))).take h
theorem hrd_m {key h : Nat} : ∀ x ∈ hrd T m key h, x.1 < m := fun x hx => by
  obtain ⟨c, hc, rfl⟩ := List.mem_map.mp (List.mem_of_mem_take hx)
  exact List.mem_range.mp hc
theorem hrd_len (t : Tb n m T) {key h : Nat} : (hrd T m key h).length ≤ 100 := by
  have m3 := t.m3
  unfold hrd
  rw [List.length_take, List.length_map, List.length_range]
  omega
theorem hrd_fit {key h : Nat} : fits T (hrd T m key h) key = true := by
  unfold fits
  rw [List.all_eq_true]
  intro x hx
  obtain ⟨c, hc, rfl⟩ := List.mem_map.mp (List.mem_of_mem_take hx)
  exact decide_eq_true rfl
theorem here_key {key h : Nat} (hk : key < n) : key ∈ left T n (hrd T m key h) := List.mem_filter.mpr ⟨List.mem_range.mpr hk, hrd_fit⟩
abbrev hre (T : List (List V3)) (n m key h : Nat) : List Nat := left T n (hrd T m key h)
section
variable (t : Tb n m T) {key h : Nat} (hk : key < n)
include t hk
theorem lw4 {c9 c10 c12 c14 c16 c17 c18 c19 c21 : Cell} : LW4 (WS n m T key h c9 c10 c12 c14 c16 c17 c18 c19 c21) = .ok (.nx (WS n m T key h (.val (heardD (hrd T m key h))) c10 c12 c14 c16 c17 c18 c19 c21)) := by
  have m3 := t.m3
  refine (setK_val (d := heardD (hrd T m key h)) ((sliceE_to (n := h) (lE_ok (compF_mapM (e := nD) (h := fun c => hD (c, rcp (cell T key c))) (l := List.range m) (rng1E_ok (n := m) rfl (by omega)) (by rw [List.length_range]; omega) fun c hc => ⟨_, rfl, tupE_ok (acons_ok (x := nD c) rfl (acons_ok (sub_cell t hk (List.mem_range.mp hc) (sub_row t hk rfl rfl) rfl) (xs := []) rfl)) (by simp)⟩)) rfl).trans ?_)).trans rfl
  show R.ok (D.lst _) = R.ok (D.lst ((hrd T m key h).map hD))
  unfold hrd
  rw [List.map_take, List.map_map]
  rfl
theorem lw5 {c10 c12 c14 c16 c17 c18 c19 c21 : Cell} : LW5 (WS n m T key h (.val (heardD (hrd T m key h))) c10 c12 c14 c16 c17 c18 c19 c21) = .ok (.nx (WS n m T key h (.val (heardD (hrd T m key h))) (.own (.lst ((hre T n m key h).map nD))) c12 c14 c16 c17 c18 c19 c21)) := by
  have n5 := t.n5
  refine (setK_own (compF_fmM (e := nD) (h := nD) (p := fits T (hrd T m key h)) (l := List.range n) (rng1E_ok (n := n) rfl (by omega)) (by rw [List.length_range]; omega) fun k hk' => ⟨_, rfl, ?_, fun _ => rfl⟩)).trans rfl
  have hk' := List.mem_range.mp hk'
  refine (cmpT_ok (lE_ok (compF_fmM (e := hD) (h := fun _ => nD 1) (p := fun x => !decide (rcp (cell T k x.1) = x.2)) (l := hrd T m key h) (itB_l (xs := (hrd T m key h).map hD) rfl) (by have := hrd_len t (key := key) (h := h); omega) fun x hx => ⟨_, rfl, cmpT_ok (sub_cell t hk' (hrd_m x hx) (sub_row t hk' rfl rfl) rfl) (y := .str x.2) rfl ?_, fun _ => rfl⟩)) (lE_ok (lstE_ok (xs := []) rfl (by simp))) (eqZ_nil _)).trans ?_
  · unfold neD
    rw [if_pos (by rw [Bool.or_eq_true]; exact .inl rfl)]
    show R.ok (D.bl (!(rcp _ == x.2))) = _
    congr 3
    rw [Bool.eq_iff_iff, beq_iff_eq, decide_eq_true_eq]
  · rw [not_empty]
    rfl
theorem lw6 {c12 c14 c16 c17 c18 c19 c21 : Cell} : LW6 (WS n m T key h (.val (heardD (hrd T m key h))) (.own (.lst ((hre T n m key h).map nD))) c12 c14 c16 c17 c18 c19 c21) = .ok (.nx (WS n m T key h (.val (heardD (hrd T m key h))) (.own (.lst ((hre T n m key h).map nD))) c12 c14 c16 c17 c18 c19 c21)) := by
  refine ifS_no (orT_ff (cmpT_ok (x := .lst ((hre T n m key h).map nD)) (y := .lst ((hre T n m key h).map nD)) (lE_ok (callF1_k (callE2_ok (x := tabD T) (y := heardD (hrd T m key h)) rfl rfl (left_ok t hrd_m (hrd_len t))) (listK_t _))) (varP_o rfl) (neD_self (nDs_sh _ 63))) ((cmpT_ok (x := nD key) (y := .lst ((hre T n m key h).map nD)) rfl (varP_o rfl) (notIn_ns _ _)).trans (by rw [decide_eq_true (here_key hk)]; rfl))) rfl
theorem lw7 {c12 c14 c16 c17 c18 c19 c21 : Cell} : LW7 (WS n m T key h (.val (heardD (hrd T m key h))) (.own (.lst ((hre T n m key h).map nD))) c12 c14 c16 c17 c18 c19 c21) = .ok (.nx (WS n m T key h (.val (heardD (hrd T m key h))) (.own (.lst ((hre T n m key h).map nD))) c12 c14 c16 c17 c18 c19 c21)) := by
  have hin := here_key (h := h) (T := T) (m := m) hk
  have ht := told1_ok t (hs := hrd T m key h) hrd_m (hrd_len t)
  unfold hre
  generalize left T n (hrd T m key h) = L at *
  match L with
  | [] => cases hin
  | [k] =>
    exact same_no (x := nD k) (told_no (callE2_ok (x := tabD T) (y := heardD (hrd T m key h)) rfl rfl ht)) (iteE_yes ((cmpT_ok (len_l (xs := [nD k]) (varP_o rfl)) cst_1 (eqD_nat _ _)).trans (by rw [show decide ([nD k].length = 1) = true from rfl])) (subE_k (x := .lst [nD k]) (y := nD 0) (varP_o rfl) rfl (subI_lst rfl))) (nD_sh _ _)
  | a :: b :: l =>
    exact same_no (x := .str [117, 110, 99, 108, 101, 97, 114]) (told_er (e := ⟨6, .non⟩) (callE_err (acons_ok (x := tabD T) rfl (acons_ok (x := heardD (hrd T m key h)) rfl (xs := []) rfl)) ht) rfl) (iteE_no ((cmpT_ok (len_l (xs := (a :: b :: l).map nD) (varP_o rfl)) cst_1 (eqD_nat _ _)).trans (by rw [decide_eq_false (by simp)])) rfl) (by unfold D.sh; decide)
theorem lw8 {c9 c10 c14 c16 c17 c18 c19 c21 : Cell} : Wr (LW8 (WS n m T key h c9 c10 .un c14 c16 c17 c18 c19 c21)) (fun o => ∃ r2, o = .nx r2 ∧ ∃ col, col < m ∧ r2 = WS n m T key h c9 c10 (.val (nD col)) c14 c16 c17 c18 c19 c21) := by
  have m3 := t.m3
  refine (setK_wr (rollS (n := m) rfl rfl t.m1 (by omega))).mono ?_
  rintro o ⟨r2, rfl, x, ⟨col, hc, rfl⟩, rfl⟩
  exact ⟨_, rfl, col, hc, rfl⟩
end
/-- the replies to a challenge, key by key -/
abbrev colD (T : List (List V3)) (c : Nat) : D := .lst (T.map fun row => rp ((row[c]?).getD 0))
theorem col_at (t : Tb n m T) {k c : Nat} (hk : k < n) {f g : LE → R D} {r : LE} (h1 : f r = .ok (colD T c)) (h2 : g r = .ok (nD k)) : subE f g r = .ok (rp (cell T k c)) := by
  obtain ⟨x, e, _, hcl⟩ := t.at_ hk
  refine subE_k h1 h2 (subI_lst ?_)
  rw [List.getElem?_map, e, hcl]
  rfl
section
variable (t : Tb n m T) {key h col : Nat} (hk : key < n) (hc : col < m)
include t hk hc
theorem lw9 {c9 c10 c14 c16 c17 c18 c19 c21 : Cell} : LW9 (WS n m T key h c9 c10 (.val (nD col)) c14 c16 c17 c18 c19 c21) = .ok (.nx (WS n m T key h c9 c10 (.val (nD col)) (.val (colD T col)) c16 c17 c18 c19 c21)) := by
  have n5 := t.n5
  refine (setK_val (lE_ok (compF_mapM (e := rowD) (h := fun row => rp ((row[col]?).getD 0)) (l := T) (itB_l (xs := T.map rowD) rfl) (by rw [t.len]; omega) fun row hr => ⟨_, rfl, subE_k (x := rowD row) (y := nD col) rfl rfl (subI_lst ?_)⟩))).trans rfl
  have hlt : col < row.length := by rw [t.row row hr]; exact hc
  rw [List.getElem?_map, List.getElem?_eq_getElem hlt]
  rfl
theorem inD_col (v : V3) : inD (rp v) (colD T col) = .ok (.bl ((List.range n).any fun k => decide (cell T k col = v))) := by
  have hsh : D.shs (T.map fun row => rp ((row[col]?).getD 0)) 62 = true := shs_map fun a _ => rp_sh _ 62
  show ((if ((rp v).sh 62 && D.shs (T.map fun row => rp ((row[col]?).getD 0)) 62) = true then R.ok ((T.map fun row => rp ((row[col]?).getD 0)).any fun z => z.eqb (rp v)) else .stuck) >>= fun b => R.ok (D.bl b)) = _
  rw [if_pos (by rw [Bool.and_eq_true]; exact ⟨rp_sh v 62, hsh⟩), R.ok_bind]
  congr 2
  rw [List.any_map, Bool.eq_iff_iff, List.any_eq_true, List.any_eq_true]
  constructor
  · rintro ⟨row, hr, he⟩
    have he : (rp ((row[col]?).getD 0)).eqb (rp v) = true := he
    rw [rp_eqb, decide_eq_true_eq] at he
    obtain ⟨k, hk2, rfl⟩ := List.mem_iff_getElem.mp hr
    refine ⟨k, List.mem_range.mpr (by rw [← t.len]; exact hk2), decide_eq_true ?_⟩
    unfold cell
    rw [List.getElem?_eq_getElem hk2]
    exact he
  · rintro ⟨k, hk2, he⟩
    have hk2 : k < T.length := by rw [t.len]; exact List.mem_range.mp hk2
    refine ⟨T[k], List.getElem_mem hk2, ?_⟩
    have he := of_decide_eq_true he
    unfold cell at he
    rw [List.getElem?_eq_getElem hk2] at he
    show (rp ((T[k][col]?).getD 0)).eqb (rp v) = true
    rw [rp_eqb]
    exact decide_eq_true he
theorem lrg_ok {f : LE → R D} {r : LE} (h : f r = .ok (nD n)) : lE (lrg1E f) r = .ok (.lst ((List.range n).map nD)) := by
  have n5 := t.n5
  refine lE_ok ?_
  unfold lrg1E
  rw [h, R.ok_bind]
  unfold lrg1
  dsimp only
  rw [if_pos (rgB_iff.mpr (by omega)), Int.toNat_natCast, rangeL_map]
theorem lw10 {c9 c10 c16 c17 c18 c19 c21 : Cell} : LW10 (WS n m T key h c9 c10 (.val (nD col)) (.val (colD T col)) c16 c17 c18 c19 c21) = .ok (.nx (WS n m T key h c9 c10 (.val (nD col)) (.val (colD T col)) c16 c17 c18 c19 c21)) := by
  have n5 := t.n5
  have hp : D_parts_by [tabD T, .lst ((List.range n).map nD), nD col] = .ok (partsD T (List.range n) col) := parts_ok t (fun k hk => List.mem_range.mp hk) (by rw [List.length_range]; omega) hc fun r h => IsK.it (.inl rfl) h
  refine ifS_no (cmpT_ok (x := partsD T (List.range n) col) (y := partsD T (List.range n) col) (callE3_ok (x := tabD T) (y := .lst ((List.range n).map nD)) (w := nD col) rfl (lrg_ok t hk hc rfl) rfl hp) (callE1_ok (lE_ok (compF_fmM (e := rp) (h := fun v => .tup [rp v, ptD T (List.range n) col v]) (p := fun v => (List.range n).any fun k => decide (cell T k col = v)) (l := all3) rfl (by decide) fun v _ => ⟨_, rfl, cmpT_ok (x := rp v) (y := colD T col) rfl rfl (inD_col t hk hc v), fun _ => tupE_ok (acons_ok (x := rp v) rfl (acons_ok (callE1_ok (lE_ok (compF_fmM (e := nD) (h := nD) (p := fun k => decide (cell T k col = v)) (l := List.range n) (rng1E_ok (n := n) rfl (by omega)) (by rw [List.length_range]; omega) fun k hk' => ⟨_, rfl, cmpT_ok (col_at t (List.mem_range.mp hk') rfl rfl) (y := rp v) rfl (eqD_rp _ _), fun _ => rfl⟩)) (tupleD_lst _)) (xs := []) rfl)) (by simp)⟩)) ((dictD_dc (e := rp) (x := ptD T (List.range n) col) rp_key1 rp_keq _).trans ?_)) (neX_self ?_ ?_)) rfl
  · show R.ok (D.dic (dcQ rp (ptD T (List.range n) col) (firsts (reps T (List.range n) col)))) = _
    rw [firsts_of_nodup (l := reps T (List.range n) col) (reps_nodup _ _)]
  · unfold dicOk dcQ
    rw [List.map_map]
    exact shs_map fun v _ => nDs_sh _ 63
  · unfold dicEq
    rw [beq_self_eq_true, Bool.true_and, List.all_eq_true]
    intro p hp
    obtain ⟨v, hv, rfl⟩ := List.mem_map.mp hp
    dsimp only
    rw [getD_q, dcQ_in rp_keq hv]
    exact eqb_self _ 64 (nDs_sh _ 63)
theorem lw11 {c9 c10 c12 c14 c16 c17 c18 c19 c21 : Cell} : LW11 (WS n m T key h c9 c10 c12 c14 c16 c17 c18 c19 c21) = .ok (.nx (WS n m T key h c9 c10 c12 c14 (.val (.bl (good T n))) c17 c18 c19 c21)) := by
  have n5 := t.n5
  exact (setK_val (opE_k (lenRows (T := T) (by rw [t.len]; omega) (lE_ok (compF_mapM (e := rowD) (h := fun a => .tup [tD a, nD 1]) (l := T) (itB_l (xs := T.map rowD) rfl) (by rw [t.len]; omega) fun row hr => ⟨_, rfl, tupE_ok (acons_ok (callE1_ok (x := rowD row) rfl (tupleD_lst _)) (acons_ok cst_1 (xs := []) rfl)) (by simp)⟩))) (y := nD n) rfl (eqD_nat _ _))).trans rfl
theorem lw12 {c9 c10 c17 c18 c19 c21 : Cell} : LW12 (WS n m T key h c9 c10 (.val (nD col)) (.val (colD T col)) (.val (.bl (good T n))) c17 c18 c19 c21) = .ok (.nx (WS n m T key h c9 c10 (.val (nD col)) (.val (colD T col)) (.val (.bl (good T n))) c17 c18 c19 c21)) :=
  ifS_no (orT_ff (cmpT_ok (x := .bl (good T n)) (y := .bl (good T n)) (callE1_ok (x := tabQ false T) rfl (unlike_okQ t.w false)) rfl (neD_self rfl)) (cmpT_ok (x := rp (cell T key col)) (y := rp (cell T key col)) (callE3_ok (x := tabD T) (y := nD key) (w := nD col) rfl rfl rfl (reply_ok t hk hc)) (col_at t hk rfl rfl) (neD_self (rp_sh _ 64)))) rfl
end
end K20
set_option Elab.async false
set_option linter.all false
set_option maxRecDepth 100000
namespace K20
open DL PySem L2 PySem.Spec PyProof.Rows
variable {n m : Nat} {T : List (List V3)}
theorem fold_le {α : Type} [DecidableEq α] : ∀ (l acc : List α), (l.foldl adds acc).length ≤ acc.length + l.length
  | [], acc => by simp
  | a :: l, acc => by
    have h := fold_le l (adds acc a)
    have h2 : (adds acc a).length ≤ acc.length + 1 := by
      unfold adds
      split
      · omega
      · rw [List.length_append]; simp
    rw [List.foldl_cons, List.length_cons]
    omega
theorem fold_full {α : Type} [DecidableEq α] : ∀ (l acc : List α), acc.length + l.length ≤ (l.foldl adds acc).length → l.Nodup ∧ ∀ a ∈ l, a ∉ acc
  | [], acc, _ => ⟨List.nodup_nil, fun a h => by cases h⟩
  | a :: l, acc, h => by
    rw [List.foldl_cons, List.length_cons] at h
    by_cases hm : a ∈ acc
    · have e : adds acc a = acc := by unfold adds; rw [if_pos hm]
      rw [e] at h
      have := fold_le l acc
      omega
    · have e : adds acc a = acc ++ [a] := by unfold adds; rw [if_neg hm]
      rw [e] at h
      obtain ⟨h1, h2⟩ := fold_full l (acc ++ [a]) (by rw [List.length_append]; simp; omega)
      refine ⟨List.nodup_cons.mpr ⟨fun z => h2 a z (by simp), h1⟩, fun b hb => ?_⟩
      rcases List.mem_cons.mp hb with rfl | hb
      · exact hm
      · exact fun z => h2 b hb (by simp [z])
theorem nodup_of_len {α : Type} [DecidableEq α] {l : List α} (h : (firsts l).length = l.length) : l.Nodup := (fold_full l [] (by rw [List.length_nil, Nat.zero_add]; exact Nat.le_of_eq h.symm)).1
theorem cell_row (t : Tb n m T) {k : Nat} (hk : k < T.length) (c : Nat) : cell T k c = ((T[k])[c]?).getD 0 := by
  unfold cell
  rw [List.getElem?_eq_getElem hk]
  rfl
theorem tells_apart (t : Tb n m T) {w : List Nat} (h : tells T n w = true) : ∀ k ∈ List.range n, ∀ k' ∈ List.range n, k ≠ k' → ∃ c ∈ w, cell T k c ≠ cell T k' c := by
  have nd : (T.map fun row => pick row w).Nodup := nodup_of_len (by rw [List.length_map, t.len]; exact of_decide_eq_true h)
  have key : ∀ i j, i < j → j < n → ∃ c ∈ w, cell T i c ≠ cell T j c := fun i j hij hj => by
    have hj' : j < T.length := by rw [t.len]; exact hj
    have hi' : i < T.length := by omega
    have := List.pairwise_iff_getElem.mp nd i j (by rw [List.length_map]; exact hi') (by rw [List.length_map]; exact hj') hij
    rw [List.getElem_map, List.getElem_map] at this
    apply Classical.byContradiction
    intro z
    refine this (List.map_congr_left fun c hc => ?_)
    apply Classical.byContradiction
    intro y
    refine z ⟨c, hc, ?_⟩
    rw [cell_row t hi', cell_row t hj']
    exact y
  intro k hk k' hk' ne
  have hk := List.mem_range.mp hk
  have hk' := List.mem_range.mp hk'
  rcases Nat.lt_or_ge k k' with q | q
  · exact key k k' q hk'
  · obtain ⟨c, hc, h⟩ := key k' k (by omega) hk
    exact ⟨c, hc, fun e => h e.symm⟩
theorem good_tells (t : Tb n m T) : tells T n (List.range m) = good T n := by
  unfold tells good
  have : (T.map fun row => pick row (List.range m)) = T := by
    refine (List.map_congr_left fun row hr => ?_).trans (List.map_id T)
    unfold pick
    have hl := t.row row hr
    refine List.ext_getElem (by rw [List.length_map, List.length_range, id, hl]) fun c h1 h2 => ?_
    have h3 : c < row.length := h2
    rw [List.getElem_map, List.getElem_range, List.getElem?_eq_getElem h3]
    rfl
  rw [this]
theorem good_iff (t : Tb n m T) : good T n = true ↔ Dist T m (List.range n) := by
  constructor
  · intro h k hk k' hk' ne
    obtain ⟨c, hc, z⟩ := tells_apart t ((good_tells t).trans h) k hk k' hk' ne
    exact ⟨c, List.mem_range.mp hc, z⟩
  · intro h
    have nd : T.Nodup := by
      refine List.pairwise_iff_getElem.mpr fun i j hi hj hij e => ?_
      have hn := t.len
      obtain ⟨c, _, z⟩ := h i (List.mem_range.mpr (by omega)) j (List.mem_range.mpr (by omega)) (by omega)
      rw [cell_row t hi, cell_row t hj, e] at z
      exact z rfl
    unfold good
    rw [firsts_of_nodup nd, t.len]
    exact decide_eq_true rfl
def noway : List Nat := [110, 111, 32, 119, 97, 121]
def Fq (T : List (List V3)) (n m : Nat) (d : D) : Prop := (good T n = true ∧ ∃ v, d = nD v ∧ dp T m v (List.range n) = true ∧ ∀ e, dp T m e (List.range n) = true → v ≤ e) ∨ (good T n = false ∧ d = .str noway)
section
variable (t : Tb n m T) {key h col : Nat} (hk : key < n) (hc : col < m)
include t hk hc
theorem lw13 {c9 c10 c14 c16 c17 c18 c19 c21 : Cell} : ∃ d, LW13 (WS n m T key h c9 c10 (.val (nD col)) c14 c16 c17 c18 c19 c21) = .ok (.nx (WS n m T key h c9 c10 (.val (nD col)) c14 c16 (.val d) c18 c19 c21)) ∧ Fq T n m d := by
  have n5 := t.n5
  rcases fewest_ok t 8 (List.range n) (.lst ((List.range n).map nD)) (.inl rfl) (fun k hk => List.mem_range.mp hk) (by rw [List.length_range]; omega) (by rw [List.length_range]; omega) List.nodup_range with ⟨hD, v, h1, h2, h3⟩ | ⟨hD, h1⟩
  · exact ⟨nD v, (setK_val (told_no (callE2_ok (x := tabD T) (y := .lst ((List.range n).map nD)) rfl (lrg_ok t hk hc rfl) h1))).trans rfl, .inl ⟨(good_iff t).mpr hD, v, rfl, h2, h3⟩⟩
  · refine ⟨.str noway, (setK_val (told_er (callE_err (acons_ok (x := tabD T) rfl (acons_ok (lrg_ok t hk hc rfl) (xs := []) rfl)) h1) rfl)).trans rfl, .inr ⟨?_, rfl⟩⟩
    rw [← Bool.not_eq_true]
    exact fun z => hD ((good_iff t).mp z)
theorem lw14 {d : D} (hd : Fq T n m d) {c9 c10 c12 c14 c18 c19 c21 : Cell} : LW14 (WS n m T key h c9 c10 c12 c14 (.val (.bl (good T n))) (.val d) c18 c19 c21) = .ok (.nx (WS n m T key h c9 c10 c12 c14 (.val (.bl (good T n))) (.val d) c18 c19 c21)) := by
  rcases hd with ⟨hg, v, rfl, _⟩ | ⟨hg, rfl⟩
  · refine same_no (x := .bl false) (opE_k (x := nD v) (y := .str noway) rfl rfl ?_) ?_ rfl
    · unfold eqD
      rw [if_pos (by rw [Bool.or_eq_true]; exact .inl rfl)]
      rfl
    · rw [hg]
      rfl
  · refine same_no (x := .bl true) (opE_k (x := .str noway) (y := .str noway) rfl rfl (eqD_self (by unfold D.sh; decide))) ?_ rfl
    rw [hg]
    rfl
theorem lw15 {d : D} (hd : Fq T n m d) {c9 c10 c12 c14 c18 c19 c21 : Cell} : LW15 (WS n m T key h c9 c10 c12 c14 (.val (.bl (good T n))) (.val d) c18 c19 c21) = .ok (.nx (WS n m T key h c9 c10 c12 c14 (.val (.bl (good T n))) (.val d) c18 c19 c21)) := by
  have n5 := t.n5
  have hdp : ∀ e, D_law_depth 8 [tabD T, .lst ((List.range n).map nD), nD e] = .ok (.bl (dp T m e (List.range n))) := fun e => depth_ok t 8 (List.range n) e (fun k hk => List.mem_range.mp hk) (by rw [List.length_range]; omega) (by rw [List.length_range]; omega)
  rcases hd with ⟨hg, v, rfl, h2, h3⟩ | ⟨hg, rfl⟩
  · refine ifS_no (andT_yes (b := false) (valT_ok (var_k (by rw [hg]; rfl))) (orT_ff ((notT_ok (valT_ok (callE3_ok (x := tabD T) (y := .lst ((List.range n).map nD)) (w := nD v) rfl (lrg_ok t hk hc rfl) rfl (hdp v)))).trans (by rw [h2]; rfl)) ?_)) rfl
    cases v with
    | zero => exact andT_no ((cmpT_ok (x := nD 0) (y := nD 0) rfl rfl (gtD_nat _ _)).trans (by rw [decide_eq_false (by omega)]))
    | succ v =>
      refine andT_yes ((cmpT_ok (x := nD (v + 1)) (y := nD 0) rfl rfl (gtD_nat _ _)).trans (by rw [decide_eq_true (by omega)])) (valT_ok (callE3_ok (x := tabD T) (y := .lst ((List.range n).map nD)) (w := nD v) rfl (lrg_ok t hk hc rfl) (opE_k (x := nD (v + 1)) (y := nD 1) rfl rfl (sub_nat1 _ (by omega))) ((hdp v).trans ?_)))
      have : dp T m v (List.range n) = false := by
        rw [← Bool.not_eq_true]
        intro z
        have := h3 v z
        omega
      rw [this]
  · exact ifS_no (andT_no (valT_ok (var_k (by rw [hg]; rfl)))) rfl
end
def wA (m : Nat) : List (List Nat) := [[]] ++ (List.range m).map (fun c => [c]) ++ (List.range m).flatMap fun a => (List.range (m - (a + 1))).map fun i => [a, a + 1 + i]
theorem mthree {P : Nat → Prop} (h1 : P 1) (h2 : P 2) (h3 : P 3) {m : Nat} (m1 : 1 ≤ m) (m3 : m ≤ 3) : P m := by
  match m, m1, m3 with
  | 1, _, _ => exact h1
  | 2, _, _ => exact h2
  | 3, _, _ => exact h3
theorem lw16 (m1 : 1 ≤ m) (m3 : m ≤ 3) {key h : Nat} {c9 c10 c12 c14 c16 c17 c18 c19 c21 : Cell} : LW16 (WS n m T key h c9 c10 c12 c14 c16 c17 c18 c19 c21) = .ok (.nx (WS n m T key h c9 c10 c12 c14 c16 c17 (.val (.lst ((wA m).map wD))) c19 c21)) :=
  mthree (P := fun m => LW16 (WS n m T key h c9 c10 c12 c14 c16 c17 c18 c19 c21) = .ok (.nx (WS n m T key h c9 c10 c12 c14 c16 c17 (.val (.lst ((wA m).map wD))) c19 c21))) (by kernel_rfl) (by kernel_rfl) (by kernel_rfl) m1 m3
theorem lw17 (m1 : 1 ≤ m) (m3 : m ≤ 3) {key h : Nat} {c9 c10 c12 c14 c16 c17 c19 c21 : Cell} : LW17 (WS n m T key h c9 c10 c12 c14 c16 c17 (.val (.lst ((wA m).map wD))) c19 c21) = .ok (.nx (WS n m T key h c9 c10 c12 c14 c16 c17 (.val (.lst ((waysAll m).map wD))) c19 c21)) :=
  mthree (P := fun m => LW17 (WS n m T key h c9 c10 c12 c14 c16 c17 (.val (.lst ((wA m).map wD))) c19 c21) = .ok (.nx (WS n m T key h c9 c10 c12 c14 c16 c17 (.val (.lst ((waysAll m).map wD))) c19 c21))) (by kernel_rfl) (by kernel_rfl) (by kernel_rfl) m1 m3
theorem ways_ok (m1 : 1 ≤ m) (m3 : m ≤ 3) : (waysAll m).length ≤ 100 ∧ (∀ w ∈ waysAll m, w.length ≤ 3 ∧ ∀ c ∈ w, c < m) ∧ List.range m ∈ waysAll m := by
  refine ⟨mthree (P := fun m => (waysAll m).length ≤ 100) (by decide +kernel) (by decide +kernel) (by decide +kernel) m1 m3, fun w hw => ?_, mthree (P := fun m => List.range m ∈ waysAll m) (by decide +kernel) (by decide +kernel) (by decide +kernel) m1 m3⟩
  obtain ⟨s, hs, hw⟩ := List.mem_flatMap.mp hw
  rw [← List.range_eq_range'] at hs
  exact (wl_ok m s m1 m3 (by have := List.mem_range.mp hs; omega)).2 w hw
section
variable (t : Tb n m T) {key h col : Nat} (hk : key < n) (hc : col < m)
include t hk hc
theorem lw18 {c9 c10 c12 c14 c16 c17 c19 c21 : Cell} : LW18 (WS n m T key h c9 c10 c12 c14 c16 c17 (.val (.lst ((waysAll m).map wD))) c19 c21) = .ok (.nx (WS n m T key h c9 c10 c12 c14 c16 c17 (.val (.lst ((waysAll m).map wD))) (.own (.lst (((waysAll m).filter (tells T n)).map wD))) c21)) := by
  have n5 := t.n5
  obtain ⟨wl, wb, _⟩ := ways_ok t.m1 t.m3
  refine (setK_own (compF_fmM (e := wD) (h := wD) (p := tells T n) (l := waysAll m) (itB_l (xs := (waysAll m).map wD) rfl) (by omega) fun w hw => ⟨_, rfl, cmpT_ok (lenRows (T := T.map fun row => pick row w) (by rw [List.length_map, t.len]; omega) (lE_ok ?_)) (y := nD n) rfl (eqD_nat _ _), fun _ => rfl⟩)).trans rfl
  obtain ⟨w3, wm⟩ := wb w hw
  refine (compF_mapM (e := rowD) (h := fun row => .tup [tD (pick row w), nD 1]) (l := T) (itB_l (xs := T.map rowD) rfl) (by rw [t.len]; omega) fun row hr => ⟨_, rfl, tupE_ok (acons_ok (callE1_ok (lE_ok (compF_mapM (e := nD) (h := fun c => rp ((row[c]?).getD 0)) (l := w) (itB_t (xs := w.map nD) rfl) (by omega) fun c hc' => ⟨_, rfl, subE_k (x := rowD row) (y := nD c) rfl rfl (subI_lst ?_)⟩)) ?_) (acons_ok cst_1 (xs := []) rfl)) (by simp)⟩).trans ?_
  · have hlt : c < row.length := by rw [t.row row hr]; exact wm c hc'
    rw [List.getElem?_map, List.getElem?_eq_getElem hlt]
    rfl
  · rw [tupleD_lst]
    unfold tD pick
    rw [List.map_map]
    rfl
  · rw [List.map_map]
    rfl
theorem lw19 {c9 c10 c12 c14 c16 c17 c18 c21 : Cell} : LW19 (WS n m T key h c9 c10 c12 c14 c16 c17 c18 (.own (.lst (((waysAll m).filter (tells T n)).map wD))) c21) = .ok (.nx (WS n m T key h c9 c10 c12 c14 c16 c17 c18 (.own (.lst (((waysAll m).filter (tells T n)).map wD))) c21)) := by
  have hh := head_find (tells T n) (waysAll m)
  have fx := fixed_ok t
  generalize (waysAll m).filter (tells T n) = F at *
  rcases fx with ⟨w, hw, hf⟩ | ⟨hn, hf⟩
  · rw [hw] at hh
    match F, hh with
    | a :: l, hh =>
      obtain rfl : a = w := Option.some.inj hh
      exact same_no (x := wD a) (told_no (callE1_ok (x := tabD T) rfl hf)) (iteE_yes ((cmpT_ok (x := .lst ((a :: l).map wD)) (varP_o rfl) (lE_ok (lstE_ok (xs := []) rfl (by simp))) (neZ_nil _)).trans rfl) (subE_k (x := .lst ((a :: l).map wD)) (y := nD 0) (varP_o rfl) rfl (subI_lst rfl))) (nDs_sh a 63)
  · rw [hn] at hh
    match F, hh with
    | [], _ => exact same_no (x := .str noway) (told_er (callE_err (acons_ok (x := tabD T) rfl (xs := []) rfl) hf) rfl) (iteE_no ((cmpT_ok (x := .lst []) (varP_o rfl) (lE_ok (lstE_ok (xs := []) rfl (by simp))) (neZ_nil _)).trans rfl) rfl) (by unfold D.sh; decide)
theorem lw20 {d : D} (hd : Fq T n m d) {c9 c10 c12 c14 c18 c21 : Cell} : LW20 (WS n m T key h c9 c10 c12 c14 (.val (.bl (good T n))) (.val d) c18 (.own (.lst (((waysAll m).filter (tells T n)).map wD))) c21) = .ok (.nx (WS n m T key h c9 c10 c12 c14 (.val (.bl (good T n))) (.val d) c18 (.own (.lst (((waysAll m).filter (tells T n)).map wD))) c21)) := by
  obtain ⟨_, wb, win⟩ := ways_ok t.m1 t.m3
  rcases hd with ⟨hg, v, rfl, h2, h3⟩ | ⟨hg, rfl⟩
  · have hin : List.range m ∈ (waysAll m).filter (tells T n) := List.mem_filter.mpr ⟨win, (good_tells t).trans hg⟩
    have hall : ∀ w ∈ (waysAll m).filter (tells T n), v ≤ w.length := fun w hw => by
      obtain ⟨hw1, hw2⟩ := List.mem_filter.mp hw
      exact h3 _ (dp_cols w (List.range n) (wb w hw1).2 List.nodup_range (tells_apart t hw2))
    generalize (waysAll m).filter (tells T n) = F at *
    match F, hin, hall with
    | a :: l, _, hall =>
      have := hall a List.mem_cons_self
      refine ifS_no (andT_yes (b := false) (valT_ok (var_k (by rw [hg]; rfl))) ((cmpT_ok (x := nD v) rfl ((len_t (xs := a.map nD) (subE_k (x := .lst ((a :: l).map wD)) (y := nD 0) (varP_o rfl) rfl (subI_lst rfl))).trans (by rw [List.length_map])) (gtD_nat _ _)).trans (by rw [decide_eq_false (by omega)]))) rfl
  · exact ifS_no (andT_no (valT_ok (var_k (by rw [hg]; rfl)))) rfl
theorem lw21 {c9 c12 c16 c17 c18 c19 c21 : Cell} : LW21 (WS n m T key h c9 (.own (.lst ((hre T n m key h).map nD))) c12 (.val (colD T col)) c16 c17 c18 c19 c21) = .ok (.nx (WS n m T key h c9 (.own (.lst ((hre T n m key h).map nD))) c12 (.val (colD T col)) c16 c17 c18 c19 (.val (.lst ((hre T n m key h).map fun k => rp (cell T k col)))))) := by
  have n5 := t.n5
  have hl : (hre T n m key h).length ≤ n := by
    have := List.length_filter_le (fits T (hrd T m key h)) (List.range n)
    rwa [List.length_range] at this
  exact (setK_val (lE_ok (compF_mapM (e := nD) (h := fun k => rp (cell T k col)) (l := hre T n m key h) (itA_l (xs := (hre T n m key h).map nD) (varP_o rfl)) (by omega) fun k hk' => ⟨_, rfl, col_at t (List.mem_range.mp (List.mem_filter.mp hk').1) rfl rfl⟩))).trans rfl
theorem rcount (L : List Nat) (v : V3) : countLs (.lst (L.map fun k => rp (cell T k col))) [rp v] = .ok (nD (prt T L col v).length) := by
  show (if (rp v).sh 62 && D.shs (L.map fun k => rp (cell T k col)) 62 then R.ok (D.int (((L.map fun k => rp (cell T k col)).countP fun z => z.eqb (rp v) : Nat) : Int)) else .stuck) = _
  rw [rp_sh, shs_map fun a _ => rp_sh _ 62, Bool.and_self, if_pos rfl]
  congr 3
  rw [List.countP_map, List.countP_eq_length_filter]
  unfold prt
  congr 1
  refine List.filter_congr fun k _ => ?_
  show (rp (cell T k col)).eqb (rp v) = _
  rw [rp_eqb]
theorem lw22 {c14 c16 c17 c18 c19 : Cell} : LW22 (WS n m T key h (.val (heardD (hrd T m key h))) (.own (.lst ((hre T n m key h).map nD))) (.val (nD col)) c14 c16 c17 c18 c19 (.val (.lst ((hre T n m key h).map fun k => rp (cell T k col))))) = .ok (.nx (WS n m T key h (.val (heardD (hrd T m key h))) (.own (.lst ((hre T n m key h).map nD))) (.val (nD col)) c14 c16 c17 c18 c19 (.val (.lst ((hre T n m key h).map fun k => rp (cell T k col)))))) := by
  obtain ⟨M, h1, ⟨v, hv⟩, hM⟩ := guess_ok t (hs := hrd T m key h) hrd_m (hrd_len t) hc (fun z => by
    have := here_key (h := h) (T := T) (m := m) hk
    rw [z] at this
    cases this)
  obtain ⟨M', h2, h3, h4⟩ := maxL_nD (l := all3.map fun v => (prt T (hre T n m key h) col v).length) (by simp [all3])
  have e : M' = M := by
    refine Nat.le_antisymm ?_ ?_
    · obtain ⟨w, _, rfl⟩ := List.mem_map.mp h3
      exact hM w
    · rw [hv]
      exact h4 _ (List.mem_map.mpr ⟨v, all3_mem v, rfl⟩)
  rw [e] at h2
  refine same_no (x := .tup [nD M, nD (hre T n m key h).length]) (callE3_ok (x := tabD T) (y := heardD (hrd T m key h)) (w := nD col) rfl rfl rfl h1) (tupE_ok (acons_ok (callE1_ok (lE_ok (compF_mapM (e := rp) (h := fun v => nD (prt T (hre T n m key h) col v).length) (l := all3) rfl (by decide) fun v _ => ⟨_, rfl, bmE_ok (x := .lst ((hre T n m key h).map fun k => rp (cell T k col))) (xs := [rp v]) rfl rfl rfl (rcount t hk hc _ v)⟩)) ?_) (acons_ok ((len_l (xs := (hre T n m key h).map nD) (varP_o rfl)).trans (by rw [List.length_map])) (xs := []) rfl)) (by simp)) ?_
  · rw [← h2, List.map_map]
    rfl
  · exact nDs_sh [M, (hre T n m key h).length] 63
theorem lw23 {c9 c10 c14 c17 c18 c19 c21 : Cell} : GoP Done LW23 (WS n m T key h c9 c10 (.val (nD col)) c14 (.val (.bl (good T n))) c17 c18 c19 c21) :=
  lastS (not_wr (callE_wr (xs := [.dice, nD n, tabD T, nD key, nD col, .bl (good T n)]) rfl (rest1_ok t hk hc)))
end
theorem law_go : GoP Done F_law (r0 22) := by
  rw [F_law_split]
  refine GoP.wrS (S := LW1) (K := LWs2) lw1 ?_
  rintro x ⟨n, m, n1, n5, m1, m3, rfl⟩
  refine GoP.wrS (S := LW2) (K := LWs3) (lw2 n1 n5 m1 m3) ?_
  rintro x ⟨T, t, rfl⟩
  refine GoP.wrS (S := LW3) (K := LWs4) (lw3 t) ?_
  rintro x ⟨key, h, hk, hh, rfl⟩
  refine GoP.okS (S := LW4) (K := LWs5) (lw4 t hk) ?_
  refine GoP.okS (S := LW5) (K := LWs6) (lw5 t hk) ?_
  refine GoP.okS (S := LW6) (K := LWs7) (lw6 t hk) ?_
  refine GoP.okS (S := LW7) (K := LWs8) (lw7 t hk) ?_
  refine GoP.wrS (S := LW8) (K := LWs9) (lw8 t hk) ?_
  rintro x ⟨col, hc, rfl⟩
  refine GoP.okS (S := LW9) (K := LWs10) (lw9 t hk hc) ?_
  refine GoP.okS (S := LW10) (K := LWs11) (lw10 t hk hc) ?_
  refine GoP.okS (S := LW11) (K := LWs12) (lw11 t hk hc) ?_
  refine GoP.okS (S := LW12) (K := LWs13) (lw12 t hk hc) ?_
  obtain ⟨d, e13, hd⟩ := lw13 t hk hc (h := h) (c9 := .val (heardD (hrd T m key h))) (c10 := .own (.lst ((hre T n m key h).map nD))) (c14 := .val (colD T col)) (c16 := .val (.bl (good T n))) (c17 := .un) (c18 := .un) (c19 := .un) (c21 := .un)
  refine GoP.okS (S := LW13) (K := LWs14) e13 ?_
  refine GoP.okS (S := LW14) (K := LWs15) (lw14 t hk hc hd) ?_
  refine GoP.okS (S := LW15) (K := LWs16) (lw15 t hk hc hd) ?_
  refine GoP.okS (S := LW16) (K := LWs17) (lw16 m1 m3) ?_
  refine GoP.okS (S := LW17) (K := LWs18) (lw17 m1 m3) ?_
  refine GoP.okS (S := LW18) (K := LWs19) (lw18 t hk hc) ?_
  refine GoP.okS (S := LW19) (K := LWs20) (lw19 t hk hc) ?_
  refine GoP.okS (S := LW20) (K := LWs21) (lw20 t hk hc hd) ?_
  refine GoP.okS (S := LW21) (K := LWs22) (lw21 t hk hc) ?_
  refine GoP.okS (S := LW22) (K := LWs23) (lw22 t hk hc) ?_
  exact lw23 t hk hc
theorem holds : LawOk F_law 22 := .of law_go
end K20
local macro_rules | `(tactic| o_head ($f $k $a $e $t)) => `(tactic| o_head ((PySem.W.kmHook $k $a $e [164,178,229,282,287] : _)))
local macro_rules | `(tactic| o_head ($f $k $a $e)) => `(tactic| o_head ((PySem.W.kmHook $k $a $e [164,178,229,282,287] : _)))
open PySem PySem.W PyProof.Rows in
set_option maxRecDepth 100000 in
set_option maxHeartbeats 0 in
theorem PySem.Challenge.cw_flaghall_k20_watchwords_holds : PySem.Challenge.rw_flaghall_k20_watchwords.Holds := by
  w_on; o_law; k_head; (case hw => w_witness2)
  k_fill
  refine LamX.walk_ofTs (l := PySem.Challenge.rw_flaghall_k20_watchwords) (n := 63) (k := 16) (x := "script") (CX := fun w => L2.CX PySem.Challenge.rw_flaghall_k20_watchwords.prog w) rfl (by decide) rfl ⟨rfl, by decide, by decide⟩ (fun w h Y => PySem.W.km_in_of Y) ?F (fun w H s e s' z => by obtain ⟨_, _, _, _, _, _, _, _, _, _, _, _, z⟩ := z; exact z)
  case F =>
    intro w mg fa h Y KX hN hmg
    refine' K20.all_mk KX hN hmg (PySem.W.km_tabs_of Y) K20.holds ?nk_law_dice ?lk_law_dice ?dk_law_dice ?kk_law_dice ?nk_law_roll ?lk_law_roll ?dk_law_roll ?kk_law_roll ?nk_law_rounds ?lk_law_rounds ?dk_law_rounds ?kk_law_rounds ?nk_law_told ?lk_law_told ?dk_law_told ?kk_law_told ?nk_check_table ?lk_check_table ?dk_check_table ?kk_check_table ?nk_reply_of ?lk_reply_of ?dk_reply_of ?kk_reply_of ?nk_keys_left ?lk_keys_left ?dk_keys_left ?kk_keys_left ?nk_key_told ?lk_key_told ?dk_key_told ?kk_key_told ?nk_parts_by ?lk_parts_by ?dk_parts_by ?kk_parts_by ?nk_are_unlike ?lk_are_unlike ?dk_are_unlike ?kk_are_unlike ?nk_fewest_questions ?lk_fewest_questions ?dk_fewest_questions ?kk_fewest_questions ?nk_law_depth ?lk_law_depth ?dk_law_depth ?kk_law_depth ?nk_law_flat ?lk_law_flat ?dk_law_flat ?kk_law_flat ?nk_fixed_questions ?lk_fixed_questions ?dk_fixed_questions ?kk_fixed_questions ?nk_guess_chance ?lk_guess_chance ?dk_guess_chance ?kk_guess_chance ?nk_day_key ?lk_day_key ?dk_day_key ?kk_day_key ?nk_days_until_again ?lk_days_until_again ?dk_days_until_again ?kk_days_until_again ?nk_safe_days ?lk_safe_days ?dk_safe_days ?kk_safe_days ?nk_turned_table ?lk_turned_table ?dk_turned_table ?kk_turned_table ?nk_changed_replies ?lk_changed_replies ?dk_changed_replies ?kk_changed_replies ?nk_law_rest1 ?lk_law_rest1 ?dk_law_rest1 ?kk_law_rest1 ?nk_law ?lk_law ?dk_law ?kk_law ?xn_BadBook ?xe_BadBook ?xk_BadBook ?xs_BadBook ?xt_BadBook ?xn_BadFlag ?xe_BadFlag ?xk_BadFlag ?xs_BadFlag ?xt_BadFlag ?xn_BadFleet ?xe_BadFleet ?xk_BadFleet ?xs_BadFleet ?xt_BadFleet ?xn_BadHoist ?xe_BadHoist ?xk_BadHoist ?xs_BadHoist ?xt_BadHoist ?xn_Foul ?xn_NoWay ?xe_NoWay ?xk_NoWay ?xs_NoWay ?xt_NoWay ?xn_TooLarge ?xe_TooLarge ?xk_TooLarge ?xs_TooLarge ?xt_TooLarge ?xn_Unclear ?xn_BadText ?u1_Unclear ?u2_Unclear ?u3_Unclear ?u4_Unclear ?u5_Unclear ?u6_Unclear ?u7_Unclear ?u8_Unclear ?u9_Unclear ?u10_Unclear ?u11_Unclear ?u12_Unclear ?u13_Unclear ?u14_Unclear ?u15_Unclear ?u16_Unclear ?u17_Unclear ?u18_Unclear ?u19_Unclear ?exu ?exq ?bz_range ?bz_len ?bz_any ?bz_all ?bz_tuple ?bz_list ?bz_super ?bz_sorted ?bz_dict ?bz_max ?bz_min ?bz_int ?bz_abs ?zl_check_table ?zv_check_table ?zh_check_table ?zn_check_table ?zt_check_table ?zl_keys_left ?zv_keys_left ?zh_keys_left ?zn_keys_left ?zt_keys_left ?zl_safe_days ?zv_safe_days ?zh_safe_days ?zn_safe_days ?zt_safe_days ?zl_law_rest1 ?zv_law_rest1 ?zh_law_rest1 ?zn_law_rest1 ?zt_law_rest1 ?zl_law ?zv_law ?zh_law ?zn_law ?zt_law ?ne_check_table_keys_left ?ne_check_table_safe_days ?ne_check_table_law_rest1 ?ne_check_table_law ?ne_keys_left_safe_days ?ne_keys_left_law_rest1 ?ne_keys_left_law ?ne_safe_days_law_rest1 ?ne_safe_days_law ?ne_law_rest1_law
    (case nk_law_dice => k_is)
    (case lk_law_dice => k_is)
    (case dk_law_dice => k_is)
    (case kk_law_dice => k_is)
    (case nk_law_roll => k_is)
    (case lk_law_roll => k_is)
    (case dk_law_roll => k_is)
    (case kk_law_roll => k_is)
    (case nk_law_rounds => k_is)
    (case lk_law_rounds => k_is)
    (case dk_law_rounds => k_is)
    (case kk_law_rounds => k_is)
    (case nk_law_told => k_is)
    (case lk_law_told => k_is)
    (case dk_law_told => k_is)
    (case kk_law_told => k_is)
    (case nk_check_table => k_is)
    (case lk_check_table => k_is)
    (case dk_check_table => k_is)
    (case kk_check_table => k_is)
    (case nk_reply_of => k_is)
    (case lk_reply_of => k_is)
    (case dk_reply_of => k_is)
    (case kk_reply_of => k_is)
    (case nk_keys_left => k_is)
    (case lk_keys_left => k_is)
    (case dk_keys_left => k_is)
    (case kk_keys_left => k_is)
    (case nk_key_told => k_is)
    (case lk_key_told => k_is)
    (case dk_key_told => k_is)
    (case kk_key_told => k_is)
    (case nk_parts_by => k_is)
    (case lk_parts_by => k_is)
    (case dk_parts_by => k_is)
    (case kk_parts_by => k_is)
    (case nk_are_unlike => k_is)
    (case lk_are_unlike => k_is)
    (case dk_are_unlike => k_is)
    (case kk_are_unlike => k_is)
    (case nk_fewest_questions => k_is)
    (case lk_fewest_questions => k_is)
    (case dk_fewest_questions => k_is)
    (case kk_fewest_questions => k_is)
    (case nk_law_depth => k_is)
    (case lk_law_depth => k_is)
    (case dk_law_depth => k_is)
    (case kk_law_depth => k_is)
    (case nk_law_flat => k_is)
    (case lk_law_flat => k_is)
    (case dk_law_flat => k_is)
    (case kk_law_flat => k_is)
    (case nk_fixed_questions => k_is)
    (case lk_fixed_questions => k_is)
    (case dk_fixed_questions => k_is)
    (case kk_fixed_questions => k_is)
    (case nk_guess_chance => k_is)
    (case lk_guess_chance => k_is)
    (case dk_guess_chance => k_is)
    (case kk_guess_chance => k_is)
    (case nk_day_key => k_is)
    (case lk_day_key => k_is)
    (case dk_day_key => k_is)
    (case kk_day_key => k_is)
    (case nk_days_until_again => k_is)
    (case lk_days_until_again => k_is)
    (case dk_days_until_again => k_is)
    (case kk_days_until_again => k_is)
    (case nk_safe_days => k_is)
    (case lk_safe_days => k_is)
    (case dk_safe_days => k_is)
    (case kk_safe_days => k_is)
    (case nk_turned_table => k_is)
    (case lk_turned_table => k_is)
    (case dk_turned_table => k_is)
    (case kk_turned_table => k_is)
    (case nk_changed_replies => k_is)
    (case lk_changed_replies => k_is)
    (case dk_changed_replies => k_is)
    (case kk_changed_replies => k_is)
    (case nk_law_rest1 => k_is)
    (case lk_law_rest1 => k_is)
    (case dk_law_rest1 => k_is)
    (case kk_law_rest1 => k_is)
    (case nk_law => k_is)
    (case lk_law => k_is)
    (case dk_law => k_is)
    (case kk_law => k_is)
    (case xn_BadBook => k_is)
    (case xe_BadBook => k_exc)
    (case xk_BadBook => k_is)
    (case xs_BadBook => k_is)
    (case xt_BadBook => k_is)
    (case xn_BadFlag => k_is)
    (case xe_BadFlag => k_exc)
    (case xk_BadFlag => k_is)
    (case xs_BadFlag => k_is)
    (case xt_BadFlag => k_is)
    (case xn_BadFleet => k_is)
    (case xe_BadFleet => k_exc)
    (case xk_BadFleet => k_is)
    (case xs_BadFleet => k_is)
    (case xt_BadFleet => k_is)
    (case xn_BadHoist => k_is)
    (case xe_BadHoist => k_exc)
    (case xk_BadHoist => k_is)
    (case xs_BadHoist => k_is)
    (case xt_BadHoist => k_is)
    (case xn_Foul => k_is)
    (case xn_NoWay => k_is)
    (case xe_NoWay => k_exc)
    (case xk_NoWay => k_is)
    (case xs_NoWay => k_is)
    (case xt_NoWay => k_is)
    (case xn_TooLarge => k_is)
    (case xe_TooLarge => k_exc)
    (case xk_TooLarge => k_is)
    (case xs_TooLarge => k_is)
    (case xt_TooLarge => k_is)
    (case xn_Unclear => k_is)
    (case xn_BadText => k_is)
    (case u1_Unclear => kernel_rfl)
    (case u2_Unclear => k_is)
    (case u3_Unclear => k_is)
    (case u4_Unclear => k_is)
    (case u5_Unclear => k_is)
    (case u6_Unclear => k_is)
    (case u7_Unclear => k_is)
    (case u8_Unclear => k_is)
    (case u9_Unclear => k_is)
    (case u10_Unclear => first | k_is | kernel_rfl)
    (case u11_Unclear => k_is)
    (case u12_Unclear => k_is)
    (case u13_Unclear => k_is)
    (case u14_Unclear => k_is)
    (case u15_Unclear => rfl)
    (case u16_Unclear => kernel_rfl)
    (case u17_Unclear => k_is)
    (case u18_Unclear => k_is)
    (case u19_Unclear => kernel_rfl)
    (case exu => kernel_rfl)
    (case exq => kernel_rfl)
    (case bz_range => k_is)
    (case bz_len => k_is)
    (case bz_any => k_is)
    (case bz_all => k_is)
    (case bz_tuple => k_is)
    (case bz_list => k_is)
    (case bz_super => k_is)
    (case bz_sorted => k_is)
    (case bz_dict => k_is)
    (case bz_max => k_is)
    (case bz_min => k_is)
    (case bz_int => k_is)
    (case bz_abs => k_is)
    (case zl_check_table => k_is)
    (case zv_check_table => rfl)
    (case zh_check_table => kernel_rfl)
    (case zn_check_table => kernel_rfl)
    (case zt_check_table => decide)
    (case zl_keys_left => k_is)
    (case zv_keys_left => rfl)
    (case zh_keys_left => kernel_rfl)
    (case zn_keys_left => kernel_rfl)
    (case zt_keys_left => decide)
    (case zl_safe_days => k_is)
    (case zv_safe_days => rfl)
    (case zh_safe_days => kernel_rfl)
    (case zn_safe_days => kernel_rfl)
    (case zt_safe_days => decide)
    (case zl_law_rest1 => k_is)
    (case zv_law_rest1 => rfl)
    (case zh_law_rest1 => kernel_rfl)
    (case zn_law_rest1 => kernel_rfl)
    (case zt_law_rest1 => decide)
    (case zl_law => k_is)
    (case zv_law => rfl)
    (case zh_law => kernel_rfl)
    (case zn_law => kernel_rfl)
    (case zt_law => decide)
    (case ne_check_table_keys_left => decide)
    (case ne_check_table_safe_days => decide)
    (case ne_check_table_law_rest1 => decide)
    (case ne_check_table_law => decide)
    (case ne_keys_left_safe_days => decide)
    (case ne_keys_left_law_rest1 => decide)
    (case ne_keys_left_law => decide)
    (case ne_safe_days_law_rest1 => decide)
    (case ne_safe_days_law => decide)
    (case ne_law_rest1_law => decide)
