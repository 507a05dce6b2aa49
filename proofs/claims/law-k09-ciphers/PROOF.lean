import PyProof.Rows.All
import Wide.All
import OpenK.AllK
import Wide.FinOn
import HandS.ForMost
import HandS.ForSpec
import HandS.CallSlots
import HandS.Lambda
import HandS.TryMany
import HandS.ExcInit
import HandS.TupAny
import HandS.TupLe
import HandS.Deep
import HandS.More
import HandS.WrittenGet
import KE.KLam
import HandS.ExcOwn
import PyProof.CodeObjX
import KE.KNest
import HandS.Nested
import KE.DataMinMax
import KE.DataCmp
import HandS.Strs
import HandS.Style
import HandS.Iter
import HandS.Sort
import HandS.Steps
import HandS.GenOver
import HandS.GenList
import KE.GoesEnumKw
import HandS.SortKw
import HandS.RevTup
import HandS.Codes
import HandS.Rev
import HandS.Replace
import HandS.RaiseMore
import PyProof.ListStr
import PyProof.CollectStr
import HandS.TupLen
import HandS.WordsDict
import KE.KDictKeyed
import HandS.StrMore
import PyProof.StrOps2
import KE.KExcSuper
import KE.DataMinKey
import KE.KEqDict
import KE.SortKeyHeap
import HandS.Keys
import KE.GoesZip
import KE.GoesEnum
import KE.GoesMore
import HandS.Conv
import PyProof.Rows.StrStep
import KE.KDictDisplayH
import HandS.ExcField
import KE.SortData
import PyProof.NeKinds
import PyProof.Rows.SumAny
import PyProof.WalksMore
import KE.KDictZip
import KE.KDictExact
import HandS.DictTup
import KE.DataFind
import HandS.EndTab
import KE.KNestM
import PySem.Challenge.RW_flaghall_k09_ciphers
set_option Elab.async false
set_option linter.all false
set_option maxRecDepth 100000
namespace DL
open PySem L2
/-- deep values -/
inductive D where
  | non
  | bl (b : Bool)
  | int (i : Int)
  | str (s : List Nat)
  | lst (xs : List D)
  | tup (xs : List D)
  | dic (kvs : List (D × D))
  | cdic (kvs : List (List Nat × D))
  | ins (c : Nat) (fs : List D)
  | dice
  | fn (n : Nat)
  /-- a tuple whose object is known -/
  | ktup (xs : List D)
  /-- a tuple of the program's own constants -/
  | ctup (xs : List D)
  /-- a dict whose keys are tuples of ints and texts -/
  | tdic (kvs : List (D × D))
  deriving Inhabited
structure Exc where
  cls : Nat
  arg : D
/-- what a computation comes to; roll m k: some number below m is drawn -/
inductive R (α : Type) where
  | ok (a : α)
  | err (e : Exc)
  | stuck
  | roll (m : Nat) (k : Nat → R α)
namespace R
variable {α β : Type}
def bind : R α → (α → R β) → R β
  | .ok a, k => k a
  | .err e, _ => .err e
  | .stuck, _ => .stuck
  | .roll m f, k => .roll m fun i => (f i).bind k
instance : Monad R where
  pure := .ok
  bind := R.bind
@[simp] theorem ok_bind (a : α) (k : α → R β) : (R.ok a >>= k) = k a := rfl
@[simp] theorem err_bind (e : Exc) (k : α → R β) : ((R.err e : R α) >>= k) = .err e := rfl
@[simp] theorem stuck_bind (k : α → R β) : ((R.stuck : R α) >>= k) = .stuck := rfl
@[simp] theorem roll_bind (m : Nat) (f : Nat → R α) (k : α → R β) : (R.roll m f >>= k) = .roll m fun i => f i >>= k := rfl
@[simp] theorem pure_eq (a : α) : (pure a : R α) = .ok a := rfl
end R
def Wp {α : Type} : R α → (α → Prop) → (Exc → Prop) → Prop
  | .ok a, Q, _ => Q a
  | .err e, _, E => E e
  | .stuck, _, _ => False
  | .roll m k, Q, E => ∀ i, i < m → Wp (k i) Q E
section
variable {α β : Type} {Q Q' : α → Prop} {E E' : Exc → Prop}
theorem Wp.mono : ∀ {m : R α}, Wp m Q E → (∀ a, Q a → Q' a) → (∀ e, E e → E' e) → Wp m Q' E'
  | .ok a, h, q, _ => q a h
  | .err e, h, _, q => q e h
  | .stuck, h, _, _ => h
  | .roll _ _, h, q, q' => fun i hi => Wp.mono (h i hi) q q'
theorem Wp.thn {m : R α} (h : Wp m Q E) (q : ∀ a, Q a → Q' a) : Wp m Q' E := h.mono q fun _ x => x
theorem Wp.bind {k : α → R β} {Qb : β → Prop} : ∀ {m : R α}, Wp (m >>= k) Qb E → Wp m (fun a => Wp (k a) Qb E) E
  | .ok _, h => h
  | .err _, h => h
  | .stuck, h => h
  | .roll _ _, h => fun i hi => Wp.bind (h i hi)
theorem Wp.of_bind {k : α → R β} {Qb : β → Prop} : ∀ {m : R α}, Wp m (fun a => Wp (k a) Qb E) E → Wp (m >>= k) Qb E
  | .ok _, h => h
  | .err _, h => h
  | .stuck, h => h
  | .roll _ _, h => fun i hi => Wp.of_bind (h i hi)
end
structure Gm where
  K : PySem.W.Frag
  w : World
  cls : Nat → Addr
  flds : Nat → List Str
  fns : Nat → Addr
  xcls : Nat → Addr
  xfld : Nat → Option Str
  tabs : List (Addr × Str)
  /-- lambda (true) or generator (false) by the place in the text -/
  kd : Nat → Nat → Bool
  /-- the frames of code objects made since, from the innermost on: code object, its table, the prefix of names -/
  subs : List (Addr × Addr × Str)
abbrev Gm.sub (G : Gm) (x : Addr × Addr × Str) : Gm := { G with subs := x :: G.subs }
/-- a key of a dict -/
def D.key : D → Option Key
  | .int i => some (.inl i)
  | .str s => some (.inr ⟨s.toArray⟩)
  | _ => none
/-- a key that is a tuple -/
def keysK : List D → Option (List Key)
  | [] => some []
  | d :: ds => match d.key, keysK ds with
    | some k, some ks => some (k :: ks)
    | _, _ => none
def D.tkey : D → Option (List Key)
  | .tup ds => keysK ds
  | _ => none
mutual
def Rep (G : Gm) (dl : Addr) (S : Hp) : D → V → Prop
  | .non, v => v = .non
  | .bl b, v => v = .bl b
  | .int i, v => v = .int i
  | .str s, v => v = .str ⟨s.toArray⟩
  | .lst ds, v => ∃ a vs, v = .ref a ∧ S a = some (.lst vs) ∧ RepL G dl S ds vs
  | .tup ds, v => ∃ a vs, v = .ref a ∧ S a = some (.tup vs) ∧ RepL G dl S ds vs
  | .ctup ds, v => ∃ a vs, v = .ref a ∧ SqT G.K S a vs ∧ RepL G dl S ds vs
  | .dic kvs, v => ∃ (a : Addr) (o : Obj) (kv : List (Key × V)), v = .ref a ∧ S a = some (.frz o (.dK kv)) ∧ RepK G dl S kvs kv
  | .tdic kvs, v => ∃ (a : Addr) (o : Obj) (kv : List (List Key × V)), v = .ref a ∧ S a = some (.frz o (.dT kv)) ∧ RepT G dl S kvs kv
  | .cdic kvs, v => ∃ a, v = .ref a ∧ RepC G dl S a kvs
  | .ins c ds, v => ∃ a dx vs, v = .ref a ∧ S a = some (.ins (G.cls c) dx ((G.flds c).zip vs)) ∧ (G.flds c).length = vs.length ∧ RepL G dl S ds vs
  | .dice, v => v = .ref dl
  | .fn n, v => v = .ref (G.fns n)
  | .ktup ds, v => ∃ a vs o, v = .ref a ∧ S a = some (.frz o (.tup vs)) ∧ o.cls = .type "tuple" ∧ o.dict = none ∧ RepL G dl S ds vs
def RepL (G : Gm) (dl : Addr) (S : Hp) : List D → List V → Prop
  | [], vs => vs = []
  | d :: ds, vs => ∃ v r, vs = v :: r ∧ Rep G dl S d v ∧ RepL G dl S ds r
def RepK (G : Gm) (dl : Addr) (S : Hp) : List (D × D) → List (Key × V) → Prop
  | [], vs => vs = []
  | (k, d) :: ds, vs => ∃ x v r, vs = (x, v) :: r ∧ k.key = some x ∧ Rep G dl S d v ∧ RepK G dl S ds r
def RepT (G : Gm) (dl : Addr) (S : Hp) : List (D × D) → List (List Key × V) → Prop
  | [], vs => vs = []
  | (k, d) :: ds, vs => ∃ x v r, vs = (x, v) :: r ∧ k.tkey = some x ∧ Rep G dl S d v ∧ RepT G dl S ds r
def RepC (G : Gm) (dl : Addr) (S : Hp) (a : Addr) : List (List Nat × D) → Prop
  | [] => True
  | (k, d) :: ds => (∃ v, KDct G.K G.w a ⟨k.toArray⟩ v ∧ Rep G dl S d v) ∧ RepC G dl S a ds
end
/-- all but tables of code objects stays -/
abbrev GrowS (S S' : Hp) : Prop := LamX.ExtN S S'
theorem GrowS.rd {S S' : Hp} {a : Addr} {u : HO} (g : GrowS S S') (n : ∀ ps, u ≠ .tbl ps) (h : Rd S a u) : Rd S' a u := by
  rcases h with h | ⟨o, h⟩
  · exact .inl (g a _ h n)
  · exact .inr ⟨o, g a _ h fun ps z => by cases z⟩
theorem GrowS.sql {K : PySem.W.Frag} {S S' : Hp} {a : Addr} {xs : List V} (g : GrowS S S') (h : SqL K S a xs) : SqL K S' a xs := by
  rcases h with h | h
  · exact .inl (g.rd (fun ps z => by cases z) h)
  · exact .inr h
theorem GrowS.sqt {K : PySem.W.Frag} {S S' : Hp} {a : Addr} {xs : List V} (g : GrowS S S') (h : SqT K S a xs) : SqT K S' a xs := by
  rcases h with h | h
  · exact .inl (g.rd (fun ps z => by cases z) h)
  · exact .inr h
mutual
theorem Rep.mono {G : Gm} {dl : Addr} {S S' : Hp} (g : GrowS S S') : ∀ (d : D) {v : V}, Rep G dl S d v → Rep G dl S' d v
  | .non, v, h => by unfold Rep at *; exact h
  | .bl b, v, h => by unfold Rep at *; exact h
  | .int i, v, h => by unfold Rep at *; exact h
  | .str s, v, h => by unfold Rep at *; exact h
  | .lst ds, v, h => by
    unfold Rep at *
    obtain ⟨a, vs, e, q, r⟩ := h
    exact ⟨a, vs, e, g a _ q (fun ps z => by cases z), RepL.mono g ds r⟩
  | .tup ds, v, h => by
    unfold Rep at *
    obtain ⟨a, vs, e, q, r⟩ := h
    exact ⟨a, vs, e, g a _ q (fun ps z => by cases z), RepL.mono g ds r⟩
  | .ctup ds, v, h => by
    unfold Rep at *
    obtain ⟨a, vs, e, q, r⟩ := h
    exact ⟨a, vs, e, g.sqt q, RepL.mono g ds r⟩
  | .tdic kvs, v, h => by
    unfold Rep at *
    obtain ⟨a, o, kv, e, q, r⟩ := h
    exact ⟨a, o, kv, e, g a _ q (fun ps z => by cases z), RepT.mono g kvs r⟩
  | .dic kvs, v, h => by
    unfold Rep at *
    obtain ⟨a, o, kv, e, q, r⟩ := h
    exact ⟨a, o, kv, e, g a _ q (fun ps z => by cases z), RepK.mono g kvs r⟩
  | .cdic kvs, v, h => by
    unfold Rep at *
    obtain ⟨a, e, r⟩ := h
    exact ⟨a, e, RepC.mono g kvs r⟩
  | .ins c ds, v, h => by
    unfold Rep at *
    obtain ⟨a, dx, vs, e, q, l, r⟩ := h
    exact ⟨a, dx, vs, e, g a _ q (fun ps z => by cases z), l, RepL.mono g ds r⟩
  | .dice, v, h => by unfold Rep at *; exact h
  | .fn n, v, h => by unfold Rep at *; exact h
  | .ktup ds, v, h => by
    unfold Rep at *
    obtain ⟨a, vs, o, e, q, c, d, r⟩ := h
    exact ⟨a, vs, o, e, g a _ q (fun ps z => by cases z), c, d, RepL.mono g ds r⟩
theorem RepL.mono {G : Gm} {dl : Addr} {S S' : Hp} (g : GrowS S S') : ∀ (ds : List D) {vs : List V}, RepL G dl S ds vs → RepL G dl S' ds vs
  | [], vs, h => by unfold RepL at *; exact h
  | d :: ds, vs, h => by
    unfold RepL at *
    obtain ⟨v, r, e, h1, h2⟩ := h
    exact ⟨v, r, e, Rep.mono g d h1, RepL.mono g ds h2⟩
theorem RepK.mono {G : Gm} {dl : Addr} {S S' : Hp} (g : GrowS S S') : ∀ (ds : List (D × D)) {vs : List (Key × V)}, RepK G dl S ds vs → RepK G dl S' ds vs
  | [], vs, h => by unfold RepK at *; exact h
  | (k, d) :: ds, vs, h => by
    unfold RepK at *
    obtain ⟨x, v, r, e, k, h1, h2⟩ := h
    exact ⟨x, v, r, e, k, Rep.mono g d h1, RepK.mono g ds h2⟩
theorem RepT.mono {G : Gm} {dl : Addr} {S S' : Hp} (g : GrowS S S') : ∀ (ds : List (D × D)) {vs : List (List Key × V)}, RepT G dl S ds vs → RepT G dl S' ds vs
  | [], vs, h => by unfold RepT at *; exact h
  | (k, d) :: ds, vs, h => by
    unfold RepT at *
    obtain ⟨x, v, r, e, k, h1, h2⟩ := h
    exact ⟨x, v, r, e, k, Rep.mono g d h1, RepT.mono g ds h2⟩
theorem RepC.mono {G : Gm} {dl : Addr} {S S' : Hp} (g : GrowS S S') {a : Addr} : ∀ (ds : List (List Nat × D)), RepC G dl S a ds → RepC G dl S' a ds
  | [], h => by unfold RepC at *; exact h
  | (k, d) :: ds, h => by
    unfold RepC at *
    obtain ⟨⟨v, h1, h2⟩, h3⟩ := h
    exact ⟨⟨v, h1, Rep.mono g d h2⟩, RepC.mono g ds h3⟩
end
section
variable {G : Gm} {dl : Addr} {S : Hp}
theorem RepL.length : ∀ {ds : List D} {vs : List V}, RepL G dl S ds vs → vs.length = ds.length
  | [], vs, h => by unfold RepL at h; subst h; rfl
  | d :: ds, vs, h => by
    unfold RepL at h
    obtain ⟨v, r, rfl, _, h2⟩ := h
    rw [List.length_cons, List.length_cons, RepL.length h2]
theorem RepL.nil : RepL G dl S [] [] := by unfold RepL; rfl
theorem RepL.cons {d : D} {ds : List D} {v : V} {vs : List V} (h : Rep G dl S d v) (r : RepL G dl S ds vs) : RepL G dl S (d :: ds) (v :: vs) := by
  unfold RepL; exact ⟨v, vs, rfl, h, r⟩
theorem RepL.append : ∀ {ds es : List D} {vs us : List V}, RepL G dl S ds vs → RepL G dl S es us → RepL G dl S (ds ++ es) (vs ++ us)
  | [], es, vs, us, h, q => by unfold RepL at h; subst h; exact q
  | d :: ds, es, vs, us, h, q => by
    unfold RepL at h
    obtain ⟨v, r, rfl, h1, h2⟩ := h
    exact RepL.cons h1 (RepL.append h2 q)
theorem RepL.get : ∀ (ds : List D) (vs : List V) (i : Nat) (v : V), RepL G dl S ds vs → vs[i]? = some v → ∃ d, ds[i]? = some d ∧ Rep G dl S d v
  | [], vs, i, v, h, e => by unfold RepL at h; subst h; simp at e
  | d :: ds, vs, i, v, h, e => by
    unfold RepL at h
    obtain ⟨u, r, rfl, h1, h2⟩ := h
    cases i with
    | zero => simp at e; subst e; exact ⟨d, rfl, h1⟩
    | succ i => exact RepL.get ds r i v h2 (by simpa using e)
theorem RepL.getD : ∀ (ds : List D) (vs : List V) (i : Nat) (d : D), RepL G dl S ds vs → ds[i]? = some d → ∃ v, vs[i]? = some v ∧ Rep G dl S d v
  | [], vs, i, v, h, e => by simp at e
  | d' :: ds, vs, i, d, h, e => by
    unfold RepL at h
    obtain ⟨u, r, rfl, h1, h2⟩ := h
    cases i with
    | zero => simp at e; subst e; exact ⟨u, rfl, h1⟩
    | succ i => exact RepL.getD ds r i d h2 (by simpa using e)
theorem RepL.take : ∀ {ds : List D} {vs : List V} (n : Nat), RepL G dl S ds vs → RepL G dl S (ds.take n) (vs.take n)
  | _, _, 0, _ => by simp only [List.take_zero]; exact RepL.nil
  | [], vs, n + 1, h => by unfold RepL at h; subst h; exact RepL.nil
  | d :: ds, vs, n + 1, h => by
    unfold RepL at h
    obtain ⟨u, r, rfl, h1, h2⟩ := h
    exact RepL.cons h1 (RepL.take n h2)
theorem RepL.drop : ∀ {ds : List D} {vs : List V} (n : Nat), RepL G dl S ds vs → RepL G dl S (ds.drop n) (vs.drop n)
  | _, _, 0, h => h
  | [], vs, n + 1, h => by unfold RepL at h; subst h; exact RepL.nil
  | d :: ds, vs, n + 1, h => by
    unfold RepL at h
    obtain ⟨u, r, rfl, h1, h2⟩ := h
    exact RepL.drop n h2
theorem RepL.set : ∀ {ds : List D} {vs : List V} {d : D} {v : V} (n : Nat), RepL G dl S ds vs → Rep G dl S d v → RepL G dl S (ds.set n d) (vs.set n v)
  | [], vs, d, v, n, h, _ => by unfold RepL at h; subst h; exact RepL.nil
  | d' :: ds, vs, d, v, 0, h, q => by
    unfold RepL at h
    obtain ⟨u, r, rfl, h1, h2⟩ := h
    exact RepL.cons q h2
  | d' :: ds, vs, d, v, n + 1, h, q => by
    unfold RepL at h
    obtain ⟨u, r, rfl, h1, h2⟩ := h
    exact RepL.cons h1 (RepL.set n h2 q)
end
/-- without some addresses -/
def cut (H : Hp) (Z : List Addr) : Hp := fun a => if a ∈ Z then none else H a
theorem cut_in {H : Hp} {Z : List Addr} {a : Addr} (h : a ∈ Z) : cut H Z a = none := if_pos h
theorem cut_out {H : Hp} {Z : List Addr} {a : Addr} (h : a ∉ Z) : cut H Z a = H a := if_neg h
theorem cut_some {H : Hp} {Z : List Addr} {a : Addr} {o : HO} (h : cut H Z a = some o) : a ∉ Z ∧ H a = some o := by
  unfold cut at h
  split at h
  · cases h
  · exact ⟨by assumption, h⟩
theorem cut_grow (H : Hp) (Z : List Addr) : GrowS (cut H Z) H := fun a o h _ => (cut_some h).2
theorem cut_sub {H : Hp} {Z Z' : List Addr} (h : ∀ a ∈ Z', a ∈ Z) : GrowS (cut H Z) (cut H Z') := fun a o e _ => by
  obtain ⟨h1, h2⟩ := cut_some e
  rw [cut_out fun q => h1 (h a q)]
  exact h2
def Grow (dl : Addr) (H H' : Hp) : Prop := ∀ a o, H a = some o → a ≠ dl → (∀ ps, o ≠ .tbl ps) → H' a = some o
theorem Grow.refl (dl : Addr) (H : Hp) : Grow dl H H := fun _ _ h _ _ => h
theorem Grow.trans {dl : Addr} {H H1 H2 : Hp} (a : Grow dl H H1) (b : Grow dl H1 H2) : Grow dl H H2 := fun c o h n m => b c o (a c o h n m) n m
theorem Grow.new {dl : Addr} {H : Hp} {p : Addr} {o : HO} (h : H p = none) : Grow dl H (upd H p o) := fun a u e _ _ => by
  rw [upd_ne (ne_of_none e h)]; exact e
theorem Grow.cut {dl : Addr} {H H' : Hp} {Z : List Addr} (g : Grow dl H H') (hz : dl ∈ Z) : GrowS (cut H Z) (cut H' Z) := fun a o e n => by
  obtain ⟨h1, h2⟩ := cut_some e
  rw [cut_out h1]
  exact g a o h2 (fun q => h1 (q ▸ hz)) n
def isX : HO → Bool
  | .tbl _ => true
  | .ext _ => true
  | _ => false
/-- the object at c is a code object of the name q, its table at P -/
def CodeN (c : Addr) (q : Str) (P : Addr) : HO := .ext fun h => (∃ (oc : Obj) (vs : Array Value) (t : Tok), h.get? c = some oc ∧ oc.data = .fields vs ∧ vs[1]? = some (.str q t)) ∧ PySem.W.CodeHd h c P
/-- the name of a code object made in a frame of the prefix q -/
def nam_ (q : Str) : Bool → Str
  | true => q ++ "<lambda>"
  | false => q ++ "<genexpr>"
/-- the prefix of its frames -/
def pre_ (q : Str) : Bool → Str
  | true => q ++ "<lambda>" ++ ".<locals>."
  | false => q ++ "<genexpr>."
/-- a code object made: its address, name, prefix, table -/
abbrev Cob := Addr × Str × Str × Addr
/-- the table at P is that of frames of the prefix q: T those told, C those made since -/
def TQ (T : List (Addr × Str)) (C : List Cob) (P : Addr) (q : Str) : Prop := (P, q) ∈ T ∨ ∃ c n, (c, n, q, P) ∈ C
structure CTC (kd : Nat → Nat → Bool) (T : List (Addr × Str)) (C : List Cob) (H : Hp) : Prop where
  obj : ∀ k ∈ C, H k.1 = some (CodeN k.1 k.2.1 k.2.2.2)
  tab : ∀ P q, TQ T C P q → ∃ ps : Array Value, H P = some (.tbl ps) ∧ TriplesOk ps.toList ∧ ∀ (pos : Pos) (cv : Value), codeAmong pos ps.toList = some cv → ∃ c P2, cv = .ref c ∧ (c, nam_ q (kd pos.line pos.col), pre_ q (kd pos.line pos.col), P2) ∈ C
  unq : ∀ P q q', TQ T C P q → TQ T C P q' → q = q'
def CT (kd : Nat → Nat → Bool) (T : List (Addr × Str)) (S : List (Addr × Addr × Str)) (H : Hp) : Prop := (∃ C, CTC kd (T ++ S.map (·.2)) C H) ∧ ∀ x ∈ S, ∃ n, H x.1 = some (CodeN x.1 n x.2.1)
section
variable {kd : Nat → Nat → Bool} {T : List (Addr × Str)} {S : List (Addr × Addr × Str)} {C : List Cob} {H H' : Hp}
theorem CTC.same (g : CTC kd T C H) (e : ∀ b o, isX o = true → H b = some o → H' b = some o) : CTC kd T C H' :=
  ⟨fun k hk => e _ _ rfl (g.obj k hk), fun P q h => let ⟨ps, h1, h2, h3⟩ := g.tab P q h; ⟨ps, e _ _ rfl h1, h2, h3⟩, g.unq⟩
theorem CT.same (g : CT kd T S H) (e : ∀ b o, isX o = true → H b = some o → H' b = some o) : CT kd T S H' :=
  ⟨let ⟨C, h⟩ := g.1; ⟨C, h.same e⟩, fun x hx => let ⟨n, h⟩ := g.2 x hx; ⟨n, e _ _ rfl h⟩⟩
/-- a thing that is none of these is written -/
theorem CT.upd {a : Addr} {o u : HO} (g : CT kd T S H) (h : H a = some o) (ho : isX o = false) : CT kd T S (upd H a u) := g.same fun b v hv e => by
  rw [upd_ne]
  · exact e
  · intro z
    rw [z, h] at e
    cases e
    rw [ho] at hv
    cases hv
theorem CT.cut {a : Addr} {o : HO} (g : CT kd T S H) (h : H a = some o) (ho : isX o = false) : CT kd T S (cut H [a]) := g.same fun b v hv e => by
  rw [cut_out]
  · exact e
  · intro z
    rw [List.mem_singleton.mp z, h] at e
    cases e
    rw [ho] at hv
    cases hv
/-- at the beginning -/
theorem CT.nil (hU : ∀ p ∈ T, ∀ q ∈ T, p.1 = q.1 → p.2 = q.2) (hT : ∀ p ∈ T, H p.1 = some (.tbl #[])) : CT kd T [] H := by
  have tq : ∀ P q, TQ (T ++ []) [] P q → (P, q) ∈ T := fun P q h => by
    rw [List.append_nil] at h
    exact h.elim id fun ⟨c, n, z⟩ => by cases z
  refine ⟨⟨[], fun k hk => (by cases hk), fun P q h => ⟨#[], hT _ (tq P q h), True.intro, fun pos cv hc => ?_⟩, fun P q q' h1 h2 => hU _ (tq P q h1) _ (tq P q' h2) rfl⟩, fun x hx => by cases hx⟩
  have z : codeAmong pos [] = some cv := hc
  simp [codeAmong] at z
/-- the innermost frame is left -/
theorem CT.drop {x : Addr × Addr × Str} (g : CT kd T (x :: S) H) : CT kd T S H := by
  obtain ⟨⟨C, h⟩, h2⟩ := g
  have tq : ∀ P q, TQ (T ++ S.map (·.2)) C P q → TQ (T ++ (x :: S).map (·.2)) C P q := fun P q h => h.elim (fun h => .inl (by
    rcases List.mem_append.mp h with h | h
    · exact List.mem_append_left _ h
    · exact List.mem_append_right _ (List.mem_cons_of_mem _ h))) .inr
  exact ⟨⟨C, h.obj, fun P q z => h.tab P q (tq P q z), fun P q q' z z' => h.unq P q q' (tq P q z) (tq P q' z')⟩, fun y hy => h2 y (List.mem_cons_of_mem _ hy)⟩
end
def DiceOk (H : Hp) (dl : Addr) : Prop := ∃ x y z : Int, H dl = some (.lst [.int x, .int y, .int z])
structure GlOk (G : Gm) (dl : Addr) (H : Hp) : Prop where
  dice : DiceOk H dl
  tab : CT G.kd G.tabs G.subs H
theorem GlOk.same {G : Gm} {dl : Addr} {H H' : Hp} (g : GlOk G dl H) (e : ∀ b o, H b = some o → H' b = some o) : GlOk G dl H' := by
  obtain ⟨x, y, z, h⟩ := g.dice
  exact ⟨⟨x, y, z, e _ _ h⟩, g.tab.same fun b o _ => e b o⟩
theorem same_new {H : Hp} {p : Addr} {o : HO} (h : H p = none) : ∀ b u, H b = some u → (upd H p o) b = some u := fun b u e => by
  rw [upd_ne (ne_of_none e h)]; exact e
theorem GlOk.new {G : Gm} {dl : Addr} {H : Hp} {p : Addr} {o : HO} (g : GlOk G dl H) (h : H p = none) : GlOk G dl (upd H p o) := g.same (same_new h)
inductive Cell where
  | un
  | val (d : D)
  | own (d : D)
abbrev LE := List Cell
def OwnAt (G : Gm) (dl : Addr) (S : Hp) (d : D) (o : Option HO) : Prop := match d with
  | .lst ds => ∃ vs, o = some (.lst vs) ∧ RepL G dl S ds vs
  | .dic kvs => ∃ (kv : List (Key × V)), o = some (.dK kv) ∧ RepK G dl S kvs kv
  | .ins c ds => ∃ (dx : Addr) (vs : List V), o = some (.ins (G.cls c) dx ((G.flds c).zip vs)) ∧ vs.length ≤ (G.flds c).length ∧ RepL G dl S ds vs
  | .tdic kvs => ∃ (kv : List (List Key × V)), o = some (.dT kv) ∧ RepT G dl S kvs kv
  | _ => False
/-- the self of an __init__ stands in slot 0, under a mark of its own -/
def kee (i : Nat) : D → Nat
  | .ins _ _ => 1000000
  | _ => i
def keeOk (i : Nat) : D → Prop
  | .ins _ _ => i = 0
  | _ => i ≠ 1000000
theorem kee_inj {i j : Nat} {d e : D} (h1 : keeOk i d) (h2 : keeOk j e) (h : kee i d = kee j e) : i = j := by
  cases d <;> cases e <;> simp_all [kee, keeOk]
def Slot (G : Gm) (dl : Addr) (Z : List Addr) (O : List (Nat × Addr)) (H : Hp) (i : Nat) (x : Option (Option V)) : Cell → Prop
  | .un => True
  | .val d => ∃ v, x = some (some v) ∧ Rep G dl (cut H Z) d v
  | .own d => ∃ a, (kee i d, a) ∈ O ∧ x = some (some (.ref a)) ∧ OwnAt G dl (cut H Z) d (H a) ∧ keeOk i d
/-- tables of code objects, tuples -/
inductive NK where
  | tbl (ps : Array Value)
  | tup (xs : List V)
def NK.ho : NK → HO
  | .tbl ps => .tbl ps
  | .tup xs => .tup xs
abbrev NT (o : HO) : Prop := ∀ t : NK, o ≠ t.ho
theorem NT.tb {o : HO} (h : NT o) : ∀ ps, o ≠ .tbl ps := fun ps => h (.tbl ps)
theorem NT.lst (xs : List V) : NT (.lst xs) := fun t z => by cases t <;> cases z
theorem NT.dK (xs : List (Key × V)) : NT (.dK xs) := fun t z => by cases t <;> cases z
theorem NT.dT (xs : List (List Key × V)) : NT (.dT xs) := fun t z => by cases t <;> cases z
theorem NT.tu {o : HO} (h : NT o) : ∀ xs, o ≠ .tup xs := fun xs => h (.tup xs)
/-- the state at hand: r the slots as data, O the addresses of owned lists and dicts, Z all that is not to be leant on -/
structure At (G : Gm) (dl : Addr) (Z : List Addr) (O : List (Nat × Addr)) (r : LE) (sg : St) (H : Hp) : Prop where
  gl : GlOk G dl H
  dz : dl ∈ Z
  live : ∀ a ∈ Z, ∃ o, H a = some o ∧ NT o
  own : ∀ p ∈ O, p.2 ∈ Z ∧ p.2 ≠ dl
  inj : ∀ p ∈ O, ∀ q ∈ O, p.2 = q.2 → p = q
  len : r.length = sg.length
  slot : ∀ i c, r[i]? = some c → Slot G dl Z O H i sg[i]? c
theorem OwnAt.mono {G : Gm} {dl : Addr} {S S' : Hp} {d : D} {o : Option HO} (g : GrowS S S') (h : OwnAt G dl S d o) : OwnAt G dl S' d o := by
  unfold OwnAt at *
  split at h
  · obtain ⟨vs, e, r⟩ := h; exact ⟨vs, e, r.mono g⟩
  · obtain ⟨kv, e, r⟩ := h; exact ⟨kv, e, r.mono g⟩
  · obtain ⟨dx, vs, e, k, r⟩ := h; exact ⟨dx, vs, e, k, r.mono g⟩
  · obtain ⟨kv, e, r⟩ := h; exact ⟨kv, e, r.mono g⟩
  · exact h
theorem OwnAt.notTbl {G : Gm} {dl : Addr} {S : Hp} {d : D} {o : Option HO} (h : OwnAt G dl S d o) : ∃ u, o = some u ∧ NT u := by
  unfold OwnAt at h
  split at h
  · obtain ⟨vs, e, r⟩ := h; exact ⟨_, e, fun ps z => by cases ps <;> cases z⟩
  · obtain ⟨kv, e, r⟩ := h; exact ⟨_, e, fun ps z => by cases ps <;> cases z⟩
  · obtain ⟨dx, vs, e, k, r⟩ := h; exact ⟨_, e, fun ps z => by cases ps <;> cases z⟩
  · obtain ⟨kv, e, r⟩ := h; exact ⟨_, e, fun ps z => by cases ps <;> cases z⟩
  · exact h.elim
theorem At.grow {G : Gm} {dl : Addr} {Z : List Addr} {O : List (Nat × Addr)} {r : LE} {sg : St} {H H' : Hp} (h : At G dl Z O r sg H) (g : Grow dl H H') (gl : GlOk G dl H') : At G dl Z O r sg H' := by
  refine ⟨gl, h.dz, fun a ha => ?_, h.own, h.inj, h.len, fun i c e => ?_⟩
  · by_cases q : a = dl
    · obtain ⟨x, y, z, e⟩ := gl.dice
      exact ⟨_, by rw [q]; exact e, fun ps z => by cases ps <;> cases z⟩
    · obtain ⟨o, e, n⟩ := h.live a ha
      exact ⟨o, g a o e q n.tb, n⟩
  · have := h.slot i c e
    cases c with
    | un => trivial
    | val d =>
      obtain ⟨v, e, q⟩ := this
      exact ⟨v, e, q.mono (g.cut h.dz)⟩
    | own d =>
      obtain ⟨a, ha, e, q, ko⟩ := this
      obtain ⟨u, hu, nt⟩ := q.notTbl
      refine ⟨a, ha, e, ?_, ko⟩
      rw [g a u hu (h.own _ ha).2 nt.tb, ← hu]
      exact q.mono (g.cut h.dz)
/-- what of an exception is known -/
def XRep (G : Gm) (dl : Addr) (S : Hp) (e : Exc) (cls : Value) (dx : Option Addr) (H : Hp) : Prop :=
  cls = .ref (G.xcls e.cls) ∧ match G.xfld e.cls with
    | none => e.arg = .non
    | some f => ∃ d v, dx = some d ∧ H d = some (.xd [(f, v)]) ∧ Rep G dl S e.arg v
def tD (G : Gm) (W : WX) (f : LE → R D) : TE := fun sg H Q => ∃ dl Z O r, At G dl Z O r sg H ∧
  Wp (f r) (fun d => ∀ v H', Grow dl H H' → GlOk G dl H' → Rep G dl (cut H' Z) d v → Q v H')
    (fun e => ∀ cls dx H', Grow dl H H' → GlOk G dl H' → XRep G dl (cut H' Z) e cls dx H' → W cls dx sg H')
/-- a new list -/
def tF (G : Gm) (W : WX) (f : LE → R (List D)) : TE := fun sg H Q => ∃ dl Z O r, At G dl Z O r sg H ∧
  Wp (f r) (fun ds => ∀ p vs H', Grow dl H H' → GlOk G dl H' → H' p = none → RepL G dl (cut H' Z) ds vs → Q (.ref p) (upd H' p (.lst vs)))
    (fun e => ∀ cls dx H', Grow dl H H' → GlOk G dl H' → XRep G dl (cut H' Z) e cls dx H' → W cls dx sg H')
def tT (G : Gm) (W : WX) (f : LE → R Bool) : TT := fun sg H Q => ∃ dl Z O r, At G dl Z O r sg H ∧
  Wp (f r) (fun b => ∀ H', Grow dl H H' → GlOk G dl H' → Q b H')
    (fun e => ∀ cls dx H', Grow dl H H' → GlOk G dl H' → XRep G dl (cut H' Z) e cls dx H' → W cls dx sg H')
def tA (G : Gm) (W : WX) (f : LE → R (List D)) : TA := fun sg H Q => ∃ dl Z O r, At G dl Z O r sg H ∧
  Wp (f r) (fun ds => ∀ vs H', Grow dl H H' → GlOk G dl H' → RepL G dl (cut H' Z) ds vs → Q vs H')
    (fun e => ∀ cls dx H', Grow dl H H' → GlOk G dl H' → XRep G dl (cut H' Z) e cls dx H' → W cls dx sg H')
/-- an expression that may be an owned list or dict, read at once -/
def RepP (G : Gm) (dl : Addr) (H : Hp) (Z : List Addr) (d : D) (v : V) : Prop :=
  Rep G dl (cut H Z) d v ∨ ∃ a, v = .ref a ∧ a ∈ Z ∧ a ≠ dl ∧ OwnAt G dl (cut H Z) d (H a)
def tP (G : Gm) (W : WX) (f : LE → R D) : TE := fun sg H Q => ∃ dl Z O r, At G dl Z O r sg H ∧
  Wp (f r) (fun d => ∀ v H', Grow dl H H' → GlOk G dl H' → RepP G dl H' Z d v → Q v H')
    (fun e => ∀ cls dx H', Grow dl H H' → GlOk G dl H' → XRep G dl (cut H' Z) e cls dx H' → W cls dx sg H')
abbrev DE (X : Cx) (G : Gm) (W : WX) (e : Expr) (f : LE → R D) : Prop := PE X e (tD G W f)
abbrev DF (X : Cx) (G : Gm) (W : WX) (e : Expr) (f : LE → R (List D)) : Prop := PE X e (tF G W f)
abbrev DP (X : Cx) (G : Gm) (W : WX) (e : Expr) (f : LE → R D) : Prop := PE X e (tP G W f)
abbrev DT (X : Cx) (G : Gm) (W : WX) (e : Expr) (f : LE → R Bool) : Prop := PT X e (tT G W f)
abbrev DW (X : Cx) (G : Gm) (W : WX) (e : Expr) (f : LE → R Bool) : Prop := PW X e (tT G W f)
abbrev DA (X : Cx) (G : Gm) (W : WX) (es : List Expr) (f : LE → R (List D)) : Prop := PA X es (tA G W f)
theorem PE_imp {X : Cx} {e : Expr} {t t' : TE} (h : PE X e t) (i : ∀ sg H Q, t' sg H Q → t sg H Q) : PE X e t' := ⟨fun pins s sg H Q I q => h.run pins s sg H Q I (i _ _ _ q)⟩
theorem PT_imp {X : Cx} {e : Expr} {t t' : TT} (h : PT X e t) (i : ∀ sg H Q, t' sg H Q → t sg H Q) : PT X e t' := ⟨fun pins s sg H Q I q => h.run pins s sg H Q I (i _ _ _ q)⟩
theorem PW_imp {X : Cx} {e : Expr} {t t' : TT} (h : PW X e t) (i : ∀ sg H Q, t' sg H Q → t sg H Q) : PW X e t' := ⟨fun wh pins s sg H Q I q => h.run wh pins s sg H Q I (i _ _ _ q)⟩
theorem PA_imp {X : Cx} {e : List Expr} {t t' : TA} (h : PA X e t) (i : ∀ sg H Q, t' sg H Q → t sg H Q) : PA X e t' := ⟨fun pos pins s sg H Q I q => h.run pos pins s sg H Q I (i _ _ _ q)⟩
theorem PS_imp {X : Cx} {e : Stmt} {t t' : TS} (h : PS X e t) (i : ∀ De sg H, t' De sg H → t De sg H) : PS X e t' := ⟨fun pins s sg H De I q => h.run pins s sg H De I (i _ _ _ q)⟩
theorem PSs_imp {X : Cx} {e : List Stmt} {t t' : TS} (h : PSs X e t) (i : ∀ De sg H, t' De sg H → t De sg H) : PSs X e t' := ⟨fun pins s sg H De I q => h.run pins s sg H De I (i _ _ _ q)⟩
inductive Out where
  | nx (r : LE)
  | rt (d : D)
  | bk (r : LE)
  | ct (r : LE)
  | ex (e : Exc) (r : LE)
def Free (H : Hp) (a : Addr) : Prop := ∀ o, H a = some o → ∃ ps, o = .tbl ps
theorem Free.of {H : Hp} {a : Addr} (h : H a = none) : Free H a := fun o e => by rw [h] at e; cases e
structure Stp (dl : Addr) (Z : List Addr) (O : List (Nat × Addr)) (H : Hp) (Z' : List Addr) (O' : List (Nat × Addr)) (H' : Hp) : Prop where
  fr : ∀ a o, H a = some o → a ≠ dl → (∀ p ∈ O, p.2 ≠ a) → (∀ ps, o ≠ .tbl ps) → H' a = some o
  op : ∀ p ∈ O', (∃ q ∈ O, q.2 = p.2) ∨ Free H p.2
  zk : ∀ a ∈ Z, (∀ p ∈ O, p.2 ≠ a) → a ∈ Z'
  zn : ∀ a ∈ Z', a ∈ Z ∨ Free H a
  sf : ∀ a, (1000000, a) ∈ O' → (1000000, a) ∈ O
  dom : ∀ a, Free H' a → Free H a
theorem Stp.refl {dl : Addr} {Z : List Addr} {O : List (Nat × Addr)} {H : Hp} : Stp dl Z O H Z O H :=
  ⟨fun _ _ h _ _ _ => h, fun p hp => .inl ⟨p, hp, rfl⟩, fun _ h _ => h, fun _ h => .inl h, fun _ h => h, fun _ h => h⟩
theorem Grow.dom {G : Gm} {dl : Addr} {H H' : Hp} (g : Grow dl H H') (gl : GlOk G dl H') : ∀ a, Free H' a → Free H a := fun a f o q => by
  by_cases d : a = dl
  · obtain ⟨x, y, z, h⟩ := gl.dice
    obtain ⟨ps, e⟩ := f _ (d ▸ h)
    cases e
  · by_cases t : ∃ ps, o = .tbl ps
    · exact t
    · exact f o (g a o q d fun ps z => t ⟨ps, z⟩)
theorem Stp.of_grow {G : Gm} {dl : Addr} {Z : List Addr} {O : List (Nat × Addr)} {H H' : Hp} (g : Grow dl H H') (gl : GlOk G dl H') : Stp dl Z O H Z O H' :=
  ⟨fun a o h n _ t => g a o h n t, fun p hp => .inl ⟨p, hp, rfl⟩, fun _ h _ => h, fun _ h => .inl h, fun _ h => h, g.dom gl⟩
theorem Stp.trans {G : Gm} {dl : Addr} {Z Z1 Z2 : List Addr} {O O1 O2 : List (Nat × Addr)} {r : LE} {sg : St} {H H1 H2 : Hp} (hz : At G dl Z O r sg H) (a : Stp dl Z O H Z1 O1 H1) (b : Stp dl Z1 O1 H1 Z2 O2 H2) : Stp dl Z O H Z2 O2 H2 := by
  have key : ∀ c, (∃ o, H c = some o ∧ ∀ ps, o ≠ .tbl ps) → (∀ p ∈ O, p.2 ≠ c) → ∀ p ∈ O1, p.2 ≠ c := fun c ⟨o, ho, nt⟩ hn p hp e => by
    rcases a.op p hp with ⟨q, hq, eq⟩ | q
    · exact hn q hq (eq.trans e)
    · obtain ⟨ps, z⟩ := q o (e ▸ ho)
      exact nt ps z
  refine ⟨fun c o h n m t => b.fr c o (a.fr c o h n m t) n (key c ⟨o, h, t⟩ m) t, fun p hp => ?_, fun c hc m => b.zk c (a.zk c hc m) (key c (let ⟨o, e, n⟩ := hz.live c hc; ⟨o, e, n.tb⟩) m), fun c hc => (b.zn c hc).elim (a.zn c) fun f => .inr (a.dom c f), fun c h => a.sf c (b.sf c h), fun c h => a.dom c (b.dom c h)⟩
  rcases b.op p hp with ⟨q, hq, eq⟩ | q
  · rcases a.op q hq with ⟨q', h1, h2⟩ | h1
    · exact .inl ⟨q', h1, h2.trans eq⟩
    · exact .inr (eq ▸ h1)
  · exact .inr (a.dom _ q)
theorem Stp.cut {G : Gm} {dl : Addr} {Z Z' : List Addr} {O O' : List (Nat × Addr)} {r : LE} {sg : St} {H H' : Hp} (A : At G dl Z O r sg H) (s : Stp dl Z O H Z' O' H') : GrowS (cut H Z) (cut H' Z') := fun a o e n => by
  obtain ⟨e1, e2⟩ := cut_some e
  have hz : a ∉ Z' := fun hz => by
    rcases s.zn a hz with h | h
    · exact e1 h
    · obtain ⟨ps, q⟩ := h o e2
      exact n ps q
  rw [cut_out hz]
  exact s.fr a o e2 (fun q => e1 (by rw [q]; exact A.dz)) (fun p hp q => e1 (by rw [← q]; exact (A.own p hp).1)) n
/-- what is wanted behind a statement -/
def SPost (G : Gm) (W : WX) (De : Ends) (dl : Addr) (Z : List Addr) (O : List (Nat × Addr)) (H : Hp) : Out → Prop
  | .nx r' => ∀ Z' O' sg' H', Stp dl Z O H Z' O' H' → At G dl Z' O' r' sg' H' → De.nx sg' H'
  | .bk r' => ∀ Z' O' sg' H', Stp dl Z O H Z' O' H' → At G dl Z' O' r' sg' H' → De.bk sg' H'
  | .ct r' => ∀ Z' O' sg' H', Stp dl Z O H Z' O' H' → At G dl Z' O' r' sg' H' → De.ct sg' H'
  | .rt d => ∀ Z' O' v H', Stp dl Z O H Z' O' H' → GlOk G dl H' → Rep G dl (cut H' Z') d v → De.rt v H'
  | .ex e r' => ∀ Z' O' sg' H' cls dx, Stp dl Z O H Z' O' H' → At G dl Z' O' r' sg' H' → XRep G dl (cut H' Z') e cls dx H' → W cls dx sg' H'
theorem SPost.trans {G : Gm} {W : WX} {De : Ends} {dl : Addr} {Z Z1 : List Addr} {O O1 : List (Nat × Addr)} {r : LE} {sg : St} {H H1 : Hp} (A : At G dl Z O r sg H) (st : Stp dl Z O H Z1 O1 H1) : ∀ {o : Out}, SPost G W De dl Z O H o → SPost G W De dl Z1 O1 H1 o
  | .nx r', h => fun Z' O' sg' H' s a => h Z' O' sg' H' (Stp.trans A st s) a
  | .bk r', h => fun Z' O' sg' H' s a => h Z' O' sg' H' (Stp.trans A st s) a
  | .ct r', h => fun Z' O' sg' H' s a => h Z' O' sg' H' (Stp.trans A st s) a
  | .rt d, h => fun Z' O' v H' s g a => h Z' O' v H' (Stp.trans A st s) g a
  | .ex e r', h => fun Z' O' sg' H' c d s a x => h Z' O' sg' H' c d (Stp.trans A st s) a x
/-- a statement's reading: F the state as data -/
def tS (G : Gm) (W : WX) (F : LE → R Out) : TS := fun De sg H => ∃ dl Z O r, At G dl Z O r sg H ∧ Wp (F r) (SPost G W De dl Z O H) (fun _ => False)
abbrev DS (X : Cx) (G : Gm) (W : WX) (st : Stmt) (F : LE → R Out) : Prop := PS X st (tS G W F)
abbrev DSs (X : Cx) (G : Gm) (W : WX) (sts : List Stmt) (F : LE → R Out) : Prop := PSs X sts (tS G W F)
end DL
set_option Elab.async false
set_option linter.all false
set_option maxRecDepth 100000
namespace DL
open PySem L2
section
variable {G : Gm} {dl : Addr} {Z : List Addr} {O : List (Nat × Addr)} {r : LE} {sg : St} {H H' H1 H2 : Hp} {W : WX} {d : D} {v : V}
theorem At.out (A : At G dl Z O r sg H) {p : Addr} (h : H p = none) : p ∉ Z := fun hz => by
  obtain ⟨o, e, _⟩ := A.live p hz
  rw [h] at e; cases e
theorem At.notdl (A : At G dl Z O r sg H) {p : Addr} (h : H p = none) : p ≠ dl := fun e => A.out h (e ▸ A.dz)
theorem RepP.grow (A : At G dl Z O r sg H) (g : Grow dl H H') (h : RepP G dl H Z d v) : RepP G dl H' Z d v := by
  rcases h with h | ⟨a, e, hz, hd, q⟩
  · exact .inl (h.mono (g.cut A.dz))
  · obtain ⟨u, hu, nt⟩ := q.notTbl
    refine .inr ⟨a, e, hz, hd, ?_⟩
    rw [g a u hu hd nt.tb, ← hu]
    exact q.mono (g.cut A.dz)
theorem RepP.of (h : Rep G dl (cut H Z) d v) : RepP G dl H Z d v := .inl h
/-- a new object -/
theorem Rep.tup_new (A : At G dl Z O r sg H) {p : Addr} {ds : List D} {vs : List V} (h : H p = none) (q : RepL G dl (cut H Z) ds vs) : Rep G dl (cut (upd H p (.tup vs)) Z) (.tup ds) (.ref p) := by
  unfold Rep
  refine ⟨p, vs, rfl, (by rw [cut_out (A.out h), upd_same]), q.mono ((Grow.new h).cut A.dz)⟩
theorem Rep.lst_new (A : At G dl Z O r sg H) {p : Addr} {ds : List D} {vs : List V} (h : H p = none) (q : RepL G dl (cut H Z) ds vs) : Rep G dl (cut (upd H p (.lst vs)) Z) (.lst ds) (.ref p) := by
  unfold Rep
  refine ⟨p, vs, rfl, by rw [cut_out (A.out h), upd_same], q.mono ((Grow.new h).cut A.dz)⟩
/-- a list read: tracked -/
theorem RepP.lst {ds : List D} (h : RepP G dl H Z (.lst ds) v) : ∃ a vs, v = .ref a ∧ H a = some (.lst vs) ∧ RepL G dl (cut H Z) ds vs := by
  rcases h with h | ⟨a, e, hz, hd, q⟩
  · unfold Rep at h
    obtain ⟨a, vs, e, q, rl⟩ := h
    exact ⟨a, vs, e, (cut_some q).2, rl⟩
  · obtain ⟨vs, e2, rl⟩ := q
    exact ⟨a, vs, e, e2, rl⟩
theorem RepP.tup {ds : List D} (h : RepP G dl H Z (.tup ds) v) : ∃ a vs, v = .ref a ∧ SqT G.K H a vs ∧ RepL G dl (cut H Z) ds vs := by
  rcases h with h | ⟨a, e, hz, hd, q⟩
  · unfold Rep at h
    obtain ⟨a, vs, e, q, rl⟩ := h
    exact ⟨a, vs, e, (cut_grow H Z).sqt (SqT.of q), rl⟩
  · exact q.elim
theorem RepP.str {x : List Nat} (h : RepP G dl H Z (.str x) v) : v = .str ⟨x.toArray⟩ := by
  rcases h with h | ⟨a, e, hz, hd, q⟩
  · unfold Rep at h; exact h
  · exact q.elim
theorem RepP.int {x : Int} (h : RepP G dl H Z (.int x) v) : v = .int x := by
  rcases h with h | ⟨a, e, hz, hd, q⟩
  · unfold Rep at h; exact h
  · exact q.elim
theorem RepP.bl {x : Bool} (h : RepP G dl H Z (.bl x) v) : v = .bl x := by
  rcases h with h | ⟨a, e, hz, hd, q⟩
  · unfold Rep at h; exact h
  · exact q.elim
theorem RepP.non (h : RepP G dl H Z .non v) : v = .non := by
  rcases h with h | ⟨a, e, hz, hd, q⟩
  · unfold Rep at h; exact h
  · exact q.elim
theorem Rep.int_ {S : Hp} {x : Int} : Rep G dl S (.int x) (.int x) := by unfold Rep; rfl
theorem Rep.bl_ {S : Hp} {x : Bool} : Rep G dl S (.bl x) (.bl x) := by unfold Rep; rfl
theorem Rep.non_ {S : Hp} : Rep G dl S .non .non := by unfold Rep; rfl
theorem Rep.str_ {S : Hp} {x : List Nat} : Rep G dl S (.str x) (.str ⟨x.toArray⟩) := by unfold Rep; rfl
/-- what is wanted of an error, behind a step -/
theorem epost (g1 : Grow dl H H1) {e : Exc} (h : ∀ cls dx H', Grow dl H H' → GlOk G dl H' → XRep G dl (cut H' Z) e cls dx H' → W cls dx sg H') :
    ∀ cls dx H', Grow dl H1 H' → GlOk G dl H' → XRep G dl (cut H' Z) e cls dx H' → W cls dx sg H' := fun cls dx H' g k x => h cls dx H' (g1.trans g) k x
end
def var (i : Nat) : LE → R D := fun r => match r[i]? with
  | some (.val d) => .ok d
  | _ => .stuck
def varP (i : Nat) : LE → R D := fun r => match r[i]? with
  | some (.val d) => .ok d
  | some (.own d) => .ok d
  | _ => .stuck
def cst (d : D) : LE → R D := fun _ => .ok d
section
variable {X : Cx} {G : Gm} {W : WX} {ex a b c : Expr} {es : List Expr} {f g : LE → R D} {pos p0 : Pos}
theorem DE.p (h : DE X G W ex f) : DP X G W ex f := PE_imp h fun sg H Q ⟨dl, Z, O, r, A, q⟩ => ⟨dl, Z, O, r, A, q.thn fun d h v H' g k rp => h v H' g k (.inl rp)⟩
theorem DF.e {f : LE → R (List D)} (h : DF X G W ex f) : DE X G W ex (fun r => (f r) >>= fun ds => .ok (.lst ds)) := PE_imp h fun sg H Q ⟨dl, Z, O, r, A, q⟩ => by
  refine ⟨dl, Z, O, r, A, q.bind.thn fun ds h p vs H' g k hp rl => ?_⟩
  exact h (.ref p) _ (g.trans (Grow.new hp)) (k.new hp) ((A.grow g k).gl |> fun _ => Rep.lst_new (A.grow g k) hp rl)
theorem de_var (i : Nat) {x : Str} (hN : X.N[i]? = some x := by rfl) (hv : Vis X.env.scope x := by first | exact Or.inl rfl | exact Or.inr (Or.inl rfl) | exact Or.inr (Or.inr rfl)) (hd : (x == ("__debug__" : Str)) = false := by decide)
    (hcd : (x == ("__classdict__" : Str)) = false := by decide) : DE X G W (.Name x pos) (var i) := PE_imp (pe_var hN hv hd hcd) fun sg H Q ⟨dl, Z, O, r, A, q⟩ => by
  unfold var at q
  split at q
  · rename_i d e
    obtain ⟨v, e1, rp⟩ := A.slot i _ e
    exact ⟨v, e1, q v H (.refl _ _) A.gl rp⟩
  · exact q.elim
theorem dp_var (i : Nat) {x : Str} (hN : X.N[i]? = some x := by rfl) (hv : Vis X.env.scope x := by first | exact Or.inl rfl | exact Or.inr (Or.inl rfl) | exact Or.inr (Or.inr rfl)) (hd : (x == ("__debug__" : Str)) = false := by decide)
    (hcd : (x == ("__classdict__" : Str)) = false := by decide) : DP X G W (.Name x pos) (varP i) := PE_imp (pe_var hN hv hd hcd) fun sg H Q ⟨dl, Z, O, r, A, q⟩ => by
  unfold varP at q
  split at q
  · rename_i d e
    obtain ⟨v, e1, rp⟩ := A.slot i _ e
    exact ⟨v, e1, q v H (.refl _ _) A.gl (.inl rp)⟩
  · rename_i d e
    obtain ⟨a, ha, e1, rp, _⟩ := A.slot i _ e
    exact ⟨_, e1, q _ H (.refl _ _) A.gl (.inr ⟨a, rfl, (A.own _ ha).1, (A.own _ ha).2, rp⟩)⟩
  · exact q.elim
theorem de_of {t : TE} {d : D} {v : V} (h : PE X ex (tC v)) (rp : ∀ dl S, Rep G dl S d v) : DE X G W ex (cst d) := PE_imp h fun sg H Q ⟨dl, Z, O, r, A, q⟩ => q v H (.refl _ _) A.gl (rp _ _)
theorem de_int {i j} : DE X G W (.Constant (.int i) j pos) (cst (.int i)) := de_of (t := tC .non) pe_int fun _ _ => Rep.int_
theorem de_bl {b j} : DE X G W (.Constant (.bool b) j pos) (cst (.bl b)) := de_of (t := tC .non) pe_bl fun _ _ => Rep.bl_
theorem de_str {x : Str} {j} (s : List Nat) (hx : x = ⟨s.toArray⟩ := by rfl) : DE X G W (.Constant (.str x) j pos) (cst (.str s)) := by
  subst hx; exact de_of (t := tC .non) pe_str fun _ _ => Rep.str_
theorem de_glob {x : Str} {v : V} {u : Value} {d : D} (hm : X.mg x = some u) (rv : RelV v u) (rp : ∀ dl S, Rep G dl S d v) (hg : Gl X x := by rfl) (hd : (x == ("__debug__" : Str)) = false := by decide) : DE X G W (.Name x pos) (cst d) :=
  de_of (t := tC .non) (pe_glob hg hm rv hd) rp
def OpD (X : Cx) (G : Gm) (fo : Value → Value → Sem Value) (g : D → D → R D) : Prop :=
  ∃ rr : R2, OpR X fo rr ∧ ∀ (dl : Addr) (Z : List Addr) (O : List (Nat × Addr)) (r : LE) (sg : St) (x y : D) (vx vy : V) (H : Hp) (Q : VK) (E : Exc → Prop), At G dl Z O r sg H → RepP G dl H Z x vx → RepP G dl H Z y vy →
    Wp (g x y) (fun d => ∀ v H', Grow dl H H' → GlOk G dl H' → Rep G dl (cut H' Z) d v → Q v H') E → rr vx vy H Q
theorem OpR.or {f : Value → Value → Sem Value} {r1 r2 : R2} (h1 : OpR X f r1) (h2 : OpR X f r2) : OpR X f (fun x y H Q => r1 x y H Q ∨ r2 x y H Q) := fun pins s sg H x y v u Q I rx ry h => by
  rcases h with h | h
  · exact h1 pins s sg H x y v u Q I rx ry h
  · exact h2 pins s sg H x y v u Q I rx ry h
theorem op_core {rr : R2} {gg : D → D → R D} (hop : ∀ (dl : Addr) (Z : List Addr) (O : List (Nat × Addr)) (r : LE) (sg : St) (x y : D) (vx vy : V) (H : Hp) (Q : VK) (E : Exc → Prop), At G dl Z O r sg H → RepP G dl H Z x vx → RepP G dl H Z y vy →
    Wp (gg x y) (fun d => ∀ v H', Grow dl H H' → GlOk G dl H' → Rep G dl (cut H' Z) d v → Q v H') E → rr vx vy H Q) {sg : St} {H : Hp} {Q : VK} (h : tD G W (fun r => do let x ← f r; let y ← g r; gg x y) sg H Q) : tOp rr (tP G W f) (tP G W g) sg H Q := by
  obtain ⟨dl, Z, O, r, A, q⟩ := h
  refine ⟨dl, Z, O, r, A, q.bind.thn fun x hx vx H1 g1 k1 rx => ?_⟩
  refine ⟨dl, Z, O, r, A.grow g1 k1, hx.bind.mono (fun y hy vy H2 g2 k2 ry => ?_) fun e he => epost g1 he⟩
  refine hop dl Z O r sg x y vx vy H2 Q _ ((A.grow g1 k1).grow g2 k2) (rx.grow (A.grow g1 k1) g2) ry (hy.thn fun d hd v H' g k rp => hd v H' ((g1.trans g2).trans g) k rp)
theorem de_op {op : Operator} {gg : D → D → R D} (ho : OpD X G (binaryOp op) gg) (ha : DP X G W a f) (hb : DP X G W b g) : DE X G W (.BinOp a op b pos) (fun r => do let x ← f r; let y ← g r; gg x y) := by
  obtain ⟨rr, h1, h2⟩ := ho
  exact PE_imp (pe_op h1 ha hb) fun sg H Q h => op_core h2 h
theorem de_cmp {op : CmpOp} {gg : D → D → R D} (ho : OpD X G (compareOp op) gg) (ha : DP X G W a f) (hb : DP X G W b g) (hm : behindInMarks op b = false := by first | exact nomark _ | rfl) : DE X G W (.Compare a [op] [b] pos) (fun r => do let x ← f r; let y ← g r; gg x y) := by
  obtain ⟨rr, h1, h2⟩ := ho
  exact PE_imp (pe_cmpR h1 ha hb hm) fun sg H Q h => op_core h2 h
/-- a value as a bool -/
def asB : D → R Bool
  | .bl b => .ok b
  | _ => .stuck
theorem tT_of {t : TE} {ff : LE → R D} (hd : ∀ sg H Q, tD G W ff sg H Q → t sg H Q) {sg : St} {H : Hp} {Q : Bool → Hp → Prop} (h : tT G W (fun r => ff r >>= asB) sg H Q) : t sg H (fun x H' => ∃ k, x = .bl k ∧ Q k H') := by
  obtain ⟨dl, Z, O, r, A, q⟩ := h
  refine hd _ _ _ ⟨dl, Z, O, r, A, q.bind.thn fun d h v H' g1 k1 rp => ?_⟩
  cases d <;> first | exact h.elim | skip
  rename_i k
  have := (RepP.of rp).bl
  exact ⟨k, this, h H' g1 k1⟩
theorem dt_cmp {op : CmpOp} {gg : D → D → R D} (ho : OpD X G (compareOp op) gg) (ha : DP X G W a f) (hb : DP X G W b g) (hm : behindInMarks op b = false := by first | exact nomark _ | rfl) : DT X G W (.Compare a [op] [b] pos) (fun r => (do let x ← f r; let y ← g r; gg x y) >>= asB) := by
  obtain ⟨rr, h1, h2⟩ := ho
  exact PT_imp (pt_cmpR h1 ha hb hm) fun sg H Q h => tT_of (t := tOp rr (tP G W f) (tP G W g)) (fun sg H Q h => op_core h2 h) h
/-- any other expression that gives a bool, as a test -/
theorem dt_val (h : DE X G W ex f) (he : ∀ whole, isTrue ex X.env whole = (do let v ← whole; standAt ex.pos; holding [v] (truthy v)) := by intro _; rfl) : DT X G W ex (fun r => f r >>= asB) :=
  PT_imp (pt_val h he) fun sg H Q q => tT_of (t := tD G W f) (fun _ _ _ z => z) q
end
end DL
set_option Elab.async false
set_option linter.all false
set_option maxRecDepth 100000
namespace DL
open PySem L2
mutual
def D.eqb : D → D → Bool
  | .non, .non => true
  | .bl a, .bl b => a == b
  | .bl a, .int j => (if a then 1 else 0) == j
  | .int i, .bl b => i == (if b then 1 else 0)
  | .int i, .int j => i == j
  | .str x, .str y => x == y
  | .lst xs, .lst ys => D.eqbs xs ys
  | .tup xs, .tup ys => D.eqbs xs ys
  | _, _ => false
def D.eqbs : List D → List D → Bool
  | [], [] => true
  | x :: xs, y :: ys => D.eqb x y && D.eqbs xs ys
  | _, _ => false
end
mutual
/-- plain data, at most n deep -/
def D.sh : D → Nat → Bool
  | .non, _ => true
  | .bl _, _ => true
  | .int _, _ => true
  | .str s, _ => s.all (· < 0x110000)
  | .lst xs, n => match n with
    | 0 => false
    | n + 1 => D.shs xs n
  | .tup xs, n => match n with
    | 0 => false
    | n + 1 => D.shs xs n
  | _, _ => false
def D.shs : List D → Nat → Bool
  | [], _ => true
  | x :: xs, n => D.sh x n && D.shs xs n
end
mutual
def D.toP : D → PyData
  | .bl b => .bool b
  | .int i => .int i
  | .str s => .str ⟨s.toArray⟩
  | .lst xs => .list (D.toPs xs)
  | .tup xs => .tuple (D.toPs xs)
  | _ => .none
def D.toPs : List D → List PyData
  | [] => []
  | x :: xs => D.toP x :: D.toPs xs
end
mutual
theorem sh_lay : ∀ (d : D) (n : Nat), d.sh n = true → (d.toP).canLay0 = true ∧ (d.toP).depth ≤ n
  | .non, n, h => by simp [D.toP, PyData.canLay0, PyData.depth]
  | .bl b, n, h => by simp [D.toP, PyData.canLay0, PyData.depth]
  | .int i, n, h => by simp [D.toP, PyData.canLay0, PyData.depth]
  | .str s, n, h => by
    simp only [D.sh] at h
    refine ⟨?_, by simp [D.toP, PyData.depth]⟩
    simp only [D.toP, PyData.canLay0, PyData.strOk]
    simpa using h
  | .lst xs, 0, h => by simp [D.sh] at h
  | .lst xs, n + 1, h => by
    simp only [D.sh] at h
    have := shs_lay xs n h
    simp only [D.toP, PyData.canLay0, PyData.depth]
    exact ⟨this.1, by omega⟩
  | .tup xs, 0, h => by simp [D.sh] at h
  | .tup xs, n + 1, h => by
    simp only [D.sh] at h
    have := shs_lay xs n h
    simp only [D.toP, PyData.canLay0, PyData.depth]
    exact ⟨this.1, by omega⟩
  | .dic _, n, h => by simp [D.sh] at h
  | .cdic _, n, h => by simp [D.sh] at h
  | .ins _ _, n, h => by simp [D.sh] at h
  | .dice, n, h => by simp [D.sh] at h
  | .fn _, n, h => by simp [D.sh] at h
theorem shs_lay : ∀ (ds : List D) (n : Nat), D.shs ds n = true → PyData.canLayAll0 (D.toPs ds) = true ∧ PyData.depthAll (D.toPs ds) ≤ n
  | [], n, h => by simp [D.toPs, PyData.canLayAll0, PyData.depthAll]
  | d :: ds, n, h => by
    simp only [D.shs, Bool.and_eq_true] at h
    have h1 := sh_lay d n h.1
    have h2 := shs_lay ds n h.2
    simp only [D.toPs, PyData.canLayAll0, PyData.depthAll, h1.1, h2.1, Bool.and_self, true_and]
    exact Nat.max_le.mpr ⟨h1.2, h2.2⟩
end
theorem sh_shaped {d : D} (h : d.sh 64 = true) : SeqAt.shaped d.toP = true := by
  have := sh_lay d 64 h
  unfold SeqAt.shaped
  rw [this.1, decide_eq_true this.2]; rfl
mutual
theorem eqb_eqv : ∀ (x y : D) (n m : Nat), x.sh n = true → y.sh m = true → PyData.eqv x.toP y.toP = D.eqb x y
  | .non, y, n, m, hx, hy => by cases y <;> simp_all [D.toP, D.eqb, PyData.eqv, D.sh]
  | .bl b, y, n, m, hx, hy => by cases y <;> simp_all [D.toP, D.eqb, PyData.eqv, D.sh]
  | .int i, y, n, m, hx, hy => by cases y <;> simp_all [D.toP, D.eqb, PyData.eqv, D.sh]
  | .str s, y, n, m, hx, hy => by
    cases y <;> simp_all [D.toP, D.eqb, PyData.eqv, D.sh]
    rw [Bool.eq_iff_iff]; simp
  | .lst xs, y, n, m, hx, hy => by
    cases y <;> first | (simp_all [D.toP, D.eqb, PyData.eqv, D.sh]; done) | skip
    rename_i ys
    cases n <;> first | (simp [D.sh] at hx; done) | skip
    cases m <;> first | (simp [D.sh] at hy; done) | skip
    simp only [D.sh] at hx hy
    simp only [D.toP, D.eqb, PyData.eqv]
    exact eqbs_eqv xs ys _ _ hx hy
  | .tup xs, y, n, m, hx, hy => by
    cases y <;> first | (simp_all [D.toP, D.eqb, PyData.eqv, D.sh]; done) | skip
    rename_i ys
    cases n <;> first | (simp [D.sh] at hx; done) | skip
    cases m <;> first | (simp [D.sh] at hy; done) | skip
    simp only [D.sh] at hx hy
    simp only [D.toP, D.eqb, PyData.eqv]
    exact eqbs_eqv xs ys _ _ hx hy
  | .dic _, y, n, m, hx, hy => by simp [D.sh] at hx
  | .cdic _, y, n, m, hx, hy => by simp [D.sh] at hx
  | .ins _ _, y, n, m, hx, hy => by simp [D.sh] at hx
  | .dice, y, n, m, hx, hy => by simp [D.sh] at hx
  | .fn _, y, n, m, hx, hy => by simp [D.sh] at hx
theorem eqbs_eqv : ∀ (xs ys : List D) (n m : Nat), D.shs xs n = true → D.shs ys m = true → PyData.eqvAll (D.toPs xs) (D.toPs ys) = D.eqbs xs ys
  | [], [], n, m, hx, hy => by simp [D.toPs, D.eqbs, PyData.eqvAll]
  | [], y :: ys, n, m, hx, hy => by simp [D.toPs, D.eqbs, PyData.eqvAll]
  | x :: xs, [], n, m, hx, hy => by simp [D.toPs, D.eqbs, PyData.eqvAll]
  | x :: xs, y :: ys, n, m, hx, hy => by
    simp only [D.shs, Bool.and_eq_true] at hx hy
    simp only [D.toPs, D.eqbs, PyData.eqvAll, eqb_eqv x y n m hx.1 hy.1, eqbs_eqv xs ys n m hx.2 hy.2]
end
section
variable {G : Gm} {dl : Addr} {S H : Hp} {Z : List Addr}
mutual
theorem Rep.dp (g : GrowS S H) : ∀ (d : D) (n : Nat) {v : V}, d.sh n = true → Rep G dl S d v → Dp G.K H v d.toP
  | .non, n, v, h, q => by unfold Rep at q; subst q; exact .non
  | .bl b, n, v, h, q => by unfold Rep at q; subst q; exact .bl b
  | .int i, n, v, h, q => by unfold Rep at q; subst q; exact .int i
  | .str s, n, v, h, q => by unfold Rep at q; subst q; exact .str _
  | .lst xs, 0, v, h, q => by simp [D.sh] at h
  | .lst xs, n + 1, v, h, q => by
    unfold Rep at q
    obtain ⟨a, vs, rfl, h1, h2⟩ := q
    simp only [D.sh] at h
    exact .lst (SqL.of (g a _ h1 fun ps z => by cases z)) (RepL.dp g xs n h h2)
  | .tup xs, 0, v, h, q => by simp [D.sh] at h
  | .tup xs, n + 1, v, h, q => by
    unfold Rep at q
    obtain ⟨a, vs, rfl, h1, h2⟩ := q
    simp only [D.sh] at h
    exact .tup (g.sqt (SqT.of h1)) (RepL.dp g xs n h h2)
  | .dic _, n, v, h, q => by simp [D.sh] at h
  | .cdic _, n, v, h, q => by simp [D.sh] at h
  | .ins _ _, n, v, h, q => by simp [D.sh] at h
  | .dice, n, v, h, q => by simp [D.sh] at h
  | .fn _, n, v, h, q => by simp [D.sh] at h
theorem RepL.dp (g : GrowS S H) : ∀ (ds : List D) (n : Nat) {vs : List V}, D.shs ds n = true → RepL G dl S ds vs → DpAll G.K H vs (D.toPs ds)
  | [], n, vs, h, q => by unfold RepL at q; subst q; exact .nil
  | d :: ds, n, vs, h, q => by
    unfold RepL at q
    obtain ⟨v, r, rfl, h1, h2⟩ := q
    simp only [D.shs, Bool.and_eq_true] at h
    exact .cons (Rep.dp g d n h.1 h1) (RepL.dp g ds n h.2 h2)
end
theorem RepP.dp {d : D} {n : Nat} {v : V} (h : d.sh n = true) (q : RepP G dl H Z d v) : Dp G.K H v d.toP := by
  rcases q with q | ⟨a, rfl, hz, hd, q⟩
  · exact Rep.dp (cut_grow H Z) d n h q
  · cases d <;> first | exact q.elim | (simp [D.sh] at h; done) | skip
    rename_i xs
    obtain ⟨vs, e, rl⟩ := q
    cases n <;> first | (simp [D.sh] at h; done) | skip
    simp only [D.sh] at h
    exact .lst (SqL.of e) (RepL.dp (cut_grow H Z) xs _ h rl)
end
/-- scalars of kinds that == tells apart -/
def D.sc : D → D → Bool
  | .non, .non => true | .non, .int _ => true | .int _, .non => true | .non, .bl _ => true | .bl _, .non => true | .non, .str _ => true | .str _, .non => true
  | .int _, .int _ => true | .bl _, .bl _ => true | .str _, .str _ => true
  | .int _, .str _ => true | .str _, .int _ => true | .bl _, .str _ => true | .str _, .bl _ => true
  | _, _ => false
def eqD (x y : D) : R D := if (x.sc y || (x.sh 64 && y.sh 64)) = true then .ok (.bl (x.eqb y)) else .stuck
def neD (x y : D) : R D := if (x.sc y || (x.sh 64 && y.sh 64)) = true then .ok (.bl (!x.eqb y)) else .stuck
section
variable {X : Cx} {G : Gm}
theorem RepP.sc {dl : Addr} {H : Hp} {Z : List Addr} {x y : D} {vx vy : V} (h : x.sc y = true) (hx : RepP G dl H Z x vx) (hy : RepP G dl H Z y vy) : scal vx vy = true ∧ decide (vx = vy) = x.eqb y := by
  cases x <;> cases y <;> first | (simp [D.sc] at h; done) | skip
  all_goals first
    | (cases hx.non; cases hy.non; simp [scal, D.eqb]; done)
    | (cases hx.non; cases hy.int; simp [scal, D.eqb]; done)
    | (cases hx.non; cases hy.bl; simp [scal, D.eqb]; done)
    | (cases hx.non; cases hy.str; simp [scal, D.eqb]; done)
    | (cases hx.int; cases hy.non; simp [scal, D.eqb]; done)
    | (cases hx.int; cases hy.int; simp [scal, D.eqb, Bool.beq_eq_decide_eq]; done)
    | (cases hx.int; cases hy.str; simp [scal, D.eqb]; done)
    | (cases hx.bl; cases hy.non; simp [scal, D.eqb]; done)
    | (cases hx.bl; cases hy.bl; simp [scal, D.eqb, Bool.beq_eq_decide_eq]; done)
    | (cases hx.bl; cases hy.str; simp [scal, D.eqb]; done)
    | (cases hx.str; cases hy.non; simp [scal, D.eqb]; done)
    | (cases hx.str; cases hy.int; simp [scal, D.eqb]; done)
    | (cases hx.str; cases hy.bl; simp [scal, D.eqb]; done)
    | (cases hx.str; cases hy.str; simp only [scal, D.eqb, true_and]; rw [Bool.eq_iff_iff]; simp; done)
theorem op_eq_d (hG : G.K = X.K) (hu : X.A.units + 64 < cLine) : OpD X G (compareOp .Eq) eqD := by
  refine ⟨_, OpR.or op_eq (op_eqD hu), fun dl Z O r sg x y vx vy H Q E A hx hy h => ?_⟩
  unfold eqD at h
  split at h
  · rename_i hc
    rw [Bool.or_eq_true, Bool.and_eq_true] at hc
    rcases hc with hc | ⟨h1, h2⟩
    · obtain ⟨e1, e2⟩ := hx.sc hc hy
      refine .inl ⟨e1, ?_⟩
      rw [e2]; exact h _ H (.refl _ _) A.gl Rep.bl_
    · refine .inr ⟨x.toP, y.toP, hG ▸ hx.dp h1, hG ▸ hy.dp h2, sh_shaped h1, sh_shaped h2, ?_⟩
      rw [eqb_eqv x y _ _ h1 h2]; exact h _ H (.refl _ _) A.gl Rep.bl_
  · exact h.elim
theorem op_ne_d (hG : G.K = X.K) (hu : X.A.units + 64 < cLine) : OpD X G (compareOp .NotEq) neD := by
  refine ⟨_, OpR.or op_ne (op_neD hu), fun dl Z O r sg x y vx vy H Q E A hx hy h => ?_⟩
  unfold neD at h
  split at h
  · rename_i hc
    rw [Bool.or_eq_true, Bool.and_eq_true] at hc
    rcases hc with hc | ⟨h1, h2⟩
    · obtain ⟨e1, e2⟩ := hx.sc hc hy
      refine .inl ⟨e1, ?_⟩
      rw [e2]; exact h _ H (.refl _ _) A.gl Rep.bl_
    · refine .inr ⟨x.toP, y.toP, hG ▸ hx.dp h1, hG ▸ hy.dp h2, sh_shaped h1, sh_shaped h2, ?_⟩
      rw [eqb_eqv x y _ _ h1 h2]; exact h _ H (.refl _ _) A.gl Rep.bl_
  · exact h.elim
def subD : D → D → R D
  | .int i, .int j => .ok (.int (i - j))
  | _, _ => .stuck
def fdivD : D → D → R D
  | .int i, .int j => if 0 < j ∧ j < 1073741824 then .ok (.int (i / j)) else .stuck
  | _, _ => .stuck
def modD : D → D → R D
  | .int i, .int j => if 0 < j then .ok (.int (i % j)) else .stuck
  | _, _ => .stuck
def ltD : D → D → R D
  | .int i, .int j => .ok (.bl (decide (i < j)))
  | .str i, .str j => .ok (.bl (decide (i < j)))
  | _, _ => .stuck
def leD : D → D → R D
  | .int i, .int j => .ok (.bl (decide (i ≤ j)))
  | .str i, .str j => .ok (.bl (!decide (j < i)))
  | _, _ => .stuck
def gtD : D → D → R D
  | .int i, .int j => .ok (.bl (decide (j < i)))
  | .str i, .str j => .ok (.bl (decide (j < i)))
  | _, _ => .stuck
def geD : D → D → R D
  | .int i, .int j => .ok (.bl (decide (j ≤ i)))
  | .str i, .str j => .ok (.bl (!decide (i < j)))
  | _, _ => .stuck
theorem op_sub_d : OpD X G (binaryOp .Sub) subD := by
  refine ⟨_, op_sub, fun dl Z O r sg x y vx vy H Q E A hx hy h => ?_⟩
  unfold subD at h
  split at h
  · exact ⟨_, _, hx.int, hy.int, h _ H (.refl _ _) A.gl Rep.int_⟩
  · exact h.elim
theorem op_fdiv_d : OpD X G (binaryOp .FloorDiv) fdivD := by
  refine ⟨_, op_fdiv, fun dl Z O r sg x y vx vy H Q E A hx hy h => ?_⟩
  unfold fdivD at h
  split at h
  · split at h
    · rename_i hc
      exact ⟨_, _, hx.int, hy.int, hc, h _ H (.refl _ _) A.gl Rep.int_⟩
    · exact h.elim
  · exact h.elim
theorem op_mod_d : OpD X G (binaryOp .Mod) modD := by
  refine ⟨_, op_mod, fun dl Z O r sg x y vx vy H Q E A hx hy h => ?_⟩
  unfold modD at h
  split at h
  · split at h
    · rename_i hc
      exact ⟨_, _, hx.int, hy.int, hc, h _ H (.refl _ _) A.gl Rep.int_⟩
    · exact h.elim
  · exact h.elim
theorem op_lt_d : OpD X G (compareOp .Lt) ltD := by
  refine ⟨_, OpR.or op_lt op_lt_str, fun dl Z O r sg x y vx vy H Q E A hx hy h => ?_⟩
  unfold ltD at h
  split at h
  · exact .inl ⟨_, _, hx.int, hy.int, h _ H (.refl _ _) A.gl Rep.bl_⟩
  · exact .inr ⟨_, _, hx.str, hy.str, h _ H (.refl _ _) A.gl Rep.bl_⟩
  · exact h.elim
theorem op_gt_d : OpD X G (compareOp .Gt) gtD := by
  refine ⟨_, OpR.or op_gt op_gt_str, fun dl Z O r sg x y vx vy H Q E A hx hy h => ?_⟩
  unfold gtD at h
  split at h
  · exact .inl ⟨_, _, hx.int, hy.int, h _ H (.refl _ _) A.gl Rep.bl_⟩
  · exact .inr ⟨_, _, hx.str, hy.str, h _ H (.refl _ _) A.gl Rep.bl_⟩
  · exact h.elim
end
def addD : D → D → R D
  | .int i, .int j => .ok (.int (i + j))
  | .str a, .str b => if a.length + b.length ≤ 16777216 then .ok (.str (a ++ b)) else .stuck
  | .lst a, .lst b => if a.length + b.length ≤ 16777216 then .ok (.lst (a ++ b)) else .stuck
  | .tup a, .tup b => if a.length + b.length ≤ 16777216 then .ok (.tup (a ++ b)) else .stuck
  | _, _ => .stuck
def mulD : D → D → R D
  | .int i, .int j => if (-(18446744073709551616) < i ∧ i < 18446744073709551616) ∨ (-(18446744073709551616) < j ∧ j < 18446744073709551616) then .ok (.int (i * j)) else .stuck
  | _, _ => .stuck
section
variable {X : Cx} {G : Gm}
theorem str_add (a b : List Nat) : (⟨a.toArray⟩ : Str) ++ ⟨b.toArray⟩ = ⟨(a ++ b).toArray⟩ := by
  show Str.mk (a.toArray ++ b.toArray) = _
  simp
theorem op_mul_d : OpD X G (binaryOp .Mult) mulD := by
  refine ⟨_, op_mul, fun dl Z O r sg x y vx vy H Q E A hx hy h => ?_⟩
  unfold mulD at h
  split at h
  · split at h
    · rename_i hc
      exact ⟨_, _, hx.int, hy.int, (by unfold CMul; omega), h _ H (.refl _ _) A.gl Rep.int_⟩
    · exact h.elim
  · exact h.elim
theorem op_add_d (hG : G.K = X.K) : OpD X G (binaryOp .Add) addD := by
  refine ⟨_, OpR.or op_add (OpR.or op_add_str (OpR.or op_cat op_catA)), fun dl Z O r sg x y vx vy H Q E A hx hy h => ?_⟩
  unfold addD at h
  split at h
  · exact .inl ⟨_, _, hx.int, hy.int, h _ H (.refl _ _) A.gl Rep.int_⟩
  · split at h
    · rename_i a b hc
      refine .inr (.inl ⟨_, _, hx.str, hy.str, by rw [sizeLine_eq]; simpa [Str.length] using hc, ?_⟩)
      rw [str_add]
      exact h _ H (.refl _ _) A.gl Rep.str_
    · exact h.elim
  · split at h
    · rename_i a b hc
      obtain ⟨p, vs, rfl, h1, r1⟩ := hx.lst
      obtain ⟨q, us, rfl, h2, r2⟩ := hy.lst
      refine .inr (.inr (.inl ⟨_, _, _, _, rfl, rfl, h1, h2, by rw [sizeLine_eq, r1.length, r2.length]; exact hc, fun l hl => ?_⟩))
      exact h _ _ (.new hl) (A.gl.new hl) (Rep.lst_new A hl (r1.append r2))
    · exact h.elim
  · split at h
    · rename_i a b hc
      obtain ⟨p, vs, rfl, h1, r1⟩ := hx.tup
      obtain ⟨q, us, rfl, h2, r2⟩ := hy.tup
      have e1 := r1.length
      have e2 := r2.length
      refine .inr (.inr (.inr ⟨_, _, _, _, rfl, rfl, hG ▸ h1, hG ▸ h2, by rw [sizeLine_eq, e1, e2]; exact hc, fun z => ?_, fun z1 z2 => ?_, fun _ _ l hl => ?_⟩))
      · subst z
        have : a = [] := List.length_eq_zero_iff.mp e1.symm
        subst this
        rcases hy with hy | ⟨_, _, _, _, hy⟩
        · exact h _ H (.refl _ _) A.gl hy
        · exact hy.elim
      · subst z2
        have : b = [] := List.length_eq_zero_iff.mp e2.symm
        subst this
        rcases hx with hx | ⟨_, _, _, _, hx⟩
        · rw [List.append_nil] at h
          exact h _ H (.refl _ _) A.gl hx
        · exact hx.elim
      · exact h _ _ (.new hl) (A.gl.new hl) (Rep.tup_new A hl (r1.append r2))
    · exact h.elim
  · exact h.elim
end
end DL
set_option Elab.async false
set_option linter.all false
set_option maxRecDepth 100000
namespace DL
open PySem L2 PySem.Spec PyProof.Rows
def andT (f g : LE → R Bool) : LE → R Bool := fun r => do if (← f r) then g r else .ok false
def orT (f g : LE → R Bool) : LE → R Bool := fun r => do if (← f r) then .ok true else g r
def notT (f : LE → R Bool) : LE → R Bool := fun r => do let b ← f r; .ok (!b)
def andV (f g : LE → R D) : LE → R D := fun r => do
  match ← f r with
  | .bl true => g r
  | .bl false => .ok (.bl false)
  | _ => .stuck
def orV (f g : LE → R D) : LE → R D := fun r => do
  match ← f r with
  | .bl true => .ok (.bl true)
  | .bl false => g r
  | _ => .stuck
def notV (f : LE → R D) : LE → R D := fun r => do
  match ← f r with
  | .bl b => .ok (.bl (!b))
  | _ => .stuck
def iteE (c : LE → R Bool) (f g : LE → R D) : LE → R D := fun r => do if (← c r) then f r else g r
section
variable {X : Cx} {G : Gm} {W : WX} {ex a b c : Expr} {rest : List Expr} {f g : LE → R D} {h k : LE → R Bool} {pos : Pos}
theorem dw_and1 (ha : DT X G W a h) : DW X G W (.BoolOp .And [a] pos) h := pw_and1 ha
theorem dw_or1 (ha : DT X G W a h) : DW X G W (.BoolOp .Or [a] pos) h := pw_or1 ha
theorem dw_and (ha : DT X G W a h) (hb : DW X G W (.BoolOp .And (b :: rest) pos) k) : DW X G W (.BoolOp .And (a :: b :: rest) pos) (andT h k) := PW_imp (pw_and ha hb) fun sg H Q ⟨dl, Z, O, r, A, q⟩ => by
  refine ⟨dl, Z, O, r, A, q.bind.thn fun b hb H1 g1 k1 => ?_⟩
  cases b with
  | true => exact ⟨dl, Z, O, r, A.grow g1 k1, hb.mono (fun b q H2 g2 k2 => q H2 (g1.trans g2) k2) fun e => epost g1⟩
  | false => exact hb H1 g1 k1
theorem dw_or (ha : DT X G W a h) (hb : DW X G W (.BoolOp .Or (b :: rest) pos) k) : DW X G W (.BoolOp .Or (a :: b :: rest) pos) (orT h k) := PW_imp (pw_or ha hb) fun sg H Q ⟨dl, Z, O, r, A, q⟩ => by
  refine ⟨dl, Z, O, r, A, q.bind.thn fun b hb H1 g1 k1 => ?_⟩
  cases b with
  | true => exact hb H1 g1 k1
  | false => exact ⟨dl, Z, O, r, A.grow g1 k1, hb.mono (fun b q H2 g2 k2 => q H2 (g1.trans g2) k2) fun e => epost g1⟩
theorem dt_w (h' : DW X G W ex h) : DT X G W ex h := h'.pt
theorem dt_not (ha : DT X G W a h) : DT X G W (.UnaryOp .Not a pos) (notT h) := PT_imp (pt_not ha) fun sg H Q ⟨dl, Z, O, r, A, q⟩ =>
  ⟨dl, Z, O, r, A, q.bind.thn fun b hb H1 g1 k1 => hb H1 g1 k1⟩
theorem de_if (hc : DT X G W c h) (ha : DE X G W a f) (hb : DE X G W b g) : DE X G W (.IfExp c a b pos) (iteE h f g) := PE_imp (pe_ifExp hc ha hb) fun sg H Q ⟨dl, Z, O, r, A, q⟩ => by
  refine ⟨dl, Z, O, r, A, q.bind.thn fun b hb H1 g1 k1 => ?_⟩
  cases b with
  | true => exact ⟨dl, Z, O, r, A.grow g1 k1, hb.mono (fun d q v H2 g2 k2 => q v H2 (g1.trans g2) k2) fun e => epost g1⟩
  | false => exact ⟨dl, Z, O, r, A.grow g1 k1, hb.mono (fun d q v H2 g2 k2 => q v H2 (g1.trans g2) k2) fun e => epost g1⟩
end
def anil : LE → R (List D) := fun _ => .ok []
def acons (f : LE → R D) (fs : LE → R (List D)) : LE → R (List D) := fun r => do
  let x ← f r
  let xs ← fs r
  .ok (x :: xs)
def tupE (fs : LE → R (List D)) : LE → R D := fun r => do
  let ds ← fs r
  if ds.length ≤ 16777216 then .ok (.tup ds) else .stuck
def lstE (fs : LE → R (List D)) : LE → R (List D) := fun r => do
  let ds ← fs r
  if ds.length ≤ 16777216 then .ok ds else .stuck
section
variable {X : Cx} {G : Gm} {W : WX} {ex a b c : Expr} {es : List Expr} {f g : LE → R D} {fs : LE → R (List D)} {pos : Pos}
theorem da_nil : DA X G W [] anil := PA_imp pa_nil fun sg H Q ⟨dl, Z, O, r, A, q⟩ => q [] H (.refl _ _) A.gl RepL.nil
theorem da_cons (ha : DE X G W a f) (hs : DA X G W es fs) (hst : starEach (a :: es) X.env = (false, eval a X.env) :: starEach es X.env := by rfl) : DA X G W (a :: es) (acons f fs) := PA_imp (pa_cons ha hs hst) fun sg H Q ⟨dl, Z, O, r, A, q⟩ => by
  refine ⟨dl, Z, O, r, A, q.bind.thn fun x hx v H1 g1 k1 rp => ?_⟩
  refine ⟨dl, Z, O, r, A.grow g1 k1, hx.bind.mono (fun xs hxs vs H2 g2 k2 rl => ?_) fun e => epost g1⟩
  exact hxs (v :: vs) H2 (g1.trans g2) k2 (RepL.cons (rp.mono (g2.cut A.dz)) rl)
theorem de_tup {x1} (h : DA X G W es fs) : DE X G W (.Tuple es x1 pos) (tupE fs) := PE_imp (pe_tup h) fun sg H Q ⟨dl, Z, O, r, A, q⟩ => by
  refine ⟨dl, Z, O, r, A, q.bind.thn fun ds hd vs H1 g1 k1 rl => ?_⟩
  split at hd
  · rename_i hc
    refine ⟨by rw [sizeLine_eq, rl.length]; exact hc, fun p hp => ?_⟩
    exact hd _ _ (g1.trans (.new hp)) (k1.new hp) (Rep.tup_new (A.grow g1 k1) hp rl)
  · exact hd.elim
theorem df_lst (h : DA X G W es fs) : DF X G W (.List es pos) (lstE fs) := PE_imp (pe_lst h) fun sg H Q ⟨dl, Z, O, r, A, q⟩ => by
  refine ⟨dl, Z, O, r, A, q.bind.thn fun ds hd vs H1 g1 k1 rl => ?_⟩
  split at hd
  · rename_i hc
    exact ⟨by rw [sizeLine_eq, rl.length]; exact hc, fun p hp => hd p vs H1 g1 k1 hp rl⟩
  · exact hd.elim
/-- the place of a field: by the class -/
def fldD (fx : Nat → Option Nat) : D → R D
  | .ins c ds => match fx c with
    | some j => match ds[j]? with
      | some d => .ok d
      | none => .stuck
    | none => .stuck
  | _ => .stuck
theorem lookup_zip : ∀ {ns : List Str} {vs : List V} {j : Nat} {x : Str} {v : V}, ns.Nodup → ns[j]? = some x → vs[j]? = some v → (ns.zip vs).lookup x = some v
  | [], _, _, _, _, _, h, _ => by simp at h
  | _ :: _, [], _, _, _, _, _, h => by simp at h
  | n :: ns, u :: vs, 0, x, v, nd, h1, h2 => by
    simp at h1 h2
    subst h1 h2
    simp [List.lookup]
  | n :: ns, u :: vs, j + 1, x, v, nd, h1, h2 => by
    have hne : x ≠ n := fun e => by
      subst e
      exact (List.nodup_cons.mp nd).1 (List.mem_of_getElem? (by simpa using h1))
    rw [List.zip_cons_cons, List.lookup_cons]
    have : (x == n) = false := beq_eq_false_iff_ne.mpr hne
    rw [this]
    exact lookup_zip (List.nodup_cons.mp nd).2 (by simpa using h1) (by simpa using h2)
def FldOk (X : Cx) (G : Gm) (m : Str) (fx : Nat → Option Nat) : Prop := ∀ c j, fx c = some j → Cls X.K (G.cls c) ∧ NoAttr X.K (G.cls c) m ∧ (G.flds c)[j]? = some m ∧ (G.flds c).Nodup
theorem de_fld {m : Str} {fx : Nat → Option Nat} (hx : FldOk X G m fx) (ha : DE X G W a f) (hb : attributeBase a m X.env (eval a X.env) = eval a X.env := by rfl) : DE X G W (.Attribute a m pos) (fun r => f r >>= fldD fx) := PE_imp (pe_fld ha hb) fun sg H Q ⟨dl, Z, O, r, A, q⟩ => by
  refine ⟨dl, Z, O, r, A, q.bind.thn fun x hx' v H1 g1 k1 rp => ?_⟩
  unfold fldD at hx'
  split at hx'
  · rename_i c ds
    split at hx'
    · rename_i j hj
      split at hx'
      · rename_i d hd
        unfold Rep at rp
        obtain ⟨a, dx, vs, rfl, e, hl, rl⟩ := rp
        obtain ⟨h1, h2, h3, h4⟩ := hx c j hj
        obtain ⟨u, hu, ru⟩ := RepL.getD ds vs j d rl hd
        exact ⟨a, G.cls c, dx, _, u, rfl, (cut_some e).2, h1, h2, lookup_zip h4 h3 hu, hx' u H1 g1 k1 ru⟩
      · exact hx'.elim
    · exact hx'.elim
  · exact hx'.elim
def ixD : D → D → R D
  | .lst xs, .int i => match atI xs i with
    | some d => .ok d
    | none => .stuck
  | .tup xs, .int i => match atI xs i with
    | some d => .ok d
    | none => .stuck
  | .str s, .int i => if s.length ≤ 16777216 then (match atI s i with
    | some c => .ok (.str [c])
    | none => .stuck) else .stuck
  | _, _ => .stuck
theorem atI_rep {G : Gm} {dl : Addr} {S : Hp} {ds : List D} {vs : List V} {i : Int} {d : D} (rl : RepL G dl S ds vs) (h : atI ds i = some d) : ∃ v, atI vs i = some v ∧ Rep G dl S d v := by
  unfold atI at *
  rw [rl.length]
  cases e : ixN ds.length i with
  | none => rw [e] at h; cases h
  | some j =>
    rw [e] at h
    exact RepL.getD ds vs j d rl h
end
end DL
set_option Elab.async false
set_option linter.all false
set_option maxRecDepth 100000
namespace DL
open PySem L2 PySem.Spec PyProof.Rows
abbrev Live (Z : List Addr) (H : Hp) : Prop := ∀ a ∈ Z, ∃ o, H a = some o ∧ NT o
/-- a def's promise: it comes to g of what its arguments are -/
def spD (G : Gm) (n : Nat) (g : List D → R D) : Sp := fun vs H Q E => vs.length = n ∧ ∃ dl Z ds, GlOk G dl H ∧ dl ∈ Z ∧ Live Z H ∧ RepL G dl (cut H Z) ds vs ∧
  Wp (g ds) (fun d => ∀ v H', Grow dl H H' → GlOk G dl H' → Rep G dl (cut H' Z) d v → Q v H')
    (fun e => ∀ cls dx H', Grow dl H H' → GlOk G dl H' → XRep G dl (cut H' Z) e cls dx H' → E cls dx H')
/-- an __init__'s promise: the instance at a is made to g of the arguments -/
def spI (G : Gm) (c n : Nat) (g : List D → R D) : Sp := fun vs H Q E => vs.length = n + 1 ∧ ∃ dl Z ds a dx us, vs = .ref a :: us ∧ H a = some (.ins (G.cls c) dx []) ∧ a ∉ Z ∧ GlOk G dl H ∧ dl ∈ Z ∧ Live Z H ∧ RepL G dl (cut H (a :: Z)) ds us ∧
  Wp (g ds) (fun d => ∀ H', (∀ b o, H b = some o → b ≠ dl → b ≠ a → (∀ ps, o ≠ .tbl ps) → H' b = some o) → GlOk G dl H' → Rep G dl (cut H' Z) d (.ref a) → Q .non H')
    (fun e => ∀ cls dx H', (∀ b o, H b = some o → b ≠ dl → b ≠ a → (∀ ps, o ≠ .tbl ps) → H' b = some o) → GlOk G dl H' → XRep G dl (cut H' Z) e cls dx H' → E cls dx H')
section
variable (P : Program) (w : World) (K : PySem.W.Frag) (mg : Str → Option Value) (base : Heap)
structure FnD (G : Gm) (k : Nat) (x : Str) (f : Addr) (n : Nat) (g : List D → R D) : Prop where
  ex : ∃ (fd : FuncData) (ps : List Str), ps.length = n ∧ FnOk P w K mg base (L2.CX P w) k f fd ps (spD G n g) ∧ Binds K fd ps []
  len : ∀ ds Q E, Wp (g ds) Q E → ds.length = n
  kp : PySem.W.keepIn K (.ref f) = true
  at_ : mg x = some (.ref f)
structure MeD (G : Gm) (k : Nat) (c : Nat) (m : Str) (n : Nat) (g : List D → R D) : Prop where
  ex : ∃ (f : Addr) (fd : FuncData) (ps : List Str), ps.length = n ∧ FnOk P w K mg base (L2.CX P w) k f fd ps (spD G n g) ∧ Binds K fd ps [] ∧ Meth K (G.cls c) m f
  len : ∀ ds Q E, Wp (g ds) Q E → ds.length = n
  cl : Cls K (G.cls c)
  nf : m ∉ G.flds c
structure MkD (G : Gm) (k : Nat) (c : Nat) (x : Str) (n : Nat) (g : List D → R D) : Prop where
  ex : ∃ (f : Addr) (fd : FuncData) (ps : List Str), ps.length = n + 1 ∧ FnOk P w K mg base (L2.CX P w) k f fd ps (spI G c n g) ∧ Binds K fd ps [] ∧ Mk K (G.cls c) f
  len : ∀ ds Q E, Wp (g ds) Q E → ds.length = n
  at_ : mg x = some (.ref (G.cls c))
end
section
variable {X : Cx} {G : Gm} {W : WX} {ex o : Expr} {es : List Expr} {f : LE → R D} {fs : LE → R (List D)} {g : List D → R D} {pos apos p : Pos} {x m : Str} {k n c : Nat} {fa : Addr}
theorem call_core (hl : ∀ ds Q E, Wp (g ds) Q E → ds.length = n) {sg : L2.St} {H : Hp} {Q : VK} (h : tD G W (fun r => fs r >>= g) sg H Q) : tCallS (spD G n g) (WE W) (tA G W fs) sg H Q := by
  obtain ⟨dl, Z, O, r, A, q⟩ := h
  refine ⟨dl, Z, O, r, A, q.bind.thn fun ds hd vs H1 g1 k1 rl => ?_⟩
  refine ⟨by rw [rl.length]; exact hl ds _ _ hd, dl, Z, ds, k1, A.dz, (A.grow g1 k1).live, rl, ?_⟩
  exact hd.mono (fun d q v H2 g2 k2 rp => q v H2 (g1.trans g2) k2 rp) fun e he cls dx H2 g2 k2 xr => he cls dx H2 (g1.trans g2) k2 xr
theorem de_call (F : FnD X.prog X.w X.K X.mg X.base G k x fa n g) (hr : Room k X.A) (tk : Takes X W) (ha : DA X G W (ex :: es) fs) (hg : Gl X x := by rfl)
    (hdb : (x == ("__debug__" : Str)) = false := by decide) (he : starEach (ex :: es) X.env = (false, eval ex X.env) :: starEach es X.env := by rfl) (hpl : (backTo pos (starEach es X.env)).any (·.1) = false := by rfl) :
    DE X G W (.Call (.Name x p) (ex :: es) [] pos) (fun r => fs r >>= g) := by
  obtain ⟨⟨fd, ps, hn, ok, hb⟩, hl, kp, hm⟩ := F
  exact PE_imp (pe_callS ok hr hg hm kp hb (fun sg => passAt tk sg) ha hdb he hpl) fun sg H Q h => call_core hl h
theorem de_call0 (F : FnD X.prog X.w X.K X.mg X.base G k x fa n g) (hr : Room k X.A) (tk : Takes X W) (hg : Gl X x := by rfl) (hdb : (x == ("__debug__" : Str)) = false := by decide) :
    DE X G W (.Call (.Name x p) [] [] pos) (fun _ => g []) := by
  obtain ⟨⟨fd, ps, hn, ok, hb⟩, hl, kp, hm⟩ := F
  refine ⟨fun pins s sg H Q I ⟨dl, Z, O, r, A, q⟩ => ?_⟩
  have h2 : spD G n g [] H Q (WE W sg) := ⟨hl [] _ _ q, dl, Z, [], A.gl, A.dz, A.live, RepL.nil, q⟩
  exact wpAny_Call_Name_kw (ld_glob I hg hm (PySem.W.callWith_K0 I.kIn kp (run_fnS (us := []) ok hr hb (passAt tk sg) I .nil h2)) hdb)
theorem lookup_none_zip {m : Str} : ∀ {ns : List Str} {vs : List V}, m ∉ ns → (ns.zip vs).lookup m = none
  | [], _, _ => by simp
  | _ :: _, [], _ => by simp
  | a :: ns, v :: vs, h => by
    rw [List.zip_cons_cons, List.lookup_cons]
    have : (m == a) = false := beq_eq_false_iff_ne.mpr fun e => h (e ▸ List.mem_cons_self)
    rw [this]
    exact lookup_none_zip fun z => h (List.mem_cons_of_mem _ z)
/-- the receiver is of the class c -/
def isC (c : Nat) : D → R D
  | .ins c' fs => if c' = c then .ok (.ins c fs) else .stuck
  | _ => .stuck
def tMethS (C : Addr) (m : Str) (sp : Sp) (E : L2.St → XK) (ta : TE) (t : TA) : TE := fun sg H Q => ta sg H fun x H1 => ∃ a dx fs, x = .ref a ∧ H1 a = some (.ins C dx fs) ∧ fs.lookup m = none ∧ t sg H1 fun vs H2 => sp (x :: vs) H2 Q (E sg)
section
variable {CX : CXT} {C fm : Addr} {fd : FuncData} {ps : List Str} {sp : Sp} {E : L2.St → XK} {ta : TE} {t : TA}
theorem pe_meth_s {pl : Sem Bool} (he : PE X o ta) (c : Cls X.K C) (hm : Meth X.K C m fm) (F : FnOk X.prog X.w X.K X.mg X.base CX k fm fd ps sp) (hr : Room k X.A) (hb : Binds X.K fd ps []) (hx : ∀ sg, PassesAt CX X sg (E sg)) (ha : PA X (ex :: es) t)
    (hst : starEach (ex :: es) X.env = (false, eval ex X.env) :: starEach es X.env) (hpl : (backTo pos (starEach es X.env)).any (·.1) = false)
    (ht : eval (.Call (.Attribute o m apos) (ex :: es) [] pos) X.env = (do
      let ov ← eval o X.env
      standAt apos.atName
      let (f, first) ← holding [ov] (getMethod ov m pl)
      callWith pos f first (backTo pos (starEach (ex :: es) X.env)) (backToKw pos (keywordEach [] X.env)))) :
    PE X (.Call (.Attribute o m apos) (ex :: es) [] pos) (tMethS C m sp E ta t) := by
  refine ⟨fun pins s sg H Q I h => PySem.W.methodCall_KW (pl := pl) (thn (he.run pins s sg H _ I h) fun u s1 ⟨x, H1, I1, rx, a, dx, fs, e1, ea, l, q⟩ => ?_) ht⟩
  subst e1
  obtain rfl : u = Value.ref a := rx
  refine getmeth_ok I1 ea c hm l (PySem.W.callWith_K (first := [.ref a]) (h₀ := X.base) I.ok.mod.kin hm.kp (thn (ha.run pos pins s1 sg H1 _ I1 q) fun us s2 ⟨vs, H2, I2, r, q2⟩ => ⟨I2.kIn, ?_⟩) hst hpl)
  exact run_fnS (us := .ref a :: us) (vs := .ref a :: vs) F hr hb (hx sg) I2 (.cons rfl r) q2
theorem pe_meth0_s {pl : Sem Bool} (he : PE X o ta) (c : Cls X.K C) (hm : Meth X.K C m fm) (F : FnOk X.prog X.w X.K X.mg X.base CX k fm fd ps sp) (hr : Room k X.A) (hb : Binds X.K fd ps []) (hx : ∀ sg, PassesAt CX X sg (E sg))
    (ht : eval (.Call (.Attribute o m apos) [] [] pos) X.env = (do
      let ov ← eval o X.env
      standAt apos.atName
      let (f, first) ← holding [ov] (getMethod ov m pl)
      callWith pos f first (backTo pos (starEach [] X.env)) (backToKw pos (keywordEach [] X.env)))) :
    PE X (.Call (.Attribute o m apos) [] [] pos) (tMethS C m sp E ta tNil) := by
  refine ⟨fun pins s sg H Q I h => PySem.W.methodCall_KW (pl := pl) (thn (he.run pins s sg H _ I h) fun u s1 ⟨x, H1, I1, rx, a, dx, fs, e1, ea, l, q⟩ => ?_) ht⟩
  subst e1
  obtain rfl : u = Value.ref a := rx
  exact getmeth_ok I1 ea c hm l (PySem.W.callWith_K0 (first := [.ref a]) I1.kIn hm.kp (run_fnS (us := [.ref a]) (vs := [.ref a]) F hr hb (hx sg) I1 (.cons rfl .nil) q))
/-- C(..), what is raised wished at the slots -/
def tMakeS (C : Addr) (sp : Sp) (E : L2.St → XK) (t : TA) : TE := fun sg H Q => t sg H fun vs H1 => ∀ x dx, H1 x = none → H1 dx = none → dx ≠ x →
  sp (.ref x :: vs) (upd (upd H1 dx (.own x)) x (.ins C dx [])) (fun v H2 => v = .non ∧ Q (.ref x) H2) (E sg)
theorem run_make_s {pins : List (Addr × Obj)} {sg : L2.St} {H : Hp} {s : Shared} {Q : VK} {us : List Value} {vs : List V} (M : Mk X.K C fm) (F : FnOk X.prog X.w X.K X.mg X.base CX k fm fd ps sp) (hr : Room (k + 1) X.A) (hb : Binds X.K fd ps [])
    (hx : PassesAt CX X sg (E sg)) (I : Inv X pins sg H s) (r : Vals vs us)
    (h : ∀ x dx, H x = none → H dx = none → dx ≠ x → sp (.ref x :: vs) (upd (upd H dx (.own x)) x (.ins C dx [])) (fun v H2 => v = .non ∧ Q (.ref x) H2) (E sg)) :
    wpAny (model X.prog X.w) X.A (call (.ref C) us) (EP X pins sg Q) X.xe s := by
  have hq := h (s.heap.objs.size + 1) s.heap.objs.size (I.hok.fresh (Nat.le_succ _)) (I.hok.fresh (Nat.le_refl _)) (Nat.ne_of_lt (Nat.lt_succ_self _))
  have I2 := Inv.made (C := C) I
  have r2 : Vals (V.ref (s.heap.objs.size + 1) :: vs) (Value.ref (s.heap.objs.size + 1) :: us) := .cons rfl r
  have hl : (Value.ref (s.heap.objs.size + 1) :: us).length = ps.length := by
    rw [← r2.length]; exact F.len _ _ _ _ hq
  have bd := hb _ (Value.ref (s.heap.objs.size + 1) :: us) I2.kIn (by rw [List.append_nil]; exact hl)
  rw [List.append_nil] at bd
  refine wpAny_call (make_map (f := fm) I.kIn M.makes M.init (beq_iff_eq.mp M.fn) (codeAny_mono (F.run _ X.stack _ _ ⟨Value.ref (s.heap.objs.size + 1) :: us, []⟩ _ _ _ (E sg) (hr.make C us []) (I2.env0.make C us []) bd r2 hq) fun r s' hq' => ?_))
  cases r with
  | error e => exact hx pins _ _ e s' I2 hq'
  | ok fl =>
    cases fl with
    | ret u =>
      obtain ⟨v, H', I3, rv, ev, q3⟩ := I2.after hq'
      subst ev
      exact ⟨rv, ⟨V.ref (s.heap.objs.size + 1), H', I3, rfl, q3⟩⟩
    | next => exact hq'.elim
    | brk => exact hq'.elim
    | cont => exact hq'.elim
theorem pe_make_s (M : Mk X.K C fm) (F : FnOk X.prog X.w X.K X.mg X.base CX k fm fd ps sp) (hr : Room (k + 1) X.A) (hg : Gl X x) (hm : X.mg x = some (.ref C)) (hb : Binds X.K fd ps []) (hx : ∀ sg, PassesAt CX X sg (E sg))
    (ha : PA X (ex :: es) t) (hdb : (x == ("__debug__" : Str)) = false) (he : starEach (ex :: es) X.env = (false, eval ex X.env) :: starEach es X.env) (hpl : (backTo pos (starEach es X.env)).any (·.1) = false) :
    PE X (.Call (.Name x p) (ex :: es) [] pos) (tMakeS C sp E t) :=
  ⟨fun pins s sg H Q I h => wpAny_Call_Name_kw (ld_glob I hg hm (PySem.W.callWith_K (h₀ := X.base) I.ok.mod.kin M.kp (thn (ha.run pos pins s sg H _ I h) fun us s1 ⟨vs, H1, I1, r, q⟩ => ⟨I1.kIn, run_make_s M F hr hb (hx sg) I1 r q⟩) he hpl) hdb)⟩
end
theorem isC_wp {d : D} {Q : D → Prop} {E : Exc → Prop} (h : Wp (isC c d) Q E) : ∃ fs, d = .ins c fs ∧ Q d := by
  unfold isC at h
  split at h
  · split at h
    · rename_i e
      subst e
      exact ⟨_, rfl, h⟩
    · exact h.elim
  · exact h.elim
theorem meth_core (nf : m ∉ G.flds c) (hl : ∀ ds Q E, Wp (g ds) Q E → ds.length = n) {sg : L2.St} {H : Hp} {Q : VK} (h : tD G W (fun r => do let x ← f r; let x ← isC c x; let ds ← fs r; g (x :: ds)) sg H Q) :
    tMethS (G.cls c) m (spD G n g) (WE W) (tD G W f) (tA G W fs) sg H Q := by
  obtain ⟨dl, Z, O, r, A, q⟩ := h
  refine ⟨dl, Z, O, r, A, q.bind.thn fun d hd v H1 g1 k1 rp => ?_⟩
  obtain ⟨fs', rfl, hd⟩ := isC_wp hd.bind
  have A1 := A.grow g1 k1
  have rp2 := rp
  unfold Rep at rp2
  obtain ⟨a, dx, vs, rfl, e, hlen, rl⟩ := rp2
  refine ⟨a, dx, _, rfl, (cut_some e).2, lookup_none_zip nf, dl, Z, O, r, A1, hd.bind.mono (fun ds hds us H2 g2 k2 ru => ?_) fun e => epost g1⟩
  have rl2 := RepL.cons (rp.mono (g2.cut A.dz)) ru
  refine ⟨by rw [rl2.length]; exact hl _ _ _ hds, dl, Z, _, k2, A.dz, (A1.grow g2 k2).live, rl2, ?_⟩
  exact hds.mono (fun d q v H3 g3 k3 rp => q v H3 ((g1.trans g2).trans g3) k3 rp) fun e he cls dx H3 g3 k3 xr => he cls dx H3 ((g1.trans g2).trans g3) k3 xr
theorem de_meth {pl : Sem Bool} (M : MeD X.prog X.w X.K X.mg X.base G k c m n g) (hr : Room k X.A) (tk : Takes X W) (ho : DE X G W o f) (ha : DA X G W (ex :: es) fs)
    (hst : starEach (ex :: es) X.env = (false, eval ex X.env) :: starEach es X.env := by rfl) (hpl : (backTo pos (starEach es X.env)).any (·.1) = false := by rfl)
    (ht : eval (.Call (.Attribute o m apos) (ex :: es) [] pos) X.env = (do
      let ov ← eval o X.env
      standAt apos.atName
      let (f, first) ← holding [ov] (getMethod ov m pl)
      callWith pos f first (backTo pos (starEach (ex :: es) X.env)) (backToKw pos (keywordEach [] X.env))) := by rfl) :
    DE X G W (.Call (.Attribute o m apos) (ex :: es) [] pos) (fun r => do let x ← f r; let x ← isC c x; let ds ← fs r; g (x :: ds)) := by
  obtain ⟨⟨fa, fd, ps, hn, ok, hb, mt⟩, hl, cl, nf⟩ := M
  exact PE_imp (pe_meth_s ho cl mt ok hr hb (fun sg => passAt tk sg) ha hst hpl ht) fun sg H Q h => meth_core nf hl h
theorem de_meth0 {pl : Sem Bool} (M : MeD X.prog X.w X.K X.mg X.base G k c m n g) (hr : Room k X.A) (tk : Takes X W) (ho : DE X G W o f)
    (ht : eval (.Call (.Attribute o m apos) [] [] pos) X.env = (do
      let ov ← eval o X.env
      standAt apos.atName
      let (f, first) ← holding [ov] (getMethod ov m pl)
      callWith pos f first (backTo pos (starEach [] X.env)) (backToKw pos (keywordEach [] X.env))) := by rfl) :
    DE X G W (.Call (.Attribute o m apos) [] [] pos) (fun r => do let x ← f r; let x ← isC c x; g [x]) := by
  obtain ⟨⟨fa, fd, ps, hn, ok, hb, mt⟩, hl, cl, nf⟩ := M
  refine PE_imp (pe_meth0_s ho cl mt ok hr hb (fun sg => passAt tk sg) ht) fun sg H Q ⟨dl, Z, O, r, A, q⟩ => ?_
  refine ⟨dl, Z, O, r, A, q.bind.thn fun d hd v H1 g1 k1 rp => ?_⟩
  obtain ⟨fs', rfl, hd⟩ := isC_wp hd.bind
  have rp2 := rp
  unfold Rep at rp2
  obtain ⟨a, dx, vs, rfl, e, hlen, rl⟩ := rp2
  refine ⟨a, dx, _, rfl, (cut_some e).2, lookup_none_zip nf, ?_⟩
  have rl2 := RepL.cons rp RepL.nil
  refine ⟨by rw [rl2.length]; exact hl _ _ _ hd, dl, Z, _, k1, A.dz, (A.grow g1 k1).live, rl2, ?_⟩
  exact hd.mono (fun d q v H3 g3 k3 rp => q v H3 (g1.trans g3) k3 rp) fun e he cls dx H3 g3 k3 xr => he cls dx H3 (g1.trans g3) k3 xr
theorem de_make (M : MkD X.prog X.w X.K X.mg X.base G k c x n g) (hr : Room (k + 1) X.A) (tk : Takes X W) (ha : DA X G W (ex :: es) fs) (hg : Gl X x := by rfl)
    (hdb : (x == ("__debug__" : Str)) = false := by decide) (he : starEach (ex :: es) X.env = (false, eval ex X.env) :: starEach es X.env := by rfl) (hpl : (backTo pos (starEach es X.env)).any (·.1) = false := by rfl) :
    DE X G W (.Call (.Name x p) (ex :: es) [] pos) (fun r => fs r >>= g) := by
  obtain ⟨⟨fa, fd, ps, hn, ok, hb, mk⟩, hl, hm⟩ := M
  refine PE_imp (pe_make_s mk ok hr hg hm hb (fun sg => passAt tk sg) ha hdb he hpl) fun sg H Q ⟨dl, Z, O, r, A, q⟩ => ?_
  refine ⟨dl, Z, O, r, A, q.bind.thn fun ds hd vs H1 g1 k1 rl a dx na nd nad => ?_⟩
  have A1 := A.grow g1 k1
  have same : ∀ b o, H1 b = some o → (upd (upd H1 dx (.own a)) a (.ins (G.cls c) dx [])) b = some o := fun b o e => by
    rw [upd_ne (ne_of_none e na), upd_ne (ne_of_none e nd)]; exact e
  have k2 : GlOk G dl (upd (upd H1 dx (.own a)) a (.ins (G.cls c) dx [])) := k1.same same
  have hcut : GrowS (cut H1 Z) (cut (upd (upd H1 dx (.own a)) a (.ins (G.cls c) dx [])) (a :: Z)) := fun b o e n => by
    obtain ⟨e1, e2⟩ := cut_some e
    have hb : b ∉ a :: Z := fun z => by
      rcases List.mem_cons.mp z with z | z
      · exact ne_of_none e2 na z
      · exact e1 z
    rw [cut_out hb]
    exact same b o e2
  refine ⟨by rw [List.length_cons, rl.length]; exact congrArg (· + 1) (hl ds _ _ hd), dl, Z, ds, a, dx, vs, rfl, upd_same, A1.out na, k2, A.dz, fun b hb => ?_, rl.mono hcut, ?_⟩
  · obtain ⟨o, e, nt⟩ := A1.live b hb
    exact ⟨o, same b o e, nt⟩
  · have fr : ∀ H2 : Hp, (∀ b o, (upd (upd H1 dx (.own a)) a (.ins (G.cls c) dx [])) b = some o → b ≠ dl → b ≠ a → (∀ ps, o ≠ .tbl ps) → H2 b = some o) → Grow dl H1 H2 := fun H2 h b o e n nt => h b o (same b o e) n (ne_of_none e na) nt
    exact hd.mono (fun d q H2 h2 k3 rp => ⟨rfl, q _ H2 (g1.trans (fr H2 h2)) k3 rp⟩) fun e he cls dx' H2 h2 k3 xr => he cls dx' H2 (g1.trans (fr H2 h2)) k3 xr
end
end DL
set_option Elab.async false
set_option linter.all false
set_option maxRecDepth 100000
namespace DL
open PySem L2 PySem.Spec PyProof.Rows
/-- an expression's result in a statement: what is raised ends it -/
def R.onS {α : Type} : R α → LE → (α → R Out) → R Out
  | .ok a, _, k => k a
  | .err e, r, _ => .ok (.ex e r)
  | .stuck, _, _ => .stuck
  | .roll m f, r, k => .roll m fun i => (f i).onS r k
section
variable {α : Type}
@[simp] theorem onS_ok (a : α) (r : LE) (k : α → R Out) : (R.ok a).onS r k = k a := rfl
@[simp] theorem onS_err (e : Exc) (r : LE) (k : α → R Out) : (R.err e : R α).onS r k = .ok (.ex e r) := rfl
@[simp] theorem onS_stuck (r : LE) (k : α → R Out) : (R.stuck : R α).onS r k = .stuck := rfl
@[simp] theorem onS_roll (m : Nat) (f : Nat → R α) (r : LE) (k : α → R Out) : (R.roll m f).onS r k = .roll m fun i => (f i).onS r k := rfl
theorem onS_wp {Q : Out → Prop} {E : Exc → Prop} {r : LE} {k : α → R Out} : ∀ {m : R α}, Wp (m.onS r k) Q E → Wp m (fun a => Wp (k a) Q E) (fun e => Q (.ex e r))
  | .ok _, h => h
  | .err _, h => h
  | .stuck, h => h
  | .roll _ _, h => fun i hi => onS_wp (h i hi)
end
def skipS : LE → R Out := fun r => .ok (.nx r)
def seqS (F K : LE → R Out) : LE → R Out := fun r => do
  match ← F r with
  | .nx r' => K r'
  | o => .ok o
def retS (f : LE → R D) : LE → R Out := fun r => (f r).onS r fun d => .ok (.rt d)
def dropS (f : LE → R D) : LE → R Out := fun r => (f r).onS r fun _ => .ok (.nx r)
def ifS (c : LE → R Bool) (F K : LE → R Out) : LE → R Out := fun r => (c r).onS r fun b => if b then F r else K r
def frz (i : Nat) (r : LE) : LE := match r[i]? with
  | some (.own (.lst ds)) => r.set i (.val (.lst ds))
  | some (.own (.dic ds)) => r.set i (.val (.dic ds))
  | some (.own (.tdic ds)) => r.set i (.val (.tdic ds))
  | _ => r
section
variable {G : Gm} {dl : Addr} {Z : List Addr} {O : List (Nat × Addr)} {r : LE} {sg : L2.St} {H H1 : Hp} {W : WX} {d : D} {v : V} {De : Ends}
/-- an expression's error, in a statement -/
theorem spost_ex (A : At G dl Z O r sg H) {e : Exc} (h : SPost G W De dl Z O H (.ex e r)) : ∀ cls dx H', Grow dl H H' → GlOk G dl H' → XRep G dl (cut H' Z) e cls dx H' → W cls dx sg H' :=
  fun cls dx H' g k x => h Z O sg H' cls dx (Stp.of_grow g k) (A.grow g k) x
theorem set_get {α : Type} {l : List α} {i j : Nat} {a b : α} (h : (l.set i a)[j]? = some b) : (j = i ∧ b = a ∧ i < l.length) ∨ (j ≠ i ∧ l[j]? = some b) := by
  by_cases e : i = j
  · subst e
    by_cases q : i < l.length
    · rw [List.getElem?_set_self q] at h
      exact .inl ⟨rfl, (Option.some.inj h).symm, q⟩
    · rw [List.getElem?_eq_none (by simpa using q)] at h; cases h
  · rw [List.getElem?_set_ne e] at h
    exact .inr ⟨fun z => e z.symm, h⟩
theorem At.set_val (A : At G dl Z O r sg H) (i : Nat) (rp : Rep G dl (cut H Z) d v) : At G dl Z O (r.set i (.val d)) (sg.set i (some v)) H := by
  refine ⟨A.gl, A.dz, A.live, A.own, A.inj, by rw [List.length_set, List.length_set, A.len], fun j c e => ?_⟩
  rcases set_get e with ⟨rfl, rfl, hl⟩ | ⟨hn, e2⟩
  · exact ⟨v, List.getElem?_set_self (by rw [← A.len]; exact hl), rp⟩
  · rw [List.getElem?_set_ne (fun z => hn z.symm)]
    exact A.slot j c e2
theorem At.set_un (A : At G dl Z O r sg H) (i : Nat) (x : Option V) : At G dl Z O (r.set i .un) (sg.set i x) H := by
  refine ⟨A.gl, A.dz, A.live, A.own, A.inj, by rw [List.length_set, List.length_set, A.len], fun j c e => ?_⟩
  rcases set_get e with ⟨rfl, rfl, hl⟩ | ⟨hn, e2⟩
  · trivial
  · rw [List.getElem?_set_ne (fun z => hn z.symm)]
    exact A.slot j c e2
theorem cut_new {p : Addr} {o : HO} (h : H p = none) : GrowS (cut H Z) (cut (upd H p o) (p :: Z)) := fun b u e n => by
  obtain ⟨e1, e2⟩ := cut_some e
  have hb : b ≠ p := ne_of_none e2 h
  rw [cut_out (by simp only [List.mem_cons, not_or]; exact ⟨hb, e1⟩), upd_ne hb]
  exact e2
theorem At.set_own (A : At G dl Z O r sg H) (i : Nat) {p : Addr} {o : HO} (hp : H p = none) (ow : OwnAt G dl (cut H Z) d (some o)) (hk : kee i d = i ∧ keeOk i d) : At G dl (p :: Z) ((i, p) :: O) (r.set i (.own d)) (sg.set i (some (.ref p))) (upd H p o) := by
  obtain ⟨u, hu, nt⟩ := ow.notTbl
  cases hu
  refine ⟨A.gl.new hp, List.mem_cons_of_mem _ A.dz, fun a ha => ?_, fun q hq => ?_, fun q hq q' hq' e => ?_, by rw [List.length_set, List.length_set, A.len], fun j c e => ?_⟩
  · rcases List.mem_cons.mp ha with rfl | ha
    · exact ⟨o, upd_same, nt⟩
    · obtain ⟨u, e, n⟩ := A.live a ha
      exact ⟨u, by rw [upd_ne (ne_of_none e hp)]; exact e, n⟩
  · rcases List.mem_cons.mp hq with rfl | hq
    · exact ⟨List.mem_cons_self, A.notdl hp⟩
    · exact ⟨List.mem_cons_of_mem _ (A.own q hq).1, (A.own q hq).2⟩
  · have no : ∀ q ∈ O, q.2 ≠ p := fun q hq z => A.out hp (z ▸ (A.own q hq).1)
    rcases List.mem_cons.mp hq with rfl | hq
    · rcases List.mem_cons.mp hq' with rfl | hq'
      · rfl
      · exact (no _ hq' e.symm).elim
    · rcases List.mem_cons.mp hq' with rfl | hq'
      · exact (no _ hq e).elim
      · exact A.inj q hq q' hq' e
  · rcases set_get e with ⟨rfl, rfl, hl⟩ | ⟨hn, e2⟩
    · refine ⟨p, by rw [hk.1]; exact List.mem_cons_self, List.getElem?_set_self (by rw [← A.len]; exact hl), ?_, hk.2⟩
      rw [upd_same]
      exact ow.mono (cut_new hp)
    · rw [List.getElem?_set_ne (fun z => hn z.symm)]
      have := A.slot j c e2
      cases c with
      | un => trivial
      | val d =>
        obtain ⟨v, e, q⟩ := this
        exact ⟨v, e, q.mono (cut_new hp)⟩
      | own d =>
        obtain ⟨a, ha, e, q, ko⟩ := this
        refine ⟨a, List.mem_cons_of_mem _ ha, e, ?_, ko⟩
        have hap : a ≠ p := fun z => A.out hp (by rw [← z]; exact (A.own _ ha).1)
        rw [upd_ne hap]
        exact q.mono (cut_new hp)
theorem Stp.new {p : Addr} {o : HO} {i : Nat} (A : At G dl Z O r sg H) (hp : H p = none) (hi : i ≠ 1000000) : Stp dl Z O H (p :: Z) ((i, p) :: O) (upd H p o) :=
  ⟨fun a u e _ _ _ => by rw [upd_ne (ne_of_none e hp)]; exact e, fun q hq => by
    rcases List.mem_cons.mp hq with rfl | hq
    · exact .inr (Free.of hp)
    · exact .inl ⟨q, hq, rfl⟩, fun a ha _ => List.mem_cons_of_mem _ ha, fun a ha => (List.mem_cons.mp ha).elim (fun e => .inr (by rw [e]; exact Free.of hp)) .inl, fun a ha => (List.mem_cons.mp ha).elim (fun e => (hi (congrArg Prod.fst e).symm).elim) id, fun a f u e => f u (by rw [upd_ne (ne_of_none e hp)]; exact e)⟩
/-- an owned thing is written -/
theorem At.write {d' : D} {o : HO} {i : Nat} {a : Addr} (A : At G dl Z O r sg H) (hi : r[i]? = some (.own d)) (ha : (kee i d, a) ∈ O) (hs : sg[i]? = some (some (.ref a))) (ow : OwnAt G dl (cut H Z) d' (some o)) (hk : kee i d' = kee i d) (ko' : keeOk i d') : At G dl Z O (r.set i (.own d')) sg (upd H a o) := by
  obtain ⟨u, hu, nt⟩ := ow.notTbl
  cases hu
  obtain ⟨haz, had⟩ := A.own _ ha
  obtain ⟨o0, ho0, nt0⟩ := A.live a haz
  have gcut : GrowS (cut H Z) (cut (upd H a o) Z) := fun b u e n => by
    obtain ⟨e1, e2⟩ := cut_some e
    have hba : b ≠ a := fun z => e1 (by rw [z]; exact haz)
    rw [cut_out e1, upd_ne hba]
    exact e2
  obtain ⟨x, y, z, hd⟩ := A.gl.dice
  have ho0x : isX o0 = false := by
    obtain ⟨a', ha', hs', q, _⟩ := A.slot i _ hi
    have ea : a' = a := by rw [hs] at hs'; cases hs'; rfl
    subst ea
    rw [ho0] at q
    unfold OwnAt at q
    split at q
    · obtain ⟨_, z, _⟩ := q; cases z; rfl
    · obtain ⟨_, z, _⟩ := q; cases z; rfl
    · obtain ⟨_, _, z, _⟩ := q; cases z; rfl
    · obtain ⟨_, z, _⟩ := q; cases z; rfl
    · exact q.elim
  refine ⟨⟨⟨x, y, z, by rw [upd_ne (fun e => had e.symm)]; exact hd⟩, A.gl.tab.upd ho0 ho0x⟩, A.dz, fun b hb => ?_, A.own, A.inj, by rw [List.length_set, A.len], fun j c e => ?_⟩
  · by_cases e : b = a
    · rw [e]; exact ⟨o, upd_same, nt⟩
    · obtain ⟨u, h1, h2⟩ := A.live b hb
      exact ⟨u, by rw [upd_ne e]; exact h1, h2⟩
  · rcases set_get e with ⟨rfl, rfl, hl⟩ | ⟨hn, e2⟩
    · exact ⟨a, by rw [hk]; exact ha, hs, by rw [upd_same]; exact ow.mono gcut, ko'⟩
    · have := A.slot j c e2
      cases c with
      | un => trivial
      | val d =>
        obtain ⟨v, e, q⟩ := this
        exact ⟨v, e, q.mono gcut⟩
      | own d =>
        obtain ⟨b, hb, e, q, ko⟩ := this
        refine ⟨b, hb, e, ?_, ko⟩
        obtain ⟨_, _, _, _, koi⟩ := A.slot i _ hi
        have hba : b ≠ a := fun z => hn (kee_inj ko koi (congrArg Prod.fst (A.inj _ hb _ ha z)))
        rw [upd_ne hba]
        exact q.mono gcut
theorem Stp.write {o : HO} {k : Nat} {a : Addr} (ha : (k, a) ∈ O) (nt : ∀ ps, o ≠ .tbl ps) : Stp dl Z O H Z O (upd H a o) :=
  ⟨fun b u e _ m _ => by rw [upd_ne fun z => m _ ha z.symm]; exact e, fun q hq => .inl ⟨q, hq, rfl⟩, fun _ h _ => h, fun _ h => .inl h, fun _ h => h, fun b f u e => by
    by_cases z : b = a
    · obtain ⟨ps, e2⟩ := f o (by rw [z, upd_same])
      exact (nt ps e2).elim
    · exact f u (by rw [upd_ne z]; exact e)⟩
/-- a dict -/
def isDct : HO → Prop
  | .dK _ => True
  | .dT _ => True
  | _ => False
end
end DL
set_option Elab.async false
set_option linter.all false
set_option maxRecDepth 100000
namespace DL
open PySem L2 PySem.Spec PyProof.Rows
/-- a value for a name: read alone (val), or a new list or dict of one's own (own) -/
def tK (G : Gm) (W : WX) (f : LE → R Cell) : TE := fun sg H Q => ∃ dl Z O r, At G dl Z O r sg H ∧
  Wp (f r) (fun c => match c with
    | .val d => ∀ v H', Grow dl H H' → GlOk G dl H' → Rep G dl (cut H' Z) d v → Q v H'
    | .own d => ∀ p o H', Grow dl H H' → GlOk G dl H' → H' p = none → OwnAt G dl (cut H' Z) d (some o) → (∀ i, i ≠ 1000000 → kee i d = i ∧ keeOk i d) → Q (.ref p) (upd H' p o)
    | .un => False)
    (fun e => ∀ cls dx H', Grow dl H H' → GlOk G dl H' → XRep G dl (cut H' Z) e cls dx H' → W cls dx sg H')
abbrev DK (X : Cx) (G : Gm) (W : WX) (e : Expr) (f : LE → R Cell) : Prop := PE X e (tK G W f)
def valK (f : LE → R D) : LE → R Cell := fun r => f r >>= fun d => .ok (.val d)
def ownK (f : LE → R (List D)) : LE → R Cell := fun r => f r >>= fun ds => .ok (.own (.lst ds))
def okK : Cell → R Cell
  | .un => .stuck
  | .val d => .ok (.val d)
  | .own d => .ok (.own d)
def setK (i : Nat) (f : LE → R Cell) : LE → R Out := fun r => (f r >>= okK).onS r fun c => .ok (.nx (r.set i c))
def parK (i j : Nat) (f g : LE → R Cell) : LE → R Out := fun r => (f r >>= okK).onS r fun c => (g r >>= okK).onS r fun c' => .ok (.nx ((r.set i c).set j c'))
def tGd (G : Gm) (gd : D → LE → Option LE) (is : List Nat) : TG := fun v sg H Q => ∃ dl Z O r d, At G dl Z O r sg H ∧ Rep G dl (cut H Z) d v ∧ ∃ r', gd d r = some r' ∧
  ∀ sg', sg'.length = sg.length → (∀ j, j ∉ is → sg'[j]? = sg[j]?) → At G dl Z O r' sg' H → Q sg' H
abbrev DG (X : Cx) (G : Gm) (tg : Expr) (gd : D → LE → Option LE) (is : List Nat) : Prop := PG X tg (tGd G gd is)
def tGs (G : Gm) (gs : List D → LE → Option LE) (is : List Nat) : TGs := fun vs sg H Q => ∃ dl Z O r ds, At G dl Z O r sg H ∧ RepL G dl (cut H Z) ds vs ∧ ∃ r', gs ds r = some r' ∧
  ∀ sg', sg'.length = sg.length → (∀ j, j ∉ is → sg'[j]? = sg[j]?) → At G dl Z O r' sg' H → Q sg' H
abbrev DGs (X : Cx) (G : Gm) (tg : List Expr) (gs : List D → LE → Option LE) (is : List Nat) : Prop := PGs X tg (tGs G gs is)
def gN (i : Nat) : D → LE → Option LE := fun d r => some (r.set i (.val d))
def gNil_ : List D → LE → Option LE
  | [], r => some r
  | _, _ => none
def gCons_ (g : D → LE → Option LE) (gs : List D → LE → Option LE) : List D → LE → Option LE
  | d :: ds, r => (g d r).bind (gs ds)
  | [], _ => none
def gTup_ (n : Nat) (gs : List D → LE → Option LE) : D → LE → Option LE
  | .tup ds, r => if ds.length = n then gs ds r else none
  | _, _ => none
def asgS (f : LE → R D) (gd : D → LE → Option LE) : LE → R Out := fun r => (f r).onS r fun d => match gd d r with
  | some r' => .ok (.nx r')
  | none => .stuck
theorem PG_imp {X : Cx} {e : Expr} {t t' : TG} (h : PG X e t) (i : ∀ v sg H Q, t' v sg H Q → t v sg H Q) : PG X e t' := ⟨fun pins s sg H v u Q I r q => h.run pins s sg H v u Q I r (i _ _ _ _ q)⟩
theorem PGs_imp {X : Cx} {e : List Expr} {t t' : TGs} (h : PGs X e t) (i : ∀ v sg H Q, t' v sg H Q → t v sg H Q) : PGs X e t' := ⟨fun pins s sg H v u Q I r q => h.run pins s sg H v u Q I r (i _ _ _ _ q)⟩
section
variable {X : Cx} {G : Gm} {W : WX} {ex a b c : Expr} {es : List Expr} {f : LE → R D} {fk fk2 : LE → R Cell} {fs : LE → R (List D)} {h : LE → R Bool} {F K : LE → R Out} {st : Stmt} {rest : List Stmt} {pos pos' : Pos} {x y : Str} {i j : Nat}
theorem DE.k (q : DE X G W ex f) : DK X G W ex (valK f) := PE_imp q fun sg H Q ⟨dl, Z, O, r, A, q⟩ => ⟨dl, Z, O, r, A, q.bind.thn fun d z => z⟩
theorem DF.k (q : DF X G W ex fs) : DK X G W ex (ownK fs) := PE_imp q fun sg H Q ⟨dl, Z, O, r, A, q⟩ => ⟨dl, Z, O, r, A, q.bind.thn fun ds z p vs H' g k hp rl => z p (.lst vs) H' g k hp ⟨vs, rfl, rl⟩ fun i hi => ⟨rfl, hi⟩⟩
theorem dss_nil : DSs X G W [] skipS := PSs_imp pss_nil fun De sg H ⟨dl, Z, O, r, A, q⟩ => q Z O sg H Stp.refl A
theorem dss_cons (h1 : DS X G W st F) (h2 : DSs X G W rest K) : DSs X G W (st :: rest) (seqS F K) := PSs_imp (pss_cons h1 h2) fun De sg H ⟨dl, Z, O, r, A, q⟩ => by
  refine ⟨dl, Z, O, r, A, q.bind.thn fun o ho => ?_⟩
  cases o with
  | nx r' => exact fun Z' O' sg' H' s A' => ⟨dl, Z', O', r', A', ho.thn fun o z => SPost.trans A s z⟩
  | bk r' => exact ho
  | ct r' => exact ho
  | rt d => exact ho
  | ex e r' => exact ho
theorem dss_one (h1 : DS X G W st F) : DSs X G W [st] F := PSs_imp (pss_one h1) fun _ _ _ z => z
theorem cr_lkN {X : Cx} {f : Value} {rr : List V → Hp → VK → Prop} (h : CallR X f rr) : CallR X f (fun vs H Q => rr vs H fun v H1 => ∃ p u, v = .ref p ∧ H1 p = some u ∧ isDct u ∧ ∀ od, Q v (upd H1 p (.frz od u))) := by
  intro pins s sg H xs us Q I r q
  refine thn (h pins s sg H xs us _ I r q) fun v s1 ⟨x, H1, I1, r, p, u, ex, e, hu, q⟩ => ?_
  obtain ⟨od, I2⟩ := I1.lock e (by cases u <;> first | exact hu.elim | exact trivial)
  exact ⟨x, _, I2, r, q od⟩
theorem ds_set (i : Nat) (he : DK X G W ex fk) (hti : i ≠ 1000000 := by decide) (hN : X.N.Nodup) (hi : X.N[i]? = some x := by rfl) (hx : Loc X.env.scope x := by first | exact Or.inl rfl | exact Or.inr rfl) (hs : swapsWith ex (some (.Name x pos')) pos.line X.env = pure false := by rfl)
    (hf : X.fn x = true ∨ X.env.scope.names.lookup x = some .local := by first | exact .inl rfl | exact .inr rfl) : DS X G W (.Assign [.Name x pos'] ex pos) (setK i fk) := PS_imp (ps_set hN hi hx he hs hf) fun De sg H ⟨dl, Z, O, r, A, q⟩ => by
  refine ⟨dl, Z, O, r, A, (onS_wp q).bind.mono (fun c hc => ?_) fun e he => spost_ex A he⟩
  cases c with
  | val d => exact fun v H1 g1 k1 rp => hc Z O _ H1 (Stp.of_grow g1 k1) ((A.grow g1 k1).set_val i rp)
  | own d => exact fun p o H1 g1 k1 hp ow hk => hc _ _ _ _ (Stp.trans A (Stp.of_grow g1 k1) (Stp.new (A.grow g1 k1) hp hti)) ((A.grow g1 k1).set_own i hp ow (hk i hti))
  | un => exact hc.elim
theorem ds_asg {gd : D → LE → Option LE} {is : List Nat} {tg : Expr} (he : DE X G W ex f) (hg : DG X G tg gd is) (hs : swapsWithSole [tg] ex pos.line X.env = pure false := by rfl) (hw : swappedStores [tg] ex X.env = pure none := by rfl)
    (h1 : (assignEach [tg] X.env).map (·.2) = [assign tg X.env] := by rfl) : DS X G W (.Assign [tg] ex pos) (asgS f gd) := PS_imp (ps_asg he hg hs hw h1) fun De sg H ⟨dl, Z, O, r, A, q⟩ => by
  refine ⟨dl, Z, O, r, A, (onS_wp q).mono (fun d hd v H1 g1 k1 rp => ?_) fun e he => spost_ex A he⟩
  split at hd
  · rename_i r' hr
    exact ⟨dl, Z, O, r, d, A.grow g1 k1, rp, r', hr, fun sg' _ _ A' => hd Z O sg' H1 (Stp.of_grow g1 k1) A'⟩
  · exact hd.elim
theorem ds_ret (he : DE X G W ex f) : DS X G W (.Return (some ex) pos) (retS f) := PS_imp (ps_ret he) fun De sg H ⟨dl, Z, O, r, A, q⟩ =>
  ⟨dl, Z, O, r, A, (onS_wp q).mono (fun d hd v H1 g1 k1 rp => hd Z O v H1 (Stp.of_grow g1 k1) k1 rp) fun e he => spost_ex A he⟩
theorem ds_expr (he : DE X G W ex f) (hs : swapsWith ex none pos.line X.env = pure false := by rfl) : DS X G W (.Expr ex pos) (dropS f) := PS_imp (ps_expr he hs) fun De sg H ⟨dl, Z, O, r, A, q⟩ =>
  ⟨dl, Z, O, r, A, (onS_wp q).mono (fun d hd v H1 g1 k1 rp => hd Z O sg H1 (Stp.of_grow g1 k1) (A.grow g1 k1)) fun e he => spost_ex A he⟩
theorem ds_if {sa sb : List Stmt} (hc : DT X G W c h) (ha : DSs X G W sa F) (hb : DSs X G W sb K) : DS X G W (.If c sa sb pos) (ifS h F K) := PS_imp (ps_if hc ha hb) fun De sg H ⟨dl, Z, O, r, A, q⟩ => by
  refine ⟨dl, Z, O, r, A, (onS_wp q).mono (fun b hb H1 g1 k1 => ?_) fun e he => spost_ex A he⟩
  cases b with
  | true => exact ⟨dl, Z, O, r, A.grow g1 k1, hb.thn fun o z => SPost.trans A (Stp.of_grow g1 k1) z⟩
  | false => exact ⟨dl, Z, O, r, A.grow g1 k1, hb.thn fun o z => SPost.trans A (Stp.of_grow g1 k1) z⟩
theorem dg_name (i : Nat) (hN : X.N.Nodup) (hi : X.N[i]? = some x := by rfl) (hx : Loc X.env.scope x := by first | exact Or.inl rfl | exact Or.inr rfl) (hf : X.fn x = true ∨ X.env.scope.names.lookup x = some .local := by first | exact .inl rfl | exact .inr rfl) :
    DG X G (.Name x pos) (gN i) [i] := PG_imp (pg_name hN hi hx hf) fun v sg H Q ⟨dl, Z, O, r, d, A, rp, r', hr, q⟩ => by
  cases hr
  exact q _ (List.length_set ..) (fun j hj => List.getElem?_set_ne (by simpa using fun e : i = j => hj (by simp [e]))) (A.set_val i rp)
theorem dgs_nil : DGs X G [] gNil_ [] := PGs_imp pgs_nil fun vs sg H Q ⟨dl, Z, O, r, ds, A, rl, r', hr, q⟩ => by
  cases ds with
  | nil =>
    cases hr
    unfold RepL at rl
    exact ⟨rl, q sg rfl (fun _ _ => rfl) A⟩
  | cons d ds => cases hr
theorem dgs_cons {g1 : D → LE → Option LE} {gs : List D → LE → Option LE} {is js : List Nat} (h1 : DG X G ex g1 is) (h2 : DGs X G es gs js)
    (hs : (assignEach (ex :: es) X.env).map (·.2) = assign ex X.env :: (assignEach es X.env).map (·.2) := by rfl) : DGs X G (ex :: es) (gCons_ g1 gs) (is ++ js) := PGs_imp (pgs_cons h1 h2 hs) fun vs sg H Q ⟨dl, Z, O, r, ds, A, rl, r', hr, q⟩ => by
  cases ds with
  | nil => cases hr
  | cons d ds =>
    unfold RepL at rl
    obtain ⟨v, us, rfl, rp, rl⟩ := rl
    change (g1 d r).bind (gs ds) = some r' at hr
    cases e : g1 d r with
    | none => rw [e] at hr; cases hr
    | some r1 =>
      rw [e] at hr
      refine ⟨v, us, rfl, dl, Z, O, r, d, A, rp, r1, e, fun sg1 l1 s1 A1 => ?_⟩
      refine ⟨dl, Z, O, r1, ds, A1, rl, r', hr, fun sg2 l2 s2 A2 => q sg2 (l2.trans l1) (fun j hj => ?_) A2⟩
      rw [List.mem_append, not_or] at hj
      rw [s2 j hj.2, s1 j hj.1]
theorem dg_tup {gs : List D → LE → Option LE} {is : List Nat} {k : Nat} {n : Nat} (hG : G.K = X.K) (hc : X.calm = true) (h : DGs X G es gs is) (hn : (assignEach es X.env).length = n := by rfl) (hst : (assignEach es X.env).findIdx? (·.1) = none := by rfl) :
    DG X G (.Tuple es k pos) (gTup_ n gs) is := PG_imp (pg_tup hc h hn hst) fun v sg H Q ⟨dl, Z, O, r, d, A, rp, r', hr, q⟩ => by
  cases d <;> first | (cases hr; done) | skip
  rename_i ds
  change (if ds.length = n then gs ds r else none) = some r' at hr
  split at hr
  · rename_i hl
    unfold Rep at rp
    obtain ⟨a, vs, rfl, e, rl⟩ := rp
    exact ⟨a, vs, rfl, hG ▸ (cut_grow H Z).sqt (SqT.of e), by rw [rl.length]; exact hl, dl, Z, O, r, ds, A, rl, r', hr, q⟩
  · cases hr
theorem At.aside {dl : Addr} {Z : List Addr} {O : List (Nat × Addr)} {r : LE} {sg : L2.St} {H : Hp} (A : At G dl Z O r sg H) {p : Addr} {o : HO} (hp : H p = none) (nt : NT o) : At G dl (p :: Z) O r sg (upd H p o) := by
  refine ⟨A.gl.new hp, List.mem_cons_of_mem _ A.dz, fun a ha => ?_, fun q hq => ⟨List.mem_cons_of_mem _ (A.own q hq).1, (A.own q hq).2⟩, A.inj, A.len, fun j c e => ?_⟩
  · rcases List.mem_cons.mp ha with rfl | ha
    · exact ⟨o, upd_same, nt⟩
    · obtain ⟨u, e, n⟩ := A.live a ha
      exact ⟨u, by rw [upd_ne (ne_of_none e hp)]; exact e, n⟩
  · have := A.slot j c e
    cases c with
    | un => trivial
    | val d =>
      obtain ⟨v, e, q⟩ := this
      exact ⟨v, e, q.mono (cut_new hp)⟩
    | own d =>
      obtain ⟨a, ha, e, q, ko⟩ := this
      have hap : a ≠ p := fun z => A.out hp (by rw [← z]; exact (A.own _ ha).1)
      refine ⟨a, ha, e, ?_, ko⟩
      rw [upd_ne hap]
      exact q.mono (cut_new hp)
theorem XRep.mono {dl : Addr} {S S' : Hp} {e : Exc} {cls : Value} {dx : Option Addr} {H : Hp} (g : GrowS S S') (x : XRep G dl S e cls dx H) : XRep G dl S' e cls dx H := by
  unfold XRep at *
  refine ⟨x.1, ?_⟩
  have x2 := x.2
  split
  · rename_i hn; rw [hn] at x2; exact x2
  · rename_i f hf
    rw [hf] at x2
    obtain ⟨d, v, h1, h2, h3⟩ := x2
    exact ⟨d, v, h1, h2, h3.mono g⟩
theorem ds_par (i j : Nat) (hc : X.calm = true) (hN : X.N.Nodup) {px py pt pt2 : Pos} {kt k2 : Nat} (hij : i ≠ j) (hti : i ≠ 1000000) (htj : j ≠ 1000000) (ha : DK X G W a fk) (hb : DK X G W b fk2)
    (hx : X.env.scope.names.lookup x = some .local := by rfl) (hy : X.env.scope.names.lookup y = some .local := by rfl) (hi : X.N[i]? = some x := by rfl) (hj : X.N[j]? = some y := by rfl)
    (hw : swappedStores [.Tuple [.Name x px, .Name y py] kt pt] (.Tuple [a, b] k2 pt2) X.env = pure (some [x, y]) := by rfl)
    (hs : swapsWithSole [.Tuple [.Name x px, .Name y py] kt pt] (.Tuple [a, b] k2 pt2) pos.line X.env = pure false := by rfl)
    (s1 : starEach [a, b] X.env = (false, eval a X.env) :: starEach [b] X.env := by rfl) (s2 : starEach [b] X.env = (false, eval b X.env) :: starEach [] X.env := by rfl) :
    DS X G W (.Assign [.Tuple [.Name x px, .Name y py] kt pt] (.Tuple [a, b] k2 pt2) pos) (parK i j fk fk2) := PS_imp (ps_par hc hN hi hj hij hx hy (pa_cons ha (pa_cons hb pa_nil s2) s1) hw hs) fun De sg H ⟨dl, Z, O, r, A, q⟩ => by
  refine ⟨dl, Z, O, r, A, (onS_wp q).bind.mono (fun c hc => ?_) fun e he => spost_ex A he⟩
  cases c with
  | val d =>
    intro v H1 g1 k1 rp
    have A1 := A.grow g1 k1
    refine ⟨dl, Z, O, r, A1, (onS_wp hc).bind.mono (fun c' hc' => ?_) fun e he => epost g1 (spost_ex A he)⟩
    cases c' with
    | val d' =>
      intro v' H2 g2 k2 rp'
      exact ⟨v, v', rfl, hc' Z O _ H2 (Stp.of_grow (g1.trans g2) k2) (((A1.grow g2 k2).set_val i (rp.mono (g2.cut A.dz))).set_val j rp')⟩
    | own d' =>
      intro p o H2 g2 k2 hp ow hk
      have A2 := (A1.grow g2 k2).set_val i (rp.mono (g2.cut A.dz))
      exact ⟨v, _, rfl, hc' _ _ _ _ (Stp.trans A (Stp.of_grow (g1.trans g2) k2) (Stp.new A2 hp htj)) (A2.set_own j hp ow (hk j htj))⟩
    | un => exact hc'.elim
  | own d =>
    intro p o H1 g1 k1 hp ow hk
    obtain ⟨_, ho, nt⟩ := ow.notTbl
    cases ho
    have A1 := A.grow g1 k1
    have B1 := A1.aside hp nt
    have B2 := A1.set_own i hp ow (hk i hti)
    have hs1 : Stp dl Z O H (p :: Z) ((i, p) :: O) (upd H1 p o) := Stp.trans A (Stp.of_grow g1 k1) (Stp.new A1 hp hti)
    refine ⟨dl, p :: Z, O, r, B1, (onS_wp hc).bind.mono (fun c' hc' => ?_) fun e he cls dx H2 g2 k2 xr => ?_⟩
    · cases c' with
      | val d' =>
        intro v' H2 g2 k2 rp'
        exact ⟨_, v', rfl, hc' _ _ _ H2 (Stp.trans A hs1 (Stp.of_grow g2 k2)) ((B2.grow g2 k2).set_val j rp')⟩
      | own d' =>
        intro p' o' H2 g2 k2 hp' ow' hk'
        exact ⟨_, _, rfl, hc' _ _ _ _ (Stp.trans A hs1 (Stp.trans B2 (Stp.of_grow g2 k2) (Stp.new (B2.grow g2 k2) hp' htj))) ((B2.grow g2 k2).set_own j hp' ow' (hk' j htj))⟩
      | un => exact hc'.elim
    · exact spost_ex A he cls dx H2 ((g1.trans (.new hp)).trans g2) k2 (xr.mono (cut_sub fun a ha => List.mem_cons_of_mem _ ha))
  | un => exact hc.elim
end
end DL
set_option Elab.async false
set_option linter.all false
set_option maxRecDepth 100000
namespace DL
open PySem L2 PySem.Spec PyProof.Rows
/-- the iterator J hands out ds, as long as B -/
structure WalkE (G : Gm) (dl : Addr) (J : It) (ds : List D) (B : List Addr → Hp → Prop) : Prop where
  mono : ∀ Z Z' H H', GrowS (cut H Z) (cut H' Z') → Grow dl H H' → B Z H → B Z' H'
  go : ∀ i Z H, B Z H → i < ds.length → J.go i H
  stop : ∀ i Z H, B Z H → ds.length ≤ i → J.stop i H
  yld : ∀ i Z O r sg H x H', At G dl Z O r sg H → B Z H → J.yld i H x H' → ∀ d, ds[i]? = some d → Grow dl H H' ∧ (∀ G2 : Gm, GlOk G2 dl H → GlOk G2 dl H') ∧ Rep G dl (cut H' Z) d x
structure WalkS (G : Gm) (dl : Addr) (J : It) (ds : List D) (B : List Addr → Hp → Prop) : Prop extends WalkE G dl J ds B where
  monoS : ∀ Z Z' H H', GrowS (cut H Z) (cut H' Z') → B Z H → B Z' H'
def tIs (G : Gm) (W : WX) (f : LE → R (List D)) : TI := fun sg H Rr => ∃ dl Z O r, At G dl Z O r sg H ∧
  Wp (f r) (fun ds => ∀ J B H', Grow dl H H' → GlOk G dl H' → WalkS G dl J ds B → B Z H' → Rr J H')
    (fun e => ∀ cls dx H', Grow dl H H' → GlOk G dl H' → XRep G dl (cut H' Z) e cls dx H' → W cls dx sg H')
def tIe (G : Gm) (W : WX) (f : LE → R (List D)) : TI := fun sg H Rr => ∃ dl Z O r, At G dl Z O r sg H ∧
  Wp (f r) (fun ds => ∀ J B H', Grow dl H H' → GlOk G dl H' → WalkE G dl J ds B → B Z H' → Rr J H')
    (fun e => ∀ cls dx H', Grow dl H H' → GlOk G dl H' → XRep G dl (cut H' Z) e cls dx H' → W cls dx sg H')
abbrev DI (X : Cx) (G : Gm) (W : WX) (tg iter : Expr) (f : LE → R (List D)) : Prop := PI X tg iter (tIs G W f)
abbrev DIe (X : Cx) (G : Gm) (W : WX) (tg iter : Expr) (f : LE → R (List D)) : Prop := PI X tg iter (tIe G W f)
theorem PI_imp {X : Cx} {tg e : Expr} {t t' : TI} (h : PI X tg e t) (i : ∀ sg H Q, t' sg H Q → t sg H Q) : PI X tg e t' := ⟨fun pins s sg H Q I q => h.run pins s sg H Q I (i _ _ _ q)⟩
theorem DI.e {X : Cx} {G : Gm} {W : WX} {tg iter : Expr} {f : LE → R (List D)} (h : DI X G W tg iter f) : DIe X G W tg iter f :=
  PI_imp h fun sg H Q ⟨dl, Z, O, r, A, q⟩ => ⟨dl, Z, O, r, A, q.thn fun ds z J B H' g k w b => z J B H' g k w.toWalkE b⟩
def lstD : D → R (List D)
  | .lst ds => .ok ds
  | _ => .stuck
def tupD : D → R (List D)
  | .tup ds => .ok ds
  | _ => .stuck
section
variable {X : Cx} {G : Gm} {W : WX} {tg iter : Expr} {f : LE → R D} {pos p : Pos}
theorem walk_list {dl a : Addr} {ds : List D} {vs : List V} : WalkS G dl (Itl G.K a) ds (fun Z H => cut H Z a = some (.lst vs) ∧ RepL G dl (cut H Z) ds vs) where
  mono := fun Z Z' H H' g _ h => ⟨g a _ h.1 (fun ps z => by cases z), h.2.mono g⟩
  monoS := fun Z Z' H H' g h => ⟨g a _ h.1 (fun ps z => by cases z), h.2.mono g⟩
  go := fun i Z H h hi => by
    have := h.2.length
    exact ⟨vs, vs[i]'(by omega), SqL.of (cut_some h.1).2, by simp⟩
  stop := fun i Z H h hi => ⟨vs, SqL.of (cut_some h.1).2, by have := h.2.length; omega⟩
  yld := fun i Z O r sg H x H' A h hy d hd => by
    obtain ⟨rfl, hy⟩ := hy
    obtain ⟨v, h1, h2⟩ := RepL.getD ds vs i d h.2 hd
    have h3 := hy vs (SqL.of (cut_some h.1).2)
    rw [h1] at h3
    cases h3
    exact ⟨.refl _ _, fun _ k => k, h2⟩
theorem walk_tup {dl a : Addr} {ds : List D} {vs : List V} : WalkS G dl (Itt G.K a) ds (fun Z H => SqT G.K (cut H Z) a vs ∧ RepL G dl (cut H Z) ds vs) where
  mono := fun Z Z' H H' g _ h => ⟨g.sqt h.1, h.2.mono g⟩
  monoS := fun Z Z' H H' g h => ⟨g.sqt h.1, h.2.mono g⟩
  go := fun i Z H h hi => by
    have := h.2.length
    exact ⟨vs, vs[i]'(by omega), (cut_grow H Z).sqt h.1, by simp⟩
  stop := fun i Z H h hi => ⟨vs, (cut_grow H Z).sqt h.1, by have := h.2.length; omega⟩
  yld := fun i Z O r sg H x H' A h hy d hd => by
    obtain ⟨rfl, hy⟩ := hy
    obtain ⟨v, h1, h2⟩ := RepL.getD ds vs i d h.2 hd
    have h3 := hy vs ((cut_grow _ Z).sqt h.1)
    rw [h1] at h3
    cases h3
    exact ⟨.refl _ _, fun _ k => k, h2⟩
/-- range(..): the ints -/
def rangeL (lo : Int) (n : Nat) : List D := (List.range n).map fun (i : Nat) => D.int (lo + (i : Int))
def rng1 : List D → R (List D)
  | [.int j] => if j < 1073741824 ∧ -(1073741824) < j then .ok (rangeL 0 j.toNat) else .stuck
  | _ => .stuck
def rng2 : List D → R (List D)
  | [.int i, .int j] => if j < 1073741824 ∧ -(1073741824) < j ∧ i < 1073741824 ∧ -(1073741824) < i then .ok (rangeL i (j - i).toNat) else .stuck
  | _ => .stuck
theorem rangeL_get {lo : Int} {n i : Nat} {d : D} (h : (rangeL lo n)[i]? = some d) : d = .int (lo + (i : Int)) := by
  unfold rangeL at h
  rw [List.getElem?_map] at h
  cases e : (List.range n)[i]? with
  | none => rw [e] at h; cases h
  | some k =>
    rw [e] at h
    cases h
    obtain ⟨h1, h2⟩ := List.getElem?_eq_some_iff.mp e
    rw [List.getElem_range] at h2
    rw [h2]
theorem walk_rng {dl : Addr} {lo : Int} {n : Nat} : WalkS G dl (Itr lo n) (rangeL lo n) (fun _ _ => True) where
  mono := fun _ _ _ _ _ _ _ => trivial
  monoS := fun _ _ _ _ _ _ => trivial
  go := fun i Z H h hi => by
    show i < n
    unfold rangeL at hi; simpa using hi
  stop := fun i Z H h hi => by
    show n ≤ i
    unfold rangeL at hi; simpa using hi
  yld := fun i Z O r sg H x H' A h hy d hd => by
    obtain ⟨rfl, rfl⟩ := hy
    rw [rangeL_get hd]
    exact ⟨.refl _ _, fun _ k => k, Rep.int_⟩
theorem RepL.one_int {dl : Addr} {S : Hp} {j : Int} {vs : List V} (h : RepL G dl S [.int j] vs) : vs = [.int j] := by
  unfold RepL at h
  obtain ⟨v, r, rfl, h1, h2⟩ := h
  unfold Rep at h1
  unfold RepL at h2
  rw [h1, h2]
theorem di_rng1 {a : Expr} {fs : LE → R (List D)} (hg : Gl X "range") (hm : X.mg "range" = none) (ha : DA X G W [a] fs) (hs : starEach [a] X.env = [(false, eval a X.env)] := by rfl) : DI X G W tg (.Call (.Name "range" p) [a] [] pos) (fun r => fs r >>= rng1) :=
  PI_imp (pi_range1 hg hm ha hs) fun sg H Q ⟨dl, Z, O, r, A, q⟩ => by
    refine ⟨dl, Z, O, r, A, q.bind.thn fun ds hd vs H1 g1 k1 rl => ?_⟩
    unfold rng1 at hd
    split at hd
    · split at hd
      · rename_i j hj
        exact ⟨j, rl.one_int, by omega, by omega, hd _ _ H1 g1 k1 walk_rng trivial⟩
      · exact hd.elim
    · exact hd.elim
theorem di_rng2 {a b : Expr} {fs : LE → R (List D)} (hg : Gl X "range") (hm : X.mg "range" = none) (ha : DA X G W [a, b] fs) (hs : starEach [a, b] X.env = [(false, eval a X.env), (false, eval b X.env)] := by rfl) (hs2 : starEach [b] X.env = [(false, eval b X.env)] := by rfl) :
    DI X G W tg (.Call (.Name "range" p) [a, b] [] pos) (fun r => fs r >>= rng2) :=
  PI_imp (pi_range2 hg hm ha hs hs2) fun sg H Q ⟨dl, Z, O, r, A, q⟩ => by
    refine ⟨dl, Z, O, r, A, q.bind.thn fun ds hd vs H1 g1 k1 rl => ?_⟩
    unfold rng2 at hd
    split at hd
    · split at hd
      · rename_i i j hj
        unfold RepL at rl
        obtain ⟨v, us, rfl, h1, rl⟩ := rl
        have := rl.one_int
        subst this
        unfold Rep at h1
        subst h1
        exact ⟨i, j, rfl, ⟨by omega, by omega, by omega, by omega⟩, hd _ _ H1 g1 k1 walk_rng trivial⟩
      · exact hd.elim
    · exact hd.elim
end
def loopS (gd : D → LE → Option LE) (body : LE → R Out) : List D → LE → R Out
  | [], r => .ok (.nx r)
  | d :: ds, r => match gd d r with
    | none => .stuck
    | some r' => do
      match ← body r' with
      | .nx r2 => loopS gd body ds r2
      | .ct r2 => loopS gd body ds r2
      | .bk r2 => .ok (.nx r2)
      | .rt d => .ok (.rt d)
      | .ex e r2 => .ok (.ex e r2)
def forS (fi : LE → R (List D)) (gd : D → LE → Option LE) (body : LE → R Out) : LE → R Out := fun r => (fi r).onS r fun ds => loopS gd body ds r
section
variable {X : Cx} {G : Gm} {W : WX} {tg iter : Expr} {fi : LE → R (List D)} {gd : D → LE → Option LE} {is : List Nat} {F : LE → R Out} {body : List Stmt} {pos : Pos}
theorem ds_for (hp : PassesOwn (model X.prog X.w) X.A X.env X.xe) (hc : X.calm = true) (hi : DI X G W tg iter fi) (hg : DG X G tg gd is) (hb : DSs X G W body F)
    (hs : ∀ x, foldedSetIterable iter X.env x = pure x := by intro _; rfl) : DS X G W (.For tg iter body [] pos) (forS fi gd F) := PS_imp (ps_for hp hc hi hg hb hs) fun De sg H ⟨dl, Z, O, r, A, q⟩ => by
  refine ⟨dl, Z, O, r, A, (onS_wp q).mono (fun ds hds J B H1 g1 k1 wk hB => ?_) fun e he => spost_ex A he⟩
  have A1 := A.grow g1 k1
  have s1 : Stp dl Z O H Z O H1 := Stp.of_grow g1 k1
  refine ⟨fun i m sg' H' => m = ds.length - i ∧ i ≤ ds.length ∧ ∃ Z' O' r', At G dl Z' O' r' sg' H' ∧ Stp dl Z O H Z' O' H' ∧ B Z' H' ∧ Wp (loopS gd F (ds.drop i) r') (SPost G W De dl Z O H) (fun _ => False),
    ⟨ds.length, by simp, Nat.zero_le _, Z, O, r, A1, s1, hB, by simpa using hds⟩, ?_⟩
  rintro i m sg' H' ⟨rfl, hi', Z', O', r', A', s', hB', hw⟩
  by_cases hlt : i < ds.length
  · have hdrop : ds.drop i = ds[i] :: ds.drop (i + 1) := List.drop_eq_getElem_cons hlt
    rw [hdrop] at hw
    refine .inr ⟨wk.go i Z' H' hB' hlt, fun sg2 H2 => i + 1 ≤ ds.length ∧ ∃ Z' O' r', At G dl Z' O' r' sg2 H2 ∧ Stp dl Z O H Z' O' H2 ∧ B Z' H2 ∧ Wp (loopS gd F (ds.drop (i + 1)) r') (SPost G W De dl Z O H) (fun _ => False), fun sg2 H2 h2 => ⟨ds.length - (i + 1), by omega, rfl, h2⟩, fun x H2 hy => ?_⟩
    obtain ⟨g2, k2, rp⟩ := wk.yld i Z' O' r' sg' H' x H2 A' hB' hy ds[i] (by simp)
    have k2 := k2 _ A'.gl
    have A2 := A'.grow g2 k2
    have s2 : Stp dl Z O H Z' O' H2 := Stp.trans A s' (Stp.of_grow g2 k2)
    have hB2 : B Z' H2 := wk.mono _ _ _ _ (g2.cut A'.dz) g2 hB'
    unfold loopS at hw
    cases hgd : gd ds[i] r' with
    | none => rw [hgd] at hw; exact hw.elim
    | some r2 =>
      rw [hgd] at hw
      refine ⟨dl, Z', O', r', ds[i], A2, rp, r2, hgd, fun sg3 _ _ A3 => ⟨dl, Z', O', r2, A3, hw.bind.thn fun o ho => ?_⟩⟩
      have step : ∀ {r3 : LE}, Wp (loopS gd F (ds.drop (i + 1)) r3) (SPost G W De dl Z O H) (fun _ => False) → ∀ Z4 O4 sg4 H4, Stp dl Z' O' H2 Z4 O4 H4 → At G dl Z4 O4 r3 sg4 H4 →
          i + 1 ≤ ds.length ∧ ∃ Z' O' r', At G dl Z' O' r' sg4 H4 ∧ Stp dl Z O H Z' O' H4 ∧ B Z' H4 ∧ Wp (loopS gd F (ds.drop (i + 1)) r') (SPost G W De dl Z O H) (fun _ => False) := fun hw4 Z4 O4 sg4 H4 s4 A4 =>
        ⟨hlt, Z4, O4, _, A4, Stp.trans A s2 s4, wk.monoS _ _ _ _ (Stp.cut A3 s4) hB2, hw4⟩
      cases o with
      | nx r3 => exact step ho
      | ct r3 => exact step ho
      | bk r3 => exact fun Z4 O4 sg4 H4 s4 A4 => ho Z4 O4 sg4 H4 (Stp.trans A s2 s4) A4
      | rt d => exact SPost.trans A s2 ho
      | ex e r3 => exact SPost.trans A s2 ho
  · have e : i = ds.length := by omega
    subst e
    rw [List.drop_length] at hw
    exact .inl ⟨wk.stop _ Z' H' hB' (Nat.le_refl _), hw Z' O' sg' H' s' A'⟩
end
end DL
set_option Elab.async false
set_option linter.all false
set_option maxRecDepth 100000
namespace DL
open PySem L2 PySem.Spec PyProof.Rows
/-- what is raised is not served here -/
def R.calm {α : Type} : R α → R α
  | .ok a => .ok a
  | .err _ => .stuck
  | .stuck => .stuck
  | .roll m f => .roll m fun i => (f i).calm
@[simp] theorem calm_ok {α : Type} (a : α) : (R.ok a).calm = .ok a := rfl
@[simp] theorem calm_roll {α : Type} (m : Nat) (f : Nat → R α) : (R.roll m f).calm = .roll m fun i => (f i).calm := rfl
theorem calm_wp {α : Type} {Q : α → Prop} {E E' : Exc → Prop} : ∀ {m : R α}, Wp m.calm Q E → Wp m Q E'
  | .ok _, h => h
  | .err _, h => h.elim
  | .stuck, h => h.elim
  | .roll _ _, h => fun i hi => calm_wp (h i hi)
/-- the comprehension's own names forgotten -/
def wipeL (r : LE) : List Nat → LE
  | [] => r
  | v :: vs => (wipeL r vs).set v .un
def W0 : WX := fun _ _ _ _ => False
def loopC (gd : D → LE → Option LE) (tt : LE → R Bool) (te : LE → R D) (r : LE) : List D → R (List D)
  | [] => .ok []
  | d :: ds => match gd d r with
    | none => .stuck
    | some r' => do
      if (← (tt r').calm) then do
        let y ← (te r').calm
        let ys ← loopC gd tt te r ds
        .ok (y :: ys)
      else loopC gd tt te r ds
def compF (fi : LE → R (List D)) (gd : D → LE → Option LE) (tt : LE → R Bool) (te : LE → R D) (vs : List Nat) : LE → R (List D) := fun r => do
  let ds ← fi r
  if ds.length ≤ 16777216 then loopC gd tt te (wipeL r vs) ds else .stuck
def yesT : LE → R Bool := fun _ => .ok true
section
variable {G : Gm} {dl : Addr} {Z : List Addr} {O : List (Nat × Addr)} {r : LE} {sg : L2.St} {H : Hp}
theorem At.wipe (A : At G dl Z O r sg H) : ∀ vs : List Nat, At G dl Z O (wipeL r vs) (wipe sg vs) H
  | [] => A
  | v :: vs => (At.wipe A vs).set_un v none
theorem wipe_get {sg : L2.St} {j : Nat} : ∀ {vs : List Nat}, j ∉ vs → (wipe sg vs)[j]? = sg[j]?
  | [], _ => rfl
  | v :: vs, h => by
    rw [List.mem_cons, not_or] at h
    unfold wipe
    rw [List.getElem?_set_ne fun e => h.1 e.symm]
    exact wipe_get h.2
theorem wipe_at {sg : L2.St} {j : Nat} : ∀ {vs : List Nat}, j ∈ vs → j < sg.length → (wipe sg vs)[j]? = some none
  | [], h, _ => by cases h
  | v :: vs, h, hl => by
    unfold wipe
    by_cases e : v = j
    · subst e
      rw [List.getElem?_set_self (by rw [wipe_length]; exact hl)]
    · rw [List.getElem?_set_ne e]
      rcases List.mem_cons.mp h with h | h
      · exact (e h.symm).elim
      · exact wipe_at h hl
theorem wipe_same {sg sg' : L2.St} {vs : List Nat} (hl : sg'.length = sg.length) (h : ∀ j, j ∉ vs → sg'[j]? = sg[j]?) : L2.wipe sg' vs = L2.wipe sg vs := by
  refine List.ext_getElem? fun j => ?_
  by_cases e : j ∈ vs
  · by_cases q : j < sg.length
    · rw [wipe_at e q, wipe_at e (by omega)]
    · rw [List.getElem?_eq_none (by rw [wipe_length]; omega), List.getElem?_eq_none (by rw [wipe_length]; omega)]
  · rw [wipe_get e, wipe_get e, h j e]
theorem wipe_wipe {sg : L2.St} (vs : List Nat) : L2.wipe (L2.wipe sg vs) vs = L2.wipe sg vs := wipe_same (wipe_length ..) fun j h => wipe_get h
/-- H without p -/
theorem upd_cut {H : Hp} {p : Addr} {o : HO} (h : H p = some o) : upd (cut H [p]) p o = H := by
  funext b
  unfold upd cut
  by_cases e : b = p
  · subst e; simp [h]
  · simp [e]
end
section
variable {X : Cx} {G : Gm} {W : WX} {tg iter : Expr} {fi : LE → R (List D)} {gd : D → LE → Option LE} {is vs : List Nat} {tt : LE → R Bool} {te : LE → R D}
theorem lc_core_d (hsub : ∀ j ∈ is, j ∈ vs) {sg : L2.St} {H : Hp} {Q : VK} (h : tF G W (compF fi gd tt te vs) sg H Q) : tLc (tIe G W fi) (tGd G gd is) (tT G W0 tt) (tD G W0 te) vs sg H Q := by
  obtain ⟨dl, Z, O, r, A, q⟩ := h
  refine ⟨dl, Z, O, r, A, q.bind.thn fun ds hds J B H1 g1 k1 wk hB D hD => ?_⟩
  have A1 := A.grow g1 k1
  split at hds
  case isFalse => exact hds.elim
  rename_i hlen
  have nt : ∀ (xs : List V) ps, HO.lst xs ≠ HO.tbl ps := fun _ _ z => by cases z
  have B1 : At G dl (D :: Z) O r sg (upd H1 D (.lst [])) := A1.aside hD (NT.lst [])
  have hDZ := A1.out hD
  have hDd := A1.notdl hD
  have hB1 : B (D :: Z) (upd H1 D (.lst [])) := wk.mono _ _ _ _ (cut_new hD) (.new hD) hB
  -- the state between turns
  let St : Nat → Hp → Prop := fun i H' => i ≤ ds.length ∧ ∃ acc us, At G dl (D :: Z) O r sg H' ∧ Grow dl H1 H' ∧ B (D :: Z) H' ∧ H' D = some (.lst us) ∧ RepL G dl (cut H' (D :: Z)) acc us ∧ acc.length ≤ i ∧
    Wp (loopC gd tt te (wipeL r vs) (ds.drop i)) (fun ys => ∀ p us H2, Grow dl H H2 → GlOk G dl H2 → H2 p = none → RepL G dl (cut H2 Z) (acc ++ ys) us → Q (.ref p) (upd H2 p (.lst us))) (fun e => ∀ cls dx H', Grow dl H H' → GlOk G dl H' → XRep G dl (cut H' Z) e cls dx H' → W cls dx sg H')
  refine ⟨fun i m H' => m = ds.length - i ∧ St i H', ⟨ds.length, by simp, Nat.zero_le _, [], [], B1, .new hD, hB1, upd_same, RepL.nil, Nat.le_refl _, by simpa using hds⟩, ?_⟩
  rintro i m H' ⟨rfl, hi', acc, us, A', gH, hB', hDu, rl, hal, hw⟩
  by_cases hlt : i < ds.length
  · have hdrop : ds.drop i = ds[i] :: ds.drop (i + 1) := List.drop_eq_getElem_cons hlt
    rw [hdrop] at hw
    refine .inr ⟨wk.go i _ H' hB' hlt, St (i + 1), fun H2 h2 => ⟨ds.length - (i + 1), by omega, rfl, h2⟩, fun x H2 hy => ?_⟩
    obtain ⟨g2, k2, rp⟩ := wk.yld i _ O r sg H' x H2 A' hB' hy ds[i] (by simp)
    have k2 := k2 _ A'.gl
    have A2 := A'.grow g2 k2
    unfold loopC at hw
    cases hgd : gd ds[i] (wipeL r vs) with
    | none => rw [hgd] at hw; exact hw.elim
    | some r2 =>
      rw [hgd] at hw
      refine ⟨dl, D :: Z, O, wipeL r vs, ds[i], A2.wipe vs, rp, r2, hgd, fun sg3 hl3 hs3 A3 => ⟨?_, ?_⟩⟩
      · exact (wipe_same hl3 fun j hj => hs3 j fun z => hj (hsub j z)).trans (wipe_wipe vs)
      refine ⟨dl, D :: Z, O, r2, A3, (calm_wp hw.bind).mono (fun b hb H3 g3 k3 => ?_) fun e he => he⟩
      have A3' := A3.grow g3 k3
      have D3 : H2 D = some (.lst us) := g2 D _ hDu hDd (nt _)
      have D3' : H3 D = some (.lst us) := g3 D _ D3 hDd (nt _)
      have C3 : At G dl (D :: Z) O r sg H3 := A2.grow g3 k3
      cases b with
      | false =>
        refine ⟨hlt, acc, us, C3, (gH.trans g2).trans g3, wk.mono _ _ _ _ (g3.cut A2.dz) g3 (wk.mono _ _ _ _ (g2.cut A'.dz) g2 hB'), D3', rl.mono ((g2.trans g3).cut A'.dz), by omega, hb⟩
      | true =>
        refine ⟨dl, D :: Z, O, r2, A3', (calm_wp hb.bind).mono (fun y hy2 v H4 g4 k4 rp4 => ?_) fun e he => he⟩
        have D4 : H4 D = some (.lst us) := g4 D _ D3' hDd (nt _)
        have C4 : At G dl (D :: Z) O r sg H4 := C3.grow g4 k4
        have hz : us.length < sizeLine := by rw [sizeLine_eq, rl.length]; omega
        have gall : Grow dl H1 H4 := ((gH.trans g2).trans g3).trans g4
        have gcutD : ∀ xs, GrowS (cut H4 (D :: Z)) (cut (upd H4 D (.lst xs)) (D :: Z)) := fun xs b o e n => by
          obtain ⟨e1, e2⟩ := cut_some e
          have hbD : b ≠ D := fun z => e1 (by rw [z]; exact List.mem_cons_self)
          rw [cut_out e1, upd_ne hbD]; exact e2
        have gD : Grow dl H1 (upd H4 D (.lst (us ++ [v]))) := fun b o e n nt' => by
          rw [upd_ne (ne_of_none e hD)]; exact gall b o e n nt'
        have gl5 : GlOk G dl (upd H4 D (.lst (us ++ [v]))) := by
          obtain ⟨x1, y1, z1, hd1⟩ := k4.dice
          exact ⟨⟨x1, y1, z1, by rw [upd_ne fun e => hDd e.symm]; exact hd1⟩, k4.tab.upd D4 rfl⟩
        have A5 : At G dl (D :: Z) O r sg (upd H4 D (.lst (us ++ [v]))) := by
          refine ⟨gl5, C4.dz, fun b hb => ?_, C4.own, C4.inj, C4.len, fun j c e => ?_⟩
          · by_cases e : b = D
            · rw [e]; exact ⟨_, upd_same, NT.lst _⟩
            · obtain ⟨u, h1, h2⟩ := C4.live b hb
              exact ⟨u, by rw [upd_ne e]; exact h1, h2⟩
          · have := C4.slot j c e
            cases c with
            | un => trivial
            | val d =>
              obtain ⟨v, e, q⟩ := this
              exact ⟨v, e, q.mono (gcutD _)⟩
            | own d =>
              obtain ⟨a, ha, e, q, ko⟩ := this
              have haD : a ≠ D := fun z => hDZ (by rw [← z]; exact (A.own _ ha).1)
              refine ⟨a, ha, e, ?_, ko⟩
              rw [upd_ne haD]; exact q.mono (gcutD _)
        refine ⟨us, D4, hz, hlt, acc ++ [y], us ++ [v], A5, gD, wk.mono _ _ _ _ (fun b o e n => ?_) gD hB, upd_same, ?_, by rw [List.length_append]; simp; omega, ?_⟩
        · obtain ⟨e1, e2⟩ := cut_some e
          have hbD : b ≠ D := ne_of_none e2 hD
          have hbl : b ≠ dl := fun z => e1 (by rw [z]; exact A.dz)
          rw [cut_out (by rw [List.mem_cons, not_or]; exact ⟨hbD, e1⟩)]
          exact gD b o e2 hbl n
        · exact RepL.append (rl.mono ((((g2.trans g3).trans g4).cut A'.dz).trans (gcutD _))) (RepL.cons (rp4.mono (gcutD _)) RepL.nil)
        · exact hy2.bind.thn fun ys hys => by rw [List.append_assoc]; exact hys
  · have e : i = ds.length := by omega
    subst e
    rw [List.drop_length] at hw
    refine .inl ⟨wk.stop _ _ H' hB' (Nat.le_refl _), ?_⟩
    have hw2 : ∀ p us H2, Grow dl H H2 → GlOk G dl H2 → H2 p = none → RepL G dl (cut H2 Z) (acc ++ []) us → Q (.ref p) (upd H2 p (.lst us)) := hw
    rw [List.append_nil] at hw2
    have := hw2 D us (cut H' [D]) (fun b o e n nt' => ?_) ?_ (cut_in (by simp)) ?_
    · rw [upd_cut hDu] at this; exact this
    · have e1 := g1 b o e n nt'
      rw [cut_out (by simpa using ne_of_none e1 hD)]
      exact gH b o e1 n nt'
    · obtain ⟨x1, y1, z1, hd1⟩ := A'.gl.dice
      exact ⟨⟨x1, y1, z1, by rw [cut_out (by simpa using fun e : dl = D => hDd e.symm)]; exact hd1⟩, A'.gl.tab.cut hDu rfl⟩
    · refine rl.mono fun b o e n => ?_
      obtain ⟨e1, e2⟩ := cut_some e
      rw [List.mem_cons, not_or] at e1
      rw [cut_out e1.2, cut_out (by simpa using e1.1)]
      exact e2
abbrev DTs (X : Cx) (G : Gm) (W : WX) (ifs : List Expr) (f : LE → R Bool) : Prop := PTs X ifs (tT G W f)
theorem dts_nil : DTs X G W [] yesT := ⟨fun pins s sg H Q I ⟨dl, Z, O, r, A, q⟩ => pts_nil.run pins s sg H Q I (q H (.refl _ _) A.gl)⟩
theorem dts_one {c : Expr} (h : DT X G W c tt) : DTs X G W [c] tt := pts_one h
/-- [elt for tg in iter if ..] -/
theorem df_comp {elt : Expr} {ifs : List Expr} {scope : Scope} {own : List (Str × Nat)} {pos : Pos} (hc : X.calm = true) (hN : X.N.Nodup) (hi : DIe X G W tg iter fi) (ok : BlkOk X.N X.env.scope scope own)
    (hg : ∀ (s : Shared) (H : Hp) (C : Addr) (cl : List (Str × Addr)) (fp : List Addr), DG (X.blk s H scope (compEnvC scope cl C X.env) fp) G tg gd is)
    (ht : ∀ (s : Shared) (H : Hp) (C : Addr) (cl : List (Str × Addr)) (fp : List Addr), DTs (X.blk s H scope (compEnvC scope cl C X.env) fp) G W0 ifs tt)
    (he : ∀ (s : Shared) (H : Hp) (C : Addr) (cl : List (Str × Addr)) (fp : List Addr), DE (X.blk s H scope (compEnvC scope cl C X.env) fp) G W0 elt te)
    (hsub : ∀ j ∈ is, j ∈ own.map (·.2)) (hs : ∀ x, foldedSetIterable iter X.env x = pure x := by intro _; rfl) :
    DF X G W (.ListComp elt [⟨tg, iter, ifs, 0⟩] scope pos) (compF fi gd tt te (own.map (·.2))) := PE_imp (pe_lc hc hN hi ok hg ht he hs) fun sg H Q h => lc_core_d hsub h
end
end DL
set_option Elab.async false
set_option linter.all false
set_option maxRecDepth 100000
namespace DL
open PySem L2 PySem.Spec PyProof.Rows
def appS (i : Nat) (f : LE → R D) : LE → R Out := fun r => match r[i]? with
  | some (.own (.lst ds)) => (f r).onS r fun d => if ds.length < 16777216 then .ok (.nx (r.set i (.own (.lst (ds ++ [d]))))) else .stuck
  | _ => .stuck
/-- self.x = ..: the next field -/
def fldS (fx : Nat → Option Nat) (f : LE → R D) : LE → R Out := fun r => match (r[0]? : Option Cell) with
  | some (Cell.own (D.ins c ds)) => (f r).onS r fun d => (match fx c with
    | some j => if ds.length = j then .ok (.nx (r.set 0 (.own (.ins c (ds ++ [d]))))) else .stuck
    | none => .stuck)
  | _ => .stuck
section
variable {X : Cx} {G : Gm} {W : WX} {ex ek : Expr} {f k : LE → R D} {pos apos p p1 p2 : Pos} {x m : Str}
theorem ds_append (i : Nat) (ha : DE X G W ex f) (hN : X.N[i]? = some x := by rfl) (hv : Vis X.env.scope x := by first | exact Or.inl rfl | exact Or.inr (Or.inl rfl) | exact Or.inr (Or.inr rfl)) (hd : (x == ("__debug__" : Str)) = false := by decide)
    (hcd : (x == ("__classdict__" : Str)) = false := by decide) (hs : swapsWith (.Call (.Attribute (.Name x p1) "append" apos) [ex] [] p) none pos.line X.env = pure false := by rfl)
    (hbase : attributeBase (.Name x p1) "append" X.env (eval (.Name x p1) X.env) = eval (.Name x p1) X.env := by rfl)
    (hfew : ((backTo p (starEach [ex] X.env)).all (fun x => !x.1) && (backToKw p (keywordEach [] X.env)).all (fun x => x.1.isSome)
      && decide ([ex].length + ([] : List Keyword).length + (if ([] : List Keyword).isEmpty then 0 else 1) < 30)) = true := by rfl)
    (hline : (apos.endLine == p.line) = true := by rfl) (hst : starEach [ex] X.env = (false, eval ex X.env) :: starEach [] X.env := by rfl) :
    DS X G W (.Expr (.Call (.Attribute (.Name x p1) "append" apos) [ex] [] p) pos) (appS i f) := by
  refine PS_imp (ps_expr (pe_bm PySem.F.plainAttrs_list PySem.F.slot_list_append PySem.F.type_list_append mt_append (pe_var hN hv hd hcd) (pa_cons ha pa_nil hst) hbase hfew hline hst (by rfl)) hs) fun De sg H ⟨dl, Z, O, r, A, q⟩ => ?_
  unfold appS at q
  split at q
  case h_2 => exact q.elim
  rename_i ds hr
  obtain ⟨a, ha', hs', ⟨vs, e, rl⟩, ko⟩ := A.slot i _ hr
  obtain ⟨haz, had⟩ := A.own _ ha'
  refine ⟨.ref a, hs', .inl ⟨rfl, vs, SqL.of e⟩, dl, Z, O, r, A, (onS_wp q).mono (fun d hd' v H1 g1 k1 rp => ?_) fun e he => spost_ex A he⟩
  have A1 := A.grow g1 k1
  have e1 : H1 a = some (.lst vs) := g1 a _ e had (fun ps z => by cases z)
  split at hd'
  case isFalse => exact hd'.elim
  rename_i hlen
  refine ⟨a, vs, v, rfl, rfl, e1, by rw [sizeLine_eq, rl.length]; exact hlen, ?_⟩
  refine hd' Z O sg _ (Stp.trans A (Stp.of_grow g1 k1) (Stp.write ha' fun ps z => by cases z)) (A1.write hr ha' hs' ⟨_, rfl, RepL.append (rl.mono (g1.cut A.dz)) (RepL.cons rp RepL.nil)⟩ rfl ko)
theorem putF_zip {m : Str} {v : V} : ∀ {ns : List Str} {vs : List V}, ns.Nodup → ns[vs.length]? = some m → putF m v (ns.zip vs) = ns.zip (vs ++ [v])
  | [], vs, _, h => by simp at h
  | n :: ns, [], _, h => by simp at h; subst h; simp [putF]
  | n :: ns, u :: vs, nd, h => by
    have hm : ns[vs.length]? = some m := by simpa using h
    have hne : n ≠ m := fun e => by
      subst e
      exact (List.nodup_cons.mp nd).1 (List.mem_of_getElem? hm)
    show (if n = m then _ else (n, u) :: putF m v (ns.zip vs)) = _
    rw [if_neg hne, putF_zip (List.nodup_cons.mp nd).2 hm]
    rfl
theorem ds_field {fx : Nat → Option Nat} (hx : FldOk X G m fx) (hsz : ∀ c, (G.flds c).length ≤ 900) (ha : DE X G W ex f) (hN : X.N[0]? = some x := by rfl) (hv : Vis X.env.scope x := by first | exact Or.inl rfl | exact Or.inr (Or.inl rfl) | exact Or.inr (Or.inr rfl)) (hd : (x == ("__debug__" : Str)) = false := by decide)
    (hcd : (x == ("__classdict__" : Str)) = false := by decide) (hs : swapsWith ex (some (.Attribute (.Name x p1) m p2)) pos.line X.env = pure false := by rfl) :
    DS X G W (.Assign [.Attribute (.Name x p1) m p2] ex pos) (fldS fx f) := by
  refine PS_imp (ps_fld (pe_var hN hv hd hcd) ha hs) fun De sg H ⟨dl, Z, O, r, A, q⟩ => ?_
  unfold fldS at q
  split at q
  case h_2 => exact q.elim
  rename_i c ds hr
  obtain ⟨a, ha', hs', ⟨dx, vs, e, hle, rl⟩, ko⟩ := A.slot 0 _ hr
  obtain ⟨haz, had⟩ := A.own _ ha'
  refine ⟨dl, Z, O, r, A, (onS_wp q).mono (fun d hd' v H1 g1 k1 rp => ?_) fun e he => spost_ex A he⟩
  have A1 := A.grow g1 k1
  have e1 := g1 a _ e had (fun ps z => by cases z)
  cases hj : fx c with
  | none => rw [hj] at hd'; exact hd'.elim
  | some j =>
    rw [hj] at hd'
    change Wp (if ds.length = j then R.ok (Out.nx (r.set 0 (Cell.own (D.ins c (ds ++ [d]))))) else R.stuck) _ _ at hd'
    split at hd'
    case isFalse => exact hd'.elim
    rename_i hl
    obtain ⟨h1, h2, h3, h4⟩ := hx c j hj
    have hvl := rl.length
    have hjl : j < (G.flds c).length := (List.getElem?_eq_some_iff.mp h3).1
    refine ⟨.ref a, hs', a, G.cls c, dx, _, rfl, e1, h1, h2, ?_, ?_⟩
    · rw [List.length_zip]
      have := hsz c
      omega
    · rw [putF_zip h4 (by rw [hvl, hl]; exact h3)]
      exact hd' Z O sg _ (Stp.trans A (Stp.of_grow g1 k1) (Stp.write ha' fun ps z => by cases z)) (A1.write hr ha' hs' ⟨dx, _, rfl, by rw [List.length_append, List.length_singleton]; omega, RepL.append (rl.mono (g1.cut A.dz)) (RepL.cons rp RepL.nil)⟩ rfl ko)
def errS (e : Exc) : LE → R Out := fun r => .ok (.ex e r)
theorem ds_raise {bmB : List Value} {B newId initId : String} {C : Addr} {s : Str} {j : Nat} (c : Nat) (tk : Takes X W) (hc : X.calm = true) (F : PySem.ExcBaseFacts B newId initId bmB) (hC : G.xcls c = C) (hx : G.xfld c = none) (hq : PySem.W.excIn X.K C bmB newId = true) (gC : X.mg x = some (.ref C)) (kC : PySem.W.keepIn X.K (.ref C) = true) (rs : Raises X (.ref C))
    (hg : Gl X x := by rfl) (hdb : (x == ("__debug__" : Str)) = false := by decide) : DS X G W (.Raise (some (.Call (.Name x p) [.Constant (.str s) j p2] [] p1)) none pos) (errS ⟨c, .non⟩) :=
  PS_imp (ps_raise hc tk (pmk_own F hq gC kC rs hg hdb)) fun De sg H ⟨dl, Z, O, r, A, q⟩ => by
    subst hC
    exact q Z O sg H _ none Stp.refl A ⟨rfl, by rw [hx]⟩
end
end DL
set_option Elab.async false
set_option linter.all false
set_option maxRecDepth 100000
namespace DL
open PySem L2 PySem.Spec PyProof.Rows
/-- a def of n arguments and m names, by its body -/
def runF (n m : Nat) (F : LE → R Out) (ds : List D) : R D := if ds.length = n then (do
  match ← (F (ds.map Cell.val ++ List.replicate (m - n) Cell.un)).calm with
  | .nx _ => .ok .non
  | .rt d => .ok d
  | .ex e _ => .err e
  | _ => .stuck) else .stuck
/-- an __init__: what self becomes -/
def runI (c k n m : Nat) (F : LE → R Out) (ds : List D) : R D := if ds.length = n then (do
  match ← (F (Cell.own (.ins c []) :: (ds.map Cell.val ++ List.replicate (m - n - 1) Cell.un))).calm with
  | .nx r => (match (r[0]? : Option Cell) with
    | some (Cell.own (D.ins c' fs)) => if c' = c ∧ fs.length = k then .ok (.ins c fs) else .stuck
    | _ => .stuck)
  | .ex e _ => .err e
  | _ => .stuck) else .stuck
theorem runF_len {n m : Nat} {F : LE → R Out} : ∀ ds Q E, Wp (runF n m F ds) Q E → ds.length = n := fun ds Q E h => by
  unfold runF at h
  split at h
  · assumption
  · exact h.elim
theorem runI_len {c k n m : Nat} {F : LE → R Out} : ∀ ds Q E, Wp (runI c k n m F ds) Q E → ds.length = n := fun ds Q E h => by
  unfold runI at h
  split at h
  · assumption
  · exact h.elim
/-- the wish of a def's body -/
abbrev WD (E : XK) : WX := fun cls d _ H' => E cls d H'
section
variable {P : Program} {w : World} {K : PySem.W.Frag} {mg : Str → Option Value} {base : Heap} {G : Gm} {x qual : Str} {st : Stmt} {f : Addr} {fd : FuncData} {N ps : List Str} {k n m c nf : Nat} {F : LE → R Out}
abbrev cxD (P : Program) (w : World) (K : PySem.W.Frag) (mg : Str → Option Value) (base : Heap) (N : List Str) (qual : Str) (st : Stmt) (f : Addr) (cdv : Value) (A : Around) (outer : List Env) (s : Shared) (H : Hp) (E : XK) : Cx :=
  cxOf (L2.CX P w) P w K mg base N qual (defScope st) f cdv A outer s H E
theorem takes_cxD {cdv A outer s H E} : Takes (cxD P w K mg base N qual st f cdv A outer s H E) (WD E) := takes_of rfl rfl rfl rfl
theorem owns_cxD {cdv A outer s H E} : PassesOwn (model P w) (cxD P w K mg base N qual st f cdv A outer s H E).A (cxD P w K mg base N qual st f cdv A outer s H E).env (cxD P w K mg base N qual st f cdv A outer s H E).xe := passes_of rfl
theorem start_get {vs : List V} {ds : List D} {dl : Addr} {Z : List Addr} {H : Hp} (rl : RepL G dl (cut H Z) ds vs) (hl : vs.length = n) (hN : N.length = m) {O : List (Nat × Addr)} : ∀ i c, (ds.map Cell.val ++ List.replicate (m - n) Cell.un)[i]? = some c → Slot G dl Z O H i (L2.start N vs)[i]? c := fun i c e => by
  have hl2 := rl.length
  by_cases hi : i < ds.length
  · rw [List.getElem?_append_left (by simpa using hi), List.getElem?_map, List.getElem?_eq_getElem hi] at e
    cases e
    obtain ⟨v, h1, h2⟩ := RepL.getD ds vs i ds[i] rl (by simp)
    refine ⟨v, ?_, h2⟩
    unfold L2.start
    rw [List.getElem?_append_left (by rw [List.length_map]; omega), List.getElem?_map, h1]
    rfl
  · rw [List.getElem?_append_right (by simpa using hi), List.getElem?_replicate] at e
    split at e
    · cases e; trivial
    · cases e
theorem fnOk_of (Fn : Fun K x qual st f fd) (S : FnScope N ps (defScope st)) (hn : ps.length = n) (hm : N.length = m)
    (hb : ∀ cdv A outer s H E, Room k (A.deeper (envOfC qual (defScope st) s.heap.objs.size f cdv)) → DSs (cxD P w K mg base N qual st f cdv A outer s H E) G (WD E) (defBody st) F) :
    FnOk P w K mg base (L2.CX P w) (k + 1) f fd ps (spD G n (runF n m F)) := by
  refine Fn.okX S (fun vs H Q E h => by rw [hn]; exact h.1) fun cdv A outer s H vs Q E hr h => ⟨_, hb cdv A outer s H E hr, ?_⟩
  obtain ⟨hl, dl, Z, ds, gl, dz, live, rl, hw⟩ := h
  unfold runF at hw
  split at hw
  case isFalse => exact hw.elim
  rename_i hdl
  have hpl : ps.length ≤ N.length := by have := congrArg List.length S.pre; rw [List.length_take] at this; omega
  have A0 : At G dl Z [] (ds.map Cell.val ++ List.replicate (m - n) Cell.un) (L2.start N vs) H := by
    refine ⟨gl, dz, live, fun p hp => (by cases hp), fun p hp => (by cases hp), ?_, start_get rl hl hm⟩
    unfold L2.start
    rw [List.length_append, List.length_map, List.length_replicate, List.length_append, List.length_map, List.length_replicate]
    omega
  have gr : ∀ {Z' O' H'}, Stp dl Z [] H Z' O' H' → Grow dl H H' := fun s a o e n nt => s.fr a o e n (fun p hp => (by cases hp)) nt
  have gz : ∀ {Z' O' H'}, Stp dl Z [] H Z' O' H' → GrowS (cut H' Z') (cut H' Z) := fun s => cut_sub fun a ha => s.zk a ha fun p hp => (by cases hp)
  refine ⟨dl, Z, [], _, A0, (calm_wp hw.bind).thn fun o ho => ?_⟩
  cases o with
  | nx r => exact fun Z' O' sg' H' s A' => ho _ _ (gr s) A'.gl Rep.non_
  | rt d => exact fun Z' O' v H' s g rp => ho _ _ (gr s) g (rp.mono (gz s))
  | ex e r => exact fun Z' O' sg' H' cls dx s A' xr => ho cls dx H' (gr s) A'.gl (xr.mono (gz s))
  | bk r => exact ho.elim
  | ct r => exact ho.elim
theorem fnD_of (Fn : Fun K x qual st f fd) (S : FnScope N ps (defScope st)) (bd : Binds K fd ps []) (hx : mg x = some (.ref f)) (hn : ps.length = n) (hm : N.length = m)
    (hb : ∀ cdv A outer s H E, Room k (A.deeper (envOfC qual (defScope st) s.heap.objs.size f cdv)) → DSs (cxD P w K mg base N qual st f cdv A outer s H E) G (WD E) (defBody st) F) :
    FnD P w K mg base G (k + 1) x f n (runF n m F) := ⟨⟨fd, ps, hn, fnOk_of Fn S hn hm hb, bd⟩, runF_len, Fn.kp, hx⟩
theorem meD_of (Fn : Fun K x qual st f fd) (S : FnScope N ps (defScope st)) (bd : Binds K fd ps []) (mt : Meth K (G.cls c) x f) (cl : Cls K (G.cls c)) (nf : x ∉ G.flds c) (hn : ps.length = n) (hm : N.length = m)
    (hb : ∀ cdv A outer s H E, Room k (A.deeper (envOfC qual (defScope st) s.heap.objs.size f cdv)) → DSs (cxD P w K mg base N qual st f cdv A outer s H E) G (WD E) (defBody st) F) :
    MeD P w K mg base G (k + 1) c x n (runF n m F) := ⟨⟨f, fd, ps, hn, fnOk_of Fn S hn hm hb, bd, mt⟩, runF_len, cl, nf⟩
theorem inOk_of (Fn : Fun K x qual st f fd) (S : FnScope N ps (defScope st)) (hn : ps.length = n + 1) (hm : N.length = m) (hf : (G.flds c).length = nf)
    (hb : ∀ cdv A outer s H E, Room k (A.deeper (envOfC qual (defScope st) s.heap.objs.size f cdv)) → DSs (cxD P w K mg base N qual st f cdv A outer s H E) G (WD E) (defBody st) F) :
    FnOk P w K mg base (L2.CX P w) (k + 1) f fd ps (spI G c n (runI c nf n m F)) := by
  refine Fn.okX S (fun vs H Q E h => by rw [hn]; exact h.1) fun cdv A outer s H vs Q E hr h => ⟨_, hb cdv A outer s H E hr, ?_⟩
  obtain ⟨hl, dl, Z, ds, a, dx, us, rfl, ha, haZ, gl, dz, live, rl, hw⟩ := h
  unfold runI at hw
  split at hw
  case isFalse => exact hw.elim
  rename_i hdl
  have hpl : ps.length ≤ N.length := by have := congrArg List.length S.pre; rw [List.length_take] at this; omega
  have nta : ∀ fs ps, HO.ins (G.cls c) dx fs ≠ HO.tbl ps := fun _ _ z => by cases z
  have hadl : a ≠ dl := fun e => haZ (by rw [e]; exact dz)
  have A0 : At G dl (a :: Z) [(1000000, a)] (Cell.own (.ins c []) :: (ds.map Cell.val ++ List.replicate (m - n - 1) Cell.un)) (L2.start N (V.ref a :: us)) H := by
    refine ⟨gl, List.mem_cons_of_mem _ dz, fun b hb => ?_, fun p hp => ?_, fun p hp q hq e => ?_, ?_, fun i c' e => ?_⟩
    · rcases List.mem_cons.mp hb with rfl | hb
      · exact ⟨_, ha, fun t z => by cases t <;> cases z⟩
      · exact live b hb
    · rw [List.mem_singleton] at hp
      subst hp
      exact ⟨List.mem_cons_self, hadl⟩
    · rw [List.mem_singleton] at hp hq
      rw [hp, hq]
    · unfold L2.start
      have := rl.length
      rw [List.length_cons] at hl
      simp only [List.length_cons, List.length_append, List.length_map, List.length_replicate]
      omega
    · cases i with
      | zero =>
        cases e
        refine ⟨a, List.mem_singleton.mpr rfl, rfl, ?_, rfl⟩
        exact ⟨dx, [], by rw [ha]; simp, Nat.zero_le _, RepL.nil⟩
      | succ i =>
        have e' : (ds.map Cell.val ++ List.replicate (m - n - 1) Cell.un)[i]? = some c' := e
        have hl2 := rl.length
        by_cases hi : i < ds.length
        · rw [List.getElem?_append_left (by simpa using hi), List.getElem?_map, List.getElem?_eq_getElem hi] at e'
          cases e'
          obtain ⟨v, h1, h2⟩ := RepL.getD ds us i ds[i] rl (by simp)
          refine ⟨v, ?_, h2⟩
          unfold L2.start
          rw [List.getElem?_append_left (by rw [List.length_map, List.length_cons]; omega), List.getElem?_map, List.getElem?_cons_succ, h1]
          rfl
        · rw [List.getElem?_append_right (by simpa using hi), List.getElem?_replicate] at e'
          split at e'
          · cases e'; trivial
          · cases e'
  have gr : ∀ {Z' O' H'}, Stp dl (a :: Z) [(1000000, a)] H Z' O' H' → ∀ b o, H b = some o → b ≠ dl → b ≠ a → (∀ ps, o ≠ .tbl ps) → H' b = some o := fun s b o e n na nt => s.fr b o e n (fun p hp => by
    rw [List.mem_singleton] at hp
    subst hp
    exact fun e => na e.symm) nt
  have gz : ∀ {Z' O' H'}, Stp dl (a :: Z) [(1000000, a)] H Z' O' H' → GrowS (cut H' Z') (cut H' Z) := fun s => cut_sub fun b hb => s.zk b (List.mem_cons_of_mem _ hb) fun p hp => by
    rw [List.mem_singleton] at hp
    subst hp
    exact fun (e : a = b) => haZ (by rw [e]; exact hb)
  refine ⟨dl, a :: Z, [(1000000, a)], _, A0, (calm_wp hw.bind).thn fun o ho => ?_⟩
  cases o with
  | nx r =>
    intro Z' O' sg' H' s A'
    show Q .non H'
    change Wp (match (r[0]? : Option Cell) with | some (Cell.own (D.ins c' fs)) => if c' = c ∧ fs.length = nf then R.ok (D.ins c fs) else R.stuck | _ => R.stuck) _ _ at ho
    split at ho
    · rename_i c' fs hr0
      split at ho
      · rename_i hc
        obtain ⟨rfl, hfl⟩ := hc
        refine ho H' (gr s) A'.gl ?_
        obtain ⟨a', ha', hs', ⟨dx', vs', e', hle', rl'⟩, ko⟩ := A'.slot 0 _ hr0
        have hm' := s.sf a' ha'
        rw [List.mem_singleton] at hm'
        have haa : a' = a := congrArg Prod.snd hm'
        subst haa
        unfold Rep
        refine ⟨a', dx', vs', rfl, by rw [cut_out haZ]; exact e', by rw [hf, rl'.length]; exact hfl.symm, rl'.mono (gz s)⟩
      · exact ho.elim
    · exact ho.elim
  | rt d => exact ho.elim
  | ex e r => exact fun Z' O' sg' H' cls dx s A' xr => ho cls dx H' (gr s) A'.gl (xr.mono (gz s))
  | bk r => exact ho.elim
  | ct r => exact ho.elim
theorem mkD_of (Fn : Fun K "__init__" qual st f fd) (S : FnScope N ps (defScope st)) (bd : Binds K fd ps []) (mk : Mk K (G.cls c) f) (hx : mg x = some (.ref (G.cls c))) (hn : ps.length = n + 1) (hm : N.length = m) (hf : (G.flds c).length = nf)
    (hb : ∀ cdv A outer s H E, Room k (A.deeper (envOfC qual (defScope st) s.heap.objs.size f cdv)) → DSs (cxD P w K mg base N qual st f cdv A outer s H E) G (WD E) (defBody st) F) :
    MkD P w K mg base G (k + 1) c x n (runI c nf n m F) := ⟨⟨f, fd, ps, hn, inOk_of Fn S hn hm hf hb, bd, mk⟩, runI_len, hx⟩
end
end DL
set_option Elab.async false
set_option linter.all false
set_option maxRecDepth 100000
set_option maxHeartbeats 1000000
namespace DL
open PySem L2 LamX PySem.Spec PyProof.Rows
theorem codeN_ne {c P : Addr} {q : Str} (ps : Array Value) : CodeN c q P ≠ .tbl ps := fun z => by
  unfold CodeN at z
  cases z
theorem codeN_at {P : Program} {w : World} {H : Hp} {h : Heap} {c P2 : Addr} {q : Str} (hok : HOk P w H h) (e : H c = some (CodeN c q P2)) :
    (∃ (oc : Obj) (vs : Array Value) (t : Tok), h.get? c = some oc ∧ oc.data = .fields vs ∧ vs[1]? = some (.str q t)) ∧ PySem.W.CodeHd h c P2 := (hok c _ e).1
/-- the frame at hand: its code object c, the table at P -/
structure Mkr (X : Cx) (G : Gm) (c P : Addr) : Prop where
  code : X.env.code = .ref c
  mem : (P, X.env.qual) ∈ G.tabs ++ G.subs.map (·.2)
  bm0 : ∃ P0, X.base.BuiltinsAt X.mg P0
  hd : ∀ {pins : List (Addr × Obj)} {σ : L2.St} {H : Hp} {s : Shared}, Inv X pins σ H s → CT G.kd G.tabs G.subs H → PySem.W.CodeHd s.heap c P
theorem mk_def {X : Cx} {G : Gm} {c P : Addr} (TB : TabB X.base X.mg c P) (hcode : X.env.code = .ref c) (hm : (P, X.env.qual) ∈ G.tabs) : Mkr X G c P :=
  ⟨hcode, List.mem_append_left _ hm, ⟨P, TB.bm⟩, fun I _ => TB.code.keeps I.bk⟩
/-- a frame of a code object made since -/
theorem mk_sub {X Y : Cx} {G : Gm} {c P c' P2 : Addr} {q : Str} (M : Mkr X G c P) (hb : Y.base = X.base) (hmg : Y.mg = X.mg) (hcode : Y.env.code = .ref c') (hq : Y.env.qual = q) : Mkr Y (G.sub (c', P2, q)) c' P2 :=
  ⟨hcode, List.mem_append_right _ (by rw [hq]; exact List.mem_cons_self), by rw [hb, hmg]; exact M.bm0, fun I g => by
    obtain ⟨n, h⟩ := g.2 _ List.mem_cons_self
    exact (codeN_at I.hok h).2⟩
section
variable {X : Cx} {G : Gm} {c P : Addr} {pins : List (Addr × Obj)} {σ : L2.St} {H : Hp} {s : Shared}
theorem Mkr.tab (M : Mkr X G c P) (I : Inv X pins σ H s) (g : CT G.kd G.tabs G.subs H) : ∃ (C : List Cob) (ps : Array Value), CTC G.kd (G.tabs ++ G.subs.map (·.2)) C H ∧ H P = some (.tbl ps) ∧ s.heap.get? P = some { cls := .none, data := .fields ps } ∧ TriplesOk ps.toList ∧
    s.heap.BuiltinsAt X.mg P ∧ mainGlobals ≠ P ∧ ∀ (pos : Pos) (cv : Value), codeAmong pos ps.toList = some cv → ∃ c P2, cv = .ref c ∧ (c, nam_ X.env.qual (G.kd pos.line pos.col), pre_ X.env.qual (G.kd pos.line pos.col), P2) ∈ C := by
  obtain ⟨⟨C, hC⟩, _⟩ := id g
  obtain ⟨ps, h1, h2, h3⟩ := hC.tab P X.env.qual (.inl M.mem)
  have hP : s.heap.get? P = some { cls := .none, data := .fields ps } := I.hok P _ h1
  refine ⟨C, ps, hC, h1, hP, h2, ?_, fun z => ?_, h3⟩
  · obtain ⟨P0, bm, o, e1, e2, e3, _, e5, e6, e7, e8⟩ := M.bm0
    refine ⟨bm, o, e1, e2, e3, fun z => ?_, I.bk _ _ e5, e6, e7, e8⟩
    have e9 := I.bk _ _ e5
    rw [z, hP] at e9
    cases e9
    cases e8
  · obtain ⟨o, es, ep, e, hd, _⟩ := I.mod.glob.keeps I.bk
    rw [z, hP] at e
    cases e
    cases hd
/-- the maker's table has grown; the new code object and its empty table are known -/
theorem inv_code {q : Str} {P2 c' : Addr} {ps more : Array Value} {h' : Heap} {t' : Nat} (I : Inv X pins σ H s) (hP : H P = some (.tbl ps)) (kp : ∀ b o, b ≠ P → s.heap.get? b = some o → h'.get? b = some o)
    (hm : h'.get? P = some { cls := .none, data := .fields (ps ++ more) }) (hc : s.heap.objs.size ≤ c') (hn : ∃ (oc : Obj) (vs : Array Value) (t : Tok), h'.get? c' = some oc ∧ oc.data = .fields vs ∧ vs[1]? = some (.str q t))
    (hcd : PySem.W.CodeHd h' c' P2) (hP2 : s.heap.objs.size ≤ P2) (ht : h'.get? P2 = some { cls := .none, data := .fields #[] }) :
    Inv X pins σ (upd (upd (upd H P (.tbl (ps ++ more))) c' (CodeN c' q P2)) P2 (.tbl #[])) { s with heap := h', toks := t' } := by
  have nC : H c' = none := I.hok.fresh hc
  have nT : H P2 = none := I.hok.fresh hP2
  have cP2 : c' ≠ P2 := by obtain ⟨_, _, _, _, _, _, _, _, _, _, _, _, _, _, _, _, _, _, z⟩ := hcd; exact z
  have nPc : P ≠ c' := ne_of_none hP nC
  have nPt : P ≠ P2 := ne_of_none hP nT
  have hx : ∀ b, b ≠ P → b ≠ c' → b ≠ P2 → (upd (upd (upd H P (.tbl (ps ++ more))) c' (CodeN c' q P2)) P2 (.tbl #[])) b = H b := fun b h1 h2 h3 => by rw [upd_ne h3, upd_ne h2, upd_ne h1]
  have hxP : (upd (upd (upd H P (.tbl (ps ++ more))) c' (CodeN c' q P2)) P2 (.tbl #[])) P = some (.tbl (ps ++ more)) := by rw [upd_ne nPt, upd_ne nPc, upd_same]
  have hxc : (upd (upd (upd H P (.tbl (ps ++ more))) c' (CodeN c' q P2)) P2 (.tbl #[])) c' = some (CodeN c' q P2) := by rw [upd_ne cP2, upd_same]
  have oP : ∀ b u, H b = some u → (∀ z, u ≠ .tbl z) → b ≠ P := fun b u e n z => n ps (Option.some.inj (e.symm.trans (z ▸ hP)))
  have eP : ∀ b, H b = none → b ≠ P := fun b e z => by rw [z, hP] at e; cases e
  have ol : ∀ b o, s.heap.get? b = some o → b ≠ c' ∧ b ≠ P2 := fun b o e =>
    ⟨fun z => Nat.lt_irrefl _ (Nat.lt_of_lt_of_le (Heap.lt_size e) (z ▸ hc)), fun z => Nat.lt_irrefl _ (Nat.lt_of_lt_of_le (Heap.lt_size e) (z ▸ hP2))⟩
  have on : ∀ b u, H b = some u → b ≠ c' ∧ b ≠ P2 := fun b u e => ⟨ne_of_none e nC, ne_of_none e nT⟩
  refine I.step (g' := s.gens) (d' := s.drawn) (ch := []) (fun b z => absurd z (by simp)) (fun b o _ _ _ e n => kp b o (eP b n) e) (fun b o _ _ _ e n => ⟨o.slots, kp b o (eP b n) e⟩)
    (fun b o _ e n => (hx b (eP b n) (ol b o e).1 (ol b o e).2).trans n) (fun b o _ e => ?there) (fun b xs e => (hx b (oP b _ e fun _ z => by cases z) (on b _ e).1 (on b _ e).2).trans e)
    (fun b o u e => (hx b (oP b _ e fun _ z => by cases z) (on b _ e).1 (on b _ e).2).trans e) (fun b qs e => ?tbls) (fun m z => ?ns) (fun b u e => ?hok) I.bare
  case there =>
    by_cases z : b = P
    · exact ⟨_, z ▸ hm⟩
    · exact ⟨o, kp b o z e⟩
  case tbls =>
    by_cases z : b = P
    · subst z
      rw [hP] at e
      cases e
      exact ⟨more, hxP⟩
    · exact ⟨#[], by rw [hx b z (on b _ e).1 (on b _ e).2, e]; simp⟩
  case ns =>
    obtain ⟨ob, es, ep, e, r⟩ := z
    exact ⟨ob, es, ep, kp _ _ (eP _ I.free) e, r⟩
  case hok =>
    by_cases z1 : b = P2
    · subst z1
      rw [upd_same] at e
      cases e
      exact ht
    by_cases z2 : b = c'
    · subst z2
      rw [hxc] at e
      cases e
      obtain ⟨oc, vs, t, e1, e2, e3⟩ := hn
      refine ⟨⟨⟨oc, vs, t, e1, e2, e3⟩, hcd⟩, ⟨oc, e1⟩, fun h1 h2 hq st => ?_⟩
      obtain ⟨⟨oc, vs, t, a1, a2, a3⟩, o, us, file, tf, flags, tg, inF, text, tt, b1, b2⟩ := hq
      exact ⟨⟨oc, vs, t, st _ a1, a2, a3⟩, o, us, file, tf, flags, tg, inF, text, tt, st _ b1, b2⟩
    by_cases z3 : b = P
    · subst z3
      rw [hxP] at e
      cases e
      exact hm
    rw [hx b z3 z2 z1] at e
    refine (I.hok b u e).stay (fun d v hd y => kp d v ?_ y) (fun d y => (hx d (oP d _ y fun _ z => by cases z) (on d _ y).1 (on d _ y).2).trans y) fun d xs y => (hx d (oP d _ y fun _ z => by cases z) (on d _ y).1 (on d _ y).2).trans y
    rcases hd with y | y
    · rw [y]; exact z3
    · exact oP d _ y fun _ z => by cases z
/-- .. and all tables stay well -/
theorem ct_code {C : List Cob} {ps : Array Value} {c' P2 : Addr} {pos : Pos} (hC : CTC G.kd (G.tabs ++ G.subs.map (·.2)) C H) (hm : (P, X.env.qual) ∈ G.tabs ++ G.subs.map (·.2)) (hP : H P = some (.tbl ps)) (ht : TriplesOk ps.toList) (nC : H c' = none) (nT : H P2 = none) (cP2 : c' ≠ P2)
    (h3 : ∀ (pos : Pos) (cv : Value), codeAmong pos ps.toList = some cv → ∃ c P2, cv = .ref c ∧ (c, nam_ X.env.qual (G.kd pos.line pos.col), pre_ X.env.qual (G.kd pos.line pos.col), P2) ∈ C) :
    CTC G.kd (G.tabs ++ G.subs.map (·.2)) ((c', nam_ X.env.qual (G.kd pos.line pos.col), pre_ X.env.qual (G.kd pos.line pos.col), P2) :: C)
      (upd (upd (upd H P (.tbl (ps ++ #[rawInt pos.line, rawInt pos.col, .ref c']))) c' (CodeN c' (nam_ X.env.qual (G.kd pos.line pos.col)) P2)) P2 (.tbl #[])) := by
  have nPc : P ≠ c' := ne_of_none hP nC
  have nPt : P ≠ P2 := ne_of_none hP nT
  have eL : (ps ++ #[rawInt pos.line, rawInt pos.col, .ref c']).toList = ps.toList ++ [rawInt pos.line, rawInt pos.col, .ref c'] := by simp
  have old : ∀ p q, TQ (G.tabs ++ G.subs.map (·.2)) C p q → p ≠ P2 := fun p q h z => by
    obtain ⟨us, e, _⟩ := hC.tab p q h
    rw [z, nT] at e
    cases e
  have tq : ∀ p q, TQ (G.tabs ++ G.subs.map (·.2)) ((c', nam_ X.env.qual (G.kd pos.line pos.col), pre_ X.env.qual (G.kd pos.line pos.col), P2) :: C) p q → (p = P2 ∧ q = pre_ X.env.qual (G.kd pos.line pos.col)) ∨ TQ (G.tabs ++ G.subs.map (·.2)) C p q := fun p q h => by
    rcases h with h | ⟨d, n, h⟩
    · exact .inr (.inl h)
    · rcases List.mem_cons.mp h with z | z
      · cases z
        exact .inl ⟨rfl, rfl⟩
      · exact .inr (.inr ⟨d, n, z⟩)
  refine ⟨fun k hk => ?_, fun p q h => ?_, fun p q q' h h' => ?_⟩
  · rcases List.mem_cons.mp hk with z | z
    · subst z
      show upd _ P2 _ c' = _
      rw [upd_ne cP2, upd_same]
    · have e := hC.obj k z
      rw [upd_ne (ne_of_none e nT), upd_ne (ne_of_none e nC), upd_ne (fun y => by rw [y, hP] at e; exact absurd (Option.some.inj e).symm (codeN_ne ps)), e]
  · rcases tq p q h with ⟨rfl, rfl⟩ | h
    · refine ⟨#[], upd_same, True.intro, fun pos' cv hc => ?_⟩
      have z : codeAmong pos' [] = some cv := hc
      simp [codeAmong] at z
    · obtain ⟨us, e1, e2, e3⟩ := hC.tab p q h
      by_cases z : p = P
      · subst z
        have hq : q = X.env.qual := hC.unq p q X.env.qual h (.inl hm)
        subst hq
        rw [hP] at e1
        cases e1
        refine ⟨_, by rw [upd_ne nPt, upd_ne nPc, upd_same], by rw [eL]; exact PySem.TriplesOk_snoc _ _ _ _ ht, fun pos' cv hc => ?_⟩
        rw [eL] at hc
        rcases NdefX.among_app2 _ ht hc with z | ⟨z, z1, z2⟩
        · obtain ⟨d, P3, y1, y2⟩ := e3 pos' cv z
          exact ⟨d, P3, y1, List.mem_cons_of_mem _ y2⟩
        · refine ⟨c', P2, z, ?_⟩
          rw [z1, z2]
          exact List.mem_cons_self
      · refine ⟨us, by rw [upd_ne (old p q h), upd_ne (ne_of_none e1 nC), upd_ne z, e1], e2, fun pos' cv hc => ?_⟩
        obtain ⟨d, P3, y1, y2⟩ := e3 pos' cv hc
        exact ⟨d, P3, y1, List.mem_cons_of_mem _ y2⟩
  · rcases tq p q h with ⟨y1, y2⟩ | y
    · rcases tq p q' h' with ⟨_, z2⟩ | z
      · rw [y2, z2]
      · exact absurd y1 (old p q' z)
    · rcases tq p q' h' with ⟨z1, z2⟩ | z
      · exact absurd z1 (old p q y)
      · exact hC.unq p q q' y z
theorem ct_ext {ps more : Array Value} {c' P2 : Addr} {q : Str} (hP : H P = some (.tbl ps)) (nC : H c' = none) (nT : H P2 = none) : ExtN H (upd (upd (upd H P (.tbl (ps ++ more))) c' (CodeN c' q P2)) P2 (.tbl #[])) := fun b o e n => by
  rw [upd_ne (ne_of_none e nT), upd_ne (ne_of_none e nC), upd_ne (fun z => n ps (by rw [z, hP] at e; exact (Option.some.inj e).symm)), e]
/-- a table of the frame entered is one of those -/
theorem ct_sub {C : List Cob} {c' P2 : Addr} {n q : Str} {H1 : Hp} (hC : CTC G.kd (G.tabs ++ G.subs.map (·.2)) C H1) (h : (c', n, q, P2) ∈ C) (h2 : ∀ x ∈ G.subs, ∃ n, H1 x.1 = some (CodeN x.1 n x.2.1)) : CT G.kd (G.sub (c', P2, q)).tabs (G.sub (c', P2, q)).subs H1 := by
  have tq : ∀ p r, TQ (G.tabs ++ ((c', P2, q) :: G.subs).map (·.2)) C p r → TQ (G.tabs ++ G.subs.map (·.2)) C p r := fun p r z => by
    rcases z with z | z
    · rcases List.mem_append.mp z with z | z
      · exact .inl (List.mem_append_left _ z)
      · rcases List.mem_cons.mp z with z | z
        · cases z
          exact .inr ⟨c', n, h⟩
        · exact .inl (List.mem_append_right _ z)
    · exact .inr z
  refine ⟨⟨C, hC.obj, fun p r z => hC.tab p r (tq p r z), fun p r r' z z' => hC.unq p r r' (tq p r z) (tq p r' z')⟩, fun x hx => ?_⟩
  rcases List.mem_cons.mp hx with z | z
  · subst z
    exact ⟨n, hC.obj _ h⟩
  · exact h2 x z
end
end DL
set_option Elab.async false
set_option linter.all false
set_option maxRecDepth 100000
set_option maxHeartbeats 1000000
namespace DL
open PySem L2 LamX PySem.Spec PyProof.Rows
section
variable {M : Model} {A : Around} {E : Value → Shared → Prop} {Q : Value → Shared → Prop} {s : Shared} {env : Env} {c P : Addr} {ps : Array Value} {mg : Str → Option Value}
/-- a lambda's function object, its code object new: the new one's own table is told too -/
theorem lam_fresh {nm ql : Str} {prm : Arguments} {bd : Expr} {sc : Scope} {cl : List (Str × Addr)} {at_ : Pos} {ln : Nat} (k1 : closureFor sc env = pure cl) (k2 : env.globals = mainGlobals) (k3 : s.heap.Ns mainGlobals mg) (k4 : env.code = .ref c)
    (k5 : PySem.W.CodeHd s.heap c P) (k6 : s.heap.get? P = some { cls := .none, data := .fields ps }) (k7 : TriplesOk ps.toList) (k8 : codeAmong at_ ps.toList = none) (k9 : mainGlobals ≠ P) (k10 : s.heap.BuiltinsAt mg P)
    (go : ∀ (c' P2 : Addr) (ctv : Value) (g : Heap) (tk : Tok), Heap.ExtBut P s.heap g → s.heap.objs.size ≤ c' → c' < g.objs.size → g.CodeRec (.ref c') ql → g.get? P = some { cls := .none, data := .fields (ps ++ #[rawInt at_.line, rawInt at_.col, .ref c']) } →
      s.heap.objs.size ≤ P2 → PySem.W.CodeHd g c' P2 → g.get? P2 = some { cls := .none, data := .fields #[] } →
      Q (.ref g.objs.size) { s with heap := g.push (PySem.W.kla_obj nm ql prm bd sc cl ((mg "__name__").getD .none) c' ctv), toks := tk }) :
    wpAny M A (makeFunction nm ql prm (.expr bd) sc env [] [] [] at_ ln) Q E s := by
  obtain ⟨bm, ob, b1, b2, _, b3, b4, b5, b6, b7⟩ := k10
  rw [makeFunction_eq]
  simp only [List.zip_nil_right, List.filterMap_nil, List.isEmpty_nil, if_true, pure_bind]
  unfold makeTail
  rw [k1, k2]
  refine wpAny_bind (wpAny_pure ?_)
  have fin : ∀ (h0 : Heap) (ctv : Value), (∀ b o, s.heap.get? b = some o → h0.get? b = some o) → s.heap.objs.size ≤ h0.objs.size → h0.Ns mainGlobals mg → ∀ (s1 : Shared), s1 = { s with heap := h0, toks := s1.toks } →
      wpAny M A (functionCode env at_ ln nm ql prm sc (.expr bd)) (fun cd s2 => ∃ (c' P2 : Addr) (g : Heap) (tk : Tok), cd = .ref c' ∧ s2 = { s with heap := g, toks := tk } ∧ Heap.ExtBut P s.heap g ∧ s.heap.objs.size ≤ c' ∧ c' < g.objs.size ∧ g.CodeRec (.ref c') ql ∧
        g.get? P = some { cls := .none, data := .fields (ps ++ #[rawInt at_.line, rawInt at_.col, .ref c']) } ∧ s.heap.objs.size ≤ P2 ∧ PySem.W.CodeHd g c' P2 ∧ g.get? P2 = some { cls := .none, data := .fields #[] } ∧ g.Ns mainGlobals mg) E s1 := fun h0 ctv e0 z0 n0 s1 es => by
    have eh : s1.heap = h0 := by rw [es]
    have a1 := k5.keeps e0
    have a2 := e0 _ _ k6
    rw [← eh] at a1 a2 n0 z0
    refine wpAny_functionCodeX k4 (a1.code a2 k7) (a1.tab a2) k8 fun c' g tk hx hge hlt _ hrec htb hnew => ?_
    obtain ⟨P2, y1, y2, y3⟩ := hnew
    refine ⟨c', P2, g, tk, rfl, by rw [es], fun b o hb e => hx b o hb (by rw [eh]; exact e0 _ _ e), Nat.le_trans z0 hge, hlt, hrec, htb.2, Nat.le_trans z0 y1, PySem.W.CodeHd.of y2 y3, y3.2, n0.extBut hx k9⟩
  cases cl with
  | nil =>
    simp only [List.isEmpty_nil, if_true]
    refine wpAny_bind (wpAny_pure (wpAny_bind (wpAny_mono (fin s.heap .none (fun _ _ e => e) (Nat.le_refl _) k3 s rfl) (fun cd s2 hq => ?_) fun _ _ e => e)))
    obtain ⟨c', P2, g, tk, rfl, rfl, q1, q2, q3, q4, q5, q6, q7, q8, q9⟩ := hq
    refine wpAny_bind (wpAny_builtinsFor q9 b1 b2 (q1 _ _ b3 b4) b5 b6 b7 (wpAny_bind (wpAny_nsGet q9 ?_)))
    exact wpAny_bind (wpAny_pure (wpAny_newObj_type (go c' P2 .none g tk q1 q2 q3 q4 q5 q6 q7 q8) (by size_fits)))
  | cons x xs =>
    simp only [List.isEmpty_cons, Bool.false_eq_true, if_false]
    refine wpAny_bind (wpAny_newTextTuple (wpAny_bind (wpAny_mono (fin _ .none (fun b o e => Heap.get?_push_of_some _ e) (by rw [Heap.size_push]; omega) (k3.push _) _ rfl) (fun cd s2 hq => ?_) fun _ _ e => e)))
    obtain ⟨c', P2, g, tk, rfl, rfl, q1, q2, q3, q4, q5, q6, q7, q8, q9⟩ := hq
    refine wpAny_bind (wpAny_builtinsFor q9 b1 b2 (q1 _ _ b3 b4) b5 b6 b7 (wpAny_bind (wpAny_nsGet q9 ?_)))
    exact wpAny_bind (wpAny_pure (wpAny_newObj_type (go c' P2 _ g tk q1 q2 q3 q4 q5 q6 q7 q8) (by size_fits)))
end
section
variable {X : Cx} {G : Gm} {c P : Addr} {pins : List (Addr × Obj)} {σ : L2.St} {H : Hp} {s : Shared}
/-- the function f made of a lambda here: its code object c' with the table P2 -/
structure LamMade (X : Cx) (G : Gm) (H : Hp) (pins : List (Addr × Obj)) (σ : L2.St) (params : Arguments) (body : Expr) (scope : Scope) (f c' P2 : Addr) (pm ctv : Value) (H1 : Hp) (s' : Shared) : Prop where
  inv : Inv X pins σ H1 s'
  ext : ExtN H H1
  tab : CT G.kd (G.sub (c', P2, X.env.qual ++ "<lambda>" ++ ".<locals>.")).tabs (G.sub (c', P2, X.env.qual ++ "<lambda>" ++ ".<locals>.")).subs H1
  obj : s'.heap.get? f = some (PySem.W.kla_obj "<lambda>" (X.env.qual ++ "<lambda>") params body scope (cloFrom X.env.cells scope.names []) pm c' ctv)
  new : H1 f = none
  nfr : f ∉ frs X.stack
  cod : H1 c' = some (CodeN c' (X.env.qual ++ "<lambda>") P2)
theorem lam_make {params : Arguments} {body : Expr} {scope : Scope} {pos : Pos} {E : Value → Shared → Prop} {Q : Value → Shared → Prop} (I : Inv X pins σ H s) (M : Mkr X G c P) (g : CT G.kd G.tabs G.subs H) (hk : G.kd pos.line pos.col = true) (hdef : defaultsOf params X.env = ([], []))
    (hfree : ∀ y ∈ scope.names, y.2 = .free → ∃ c, X.env.cells.lookup y.1 = some c) (h : ∀ f c' P2 pm ctv H1 s', LamMade X G H pins σ params body scope f c' P2 pm ctv H1 s' → Q (.ref f) s') :
    wpAny (model X.prog X.w) X.A (eval (.Lambda params body scope pos) X.env) Q E s := by
  obtain ⟨C, ps, hC, hP, hP', ht, hb, hgP, h3⟩ := M.tab I g
  have hcd := M.hd I g
  refine PySem.W.kla_eval hdef ?_
  have nofr : ∀ f, s.heap.objs.size ≤ f → f ∉ frs X.stack := fun f hf z => (List.mem_cons.mp (I.stkSub _ z)).elim (fun e => Nat.lt_irrefl _ (Nat.lt_of_lt_of_le I.lt (e ▸ hf))) (I.nofs hf)
  cases hc : codeAmong pos ps.toList with
  | none =>
    refine lam_fresh (mg := X.mg) (closure_ok hfree) I.ok.glob (I.mod.glob.keeps I.bk) M.code hcd hP' ht hc hgP hb fun c' P2 ctv g' tk q1 q2 q3 q4 q5 q6 q7 q8 => ?_
    obtain ⟨c2, oc, vs, t, e2, hoc, hd, hv⟩ := q4
    cases e2
    have nC : H c' = none := I.hok.fresh q2
    have nT : H P2 = none := I.hok.fresh q6
    have cP2 : c' ≠ P2 := by obtain ⟨_, _, _, _, _, _, _, _, _, _, _, _, _, _, _, _, _, _, z⟩ := id q7; exact z
    have hsz : s.heap.objs.size ≤ g'.objs.size := Nat.le_trans q2 (Nat.le_of_lt q3)
    have ekd : nam_ X.env.qual (G.kd pos.line pos.col) = X.env.qual ++ "<lambda>" := by rw [hk]; rfl
    have ekp : pre_ X.env.qual (G.kd pos.line pos.col) = X.env.qual ++ "<lambda>" ++ ".<locals>." := by rw [hk]; rfl
    have hC1 := ct_code (X := X) (G := G) (pos := pos) hC M.mem hP ht nC nT cP2 h3
    rw [ekd, ekp] at hC1
    have hE := ct_ext (ps := ps) (more := #[rawInt pos.line, rawInt pos.col, .ref c']) (c' := c') (P2 := P2) (q := X.env.qual ++ "<lambda>") hP nC nT
    have I1 := inv_code (t' := tk) (more := #[rawInt pos.line, rawInt pos.col, .ref c']) (q := X.env.qual ++ "<lambda>") (h' := g'.push (PySem.W.kla_obj "<lambda>" (X.env.qual ++ "<lambda>") params body scope (cloFrom X.env.cells scope.names []) ((X.mg "__name__").getD .none) c' ctv)) I hP
      (fun b o hb e => Heap.get?_push_of_some _ (q1 b o hb e)) (Heap.get?_push_of_some _ q5) q2 ⟨oc, vs, t, Heap.get?_push_of_some _ hoc, hd, hv⟩ (q7.keeps fun b o e => Heap.get?_push_of_some _ e) q6 (Heap.get?_push_of_some _ q8)
    refine h g'.objs.size c' P2 ((X.mg "__name__").getD .none) ctv _ _ ⟨I1, hE, ct_sub hC1 List.mem_cons_self fun x hx => ?_, Heap.get?_push_size _ rfl, ?_, nofr _ hsz, by rw [upd_ne cP2, upd_same]⟩
    · obtain ⟨n, e⟩ := g.2 x hx
      exact ⟨n, hE _ _ e codeN_ne⟩
    · have hl2 : P2 < g'.objs.size := Heap.lt_size q8
      rw [upd_ne (Nat.ne_of_gt hl2), upd_ne (Nat.ne_of_gt q3), upd_ne (Nat.ne_of_gt (Nat.lt_of_lt_of_le (Heap.lt_size hP') hsz))]
      exact I.hok.fresh hsz
  | some cv =>
    obtain ⟨c', P2, e, hm⟩ := h3 pos cv hc
    subst e
    rw [hk] at hm
    have hm : (c', X.env.qual ++ "<lambda>", X.env.qual ++ "<lambda>" ++ ".<locals>.", P2) ∈ C := hm
    refine PySem.W.kla_makeFunctionHit (mg := X.mg) (c := c) (P := P) (ps := ps) (closure_ok hfree) I.ok.glob (I.mod.glob.keeps I.bk) M.code hcd hP' ht hc hb fun ctv g' tk hx hsz => ?_
    have I1 : Inv X pins σ H { s with heap := g'.push (PySem.W.kla_obj "<lambda>" (X.env.qual ++ "<lambda>") params body scope (cloFrom X.env.cells scope.names []) ((X.mg "__name__").getD .none) c' ctv), toks := tk } := I.kept fun b o e => Heap.get?_push_of_some _ (hx b o e)
    exact h g'.objs.size c' P2 ((X.mg "__name__").getD .none) ctv H _ ⟨I1, ExtN.refl H, ct_sub hC hm g.2, Heap.get?_push_size _ rfl, I.hok.fresh hsz, nofr _ hsz, hC.obj _ hm⟩
end
end DL
set_option Elab.async false
set_option linter.all false
set_option maxRecDepth 100000
namespace DL
open PySem L2 LamX PySem.Spec PyProof.Rows
/-- what the clauses give back, one after the other -/
def wSel (K : PySem.W.Frag) (Q : VK) : List (Addr × Str) → Value → Hp → Prop
  | [], _, _ => False
  | (C, s) :: r, cls, H => ∃ b, PySem.W.exmOne K cls (.ref C) = some b ∧ (b = true → Q (.str s) H) ∧ (b = false → wSel K Q r cls H)
def TTm (K : PySem.W.Frag) (l : List (Addr × Str)) : (XK → Hp → VK → Prop) → Hp → VK → Prop := fun tl H Q => tl (fun cls _ H' => wSel K Q l cls H') H Q
def hdl (l : List (Addr × Str)) : List (Value × (Addr → Value → Option Addr → TS)) := l.map fun p => (.ref p.1, fun _ _ _ => tRet (tC (.str p.2)))
theorem wSel_many {K : PySem.W.Frag} {Q : VK} {De : Ends} (hq : ∀ v H, Q v H → De.rt v H) : ∀ {l : List (Addr × Str)} {cls : Value} {d : Option Addr} {sg : L2.St} {H : Hp}, wSel K Q l cls H → wMany K (fun _ _ _ _ => False) De (hdl l) cls d sg H
  | [], _, _, _, _, h => h
  | (C, s) :: r, cls, d, sg, H, ⟨b, e, h1, h2⟩ => ⟨b, e, fun hb a _ => hq _ _ (h1 hb), fun hb => wSel_many hq (h2 hb)⟩
inductive HdT (X : Cx) (sg : Scope) : List ExceptHandler → List (Addr × Str) → Prop
  | nil : HdT X sg [] []
  | cons {e : Str} {C : Addr} {s : Str} {j : Nat} {p4 p5 p6 p7 : Pos} {hds : List ExceptHandler} {l : List (Addr × Str)} (h1 : sg.names.lookup e = some .globalImplicit) (h2 : X.mg e = some (.ref C)) (h3 : (e == ("__debug__" : Str)) = false) (t : HdT X sg hds l) :
      HdT X sg (.ExceptHandler (some (.Name e p4)) none [.Return (some (.Constant (.str s) j p5)) p6] p7 :: hds) ((C, s) :: l)
section
variable {X : Cx}
/-- x, a def that calls what it got: a calls it; Kn: what is known of the made lambda's code; TT: what it makes of the lambda's reading -/
def GivesN (X : Cx) (Ng : List Str) (x : Str) (sg : Scope) (g : Addr) (cdg : Value) (bg : List Stmt) (a : Str) (TT : (XK → Hp → VK → Prop) → Hp → VK → Prop) : Prop :=
  ∀ (f : Addr) (Kn : Hp → Prop) (s : Shared) (H : Hp) (Q : VK) (tl : XK → Hp → VK → Prop),
    (∀ (W : WX) (pn : List (Addr × Obj)) (xe : Value → Shared → Prop) (Ech : XK) (q1 q2 : Pos), Takes ((cxOf C8.CX0 X.prog X.w X.K X.mg X.base Ng x sg g cdg X.A X.stack s H C8.E0).tr pn xe) W → (∀ cls d sY HY, Ech cls d HY → W cls d sY HY) →
      PE ((cxOf C8.CX0 X.prog X.w X.K X.mg X.base Ng x sg g cdg X.A X.stack s H C8.E0).tr pn xe) (.Call (.Name a q1) [] [] q2) (fun sY HY QY => sY[0]? = some (some (.ref f)) ∧ Kn HY ∧ tl Ech HY QY)) →
    Kn H → TT tl H Q → ∃ t, PSs (cxOf C8.CX0 X.prog X.w X.K X.mg X.base Ng x sg g cdg X.A X.stack s H C8.E0).nox bg t ∧ t { nx := fun _ HY => Q .non HY, rt := Q } (L2.start Ng [.ref f]) H
theorem told_many {Ng : List Str} {x a : Str} {sg : Scope} {g : Addr} {cdg : Value} {p1 p2 p3 p8 : Pos} {h₀ : ExceptHandler} {hds : List ExceptHandler} {l : List (Addr × Str)} (hh : HdT X sg (h₀ :: hds) l) (h0 : ∀ f : Addr, (L2.start Ng [V.ref f])[0]? = some (some (V.ref f))) :
    GivesN X Ng x sg g cdg [.Try [.Return (some (.Call (.Name a p1) [] [] p2)) p3] (h₀ :: hds) [] [] p8] a (TTm X.K l) := by
  intro f Kn s H Q tl act hc h
  have hk : ∀ {hs : List ExceptHandler} {l : List (Addr × Str)}, HdT X sg hs l → HdsOk (cxOf C8.CX0 X.prog X.w X.K X.mg X.base Ng x sg g cdg X.A X.stack s H C8.E0).nox hs (hdl l) := fun {hs l} hh => by
    induction hh with
    | nil => exact .nil
    | cons h1 h2 h3 t ih => exact .cons ⟨h1, h3, .inl h2⟩ (fun a oe cls d pn _ _ => pss_one (ps_ret pe_str)) ih
  refine ⟨_, pss_one (ps_try_many (X := (cxOf C8.CX0 X.prog X.w X.K X.mg X.base Ng x sg g cdg X.A X.stack s H C8.E0).nox)
      (tb := fun W De sg' H' => ∃ Ech : XK, (∀ cls d s2 H2, Ech cls d H2 → W cls d s2 H2) ∧ sg'[0]? = some (some (.ref f)) ∧ Kn H' ∧ tl Ech H' De.rt)
      rfl rfl LamX.takes0 (fun W pn xe tk _ => ?_) (hk hh)), ?_⟩
  · refine ⟨fun pins s' sg' H' De I ⟨Ech, hW, h1, h2, h3⟩ => ?_⟩
    exact (pss_one (ps_ret (pos := p3) (act W pn xe Ech p1 p2 tk hW))).run pins s' sg' H' De I ⟨h1, h2, h3⟩
  · exact ⟨fun cls _ H' => wSel X.K Q l cls H', fun cls d s2 H2 hw => wSel_many (fun _ _ z => z) hw, h0 f, hc, h⟩
/-- an error told by its word -/
def toldD (l : List (Nat × List Nat)) : R D → R D
  | .ok d => .ok d
  | .err e => match l.lookup e.cls with
    | some s => .ok (.str s)
    | none => .stuck
  | .stuck => .stuck
  | .roll m f => .roll m fun i => toldD l (f i)
@[simp] theorem toldD_ok (l : List (Nat × List Nat)) (d : D) : toldD l (.ok d) = .ok d := rfl
theorem toldD_wp {l : List (Nat × List Nat)} {Q : D → Prop} {E : Exc → Prop} : ∀ {m : R D}, Wp (toldD l m) Q E → Wp m Q (fun e => ∃ s, l.lookup e.cls = some s ∧ Q (.str s))
  | .ok _, h => h
  | .err e, h => by
    unfold toldD at h
    split at h
    · rename_i s hs; exact ⟨s, hs, h⟩
    · exact h.elim
  | .stuck, h => h
  | .roll _ _, h => fun i hi => toldD_wp (h i hi)
/-- the clauses part the classes -/
def ExmOk (K : PySem.W.Frag) (G : Gm) (ks : List Nat) : Prop := ∀ i ∈ ks, ∀ j ∈ ks, PySem.W.exmOne K (.ref (G.xcls i)) (.ref (G.xcls j)) = some (i == j)
theorem wSel_of {K : PySem.W.Frag} {G : Gm} {Q : VK} {H : Hp} {i : Nat} {s : List Nat} : ∀ {l : List (Nat × List Nat)} (ks : List Nat), ExmOk K G ks → i ∈ ks → (∀ j ∈ l.map (·.1), j ∈ ks) → l.lookup i = some s → Q (.str ⟨s.toArray⟩) H → wSel K Q (l.map fun p => (G.xcls p.1, (⟨p.2.toArray⟩ : Str))) (.ref (G.xcls i)) H
  | [], ks, _, _, _, h, _ => by cases h
  | (j, t) :: l, ks, hx, hi, hl, h, q => by
    refine ⟨i == j, hx i hi j (hl j (by simp)), fun hb => ?_, fun hb => ?_⟩
    · rw [List.lookup_cons, hb] at h
      cases h
      exact q
    · rw [List.lookup_cons, hb] at h
      exact wSel_of ks hx hi (fun j hj => hl j (List.mem_cons_of_mem _ hj)) h q
theorem lookup_mem {i : Nat} {s : List Nat} : ∀ {l : List (Nat × List Nat)}, l.lookup i = some s → i ∈ l.map (·.1)
  | [], h => by cases h
  | p :: l, h => by
    rw [List.lookup_cons] at h
    split at h
    · rename_i hh
      exact List.mem_map.mpr ⟨p, List.mem_cons_self, (beq_iff_eq.mp hh).symm⟩
    · exact List.mem_cons_of_mem _ (lookup_mem h)
theorem takes_lam {A outer s H E scope f c'} : Takes (lamCx X A outer s H E scope f c') (WD E) := takes_of rfl rfl rfl rfl
theorem Grow.ofExt {dl : Addr} {H H' : Hp} (e : ExtN H H') : Grow dl H H' := fun a o h _ nt => e a o h nt
theorem GlOk.ofExt {G : Gm} {dl : Addr} {H H' : Hp} (k : GlOk G dl H) (e : ExtN H H') (t : CT G.kd G.tabs G.subs H') : GlOk G dl H' := by
  obtain ⟨x, y, z, h⟩ := k.dice
  exact ⟨⟨x, y, z, e _ _ h fun ps z => by cases z⟩, t⟩
section
variable {G : Gm} {x : Addr × Addr × Str} {dl : Addr} {S H : Hp}
mutual
theorem rep_sub : ∀ {d : D} {v : V}, Rep (G.sub x) dl S d v ↔ Rep G dl S d v
  | .non, v => by unfold Rep; exact Iff.rfl
  | .bl b, v => by unfold Rep; exact Iff.rfl
  | .int i, v => by unfold Rep; exact Iff.rfl
  | .str s, v => by unfold Rep; exact Iff.rfl
  | .lst ds, v => by unfold Rep; exact exists_congr fun a => exists_congr fun vs => and_congr Iff.rfl (and_congr Iff.rfl repL_sub)
  | .tup ds, v => by unfold Rep; exact exists_congr fun a => exists_congr fun vs => and_congr Iff.rfl (and_congr Iff.rfl repL_sub)
  | .dic kvs, v => by unfold Rep; exact exists_congr fun a => exists_congr fun o => exists_congr fun kv => and_congr Iff.rfl (and_congr Iff.rfl repK_sub)
  | .ctup ds, v => by unfold Rep; exact exists_congr fun a => exists_congr fun vs => and_congr Iff.rfl (and_congr Iff.rfl repL_sub)
  | .tdic kvs, v => by unfold Rep; exact exists_congr fun a => exists_congr fun o => exists_congr fun kv => and_congr Iff.rfl (and_congr Iff.rfl repT_sub)
  | .cdic kvs, v => by unfold Rep; exact exists_congr fun a => and_congr Iff.rfl repC_sub
  | .ins c ds, v => by unfold Rep; exact exists_congr fun a => exists_congr fun dx => exists_congr fun vs => and_congr Iff.rfl (and_congr Iff.rfl (and_congr Iff.rfl repL_sub))
  | .dice, v => by unfold Rep; exact Iff.rfl
  | .fn n, v => by unfold Rep; exact Iff.rfl
  | .ktup ds, v => by unfold Rep; exact exists_congr fun a => exists_congr fun vs => exists_congr fun o => and_congr Iff.rfl (and_congr Iff.rfl (and_congr Iff.rfl (and_congr Iff.rfl repL_sub)))
theorem repL_sub : ∀ {ds : List D} {vs : List V}, RepL (G.sub x) dl S ds vs ↔ RepL G dl S ds vs
  | [], vs => by unfold RepL; exact Iff.rfl
  | d :: ds, vs => by unfold RepL; exact exists_congr fun v => exists_congr fun r => and_congr Iff.rfl (and_congr rep_sub repL_sub)
theorem repK_sub : ∀ {ds : List (D × D)} {vs : List (Key × V)}, RepK (G.sub x) dl S ds vs ↔ RepK G dl S ds vs
  | [], vs => by unfold RepK; exact Iff.rfl
  | (k, d) :: ds, vs => by unfold RepK; exact exists_congr fun y => exists_congr fun v => exists_congr fun r => and_congr Iff.rfl (and_congr Iff.rfl (and_congr rep_sub repK_sub))
theorem repT_sub : ∀ {ds : List (D × D)} {vs : List (List Key × V)}, RepT (G.sub x) dl S ds vs ↔ RepT G dl S ds vs
  | [], vs => by unfold RepT; exact Iff.rfl
  | (k, d) :: ds, vs => by unfold RepT; exact exists_congr fun y => exists_congr fun v => exists_congr fun r => and_congr Iff.rfl (and_congr Iff.rfl (and_congr rep_sub repT_sub))
theorem repC_sub : ∀ {a : Addr} {ds : List (List Nat × D)}, RepC (G.sub x) dl S a ds ↔ RepC G dl S a ds
  | a, [] => by unfold RepC; exact Iff.rfl
  | a, (k, d) :: ds => by unfold RepC; exact and_congr (exists_congr fun v => and_congr Iff.rfl rep_sub) repC_sub
end
theorem ownAt_sub {d : D} {o : Option HO} : OwnAt (G.sub x) dl S d o ↔ OwnAt G dl S d o := by
  unfold OwnAt
  split
  · exact exists_congr fun vs => and_congr Iff.rfl repL_sub
  · exact exists_congr fun kv => and_congr Iff.rfl repK_sub
  · exact exists_congr fun dx => exists_congr fun vs => and_congr Iff.rfl (and_congr Iff.rfl repL_sub)
  · exact exists_congr fun kv => and_congr Iff.rfl repT_sub
  · exact Iff.rfl
theorem xrep_sub {e : Exc} {cls : Value} {dx : Option Addr} : XRep (G.sub x) dl S e cls dx H ↔ XRep G dl S e cls dx H := by
  unfold XRep
  refine and_congr Iff.rfl ?_
  show (match G.xfld e.cls with | none => _ | some f => _) ↔ (match G.xfld e.cls with | none => _ | some f => _)
  split
  · exact Iff.rfl
  · exact exists_congr fun d => exists_congr fun v => and_congr Iff.rfl (and_congr Iff.rfl rep_sub)
theorem GlOk.drop (k : GlOk (G.sub x) dl H) : GlOk G dl H := ⟨k.dice, k.tab.drop⟩
theorem GlOk.enter (k : GlOk G dl H) (t : CT (G.sub x).kd (G.sub x).tabs (G.sub x).subs H) : GlOk (G.sub x) dl H := ⟨k.dice, t⟩
variable {Z : List Addr} {O : List (Nat × Addr)} {r : LE} {sg : L2.St}
theorem slot_sub {i : Nat} {y : Option (Option V)} : ∀ {c : Cell}, Slot (G.sub x) dl Z O H i y c ↔ Slot G dl Z O H i y c
  | .un => Iff.rfl
  | .val d => exists_congr fun v => and_congr Iff.rfl rep_sub
  | .own d => exists_congr fun a => and_congr Iff.rfl (and_congr Iff.rfl (and_congr ownAt_sub Iff.rfl))
theorem At.drop (A : At (G.sub x) dl Z O r sg H) : At G dl Z O r sg H := ⟨A.gl.drop, A.dz, A.live, A.own, A.inj, A.len, fun i c e => slot_sub.mp (A.slot i c e)⟩
theorem At.enter (A : At G dl Z O r sg H) (t : CT (G.sub x).kd (G.sub x).tabs (G.sub x).subs H) : At (G.sub x) dl Z O r sg H := ⟨A.gl.enter t, A.dz, A.live, A.own, A.inj, A.len, fun i c e => slot_sub.mpr (A.slot i c e)⟩
end
section
variable {pins : List (Addr × Obj)} {σ : L2.St} {H : Hp} {s : Shared}
/-- the call, in the def that got the lambda -/
theorem act_pe {CXg : CXT} {Eg : XK} {Ng : List Str} {qg : Str} {sg : Scope} {g f c' P2 : Addr} {cdg pm ctv : Value} {prm : Arguments} {bd : Expr} {sc : Scope} {k i : Nat} {a : Str} {pn : List (Addr × Obj)} {xe : Value → Shared → Prop} {W : WX} {Ech : XK} {tb : TE} {q1 q2 : Pos}
    (I : Inv X pins σ H s) (L : LamS X.env.scope sc) (hf : s.heap.get? f = some (PySem.W.kla_obj "<lambda>" (X.env.qual ++ "<lambda>") prm bd sc (cloFrom X.env.cells sc.names []) pm c' ctv)) (hfn : H f = none) (hfr : f ∉ frs X.stack)
    (hbind : bindArgs (PySem.W.kla_fn "<lambda>" (X.env.qual ++ "<lambda>") prm bd sc (cloFrom X.env.cells sc.names []) pm (.ref c') ctv) ⟨[], []⟩ = pure [])
    (tk : Takes ((cxOf CXg X.prog X.w X.K X.mg X.base Ng qg sg g cdg X.A X.stack s H Eg).tr pn xe) W) (hW : ∀ cls d sY HY, Ech cls d HY → W cls d sY HY) (hr : Room (k + 1) (X.A.deeper (envOfC qg sg s.heap.objs.size g cdg)))
    (hbody : ∀ (A : Around) (outer : List Env) (s : Shared) (H : Hp), Room k (A.deeper (lamEnv X sc s.heap.objs.size f c')) → PE (lamCx X A outer s H Ech sc f c') bd tb)
    (hN : Ng[i]? = some a) (hv : Vis sg a) (hd : (a == ("__debug__" : Str)) = false := by decide) (hcd : (a == ("__classdict__" : Str)) = false := by decide) :
    PE ((cxOf CXg X.prog X.w X.K X.mg X.base Ng qg sg g cdg X.A X.stack s H Eg).tr pn xe) (.Call (.Name a q1) [] [] q2)
      (fun sY HY QY => sY[i]? = some (some (.ref f)) ∧ HY c' = some (CodeN c' (X.env.qual ++ "<lambda>") P2) ∧ tb σ HY QY) := by
  refine ⟨fun pinsY sY oY HY QY IY ⟨w1, w2, w3⟩ => wpAny_Call_Name_kw (thn ((pe_var (pos := q1) (i := i) hN hv hd hcd).run pinsY sY oY HY (fun v HB => v = .ref f ∧ HB = HY) IY ⟨.ref f, w1, rfl, rfl⟩) fun u sB ⟨v, HB, IB, rB, qB⟩ => ?_)⟩
  obtain ⟨rfl, rfl⟩ := qB
  obtain rfl : u = Value.ref f := rB
  have oB : sB.heap.get? f = some (PySem.W.kla_obj "<lambda>" (X.env.qual ++ "<lambda>") prm bd sc (cloFrom X.env.cells sc.names []) pm c' ctv) := IB.base.keep f _ hf hfn hfr fun z => nomatch (show f ∈ ([] : List Addr) from z)
  have rc : codeAny (model X.prog X.w) (X.A.deeper (envOfC qg sg s.heap.objs.size g cdg)) (.call (.ref f) ⟨[], []⟩) (CR (L2.CX X.prog X.w) (envOfC qg sg s.heap.objs.size g cdg :: X.stack) X.prog X.w HB sB QY Ech) sB := by
    obtain ⟨oc, vs, t, y1, y2, y3⟩ := (codeN_at IB.hok w2).1
    refine PySem.W.kla_callFunE hr.depth oB rfl L.co L.gen rfl ⟨c', oc, vs, t, rfl, y1, y2, y3⟩ ?_
    rw [hbind]
    refine wpAny_pure (wpAny_newFunctionEnv (fun y hy => (L.own y hy).2) (fun y hy => absurd hy (by simp)) (fun hB hns hsb => ⟨IB.nolimit.fresh _ hsb, ?_⟩) L.kind)
    show codeAny _ _ (.expr bd (lamEnv X sc sB.heap.objs.size f c')) _ _
    refine PySem.W.kla_codeExpr (wpAny_mono ((hbody _ _ sB HB (hr.deeper _)).run [] _ _ HB QY (lam_start2 (tk := sB.toks + ([] : List (Str × Value)).length) I L IB.env0 hr.hd IB.base hns fun b o e => hsb.extBut b o (Nat.ne_of_lt (Heap.lt_size e)) (Heap.get?_push_of_some _ e)) w3) (fun v sZ hq => ?_) fun e sZ hq => hq)
    obtain ⟨wv, HZ, JZ, rZ, qZ⟩ := hq
    exact ⟨wv, HZ, JZ.os, JZ.bare, JZ.base, JZ.hok, rZ, qZ⟩
  refine PySem.W.callWith_F0 ⟨_, _, _, _, oB⟩ (wpAny_call (codeAny_mono rc fun r sZ hq => ?_))
  cases r with
  | error e => exact passes_call tk hW pinsY oY HB sB e sZ IB hq
  | ok fl =>
    cases fl with
    | ret u => exact IB.after hq
    | next | brk | cont => exact False.elim hq
/-- what a lambda handed on is read as: t, by the frame of its code -/
def tLamN (G : Gm) (q : Str) (TT : (XK → Hp → VK → Prop) → Hp → VK → Prop) (t : Addr × Addr × Str → XK → TE) : TE := fun σ H Q => CT G.kd G.tabs G.subs H ∧
  ∀ H1 c' P2, ExtN H H1 → CT (G.sub (c', P2, q)).kd (G.sub (c', P2, q)).tabs (G.sub (c', P2, q)).subs H1 → TT (fun Ech HY QY => t (c', P2, q) Ech σ HY QY) H1 Q
theorem pe_lamN {G : Gm} {TT : (XK → Hp → VK → Prop) → Hp → VK → Prop} {x a : Str} {g c P : Addr} {k : Nat} {pg : Arguments} {bg : List Stmt} {sg : Scope} {dV kV doc pm cdv ct oc : Value} {an od : Option Addr} {osl : Array (Option Value)} {Ng : List Str}
    {prm : Arguments} {bd : Expr} {sc : Scope} {t : Addr × Addr × Str → XK → TE} {p lpos pos : Pos} (hg : Gl X x) (hm : X.mg x = some (.ref g)) (hk : PySem.W.keepIn X.K (.ref g) = true)
    (lk : X.K.lookup g = some ⟨oc, od, .func (PySem.W.fnOf x x pg bg sg dV kV doc pm an cdv ct), osl⟩) (hcg : PySem.W.codeIn X.K cdv x = true) (hb : L2.Binds X.K (PySem.W.fnOf x x pg bg sg dV kV doc pm an cdv ct) [a] []) (Sg : FnScope Ng [a] sg) (hNg : Ng[0]? = some a) (hva : Vis sg a)
    (hG : GivesN X Ng x sg g cdv bg a TT) (M : Mkr X G c P) (hkd : G.kd lpos.line lpos.col = true) (hr : Room (k + 2) X.A) (L : LamS X.env.scope sc) (hdef : defaultsOf prm X.env = ([], []))
    (hbind : ∀ (q : Str) (cl : List (Str × Addr)) (pm cv ctv : Value), bindArgs (PySem.W.kla_fn "<lambda>" q prm bd sc cl pm cv ctv) ⟨[], []⟩ = pure [])
    (hbody : ∀ (A : Around) (outer : List Env) (s : Shared) (H : Hp) (Ech : XK) (f c' P2 : Addr), Room k (A.deeper (lamEnv X sc s.heap.objs.size f c')) → PE (lamCx X A outer s H Ech sc f c') bd (t (c', P2, X.env.qual ++ "<lambda>" ++ ".<locals>.") Ech))
    (hdb : (x == ("__debug__" : Str)) = false := by decide) (hd : (a == ("__debug__" : Str)) = false := by decide) (hcd : (a == ("__classdict__" : Str)) = false := by decide) :
    PE X (.Call (.Name x p) [.Lambda prm bd sc lpos] [] pos) (tLamN G (X.env.qual ++ "<lambda>" ++ ".<locals>.") TT t) := by
  refine ⟨fun pins s σ H Q I ⟨hT, h⟩ => wpAny_Call_Name_kw (ld_glob I hg hm ?_ hdb)⟩
  refine PySem.W.callWith_K (h₀ := X.base) I.ok.mod.kin hk ?_ (by rfl) (by rfl)
  show wpAny _ _ (spliced ((false, eval (.Lambda prm bd sc lpos) X.env) :: backTo pos (starEach [] X.env))) _ _ s
  refine Calls.spliced_cons (lam_make I M hT hkd hdef (L.has I.ok) fun f c' P2 pm' ctv H1 sA mA => ?_)
  refine Calls.spliced_nil ⟨mA.inv.kIn, ?_⟩
  refine wpAny_call (codeAny_mono (R := CR C8.CX0 X.stack X.prog X.w H1 sA Q C8.E0) ?_ fun r sB hq => ?_)
  · refine run_ofS (N := Ng) (ps := [a]) (us := [.ref f]) (vs := [.ref f]) lk hcg Sg hr mA.inv.env0 (hb sA [.ref f] mA.inv.kIn rfl) (.cons rfl .nil) rfl fun hrA => ?_
    obtain ⟨tA, htA, hqA⟩ := hG f (fun HY => HY c' = some (CodeN c' (X.env.qual ++ "<lambda>") P2)) sA H1 Q (fun Ech HY QY => t (c', P2, X.env.qual ++ "<lambda>" ++ ".<locals>.") Ech σ HY QY)
      (fun W pn xe Ech q1 q2 tk hW => act_pe (i := 0) mA.inv L mA.obj mA.new mA.nfr (hbind _ _ _ _ _) tk hW hrA (fun A outer s H hrB => hbody A outer s H Ech f c' P2 hrB) hNg hva hd hcd) mA.cod (h H1 c' P2 mA.ext mA.tab)
    exact ⟨tA, htA.nox, hqA⟩
  · cases r with
    | error e => exact (show False from hq).elim
    | ok fl =>
      cases fl with
      | ret u => exact mA.inv.after hq
      | next | brk | cont => exact False.elim hq
end
/-- x(lambda: body), x a def that tells -/
theorem de_told {G : Gm} {W : WX} {l : List (Nat × List Nat)} {x a : Str} {g c P : Addr} {k : Nat} {pg : Arguments} {bg : List Stmt} {sg : Scope} {dV kV doc pm cdv ct oc : Value} {an od : Option Addr} {osl : Array (Option Value)} {Ng : List Str}
    {params : Arguments} {body : Expr} {scope : Scope} {fb : LE → R D} {p lpos pos : Pos} (hm : X.mg x = some (.ref g)) (hk : PySem.W.keepIn X.K (.ref g) = true)
    (lk : X.K.lookup g = some ⟨oc, od, .func (PySem.W.fnOf x x pg bg sg dV kV doc pm an cdv ct), osl⟩) (hcg : PySem.W.codeIn X.K cdv x = true) (hb : L2.Binds X.K (PySem.W.fnOf x x pg bg sg dV kV doc pm an cdv ct) [a] []) (Sg : FnScope Ng [a] sg) (hNg : Ng[0]? = some a) (hva : Vis sg a)
    (hG : GivesN X Ng x sg g cdv bg a (TTm X.K (l.map fun p => (G.xcls p.1, (⟨p.2.toArray⟩ : Str)))))
    (hx : ExmOk X.K G (l.map (·.1))) (M : Mkr X G c P) (hr : Room (k + 2) X.A) (L : LamS X.env.scope scope)
    (hbody : ∀ (A : Around) (outer : List Env) (s : Shared) (H : Hp) (E : XK) (f c' P2 : Addr), Room k (A.deeper (lamEnv X scope s.heap.objs.size f c')) → Mkr (lamCx X A outer s H E scope f c') (G.sub (c', P2, X.env.qual ++ "<lambda>" ++ ".<locals>.")) c' P2 → DE (lamCx X A outer s H E scope f c') (G.sub (c', P2, X.env.qual ++ "<lambda>" ++ ".<locals>.")) (WD E) body fb)
    (hkd : G.kd lpos.line lpos.col = true := by rfl) (hg : Gl X x := by rfl) (hdef : defaultsOf params X.env = ([], []) := by rfl)
    (hbind : ∀ (q : Str) (cl : List (Str × Addr)) (pm cv ctv : Value), bindArgs (PySem.W.kla_fn "<lambda>" q params body scope cl pm cv ctv) ⟨[], []⟩ = pure [] := by intro _ _ _ _ _; rfl)
    (hdb : (x == ("__debug__" : Str)) = false := by decide) (hd : (a == ("__debug__" : Str)) = false := by decide) (hcd : (a == ("__classdict__" : Str)) = false := by decide) :
    DE X G W (.Call (.Name x p) [.Lambda params body scope lpos] [] pos) (fun r => toldD l (fb r)) := by
  refine PE_imp (pe_lamN (G := G) (t := fun y E => tD (G.sub y) (WD E) fb) hg hm hk lk hcg hb Sg hNg hva hG M hkd hr L hdef hbind (fun A outer s H E f c' P2 hr => hbody A outer s H E f c' P2 hr (mk_sub M rfl rfl rfl rfl)) hdb hd hcd) fun sg H Q ⟨dl, Z, O, r, A, q⟩ => ⟨A.gl.tab, fun H1 c' P2 e1 t1 => ?_⟩
  have g1 : Grow dl H H1 := Grow.ofExt e1
  have k1 := A.gl.ofExt e1 t1.drop
  refine ⟨dl, Z, O, r, (A.grow g1 k1).enter t1, (toldD_wp q).mono (fun d hd v H2 g2 k2 rp => hd v H2 (g1.trans g2) k2.drop (rep_sub.mp rp)) fun e ⟨s, hs, hq⟩ cls dx H2 g2 k2 xr => ?_⟩
  obtain ⟨rfl, _⟩ := xrep_sub.mp xr
  have hmem : e.cls ∈ l.map (·.1) := lookup_mem hs
  exact wSel_of _ hx hmem (fun j hj => hj) hs (hq _ H2 (g1.trans g2) k2.drop Rep.str_)
end
end DL
set_option Elab.async false
set_option linter.all false
set_option maxRecDepth 100000
namespace DL
open PySem L2 PySem.Spec PyProof.Rows
def RepPL (G : Gm) (dl : Addr) (H : Hp) (Z : List Addr) : List D → List V → Prop
  | [], vs => vs = []
  | d :: ds, vs => ∃ v r, vs = v :: r ∧ RepP G dl H Z d v ∧ RepPL G dl H Z ds r
theorem RepPL.grow {G : Gm} {dl : Addr} {Z : List Addr} {O : List (Nat × Addr)} {r : LE} {sg : L2.St} {H H' : Hp} (A : At G dl Z O r sg H) (g : Grow dl H H') : ∀ {ds : List D} {vs : List V}, RepPL G dl H Z ds vs → RepPL G dl H' Z ds vs
  | [], _, h => h
  | d :: ds, vs, ⟨v, r, e, h1, h2⟩ => ⟨v, r, e, h1.grow A g, RepPL.grow A g h2⟩
def tAp (G : Gm) (W : WX) (f : LE → R (List D)) : TA := fun sg H Q => ∃ dl Z O r, At G dl Z O r sg H ∧
  Wp (f r) (fun ds => ∀ vs H', Grow dl H H' → GlOk G dl H' → RepPL G dl H' Z ds vs → Q vs H')
    (fun e => ∀ cls dx H', Grow dl H H' → GlOk G dl H' → XRep G dl (cut H' Z) e cls dx H' → W cls dx sg H')
abbrev DAp (X : Cx) (G : Gm) (W : WX) (es : List Expr) (f : LE → R (List D)) : Prop := PA X es (tAp G W f)
/-- a call of a built-in by values -/
def CallD (X : Cx) (G : Gm) (fv : Value) (g : List D → R D) : Prop := ∃ rr : List V → Hp → VK → Prop, CallR X fv rr ∧
  ∀ (dl : Addr) (Z : List Addr) (O : List (Nat × Addr)) (r : LE) (sg : L2.St) (ds : List D) (vs : List V) (H : Hp) (Q : VK) (E : Exc → Prop), At G dl Z O r sg H → RepPL G dl H Z ds vs →
    Wp (g ds) (fun d => ∀ v H', Grow dl H H' → GlOk G dl H' → Rep G dl (cut H' Z) d v → Q v H') E → rr vs H Q
/-- .. that gives a new list -/
def CallF (X : Cx) (G : Gm) (fv : Value) (g : List D → R (List D)) : Prop := ∃ rr : List V → Hp → VK → Prop, CallR X fv rr ∧
  ∀ (dl : Addr) (Z : List Addr) (O : List (Nat × Addr)) (r : LE) (sg : L2.St) (ds : List D) (vs : List V) (H : Hp) (Q : VK) (E : Exc → Prop), At G dl Z O r sg H → RepPL G dl H Z ds vs →
    Wp (g ds) (fun ds => ∀ p vs H', Grow dl H H' → GlOk G dl H' → H' p = none → RepL G dl (cut H' Z) ds vs → Q (.ref p) (upd H' p (.lst vs))) E → rr vs H Q
section
variable {X : Cx} {G : Gm} {W : WX} {ex a b : Expr} {es : List Expr} {f : LE → R D} {fs : LE → R (List D)} {g : List D → R D} {gl : List D → R (List D)} {pos p : Pos} {x : Str} {id T : String}
theorem dap_nil : DAp X G W [] anil := PA_imp pa_nil fun sg H Q ⟨dl, Z, O, r, A, q⟩ => q [] H (.refl _ _) A.gl rfl
theorem dap_cons (ha : DP X G W a f) (hs : DAp X G W es fs) (hst : starEach (a :: es) X.env = (false, eval a X.env) :: starEach es X.env := by rfl) : DAp X G W (a :: es) (acons f fs) := PA_imp (pa_cons ha hs hst) fun sg H Q ⟨dl, Z, O, r, A, q⟩ => by
  refine ⟨dl, Z, O, r, A, q.bind.thn fun x hx v H1 g1 k1 rp => ?_⟩
  refine ⟨dl, Z, O, r, A.grow g1 k1, hx.bind.mono (fun xs hxs vs H2 g2 k2 rl => ?_) fun e => epost g1⟩
  exact hxs (v :: vs) H2 (g1.trans g2) k2 ⟨v, vs, rfl, rp.grow (A.grow g1 k1) g2, rl⟩
theorem de_callB (hc : CallD X G (.builtin id) g) (hm : X.mg x = none) (hv : bootBuiltins x = some (.builtin id)) (ha : DAp X G W (ex :: es) fs) (hg : Gl X x := by rfl) (hn : x ≠ "__name__" := by decide) (hdb : (x == ("__debug__" : Str)) = false := by decide)
    (he : starEach (ex :: es) X.env = (false, eval ex X.env) :: starEach es X.env := by rfl) (hpl : (backTo pos (starEach es X.env)).any (·.1) = false := by rfl) : DE X G W (.Call (.Name x p) (ex :: es) [] pos) (fun r => fs r >>= g) := by
  obtain ⟨rr, h1, h2⟩ := hc
  refine PE_imp (pe_callB h1 hg hm hv ha hn hdb he hpl) fun sg H Q ⟨dl, Z, O, r, A, q⟩ => ⟨dl, Z, O, r, A, q.bind.thn fun ds hd vs H1 g1 k1 rl => ?_⟩
  exact h2 dl Z O r sg ds vs H1 Q _ (A.grow g1 k1) rl (hd.thn fun d h v H' g' k' rp => h v H' (g1.trans g') k' rp)
theorem de_callT (hc : CallD X G (.type T) g) (hm : X.mg x = none) (hv : bootBuiltins x = some (.type T)) (ha : DAp X G W (ex :: es) fs) (hg : Gl X x := by rfl) (hn : x ≠ "__name__" := by decide) (hdb : (x == ("__debug__" : Str)) = false := by decide)
    (he : starEach (ex :: es) X.env = (false, eval ex X.env) :: starEach es X.env := by rfl) (hpl : (backTo pos (starEach es X.env)).any (·.1) = false := by rfl) : DE X G W (.Call (.Name x p) (ex :: es) [] pos) (fun r => fs r >>= g) := by
  obtain ⟨rr, h1, h2⟩ := hc
  refine PE_imp (pe_callTy h1 hg hm hv ha hn hdb he hpl) fun sg H Q ⟨dl, Z, O, r, A, q⟩ => ⟨dl, Z, O, r, A, q.bind.thn fun ds hd vs H1 g1 k1 rl => ?_⟩
  exact h2 dl Z O r sg ds vs H1 Q _ (A.grow g1 k1) rl (hd.thn fun d h v H' g' k' rp => h v H' (g1.trans g') k' rp)
theorem df_callT (hc : CallF X G (.type T) gl) (hm : X.mg x = none) (hv : bootBuiltins x = some (.type T)) (ha : DAp X G W (ex :: es) fs) (hg : Gl X x := by rfl) (hn : x ≠ "__name__" := by decide) (hdb : (x == ("__debug__" : Str)) = false := by decide)
    (he : starEach (ex :: es) X.env = (false, eval ex X.env) :: starEach es X.env := by rfl) (hpl : (backTo pos (starEach es X.env)).any (·.1) = false := by rfl) : DF X G W (.Call (.Name x p) (ex :: es) [] pos) (fun r => fs r >>= gl) := by
  obtain ⟨rr, h1, h2⟩ := hc
  refine PE_imp (pe_callTy h1 hg hm hv ha hn hdb he hpl) fun sg H Q ⟨dl, Z, O, r, A, q⟩ => ⟨dl, Z, O, r, A, q.bind.thn fun ds hd vs H1 g1 k1 rl => ?_⟩
  exact h2 dl Z O r sg ds vs H1 Q _ (A.grow g1 k1) rl (hd.thn fun d h p vs H' g' k' hp rl => h p vs H' (g1.trans g') k' hp rl)
def lenD : List D → R D
  | [.str s] => if s.length ≤ 16777216 then .ok (.int s.length) else .stuck
  | [.lst xs] => .ok (.int xs.length)
  | [.tup xs] => .ok (.int xs.length)
  | _ => .stuck
def tupleD : List D → R D
  | [.lst xs] => .ok (.tup xs)
  | [.tup xs] => .ok (.tup xs)
  | _ => .stuck
theorem RepPL.one {dl : Addr} {H : Hp} {Z : List Addr} {d : D} {vs : List V} (h : RepPL G dl H Z [d] vs) : ∃ v, vs = [v] ∧ RepP G dl H Z d v := by
  obtain ⟨v, r, rfl, h1, h2⟩ := h
  cases (show r = [] from h2)
  exact ⟨v, rfl, h1⟩
theorem RepPL.two {dl : Addr} {H : Hp} {Z : List Addr} {d e : D} {vs : List V} (h : RepPL G dl H Z [d, e] vs) : ∃ v u, vs = [v, u] ∧ RepP G dl H Z d v ∧ RepP G dl H Z e u := by
  obtain ⟨v, r, rfl, h1, h2⟩ := h
  obtain ⟨u, rfl, h3⟩ := RepPL.one h2
  exact ⟨v, u, rfl, h1, h3⟩
theorem cd_len (hG : G.K = X.K) : CallD X G (.builtin "len") lenD := by
  refine ⟨_, call_len, fun dl Z O r sg ds vs H Q E A rl h => ?_⟩
  unfold lenD at h
  split at h
  · split at h
    · rename_i s hs
      obtain ⟨v, rfl, rp⟩ := rl.one
      refine ⟨v, s.length, rfl, ?_, h _ H (.refl _ _) A.gl Rep.int_⟩
      rw [rp.str]
      exact ⟨by rw [sizeLine_eq]; simpa [Str.length] using hs, by simp [Str.length]⟩
    · exact h.elim
  · obtain ⟨v, rfl, rp⟩ := rl.one
    obtain ⟨a, us, rfl, e, rl'⟩ := rp.lst
    refine ⟨_, us.length, rfl, .inl ⟨us, SqL.of e, rfl⟩, ?_⟩
    rw [rl'.length]
    exact h _ H (.refl _ _) A.gl Rep.int_
  · obtain ⟨v, rfl, rp⟩ := rl.one
    obtain ⟨a, us, rfl, e, rl'⟩ := rp.tup
    refine ⟨_, us.length, rfl, .inr ⟨us, hG ▸ e, rfl⟩, ?_⟩
    rw [rl'.length]
    exact h _ H (.refl _ _) A.gl Rep.int_
  · exact h.elim
theorem cd_tuple (hG : G.K = X.K) : CallD X G (.type "tuple") tupleD := by
  refine ⟨_, call_tuple_of, fun dl Z O r sg ds vs H Q E A rl h => ?_⟩
  unfold tupleD at h
  split at h
  · obtain ⟨v, rfl, rp⟩ := rl.one
    obtain ⟨a, us, rfl, e, rl'⟩ := rp.lst
    exact ⟨a, us, rfl, .inl ⟨SqL.of e, fun l hl => h _ _ (.new hl) (A.gl.new hl) (Rep.tup_new A hl rl')⟩⟩
  · obtain ⟨v, rfl, rp⟩ := rl.one
    obtain ⟨a, us, rfl, e, rl'⟩ := rp.tup
    rcases rp with rp | ⟨_, _, _, _, rp⟩
    · exact ⟨a, us, rfl, .inr ⟨hG ▸ e, h _ _ (.refl _ _) A.gl rp⟩⟩
    · exact rp.elim
  · exact h.elim
def D.ltb (x y : D) : Bool := PySem.W.dataLt x.toP y.toP
def D.ali (x y : D) : Bool := PySem.W.alike x.toP y.toP
/-- all can be compared with one another -/
def alis (ds : List D) : Bool := ds.all fun x => x.sh 50 && (match x with | .non => false | _ => true) && ds.all fun y => x.ali y
def least (d : D) (ds : List D) : D := ds.foldl (fun a y => if y.ltb a then y else a) d
def most (d : D) (ds : List D) : D := ds.foldl (fun a y => if a.ltb y then y else a) d
theorem ReadsAll_get {h : Heap} : ∀ {us : List Value} {ds : List PyData} {as : List Addr} {i : Nat} {u : Value}, ReadsAll h us ds as → us[i]? = some u → ∃ d bs, ds[i]? = some d ∧ Reads h u d bs
  | _, _, _, i, u, .nil, e => by simp at e
  | _, _, _, 0, u, .cons r rs, e => by
    have e := Option.some.inj (show some _ = some u from e)
    subst e
    exact ⟨_, _, rfl, r⟩
  | _, _, _, i + 1, u, .cons r rs, e => by
    obtain ⟨d, bs, h1, h2⟩ := ReadsAll_get rs (i := i) (by simpa using e)
    exact ⟨d, bs, by simpa using h1, h2⟩
theorem Vals_back {xs : List V} {us : List Value} {i : Nat} {u : Value} (r : Vals xs us) (e : us[i]? = some u) : ∃ x, xs[i]? = some x ∧ RelV x u := by
  have hl := r.length
  obtain ⟨h1, h2⟩ := List.getElem?_eq_some_iff.mp e
  have hx : xs[i]? = some (xs[i]'(by omega)) := by simp
  obtain ⟨u', h3, h4⟩ := r.get hx
  rw [e] at h3
  cases h3
  exact ⟨_, hx, h4⟩
theorem minD_mem (x : PyData) (xs : List PyData) : PySem.W.minD x xs ∈ x :: xs := by
  unfold PySem.W.minD
  have : ∀ (ys : List PyData) (a : PyData), ys.foldl (fun a y => if PySem.W.dataLt y a then y else a) a = a ∨ ys.foldl (fun a y => if PySem.W.dataLt y a then y else a) a ∈ ys := by
    intro ys
    induction ys with
    | nil => intro a; exact .inl rfl
    | cons y ys ih =>
      intro a
      rw [List.foldl_cons]
      rcases ih (if PySem.W.dataLt y a then y else a) with e | e
      · rw [e]
        split
        · exact .inr List.mem_cons_self
        · exact .inl rfl
      · exact .inr (List.mem_cons_of_mem _ e)
  rcases this xs x with e | e
  · rw [e]; exact List.mem_cons_self
  · exact List.mem_cons_of_mem _ e
theorem maxD_mem (x : PyData) (xs : List PyData) : PySem.W.maxD x xs ∈ x :: xs := by
  unfold PySem.W.maxD
  have : ∀ (ys : List PyData) (a : PyData), ys.foldl (fun a y => if PySem.W.dataLt a y then y else a) a = a ∨ ys.foldl (fun a y => if PySem.W.dataLt a y then y else a) a ∈ ys := by
    intro ys
    induction ys with
    | nil => intro a; exact .inl rfl
    | cons y ys ih =>
      intro a
      rw [List.foldl_cons]
      rcases ih (if PySem.W.dataLt a y then y else a) with e | e
      · rw [e]
        split
        · exact .inr List.mem_cons_self
        · exact .inl rfl
      · exact .inr (List.mem_cons_of_mem _ e)
  rcases this xs x with e | e
  · rw [e]; exact List.mem_cons_self
  · exact List.mem_cons_of_mem _ e
/-- a list or a tuple of data, one item of which comes back -/
def rPick (K : PySem.W.Frag) (pk : PyData → List PyData → PyData) : List V → Hp → VK → Prop := fun vs H Q => ∃ (a : Addr) (us : List V) (x : PyData) (xs : List PyData), vs = [.ref a] ∧ (SqL K H a us ∨ SqT K H a us) ∧ DpAll K H us (x :: xs) ∧ PySem.W.AlikeAll (x :: xs) ∧
  PyData.depthAll (x :: xs) ≤ 64 ∧ ∀ (i : Nat) v, us[i]? = some v → (x :: xs)[i]? = some (pk x xs) → Q v H
theorem pick_core {pins : List (Addr × Obj)} {s : Shared} {sg : L2.St} {H : Hp} {Q : VK} {us : List V} {x pd : PyData} {xs : List PyData} {its : List Value} {as : List Addr} (I : Inv X pins sg H s) (rv : Vals us its) (hr : ReadsAll s.heap its (x :: xs) as) (ha : PySem.W.AlikeAll (x :: xs)) (hmem : pd ∈ x :: xs)
    (q : ∀ (i : Nat) v, us[i]? = some v → (x :: xs)[i]? = some pd → Q v H) (i : Nat) (u : Value) (h' : Heap) (tk : Nat) (bs : List Addr) (hi : its.toArray[i]? = some u) (hr' : Reads h' u pd bs) (hk : ∀ b o, s.heap.get? b = some o → h'.get? b = some o) : EP X pins sg Q u { s with heap := h', toks := tk } := by
  have hi' : its[i]? = some u := by simpa using hi
  obtain ⟨v, hv, rvu⟩ := Vals_back rv hi'
  obtain ⟨d, cs, hd, hrd⟩ := ReadsAll_get hr hi'
  have hdm : d ∈ x :: xs := List.mem_of_getElem? hd
  have e : d = pd := PySem.W.alike_unique d _ u _ _ (ha.1 d hdm _ hmem) (PySem.W.reads_keeps hk hrd) hr'
  subst e
  exact ⟨v, H, I.kept hk, rvu, q i v hv hd⟩
theorem cr_minP (hc : X.calm = true) (hu : X.A.units + 70 < cLine) : CallR X (.builtin "min") (rPick X.K PySem.W.minD) := by
  intro pins s sg H vs us0 Q I r ⟨a, us, x, xs, ev, hsq, hdp, ha, hdep, q⟩
  subst ev
  rw [Vals.ref1 r]
  rcases hsq with h | h
  · obtain ⟨its, rv, pl, _⟩ := I.list h
    obtain ⟨as, hr⟩ := Dp.readsAll I (x :: xs) us its hdp rv
    exact PySem.W.min_list_data (I.ok.hd hc) pl.isList hr ha (by omega) (pick_core I rv hr ha (minD_mem x xs) q)
  · obtain ⟨its, rv, pl, _⟩ := I.tuple h
    obtain ⟨as, hr⟩ := Dp.readsAll I (x :: xs) us its hdp rv
    exact PySem.W.min_tuple_data (I.ok.hd hc) pl hr ha (by omega) (pick_core I rv hr ha (minD_mem x xs) q)
theorem cr_maxP (hc : X.calm = true) (hu : X.A.units + 70 < cLine) : CallR X (.builtin "max") (rPick X.K PySem.W.maxD) := by
  intro pins s sg H vs us0 Q I r ⟨a, us, x, xs, ev, hsq, hdp, ha, hdep, q⟩
  subst ev
  rw [Vals.ref1 r]
  rcases hsq with h | h
  · obtain ⟨its, rv, pl, _⟩ := I.list h
    obtain ⟨as, hr⟩ := Dp.readsAll I (x :: xs) us its hdp rv
    exact PySem.W.max_list_data (I.ok.hd hc) pl.isList hr ha (by omega) (pick_core I rv hr ha (maxD_mem x xs) q)
  · obtain ⟨its, rv, pl, _⟩ := I.tuple h
    obtain ⟨as, hr⟩ := Dp.readsAll I (x :: xs) us its hdp rv
    exact PySem.W.max_tuple_data (I.ok.hd hc) pl hr ha (by omega) (pick_core I rv hr ha (maxD_mem x xs) q)
mutual
theorem toP_inj : ∀ (x y : D) (n m : Nat), x.sh n = true → y.sh m = true → x.toP = y.toP → x = y
  | .non, y, n, m, hx, hy, e => by cases y <;> simp_all [D.toP, D.sh]
  | .bl b, y, n, m, hx, hy, e => by cases y <;> simp_all [D.toP, D.sh]
  | .int i, y, n, m, hx, hy, e => by cases y <;> simp_all [D.toP, D.sh]
  | .str s, y, n, m, hx, hy, e => by cases y <;> simp_all [D.toP, D.sh]
  | .lst xs, y, n, m, hx, hy, e => by
    cases y <;> first | (simp [D.toP] at e; done) | skip
    rename_i ys
    cases n <;> first | (simp [D.sh] at hx; done) | skip
    cases m <;> first | (simp [D.sh] at hy; done) | skip
    simp only [D.sh] at hx hy
    simp only [D.toP, PyData.list.injEq] at e
    rw [toPs_inj xs ys _ _ hx hy e]
  | .tup xs, y, n, m, hx, hy, e => by
    cases y <;> first | (simp [D.toP] at e; done) | skip
    rename_i ys
    cases n <;> first | (simp [D.sh] at hx; done) | skip
    cases m <;> first | (simp [D.sh] at hy; done) | skip
    simp only [D.sh] at hx hy
    simp only [D.toP, PyData.tuple.injEq] at e
    rw [toPs_inj xs ys _ _ hx hy e]
  | .dic _, y, n, m, hx, hy, e => by simp [D.sh] at hx
  | .cdic _, y, n, m, hx, hy, e => by simp [D.sh] at hx
  | .ins _ _, y, n, m, hx, hy, e => by simp [D.sh] at hx
  | .dice, y, n, m, hx, hy, e => by simp [D.sh] at hx
  | .fn _, y, n, m, hx, hy, e => by simp [D.sh] at hx
theorem toPs_inj : ∀ (xs ys : List D) (n m : Nat), D.shs xs n = true → D.shs ys m = true → D.toPs xs = D.toPs ys → xs = ys
  | [], [], n, m, hx, hy, e => rfl
  | [], y :: ys, n, m, hx, hy, e => by simp [D.toPs] at e
  | x :: xs, [], n, m, hx, hy, e => by simp [D.toPs] at e
  | x :: xs, y :: ys, n, m, hx, hy, e => by
    simp only [D.shs, Bool.and_eq_true] at hx hy
    simp only [D.toPs, List.cons.injEq] at e
    rw [toP_inj x y n m hx.1 hy.1 e.1, toPs_inj xs ys n m hx.2 hy.2 e.2]
end
theorem toPs_map (ds : List D) : D.toPs ds = ds.map D.toP := by
  induction ds with
  | nil => rfl
  | cons d ds ih => simp only [D.toPs, List.map_cons, ih]
theorem shs_of {ds : List D} {n : Nat} (h : ∀ d ∈ ds, d.sh n = true) : D.shs ds n = true := by
  induction ds with
  | nil => rfl
  | cons d ds ih =>
    simp only [D.shs, h d List.mem_cons_self, Bool.true_and]
    exact ih fun e he => h e (List.mem_cons_of_mem _ he)
theorem alis_sh {ds : List D} (h : alis ds = true) : ∀ d ∈ ds, d.sh 50 = true := fun d hd => by
  have := List.all_eq_true.mp h d hd
  simp only [Bool.and_eq_true] at this
  exact this.1.1
theorem alis_alike {ds : List D} (h : alis ds = true) : PySem.W.AlikeAll (D.toPs ds) := by
  rw [toPs_map]
  refine ⟨fun x hx y hy => ?_, fun x hx => ?_⟩
  · obtain ⟨d, hd, rfl⟩ := List.mem_map.mp hx
    obtain ⟨e, he, rfl⟩ := List.mem_map.mp hy
    have := List.all_eq_true.mp h d hd
    simp only [Bool.and_eq_true, List.all_eq_true] at this
    exact this.2 e he
  · obtain ⟨d, hd, rfl⟩ := List.mem_map.mp hx
    have := List.all_eq_true.mp h d hd
    simp only [Bool.and_eq_true] at this
    intro e
    cases d <;> simp_all [D.toP, D.sh]
theorem least_toP (d : D) (ds : List D) : (least d ds).toP = PySem.W.minD d.toP (D.toPs ds) := by
  unfold least PySem.W.minD
  rw [toPs_map, List.foldl_map]
  induction ds generalizing d with
  | nil => rfl
  | cons e ds ih =>
    rw [List.foldl_cons, List.foldl_cons, ih]
    congr 1
    show (if e.ltb d then e else d).toP = if PySem.W.dataLt e.toP d.toP then e.toP else d.toP
    unfold D.ltb
    split <;> rfl
theorem most_toP (d : D) (ds : List D) : (most d ds).toP = PySem.W.maxD d.toP (D.toPs ds) := by
  unfold most PySem.W.maxD
  rw [toPs_map, List.foldl_map]
  induction ds generalizing d with
  | nil => rfl
  | cons e ds ih =>
    rw [List.foldl_cons, List.foldl_cons, ih]
    congr 1
    show (if d.ltb e then e else d).toP = if PySem.W.dataLt d.toP e.toP then e.toP else d.toP
    unfold D.ltb
    split <;> rfl
theorem fold_mem {pk : D → D → D} (hp : ∀ a b, pk a b = a ∨ pk a b = b) : ∀ (ds : List D) (d : D), ds.foldl pk d ∈ d :: ds
  | [], d => List.mem_cons_self
  | e :: ds, d => by
    rw [List.foldl_cons]
    rcases hp d e with q | q
    · rw [q]
      rcases List.mem_cons.mp (fold_mem hp ds d) with z | z
      · rw [z]; exact List.mem_cons_self
      · exact List.mem_cons_of_mem _ (List.mem_cons_of_mem _ z)
    · rw [q]
      exact List.mem_cons_of_mem _ (fold_mem hp ds e)
theorem least_mem (d : D) (ds : List D) : least d ds ∈ d :: ds := fold_mem (fun a b => by split <;> simp) ds d
theorem most_mem (d : D) (ds : List D) : most d ds ∈ d :: ds := fold_mem (fun a b => by split <;> simp) ds d
def minL : List D → R D
  | [.int i, .int j] => .ok (.int (if j < i then j else i))
  | [.lst (d :: ds)] => if alis (d :: ds) then .ok (least d ds) else .stuck
  | [.tup (d :: ds)] => if alis (d :: ds) then .ok (least d ds) else .stuck
  | _ => .stuck
def maxL : List D → R D
  | [.int i, .int j] => .ok (.int (if j > i then j else i))
  | [.lst (d :: ds)] => if alis (d :: ds) then .ok (most d ds) else .stuck
  | [.tup (d :: ds)] => if alis (d :: ds) then .ok (most d ds) else .stuck
  | _ => .stuck
theorem CallR.or {f : Value} {r1 r2 : List V → Hp → VK → Prop} (h1 : CallR X f r1) (h2 : CallR X f r2) : CallR X f (fun vs H Q => r1 vs H Q ∨ r2 vs H Q) := fun pins s sg H xs us Q I r h => by
  rcases h with h | h
  · exact h1 pins s sg H xs us Q I r h
  · exact h2 pins s sg H xs us Q I r h
theorem pick_of {pk : D → List D → D} {pp : PyData → List PyData → PyData} (htp : ∀ d ds, (pk d ds).toP = pp d.toP (D.toPs ds)) (hmem : ∀ d ds, pk d ds ∈ d :: ds) {dl : Addr} {Z : List Addr} {O : List (Nat × Addr)} {r : LE} {sg : L2.St} {H : Hp} {Q : VK} (hG : G.K = X.K) (A : At G dl Z O r sg H) {d : D} {ds : List D} {us : List V} {a : Addr}
    (hsq : SqL X.K H a us ∨ SqT X.K H a us) (rl : RepL G dl (cut H Z) (d :: ds) us) (hal : alis (d :: ds) = true) (h : ∀ v H', Grow dl H H' → GlOk G dl H' → Rep G dl (cut H' Z) (pk d ds) v → Q v H') : rPick X.K pp [.ref a] H Q := by
  have hs := alis_sh hal
  have hss := shs_of hs
  refine ⟨a, us, d.toP, D.toPs ds, rfl, hsq, ?_, ?_, ?_, fun i v hv hi => ?_⟩
  · have := RepL.dp (cut_grow H Z) (d :: ds) 50 hss rl
    rw [hG] at this
    exact this
  · exact alis_alike hal
  · exact Nat.le_trans (shs_lay (d :: ds) 50 hss).2 (by decide)
  · obtain ⟨e, he, rp⟩ := RepL.get (d :: ds) us i v rl hv
    have h1 : (D.toPs (d :: ds))[i]? = some (pp d.toP (D.toPs ds)) := hi
    rw [toPs_map, List.getElem?_map, he] at h1
    have h2 : e.toP = (pk d ds).toP := by rw [htp]; exact Option.some.inj h1
    have h3 := toP_inj e _ 50 50 (hs e (List.mem_of_getElem? he)) (hs _ (hmem d ds)) h2
    rw [← h3] at h
    exact h v H (.refl _ _) A.gl rp
theorem cd_min (hG : G.K = X.K) (hc : X.calm = true) (hu : X.A.units + 70 < cLine) : CallD X G (.builtin "min") minL := by
  refine ⟨_, CallR.or (call_min2 hc) (cr_minP hc hu), fun dl Z O r sg ds vs H Q E A rl h => ?_⟩
  unfold minL at h
  split at h
  · obtain ⟨v, u, rfl, r1, r2⟩ := rl.two
    exact .inl ⟨_, _, by rw [r1.int, r2.int], h _ H (.refl _ _) A.gl Rep.int_⟩
  · split at h
    · rename_i d ds hal
      obtain ⟨v, rfl, rp⟩ := rl.one
      obtain ⟨a, us, rfl, e, rl'⟩ := rp.lst
      exact .inr (pick_of least_toP least_mem hG A (.inl (SqL.of e)) rl' hal h)
    · exact h.elim
  · split at h
    · rename_i d ds hal
      obtain ⟨v, rfl, rp⟩ := rl.one
      obtain ⟨a, us, rfl, e, rl'⟩ := rp.tup
      exact .inr (pick_of least_toP least_mem hG A (.inr (hG ▸ e)) rl' hal h)
    · exact h.elim
  · exact h.elim
theorem cd_max (hG : G.K = X.K) (hc : X.calm = true) (hu : X.A.units + 70 < cLine) : CallD X G (.builtin "max") maxL := by
  refine ⟨_, CallR.or (call_max2 hc) (cr_maxP hc hu), fun dl Z O r sg ds vs H Q E A rl h => ?_⟩
  unfold maxL at h
  split at h
  · obtain ⟨v, u, rfl, r1, r2⟩ := rl.two
    exact .inl ⟨_, _, by rw [r1.int, r2.int], h _ H (.refl _ _) A.gl Rep.int_⟩
  · split at h
    · rename_i d ds hal
      obtain ⟨v, rfl, rp⟩ := rl.one
      obtain ⟨a, us, rfl, e, rl'⟩ := rp.lst
      exact .inr (pick_of most_toP most_mem hG A (.inl (SqL.of e)) rl' hal h)
    · exact h.elim
  · split at h
    · rename_i d ds hal
      obtain ⟨v, rfl, rp⟩ := rl.one
      obtain ⟨a, us, rfl, e, rl'⟩ := rp.tup
      exact .inr (pick_of most_toP most_mem hG A (.inr (hG ▸ e)) rl' hal h)
    · exact h.elim
  · exact h.elim
end
end DL
set_option Elab.async false
set_option linter.all false
set_option maxRecDepth 100000
namespace DL
open PySem L2 PySem.Spec PyProof.Rows
def D.key1 : D → Bool
  | .int _ => true
  | .str _ => true
  | _ => false
def D.keq : D → D → Bool
  | .int i, .int j => i == j
  | .str s, .str t => s == t
  | _, _ => false
theorem keq_key {a b : D} {x y : Key} (h1 : a.key = some x) (h2 : b.key = some y) : a.keq b = decide (x = y) := by
  cases a <;> simp [D.key] at h1 <;> subst h1 <;> cases b <;> simp [D.key] at h2 <;> subst h2 <;> rw [Bool.eq_iff_iff] <;> simp [D.keq]
def getD (kvs : List (D × D)) (k : D) : Option D := (kvs.find? fun p => p.1.keq k).map (·.2)
def putD (kvs : List (D × D)) (k d : D) : List (D × D) := if (kvs.any fun p => p.1.keq k) = true then kvs.map (fun p => if p.1.keq k then (p.1, d) else p) else kvs ++ [(k, d)]
/-- x in y -/
def inB (x : D) : D → R Bool
  | .lst ys => if x.sh 62 && D.shs ys 62 then .ok (ys.any fun z => z.eqb x) else .stuck
  | .tup ys => if x.sh 62 && D.shs ys 62 then .ok (ys.any fun z => z.eqb x) else .stuck
  | .str t => match x with
    | .str [c] => .ok (decide (c ∈ t))
    | _ => .stuck
  | .dic kvs => if x.key1 then .ok ((getD kvs x).isSome) else .stuck
  | _ => .stuck
def notInD (x y : D) : R D := inB x y >>= fun b => .ok (.bl (!b))
theorem toPs_any {x : D} {n : Nat} (hx : x.sh n = true) : ∀ {ys : List D} {m : Nat}, D.shs ys m = true → ((D.toPs ys).any fun z => PyData.eqv z x.toP) = ys.any fun z => z.eqb x
  | [], m, h => rfl
  | y :: ys, m, h => by
    simp only [D.shs, Bool.and_eq_true] at h
    simp only [D.toPs, List.any_cons, toPs_any hx h.2, eqb_eqv y x m n h.1 hx]
mutual
theorem sh_mono : ∀ (d : D) (n m : Nat), n ≤ m → d.sh n = true → d.sh m = true
  | .non, _, _, _, _ => rfl
  | .bl _, _, _, _, _ => rfl
  | .int _, _, _, _, _ => rfl
  | .str s, n, m, _, h => by simpa [D.sh] using h
  | .lst xs, n, m, h1, h2 => by
    cases n <;> first | (simp [D.sh] at h2; done) | skip
    cases m <;> first | omega | skip
    simp only [D.sh] at h2 ⊢
    exact shs_mono xs _ _ (by omega) h2
  | .tup xs, n, m, h1, h2 => by
    cases n <;> first | (simp [D.sh] at h2; done) | skip
    cases m <;> first | omega | skip
    simp only [D.sh] at h2 ⊢
    exact shs_mono xs _ _ (by omega) h2
  | .dic _, n, m, _, h => by simp [D.sh] at h
  | .cdic _, n, m, _, h => by simp [D.sh] at h
  | .ins _ _, n, m, _, h => by simp [D.sh] at h
  | .dice, n, m, _, h => by simp [D.sh] at h
  | .fn _, n, m, _, h => by simp [D.sh] at h
theorem shs_mono : ∀ (ds : List D) (n m : Nat), n ≤ m → D.shs ds n = true → D.shs ds m = true
  | [], _, _, _, _ => rfl
  | d :: ds, n, m, h1, h2 => by
    simp only [D.shs, Bool.and_eq_true] at h2 ⊢
    exact ⟨sh_mono d n m h1 h2.1, shs_mono ds n m h1 h2.2⟩
end
section
variable {X : Cx} {G : Gm} {W : WX}
/-- x in a tuple of data -/
def rInTD (K : PySem.W.Frag) (neg : Bool) : R2 := fun x y H Q => ∃ d ds, Dp K H x d ∧ Dp K H y (.tuple ds) ∧ SeqAt.shaped d = true ∧ SeqAt.shaped (.tuple ds) = true ∧ Q (.bl (if neg then !ds.any fun z => PyData.eqv z d else ds.any fun z => PyData.eqv z d)) H
theorem room_tup {A : Around} {ds : List PyData} {d : PyData} (sd : SeqAt.shaped d = true) (hu : A.units + 66 < cLine) : A.units + 1 + min (PyData.depthAll ds) d.depth < cLine := by
  have := SeqAt.depth_of_shaped sd
  omega
theorem op_notInTD (hu : X.A.units + 66 < cLine) : OpR X (compareOp .NotIn) (rInTD X.K true) := by
  intro pins s sg H x y v u Q I rx ry ⟨d, ds, hd, he, sd, se, q⟩
  obtain ⟨as, r1⟩ := Dp.reads I d x v hd rx
  obtain ⟨bs, r2⟩ := Dp.reads I (.tuple ds) y u he ry
  exact SeqAt.notIn_tuple_reads r2 r1 (SeqAt.canLay_of_shaped se) (SeqAt.canLay_of_shaped sd) (room_tup sd hu) ⟨.bl _, H, I, rfl, q⟩
def rInDc (neg : Bool) : R2 := fun x y H Q => ∃ a o, y = .ref a ∧ DGet H a x o ∧ Q (.bl (if neg then !o.isSome else o.isSome)) H
theorem op_notInDc (hu : X.A.units + 66 < cLine) : OpR X (compareOp .NotIn) (rInDc true) := by
  intro pins s sg H x y v u Q I rx ry ⟨a, o, ey, g, q⟩
  subst ey
  obtain rfl : u = Value.ref a := ry
  exact d_notIn (by omega) I g rx fun s3 I3 => ⟨.bl (!o.isSome), H, I3, rfl, q⟩
theorem key_kV {d : D} {x : Key} {dl : Addr} {H : Hp} {Z : List Addr} {v : V} (h : d.key = some x) (rp : RepP G dl H Z d v) : v = kV x := by
  cases d <;> simp [D.key] at h <;> subst h
  · rw [rp.int]; rfl
  · rw [rp.str]; rfl
theorem key1_key {d : D} (h : d.key1 = true) : ∃ x, d.key = some x := by
  cases d <;> simp [D.key1] at h
  · exact ⟨_, rfl⟩
  · exact ⟨_, rfl⟩
theorem RepP.dic {dl : Addr} {H : Hp} {Z : List Addr} {v : V} {kvs : List (D × D)} (h : RepP G dl H Z (.dic kvs) v) : ∃ a kv, v = .ref a ∧ Rd H a (.dK kv) ∧ RepK G dl (cut H Z) kvs kv := by
  rcases h with h | ⟨a, e, hz, hd, q⟩
  · unfold Rep at h
    obtain ⟨a, o, kv, e, q, rl⟩ := h
    exact ⟨a, kv, e, .inr ⟨o, cut_grow H Z a _ q fun ps z => by cases z⟩, rl⟩
  · obtain ⟨kv, e2, rl⟩ := q
    exact ⟨a, kv, e, .inl e2, rl⟩
theorem getD_of {dl : Addr} {S : Hp} {k : D} {x : Key} (hk : k.key = some x) : ∀ {kvs : List (D × D)} {kv : List (Key × V)}, RepK G dl S kvs kv → (getD kvs k = none ∧ valV kv x = none) ∨ ∃ d v, getD kvs k = some d ∧ valV kv x = some v ∧ Rep G dl S d v
  | [], kv, h => by
    unfold RepK at h
    subst h
    exact .inl ⟨rfl, rfl⟩
  | (k', d) :: kvs, kv, h => by
    unfold RepK at h
    obtain ⟨y, v, r, rfl, hk', rp, h2⟩ := h
    have e := keq_key hk' hk
    by_cases q : y = x
    · refine .inr ⟨d, v, ?_, valV_pos q, rp⟩
      unfold getD
      rw [List.find?_cons, show k'.keq k = true by rw [e]; exact decide_eq_true q]
      rfl
    · have e2 : k'.keq k = false := by rw [e]; exact decide_eq_false q
      have h3 : getD ((k', d) :: kvs) k = getD kvs k := by
        unfold getD
        rw [List.find?_cons, e2]
      rw [h3, valV_neg q]
      exact getD_of hk h2
theorem in_core {neg : Bool} {rr : R2} (hG : G.K = X.K)
    (hL : ∀ {x y : V} {H : Hp} {Q : VK} {d : PyData} {ds : List PyData}, Dp X.K H x d → Dp X.K H y (.list ds) → SeqAt.shaped d = true → SeqAt.shaped (.list ds) = true → Q (.bl (if neg then !ds.any fun z => PyData.eqv z d else ds.any fun z => PyData.eqv z d)) H → rr x y H Q)
    (hT : ∀ {x y : V} {H : Hp} {Q : VK}, rInTD X.K neg x y H Q → rr x y H Q) (hS : ∀ {c : Nat} {z : Str} {H : Hp} {Q : VK}, Q (.bl (if neg then !decide (c ∈ z.cps.toList) else decide (c ∈ z.cps.toList))) H → rr (.str ⟨#[c]⟩) (.str z) H Q) (hD : ∀ {x y : V} {H : Hp} {Q : VK}, rInDc neg x y H Q → rr x y H Q)
    (dl : Addr) (Z : List Addr) (O : List (Nat × Addr)) (r : LE) (sg : L2.St) (x y : D) (vx vy : V) (H : Hp) (Q : VK) (E : Exc → Prop) (A : At G dl Z O r sg H) (hx : RepP G dl H Z x vx) (hy : RepP G dl H Z y vy)
    (h : Wp (inB x y >>= fun b => R.ok (D.bl (if neg then !b else b))) (fun d => ∀ v H', Grow dl H H' → GlOk G dl H' → Rep G dl (cut H' Z) d v → Q v H') E) : rr vx vy H Q := by
  unfold inB at h
  split at h
  · split at h
    · rename_i ys hc
      rw [Bool.and_eq_true] at hc
      have e := toPs_any hc.1 hc.2
      refine hL (d := x.toP) (ds := D.toPs ys) (hG ▸ hx.dp hc.1) (hG ▸ (RepP.dp (n := 63) (by simpa [D.sh] using hc.2) hy)) (sh_shaped (sh_mono _ _ _ (by decide) hc.1)) (sh_shaped (d := .lst ys) (by simpa [D.sh] using shs_mono _ _ 63 (by decide) hc.2)) ?_
      rw [e]
      exact h _ H (.refl _ _) A.gl Rep.bl_
    · exact h.elim
  · split at h
    · rename_i ys hc
      rw [Bool.and_eq_true] at hc
      have e := toPs_any hc.1 hc.2
      refine hT ⟨x.toP, D.toPs ys, hG ▸ hx.dp hc.1, hG ▸ (RepP.dp (n := 63) (by simpa [D.sh] using hc.2) hy), sh_shaped (sh_mono _ _ _ (by decide) hc.1), sh_shaped (d := .tup ys) (by simpa [D.sh] using shs_mono _ _ 63 (by decide) hc.2), ?_⟩
      rw [e]
      exact h _ H (.refl _ _) A.gl Rep.bl_
    · exact h.elim
  · split at h
    · rename_i t _ c
      rw [hx.str, hy.str]
      refine hS ?_
      have := h (.bl (if neg then !decide (c ∈ t) else decide (c ∈ t))) H (.refl _ _) A.gl Rep.bl_
      simpa using this
    · exact h.elim
  · split at h
    · rename_i kvs hk1
      obtain ⟨k, hk⟩ := key1_key hk1
      obtain ⟨a, kv, rfl, hrd, rk⟩ := hy.dic
      refine hD ⟨a, valV kv k, rfl, .inl ⟨kv, k, hrd, key_kV hk hx, rfl⟩, ?_⟩
      have hsome : (valV kv k).isSome = (getD kvs x).isSome := by
        rcases getD_of hk rk with ⟨e1, e2⟩ | ⟨d, v, e1, e2, _⟩ <;> simp [e1, e2]
      rw [hsome]
      exact h _ H (.refl _ _) A.gl Rep.bl_
    · exact h.elim
  · exact h.elim
theorem op_notin_d (hG : G.K = X.K) (hu : X.A.units + 70 < cLine) : OpD X G (compareOp .NotIn) notInD := by
  refine ⟨_, OpR.or (op_notInD (by omega)) (OpR.or (op_notInTD (by omega)) (OpR.or op_notIn_sign (op_notInDc (by omega)))), ?_⟩
  exact in_core (neg := true) hG (fun h1 h2 h3 h4 q => .inl ⟨_, _, h1, h2, h3, h4, q⟩) (fun h => .inr (.inl h)) (fun q => .inr (.inr (.inl ⟨_, _, rfl, rfl, q⟩))) (fun h => .inr (.inr (.inr h)))
end
end DL
set_option Elab.async false
set_option linter.all false
set_option maxRecDepth 100000
namespace DL
open PySem L2 PySem.Spec PyProof.Rows
def getC (kvs : List (List Nat × D)) (k : List Nat) : Option D := (kvs.find? fun p => p.1 == k).map (·.2)
def subI (x y : D) : R D := match x with
  | .dic kvs => if y.key1 then (match getD kvs y with
    | some d => .ok d
    | none => .stuck) else .stuck
  | .cdic kvs => match y with
    | .str s => match getC kvs s with
      | some d => .ok d
      | none => .stuck
    | _ => .stuck
  | x => ixD x y
section
variable {X : Cx} {G : Gm} {W : WX} {ex a b : Expr} {es : List Expr} {f g : LE → R D} {fs : LE → R (List D)} {pos p : Pos} {dl : Addr} {S H : Hp} {Z : List Addr}
def rIxDK : R2 := fun x y H Q => ∃ a v, x = .ref a ∧ DGet H a y (some v) ∧ Q v H
theorem ix_dict (hu : X.A.units + 1 < cLine) : IxR X rIxDK := by
  intro value slice pins s sg H x y v u Q I rx ry h hs
  obtain ⟨p, r, rfl, g, q⟩ := h
  obtain rfl : v = Value.ref p := rx
  exact tail_any (dict_typeIs I g) PySem.F.slot_dict_getitem.lookup (d_getItem hu I g ry fun w' s3 I3 rw' => ⟨r, H, I3, rw', q⟩) hs
theorem RepP.cdic {v : V} {kvs : List (List Nat × D)} (h : RepP G dl H Z (.cdic kvs) v) : ∃ a, v = .ref a ∧ RepC G dl (cut H Z) a kvs := by
  rcases h with h | ⟨a, e, hz, hd, q⟩
  · unfold Rep at h
    exact h
  · exact q.elim
theorem getC_of {a : Addr} {k : List Nat} {d : D} : ∀ {kvs : List (List Nat × D)}, RepC G dl S a kvs → getC kvs k = some d → ∃ v, KDct G.K G.w a ⟨k.toArray⟩ v ∧ Rep G dl S d v
  | [], h, e => by simp [getC] at e
  | (k', d') :: kvs, h, e => by
    unfold RepC at h
    unfold getC at e
    rw [List.find?_cons] at e
    by_cases q : k' = k
    · subst q
      simp at e
      subst e
      exact h.1
    · rw [show (k' == k) = false from beq_eq_false_iff_ne.mpr q] at e
      exact getC_of h.2 e
theorem de_sub (hG : G.K = X.K) (hw : G.w = X.w) (hu : X.A.units + 70 < cLine) (ha : DP X G W a f) (hb : DP X G W b g) (hs : PlainIx b) : DE X G W (.Subscript a b pos) (fun r => do let x ← f r; let y ← g r; subI x y) := by
  refine PE_imp (pe_ix (IxR.or (ix_dict (by omega)) (IxR.or ix_kdict ix_seq)) ha hb hs) fun sg H Q h => ?_
  refine op_core (fun dl Z O r sg x y vx vy H Q E A hx hy h => ?_) h
  cases x with
  | dic kvs =>
    unfold subI at h
    dsimp only at h
    split at h
    · rename_i hk1
      obtain ⟨kk, hk⟩ := key1_key hk1
      obtain ⟨a, kv, rfl, hrd, rk⟩ := hx.dic
      split at h
      · rename_i d hd
        rcases getD_of hk rk with ⟨e1, e2⟩ | ⟨d', v, e1, e2, rp⟩
        · rw [e1] at hd; cases hd
        · rw [e1] at hd
          cases hd
          exact .inl ⟨a, v, rfl, .inl ⟨kv, kk, hrd, key_kV hk hy, e2.symm⟩, h v H (.refl _ _) A.gl rp⟩
      · exact h.elim
    · exact h.elim
  | cdic kvs =>
    cases y <;> first | exact h.elim | skip
    rename_i s
    unfold subI at h
    dsimp only at h
    split at h
    · rename_i d hd
      obtain ⟨a, rfl, rc⟩ := hx.cdic
      obtain ⟨v, kd, rp⟩ := getC_of rc hd
      exact .inr (.inl ⟨a, ⟨s.toArray⟩, v, rfl, hy.str, hG ▸ hw ▸ kd, h v H (.refl _ _) A.gl rp⟩)
    · exact h.elim
  | lst xs =>
    cases y <;> first | exact h.elim | skip
    rename_i i
    unfold subI ixD at h
    dsimp only at h
    split at h
    · rename_i d hd
      obtain ⟨p, vs, rfl, h1, rl⟩ := hx.lst
      obtain ⟨v, h2, rp⟩ := atI_rep rl hd
      exact .inr (.inr (.inl ⟨p, vs, i, v, rfl, hy.int, SqL.of h1, h2, h v H (.refl _ _) A.gl rp⟩))
    · exact h.elim
  | tup xs =>
    cases y <;> first | exact h.elim | skip
    rename_i i
    unfold subI ixD at h
    dsimp only at h
    split at h
    · rename_i d hd
      obtain ⟨p, vs, rfl, h1, rl⟩ := hx.tup
      obtain ⟨v, h2, rp⟩ := atI_rep rl hd
      exact .inr (.inr (.inr (.inl ⟨p, vs, i, v, rfl, hy.int, hG ▸ h1, h2, h v H (.refl _ _) A.gl rp⟩)))
    · exact h.elim
  | str s =>
    cases y <;> first | exact h.elim | skip
    rename_i i
    unfold subI ixD at h
    dsimp only at h
    split at h
    · rename_i hz
      split at h
      · rename_i c hc
        refine .inr (.inr (.inr (.inr ⟨_, i, c, hx.str, hy.int, by rw [sizeLine_eq]; simpa [Str.length] using hz, hc, ?_⟩)))
        exact h _ H (.refl _ _) A.gl (Rep.str_ (x := [c]))
      · exact h.elim
    · exact h.elim
  | non => cases y <;> exact h.elim
  | bl b => cases y <;> exact h.elim
  | int b => cases y <;> exact h.elim
  | ins c b => cases y <;> exact h.elim
  | dice => cases y <;> exact h.elim
  | fn b => cases y <;> exact h.elim
  | ktup b => cases y <;> exact h.elim
  | ctup b => cases y <;> exact h.elim
  | tdic b => cases y <;> exact h.elim
def negD : D → R D
  | .int i => .ok (.int (-i))
  | _ => .stuck
theorem de_neg (ha : DP X G W a f) : DE X G W (.UnaryOp .USub a pos) (fun r => do let x ← f r; negD x) := by
  refine PE_imp (pe_un un_neg ha) fun sg H Q ⟨dl, Z, O, r, A, q⟩ => ?_
  refine ⟨dl, Z, O, r, A, q.bind.thn fun d hd v H1 g1 k1 rp => ?_⟩
  unfold negD at hd
  split at hd
  · rename_i i
    exact ⟨i, rp.int, hd _ H1 g1 k1 Rep.int_⟩
  · exact hd.elim
def isT (T : String) : D → R D
  | .str s => if T = "str" then .ok (.str s) else .stuck
  | .lst xs => if T = "list" then .ok (.lst xs) else .stuck
  | .dic xs => if T = "dict" then .ok (.dic xs) else .stuck
  | _ => .stuck
def TyW (K : PySem.W.Frag) (T : String) (x : V) (H : Hp) : Prop := tyV K T x H ∨ (T = "dict" ∧ ∃ p kvs, x = .ref p ∧ Rd H p (.dK kvs))
theorem tyW_is {pins : List (Addr × Obj)} {sg : L2.St} {H : Hp} {s : Shared} {T : String} {x : V} {v : Value} (I : Inv X pins sg H s) (r : RelV x v) (ty : TyW X.K T x H) :
    s.TypeIs v T ∧ ∀ a, v = .ref a → ∃ ob, s.heap.get? a = some ob ∧ ob.dict = none := by
  rcases ty with ty | ⟨rfl, p, kvs, rfl, hd⟩
  · exact tyV_is I r ty
  · cases r
    obtain ⟨_, _, vs, _, dd⟩ := dk_rd I.hok hd
    refine ⟨dd.typeIs, fun b q => ?_⟩
    cases q
    obtain ⟨ob, _, _, h1, h2, _⟩ := dd
    exact ⟨ob, h1, h2.2.1⟩
theorem isT_wp {T : String} {d : D} {Q : D → Prop} {E : Exc → Prop} (h : Wp (isT T d) Q E) : Q d ∧ ∀ (hG : G.K = X.K) {v : V}, RepP G dl H Z d v → TyW X.K T v H := by
  unfold isT at h
  split at h
  all_goals first | exact h.elim | skip
  all_goals split at h
  all_goals first | exact h.elim | skip
  all_goals rename_i e
  all_goals subst e
  all_goals refine ⟨h, fun hG v rp => ?_⟩
  · rw [rp.str]; exact .inl rfl
  · obtain ⟨a, vs, rfl, h1, _⟩ := rp.lst
    exact .inl (.inl ⟨rfl, vs, SqL.of h1⟩)
  · obtain ⟨a, kv, rfl, h1, _⟩ := rp.dic
    exact .inr ⟨rfl, a, kv, rfl, h1⟩
def tBMW (K : PySem.W.Frag) (T : String) (r : V → List V → Hp → VK → Prop) (to : TE) (t : TA) : TE := fun sg H Q => to sg H fun x H1 => TyW K T x H1 ∧ t sg H1 fun xs H2 => r x xs H2 Q
variable {o e : Expr} {to : TE} {t : TA} {name : Str} {apos cpos : Pos} {T id : String} {r : V → List V → Hp → VK → Prop}
theorem pe_bmw (pa : PlainAttrs T) (slot : PySem.Slot T name id) (hty : typeOf (.builtin id) = pure (.type "method_descriptor")) (hm : MtR X id r) (ho : PE X o to) (ha : PA X (e :: es) t)
    (hbase : attributeBase o name X.env (eval o X.env) = eval o X.env)
    (hfew : ((backTo cpos (starEach (e :: es) X.env)).all (fun x => !x.1) && (backToKw cpos (keywordEach [] X.env)).all (fun x => x.1.isSome)
      && decide ((e :: es).length + ([] : List Keyword).length + (if ([] : List Keyword).isEmpty then 0 else 1) < 30)) = true)
    (hline : (apos.endLine == cpos.line) = true) (hs : starEach (e :: es) X.env = (false, eval e X.env) :: starEach es X.env) (hplain : (backTo cpos (starEach es X.env)).any (·.1) = false) :
    PE X (.Call (.Attribute o name apos) (e :: es) [] cpos) (tBMW X.K T r to t) := by
  refine ⟨fun pins s sg H Q I h => ?_⟩
  refine wpAny_Call_method_late hbase hfew hline rfl (thn (ho.run pins s sg H _ I h) fun v s1 ⟨x, H1, I1, r1, ty, q1⟩ => ?_)
  obtain ⟨h1, h2⟩ := tyW_is I1 r1 ty
  refine ⟨T, id, pa, slot, hty, h1, h2, ?_⟩
  have hA := ha.run cpos pins s1 sg H1 _ I1 q1
  rw [hs] at hA ⊢
  refine Calls.callWith_builtin (by show (false || (backTo cpos (starEach es X.env)).any (·.1)) = false; rw [hplain] <;> rfl) (Calls.evalArgs_plain ?_)
  exact thn hA fun us s2 ⟨vs, H2, I2, r2, q2⟩ => hm pins s2 sg H2 x vs v us Q I2 r1 r2 q2
/-- a method of a built-in type -/
structure BmD (X : Cx) (G : Gm) (T : String) (m : Str) (g : D → List D → R D) : Prop where
  ex : ∃ (id : String) (rr : V → List V → Hp → VK → Prop), PySem.Slot T m id ∧ typeOf (.builtin id) = pure (.type "method_descriptor") ∧ MtR X id rr ∧
    ∀ (dl : Addr) (Z : List Addr) (O : List (Nat × Addr)) (r : LE) (sg : L2.St) (x : D) (vx : V) (ds : List D) (vs : List V) (H : Hp) (Q : VK) (E : Exc → Prop), At G dl Z O r sg H → RepP G dl H Z x vx → RepPL G dl H Z ds vs →
      Wp (g x ds) (fun d => ∀ v H', Grow dl H H' → GlOk G dl H' → Rep G dl (cut H' Z) d v → Q v H') E → rr vx vs H Q
  pa : PlainAttrs T
theorem de_bm {gg : D → List D → R D} (B : BmD X G T name gg) (hG : G.K = X.K) (ho : DP X G W o f) (ha : DAp X G W (e :: es) fs) (hbase : attributeBase o name X.env (eval o X.env) = eval o X.env := by rfl)
    (hfew : ((backTo cpos (starEach (e :: es) X.env)).all (fun x => !x.1) && (backToKw cpos (keywordEach [] X.env)).all (fun x => x.1.isSome)
      && decide ((e :: es).length + ([] : List Keyword).length + (if ([] : List Keyword).isEmpty then 0 else 1) < 30)) = true := by rfl)
    (hline : (apos.endLine == cpos.line) = true := by rfl) (hs : starEach (e :: es) X.env = (false, eval e X.env) :: starEach es X.env := by rfl) (hplain : (backTo cpos (starEach es X.env)).any (·.1) = false := by rfl) :
    DE X G W (.Call (.Attribute o name apos) (e :: es) [] cpos) (fun r => do let x ← f r; let x ← isT T x; let ds ← fs r; gg x ds) := by
  obtain ⟨⟨id, rr, slot, hty, hm, hc⟩, pa⟩ := B
  refine PE_imp (pe_bmw pa slot hty hm ho ha hbase hfew hline hs hplain) fun sg H Q ⟨dl, Z, O, r, A, q⟩ => ?_
  refine ⟨dl, Z, O, r, A, q.bind.thn fun x hx v H1 g1 k1 rp => ?_⟩
  obtain ⟨hx, ht⟩ := isT_wp (G := G) (X := X) (dl := dl) (H := H1) (Z := Z) hx.bind
  have A1 := A.grow g1 k1
  refine ⟨ht hG rp, dl, Z, O, r, A1, hx.bind.mono (fun ds hd vs H2 g2 k2 rl => ?_) fun e => epost g1⟩
  exact hc dl Z O r sg x v ds vs H2 Q _ (A1.grow g2 k2) (rp.grow A1 g2) rl (hd.thn fun d h w H' g' k' rp => h w H' ((g1.trans g2).trans g') k' rp)
end
end DL
set_option Elab.async false
set_option linter.all false
set_option maxRecDepth 100000
namespace DL
open PySem L2 PySem.Spec PyProof.Rows
section
variable {X : Cx} {G : Gm} {W : WX} {ex a b o e : Expr} {es : List Expr} {f g : LE → R D} {fs : LE → R (List D)} {pos p apos cpos : Pos} {dl : Addr} {S H : Hp} {Z : List Addr} {name x : Str}
theorem key_inj {a b : D} {x y : Key} (h1 : a.key = some x) (h2 : b.key = some y) : a.keq b = true ↔ x = y := by
  rw [keq_key h1 h2]; simp
theorem RepK.any : ∀ {kvs : List (D × D)} {kv : List (Key × V)} {k : D} {x : Key}, RepK G dl S kvs kv → k.key = some x → (kvs.any fun p => p.1.keq k) = (kv.any fun p => decide (p.1 = x))
  | [], kv, k, x, h, hk => by unfold RepK at h; subst h; rfl
  | (k', d) :: kvs, kv, k, x, h, hk => by
    unfold RepK at h
    obtain ⟨y, v, r, rfl, hk', rp, h2⟩ := h
    rw [List.any_cons, List.any_cons, keq_key hk' hk, RepK.any h2 hk]
theorem RepK.map : ∀ {kvs : List (D × D)} {kv : List (Key × V)} {k d : D} {x : Key} {v : V}, RepK G dl S kvs kv → k.key = some x → Rep G dl S d v →
    RepK G dl S (kvs.map fun p => if p.1.keq k then (p.1, d) else p) (kv.map fun p => if p.1 = x then (p.1, v) else p)
  | [], kv, k, d, x, v, h, hk, rv => by unfold RepK at h; subst h; unfold RepK; rfl
  | (k', d') :: kvs, kv, k, d, x, v, h, hk, rv => by
    unfold RepK at h
    obtain ⟨y, u, r, rfl, hk', rp, h2⟩ := h
    have q := RepK.map (v := v) (d := d) h2 hk rv
    rw [List.map_cons, List.map_cons]
    by_cases e : y = x
    · rw [if_pos ((key_inj hk' hk).mpr e), if_pos e]
      unfold RepK
      exact ⟨y, v, _, rfl, hk', rv, q⟩
    · rw [if_neg fun z => e ((key_inj hk' hk).mp z), if_neg e]
      unfold RepK
      exact ⟨y, u, _, rfl, hk', rp, q⟩
theorem RepK.app : ∀ {kvs : List (D × D)} {kv : List (Key × V)} {k d : D} {x : Key} {v : V}, RepK G dl S kvs kv → k.key = some x → Rep G dl S d v → RepK G dl S (kvs ++ [(k, d)]) (kv ++ [(x, v)])
  | [], kv, k, d, x, v, h, hk, rv => by
    unfold RepK at h
    subst h
    unfold RepK
    exact ⟨x, v, [], rfl, hk, rv, by unfold RepK; rfl⟩
  | (k', d') :: kvs, kv, k, d, x, v, h, hk, rv => by
    unfold RepK at h
    obtain ⟨y, u, r, rfl, hk', rp, h2⟩ := h
    rw [List.cons_append]
    unfold RepK
    exact ⟨y, u, r ++ [(x, v)], rfl, hk', rp, RepK.app h2 hk rv⟩
theorem RepK.put {kvs : List (D × D)} {kv : List (Key × V)} {k d : D} {x : Key} {v : V} (h : RepK G dl S kvs kv) (hk : k.key = some x) (rv : Rep G dl S d v) : RepK G dl S (putD kvs k d) (putK kv x v) := by
  unfold putD putK
  rw [RepK.any h hk]
  by_cases c : (kv.any fun p => decide (p.1 = x)) = true
  · rw [if_pos c, if_pos c]
    exact h.map hk rv
  · rw [if_neg c, if_neg c]
    exact h.app hk rv
theorem RepK.length : ∀ {kvs : List (D × D)} {kv : List (Key × V)}, RepK G dl S kvs kv → kv.length = kvs.length
  | [], kv, h => by unfold RepK at h; subst h; rfl
  | (k', d') :: kvs, kv, h => by
    unfold RepK at h
    obtain ⟨y, u, r, rfl, _, _, h2⟩ := h
    rw [List.length_cons, List.length_cons, RepK.length h2]
/-- the pairs of a display -/
inductive DPs (X : Cx) (G : Gm) (W : WX) (pos : Pos) : List (Option Expr) → List Expr → List ((LE → R D) × (LE → R D)) → Prop
  | nil : DPs X G W pos [] [] []
  | cons {k v : Expr} {ks : List (Option Expr)} {vs : List Expr} {f g : LE → R D} {fs : List ((LE → R D) × (LE → R D))} (hk : DE X G W k f) (hv : DE X G W v g) (h : DPs X G W pos ks vs fs) : DPs X G W pos (some k :: ks) (v :: vs) ((f, g) :: fs)
def mergeD (kvs more : List (D × D)) : List (D × D) := more.foldl (fun acc p => putD acc p.1 p.2) kvs
theorem RepK_merge : ∀ (more : List (D × D)) {mv : List (Key × V)} {kvs : List (D × D)} {kv : List (Key × V)}, RepK G dl S more mv → RepK G dl S kvs kv → RepK G dl S (mergeD kvs more) (mergeK kv mv)
  | [], mv, kvs, kv, h, h2 => by unfold RepK at h; subst h; exact h2
  | (k, d) :: more, mv, kvs, kv, h, h2 => by
    unfold RepK at h
    obtain ⟨y, u, r, rfl, hk, rp, h3⟩ := h
    have z := RepK_merge more h3 (h2.put hk rp)
    exact z
theorem DPs.len {ks : List (Option Expr)} {vs : List Expr} {fs : List ((LE → R D) × (LE → R D))} (h : DPs X G W pos ks vs fs) : fs.length = ks.length := by
  induction h with
  | nil => rfl
  | cons _ _ _ ih => rw [List.length_cons, List.length_cons, ih]
end
end DL
set_option Elab.async false
set_option linter.all false
set_option maxRecDepth 100000
namespace DL
open PySem L2 PySem.Spec PyProof.Rows
/-- _law_roll -/
def rollD : List D → R D
  | [.dice, .int m] => if 0 < m ∧ m < 1000000000 then .roll m.toNat (fun i => .ok (.int (i : Nat))) else .stuck
  | _ => .stuck
theorem rollD_len : ∀ ds Q E, Wp (rollD ds) Q E → ds.length = 2 := fun ds Q E h => by
  unfold rollD at h
  split at h
  · rfl
  · exact h.elim
/-- what a roll is asked: any number below m may come -/
theorem roll_of {G : Gm} {dl : Addr} {Z : List Addr} {ds : List D} {vs : List V} {H : Hp} {Q : VK} {E : XK} (gl : GlOk G dl H) (dz : dl ∈ Z) (rl : RepL G dl (cut H Z) ds vs)
    (h : Wp (rollD ds) (fun d => ∀ v H', Grow dl H H' → GlOk G dl H' → Rep G dl (cut H' Z) d v → Q v H') (fun e => ∀ cls dx H', Grow dl H H' → GlOk G dl H' → XRep G dl (cut H' Z) e cls dx H' → E cls dx H')) :
    ∃ (m x y z : Int), vs = [.ref dl, .int m] ∧ 0 < m ∧ m < 1000000000 ∧ H dl = some (.lst [.int x, .int y, .int z]) ∧ ∀ (r : Int) (H' : Hp), 0 ≤ r → r < m → (∃ a b c : Int, H' = upd H dl (.lst [.int a, .int b, .int c])) → Q (.int r) H' := by
  unfold rollD at h
  split at h
  · rename_i m
    split at h
    · rename_i hm
      obtain ⟨x, y, z, hd⟩ := gl.dice
      unfold RepL at rl
      obtain ⟨v1, r1, rfl, h1, rl⟩ := rl
      unfold RepL at rl
      obtain ⟨v2, r2, rfl, h2, rl⟩ := rl
      unfold RepL at rl
      subst rl
      unfold Rep at h1 h2
      subst h1 h2
      refine ⟨m, x, y, z, rfl, hm.1, hm.2, hd, fun r H' h0 h1 ⟨a, b, c, e⟩ => ?_⟩
      subst e
      have e : r = ((r.toNat : Nat) : Int) := by omega
      rw [e]
      exact h r.toNat (by omega) _ _ (fun p o hp n nt => by rw [upd_ne n]; exact hp) ⟨⟨a, b, c, upd_same⟩, gl.tab.upd hd rfl⟩ Rep.int_
    · exact h.elim
  · exact h.elim
/-- a new dice -/
def spDice : Sp := fun vs H Q _ => ∃ c : Int, vs = [.int c] ∧ ∀ p (x y z : Int), H p = none → Q (.ref p) (upd H p (.lst [.int x, .int y, .int z]))
/-- one round's dice -/
def spRounds (K : PySem.W.Frag) : Sp := fun vs H Q _ => ∃ (a : Addr) (ns : List Int), vs = [.ref a, .int 1] ∧ SqL K H a (ns.map V.int) ∧
  ∀ (H' : Hp) (l d : Addr) (x y z : Int), (∀ b o, H b = some o → H' b = some o) → l ≠ d → H' l = some (.lst [.ref d]) → H' d = some (.lst [.int x, .int y, .int z]) → Q (.ref l) H'
/-- what is asked of the law -/
def spLaw (K : PySem.W.Frag) (T : List (Addr × Str)) : Sp := fun vs H Q _ => ∃ (a : Addr) (ns : List Int), vs = [.ref a] ∧ SqL K H a (ns.map V.int) ∧ (∀ p ∈ T, H p.1 = some (.tbl #[])) ∧ ∀ H', Q (.bl true) H'
/-- the slots when the round begins -/
def r0 (m : Nat) : LE := .un :: .val .dice :: List.replicate (m - 2) .un
theorem law_core {G : Gm} {W : WX} {N : List Str} {F : LE → R Out} {m : Nat} {a : Addr} {ns : List Int} {H : Hp} {Q : VK} {E : L2.St → XK} {nx0 : L2.St → Hp → Prop} (hm : N.length = m) (h2 : 2 ≤ m) (hS : SqL G.K H a (ns.map V.int)) (hT : ∀ p ∈ G.tabs, H p.1 = some (.tbl #[])) (hU : ∀ p ∈ G.tabs, ∀ q ∈ G.tabs, p.1 = q.1 → p.2 = q.2) (hS0 : G.subs = []) (k : ∀ H', Q (.bl true) H')
    (hF : Wp (F (r0 m)) (fun o => ∃ r, o = .nx r ∨ o = .ct r) (fun _ => False)) :
    tSeq (tFor (iList G.K (tCallS (spRounds G.K) E (tCons (tVar 0) (tCons (tC (.int 1)) tNil)))) (gName 1) (tS G W F)) (tRet (tC (.bl true))) { nx := nx0, rt := Q } (L2.start N [.ref a]) H := by
  obtain ⟨b0, b1, N', rfl⟩ : ∃ b0 b1 N', N = b0 :: b1 :: N' := by
    match N, hm with
    | b0 :: b1 :: N', _ => exact ⟨b0, b1, N', rfl⟩
    | [_], hm => simp at hm; omega
    | [], hm => simp at hm; omega
  refine ⟨_, rfl, a, ns, rfl, hS, fun H1 l d x y z e1 nld hl hd => ⟨l, rfl, ⟨_, SqL.of hl⟩, ?_⟩⟩
  refine for_list (K := G.K) (a := l) (xs := [V.ref d]) (fun i sg H' => H' l = some (.lst [.ref d]) ∧ (i = 0 → sg = L2.start (b0 :: b1 :: N') [.ref a] ∧ H' = H1)) ⟨hl, fun _ => ⟨rfl, rfl⟩⟩ (fun i sg H' _ p => SqL.of p.1) (fun i v sg H' hi p => ?_) (fun sg H' p => k _)
  obtain ⟨p1, p2⟩ := p
  cases i with
  | succ i => simp at hi
  | zero =>
    cases hi
    obtain ⟨rfl, rfl⟩ := p2 rfl
    refine ⟨d, [d], [], r0 m, ?_, hF.mono (fun o ho => ?_) fun _ z => z⟩
    · refine ⟨⟨⟨x, y, z, hd⟩, hS0 ▸ CT.nil hU fun p hp => e1 _ _ (hT p hp)⟩, List.mem_singleton.mpr rfl, fun b hb => ?_, fun p hp => (by cases hp), fun p hp => (by cases hp), ?_, fun j c e => ?_⟩
      · rw [List.mem_singleton] at hb
        subst hb
        exact ⟨_, hd, fun ps z => by cases ps <;> cases z⟩
      · simp [r0, L2.start] at hm ⊢
        omega
      · match j, e with
        | 0, e => cases e; trivial
        | 1, e =>
          cases e
          exact ⟨.ref d, rfl, by unfold Rep; rfl⟩
        | j + 2, e =>
          have e' : (List.replicate (m - 2) Cell.un)[j]? = some c := e
          rw [List.getElem?_replicate] at e'
          split at e'
          · cases e'; trivial
          · cases e'
    · have keep : ∀ {Z' O' H2}, Stp d [d] [] H' Z' O' H2 → H2 l = some (.lst [.ref d]) := fun s => s.fr l _ p1 nld (fun p hp => by cases hp) fun ps z => by cases z
      obtain ⟨r, rfl | rfl⟩ := ho
      · exact fun Z' O' sg' H2 s A => ⟨keep s, fun h => by cases h⟩
      · exact fun Z' O' sg' H2 s A => ⟨keep s, fun h => by cases h⟩
end DL
set_option Elab.async false
set_option linter.all false
set_option maxRecDepth 100000
namespace DL
open PySem L2 LamX PySem.Spec PyProof.Rows
section
variable {P : Program} {w : World} {K : PySem.W.Frag} {mg : Str → Option Value} {base : Heap} {G : Gm} {x qual : Str} {st : Stmt} {f : Addr} {fd : FuncData} {N ps : List Str} {k n m c nf : Nat} {F : LE → R Out}
structure FunE (K : PySem.W.Frag) (x qual : Str) (st : Stmt) (f : Addr) (ps : List Str) : Prop where
  ex : ∃ fd : FuncData, L2.Fun K x qual st f fd ∧ L2.Binds K fd ps []
/-- its code object stands at c -/
structure FunC (K : PySem.W.Frag) (x qual : Str) (st : Stmt) (f c : Addr) (ps : List Str) : Prop where
  ex : ∃ (oc : Value) (od : Option Addr) (kV doc pm : Value) (an : Option Addr) (ct : Value) (osl : Array (Option Value)),
    K.lookup f = some ⟨oc, od, .func (PySem.W.fnOf x qual (defArgs st) (defBody st) (defScope st) .none kV doc pm an (.ref c) ct), osl⟩ ∧
    ∀ us : List Value, us.length = ps.length → bindArgs (PySem.W.fnOf x qual (defArgs st) (defBody st) (defScope st) .none kV doc pm an (.ref c) ct) ⟨us, []⟩ = pure (ps.zip us)
  cd : PySem.W.codeIn K (.ref c) qual = true
  kp : PySem.W.keepIn K (.ref f) = true
theorem funE_of {oc : Value} {od an : Option Addr} {osl : Array (Option Value)} {kV doc pm cdv ct : Value} (l : K.lookup f = some ⟨oc, od, .func (PySem.W.fnOf x qual (defArgs st) (defBody st) (defScope st) .none kV doc pm an cdv ct), osl⟩) (c : PySem.W.codeIn K cdv qual = true) (kp : PySem.W.keepIn K (.ref f) = true)
    (h : ∀ us : List Value, us.length = ps.length → bindArgs (PySem.W.fnOf x qual (defArgs st) (defBody st) (defScope st) .none kV doc pm an cdv ct) ⟨us, []⟩ = pure (ps.zip us)) : FunE K x qual st f ps := ⟨_, L2.fun_mk l c kp, .all h⟩
theorem funC_of {c : Addr} {oc : Value} {od an : Option Addr} {osl : Array (Option Value)} {kV doc pm ct : Value} (l : K.lookup f = some ⟨oc, od, .func (PySem.W.fnOf x qual (defArgs st) (defBody st) (defScope st) .none kV doc pm an (.ref c) ct), osl⟩) (cd : PySem.W.codeIn K (.ref c) qual = true) (kp : PySem.W.keepIn K (.ref f) = true)
    (h : ∀ us : List Value, us.length = ps.length → bindArgs (PySem.W.fnOf x qual (defArgs st) (defBody st) (defScope st) .none kV doc pm an (.ref c) ct) ⟨us, []⟩ = pure (ps.zip us)) : FunC K x qual st f c ps := ⟨⟨oc, od, kV, doc, pm, an, ct, osl, l, h⟩, cd, kp⟩
theorem fn_read (S : FnScope N ps (defScope st)) (hn : ps.length = n) (hm : N.length = m) {vs : List V} {H : Hp} {Q : VK} {E : XK} (h : spD G n (runF n m F) vs H Q E) :
    tS G (WD E) F { nx := fun _ H' => Q .non H', rt := Q } (L2.start N vs) H := by
  obtain ⟨hl, dl, Z, ds, gl, dz, live, rl, hw⟩ := h
  unfold runF at hw
  split at hw
  case isFalse => exact hw.elim
  rename_i hdl
  have hpl : ps.length ≤ N.length := by have := congrArg List.length S.pre; rw [List.length_take] at this; omega
  have A0 : At G dl Z [] (ds.map Cell.val ++ List.replicate (m - n) Cell.un) (L2.start N vs) H := by
    refine ⟨gl, dz, live, fun p hp => (by cases hp), fun p hp => (by cases hp), ?_, start_get rl hl hm⟩
    unfold L2.start
    rw [List.length_append, List.length_map, List.length_replicate, List.length_append, List.length_map, List.length_replicate]
    omega
  have gr : ∀ {Z' O' H'}, Stp dl Z [] H Z' O' H' → Grow dl H H' := fun s a o e n nt => s.fr a o e n (fun p hp => (by cases hp)) nt
  have gz : ∀ {Z' O' H'}, Stp dl Z [] H Z' O' H' → GrowS (cut H' Z') (cut H' Z) := fun s => cut_sub fun a ha => s.zk a ha fun p hp => (by cases hp)
  refine ⟨dl, Z, [], _, A0, (calm_wp hw.bind).thn fun o ho => ?_⟩
  cases o with
  | nx r => exact fun Z' O' sg' H' s A' => ho _ _ (gr s) A'.gl Rep.non_
  | rt d => exact fun Z' O' v H' s g rp => ho _ _ (gr s) g (rp.mono (gz s))
  | ex e r => exact fun Z' O' sg' H' cls dx s A' xr => ho cls dx H' (gr s) A'.gl (xr.mono (gz s))
  | bk r => exact ho.elim
  | ct r => exact ho.elim
theorem fnD_E (Fn : FunE K x qual st f ps) (S : FnScope N ps (defScope st)) (hx : mg x = some (.ref f)) (hn : ps.length = n) (hm : N.length = m)
    (hb : ∀ cdv A outer s H E, Room k (A.deeper (envOfC qual (defScope st) s.heap.objs.size f cdv)) → DSs (cxD P w K mg base N qual st f cdv A outer s H E) G (WD E) (defBody st) F) :
    FnD P w K mg base G (k + 1) x f n (runF n m F) := by
  obtain ⟨fd, Fn, bd⟩ := Fn
  exact fnD_of Fn S bd hx hn hm hb
theorem fnD_C {c : Addr} (Fn : FunC K x qual st f c ps) (S : FnScope N ps (defScope st)) (hx : mg x = some (.ref f)) (hn : ps.length = n) (hm : N.length = m)
    (hb : ∀ A outer s H E, Room k (A.deeper (envOfC qual (defScope st) s.heap.objs.size f (.ref c))) → DSs (cxD P w K mg base N qual st f (.ref c) A outer s H E) G (WD E) (defBody st) F) :
    FnD P w K mg base G (k + 1) x f n (runF n m F) := by
  obtain ⟨⟨oc, od, kV, doc, pm, an, ct, osl, lk, bd⟩, cd, kp⟩ := Fn
  exact ⟨⟨_, ps, hn, fn_of lk cd S (fun vs H Q E h => by rw [hn]; exact h.1) fun A outer s H vs Q E hr h => ⟨_, hb A outer s H E hr, fn_read S hn hm h⟩, .all bd⟩, runF_len, kp, hx⟩
theorem meD_E (Fn : FunE K x qual st f ps) (S : FnScope N ps (defScope st)) (mt : Meth K (G.cls c) x f) (cl : Cls K (G.cls c)) (nf : x ∉ G.flds c) (hn : ps.length = n) (hm : N.length = m)
    (hb : ∀ cdv A outer s H E, Room k (A.deeper (envOfC qual (defScope st) s.heap.objs.size f cdv)) → DSs (cxD P w K mg base N qual st f cdv A outer s H E) G (WD E) (defBody st) F) :
    MeD P w K mg base G (k + 1) c x n (runF n m F) := by
  obtain ⟨fd, Fn, bd⟩ := Fn
  exact meD_of Fn S bd mt cl nf hn hm hb
theorem mkD_E (Fn : FunE K "__init__" qual st f ps) (S : FnScope N ps (defScope st)) (mk : Mk K (G.cls c) f) (hx : mg x = some (.ref (G.cls c))) (hn : ps.length = n + 1) (hm : N.length = m) (hf : (G.flds c).length = nf)
    (hb : ∀ cdv A outer s H E, Room k (A.deeper (envOfC qual (defScope st) s.heap.objs.size f cdv)) → DSs (cxD P w K mg base N qual st f cdv A outer s H E) G (WD E) (defBody st) F) :
    MkD P w K mg base G (k + 1) c x n (runI c nf n m F) := by
  obtain ⟨fd, Fn, bd⟩ := Fn
  exact mkD_of Fn S bd mk hx hn hm hf hb
def exmB (K : PySem.W.Frag) (xc : Nat → Addr) (ks : List Nat) : Bool := ks.all fun i => ks.all fun j => PySem.W.exmOne K (.ref (xc i)) (.ref (xc j)) == some (i == j)
theorem exm_by {ks : List Nat} (h : exmB K G.xcls ks = true) : ExmOk K G ks := fun i hi j hj => by
  unfold exmB at h
  rw [List.all_eq_true] at h
  have h2 := h i hi
  rw [List.all_eq_true] at h2
  exact beq_iff_eq.mp (h2 j hj)
end
end DL
set_option Elab.async false
set_option linter.all false
set_option maxRecDepth 100000
namespace DL
open PySem L2 PySem.Spec PyProof.Rows
def opE (g : D → D → R D) (f k : LE → R D) : LE → R D := fun r => do let x ← f r; let y ← k r; g x y
def cmpT (g : D → D → R D) (f k : LE → R D) : LE → R Bool := fun r => (do let x ← f r; let y ← k r; g x y) >>= asB
def valT (f : LE → R D) : LE → R Bool := fun r => f r >>= asB
def callE (g : List D → R D) (fs : LE → R (List D)) : LE → R D := fun r => fs r >>= g
def callF (g : List D → R (List D)) (fs : LE → R (List D)) : LE → R (List D) := fun r => fs r >>= g
def methE (c : Nat) (g : List D → R D) (f : LE → R D) (fs : LE → R (List D)) : LE → R D := fun r => do let x ← f r; let x ← isC c x; let ds ← fs r; g (x :: ds)
def meth0E (c : Nat) (g : List D → R D) (f : LE → R D) : LE → R D := fun r => do let x ← f r; let x ← isC c x; g [x]
def fldE (fx : Nat → Option Nat) (f : LE → R D) : LE → R D := fun r => f r >>= fldD fx
def subE (f k : LE → R D) : LE → R D := fun r => do let x ← f r; let y ← k r; subI x y
def negE (f : LE → R D) : LE → R D := fun r => do let x ← f r; negD x
def bmE (T : String) (gg : D → List D → R D) (f : LE → R D) (fs : LE → R (List D)) : LE → R D := fun r => do let x ← f r; let x ← isT T x; let ds ← fs r; gg x ds
def kbmE (d : D) (gg : D → List D → R D) (fs : LE → R (List D)) : LE → R D := fun r => do let ds ← fs r; gg d ds
def toldE (l : List (Nat × List Nat)) (f : LE → R D) : LE → R D := fun r => toldD l (f r)
def lE (f : LE → R (List D)) : LE → R D := fun r => (f r) >>= fun ds => .ok (.lst ds)
def itL (f : LE → R D) : LE → R (List D) := fun r => f r >>= lstD
def itT (f : LE → R D) : LE → R (List D) := fun r => f r >>= tupD
def rng1E (fs : LE → R (List D)) : LE → R (List D) := fun r => fs r >>= rng1
def rng2E (fs : LE → R (List D)) : LE → R (List D) := fun r => fs r >>= rng2
def frzS (i : Nat) (F : LE → R Out) : LE → R Out := fun r => F (frz i r)
def par3S (i j l : Nat) (f g h : LE → R D) : LE → R Out := fun r => (f r).onS r fun a => (g r).onS r fun b => (h r).onS r fun c => .ok (.nx (((r.set i (.val a)).set j (.val b)).set l (.val c)))
theorem huD {k : Nat} {A : Around} (hr : Room k A) : A.units + 70 < cLine := by have := hr.un; omega
theorem huD64 {k : Nat} {A : Around} (hr : Room k A) : A.units + 64 < cLine := by have := hr.un; omega
theorem takes0D {X : Cx} : Takes X W0 := L2.takes0
end DL
set_option Elab.async false
set_option linter.all false
set_option maxRecDepth 100000
namespace DL
open PySem L2 PySem.Spec PyProof.Rows
mutual
def isD (K : PySem.W.Frag) : D → Value → Bool
  | .non, u => match u with
    | .none => true
    | _ => false
  | .bl b, u => match u with
    | .bool c => b == c
    | _ => false
  | .int i, u => match u with
    | .int j _ => i == j
    | _ => false
  | .str s, u => match u with
    | .str z _ => z == ⟨s.toArray⟩
    | _ => false
  | .ctup ds, u => match u with
    | .ref a => match K.lookup a with
      | some ⟨.type T, _, .seq its _, _⟩ => T == "tuple" && decide (its.size ≤ 16777216) && isDs K ds its.toList
      | _ => false
    | _ => false
  | _, _ => false
def isDs (K : PySem.W.Frag) : List D → List Value → Bool
  | [], us => match us with
    | [] => true
    | _ => false
  | d :: ds, us => match us with
    | u :: us => isD K d u && isDs K ds us
    | [] => false
end
section
variable {G : Gm} {K : PySem.W.Frag}
mutual
theorem isD_rep (hG : G.K = K) : ∀ (d : D) (u : Value), isD K d u = true → ∃ v, RelV v u ∧ ∀ dl S, Rep G dl S d v
  | .non, u, h => by
    unfold isD at h
    split at h
    · exact ⟨.non, rfl, fun _ _ => Rep.non_⟩
    · cases h
  | .bl b, u, h => by
    unfold isD at h
    split at h
    · rw [beq_iff_eq] at h; subst h; exact ⟨.bl _, rfl, fun _ _ => Rep.bl_⟩
    · cases h
  | .int i, u, h => by
    unfold isD at h
    split at h
    · rw [beq_iff_eq] at h; subst h; exact ⟨.int _, ⟨_, rfl⟩, fun _ _ => Rep.int_⟩
    · cases h
  | .str s, u, h => by
    unfold isD at h
    split at h
    · rw [beq_iff_eq] at h; subst h; exact ⟨.str _, ⟨_, rfl⟩, fun _ _ => Rep.str_⟩
    · cases h
  | .ctup ds, u, h => by
    unfold isD at h
    split at h
    · rename_i a
      split at h
      · rename_i T dd its n sl hk
        rw [Bool.and_eq_true, Bool.and_eq_true, beq_iff_eq, decide_eq_true_eq] at h
        obtain ⟨⟨rfl, hz⟩, h⟩ := h
        obtain ⟨vs, r, q⟩ := isDs_rep hG ds _ h
        refine ⟨.ref a, rfl, fun dl S => ?_⟩
        unfold Rep
        exact ⟨a, vs, rfl, .inr ⟨_, its, n, hG ▸ hk, rfl, rfl, by rw [sizeLine_eq]; exact hz, r⟩, q dl S⟩
      · cases h
    · cases h
  | .lst _, _, h => by unfold isD at h; cases h
  | .dic _, _, h => by unfold isD at h; cases h
  | .cdic _, _, h => by unfold isD at h; cases h
  | .ins _ _, _, h => by unfold isD at h; cases h
  | .dice, _, h => by unfold isD at h; cases h
  | .fn _, _, h => by unfold isD at h; cases h
theorem isDs_rep (hG : G.K = K) : ∀ (ds : List D) (us : List Value), isDs K ds us = true → ∃ vs, Vals vs us ∧ ∀ dl S, RepL G dl S ds vs
  | [], us, h => by
    unfold isDs at h
    split at h
    · exact ⟨[], .nil, fun _ _ => RepL.nil⟩
    · cases h
  | d :: ds, us, h => by
    unfold isDs at h
    split at h
    · rename_i u us
      rw [Bool.and_eq_true] at h
      obtain ⟨v, r1, q1⟩ := isD_rep hG d u h.1
      obtain ⟨vs, r2, q2⟩ := isDs_rep hG ds us h.2
      exact ⟨v :: vs, .cons r1 r2, fun dl S => RepL.cons (q1 dl S) (q2 dl S)⟩
    · cases h
end
/-- a name of the top, written data -/
structure GlD (G : Gm) (mg : Str → Option Value) (x : Str) (d : D) : Prop where
  ex : ∃ (u : Value) (v : V), mg x = some u ∧ RelV v u ∧ ∀ dl S, Rep G dl S d v
theorem glD_of {mg : Str → Option Value} {x : Str} {d : D} {u : Value} (hG : G.K = K) (hm : mg x = some u) (h : isD K d u = true) : GlD G mg x d := by
  obtain ⟨v, r, q⟩ := isD_rep hG d u h
  exact ⟨u, v, hm, r, q⟩
end
section
variable {X : Cx} {G : Gm} {W : WX}
theorem de_gl {x : Str} {pos : Pos} {d : D} (h : GlD G X.mg x d) (hg : Gl X x := by rfl) (hd : (x == ("__debug__" : Str)) = false := by decide) : DE X G W (.Name x pos) (cst d) := by
  obtain ⟨u, v, hm, rv, rp⟩ := h
  exact de_glob hm rv rp hg hd
end
end DL
set_option Elab.async false
set_option linter.all false
set_option maxRecDepth 100000
namespace DL
theorem var_eq (i : Nat) (r : LE) : var i r = match r[i]? with
  | some (.val d) => .ok d
  | _ => .stuck := rfl
@[simp] theorem cst_eq (d : D) (r : LE) : cst d r = .ok d := rfl
@[simp] theorem opE_eq (g : D → D → R D) (f k : LE → R D) (r : LE) : opE g f k r = f r >>= fun x => k r >>= fun y => g x y := rfl
@[simp] theorem cmpT_eq (g : D → D → R D) (f k : LE → R D) (r : LE) : cmpT g f k r = (f r >>= fun x => k r >>= fun y => g x y) >>= asB := rfl
@[simp] theorem valT_eq (f : LE → R D) (r : LE) : valT f r = f r >>= asB := rfl
@[simp] theorem callE_eq (g : List D → R D) (fs : LE → R (List D)) (r : LE) : callE g fs r = fs r >>= g := rfl
@[simp] theorem methE_eq (c : Nat) (g : List D → R D) (f : LE → R D) (fs : LE → R (List D)) (r : LE) : methE c g f fs r = f r >>= fun x => isC c x >>= fun x => fs r >>= fun ds => g (x :: ds) := rfl
@[simp] theorem meth0E_eq (c : Nat) (g : List D → R D) (f : LE → R D) (r : LE) : meth0E c g f r = f r >>= fun x => isC c x >>= fun x => g [x] := rfl
@[simp] theorem fldE_eq (fx : Nat → Option Nat) (f : LE → R D) (r : LE) : fldE fx f r = f r >>= fldD fx := rfl
@[simp] theorem subE_eq (f k : LE → R D) (r : LE) : subE f k r = f r >>= fun x => k r >>= fun y => subI x y := rfl
@[simp] theorem negE_eq (f : LE → R D) (r : LE) : negE f r = f r >>= negD := rfl
@[simp] theorem negD_int (i : Int) : negD (.int i) = .ok (.int (-i)) := rfl
@[simp] theorem bmE_eq (T : String) (gg : D → List D → R D) (f : LE → R D) (fs : LE → R (List D)) (r : LE) : bmE T gg f fs r = f r >>= fun x => isT T x >>= fun x => fs r >>= fun ds => gg x ds := rfl
@[simp] theorem kbmE_eq (d : D) (gg : D → List D → R D) (fs : LE → R (List D)) (r : LE) : kbmE d gg fs r = fs r >>= fun ds => gg d ds := rfl
@[simp] theorem toldE_eq (l : List (Nat × List Nat)) (f : LE → R D) (r : LE) : toldE l f r = toldD l (f r) := rfl
@[simp] theorem lE_eq (f : LE → R (List D)) (r : LE) : lE f r = f r >>= fun ds => .ok (.lst ds) := rfl
@[simp] theorem itL_eq (f : LE → R D) (r : LE) : itL f r = f r >>= lstD := rfl
@[simp] theorem itT_eq (f : LE → R D) (r : LE) : itT f r = f r >>= tupD := rfl
@[simp] theorem lstD_eq (ds : List D) : lstD (.lst ds) = .ok ds := rfl
@[simp] theorem tupD_eq (ds : List D) : tupD (.tup ds) = .ok ds := rfl
@[simp] theorem rng1E_eq (fs : LE → R (List D)) (r : LE) : rng1E fs r = fs r >>= rng1 := rfl
@[simp] theorem frzS_eq (i : Nat) (F : LE → R Out) (r : LE) : frzS i F r = F (frz i r) := rfl
@[simp] theorem anil_eq (r : LE) : anil r = .ok [] := rfl
@[simp] theorem acons_eq (f : LE → R D) (fs : LE → R (List D)) (r : LE) : acons f fs r = f r >>= fun x => fs r >>= fun xs => .ok (x :: xs) := rfl
@[simp] theorem tupE_eq (fs : LE → R (List D)) (r : LE) : tupE fs r = fs r >>= fun ds => if ds.length ≤ 16777216 then .ok (.tup ds) else .stuck := rfl
@[simp] theorem lstE_eq (fs : LE → R (List D)) (r : LE) : lstE fs r = fs r >>= fun ds => if ds.length ≤ 16777216 then .ok ds else .stuck := rfl
@[simp] theorem iteE_eq (c : LE → R Bool) (f g : LE → R D) (r : LE) : iteE c f g r = c r >>= fun b => if b = true then f r else g r := rfl
@[simp] theorem andT_eq (f g : LE → R Bool) (r : LE) : andT f g r = f r >>= fun b => if b = true then g r else .ok false := rfl
@[simp] theorem orT_eq (f g : LE → R Bool) (r : LE) : orT f g r = f r >>= fun b => if b = true then .ok true else g r := rfl
@[simp] theorem notT_eq (f : LE → R Bool) (r : LE) : notT f r = f r >>= fun b => .ok (!b) := rfl
@[simp] theorem asB_bl (b : Bool) : asB (.bl b) = .ok b := rfl
def andK (x : D) (k : R D) : R D := match x with
  | .bl true => k
  | .bl false => .ok (.bl false)
  | _ => .stuck
def orK (x : D) (k : R D) : R D := match x with
  | .bl true => .ok (.bl true)
  | .bl false => k
  | _ => .stuck
@[simp] theorem andK_bl (b : Bool) (k : R D) : andK (.bl b) k = if b = true then k else .ok (.bl false) := by cases b <;> rfl
@[simp] theorem orK_bl (b : Bool) (k : R D) : orK (.bl b) k = if b = true then .ok (.bl true) else k := by cases b <;> rfl
@[simp] theorem andV_eq (f g : LE → R D) (r : LE) : andV f g r = f r >>= fun x => andK x (g r) := by
  unfold andV
  congr 1
@[simp] theorem orV_eq (f g : LE → R D) (r : LE) : orV f g r = f r >>= fun x => orK x (g r) := by
  unfold orV
  congr 1
@[simp] theorem notV_bl (f : LE → R D) (r : LE) (b : Bool) (h : f r = .ok (.bl b)) : notV f r = .ok (.bl (!b)) := by
  unfold notV
  rw [h]
  rfl
@[simp] theorem seqS_eq (F K : LE → R Out) (r : LE) : seqS F K r = F r >>= fun o => match o with
  | .nx r' => K r'
  | o => .ok o := rfl
@[simp] theorem skipS_eq (r : LE) : skipS r = .ok (.nx r) := rfl
@[simp] theorem retS_eq (f : LE → R D) (r : LE) : retS f r = (f r).onS r fun d => .ok (.rt d) := rfl
@[simp] theorem ifS_eq (c : LE → R Bool) (F K : LE → R Out) (r : LE) : ifS c F K r = (c r).onS r fun b => if b = true then F r else K r := by
  unfold ifS
  congr 1
@[simp] theorem valK_eq (f : LE → R D) (r : LE) : valK f r = f r >>= fun d => .ok (.val d) := rfl
@[simp] theorem ownK_eq (f : LE → R (List D)) (r : LE) : ownK f r = f r >>= fun d => .ok (.own (.lst d)) := rfl
@[simp] theorem okK_val (d : D) : okK (.val d) = .ok (.val d) := rfl
@[simp] theorem okK_own (d : D) : okK (.own d) = .ok (.own d) := rfl
@[simp] theorem setK_eq (i : Nat) (f : LE → R Cell) (r : LE) : setK i f r = (f r >>= okK).onS r fun c => .ok (.nx (r.set i c)) := rfl
@[simp] theorem parK_eq (i j : Nat) (f g : LE → R Cell) (r : LE) : parK i j f g r = (f r >>= okK).onS r fun c => (g r >>= okK).onS r fun c' => .ok (.nx ((r.set i c).set j c')) := rfl
@[simp] theorem par3S_eq (i j l : Nat) (f g h : LE → R D) (r : LE) : par3S i j l f g h r = (f r).onS r fun a => (g r).onS r fun b => (h r).onS r fun c => .ok (.nx (((r.set i (.val a)).set j (.val b)).set l (.val c))) := rfl
@[simp] theorem errS_eq (e : Exc) (r : LE) : errS e r = .ok (.ex e r) := rfl
@[simp] theorem forS_eq (fi : LE → R (List D)) (gd : D → LE → Option LE) (body : LE → R Out) (r : LE) : forS fi gd body r = (fi r).onS r fun ds => loopS gd body ds r := rfl
@[simp] theorem ite_onS {α : Type} (c : Prop) [Decidable c] (a b : R α) (r : LE) (k : α → R Out) : (if c then a else b).onS r k = if c then a.onS r k else b.onS r k := by split <;> rfl
@[simp] theorem ite_bind {α β : Type} (c : Prop) [Decidable c] (a b : R α) (k : α → R β) : (if c then a else b) >>= k = if c then a >>= k else b >>= k := by split <;> rfl
@[simp] theorem ite_calm {α : Type} (c : Prop) [Decidable c] (a b : R α) : (if c then a else b).calm = if c then a.calm else b.calm := by split <;> rfl
@[simp] theorem calm_err {α : Type} (e : Exc) : (R.err e : R α).calm = .stuck := rfl
@[simp] theorem calm_stuck {α : Type} : (R.stuck : R α).calm = .stuck := rfl
/-- what a body's end is to the caller -/
def fin : Out → R D
  | .nx _ => .ok .non
  | .rt d => .ok d
  | .ex e _ => .err e
  | _ => .stuck
@[simp] theorem fin_nx (r : LE) : fin (.nx r) = .ok .non := rfl
@[simp] theorem fin_rt (d : D) : fin (.rt d) = .ok d := rfl
@[simp] theorem fin_ex (e : Exc) (r : LE) : fin (.ex e r) = .err e := rfl
theorem runF_eq (n m : Nat) (F : LE → R Out) (ds : List D) (h : ds.length = n) : runF n m F ds = (F (ds.map Cell.val ++ List.replicate (m - n) Cell.un)).calm >>= fin := by
  unfold runF
  rw [if_pos h]
  rfl
@[simp] theorem isC_eq (c : Nat) (fs : List D) : isC c (.ins c fs) = .ok (.ins c fs) := by simp [isC]
@[simp] theorem addD_int (i j : Int) : addD (.int i) (.int j) = .ok (.int (i + j)) := rfl
@[simp] theorem subD_int (i j : Int) : subD (.int i) (.int j) = .ok (.int (i - j)) := rfl
@[simp] theorem ltD_int (i j : Int) : ltD (.int i) (.int j) = .ok (.bl (decide (i < j))) := rfl
@[simp] theorem leD_int (i j : Int) : leD (.int i) (.int j) = .ok (.bl (decide (i ≤ j))) := rfl
@[simp] theorem gtD_int (i j : Int) : gtD (.int i) (.int j) = .ok (.bl (decide (j < i))) := rfl
@[simp] theorem geD_int (i j : Int) : geD (.int i) (.int j) = .ok (.bl (decide (j ≤ i))) := rfl
@[simp] theorem eqD_int (i j : Int) : eqD (.int i) (.int j) = .ok (.bl (i == j)) := by simp [eqD, D.sc, D.eqb]
@[simp] theorem neD_int (i j : Int) : neD (.int i) (.int j) = .ok (.bl (!(i == j))) := by simp [neD, D.sc, D.eqb]
@[simp] theorem eqD_bl (i j : Bool) : eqD (.bl i) (.bl j) = .ok (.bl (i == j)) := by simp [eqD, D.sc, D.eqb]
@[simp] theorem neD_bl (i j : Bool) : neD (.bl i) (.bl j) = .ok (.bl (!(i == j))) := by simp [neD, D.sc, D.eqb]
@[simp] theorem eqD_str (i j : List Nat) : eqD (.str i) (.str j) = .ok (.bl (i == j)) := by simp [eqD, D.sc, D.eqb]
@[simp] theorem neD_str (i j : List Nat) : neD (.str i) (.str j) = .ok (.bl (!(i == j))) := by simp [neD, D.sc, D.eqb]
@[simp] theorem eqD_tup2 (a b c d : Int) : eqD (.tup [.int a, .int b]) (.tup [.int c, .int d]) = .ok (.bl (a == c && b == d)) := by simp [eqD, D.sc, D.sh, D.shs, D.eqb, D.eqbs]
@[simp] theorem neD_tup2 (a b c d : Int) : neD (.tup [.int a, .int b]) (.tup [.int c, .int d]) = .ok (.bl (!(a == c && b == d))) := by simp [neD, D.sc, D.sh, D.shs, D.eqb, D.eqbs]
@[simp] theorem compF_eq (fi : LE → R (List D)) (gd : D → LE → Option LE) (tt : LE → R Bool) (te : LE → R D) (vs : List Nat) (r : LE) : compF fi gd tt te vs r = fi r >>= fun ds => if ds.length ≤ 16777216 then loopC gd tt te (wipeL r vs) ds else .stuck := rfl
@[simp] theorem yesT_eq (r : LE) : yesT r = .ok true := rfl
@[simp] theorem loopC_nil (gd : D → LE → Option LE) (tt : LE → R Bool) (te : LE → R D) (r : LE) : loopC gd tt te r [] = .ok [] := rfl
theorem loopC_cons (gd : D → LE → Option LE) (tt : LE → R Bool) (te : LE → R D) (r : LE) (d : D) (ds : List D) : loopC gd tt te r (d :: ds) = match gd d r with
    | none => .stuck
    | some r' => (tt r').calm >>= fun b => if b = true then (te r').calm >>= fun y => loopC gd tt te r ds >>= fun ys => .ok (y :: ys) else loopC gd tt te r ds := by
  rw [loopC.eq_2]
  try (cases gd d r <;> rfl)
@[simp] theorem gN_eq (i : Nat) (d : D) (r : LE) : gN i d r = some (r.set i (.val d)) := rfl
@[simp] theorem subl2_0 (a b : D) : subI (.lst [a, b]) (.int 0) = .ok a := rfl
@[simp] theorem subl2_1 (a b : D) : subI (.lst [a, b]) (.int 1) = .ok b := rfl
@[simp] theorem sub2_0 (a b : D) : subI (.tup [a, b]) (.int 0) = .ok a := rfl
@[simp] theorem sub2_1 (a b : D) : subI (.tup [a, b]) (.int 1) = .ok b := rfl
theorem toldD_err (l : List (Nat × List Nat)) (e : Exc) : toldD l (.err e) = match l.lookup e.cls with
  | some s => .ok (.str s)
  | none => .stuck := rfl
@[simp] theorem Wp_ok {α : Type} (a : α) (Q : α → Prop) (E : Exc → Prop) : Wp (.ok a) Q E = Q a := rfl
@[simp] theorem Wp_err {α : Type} (e : Exc) (Q : α → Prop) (E : Exc → Prop) : Wp (.err e : R α) Q E = E e := rfl
@[simp] theorem Wp_stuck {α : Type} (Q : α → Prop) (E : Exc → Prop) : Wp (.stuck : R α) Q E = False := rfl
@[simp] theorem Wp_roll {α : Type} (m : Nat) (k : Nat → R α) (Q : α → Prop) (E : Exc → Prop) : Wp (.roll m k) Q E = ∀ i, i < m → Wp (k i) Q E := rfl
end DL
set_option Elab.async false
set_option linter.all false
set_option maxRecDepth 100000
namespace DL
open PySem L2 PySem.Spec PyProof.Rows
def whileS : Nat → (LE → R Bool) → (LE → R Out) → LE → R Out
  | 0, _, _, _ => .stuck
  | n + 1, c, F, r => (c r).onS r fun b => if b then (do
      match ← F r with
      | .nx r2 => whileS n c F r2
      | .ct r2 => whileS n c F r2
      | .bk r2 => .ok (.nx r2)
      | .rt d => .ok (.rt d)
      | .ex e r2 => .ok (.ex e r2)) else .ok (.nx r)
section
variable {X : Cx} {G : Gm} {W : WX} {c : Expr} {h : LE → R Bool} {F : LE → R Out} {body : List Stmt} {pos : Pos}
theorem ds_while (n : Nat) (hp : PassesOwn (model X.prog X.w) X.A X.env X.xe) (hc : DT X G W c h) (hb : DSs X G W body F) : DS X G W (.While c body [] pos) (whileS n h F) := PS_imp (ps_while hp hc hb) fun De sg H ⟨dl, Z, O, r, A, q⟩ => by
  refine ⟨fun m sg' H' => ∃ Z' O' r', At G dl Z' O' r' sg' H' ∧ Stp dl Z O H Z' O' H' ∧ Wp (whileS m h F r') (SPost G W De dl Z O H) (fun _ => False), ⟨n, Z, O, r, A, Stp.refl, q⟩, ?_⟩
  rintro m sg' H' ⟨Z', O', r', A', s', hw⟩
  cases m with
  | zero => exact hw.elim
  | succ m =>
    unfold whileS at hw
    refine ⟨dl, Z', O', r', A', (onS_wp hw).mono (fun b hb H1 g1 k1 => ?_) fun e he => spost_ex A' (SPost.trans A s' he)⟩
    have A1 := A'.grow g1 k1
    have s1 : Stp dl Z O H Z' O' H1 := Stp.trans A s' (Stp.of_grow g1 k1)
    cases b with
    | false =>
      show if false = true then _ else De.nx sg' H1
      rw [if_neg (by decide)]
      exact hb Z' O' sg' H1 s1 A1
    | true =>
      show if true = true then _ else De.nx sg' H1
      rw [if_pos rfl]
      refine ⟨fun sg2 H2 => ∃ Z' O' r', At G dl Z' O' r' sg2 H2 ∧ Stp dl Z O H Z' O' H2 ∧ Wp (whileS m h F r') (SPost G W De dl Z O H) (fun _ => False), fun sg2 H2 h2 => ⟨m, Nat.lt_succ_self m, h2⟩, ?_⟩
      rw [if_pos rfl] at hb
      refine ⟨dl, Z', O', r', A1, hb.bind.thn fun o ho => ?_⟩
      cases o with
      | nx r3 => exact fun Z4 O4 sg4 H4 s4 A4 => ⟨Z4, O4, r3, A4, Stp.trans A s1 s4, ho⟩
      | ct r3 => exact fun Z4 O4 sg4 H4 s4 A4 => ⟨Z4, O4, r3, A4, Stp.trans A s1 s4, ho⟩
      | bk r3 => exact fun Z4 O4 sg4 H4 s4 A4 => ho Z4 O4 sg4 H4 (Stp.trans A s1 s4) A4
      | rt d => exact SPost.trans A s1 ho
      | ex e r3 => exact SPost.trans A s1 ho
end
def stodS (i : Nat) (f k : LE → R D) : LE → R Out := fun r => match r[i]? with
  | some (.own (.dic kvs)) => (f r).onS r fun d => (k r).onS r fun y => if y.key1 = true ∧ kvs.length < 16777216 then .ok (.nx (r.set i (.own (.dic (putD kvs y d))))) else .stuck
  | _ => .stuck
def nodic : LE → R Cell := fun _ => .ok (.own (.dic []))
section
variable {X : Cx} {G : Gm} {W : WX} {ex ek : Expr} {f k : LE → R D} {pos apos p p1 p2 : Pos} {x m : Str}
theorem dk_nodic : DK X G W (.Dict [] [] pos) nodic := PE_imp pe_dnewK fun sg H Q ⟨dl, Z, O, r, A, q⟩ p hp =>
  q p (.dK []) H (.refl _ _) A.gl hp ⟨[], rfl, by unfold RepK; rfl⟩ fun i hi => ⟨rfl, hi⟩
theorem ds_stored (i : Nat) (hu : X.A.units + 1 < cLine) (ha : DE X G W ex f) (hk : DE X G W ek k) (hN : X.N[i]? = some x := by rfl) (hv : Vis X.env.scope x := by first | exact Or.inl rfl | exact Or.inr (Or.inl rfl) | exact Or.inr (Or.inr rfl)) (hd : (x == ("__debug__" : Str)) = false := by decide)
    (hcd : (x == ("__classdict__" : Str)) = false := by decide) (hs : swapsWith ex (some (.Subscript (.Name x p1) ek p2)) pos.line X.env = pure false := by rfl) :
    DS X G W (.Assign [.Subscript (.Name x p1) ek p2] ex pos) (stodS i f k) := by
  refine PS_imp (ps_dput hu (pe_var hN hv hd hcd) hk ha hs) fun De sg H ⟨dl, Z, O, r, A, q⟩ => ?_
  unfold stodS at q
  split at q
  case h_2 => exact q.elim
  rename_i kvs hr
  obtain ⟨a, ha', hs', ⟨kv, e, rk⟩, ko⟩ := A.slot i _ hr
  obtain ⟨haz, had⟩ := A.own _ ha'
  refine ⟨dl, Z, O, r, A, (onS_wp q).mono (fun d hd' v H1 g1 k1 rp => ?_) fun e he => spost_ex A he⟩
  have A1 := A.grow g1 k1
  refine ⟨.ref a, hs', dl, Z, O, r, A1, (onS_wp hd').mono (fun y hy u H2 g2 k2 ru => ?_) fun e he => epost g1 (spost_ex A he)⟩
  have A2 := A1.grow g2 k2
  have e2 : H2 a = some (.dK kv) := g2 a _ (g1 a _ e had (fun ps z => by cases z)) had (fun ps z => by cases z)
  split at hy
  case isFalse => exact hy.elim
  rename_i hc
  obtain ⟨kx, hkx⟩ := key1_key hc.1
  have eu := key_kV hkx (.of ru)
  subst eu
  refine ⟨a, _, rfl, DPut.k e2 (by rw [sizeLine_eq, rk.length]; exact hc.2), ?_⟩
  refine hy Z O sg _ (Stp.trans A (Stp.of_grow (g1.trans g2) k2) (Stp.write ha' fun ps z => by cases z)) (A2.write hr ha' hs' ⟨_, rfl, RepK.put (rk.mono ((g1.trans g2).cut A.dz)) hkx (rp.mono (g2.cut A.dz))⟩ rfl ko)
end
end DL
set_option Elab.async false
set_option linter.all false
set_option maxRecDepth 100000
namespace DL
open PySem L2 PySem.Spec PyProof.Rows
end DL
set_option Elab.async false
set_option linter.all false
set_option maxRecDepth 100000
namespace DL
open PySem L2 PySem.Spec PyProof.Rows
section
variable {α : Type}
def insT (lt : α → α → Bool) (x : α) : List α → List α
  | [] => [x]
  | y :: l => if lt y x = true then y :: insT lt x l else x :: y :: l
def isort (lt : α → α → Bool) (l : List α) : List α := l.foldr (insT lt) []
structure Ord (lt : α → α → Bool) : Prop where
  tr : ∀ a b c, lt b a = false → lt c b = false → lt c a = false
  an : ∀ a b, lt a b = false → lt b a = false → a = b
  as : ∀ a b, lt a b = true → lt b a = false
abbrev Up (lt : α → α → Bool) (l : List α) : Prop := l.Pairwise fun a b => lt b a = false
variable {lt : α → α → Bool}
theorem insT_perm (x : α) : ∀ l : List α, (insT lt x l).Perm (x :: l)
  | [] => .refl _
  | y :: l => by
    unfold insT
    split
    · exact ((insT_perm x l).cons y).trans (.swap x y l)
    · exact .refl _
theorem isort_perm : ∀ l : List α, (isort lt l).Perm l
  | [] => .refl _
  | x :: l => (insT_perm x _).trans ((isort_perm l).cons x)
theorem insT_up (o : Ord lt) (x : α) : ∀ l : List α, Up lt l → Up lt (insT lt x l)
  | [], _ => List.pairwise_singleton ..
  | y :: l, h => by
    obtain ⟨h1, h2⟩ := List.pairwise_cons.mp h
    unfold insT
    split
    · rename_i c
      refine List.pairwise_cons.mpr ⟨fun z hz => ?_, insT_up o x l h2⟩
      rcases List.mem_cons.mp ((insT_perm x l).mem_iff.mp hz) with rfl | hz
      · exact o.as _ _ c
      · exact h1 z hz
    · rename_i c
      have c : lt y x = false := by simpa using c
      refine List.pairwise_cons.mpr ⟨fun z hz => ?_, h⟩
      rcases List.mem_cons.mp hz with rfl | hz
      · exact c
      · exact o.tr _ _ _ c (h1 z hz)
theorem isort_up (o : Ord lt) : ∀ l : List α, Up lt (isort lt l)
  | [] => .nil
  | x :: l => insT_up o x _ (isort_up o l)
theorem up_uniq (o : Ord lt) : ∀ l m : List α, Up lt l → Up lt m → l.Perm m → l = m
  | [], m, _, _, p => (List.nil_perm.mp p).symm
  | x :: l, [], _, _, p => (List.perm_nil.mp p)
  | x :: l, y :: m, h, k, p => by
    obtain ⟨h1, h2⟩ := List.pairwise_cons.mp h
    obtain ⟨k1, k2⟩ := List.pairwise_cons.mp k
    have e : x = y := by
      rcases List.mem_cons.mp (p.mem_iff.mp List.mem_cons_self) with e | hx
      · exact e
      rcases List.mem_cons.mp (p.mem_iff.mpr (List.mem_cons_self (a := y))) with e | hy
      · exact e.symm
      exact o.an _ _ (k1 x hx) (h1 y hy)
    subst e
    rw [up_uniq o l m h2 k2 ((List.perm_cons x).mp p)]
theorem isort_eq (o : Ord lt) {l m : List α} (h : Up lt m) (p : m.Perm l) : m = isort lt l := up_uniq o _ _ h (isort_up o l) (p.trans (isort_perm l).symm)
end
theorem ltCps_tr : ∀ a b c : List Nat, ltCps b a = false → ltCps c b = false → ltCps c a = false
  | [], [], c, _, h => h
  | [], _ :: _, [], _, _ => rfl
  | [], x :: b, y :: c, _, _ => rfl
  | x :: a, [], c, h, _ => by simp [ltCps] at h
  | x :: a, y :: b, [], h, k => by simp [ltCps] at k
  | x :: a, y :: b, z :: c, h, k => by
    simp only [ltCps, Bool.or_eq_false_iff, Bool.and_eq_false_iff, decide_eq_false_iff_not, beq_eq_false_iff_ne] at *
    obtain ⟨h1, h2⟩ := h
    obtain ⟨k1, k2⟩ := k
    refine ⟨by omega, ?_⟩
    by_cases e : z = x
    · subst e
      have e2 : y = z := by omega
      subst e2
      exact .inr (ltCps_tr a b c (h2.resolve_left fun q => q rfl) (k2.resolve_left fun q => q rfl))
    · exact .inl e
theorem ltCps_an : ∀ a b : List Nat, ltCps a b = false → ltCps b a = false → a = b
  | [], [], _, _ => rfl
  | [], y :: b, h, _ => by simp [ltCps] at h
  | x :: a, [], _, h => by simp [ltCps] at h
  | x :: a, y :: b, h, k => by
    simp only [ltCps, Bool.or_eq_false_iff, Bool.and_eq_false_iff, decide_eq_false_iff_not, beq_eq_false_iff_ne] at *
    have e : x = y := by omega
    subst e
    rw [ltCps_an a b (h.2.resolve_left fun q => q rfl) (k.2.resolve_left fun q => q rfl)]
theorem ltCps_as : ∀ a b : List Nat, ltCps a b = true → ltCps b a = false
  | [], [], h => by simp [ltCps] at h
  | [], y :: b, _ => rfl
  | x :: a, [], h => by simp [ltCps] at h
  | x :: a, y :: b, h => by
    simp only [ltCps, Bool.or_eq_true, Bool.and_eq_true, decide_eq_true_eq, beq_iff_eq, Bool.or_eq_false_iff, Bool.and_eq_false_iff, decide_eq_false_iff_not, beq_eq_false_iff_ne] at *
    rcases h with h | ⟨rfl, h⟩
    · exact ⟨by omega, .inl (by omega)⟩
    · exact ⟨by omega, .inr (ltCps_as a b h)⟩
theorem ord_str : Ord ltCps := ⟨ltCps_tr, ltCps_an, ltCps_as⟩
def ltI (i j : Int) : Bool := decide (i < j)
theorem ord_int : Ord ltI := ⟨fun a b c h k => by simp [ltI] at *; omega, fun a b h k => by simp [ltI] at *; omega, fun a b h => by simp [ltI] at *; omega⟩
theorem rising_up : ∀ (p : Str) (l : List Str), risingS p l = true → Up ltCps ((p :: l).map fun x => x.cps.toList)
  | p, [], _ => List.pairwise_singleton ..
  | p, x :: r, h => by
    simp only [risingS, Bool.and_eq_true, Bool.not_eq_true'] at h
    have ih := rising_up x r h.2
    rw [List.map_cons]
    refine List.pairwise_cons.mpr ⟨fun z hz => ?_, ih⟩
    rw [List.map_cons] at ih hz
    rcases List.mem_cons.mp hz with rfl | hz
    · exact h.1
    · exact ltCps_tr _ _ _ h.1 ((List.pairwise_cons.mp ih).1 z hz)
theorem sortedS_up : ∀ (l : List Str), sortedS l = true → Up ltCps (l.map fun x => x.cps.toList)
  | [], _ => .nil
  | x :: r, h => rising_up x r h
theorem sortedS_eq {ys : List Str} {zs : List (List Nat)} (h : sortedS ys = true) (p : ys.Perm (zs.map fun z => (⟨z.toArray⟩ : Str))) : ys = (isort ltCps zs).map fun z => ⟨z.toArray⟩ := by
  have q := p.map fun x : Str => x.cps.toList
  rw [List.map_map] at q
  have e0 : (fun x : Str => x.cps.toList) ∘ (fun z : List Nat => (⟨z.toArray⟩ : Str)) = id := by funext z; simp
  rw [e0, List.map_id] at q
  rw [← isort_eq ord_str (sortedS_up ys h) q, List.map_map]
  conv => lhs; rw [← List.map_id ys]
  apply List.map_congr_left
  intro x _
  simp
def txts? : List D → Option (List (List Nat))
  | [] => some []
  | .str s :: r => (txts? r).map (s :: ·)
  | _ => none
def ints? : List D → Option (List Int)
  | [] => some []
  | .int s :: r => (ints? r).map (s :: ·)
  | _ => none
theorem txts_eq : ∀ {xs : List D} {ss : List (List Nat)}, txts? xs = some ss → xs = ss.map D.str
  | [], ss, h => by cases h; rfl
  | x :: r, ss, h => by
    cases x <;> first | (simp [txts?] at h; done) | skip
    rename_i s
    cases e : txts? r with
    | none => simp [txts?, e] at h
    | some t =>
      simp [txts?, e] at h
      subst h
      rw [txts_eq e]; rfl
theorem ints_eq : ∀ {xs : List D} {ss : List Int}, ints? xs = some ss → xs = ss.map D.int
  | [], ss, h => by cases h; rfl
  | x :: r, ss, h => by
    cases x <;> first | (simp [ints?] at h; done) | skip
    rename_i s
    cases e : ints? r with
    | none => simp [ints?, e] at h
    | some t =>
      simp [ints?, e] at h
      subst h
      rw [ints_eq e]; rfl
def sortDs (xs : List D) : R (List D) := if xs.length < 64 then (match txts? xs with
  | some ss => .ok ((isort ltCps ss).map D.str)
  | none => match ints? xs with
    | some is => .ok ((isort ltI is).map D.int)
    | none => .stuck) else .stuck
def sortedL : List D → R (List D)
  | [.lst xs] => sortDs xs
  | [.dic kvs] => sortDs (kvs.map (·.1))
  | _ => .stuck
section
variable {X : Cx} {G : Gm} {W : WX} {dl : Addr} {S : Hp}
theorem RepL.of_strs : ∀ (ss : List (List Nat)), RepL G dl S (ss.map D.str) ((ss.map fun z => (⟨z.toArray⟩ : Str)).map V.str)
  | [] => RepL.nil
  | s :: r => RepL.cons Rep.str_ (RepL.of_strs r)
theorem RepL.of_ints : ∀ (ss : List Int), RepL G dl S (ss.map D.int) (ss.map V.int)
  | [] => RepL.nil
  | s :: r => RepL.cons Rep.int_ (RepL.of_ints r)
theorem RepL.are_strs : ∀ {ss : List (List Nat)} {vs : List V}, RepL G dl S (ss.map D.str) vs → vs = (ss.map fun z => (⟨z.toArray⟩ : Str)).map V.str
  | [], vs, h => by unfold RepL at h; exact h
  | s :: r, vs, h => by
    rw [List.map_cons] at h
    unfold RepL at h
    obtain ⟨v, t, rfl, h1, h2⟩ := h
    unfold Rep at h1
    rw [h1, RepL.are_strs h2]; rfl
theorem RepL.are_ints : ∀ {ss : List Int} {vs : List V}, RepL G dl S (ss.map D.int) vs → vs = ss.map V.int
  | [], vs, h => by unfold RepL at h; exact h
  | s :: r, vs, h => by
    rw [List.map_cons] at h
    unfold RepL at h
    obtain ⟨v, t, rfl, h1, h2⟩ := h
    unfold Rep at h1
    rw [h1, RepL.are_ints h2]; rfl
theorem RepK.keys_str : ∀ {kvs : List (D × D)} {kv : List (Key × V)} {ss : List (List Nat)}, RepK G dl S kvs kv → kvs.map (·.1) = ss.map D.str → kv.map (·.1) = (ss.map fun z => (⟨z.toArray⟩ : Str)).map Sum.inr
  | [], kv, ss, h, e => by
    unfold RepK at h
    subst h
    cases ss with
    | nil => rfl
    | cons s t => cases e
  | (k, d) :: r, kv, ss, h, e => by
    unfold RepK at h
    obtain ⟨x, v, t, rfl, hk, _, h2⟩ := h
    cases ss with
    | nil => cases e
    | cons s ss =>
      have e := List.cons.inj e
      obtain ⟨e1, e2⟩ := e
      change k = .str s at e1
      subst e1
      cases hk
      rw [List.map_cons, RepK.keys_str h2 e2]; rfl
theorem RepK.keys_int : ∀ {kvs : List (D × D)} {kv : List (Key × V)} {ss : List Int}, RepK G dl S kvs kv → kvs.map (·.1) = ss.map D.int → kv.map (·.1) = ss.map Sum.inl
  | [], kv, ss, h, e => by
    unfold RepK at h
    subst h
    cases ss with
    | nil => rfl
    | cons s t => cases e
  | (k, d) :: r, kv, ss, h, e => by
    unfold RepK at h
    obtain ⟨x, v, t, rfl, hk, _, h2⟩ := h
    cases ss with
    | nil => cases e
    | cons s ss =>
      have e := List.cons.inj e
      obtain ⟨e1, e2⟩ := e
      change k = .int s at e1
      subst e1
      cases hk
      rw [List.map_cons, RepK.keys_int h2 e2]; rfl
theorem CallR.or_ {f : Value} {r1 r2 : List V → Hp → VK → Prop} (h1 : CallR X f r1) (h2 : CallR X f r2) : CallR X f (fun vs H Q => r1 vs H Q ∨ r2 vs H Q) := fun pins s sg H vs us Q I r q => q.elim (h1 pins s sg H vs us Q I r) (h2 pins s sg H vs us Q I r)
theorem cf_sorted (hG : G.K = X.K) (hc : X.calm = true) : CallF X G (.builtin "sorted") sortedL := by
  refine ⟨_, CallR.or_ (CallR.or_ cr_sortedS cr_sorted) (CallR.or_ (call_sortedD hc) (call_sortedDI hc)), fun dl Z O r sg ds vs H Q E A rl h => ?_⟩
  unfold sortedL at h
  split at h
  · obtain ⟨v, rfl, rp⟩ := rl.one
    obtain ⟨a, us, rfl, e, rl'⟩ := rp.lst
    unfold sortDs at h
    split at h
    case isFalse => exact h.elim
    rename_i xs hlen
    split at h
    · rename_i ss hss
      have := txts_eq hss
      subst this
      have := rl'.are_strs
      subst this
      refine .inl (.inl ⟨a, ss.map fun z => ⟨z.toArray⟩, rfl, SqL.of e, by simpa using hlen, fun ys p hp hs hf => ?_⟩)
      rw [sortedS_eq hs hp]
      exact h p _ H (.refl _ _) A.gl hf (RepL.of_strs _)
    · split at h
      · rename_i is his
        have := ints_eq his
        subst this
        have := rl'.are_ints
        subst this
        refine .inl (.inr ⟨a, is, rfl, SqL.of e, by simpa using hlen, fun ys p hp hs hf => ?_⟩)
        rw [isort_eq ord_int (hs.imp fun {a b} q => by simpa [ltI] using q) hp]
        exact h p _ H (.refl _ _) A.gl hf (RepL.of_ints _)
      · exact h.elim
  · obtain ⟨v, rfl, rp⟩ := rl.one
    obtain ⟨a, kv, rfl, hrd, rk⟩ := rp.dic
    unfold sortDs at h
    split at h
    case isFalse => exact h.elim
    rename_i kvs hlen
    split at h
    · rename_i ss hss
      have e := txts_eq hss
      refine .inr (.inl ⟨a, kv, ss.map fun z => ⟨z.toArray⟩, rfl, hrd, RepK.keys_str rk e, by rw [e] at hlen; simpa using hlen, fun ys p hp hs hf => ?_⟩)
      rw [sortedS_eq hs hp]
      exact h p _ H (.refl _ _) A.gl hf (RepL.of_strs _)
    · split at h
      · rename_i is his
        have e := ints_eq his
        refine .inr (.inr ⟨a, kv, is, rfl, hrd, RepK.keys_int rk e, by rw [e] at hlen; simpa using hlen, fun ys p hp hs hf => ?_⟩)
        rw [isort_eq ord_int (hs.imp fun {a b} q => by simpa [ltI] using q) hp]
        exact h p _ H (.refl _ _) A.gl hf (RepL.of_ints _)
      · exact h.elim
  · exact h.elim
variable {ex : Expr} {es : List Expr} {fs : LE → R (List D)} {gl : List D → R (List D)} {pos p : Pos} {x : Str} {id : String}
theorem df_callB (hc : CallF X G (.builtin id) gl) (hm : X.mg x = none) (hv : bootBuiltins x = some (.builtin id)) (ha : DAp X G W (ex :: es) fs) (hg : Gl X x := by rfl) (hn : x ≠ "__name__" := by decide) (hdb : (x == ("__debug__" : Str)) = false := by decide)
    (he : starEach (ex :: es) X.env = (false, eval ex X.env) :: starEach es X.env := by rfl) (hpl : (backTo pos (starEach es X.env)).any (·.1) = false := by rfl) : DF X G W (.Call (.Name x p) (ex :: es) [] pos) (fun r => fs r >>= gl) := by
  obtain ⟨rr, h1, h2⟩ := hc
  refine PE_imp (pe_callB h1 hg hm hv ha hn hdb he hpl) fun sg H Q ⟨dl, Z, O, r, A, q⟩ => ⟨dl, Z, O, r, A, q.bind.thn fun ds hd vs H1 g1 k1 rl => ?_⟩
  exact h2 dl Z O r sg ds vs H1 Q _ (A.grow g1 k1) rl (hd.thn fun d h p vs H' g' k' hp rl => h p vs H' (g1.trans g') k' hp rl)
end
end DL
set_option Elab.async false
set_option linter.all false
set_option maxRecDepth 100000
namespace DL
open PySem L2 PySem.Spec PyProof.Rows
theorem DpAll.at_ {K : PySem.W.Frag} {H : Hp} : ∀ {us : List V} {ds : List PyData} {j : Nat} {x : V} {z : PyData}, DpAll K H us ds → us[j]? = some x → ds[j]? = some z → Dp K H x z
  | _, _, j, x, z, .nil, e, _ => by simp at e
  | _, _, 0, x, z, .cons h _, e, e2 => by
    cases (show some _ = some x from e)
    cases (show some _ = some z from e2)
    exact h
  | _, _, j + 1, x, z, .cons _ h, e, e2 => DpAll.at_ (j := j) h (by simpa using e) (by simpa using e2)
end DL
set_option Elab.async false
set_option linter.all false
set_option maxRecDepth 100000
namespace DL
open PySem L2 PySem.Spec PyProof.Rows
end DL
set_option Elab.async false
set_option linter.all false
set_option maxRecDepth 100000
namespace DL
open PySem L2 PySem.Spec PyProof.Rows
def Mild {α : Type} (m : R α) : Prop := ∀ (Q : α → Prop) (E E' : Exc → Prop), Wp m Q E → Wp m Q E'
theorem Mild.ok {α : Type} (a : α) : Mild (R.ok a) := fun _ _ _ h => h
theorem Mild.stuck {α : Type} : Mild (R.stuck : R α) := fun _ _ _ h => h
theorem Mild.calm {α : Type} : ∀ (m : R α), Mild m.calm
  | .ok _ => fun _ _ _ h => h
  | .err _ => fun _ _ _ h => h
  | .stuck => fun _ _ _ h => h
  | .roll n k => fun Q E E' h i hi => Mild.calm (k i) Q E E' (h i hi)
theorem Mild.bind {α β : Type} {m : R α} {k : α → R β} (h : Mild m) (q : ∀ a, Mild (k a)) : Mild (m >>= k) := fun Q E E' w =>
  Wp.of_bind (h _ E E' (w.bind.thn fun a z => q a Q E E' z))
section
variable {X : Cx} {G : Gm} {W : WX} {tg iter : Expr} {f : LE → R D} {dl : Addr} {pos p apos cpos tpos : Pos} {elts : List Expr} {kk : Nat}
theorem keys_at {S S' : Hp} : ∀ {kvs : List (D × D)} {kv : List (Key × V)}, RepK G dl S kvs kv → ∀ (i : Nat) {e : D} {k : Key} {v : V}, (kvs.map (·.1))[i]? = some e → kv[i]? = some (k, v) → Rep G dl S' e (kV k)
  | [], kv, h, i, e, k, v, he, h1 => by simp at he
  | (q1, q2) :: kvs, kv, h, i, e, k, v, he, h1 => by
    unfold RepK at h
    obtain ⟨x, w, t, rfl, hk1, _, hk2⟩ := h
    cases i with
    | zero =>
      cases he
      cases h1
      cases q1 <;> first | (cases hk1; done) | skip
      · cases hk1; exact Rep.int_
      · cases hk1; exact Rep.str_
    | succ i => exact keys_at hk2 i (by simpa using he) (by simpa using h1)
theorem walk_keys {d : Addr} {o : Obj} {kv : List (Key × V)} {kvs : List (D × D)} : WalkS G dl (Itk d o kv) (kvs.map (·.1)) (fun Z H => cut H Z d = some (.frz o (.dK kv)) ∧ RepK G dl (cut H Z) kvs kv) where
  mono := fun Z Z' H H' g _ h => ⟨g d _ h.1 (fun ps z => by cases z), h.2.mono g⟩
  monoS := fun Z Z' H H' g h => ⟨g d _ h.1 (fun ps z => by cases z), h.2.mono g⟩
  go := fun i Z H h hi => by
    have := h.2.length
    rw [List.length_map] at hi
    exact ⟨(cut_some h.1).2, by omega⟩
  stop := fun i Z H h hi => by
    have := h.2.length
    rw [List.length_map] at hi
    exact ⟨(cut_some h.1).2, by omega⟩
  yld := fun i Z O r sg H x H' A h hy e he => by
    obtain ⟨rfl, k, v, h1, rfl⟩ := hy
    exact ⟨.refl _ _, fun _ k => k, keys_at h.2 i he h1⟩
end
theorem hu1 {k : Nat} {A : Around} (hr : Room k A) : A.units + 1 < cLine := by have := hr.un; omega
end DL
set_option Elab.async false
set_option linter.all false
set_option maxRecDepth 100000
namespace DL
open PySem L2 PySem.Spec PyProof.Rows
end DL
set_option Elab.async false
set_option linter.all false
set_option maxRecDepth 100000
namespace DL
open PySem
end DL
set_option Elab.async false
set_option linter.all false
set_option maxRecDepth 100000
namespace DL
open PySem L2 PySem.Spec PyProof.Rows
def lenX : List D → R D
  | [.dic kvs] => .ok (.int kvs.length)
  | ds => lenD ds
section
variable {X : Cx} {G : Gm} {W : WX}
theorem cr_lenK : CallR X (.builtin "len") (fun xs H Q => ∃ (a : Addr) (kvs : List (Key × V)), xs = [.ref a] ∧ Rd H a (.dK kvs) ∧ Q (.int kvs.length) H) := by
  intro pins s sg H xs us Q I r h
  obtain ⟨a, kvs, rfl, e, q⟩ := h
  obtain ⟨u, rfl, ru⟩ := vals1 r
  obtain rfl : u = Value.ref a := ru
  exact d_len I e fun t s' I' => ⟨.int _, H, I', ⟨t, rfl⟩, q⟩
theorem cd_lenX (hG : G.K = X.K) : CallD X G (.builtin "len") lenX := by
  obtain ⟨rr, h1, h2⟩ := cd_len (X := X) (G := G) hG
  refine ⟨_, CallR.or cr_lenK h1, fun dl Z O r sg ds vs H Q E A rl h => ?_⟩
  unfold lenX at h
  split at h
  · obtain ⟨v, rfl, rp⟩ := rl.one
    obtain ⟨a, kv, rfl, hrd, rk⟩ := rp.dic
    refine .inl ⟨a, kv, rfl, hrd, ?_⟩
    rw [rk.length]
    exact h _ H (.refl _ _) A.gl Rep.int_
  · exact .inr (h2 dl Z O r sg ds vs H Q E A rl h)
end
end DL
set_option Elab.async false
set_option linter.all false
set_option maxRecDepth 100000
namespace DL
theorem Wp_onS {α : Type} {Q : Out → Prop} {r : LE} {k : α → R Out} : ∀ {m : R α}, Wp m (fun a => Wp (k a) Q (fun _ => False)) (fun e => Q (.ex e r)) → Wp (m.onS r k) Q (fun _ => False)
  | .ok _, h => h
  | .err _, h => h
  | .stuck, h => h
  | .roll _ _, h => fun i hi => Wp_onS (h i hi)
theorem Wp_seq {F K : LE → R Out} {r : LE} {Q : Out → Prop} : Wp (F r) (fun o => match o with
    | .nx r' => Wp (K r') Q (fun _ => False)
    | o => Q o) (fun _ => False) → Wp (seqS F K r) Q (fun _ => False) := fun h => by
  rw [seqS_eq]
  refine Wp.of_bind (h.thn fun o ho => ?_)
  cases o <;> exact ho
theorem Wp_setK {i : Nat} {f : LE → R D} {r : LE} {Q : Out → Prop} (h : Wp (f r) (fun d => Q (.nx (r.set i (.val d)))) (fun e => Q (.ex e r))) : Wp (setK i (valK f) r) Q (fun _ => False) := by
  rw [setK_eq, valK_eq]
  refine Wp_onS ?_
  refine Wp.of_bind (Wp.of_bind (h.thn fun d hd => ?_))
  exact hd
/-- the ends of a body: ways P lets through -/
structure Go (P : Out → Prop) (F : LE → R Out) (r : LE) : Prop where
  h : Wp (F r) P (fun _ => False)
theorem Go.cons {P : Out → Prop} {S F K : LE → R Out} {r r2 : LE} (e : S = seqS F K) (h : F r = .ok (.nx r2)) (k : Go P K r2) : Go P S r := by
  subst e
  refine ⟨Wp_seq ?_⟩
  rw [h]
  exact k.h
abbrev Done (o : Out) : Prop := ∃ r, o = .nx r ∨ o = .ct r
end DL
set_option Elab.async false
set_option linter.all false
set_option maxRecDepth 100000
namespace DL
open PySem L2 PySem.Spec PyProof.Rows
def cutD {α : Type} (xs : List α) (lo hi : Option Int) : List α := (xs.drop (HT.sIx xs.length 0 lo)).take (HT.sIx xs.length xs.length hi - HT.sIx xs.length 0 lo)
def slI (x : D) (lo hi : Option Int) : R D := match x with
  | .str s => if s.length ≤ 16777216 then .ok (.str (cutD s lo hi)) else .stuck
  | .tup xs => .ok (.tup (cutD xs lo hi))
  | .lst xs => .ok (.lst (cutD xs lo hi))
  | _ => .stuck
def tO (G : Gm) (W : WX) (p : LE → R (Option Int)) : TO := fun sg H Q => ∃ dl Z O r, At G dl Z O r sg H ∧
  Wp (p r) (fun o => ∀ H', Grow dl H H' → GlOk G dl H' → Q o H') (fun e => ∀ cls dx H', Grow dl H H' → GlOk G dl H' → XRep G dl (cut H' Z) e cls dx H' → W cls dx sg H')
abbrev DO (X : Cx) (G : Gm) (W : WX) (e : Option Expr) (p : LE → R (Option Int)) : Prop := PO X e (tO G W p)
def noP : LE → R (Option Int) := fun _ => .ok none
def someP (f : LE → R D) : LE → R (Option Int) := fun r => f r >>= fun d => match d with
  | .int i => .ok (some i)
  | _ => .stuck
def sliceE (f : LE → R D) (l h : LE → R (Option Int)) : LE → R D := fun r => do let x ← f r; let a ← l r; let b ← h r; slI x a b
section
variable {X : Cx} {G : Gm} {W : WX} {a b : Expr} {f : LE → R D} {lo hi : Option Expr} {l h : LE → R (Option Int)} {pos p2 : Pos}
theorem PO_imp {e : Option Expr} {t t' : TO} (h : PO X e t) (i : ∀ sg H Q, t' sg H Q → t sg H Q) : PO X e t' := ⟨fun pins s sg H Q I q => h.run pins s sg H Q I (i _ _ _ q)⟩
theorem do_none : DO X G W none noP := PO_imp po_none fun sg H Q ⟨dl, Z, O, r, A, q⟩ => q H (.refl _ _) A.gl
theorem do_some (ha : DP X G W a f) : DO X G W (some a) (someP f) := PO_imp (po_some ha) fun sg H Q ⟨dl, Z, O, r, A, q⟩ => by
  refine ⟨dl, Z, O, r, A, q.bind.thn fun d hd v H1 g1 k1 rp => ?_⟩
  cases d <;> first | exact hd.elim | skip
  rename_i i
  exact ⟨i, rp.int, hd H1 g1 k1⟩
theorem RepL.cut_ {dl : Addr} {S : Hp} {ds : List D} {vs : List V} (rl : RepL G dl S ds vs) (lo hi : Option Int) : RepL G dl S (cutD ds lo hi) (cutV vs lo hi) := by
  unfold cutD cutV
  rw [rl.length]
  exact RepL.take _ (RepL.drop _ rl)
theorem cutS_of (s : List Nat) (lo hi : Option Int) : cutS ⟨s.toArray⟩ lo hi = ⟨(cutD s lo hi).toArray⟩ := by
  unfold cutS cutD
  simp [Str.length]
theorem cut_whole {α : Type} (xs : List α) (lo hi : Option Int) (h : HT.sIx xs.length 0 lo = 0 ∧ HT.sIx xs.length xs.length hi = xs.length) : cutD xs lo hi = xs := by
  unfold cutD
  rw [h.1, h.2]
  simp
theorem de_slice (hG : G.K = X.K) (ha : DP X G W a f) (hl : DO X G W lo l) (hh : DO X G W hi h) : DE X G W (.Subscript a (.Slice lo hi none p2) pos) (sliceE f l h) := by
  refine PE_imp (pe_slice (SlR.or (SlR.or sl_str sl_tupA) sl_list) ha hl hh) fun sg H Q ⟨dl, Z, O, r, A, q⟩ => ?_
  refine ⟨dl, Z, O, r, A, q.bind.thn fun x hx v H1 g1 k1 rp => ?_⟩
  have A1 := A.grow g1 k1
  refine ⟨dl, Z, O, r, A1, hx.bind.mono (fun o1 ho1 H2 g2 k2 => ?_) fun e => epost g1⟩
  have A2 := A1.grow g2 k2
  refine ⟨dl, Z, O, r, A2, ho1.bind.mono (fun o2 ho2 H3 g3 k3 => ?_) fun e => epost (g1.trans g2)⟩
  have A3 := A2.grow g3 k3
  have rp3 := rp.grow A1 (g2.trans g3)
  have g := (g1.trans g2).trans g3
  cases x <;> first | exact ho2.elim | skip
  · rename_i s
    change Wp (if s.length ≤ 16777216 then R.ok (D.str (cutD s o1 o2)) else R.stuck) _ _ at ho2
    split at ho2
    case isFalse => exact ho2.elim
    rename_i hz
    refine .inl (.inl ⟨⟨s.toArray⟩, rp3.str, by rw [sizeLine_eq]; simpa [Str.length] using hz, ?_⟩)
    rw [cutS_of]
    exact ho2 _ H3 g k3 Rep.str_
  · rename_i xs
    obtain ⟨p, us, rfl, hl, rl⟩ := rp3.lst
    refine .inr ⟨p, us, rfl, SqL.of hl, fun p' hp => ?_⟩
    exact ho2 _ _ (g.trans (.new hp)) (k3.new hp) (Rep.lst_new A3 hp (rl.cut_ o1 o2))
  · rename_i xs
    obtain ⟨p, us, rfl, hl, rl⟩ := rp3.tup
    have hlen := rl.length
    refine .inl (.inr ⟨p, us, rfl, hG ▸ hl, fun hw => ?_, fun hw p' hp => ?_⟩)
    · rw [hlen] at hw
      have e := cut_whole xs o1 o2 hw
      change Wp (R.ok (D.tup (cutD xs o1 o2))) _ _ at ho2
      rw [e] at ho2
      rcases rp3 with rp3 | ⟨_, _, _, _, own⟩
      · exact ho2 _ H3 g k3 rp3
      · exact own.elim
    · exact ho2 _ _ (g.trans (.new hp)) (k3.new hp) (Rep.tup_new A3 hp (rl.cut_ o1 o2))
end
end DL
set_option Elab.async false
set_option linter.all false
set_option maxRecDepth 100000
namespace DL
open PySem L2 PySem.Spec PyProof.Rows
def iaddD : D → D → R D
  | .int i, .int j => .ok (.int (i + j))
  | .str a, .str b => if a.length + b.length ≤ 16777216 then .ok (.str (a ++ b)) else .stuck
  | _, _ => .stuck
section
variable {X : Cx} {G : Gm} {W : WX} {a b : Expr} {f g : LE → R D} {pos pos' p : Pos} {x : Str}
theorem oi_add : OpD X G (inplaceOp .Add) iaddD := by
  refine ⟨_, OpR.or (opI0 (g := fun i j => i + j) fun _ _ _ _ _ _ _ q => iadd_int q) (in_addS : OpR X (inplaceOp .Add) rAddS), fun dl Z O r sg x y vx vy H Q E A hx hy h => ?_⟩
  unfold iaddD at h
  split at h
  · exact .inl ⟨_, _, hx.int, hy.int, h _ H (.refl _ _) A.gl Rep.int_⟩
  · split at h
    · rename_i a b hc
      refine .inr ⟨_, _, hx.str, hy.str, by rw [sizeLine_eq]; simpa [Str.length] using hc, ?_⟩
      rw [str_add]
      exact h _ H (.refl _ _) A.gl Rep.str_
    · exact h.elim
  · exact h.elim
theorem ds_aug (i : Nat) {op : Operator} {gg : D → D → R D} (ho : OpD X G (inplaceOp op) gg) (hN : X.N.Nodup) (he : DE X G W a f) (hi : X.N[i]? = some x := by rfl) (hx : Loc X.env.scope x := by first | exact Or.inl rfl | exact Or.inr rfl)
    (hf : X.fn x = true ∨ X.env.scope.names.lookup x = some .local := by first | exact .inl rfl | exact .inr rfl) : DS X G W (.AugAssign (.Name x pos') op a pos) (setK i (valK (opE gg (var i) f))) := by
  obtain ⟨rr, h1, h2⟩ := ho
  refine PS_imp (ps_aug hN hi hx he (ti := rr) h1 hf) fun De sg H ⟨dl, Z, O, r, A, q⟩ => ?_
  have q1 := (onS_wp q).bind.bind
  have hv : ∃ d, r[i]? = some (.val d) := by
    cases hc : r[i]? with
    | none => rw [show opE gg (var i) f r = (var i r >>= fun x => f r >>= fun y => gg x y) from rfl, var_eq, hc] at q1; exact q1.elim
    | some c =>
      cases c with
      | val d => exact ⟨d, rfl⟩
      | un => rw [show opE gg (var i) f r = (var i r >>= fun x => f r >>= fun y => gg x y) from rfl, var_eq, hc] at q1; exact q1.elim
      | own d => rw [show opE gg (var i) f r = (var i r >>= fun x => f r >>= fun y => gg x y) from rfl, var_eq, hc] at q1; exact q1.elim
  obtain ⟨d, hd⟩ := hv
  obtain ⟨v, hs, rp⟩ := A.slot i _ hd
  rw [show opE gg (var i) f r = (var i r >>= fun x => f r >>= fun y => gg x y) from rfl, var_eq, hd] at q1
  refine ⟨v, hs, dl, Z, O, r, A, (show Wp (f r >>= fun y => gg d y) _ _ from q1).bind.mono (fun y hy u H1 g1 k1 ru => ?_) fun e he => spost_ex A he⟩
  have A1 := A.grow g1 k1
  refine h2 dl Z O r sg d y v u H1 _ (fun e => SPost G W De dl Z O H (.ex e r)) A1 (.of (rp.mono (g1.cut A.dz))) (.of ru) (hy.thn fun z hz w H2 g2 k2 rw_ => ?_)
  exact hz Z O _ H2 (Stp.of_grow (g1.trans g2) k2) ((A1.grow g2 k2).set_val i rw_)
def sumD : List D → R D
  | [.lst xs] => (match ints? xs with
    | some is => .ok (.int is.sum)
    | none => .stuck)
  | _ => .stuck
theorem cd_sum (hG : G.K = X.K) (hc : X.calm = true) : CallD X G (.builtin "sum") sumD := by
  refine ⟨_, cr_sum hc, fun dl Z O r sg ds vs H Q E A rl h => ?_⟩
  unfold sumD at h
  split at h
  · obtain ⟨v, rfl, rp⟩ := rl.one
    obtain ⟨a, us, rfl, e, rl'⟩ := rp.lst
    split at h
    · rename_i is his
      have := ints_eq his
      subst this
      have := rl'.are_ints
      subst this
      exact ⟨a, is, rfl, SqL.of e, h _ H (.refl _ _) A.gl Rep.int_⟩
    · exact h.elim
  · exact h.elim
end
end DL
set_option Elab.async false
set_option linter.all false
set_option maxRecDepth 100000
set_option maxHeartbeats 1000000
namespace DL
open PySem L2 PySem.Spec PyProof.Rows GenW
/-- the context of a generator expression's frame, run over A; s, H: ahead of the frame; fp: the iterator's records -/
abbrev genCx (X : Cx) (A : Around) (s : Shared) (H : Hp) (env : Env) (fp : List Addr) : Cx :=
  { X with A := A, s_0 := s, H_0 := H, env := env, outer := X.stack, stack := env :: X.stack, ex := fp, fn := fun x => env.scope.names.lookup x == some .cell, calm := true, pn := [], xe := fun _ _ => False }
/-- its names -/
structure GenOk (scope : Scope) : Prop where
  co : scope.isCoroutine = false
  dot : scope.names.lookup (".0" : Str) = some NameKind.local
def genOkC (scope : Scope) : Bool := !scope.isCoroutine && decide (scope.names.lookup (".0" : Str) = some NameKind.local)
theorem genOk_by {scope : Scope} (h : genOkC scope = true) : GenOk scope := by
  unfold genOkC at h
  simp only [Bool.and_eq_true, Bool.not_eq_true', decide_eq_true_eq] at h
  exact ⟨h.1, h.2⟩
/-- the cells of a generator's frame at L -/
abbrev genCl (X : Cx) (scope : Scope) (L : Addr) : List (Str × Addr) := cellsFrom (L + 1) scope.names (cloFrom X.env.cells scope.names [])
/-- a frame laid at L -/
structure GenAt (names : List (Str × NameKind)) (clo : List (Str × Addr)) (L : Addr) (h0 h5 : Heap) : Prop where
  ns : ∃ m, h5.Ns L m
  kp : ∀ b o, h0.get? b = some o → h5.get? b = some o
  cells : ∀ y c, (cellsFrom (L + 1) names clo).lookup y = some c → (y, c) ∈ clo ∨ ((y, NameKind.cell) ∈ names ∧ L + 1 ≤ c ∧ h5.IsCell c none)
  sz : L < h5.objs.size
theorem GenAt.push {names : List (Str × NameKind)} {clo : List (Str × Addr)} {L : Addr} {h0 h5 h6 : Heap} (h : GenAt names clo L h0 h5) (k : ∀ b o, h5.get? b = some o → h6.get? b = some o) (hz : h5.objs.size ≤ h6.objs.size) : GenAt names clo L h0 h6 :=
  ⟨h.ns.elim fun m hm => ⟨m, hm.keeps k⟩, fun b o e => k b o (h.kp b o e), fun y c e => (h.cells y c e).elim .inl fun ⟨a, b, z⟩ => .inr ⟨a, b, z.keeps k⟩, Nat.lt_of_lt_of_le h.sz hz⟩
theorem gen_env {M : Model} {A : Around} {scope : Scope} {ql : Str} {it code : Value} {clo : List (Str × Addr)} {bi g : Addr} {E : Value → Shared → Prop} {Q : Env → Shared → Prop} {s : Shared} (h0 : scope.names.lookup (".0" : Str) = some NameKind.local) (hk : scope.kind = .function)
    (h : ∀ h5 tk, GenAt scope.names clo s.heap.objs.size s.heap h5 → Q (newEnv scope s.heap.objs.size g (cellsFrom (s.heap.objs.size + 1) scope.names clo) ql none code none bi) { s with heap := h5, toks := tk }) :
    wpAny M A (newFunctionEnv scope g clo [(".0", it)] ql none code none bi) Q E s := by
  simp only [newFunctionEnv, Option.isSome_none, Bool.false_eq_true, if_false]
  refine wpAny_bind (wpAny_alloc ?_)
  refine wpAny_bind (wpAny_layCells _ (fun name kind cells => by cases hkc : kind == NameKind.cell <;> simp [hkc]) _ _ _ _ ?_)
  have hz : (s.heap.push { cls := .type "frame", data := .dict #[] }).objs.size = s.heap.objs.size + 1 := Heap.size_push ..
  rw [show ({ s with heap := s.heap.push { cls := .type "frame", data := .dict #[] } } : Shared).heap.objs.size = s.heap.objs.size + 1 from hz]
  rw [List.forIn_cons]
  have hns : (pushCells (s.heap.push { cls := .type "frame", data := .dict #[] }) scope.names).Ns s.heap.objs.size fun _ => none := (Heap.Ns.new s.heap (.type "frame")).keeps (pushCells_keeps _ _)
  have hp : (scope.kind == .class || (scope.kind == .module && s.heap.objs.size != g)) = false := by rw [hk]; rfl
  refine wpAny_bind (wpAny_bind (wpAny_bind (wpAny_storeName_local (m := fun _ => none) h0 hns (fun h5 hn5 hs5 => wpAny_pure ?_) hp)))
  show wpAny M A (forIn [] _ _) _ _ _
  rw [List.forIn_nil]
  refine wpAny_pure (wpAny_pure (h h5 _ ⟨⟨_, hn5⟩, fun b o e => ?_, fun y c e => ?_, ?_⟩))
  · exact hs5.extBut b o (Nat.ne_of_lt (Heap.lt_size e)) (pushCells_keeps _ _ _ _ (Heap.get?_push_of_some _ e))
  · rw [← hz] at e
    rcases cells_mem (PySem.mem_of_lookup e) with hm | ⟨h1, h2, h3⟩
    · exact .inl hm
    · rw [hz] at h2
      exact .inr ⟨h1, h2, h3.sameBut hs5 (Nat.ne_of_gt h2)⟩
  · obtain ⟨o, _, _, ho, _⟩ := id hn5
    exact Heap.lt_size ho
section
variable {X : Cx} {pins : List (Addr × Obj)} {σ : L2.St} {H : Hp} {s : Shared}
theorem inv_gens {G : Array GenState} (I : Inv X pins σ H s) (hg : AllBare G) : Inv X pins σ H { s with gens := G } :=
  ⟨I.ok, I.os, hg, I.base, I.loc, I.cell, I.free, I.freeC, I.pin, I.hok, I.len⟩
theorem gen_start {A : Around} {scope : Scope} {own : List (Str × Nat)} {fp : List Addr} {code : Value} {h5 : Heap} {G : Array GenState} {tk : Nat} (I : Inv X pins σ H s) (ok : BlkOk X.N X.env.scope scope own) (hN : X.N.Nodup)
    (hfp : ∀ b ∈ fp, FpOk X pins H b ∧ b < s.heap.objs.size) (hh : A.handled = none) (hfr : A.frames = some (genEnv scope (genCl X scope s.heap.objs.size) s.heap.objs.size code builtinsNs X.env :: X.stack))
    (ga : GenAt scope.names (cloFrom X.env.cells scope.names []) s.heap.objs.size s.heap h5) (hG : AllBare G) :
    Inv (genCx X A s H (genEnv scope (genCl X scope s.heap.objs.size) s.heap.objs.size code builtinsNs X.env) fp) [] (wipe σ (own.map (·.2))) H { s with gens := G, toks := tk, heap := h5 } := by
  have kp := ga.kp
  have hfree : ∀ y ∈ scope.names, y.2 = .free → ∃ c, X.env.cells.lookup y.1 = some c := fun y hy e => by
    rcases ok.free y hy e with k | k
    · exact I.ok.has _ (.inl k)
    · exact I.ok.has _ (.inr k)
  have cm : ∀ {y c}, (y, c) ∈ cloFrom X.env.cells scope.names [] → X.env.cells.lookup y = some c ∧ c < s.heap.objs.size := fun {y c} hm => by
    rcases cloFrom_mem hm with hm | ⟨h1, h2⟩
    · cases hm
    · obtain ⟨c1, hc⟩ := hfree _ h1 rfl
      have hc : X.env.cells.lookup y = some c1 := hc
      have e2 : c = c1 := by
        rw [h2, hc] <;> rfl
      obtain ⟨w, z⟩ := I.cell _ _ hc
      rw [e2]
      exact ⟨hc, z.lt⟩
  have mem : ∀ {y c}, (genCl X scope s.heap.objs.size).lookup y = some c → (X.env.cells.lookup y = some c ∧ c < s.heap.objs.size) ∨ ((y, NameKind.cell) ∈ scope.names ∧ s.heap.objs.size + 1 ≤ c ∧ h5.IsCell c none) := fun {y c} e => (ga.cells y c e).elim (fun hm => .inl (cm hm)) .inr
  have look : ∀ {y}, scope.names.lookup y = some .free → ∃ c, (genCl X scope s.heap.objs.size).lookup y = some c ∧ X.env.cells.lookup y = some c := fun {y} hl => by
    have hy : (y, NameKind.free) ∈ scope.names := PySem.mem_of_lookup hl
    obtain ⟨c', e'⟩ := mem_lookup (cells_acc (names := scope.names) (n := s.heap.objs.size + 1) (cloFrom_has (cells := X.env.cells) (acc := []) hy))
    refine ⟨c', e', ?_⟩
    rcases ga.cells y c' e' with hm | ⟨h1, _, _⟩
    · exact (cm hm).1
    · have := ok.uniq _ h1
      rw [hl] at this; cases this
  have cellK : ∀ {c : Addr} {v : Option Value}, s.heap.IsCell c v → h5.IsCell c v := fun {c v} ⟨o, ho, hd⟩ => ⟨o, kp _ _ ho, hd⟩
  obtain ⟨m5, hns⟩ := ga.ns
  refine ⟨⟨I.ok.mod, ok.kind, I.ok.glob, rfl, Nat.le_refl _, fun y z c e1 e2 => ?_, fun y hy => ?_, fun y c z e => ?_, fun _ => hh, hfr, .inr ⟨rfl, rfl⟩, fun b hb => ⟨?_, fun y c e z => ?_⟩, I.bs, Nat.le_trans I.ok.bsz I.sz, fun b o e hb => ?_, fun b hb z => ?_, I.stack, I.stkFree⟩,
    rfl, hG, Un.kept kp, ⟨_, hns, fun i y av e1 e2 e3 => ?_⟩, fun y c e => ?_, I.hok.fresh (Nat.le_refl _), fun y c e => ?_, fun q hq => absurd (show q ∈ ([] : List (Addr × Obj)) ++ [] from hq) (by simp), I.hok.kept kp, by rw [wipe_length]; exact I.len⟩
  · have e1 : (cellsFrom (s.heap.objs.size + 1) scope.names (cloFrom X.env.cells scope.names [])).lookup y = some c := e1
    have e2 : (cellsFrom (s.heap.objs.size + 1) scope.names (cloFrom X.env.cells scope.names [])).lookup z = some c := e2
    have hz : (s.heap.push { cls := .type "frame", data := .dict #[] }).objs.size = s.heap.objs.size + 1 := Heap.size_push ..
    rw [← hz] at e1 e2
    refine cells_inj (fun p hp => ?_) (fun y z c a b => I.ok.inj y z c (cm a).1 (cm b).1) (PySem.mem_of_lookup e1) (PySem.mem_of_lookup e2)
    rw [hz]
    exact Nat.lt_succ_of_lt (cm (y := p.1) (c := p.2) hp).2
  · have hy : scope.names.lookup y = some .cell ∨ scope.names.lookup y = some .free := hy
    rcases hy with hy | hy
    · obtain ⟨c, hm⟩ := cells_has (n := s.heap.objs.size + 1) (acc := cloFrom X.env.cells scope.names []) (PySem.mem_of_lookup hy)
      exact mem_lookup hm
    · obtain ⟨c, h1, _⟩ := look hy
      exact ⟨c, h1⟩
  · have z : (scope.names.lookup y == some NameKind.cell) = true := z
    have z : scope.names.lookup y = some .cell := by simpa using z
    rcases ga.cells y c e with hm | ⟨_, h2, _⟩
    · rcases cloFrom_mem hm with hm | ⟨h1, _⟩
      · cases hm
      · have q := ok.uniq _ h1
        rw [z] at q; cases q
    · exact Nat.le_of_succ_le h2
  · exact Nat.ne_of_lt (hfp b hb).2
  · rcases mem e with ⟨h1, _⟩ | ⟨_, h1, _⟩
    · exact (hfp b hb).1.2.2.2.2.1 y c h1 z
    · have h2 : s.heap.objs.size + 1 ≤ b := by rw [← z]; exact h1
      exact absurd (Nat.lt_of_lt_of_le (hfp b hb).2 (Nat.le_of_succ_le h2)) (Nat.lt_irrefl _)
  · rcases (hfp b hb).1.2.2.2.1 with z | z
    · exact I.ok.noex b o e z
    · exact absurd (Nat.lt_of_lt_of_le (Heap.lt_size e) (Nat.le_trans I.ok.bsz z)) (Nat.lt_irrefl _)
  · rcases List.mem_cons.mp (I.stkSub b z) with z | z
    · exact (hfp b hb).1.2.1 z
    · exact (hfp b hb).1.2.2.1 z
  · obtain ⟨e2, hne⟩ := wipe_some e2
    have hfr : scope.names.lookup y = some .free := by
      have no : ¬ (scope.names.lookup y = some .local ∨ scope.names.lookup y = some .cell) := fun hh => by
        have hm : (y, NameKind.local) ∈ scope.names ∨ (y, NameKind.cell) ∈ scope.names := hh.elim (fun z => .inl (PySem.mem_of_lookup z)) fun z => .inr (PySem.mem_of_lookup z)
        have e' : y ∈ own.map (·.1) ∨ y ∉ X.N := hm.elim (fun z => ok.own _ z (.inl rfl)) fun z => ok.own _ z (.inr rfl)
        rcases e' with e' | e'
        · obtain ⟨p, hp, hpy⟩ := List.mem_map.mp e'
          have e3 := ok.ix p hp
          have : p.1 = y := hpy
          rw [this] at e3
          exact hne (List.mem_map.mpr ⟨p, hp, nodup_ix hN e3 e1⟩)
        · exact e' (List.mem_of_getElem? e1)
      have e3 : Vis scope y := e3
      rcases e3 with e3 | e3 | e3
      · exact (no (.inl e3)).elim
      · exact (no (.inr e3)).elim
      · exact e3
    obtain ⟨m, hn, hl⟩ := I.loc
    have hvis : Vis X.env.scope y := (ok.free _ (PySem.mem_of_lookup hfr) rfl).elim (fun k => .inr (.inl k)) (fun k => .inr (.inr k))
    obtain ⟨w, r, q⟩ := hl i y av e1 e2 hvis
    obtain ⟨c2, h2, c1⟩ := look hfr
    refine ⟨w, r, .inr ⟨.inr hfr, c2, h2, ?_⟩⟩
    rcases q with ⟨k, _⟩ | ⟨_, c', e', z⟩
    · have k : X.env.scope.names.lookup y = some .local := k
      rcases ok.free _ (PySem.mem_of_lookup hfr) rfl with k' | k' <;> rw [show X.env.scope.names.lookup y = _ from k'] at k <;> cases k
    · rw [c1] at e'
      cases e'
      exact cellK z
  · rcases mem e with ⟨h1, _⟩ | ⟨_, _, z⟩
    · obtain ⟨w, z⟩ := I.cell y c h1
      exact ⟨w, cellK z⟩
    · exact ⟨_, z⟩
  · rcases mem e with ⟨h1, _⟩ | ⟨_, h1, _⟩
    · exact I.freeC y c h1
    · exact I.hok.fresh (Nat.le_of_succ_le h1)
end
end DL
set_option Elab.async false
set_option linter.all false
set_option maxRecDepth 100000
set_option maxHeartbeats 1000000
namespace DL
open PySem L2 PySem.Spec PyProof.Rows GenW
/-- the consumer's turn while the generator sleeps: only its own records at S change -/
structure Slp (S : List Addr) (s s' : Shared) : Prop where
  os : s'.os = s.os
  bare : AllBare s'.gens
  keep : ∀ b o, b ∉ S → s.heap.get? b = some o → s'.heap.get? b = some o
/-- the consumer's records as they stand -/
structure Held (S : List Addr) (ps : List (Addr × Obj)) (s : Shared) : Prop where
  at_ : ps.map (·.1) = S
  ok : ∀ p ∈ ps, s.heap.get? p.1 = some p.2 ∧ ∀ v, p.2.data ≠ .cell v
/-- the generator's own things: Xg its context, pa its object (pinned), S the consumer's records, the iterator -/
structure Ge where
  Xg : Cx
  pa : Addr × Obj
  S : List Addr
  σ0 : L2.St
  fp : List Addr
  it : Addr
  tn : Nat → Heap → Prop
  J : It
  vs : List Nat
/-- between two turns -/
structure GInv (g : Ge) (i : Nat) (ps : List (Addr × Obj)) (H : Hp) (s : Shared) : Prop where
  at_ : ps.map (·.1) = g.S
  inv : Inv g.Xg (g.pa :: ps) g.σ0 H s
  tn : g.tn i s.heap
  fp : ∀ b ∈ g.fp, H b = none
/-- at the end -/
structure GEnd (g : Ge) (ps : List (Addr × Obj)) (H : Hp) (s : Shared) : Prop where
  at_ : ps.map (·.1) = g.S
  inv : Inv g.Xg (g.pa :: ps) g.σ0 H s
  fp : ∀ b ∈ g.fp, H b = none
theorem GInv.end {g : Ge} {i : Nat} {ps : List (Addr × Obj)} {H : Hp} {s : Shared} (h : GInv g i ps H s) : GEnd g ps H s := ⟨h.at_, h.inv, h.fp⟩
theorem GEnd.held {g : Ge} {ps : List (Addr × Obj)} {H : Hp} {s : Shared} (h : GEnd g ps H s) : Held g.S ps s := ⟨h.at_, fun p hp =>
  let z := h.inv.pin p (List.mem_append_right _ (List.mem_cons_of_mem _ hp)); ⟨z.1, z.2.2.2.2⟩⟩
structure GeOk (g : Ge) (tg : Expr) : Prop where
  pn : g.Xg.pn = []
  ex : g.Xg.ex = g.fp
  calm : g.Xg.calm = true
  xe : g.Xg.xe = fun _ _ => False
  turn : Turn g.Xg.prog g.Xg.w g.Xg.K tg g.J g.fp g.it g.tn
  apart : ∀ b ∈ g.S, g.Xg.s_0.heap.objs.size ≤ b ∧ b ≠ g.Xg.env.locals ∧ b ≠ g.pa.1 ∧ b ∉ g.fp ∧ ∀ x c, g.Xg.env.cells.lookup x = some c → c ≠ b
  gen : g.pa.1 ∉ g.fp
section
variable {g : Ge} {tg : Expr} {i : Nat} {H : Hp} {s s' : Shared} {ps ps' : List (Addr × Obj)}
theorem GeOk.fpok (k : GeOk g tg) {σ' : L2.St} {ps : List (Addr × Obj)} (hps : ps.map (·.1) = g.S) (I : Inv g.Xg (g.pa :: ps) σ' H s) (hn : ∀ b ∈ g.fp, H b = none) : ∀ b ∈ g.fp, FpOk g.Xg (g.pa :: ps) H b := fun b hb => by
  have hx : b ∈ g.Xg.ex := by rw [k.ex]; exact hb
  refine ⟨hn b hb, (I.ok.exf b hx).1, I.ok.exfs b hx, .inl hx, fun x c e => (I.ok.exf b hx).2 x c e, fun p hp => ?_⟩
  rw [k.pn, List.nil_append] at hp
  rcases List.mem_cons.mp hp with z | z
  · rw [z]
    exact fun e => k.gen (by rw [e]; exact hb)
  · have hm : p.1 ∈ g.S := by rw [← hps]; exact List.mem_map.mpr ⟨p, z, rfl⟩
    exact fun e => (k.apart p.1 hm).2.2.2.1 (by rw [e]; exact hb)
/-- behind the consumer's turn -/
theorem GInv.slept (k : GeOk g tg) (h : GInv g i ps H s) (z : Slp g.S s s') (hd : Held g.S ps' s') : GInv g i ps' H s' := by
  obtain ⟨hps, I, st, hn⟩ := h
  have pinS : ∀ b ∈ g.S, ∃ o, s.heap.get? b = some o ∧ H b = none ∧ b ≠ g.Xg.env.locals ∧ b ∉ g.Xg.fs := fun b hb => by
    rw [← hps] at hb
    obtain ⟨p, hp, e⟩ := List.mem_map.mp hb
    obtain ⟨h1, h2, h3, h4, _⟩ := I.pin p (List.mem_append_right _ (List.mem_cons_of_mem _ hp))
    rw [← e]
    exact ⟨_, h1, h2, h3, h4⟩
  have pinA := I.pin g.pa (List.mem_append_right _ List.mem_cons_self)
  have I0 : Inv g.Xg [g.pa] g.σ0 H s := I.pins_of fun p hp => by
    rw [List.mem_singleton.mp hp]
    exact pinA
  have nt : ∀ b u, H b = some u → b ∉ g.S := fun b u q hb => by
    obtain ⟨_, _, h2, _⟩ := pinS b hb
    rw [h2] at q; cases q
  have hz := z
  obtain ⟨z1, z2, z3⟩ := z
  obtain ⟨hh, G, d, t, o⟩ := s'
  have ho : o = s.os := z1
  subst ho
  have J : Inv g.Xg [g.pa] g.σ0 H { s with heap := hh, gens := G, drawn := d, toks := t } := by
    refine I0.step (g' := G) (t' := t) (d' := d) (ch := g.S) (fun b hb => ?_)
      (fun b ob _ _ hc q _ => z3 b ob hc q) (fun b ob _ _ hc q _ => ⟨ob.slots, z3 b ob hc q⟩) (fun _ _ _ _ n => n) (fun b ob hc q => ⟨ob, z3 b ob hc q⟩)
      (fun _ _ q => q) (fun _ _ _ q => q) (fun b ps q => ⟨#[], by rw [q]; simp⟩) (fun m hm => ?_) (fun b u q => ?_) z2
    · obtain ⟨a1, a2, a3, a4, a5⟩ := k.apart b hb
      refine ⟨.inr a1, a2, a5, fun p hp => ?_⟩
      rw [k.pn, List.nil_append] at hp
      rw [List.mem_singleton.mp hp]
      exact fun e => a3 e.symm
    · obtain ⟨ob, es, ep, ho, r⟩ := hm
      exact ⟨ob, es, ep, z3 _ ob (fun hb => (k.apart _ hb).2.1 rfl) ho, r⟩
    · refine (I0.hok b u q).stay (fun c v hc y => z3 c v ?_ y) (fun _ y => y) fun _ _ y => y
      rcases hc with y | y
      · rw [y]; exact nt b u q
      · exact nt c _ y
  have hp' : ∀ p ∈ ps', hh.get? p.1 = some p.2 ∧ H p.1 = none ∧ p.1 ≠ g.Xg.env.locals ∧ p.1 ∉ g.Xg.fs ∧ ∀ v, p.2.data ≠ .cell v := fun p hp => by
    obtain ⟨q1, q2⟩ := hd.ok p hp
    obtain ⟨_, _, h2, h3, h4⟩ := pinS p.1 (by rw [← hd.at_]; exact List.mem_map.mpr ⟨p, hp, rfl⟩)
    exact ⟨q1, h2, h3, h4, q2⟩
  refine ⟨hd.at_, J.pins_of fun p hp => ?_, k.turn.keep _ _ _ st fun b hb o e => z3 b o (fun hb2 => (k.apart b hb2).2.2.2.1 hb) e, hn⟩
  rcases List.mem_cons.mp hp with z | z
  · rw [z]
    exact J.pin g.pa (List.mem_append_right _ List.mem_cons_self)
  · exact hp' p z
/-- what is told at a yield, at the end -/
def GYld (g : Ge) (N : Nat) (Rest : Nat → List (Addr × Obj) → Hp → Prop) (Yl : Nat → List (Addr × Obj) → V → Hp → Prop) : Protocol := fun n s₀ v s kap =>
  ∃ i x H ps, N ≤ n + (i + 1) ∧ RelV x v ∧ GInv g (i + 1) ps H s ∧ Held g.S ps s₀ ∧ Yl i ps x H ∧ ∀ s' ps', Slp g.S s s' → Held g.S ps' s' → Rest (i + 1) ps' H → kap (.send .none) s'
abbrev GDn (g : Ge) (Dn : List (Addr × Obj) → Hp → Prop) : GenEnd := fun n s₀ r s => r = .ok .next ∧ ∃ H ps, GEnd g ps H s ∧ Held g.S ps s₀ ∧ Dn ps H
theorem compTurn_ge (elt target iter : Expr) (ifs : List Expr) (scope : Scope) (pos : Pos) (it acc : Value) (env : Env) :
    compTurn (.GeneratorExp elt [⟨target, iter, ifs, 0⟩] scope pos) 0 it acc env = (do
      standAt iter.pos
      match ← pyNext it with
      | none => pure (.done .next)
      | some v =>
        letOwnedTupleGo target it v
        assign target env v
        let ok ← forIn ifs true fun c r => if r = true then do let ok ← isTrue c env (eval c env); pure (ForInStep.yield ok) else pure (ForInStep.yield r)
        if ok then
          (do let v ← eval elt env; standAt elt.pos; let _ ← yieldOut env v)
        again (.compLoop (.GeneratorExp elt [⟨target, iter, ifs, 0⟩] scope pos) 0 it acc env)) := by rfl
theorem seg_ge {A : Around} {elt iter : Expr} {ifs : List Expr} {scope : Scope} {pos : Pos} {gd : TG} {tt : TT} {te : TE} {N : Nat} {Rest : Nat → List (Addr × Obj) → Hp → Prop} {Dn : List (Addr × Obj) → Hp → Prop} {Yl : Nat → List (Addr × Obj) → V → Hp → Prop} (k : GeOk g tg)
    (hA : A.over (.compLoop (.GeneratorExp elt [⟨tg, iter, ifs, 0⟩] scope pos) 0 (.ref g.it) .none g.Xg.env) [] = g.Xg.A) (hco : g.Xg.env.scope.isCoroutine = false)
    (hg : PG g.Xg tg gd) (ht : PTs g.Xg ifs tt) (he : PE g.Xg elt te) (hw0 : wipe g.σ0 g.vs = g.σ0)
    (turn : ∀ i ps H, ps.map (·.1) = g.S → Rest i ps H → (g.J.stop i H ∧ Dn ps H) ∨ (i < N ∧ g.J.go i H ∧ ∀ x H', g.J.yld i H x H' → gd x g.σ0 H' fun σ2 H2 => wipe σ2 g.vs = g.σ0 ∧ tt σ2 H2 fun b H3 => if b = true then te σ2 H3 fun y H4 => Yl i ps y H4 else Rest (i + 1) ps H3)) :
    ∀ (m i n : Nat) (s₀ s : Shared) (H : Hp) (ps : List (Addr × Obj)), N - i = m → m ≤ n → GInv g i ps H s → Held g.S ps s₀ → Rest i ps H →
      Seg (model g.Xg.prog g.Xg.w) A (GDn g Dn) (GYld g N Rest Yl) n s₀ (.compLoop (.GeneratorExp elt [⟨tg, iter, ifs, 0⟩] scope pos) 0 (.ref g.it) .none g.Xg.env)
        ((model g.Xg.prog g.Xg.w).den (.compLoop (.GeneratorExp elt [⟨tg, iter, ifs, 0⟩] scope pos) 0 (.ref g.it) .none g.Xg.env)) [] s := by
  have noE : ∀ {α : Type} {Kx : Value → Shared → Prop} {t : Sem α} {Q : α → Shared → Prop} {s : Shared}, wpAny (model g.Xg.prog g.Xg.w) g.Xg.A t Q g.Xg.xe s → wpAny (model g.Xg.prog g.Xg.w) g.Xg.A t Q Kx s := fun h => by
    rw [k.xe] at h
    exact wpAny_mono h (fun _ _ e => e) fun _ _ e => e.elim
  have stop_ : ∀ (i n : Nat) (s₀ s : Shared) (H : Hp) (ps : List (Addr × Obj)), GInv g i ps H s → Held g.S ps s₀ → g.J.stop i H → Dn ps H →
      Seg (model g.Xg.prog g.Xg.w) A (GDn g Dn) (GYld g N Rest Yl) n s₀ (.compLoop (.GeneratorExp elt [⟨tg, iter, ifs, 0⟩] scope pos) 0 (.ref g.it) .none g.Xg.env)
        ((model g.Xg.prog g.Xg.w).den (.compLoop (.GeneratorExp elt [⟨tg, iter, ifs, 0⟩] scope pos) 0 (.ref g.it) .none g.Xg.env)) [] s := by
    intro i n s₀ s H ps hI h0 stop hd
    obtain ⟨hps, I, st, hnn⟩ := hI
    show Seg _ A _ _ _ s₀ _ ((compTurn (.GeneratorExp elt [⟨tg, iter, ifs, 0⟩] scope pos) 0 (.ref g.it) .none g.Xg.env).onRaise (leaving g.Xg.env)) [] s
    rw [compTurn_ge, Sem.onRaise_eq_wrap]
    refine seg_bind_wrap (wpAny_standAt ?_)
    refine seg_bind_wrap ?_
    rw [hA]
    refine thn (k.turn.done g.Xg rfl rfl rfl k.calm i _ s _ H _ I (k.fpok hps I hnn) st stop) fun r s1 ⟨hr, I1⟩ => ?_
    subst hr
    exact seg_end (.ok .next) ⟨rfl, H, ps, ⟨hps, I1, hnn⟩, h0, hd⟩
  intro m
  induction m with
  | zero =>
    intro i n s₀ s H ps hm hn hI h0 hR
    rcases turn i ps H hI.at_ hR with ⟨stop, hd⟩ | ⟨hlt, _⟩
    · exact stop_ i n s₀ s H ps hI h0 stop hd
    · omega
  | succ m ih =>
    intro i n s₀ s H ps hm hn hI h0 hR
    rcases turn i ps H hI.at_ hR with ⟨stop, hd⟩ | ⟨hlt, go, step⟩
    · exact stop_ i n s₀ s H ps hI h0 stop hd
    obtain ⟨hps, I, st, hnn⟩ := hI
    obtain ⟨n, rfl⟩ : ∃ n', n = n' + 1 := ⟨n - 1, by omega⟩
    show Seg _ A _ _ _ s₀ _ ((compTurn (.GeneratorExp elt [⟨tg, iter, ifs, 0⟩] scope pos) 0 (.ref g.it) .none g.Xg.env).onRaise (leaving g.Xg.env)) [] s
    rw [compTurn_ge, Sem.onRaise_eq_wrap]
    refine seg_bind_wrap (wpAny_standAt ?_)
    refine seg_bind_wrap ?_
    rw [hA]
    refine thn (k.turn.item g.Xg rfl rfl rfl k.calm i _ s _ H _ I (k.fpok hps I hnn) st go) fun r s1 ⟨u, hr, h1⟩ => ?_
    subst hr
    refine seg_bind_wrap ?_
    rw [hA]
    refine thn h1 fun _ s2 ⟨x, H2, I2, r2, y2, st2, n2⟩ => ?_
    have I2' := I2.pinned (k.fpok hps I2 n2) (k.turn.obj _ _ st2)
    refine seg_bind_wrap ?_
    rw [hA]
    refine noE (thn (hg.run _ s2 _ H2 x u _ I2' r2 (step x H2 y2)) fun _ s3 ⟨σ3, H3, I3, hw3, q3⟩ => ?_)
    refine seg_bind_wrap ?_
    rw [hA]
    refine noE (thn (ht.run _ s3 σ3 H3 _ I3 q3) fun b s4 ⟨H4, I4, q4⟩ => ?_)
    -- the turn's end
    have fin : ∀ {s' : Shared} {H' : Hp}, Inv g.Xg (g.pa :: ps ++ pinsAt g.fp s2.heap) σ3 H' s' → GInv g (i + 1) ps H' s' := fun {s' H'} I' => by
      have pin' : ∀ b ∈ g.fp, ∀ o, s2.heap.get? b = some o → s'.heap.get? b = some o ∧ H' b = none := fun b hb o e =>
        let z := I'.pin (b, o) (List.mem_append_right _ (List.mem_append_right _ (mem_pinsAt hb e)))
        ⟨z.1, z.2.1⟩
      have hl : g.σ0.length = σ3.length := by rw [← hw3, wipe_length]
      refine ⟨hps, (I'.unpinned (pins := g.pa :: ps)).weak hl (fun j v e => ?_), k.turn.keep _ _ _ st2 fun b hb o e => (pin' b hb o e).1, fun b hb => ?_⟩
      · rw [← hw3] at e
        exact (wipe_some e).1
      · obtain ⟨o, e, _⟩ := k.turn.obj _ _ st2 b hb
        exact (pin' b hb o e).2
    cases b with
    | false =>
      simp only [Bool.false_eq_true, if_false] at q4 ⊢
      exact seg_again rfl (ih (i + 1) (n + 1) s₀ s4 H4 ps (by omega) (by omega) (fin I4) h0 q4)
    | true =>
      simp only [if_true] at q4 ⊢
      have hy : ∀ v, yieldOut g.Xg.env v = yieldValue v := fun v => by simp only [yieldOut, hco, Bool.false_eq_true, if_false]
      simp only [hy]
      rw [Sem.bind_eq_wrap', Sem.bind_eq_wrap', Sem.wrap_wrap, Sem.wrap_wrap]
      refine seg_wrap ?_
      rw [hA]
      refine noE (thn (he.run _ s4 σ3 H4 _ I4 q4) fun z s5 ⟨yv, H5, I5, r5, q5⟩ => ?_)
      refine seg_at (seg_yield rfl rfl rfl ⟨i, yv, H5, ps, by omega, r5, fin I5, h0, q5, fun s'' ps' hz hd' hR' => ?_⟩)
      exact seg_again rfl (ih (i + 1) n s'' s'' H5 ps' (by omega) (by omega) ((fin I5).slept k hz hd') hd' hR')
theorem seg_ge0 {A : Around} {elt iter : Expr} {ifs : List Expr} {scope : Scope} {pos : Pos} {N n : Nat} {Rest : Nat → List (Addr × Obj) → Hp → Prop} {Dn : List (Addr × Obj) → Hp → Prop} {Yl : Nat → List (Addr × Obj) → V → Hp → Prop} {s₀ : Shared} (k : GeOk g tg)
    (hI : GInv g 0 ps H s)
    (loop : Seg (model g.Xg.prog g.Xg.w) A (GDn g Dn) (GYld g N Rest Yl) n s₀ (.compLoop (.GeneratorExp elt [⟨tg, iter, ifs, 0⟩] scope pos) 0 (.ref g.it) .none g.Xg.env)
        ((model g.Xg.prog g.Xg.w).den (.compLoop (.GeneratorExp elt [⟨tg, iter, ifs, 0⟩] scope pos) 0 (.ref g.it) .none g.Xg.env)) [] s) :
    Seg (model g.Xg.prog g.Xg.w) A (GDn g Dn) (GYld g N Rest Yl) n s₀ (.compStart (.GeneratorExp elt [⟨tg, iter, ifs, 0⟩] scope pos) 0 (.ref g.it) .none g.Xg.env)
        ((model g.Xg.prog g.Xg.w).den (.compStart (.GeneratorExp elt [⟨tg, iter, ifs, 0⟩] scope pos) 0 (.ref g.it) .none g.Xg.env)) [] s := by
  obtain ⟨hps, I, st, hnn⟩ := hI
  show Seg _ A _ _ _ s₀ _ ((compStart (.GeneratorExp elt [⟨tg, iter, ifs, 0⟩] scope pos) 0 (.ref g.it) .none g.Xg.env).onRaise (leaving g.Xg.env)) [] s
  unfold compStart
  rw [Sem.onRaise_eq_wrap]
  show Seg _ A _ _ _ s₀ _ ((ask >>= _).wrap _ _ _ _) [] s
  refine seg_bind_wrap (wpAny_askSetting ?_)
  split
  · exact seg_again rfl loop
  · first
      | exact seg_bind_wrap (wpAny_rule (seg_bind_wrap (wpAny_standAt (seg_bind_wrap (k.turn.self _ 0 s _ _ st (seg_again rfl loop))))))
      | (refine seg_bind_wrap (wpAny_rule ?_); show Seg _ A _ _ _ s₀ _ ((standAt iter.pos >>= _).wrap _ _ _ _) [] s; exact seg_bind_wrap (wpAny_standAt (seg_bind_wrap (k.turn.self _ 0 s _ _ st (seg_again rfl loop)))))
/-- ready to be woken, n times at most -/
def GAt (g : Ge) (N : Nat) (Rest : Nat → List (Addr × Obj) → Hp → Prop) (Dn : List (Addr × Obj) → Hp → Prop) (Yl : Nat → List (Addr × Obj) → V → Hp → Prop) (gi : Nat) (A : Around) (n i : Nat) (ps : List (Addr × Obj)) (H : Hp) (s : Shared) : Prop :=
  GInv g i ps H s ∧ ∃ gs, s.gens[gi]? = some gs ∧ ∀ s' ps', Slp g.S s s' → Held g.S ps' s' → Rest i ps' H → gs.Goes (model g.Xg.prog g.Xg.w) A (GDn g Dn) (GYld g N Rest Yl) n (.send .none) s'
theorem GInv.obj (h : GInv g i ps H s) : s.heap.get? g.pa.1 = some g.pa.2 := (h.inv.pin g.pa (List.mem_append_right _ List.mem_cons_self)).1
theorem Slp.gens {S : List Addr} {G : Array GenState} (hG : AllBare G) : Slp S s { s with gens := G } := ⟨rfl, hG, fun _ _ _ e => e⟩
theorem GAt.slept {N n : Nat} {Rest : Nat → List (Addr × Obj) → Hp → Prop} {Dn : List (Addr × Obj) → Hp → Prop} {Yl : Nat → List (Addr × Obj) → V → Hp → Prop} {gi : Nat} {A : Around} (k : GeOk g tg) (h : GAt g N Rest Dn Yl gi A n i ps H s) (z : Slp g.S s s') (hd : Held g.S ps' s') (hg : s'.gens[gi]? = s.gens[gi]?) : GAt g N Rest Dn Yl gi A n i ps' H s' := by
  obtain ⟨h1, gs, h2, h4⟩ := h
  exact ⟨h1.slept k z hd, gs, by rw [hg]; exact h2, fun s'' ps'' z' => h4 s'' ps'' ⟨z'.os.trans z.os, z'.bare, fun b o hb e => z'.keep b o hb (z.keep b o hb e)⟩⟩
theorem held_inj {S : List Addr} (h : Held S ps s) (h' : Held S ps' s) : ps = ps' := by
  obtain ⟨a, b⟩ := h
  obtain ⟨a', b'⟩ := h'
  refine List.ext_getElem? fun j => ?_
  have e : (ps.map (·.1))[j]? = (ps'.map (·.1))[j]? := by rw [a, a']
  rw [List.getElem?_map, List.getElem?_map] at e
  cases h1 : ps[j]? with
  | none =>
    cases h2 : ps'[j]? with
    | none => rfl
    | some q => rw [h1, h2] at e; cases e
  | some p =>
    cases h2 : ps'[j]? with
    | none => rw [h1, h2] at e; cases e
    | some q =>
      rw [h1, h2] at e
      have e1 : p.1 = q.1 := Option.some.inj e
      have e2 := (b p (List.mem_of_getElem? h1)).1
      have e3 := (b' q (List.mem_of_getElem? h2)).1
      rw [e1, e3] at e2
      have e4 : q.2 = p.2 := Option.some.inj e2
      rw [show p = q from Prod.ext e1 e4.symm]
theorem ge_next {A : Around} {N n : Nat} {Rest : Nat → List (Addr × Obj) → Hp → Prop} {Dn : List (Addr × Obj) → Hp → Prop} {Yl : Nat → List (Addr × Obj) → V → Hp → Prop} {gi : Nat} {Q : Option Value → Shared → Prop} {E : Value → Shared → Prop} (k : GeOk g tg) (hgen : ∀ h : Heap, h.get? g.pa.1 = some g.pa.2 → h.IsGen g.pa.1 gi)
    (hh : A.handled = none) (hroom : A.depth < recursionLimit) (h : GAt g N Rest Dn Yl gi A.in1 n i ps H s) (hR : Rest i ps H)
    (hY : ∀ j x v H' s', RelV x v → Yl j ps x H' → GInv g (j + 1) ps H' s' → (∀ s'' ps', Slp g.S s' s'' → Held g.S ps' s'' → s''.gens[gi]? = s'.gens[gi]? → Rest (j + 1) ps' H' → ∃ n', n = n' + 1 ∧ GAt g N Rest Dn Yl gi A.in1 n' (j + 1) ps' H' s'') → Q (some v) s')
    (hD : ∀ H' s', GEnd g ps H' s' → Dn ps H' → Q none s') : wpAny (model g.Xg.prog g.Xg.w) A (pyNext (.ref g.pa.1)) Q E s := by
  obtain ⟨hI, gs, hgs, hgo⟩ := h
  have hlt : gi < s.gens.size := by
    rcases Nat.lt_or_ge gi s.gens.size with h' | h'
    · exact h'
    · rw [Array.getElem?_eq_none h'] at hgs; cases hgs
  have hh0 : Held g.S ps (s.setGen gi .running) := ⟨hI.end.held.at_, hI.end.held.ok⟩
  refine wpAny_gsz (n := gi + 1) hlt ?_
  refine wpAny_pyNext_genexpQ (P := fun _ s₀ s₁ => ∃ H ps, GEnd g ps H s₁ ∧ Held g.S ps s₀ ∧ Dn ps H) (Y := GYld g N Rest Yl) hh hI.inv.nolimit hroom (hgen _ hI.obj) hgs (hgo _ ps (Slp.gens (allBare_setGen hI.inv.bare rfl)) hh0 hR) (fun v s₁ gs' hb hv => ?_) (fun s₁ hp h' hk => ?_)
  · obtain ⟨j, x, H', ps1, hn', rv, hI', hs0, hy, hkap⟩ := hv
    obtain rfl := held_inj hs0 hh0
    intro hsz
    have hsz' : gi < s₁.gens.size := by
      have := setGen_size s₁ gi gs'
      omega
    have slp : Slp g.S s₁ (s₁.setGen gi gs') := Slp.gens (allBare_setGen hI'.inv.bare hb)
    have hI2 : GInv g (j + 1) ps1 H' (s₁.setGen gi gs') := hI'.slept k slp ⟨hI'.end.held.at_, hI'.end.held.ok⟩
    refine hY j x v H' _ rv hy hI2 fun s'' ps' hz hd hg hR => ?_
    have hz1 : Slp g.S s₁ s'' := ⟨hz.os, hz.bare, fun b o hb e => hz.keep b o hb e⟩
    cases n with
    | zero => exact (hkap s'' ps' hz1 hd hR).elim
    | succ n =>
      refine ⟨n, rfl, hI2.slept k hz hd, gs', by rw [hg]; simp [Shared.setGen, hsz'], fun s3 ps3 hz3 hd3 hR3 => ?_⟩
      exact hkap s3 ps3 ⟨hz3.os.trans hz1.os, hz3.bare, fun b o hb e => hz3.keep b o hb (hz1.keep b o hb e)⟩ hd3 hR3
  · obtain ⟨H', ps1, ⟨hps, I, hnn⟩, hs0, hd⟩ := hp
    obtain rfl := held_inj hs0 hh0
    intro _
    exact hD H' _ ⟨hps, (inv_gens I (allBare_setGen I.bare rfl)).kept (t' := s₁.toks) hk, hnn⟩ hd
end
end DL
set_option Elab.async false
set_option linter.all false
set_option maxRecDepth 100000
set_option maxHeartbeats 1000000
namespace DL
open PySem L2 PySem.Spec PyProof.Rows GenW
theorem gen_made {M : Model} {A : Around} {E : Value → Shared → Prop} {s : Shared} {env : Env} {elt target iter : Expr} {ifs : List Expr} {scope : Scope} {cl : List (Str × Addr)} {pos : Pos} {Q : Value → Shared → Prop}
    (hco : scope.isCoroutine = false) (hclos : closureFor scope env = pure cl) (h0 : scope.names.lookup (".0" : Str) = some NameKind.local) (hkind : scope.kind = .function)
    (hroom : A.depth < recursionLimit)
    (h : wpAny M A (eval iter env) (fun xv s₁ => wpAny M A (pyIter xv) (fun it s₂ => s₂.heap.NoLimit ∧
      wpAny M A (genexprCode env pos (env.qual ++ "<genexpr>") scope) (fun code s₃ => wpAny M A (builtinsFor env.globals env.builtins) (fun bi s₄ =>
        ∀ h' tk1 tk2 tk3, GenAt scope.names cl s₄.heap.objs.size s₄.heap h' →
          Q (.ref h'.objs.size) { s₄ with
            gens := s₄.gens.push (.fresh (.compStart (.GeneratorExp elt [⟨target, iter, ifs, 0⟩] scope pos) 0 it .none (genEnv scope (cellsFrom (s₄.heap.objs.size + 1) scope.names cl) s₄.heap.objs.size code bi env))),
            toks := tk3,
            heap := h'.push { cls := .type "generator", data := .fields #[.int s₄.gens.size 0, .str "<genexpr>" tk1, .str (env.qual ++ "<genexpr>") tk2] } }) E s₃) E s₂) E s₁) E s)
    (hs : ∀ x, genFold iter env x = pure x) :
    wpAny M A (eval (.GeneratorExp elt [⟨target, iter, ifs, 0⟩] scope pos) env) Q E s := by
  rw [eval_GeneratorExp1 _ _ _ _ _ _ _ hco, hclos]
  refine wpAny_bind (wpAny_mono h (fun xv s₁ h₁ => ?_) fun _ _ e => e)
  refine wpAny_bind (wpAny_standAt ?_)
  refine wpAny_bind (wpAny_of_eq (hs xv) ?_)
  refine wpAny_bind (wpAny_holding (wpAny_mono h₁ (fun it s₂ h₂ => ?_) fun _ _ e => e))
  refine wpAny_bind (wpAny_enterFrame h₂.1 hroom ?_)
  refine wpAny_bind (wpAny_pure ?_)
  refine wpAny_bind (wpAny_mono h₂.2 (fun code s₃ h₃ => ?_) fun _ _ e => e)
  refine wpAny_bind (wpAny_mono h₃ (fun bi s₄ h₄ => ?_) fun _ _ e => e)
  refine wpAny_bind (gen_env h0 hkind fun h' tk ga => ?_)
  simp only [newGenerator, newFields]
  refine wpAny_bind (wpAny_newGen (wpAny_bind (wpAny_mkText (wpAny_bind (wpAny_mkText (wpAny_newObj_type ?_ (by size_fits)))))))
  exact h₄ h' _ _ _ ga
/-- a generator has been made: s4 the state ahead of its frame -/
structure GNew (X : Cx) (pins : List (Addr × Obj)) (σ : L2.St) (elt tg iter : Expr) (ifs : List Expr) (scope : Scope) (gpos : Pos) (H4 : Hp) (J : It) (a : Addr) (s5 : Shared) (code : Value) : Prop where
  ex : ∃ (s4 : Shared) (it : Addr) (fp : List Addr) (tn : Nat → Heap → Prop) (gs : GenState) (tk : Nat) (h5 : Heap) (ob : Obj),
    Inv X pins σ H4 s4 ∧ Turn X.prog X.w X.K tg J fp it tn ∧ tn 0 s4.heap ∧ (∀ b ∈ fp, FpOk X pins H4 b ∧ b < s4.heap.objs.size) ∧
    gs = .fresh (.compStart (.GeneratorExp elt [⟨tg, iter, ifs, 0⟩] scope gpos) 0 (.ref it) .none (genEnv scope (genCl X scope s4.heap.objs.size) s4.heap.objs.size code builtinsNs X.env)) ∧
    s5 = { s4 with gens := s4.gens.push gs, toks := tk, heap := h5 } ∧ GenAt scope.names (cloFrom X.env.cells scope.names []) s4.heap.objs.size s4.heap h5 ∧ s4.heap.objs.size < a ∧ h5.get? a = some ob ∧
    (∀ h : Heap, h.get? a = some ob → h.IsGen a s4.gens.size) ∧ ∀ v, ob.data ≠ .cell v
section
variable {X : Cx} {pins : List (Addr × Obj)} {σ : L2.St} {H : Hp} {s : Shared}
theorem ge_make {G : Gm} {c P : Addr} {elt tg iter : Expr} {ifs : List Expr} {scope : Scope} {gpos : Pos} {own : List (Str × Nat)} {wi : TI} {Q : Value → Shared → Prop} {k : Nat}
    (I : Inv X pins σ H s) (hr : Room k X.A) (M : Mkr X G c P) (hkd : G.kd gpos.line gpos.col = false)
    (hi : PI X tg iter wi) (ok : BlkOk X.N X.env.scope scope own) (gk : GenOk scope) (hs : ∀ v, genFold iter X.env v = pure v)
    {Rr : It → Hp → Prop} (h : wi σ H Rr) (hRr : ∀ J H1, Rr J H1 → CT G.kd G.tabs G.subs H1 ∧ ∀ H2 c' P2, LamX.ExtN H1 H2 → CT G.kd (G.sub (c', P2, X.env.qual ++ "<genexpr>.")).tabs (G.sub (c', P2, X.env.qual ++ "<genexpr>.")).subs H2 → ∀ a s5, GNew X pins σ elt tg iter ifs scope gpos H2 J a s5 (.ref c') → Q (.ref a) s5) :
    wpAny (model X.prog X.w) X.A (eval (.GeneratorExp elt [⟨tg, iter, ifs, 0⟩] scope gpos) X.env) Q X.xe s := by
  have hfree : ∀ y ∈ scope.names, y.2 = .free → ∃ c, X.env.cells.lookup y.1 = some c := fun y hy e => by
    rcases ok.free y hy e with k | k
    · exact I.ok.has _ (.inl k)
    · exact I.ok.has _ (.inr k)
  refine gen_made gk.co (closure_ok hfree) gk.dot ok.kind hr.depth (thn (hi.run pins s σ H _ I h) fun xv s1 hx => thn hx fun itv s2 h2 => ?_) hs
  obtain ⟨it, fp, tn, J, H2, e, I2, Tu, st2, f2, hRj⟩ := h2
  obtain ⟨hT, q⟩ := hRr J H2 hRj
  subst e
  refine ⟨I2.nolimit, ?_⟩
  obtain ⟨C, ps, hC, hP, hP', ht, hbt, hgP, h3⟩ := M.tab I2 hT
  have cd : PySem.W.CodeHd s2.heap c P := M.hd I2 hT
  have sz : ∀ b ∈ fp, b < s2.heap.objs.size := fun b hb => by
    obtain ⟨o, e, _⟩ := Tu.obj _ _ st2 b hb
    exact Heap.lt_size e
  -- behind the code
  have cont : ∀ (c' P2 : Addr) (s4 : Shared) (H4 : Hp), Inv X pins σ H4 s4 → LamX.ExtN H2 H4 → CT G.kd (G.sub (c', P2, X.env.qual ++ "<genexpr>.")).tabs (G.sub (c', P2, X.env.qual ++ "<genexpr>.")).subs H4 → s4.gens = s2.gens → (∀ b o, b ≠ P → s2.heap.get? b = some o → s4.heap.get? b = some o) → (∀ b ∈ fp, H4 b = none) → s2.heap.objs.size ≤ s4.heap.objs.size →
      wpAny (model X.prog X.w) X.A (builtinsFor X.env.globals X.env.builtins) (fun bi s₄ =>
        ∀ h' tk1 tk2 tk3, GenAt scope.names (cloFrom X.env.cells scope.names []) s₄.heap.objs.size s₄.heap h' →
          Q (.ref h'.objs.size) { s₄ with
            gens := s₄.gens.push (.fresh (.compStart (.GeneratorExp elt [⟨tg, iter, ifs, 0⟩] scope gpos) 0 (.ref it) .none (genEnv scope (genCl X scope s₄.heap.objs.size) s₄.heap.objs.size (.ref c') bi X.env))),
            toks := tk3,
            heap := h'.push { cls := .type "generator", data := .fields #[.int s₄.gens.size 0, .str "<genexpr>" tk1, .str (X.env.qual ++ "<genexpr>") tk2] } }) X.xe s4 := by
    intro c' P2 s4 H4 I4 e4 t4 g4 k4 n4 z4
    obtain ⟨P0, bm, ob, e1, e2, e3, e4', e5, e6, e7, e8⟩ := M.bm0
    refine wpAny_builtinsFor (m := X.mg) (by rw [I4.ok.glob]; exact I4.mod.glob.keeps I4.bk) e1 e2 (I4.bk _ _ e5) e6 e7 e8 ?_
    intro h' tk1 tk2 tk3 ga
    refine q H4 c' P2 e4 t4 h'.objs.size _ ⟨⟨s4, it, fp, tn, _, _, _, { cls := .type "generator", data := .fields #[.int s4.gens.size 0, .str "<genexpr>" tk1, .str (X.env.qual ++ "<genexpr>") tk2] }, I4, Tu, ?_, fun b hb => ?_, rfl, rfl, ga.push (fun b o e => Heap.get?_push_of_some _ e) (by rw [Heap.size_push]; exact Nat.le_succ _), ga.sz, Heap.get?_push_size _ rfl, fun h hh => ⟨_, _, _, hh, rfl, rfl, rfl⟩, fun v e => by cases e⟩⟩
    · refine Tu.keep _ _ _ st2 fun b hb o e => k4 b o (fun z => ?_) e
      have := (f2 b hb).1
      rw [z, hP] at this
      cases this
    · exact ⟨⟨n4 b hb, (f2 b hb).2⟩, Nat.lt_of_lt_of_le (sz b hb) z4⟩
  cases hc : codeAmong gpos ps.toList with
  | none =>
    refine wpAny_genexprCodeX M.code (cd.code hP' ht) (cd.tab hP') hc fun c' h' tk hx hge hlt hco hrec htab hnew => ?_
    obtain ⟨c2, oc, vs, t, e2, hoc, hd, hv⟩ := hrec
    cases e2
    obtain ⟨P2, y1, y2, y3⟩ := hnew
    have hcd2 := PySem.W.CodeHd.of y2 y3
    have hszz : s2.heap.objs.size ≤ h'.objs.size := Nat.le_trans hge (Nat.le_of_lt hlt)
    have nC : H2 c' = none := I2.hok.fresh hge
    have nT : H2 P2 = none := I2.hok.fresh y1
    have cP2 : c' ≠ P2 := by obtain ⟨_, _, _, _, _, _, _, _, _, _, _, _, _, _, _, _, _, _, z⟩ := id hcd2; exact z
    have ekd : nam_ X.env.qual (G.kd gpos.line gpos.col) = X.env.qual ++ "<genexpr>" := by rw [hkd]; rfl
    have ekp : pre_ X.env.qual (G.kd gpos.line gpos.col) = X.env.qual ++ "<genexpr>." := by rw [hkd]; rfl
    have hC1 := ct_code (X := X) (G := G) (pos := gpos) hC M.mem hP ht nC nT cP2 h3
    rw [ekd, ekp] at hC1
    have hE := ct_ext (ps := ps) (more := #[rawInt gpos.line, rawInt gpos.col, .ref c']) (c' := c') (P2 := P2) (q := X.env.qual ++ "<genexpr>") hP nC nT
    have I3 := inv_code (t' := tk) (more := #[rawInt gpos.line, rawInt gpos.col, .ref c']) (q := X.env.qual ++ "<genexpr>") (h' := h') I2 hP hx htab.2 hge ⟨oc, vs, t, hoc, hd, hv⟩ hcd2 y1 y3.2
    refine cont c' P2 _ _ I3 hE (ct_sub hC1 List.mem_cons_self fun x hx => ?_) rfl hx (fun b hb => ?_) hszz
    · obtain ⟨n, e⟩ := hT.2 x hx
      exact ⟨n, hE _ _ e codeN_ne⟩
    · have n1 : b ≠ c' := fun z => Nat.lt_irrefl _ (Nat.lt_of_lt_of_le (sz b hb) (by rw [z]; exact hge))
      have n3 : b ≠ P2 := fun z => Nat.lt_irrefl _ (Nat.lt_of_lt_of_le (sz b hb) (by rw [z]; exact y1))
      have n2 : b ≠ P := fun z => by
        have := (f2 b hb).1
        rw [z, hP] at this
        cases this
      rw [upd_ne n3, upd_ne n1, upd_ne n2]
      exact (f2 b hb).1
  | some cv =>
    obtain ⟨c', P2, e, hm⟩ := h3 gpos cv hc
    subst e
    rw [hkd] at hm
    refine wpAny_genexprCode_hit M.code (cd.code hP' ht) hc ?_
    exact cont c' P2 s2 H2 I2 (LamX.ExtN.refl H2) (ct_sub hC hm hT.2) rfl (fun b o _ e => e) (fun b hb => (f2 b hb).1) (Nat.le_refl _)
/-- the around of the element: over the consumer's loop -/
abbrev genA (X : Cx) (elt tg iter : Expr) (ifs : List Expr) (scope : Scope) (gpos : Pos) (it : Addr) (env : Env) : Around := X.A.in1.in1.over (.compLoop (.GeneratorExp elt [⟨tg, iter, ifs, 0⟩] scope gpos) 0 (.ref it) .none env) []
theorem genA_room {k : Nat} {elt tg iter : Expr} {ifs : List Expr} {scope : Scope} {gpos : Pos} {it : Addr} {env : Env} (hr : Room (k + 1) X.A) : Room k (genA X elt tg iter ifs scope gpos it env) :=
  ⟨hr.hd, by have := hr.dp; show X.A.depth + 1 + 3 * k + 5 < _; omega, by have := hr.un; show X.A.units + 5 + 16 * k + 200 < _; omega⟩
theorem genA_frames {elt tg iter : Expr} {ifs : List Expr} {scope : Scope} {gpos : Pos} {it : Addr} {env : Env} {st : List Env} (h : X.A.frames = some st) : (genA X elt tg iter ifs scope gpos it env).frames = some (env :: st) := by
  show pushEnvs [env] X.A.frames = _
  rw [h]
  rfl
theorem ge_ready {code : Value} {k N : Nat} {elt tg iter : Expr} {ifs : List Expr} {scope : Scope} {gpos : Pos} {own : List (Str × Nat)} {H4 : Hp} {J : It} {a : Addr} {s5 s6 : Shared} {gd : TG} {tt : TT} {te : TE} {Rest : Nat → List (Addr × Obj) → Hp → Prop} {Dn : List (Addr × Obj) → Hp → Prop} {Yl : Nat → List (Addr × Obj) → V → Hp → Prop}
    (hr : Room (k + 1) X.A) (hN : X.N.Nodup) (ok : BlkOk X.N X.env.scope scope own) (gk : GenOk scope) (hnew : GNew X pins σ elt tg iter ifs scope gpos H4 J a s5 code)
    (hg : ∀ (A : Around) (s : Shared) (H : Hp) (C : Addr) (cl : List (Str × Addr)) (fp : List Addr), Room k A → PG (genCx X A s H (genEnv scope cl C code builtinsNs X.env) fp) tg gd)
    (ht : ∀ (A : Around) (s : Shared) (H : Hp) (C : Addr) (cl : List (Str × Addr)) (fp : List Addr), Room k A → PTs (genCx X A s H (genEnv scope cl C code builtinsNs X.env) fp) ifs tt)
    (he : ∀ (A : Around) (s : Shared) (H : Hp) (C : Addr) (cl : List (Str × Addr)) (fp : List Addr), Room k A → PE (genCx X A s H (genEnv scope cl C code builtinsNs X.env) fp) elt te)
    {S : List Addr} {ps : List (Addr × Obj)} (turn : ∀ i ps H, ps.map (·.1) = S → Rest i ps H → (J.stop i H ∧ Dn ps H) ∨ (i < N ∧ J.go i H ∧ ∀ x H', J.yld i H x H' → gd x (wipe σ (own.map (·.2))) H' fun σ2 H2 => wipe σ2 (own.map (·.2)) = wipe σ (own.map (·.2)) ∧ tt σ2 H2 fun b H3 => if b = true then te σ2 H3 fun y H4 => Yl i ps y H4 else Rest (i + 1) ps H3))
    (hS : ∀ b ∈ S, s5.heap.objs.size ≤ b) (hps : Held S ps s6) (kp : ∀ b o, s5.heap.get? b = some o → s6.heap.get? b = some o) (e6 : ∃ h6 t6, s6 = { s5 with heap := h6, toks := t6 }) :
    ∃ g : Ge, g.pa.1 = a ∧ g.S = S ∧ g.Xg.prog = X.prog ∧ g.Xg.w = X.w ∧ GeOk g tg ∧ (∃ gi, (∀ h : Heap, h.get? g.pa.1 = some g.pa.2 → h.IsGen g.pa.1 gi) ∧ GAt g N Rest Dn Yl gi X.A.in1.in1 N 0 ps H4 s6) ∧ ∀ ps H' s', GEnd g ps H' s' → Inv X pins σ H' s' := by
  obtain ⟨s4, it, fp, tn, gs, tk, h5, ob, I4, Tu, st4, f4, rfl, rfl, ga, ha, hob, hgen, hnc⟩ := hnew.ex
  have k5 := ga.kp
  obtain ⟨h6, t6, rfl⟩ := e6
  generalize hgv : genEnv scope (genCl X scope s4.heap.objs.size) s4.heap.objs.size code builtinsNs X.env = gv
  have hC : gv.locals = s4.heap.objs.size := by rw [← hgv]; rfl
  have hG : AllBare (s4.gens.push (.fresh (.compStart (.GeneratorExp elt [⟨tg, iter, ifs, 0⟩] scope gpos) 0 (.ref it) .none gv))) := I4.bare.push rfl
  have I5 := gen_start (A := genA X elt tg iter ifs scope gpos it gv) (code := code) (tk := tk) I4 ok hN f4 hr.hd (by rw [hgv]; exact genA_frames I4.ok.frames) ga hG
  rw [hgv] at I5
  have I6 : Inv (genCx X (genA X elt tg iter ifs scope gpos it gv) s4 H4 gv fp) [] (wipe σ (own.map (·.2))) H4 { s4 with gens := s4.gens.push (.fresh (.compStart (.GeneratorExp elt [⟨tg, iter, ifs, 0⟩] scope gpos) 0 (.ref it) .none gv)), toks := t6, heap := h6 } := I5.kept (t' := t6) (h' := h6) kp
  have hz5 : s4.heap.objs.size < h5.objs.size := Nat.lt_trans ha (Heap.lt_size hob)
  have young : ∀ b, s4.heap.objs.size ≤ b → H4 b = none ∧ b ∉ frs X.stack := fun b hb => ⟨I4.hok.fresh hb, fun z => by
    rcases List.mem_cons.mp (I4.stkSub b z) with z | z
    · exact absurd (Nat.lt_of_lt_of_le I4.lt hb) (by rw [z]; exact Nat.lt_irrefl _)
    · exact I4.nofs hb z⟩
  have bigS : ∀ b ∈ S, s4.heap.objs.size ≤ b ∧ a < b := fun b hb => by
    have h1 : h5.objs.size ≤ b := hS b hb
    exact ⟨Nat.le_trans (Nat.le_of_lt hz5) h1, Nat.lt_of_lt_of_le (Heap.lt_size hob) h1⟩
  have I7 : Inv (genCx X (genA X elt tg iter ifs scope gpos it gv) s4 H4 gv fp) ((a, ob) :: ps) (wipe σ (own.map (·.2))) H4 { s4 with gens := s4.gens.push (.fresh (.compStart (.GeneratorExp elt [⟨tg, iter, ifs, 0⟩] scope gpos) 0 (.ref it) .none gv)), toks := t6, heap := h6 } := I6.pins_of fun p hp => by
    rcases List.mem_cons.mp hp with z | z
    · rw [z]
      obtain ⟨y1, y2⟩ := young a (Nat.le_of_lt ha)
      exact ⟨kp _ _ hob, y1, by show a ≠ gv.locals; rw [hC]; exact Nat.ne_of_gt ha, y2, hnc⟩
    · obtain ⟨q2, q3⟩ := hps.ok p z
      have q1 : p.1 ∈ S := by rw [← hps.at_]; exact List.mem_map.mpr ⟨p, z, rfl⟩
      obtain ⟨y1, y2⟩ := young p.1 (bigS _ q1).1
      exact ⟨q2, y1, by show p.1 ≠ gv.locals; rw [hC]; exact Nat.ne_of_gt (Nat.lt_trans ha (bigS _ q1).2), y2, q3⟩
  have nfp : ∀ b ∈ fp, H4 b = none := fun b hb => (f4 b hb).1.1
  have st6 : tn 0 h6 := Tu.keep _ _ _ st4 fun b _ o e => kp b o (k5 b o e)
  let g : Ge := { Xg := genCx X (genA X elt tg iter ifs scope gpos it gv) s4 H4 gv fp, pa := (a, ob), S := S, σ0 := wipe σ (own.map (·.2)), fp := fp, it := it, tn := tn, J := J, vs := own.map (·.2) }
  have gok : GeOk g tg := by
    refine ⟨rfl, rfl, rfl, rfl, Tu, fun b hb => ⟨(bigS b hb).1, ?_, Nat.ne_of_gt (bigS b hb).2, fun z => ?_, fun x c e z => ?_⟩, fun z => ?_⟩
    · show b ≠ gv.locals
      rw [hC]
      exact Nat.ne_of_gt (Nat.lt_trans ha (bigS b hb).2)
    · exact absurd (Nat.lt_of_lt_of_le (f4 b z).2 (bigS b hb).1) (Nat.lt_irrefl _)
    · obtain ⟨v, zc⟩ := I5.cell x c e
      have h1 : c < h5.objs.size := zc.lt
      have h2 : h5.objs.size ≤ b := hS b hb
      rw [z] at h1
      exact absurd (Nat.lt_of_lt_of_le h1 h2) (Nat.lt_irrefl _)
    · exact absurd (Nat.lt_trans (f4 a z).2 ha) (Nat.lt_irrefl _)
  have hI : GInv g 0 ps H4 { s4 with gens := s4.gens.push (.fresh (.compStart (.GeneratorExp elt [⟨tg, iter, ifs, 0⟩] scope gpos) 0 (.ref it) .none gv)), toks := t6, heap := h6 } := ⟨hps.at_, I7, st6, nfp⟩
  have room := genA_room (elt := elt) (tg := tg) (iter := iter) (ifs := ifs) (scope := scope) (gpos := gpos) (it := it) (env := gv) hr
  refine ⟨g, rfl, rfl, rfl, rfl, gok, ⟨s4.gens.size, hgen, hI, _, Array.getElem?_push_size .., fun s' ps' hz hd hR => ⟨rfl, ?_⟩⟩, fun ps H' s' ⟨_, I', hn'⟩ => ?_⟩
  · have hI' := hI.slept gok hz hd
    refine seg_ge0 gok hI' (seg_ge gok rfl ?_ ?_ ?_ ?_ ?_ turn N 0 N s' s' H4 ps' (Nat.sub_zero _) (Nat.le_refl _) hI' hd hR)
    · show gv.scope.isCoroutine = false
      rw [← hgv]; exact gk.co
    · have := hg (genA X elt tg iter ifs scope gpos it gv) s4 H4 s4.heap.objs.size (genCl X scope s4.heap.objs.size) fp room
      rw [hgv] at this; exact this
    · have := ht (genA X elt tg iter ifs scope gpos it gv) s4 H4 s4.heap.objs.size (genCl X scope s4.heap.objs.size) fp room
      rw [hgv] at this; exact this
    · have := he (genA X elt tg iter ifs scope gpos it gv) s4 H4 s4.heap.objs.size (genCl X scope s4.heap.objs.size) fp room
      rw [hgv] at this; exact this
    · exact wipe_wipe _
  · exact I4.call' (ch := fp) I'.os I'.base I'.hok I'.bare fun b hb => ⟨(f4 b hb).1.2.2.2.1, (f4 b hb).1.2.1, (f4 b hb).1.2.2.2.2.1, (f4 b hb).1.2.2.2.2.2⟩
def YlB (Qx : Hp → Prop) (Rest : Nat → List (Addr × Obj) → Hp → Prop) (x : Bool) (i : Nat) (ps : List (Addr × Obj)) (y : V) (H : Hp) : Prop := ∃ c, y = .bl c ∧ if c = x then Qx H else Rest (i + 1) ps H
theorem any_loop {g : Ge} {tg : Expr} {N gi : Nat} {A : Around} {Rest : Nat → List (Addr × Obj) → Hp → Prop} {Qx Dn : Hp → Prop} {R : Result → Shared → Prop} (k : GeOk g tg) (hS : g.S = []) (hgen : ∀ h : Heap, h.get? g.pa.1 = some g.pa.2 → h.IsGen g.pa.1 gi) (hh : A.handled = none) (hroom : A.depth < recursionLimit)
    (hx : ∀ ps H' s', GEnd g ps H' s' → Qx H' → R (.ok (.ret (.bool true))) s') (hd : ∀ ps H' s', GEnd g ps H' s' → Dn H' → R (.ok (.ret (.bool false))) s') : ∀ (n i : Nat) (ps : List (Addr × Obj)) (H : Hp) (s : Shared),
    GAt g N Rest (fun _ => Dn) (YlB Qx Rest true) gi A.in1.in1 n i ps H s → Rest i ps H → codeAny (model g.Xg.prog g.Xg.w) A (.builtin "any.loop" ⟨[.ref g.pa.1], []⟩) R s := by
  intro n
  induction n using Nat.strongRecOn with
  | ind n ih =>
    intro i ps H s hG hR
    refine codeAny_builtin F.entry_any_loop ?_
    rw [Around.under_plainId F.plain_any_loop _]
    show wpAny _ A.in1 (pyNext (.ref g.pa.1) >>= _) _ _ s
    refine wpAny_bind (ge_next (A := A.in1) k hgen hh hroom hG hR (fun j x v H' s' rv hy hI next => ?_) fun H' s' hE hD => ?_)
    · obtain ⟨c, rfl, hc⟩ := hy
      obtain rfl : v = Value.bool c := rv
      refine wpAny_bind (wpAny_holding (wpAny_truthy_bool ?_))
      refine wpAny_bind (wpAny_letGo ?_)
      cases c with
      | false =>
        simp only [Bool.false_eq_true, if_false] at hc ⊢
        obtain ⟨n', hn', hG'⟩ := next s' ps ⟨rfl, hI.inv.bare, fun _ _ _ e => e⟩ hI.end.held rfl hc
        exact wpAny_pure ⟨plainId_quiet F.plain_any_loop _, ih n' (by omega) (j + 1) ps H' s' hG' hc⟩
      | true =>
        simp only [if_true] at hc ⊢
        exact wpAny_bind (wpAny_rule (wpAny_pure (hx ps H' s' hI.end hc)))
    · exact wpAny_bind (wpAny_rule (wpAny_pure (hd ps H' s' hE hD)))
theorem all_loop {g : Ge} {tg : Expr} {N gi : Nat} {A : Around} {Rest : Nat → List (Addr × Obj) → Hp → Prop} {Qx Dn : Hp → Prop} {R : Result → Shared → Prop} (k : GeOk g tg) (hS : g.S = []) (hgen : ∀ h : Heap, h.get? g.pa.1 = some g.pa.2 → h.IsGen g.pa.1 gi) (hh : A.handled = none) (hroom : A.depth < recursionLimit)
    (hx : ∀ ps H' s', GEnd g ps H' s' → Qx H' → R (.ok (.ret (.bool false))) s') (hd : ∀ ps H' s', GEnd g ps H' s' → Dn H' → R (.ok (.ret (.bool true))) s') : ∀ (n i : Nat) (ps : List (Addr × Obj)) (H : Hp) (s : Shared),
    GAt g N Rest (fun _ => Dn) (YlB Qx Rest false) gi A.in1.in1 n i ps H s → Rest i ps H → codeAny (model g.Xg.prog g.Xg.w) A (.builtin "all.loop" ⟨[.ref g.pa.1], []⟩) R s := by
  intro n
  induction n using Nat.strongRecOn with
  | ind n ih =>
    intro i ps H s hG hR
    refine codeAny_builtin F.entry_all_loop ?_
    rw [Around.under_plainId F.plain_all_loop _]
    show wpAny _ A.in1 (pyNext (.ref g.pa.1) >>= _) _ _ s
    refine wpAny_bind (ge_next (A := A.in1) k hgen hh hroom hG hR (fun j x v H' s' rv hy hI next => ?_) fun H' s' hE hD => ?_)
    · obtain ⟨c, rfl, hc⟩ := hy
      obtain rfl : v = Value.bool c := rv
      refine wpAny_bind (wpAny_holding (wpAny_truthy_bool ?_))
      refine wpAny_bind (wpAny_letGo ?_)
      cases c with
      | true =>
        simp only [Bool.true_eq_false, if_false, if_true] at hc ⊢
        obtain ⟨n', hn', hG'⟩ := next s' ps ⟨rfl, hI.inv.bare, fun _ _ _ e => e⟩ hI.end.held rfl hc
        exact wpAny_pure ⟨plainId_quiet F.plain_all_loop _, ih n' (by omega) (j + 1) ps H' s' hG' hc⟩
      | false =>
        simp only [if_true, Bool.false_eq_true, if_false] at hc ⊢
        exact wpAny_bind (wpAny_rule (wpAny_pure (hx ps H' s' hI.end hc)))
    · exact wpAny_bind (wpAny_rule (wpAny_pure (hd ps H' s' hE hD)))
/-- any(elt for tg in iter if ..), all(..): x the value that ends it -/
abbrev Fr_ := Addr × Addr × Str
def tAnyE (G : Gm) (q : Str) (x : Bool) (wi : TI) (gd : Fr_ → TG) (tt : Fr_ → TT) (te : Fr_ → TE) (vs : List Nat) : TE := fun σ H Q => wi σ H fun J H1 => CT G.kd G.tabs G.subs H1 ∧ ∀ H2 c' P2, LamX.ExtN H1 H2 → CT G.kd (G.sub (c', P2, q)).tabs (G.sub (c', P2, q)).subs H2 → ∃ (N : Nat) (Rest : Nat → Hp → Prop), Rest 0 H2 ∧
  ∀ i H, Rest i H → (J.stop i H ∧ Q (.bl (!x)) H) ∨ (i < N ∧ J.go i H ∧ ∀ v H', J.yld i H v H' → gd (c', P2, q) v (wipe σ vs) H' fun σ2 H3 => wipe σ2 vs = wipe σ vs ∧ tt (c', P2, q) σ2 H3 fun b H4 => if b = true then te (c', P2, q) σ2 H4 fun y H5 => ∃ c, y = .bl c ∧ (if c = x then Q (.bl x) H5 else Rest (i + 1) H5) else Rest (i + 1) H4)
theorem pe_anyE {G : Gm} {c P : Addr} {elt tg iter : Expr} {ifs : List Expr} {scope : Scope} {gpos p pos : Pos} {own : List (Str × Nat)} {wi : TI} {gd : Fr_ → TG} {tt : Fr_ → TT} {te : Fr_ → TE} {k : Nat}
    (hr : Room (k + 1) X.A) (hgl : Gl X "any") (hm : X.mg "any" = none) (M : Mkr X G c P) (hkd : G.kd gpos.line gpos.col = false) (hN : X.N.Nodup)
    (hi : PI X tg iter wi) (ok : BlkOk X.N X.env.scope scope own) (gk : GenOk scope)
    (hg : ∀ (c' P2 : Addr) (A : Around) (s : Shared) (H : Hp) (C : Addr) (cl : List (Str × Addr)) (fp : List Addr), Room k A → PG (genCx X A s H (genEnv scope cl C (.ref c') builtinsNs X.env) fp) tg (gd (c', P2, X.env.qual ++ "<genexpr>.")))
    (ht : ∀ (c' P2 : Addr) (A : Around) (s : Shared) (H : Hp) (C : Addr) (cl : List (Str × Addr)) (fp : List Addr), Room k A → PTs (genCx X A s H (genEnv scope cl C (.ref c') builtinsNs X.env) fp) ifs (tt (c', P2, X.env.qual ++ "<genexpr>.")))
    (he : ∀ (c' P2 : Addr) (A : Around) (s : Shared) (H : Hp) (C : Addr) (cl : List (Str × Addr)) (fp : List Addr), Room k A → PE (genCx X A s H (genEnv scope cl C (.ref c') builtinsNs X.env) fp) elt (te (c', P2, X.env.qual ++ "<genexpr>.")))
    (hs : ∀ v, genFold iter X.env v = pure v)
    (hse : starEach [.GeneratorExp elt [⟨tg, iter, ifs, 0⟩] scope gpos] X.env = (false, eval (.GeneratorExp elt [⟨tg, iter, ifs, 0⟩] scope gpos) X.env) :: starEach [] X.env := by rfl) :
    PE X (.Call (.Name "any" p) [.GeneratorExp elt [⟨tg, iter, ifs, 0⟩] scope gpos] [] pos) (tAnyE G (X.env.qual ++ "<genexpr>.") true wi gd tt te (own.map (·.2))) := by
  refine ⟨fun pins s σ H Q I h => ?_⟩
  refine wpAny_Call_Name_kw (ld_blt I hgl hm boot_any ?_)
  refine PyProof.Rows.callWith_builtin1 ?_ hse (by rfl)
  rw [hse]
  show wpAny _ _ (spliced ((false, eval (.GeneratorExp elt [⟨tg, iter, ifs, 0⟩] scope gpos) X.env) :: backTo pos (starEach [] X.env))) _ _ s
  refine Calls.spliced_cons (ge_make I hr M hkd hi ok gk hs h fun J H1 h1 => ⟨h1.1, fun H2 c' P2 x2 t2 a s5 hnew => ?_⟩)
  refine Calls.spliced_nil ?_
  obtain ⟨N, Rest, hR0, turn⟩ := h1.2 H2 c' P2 x2 t2
  obtain ⟨g, ea, eS, ep, ew, gok, ⟨gi, hgen, hG⟩, back⟩ := ge_ready (N := N) (Rest := fun i _ H => Rest i H) (Dn := fun _ H => Q (.bl false) H) (Yl := YlB (Q (.bl true)) (fun i _ H => Rest i H) true) (S := []) (ps := []) hr hN ok gk hnew (hg c' P2) (ht c' P2) (he c' P2)
    (fun i ps H _ hR => turn i H hR) (fun b hb => by cases hb) ⟨rfl, fun p hp => by cases hp⟩ (fun _ _ e => e) ⟨s5.heap, s5.toks, rfl⟩
  refine call_function_tree F.kind_any F.plain_any F.entry_any (F.args_any1 _) ?_
  unfold Builtin.«any»
  refine wpAny_bind (m := oneArg "any" _) (wpAny_pure ?_)
  rw [← ea, ← ep, ← ew]
  refine wpAny_bind (wpAny_pyIter_gen (hgen _ hG.1.obj) ?_)
  exact wpAny_pure ⟨plainId_quiet F.plain_any_loop _, any_loop gok eS hgen hr.hd hr.depth (fun ps H' s' hE q => ⟨.bl true, H', back ps H' s' hE, rfl, q⟩) (fun ps H' s' hE q => ⟨.bl false, H', back ps H' s' hE, rfl, q⟩) N 0 [] H2 s5 hG hR0⟩
theorem pe_allE {G : Gm} {c P : Addr} {elt tg iter : Expr} {ifs : List Expr} {scope : Scope} {gpos p pos : Pos} {own : List (Str × Nat)} {wi : TI} {gd : Fr_ → TG} {tt : Fr_ → TT} {te : Fr_ → TE} {k : Nat}
    (hr : Room (k + 1) X.A) (hgl : Gl X "all") (hm : X.mg "all" = none) (hb : bootBuiltins "all" = some (.builtin "all")) (M : Mkr X G c P) (hkd : G.kd gpos.line gpos.col = false) (hN : X.N.Nodup)
    (hi : PI X tg iter wi) (ok : BlkOk X.N X.env.scope scope own) (gk : GenOk scope)
    (hg : ∀ (c' P2 : Addr) (A : Around) (s : Shared) (H : Hp) (C : Addr) (cl : List (Str × Addr)) (fp : List Addr), Room k A → PG (genCx X A s H (genEnv scope cl C (.ref c') builtinsNs X.env) fp) tg (gd (c', P2, X.env.qual ++ "<genexpr>.")))
    (ht : ∀ (c' P2 : Addr) (A : Around) (s : Shared) (H : Hp) (C : Addr) (cl : List (Str × Addr)) (fp : List Addr), Room k A → PTs (genCx X A s H (genEnv scope cl C (.ref c') builtinsNs X.env) fp) ifs (tt (c', P2, X.env.qual ++ "<genexpr>.")))
    (he : ∀ (c' P2 : Addr) (A : Around) (s : Shared) (H : Hp) (C : Addr) (cl : List (Str × Addr)) (fp : List Addr), Room k A → PE (genCx X A s H (genEnv scope cl C (.ref c') builtinsNs X.env) fp) elt (te (c', P2, X.env.qual ++ "<genexpr>.")))
    (hs : ∀ v, genFold iter X.env v = pure v)
    (hse : starEach [.GeneratorExp elt [⟨tg, iter, ifs, 0⟩] scope gpos] X.env = (false, eval (.GeneratorExp elt [⟨tg, iter, ifs, 0⟩] scope gpos) X.env) :: starEach [] X.env := by rfl) :
    PE X (.Call (.Name "all" p) [.GeneratorExp elt [⟨tg, iter, ifs, 0⟩] scope gpos] [] pos) (tAnyE G (X.env.qual ++ "<genexpr>.") false wi gd tt te (own.map (·.2))) := by
  refine ⟨fun pins s σ H Q I h => ?_⟩
  refine wpAny_Call_Name_kw (ld_blt I hgl hm hb ?_)
  refine PyProof.Rows.callWith_builtin1 ?_ hse (by rfl)
  rw [hse]
  show wpAny _ _ (spliced ((false, eval (.GeneratorExp elt [⟨tg, iter, ifs, 0⟩] scope gpos) X.env) :: backTo pos (starEach [] X.env))) _ _ s
  refine Calls.spliced_cons (ge_make I hr M hkd hi ok gk hs h fun J H1 h1 => ⟨h1.1, fun H2 c' P2 x2 t2 a s5 hnew => ?_⟩)
  refine Calls.spliced_nil ?_
  obtain ⟨N, Rest, hR0, turn⟩ := h1.2 H2 c' P2 x2 t2
  obtain ⟨g, ea, eS, ep, ew, gok, ⟨gi, hgen, hG⟩, back⟩ := ge_ready (N := N) (Rest := fun i _ H => Rest i H) (Dn := fun _ H => Q (.bl true) H) (Yl := YlB (Q (.bl false)) (fun i _ H => Rest i H) false) (S := []) (ps := []) hr hN ok gk hnew (hg c' P2) (ht c' P2) (he c' P2)
    (fun i ps H _ hR => turn i H hR) (fun b hb => by cases hb) ⟨rfl, fun p hp => by cases hp⟩ (fun _ _ e => e) ⟨s5.heap, s5.toks, rfl⟩
  refine call_function_tree F.kind_all F.plain_all F.entry_all (F.args_all1 _) ?_
  unfold Builtin.«all»
  refine wpAny_bind (m := oneArg "all" _) (wpAny_pure ?_)
  rw [← ea, ← ep, ← ew]
  refine wpAny_bind (wpAny_pyIter_gen (hgen _ hG.1.obj) ?_)
  exact wpAny_pure ⟨plainId_quiet F.plain_all_loop _, all_loop gok eS hgen hr.hd hr.depth (fun ps H' s' hE q => ⟨.bl false, H', back ps H' s' hE, rfl, q⟩) (fun ps H' s' hE q => ⟨.bl true, H', back ps H' s' hE, rfl, q⟩) N 0 [] H2 s5 hG hR0⟩
end
end DL
set_option Elab.async false
set_option linter.all false
set_option maxRecDepth 100000
set_option maxHeartbeats 1000000
namespace DL
open PySem L2 PySem.Spec PyProof.Rows GenW
def anyC (x : Bool) (gd : D → LE → Option LE) (tt : LE → R Bool) (te : LE → R D) (r : LE) : List D → R Bool
  | [] => .ok (!x)
  | d :: ds => match gd d r with
    | none => .stuck
    | some r' => do
      if (← (tt r').calm) then do
        match ← (te r').calm with
        | .bl c => if c = x then .ok x else anyC x gd tt te r ds
        | _ => .stuck
      else anyC x gd tt te r ds
def anyE (x : Bool) (fi : LE → R (List D)) (gd : D → LE → Option LE) (tt : LE → R Bool) (te : LE → R D) (vs : List Nat) : LE → R D := fun r => do
  let ds ← fi r
  let b ← anyC x gd tt te (wipeL r vs) ds
  .ok (.bl b)
theorem ext_grow {dl : Addr} {H H' : Hp} (e : LamX.ExtN H H') : Grow dl H H' := fun a o h _ n => e a o h n
section
variable {X : Cx} {G : Gm} {W : WX} {tg iter : Expr} {fi : LE → R (List D)} {gd : D → LE → Option LE} {is vs : List Nat} {tt : LE → R Bool} {te : LE → R D}
theorem any_core_d (q_ : Str) (x : Bool) (hsub : ∀ j ∈ is, j ∈ vs) {sg : L2.St} {H : Hp} {Q : VK} (h : tD G W (anyE x fi gd tt te vs) sg H Q) : tAnyE G q_ x (tIe G W fi) (fun y => tGd (G.sub y) gd is) (fun y => tT (G.sub y) W0 tt) (fun y => tD (G.sub y) W0 te) vs sg H Q := by
  obtain ⟨dl, Z, O, r, A, q⟩ := h
  refine ⟨dl, Z, O, r, A, q.bind.thn fun ds hds J B H1 g1 k1 wk hB => ⟨k1.tab, fun H2 c' P2 x2 t2 => ?_⟩⟩
  have k2 : GlOk G dl H2 := k1.ofExt x2 t2.drop
  have A1 := A.grow g1 k1
  have g2 : Grow dl H1 H2 := ext_grow x2
  have A2 := (A1.grow g2 k2).enter t2
  have hds := hds.bind
  refine ⟨ds.length, fun i H' => i ≤ ds.length ∧ At (G.sub (c', P2, q_)) dl Z O r sg H' ∧ Grow dl H H' ∧ B Z H' ∧
    Wp (anyC x gd tt te (wipeL r vs) (ds.drop i)) (fun b => ∀ v H2, Grow dl H H2 → GlOk G dl H2 → Rep G dl (cut H2 Z) (.bl b) v → Q v H2) (fun e => ∀ cls dx H', Grow dl H H' → GlOk G dl H' → XRep G dl (cut H' Z) e cls dx H' → W cls dx sg H'),
    ⟨Nat.zero_le _, A2, g1.trans g2, wk.mono _ _ _ _ (g2.cut A.dz) g2 hB, by simpa using hds⟩, ?_⟩
  rintro i H' ⟨hi', A', gH, hB', hw⟩
  by_cases hlt : i < ds.length
  · have hdrop : ds.drop i = ds[i] :: ds.drop (i + 1) := List.drop_eq_getElem_cons hlt
    rw [hdrop] at hw
    refine .inr ⟨hlt, wk.go i Z H' hB' hlt, fun v H3 hy => ?_⟩
    obtain ⟨g3, k3, rp⟩ := wk.yld i Z O r sg H' v H3 A'.drop hB' hy ds[i] (by simp)
    have A3 := A'.grow g3 (k3 _ A'.gl)
    unfold anyC at hw
    cases hgd : gd ds[i] (wipeL r vs) with
    | none => rw [hgd] at hw; exact hw.elim
    | some r2 =>
      rw [hgd] at hw
      refine ⟨dl, Z, O, wipeL r vs, ds[i], A3.wipe vs, rep_sub.mpr rp, r2, hgd, fun sg3 hl3 hs3 A4 => ⟨?_, ?_⟩⟩
      · exact (wipe_same hl3 fun j hj => hs3 j fun z => hj (hsub j z)).trans (wipe_wipe vs)
      refine ⟨dl, Z, O, r2, A4, (calm_wp hw.bind).mono (fun b hb H4 g4 k4 => ?_) fun e he => he⟩
      have A5 := A4.grow g4 k4
      have C4 : At (G.sub (c', P2, q_)) dl Z O r sg H4 := A3.grow g4 k4
      have gg : Grow dl H H4 := (gH.trans g3).trans g4
      have hB4 : B Z H4 := wk.mono _ _ _ _ (g4.cut A.dz) g4 (wk.mono _ _ _ _ (g3.cut A.dz) g3 hB')
      cases b with
      | false => exact ⟨hlt, C4, gg, hB4, hb⟩
      | true =>
        refine ⟨dl, Z, O, r2, A5, (calm_wp hb.bind).mono (fun y hy2 w H5 g5 k5 rp5 => ?_) fun e he => he⟩
        have C5 : At (G.sub (c', P2, q_)) dl Z O r sg H5 := C4.grow g5 k5
        have hB5 : B Z H5 := wk.mono _ _ _ _ (g5.cut A.dz) g5 hB4
        cases y with
        | bl c =>
          unfold Rep at rp5
          refine ⟨c, rp5, ?_⟩
          by_cases hc : c = x
          · rw [if_pos hc]
            have hy3 : Wp (if c = x then R.ok x else anyC x gd tt te (wipeL r vs) (ds.drop (i + 1))) _ _ := hy2
            rw [if_pos hc] at hy3
            exact hy3 (.bl x) H5 (gg.trans g5) k5.drop (by unfold Rep; rfl)
          · rw [if_neg hc]
            have hy3 : Wp (if c = x then R.ok x else anyC x gd tt te (wipeL r vs) (ds.drop (i + 1))) _ _ := hy2
            rw [if_neg hc] at hy3
            exact ⟨hlt, C5, gg.trans g5, hB5, hy3⟩
        | _ => exact hy2.elim
  · have e : i = ds.length := by omega
    subst e
    rw [List.drop_length] at hw
    exact .inl ⟨wk.stop _ _ H' hB' (Nat.le_refl _), hw (.bl (!x)) H' gH A'.gl.drop (by unfold Rep; rfl)⟩
abbrev GenC (X : Cx) (G : Gm) (k : Nat) (scope : Scope) (P : Cx → Gm → Prop) : Prop := ∀ (c' P2 : Addr) (A : Around) (s : Shared) (H : Hp) (C : Addr) (cl : List (Str × Addr)) (fp : List Addr), Room k A → Mkr (genCx X A s H (genEnv scope cl C (.ref c') builtinsNs X.env) fp) (G.sub (c', P2, X.env.qual ++ "<genexpr>.")) c' P2 → P (genCx X A s H (genEnv scope cl C (.ref c') builtinsNs X.env) fp) (G.sub (c', P2, X.env.qual ++ "<genexpr>."))
theorem GenC.mk {X : Cx} {G : Gm} {k : Nat} {scope : Scope} {P : Cx → Gm → Prop} {c P0 : Addr} (h : GenC X G k scope P) (M : Mkr X G c P0) : ∀ (c' P2 : Addr) (A : Around) (s : Shared) (H : Hp) (C : Addr) (cl : List (Str × Addr)) (fp : List Addr), Room k A → P (genCx X A s H (genEnv scope cl C (.ref c') builtinsNs X.env) fp) (G.sub (c', P2, X.env.qual ++ "<genexpr>.")) :=
  fun c' P2 A s H C cl fp hr => h c' P2 A s H C cl fp hr (mk_sub M rfl rfl rfl rfl)
theorem de_any {c P : Addr} {elt : Expr} {ifs : List Expr} {scope : Scope} {gpos p pos : Pos} {own : List (Str × Nat)} {k : Nat}
    (hr : Room (k + 1) X.A) (hgl : Gl X "any") (hm : X.mg "any" = none) (M : Mkr X G c P) (hN : X.N.Nodup)
    (hi : DIe X G W tg iter fi) (ok : BlkOk X.N X.env.scope scope own) (gk : GenOk scope)
    (hg : GenC X G k scope fun Y G => DG Y G tg gd is) (ht : GenC X G k scope fun Y G => DTs Y G W0 ifs tt) (he : GenC X G k scope fun Y G => DE Y G W0 elt te)
    (hsub : ∀ j ∈ is, j ∈ own.map (·.2)) (hkd : G.kd gpos.line gpos.col = false := by rfl) (hs : ∀ v, genFold iter X.env v = pure v := by intro _; rfl)
    (hse : starEach [.GeneratorExp elt [⟨tg, iter, ifs, 0⟩] scope gpos] X.env = (false, eval (.GeneratorExp elt [⟨tg, iter, ifs, 0⟩] scope gpos) X.env) :: starEach [] X.env := by rfl) :
    DE X G W (.Call (.Name "any" p) [.GeneratorExp elt [⟨tg, iter, ifs, 0⟩] scope gpos] [] pos) (anyE true fi gd tt te (own.map (·.2))) :=
  PE_imp (pe_anyE hr hgl hm M hkd hN hi ok gk (GenC.mk hg M) (GenC.mk ht M) (GenC.mk he M) hs hse) fun sg H Q h => any_core_d _ true hsub h
theorem de_all {c P : Addr} {elt : Expr} {ifs : List Expr} {scope : Scope} {gpos p pos : Pos} {own : List (Str × Nat)} {k : Nat}
    (hr : Room (k + 1) X.A) (hgl : Gl X "all") (hm : X.mg "all" = none) (M : Mkr X G c P) (hN : X.N.Nodup)
    (hi : DIe X G W tg iter fi) (ok : BlkOk X.N X.env.scope scope own) (gk : GenOk scope)
    (hg : GenC X G k scope fun Y G => DG Y G tg gd is) (ht : GenC X G k scope fun Y G => DTs Y G W0 ifs tt) (he : GenC X G k scope fun Y G => DE Y G W0 elt te)
    (hsub : ∀ j ∈ is, j ∈ own.map (·.2)) (hkd : G.kd gpos.line gpos.col = false := by rfl) (hs : ∀ v, genFold iter X.env v = pure v := by intro _; rfl) (hb : bootBuiltins "all" = some (.builtin "all") := by rfl)
    (hse : starEach [.GeneratorExp elt [⟨tg, iter, ifs, 0⟩] scope gpos] X.env = (false, eval (.GeneratorExp elt [⟨tg, iter, ifs, 0⟩] scope gpos) X.env) :: starEach [] X.env := by rfl) :
    DE X G W (.Call (.Name "all" p) [.GeneratorExp elt [⟨tg, iter, ifs, 0⟩] scope gpos] [] pos) (anyE false fi gd tt te (own.map (·.2))) :=
  PE_imp (pe_allE hr hgl hm hb M hkd hN hi ok gk (GenC.mk hg M) (GenC.mk ht M) (GenC.mk he M) hs hse) fun sg H Q h => any_core_d _ false hsub h
end
end DL
set_option Elab.async false
set_option linter.all false
set_option maxRecDepth 100000
set_option maxHeartbeats 1000000
namespace DL
open PySem L2 PySem.Spec PyProof.Rows GenW
abbrev sumObj (acc : Int) (tA : Tok) (c : Nat) : Obj := { cls := .type "list", dict := none, data := .seq #[.int acc tA] c, slots := #[] }
def DnS (S : Addr) (Qd : Int → Hp → Prop) (ps : List (Addr × Obj)) (H : Hp) : Prop := ∃ acc tA c, ps = [(S, sumObj acc tA c)] ∧ Qd acc H
theorem one_inj {S : Addr} {a b : Int} {t u : Tok} {c d : Nat} (h : ([(S, sumObj a t c)] : List (Addr × Obj)) = [(S, sumObj b u d)]) : a = b ∧ t = u ∧ c = d := by
  injection h with h _
  injection h with _ h
  injection h with _ _ h _
  injection h with h1 h2
  injection h1 with h1
  injection h1 with h1 _
  injection h1 with h1 h3
  exact ⟨h1, h3, h2⟩
end DL
set_option Elab.async false
set_option linter.all false
set_option maxRecDepth 100000
set_option maxHeartbeats 1000000
namespace DL
open PySem L2 PySem.Spec PyProof.Rows GenW
def smallI (v : Int) : Prop := v < 1152921504606846976 ∧ -1152921504606846976 < v
instance (v : Int) : Decidable (smallI v) := by unfold smallI; exact inferInstance
def sumG (gd : D → LE → Option LE) (tt : LE → R Bool) (te : LE → R D) (r : LE) : Int → List D → R Int
  | acc, [] => .ok acc
  | acc, d :: ds => match gd d r with
    | none => .stuck
    | some r' => do
      if (← (tt r').calm) then do
        match ← (te r').calm with
        | .int v => if smallI v ∧ smallI (acc + v) then sumG gd tt te r (acc + v) ds else .stuck
        | _ => .stuck
      else sumG gd tt te r acc ds
theorem smallI.long {v : Int} (h : smallI v) : InLong v := by
  unfold smallI at h
  exact ⟨by omega, by omega⟩
end DL
set_option Elab.async false
set_option linter.all false
set_option maxRecDepth 100000
namespace DL
open PySem L2 LamX PySem.Spec PyProof.Rows
section
variable {P : Program} {w : World} {K : PySem.W.Frag} {mg : Str → Option Value} {base : Heap} {G : Gm} {x qual : Str} {st : Stmt} {f : Addr} {fd : FuncData} {N ps : List Str} {k n m c nf : Nat} {F : LE → R Out}
/-- the law's own def -/
theorem law_V {cdv : Value} {m : Nat} {oc : Value} {od : Option Addr} {kV doc pm : Value} {an : Option Addr} {ct : Value} {osl : Array (Option Value)} (lk : K.lookup f = some ⟨oc, od, .func (PySem.W.fnOf "law" "law" (defArgs st) (defBody st) (defScope st) .none kV doc pm an cdv ct), osl⟩)
    (cd : PySem.W.codeIn K cdv "law" = true) (S : FnScope N ["script"] (defScope st)) (hm : N.length = m) (h2 : 2 ≤ m) (hG : G.K = K) (hU : ∀ p ∈ G.tabs, ∀ q ∈ G.tabs, p.1 = q.1 → p.2 = q.2) (hS0 : G.subs = []) (hF : Wp (F (r0 m)) (fun o => ∃ r, o = .nx r ∨ o = .ct r) (fun _ => False))
    (hb : ∀ A outer s H E, Room k (A.deeper (envOfC "law" (defScope st) s.heap.objs.size f cdv)) → ∃ E', PSs (cxD P w K mg base N "law" st f cdv A outer s H E) (defBody st) (tSeq (tFor (iList G.K (tCallS (spRounds G.K) E' (tCons (tVar 0) (tCons (tC (.int 1)) tNil)))) (gName 1) (tS G (WD E) F)) (tRet (tC (.bl true))))) :
    FnOk P w K mg base (L2.CX P w) (k + 1) f (PySem.W.fnOf "law" "law" (defArgs st) (defBody st) (defScope st) .none kV doc pm an cdv ct) ["script"] (spLaw K G.tabs) := by
  refine fn_of lk cd S (fun vs H Q E h => by obtain ⟨a, ns, rfl, _⟩ := h; rfl) fun A outer s H vs Q E hr h => ?_
  obtain ⟨E', hp⟩ := hb A outer s H E hr
  obtain ⟨a, ns, rfl, hS, hT, kq⟩ := h
  exact ⟨_, hp, law_core hm h2 (hG.symm ▸ hS) hT hU hS0 kq hF⟩
end
end DL
set_option Elab.async false
set_option linter.all false
set_option maxRecDepth 100000
set_option maxHeartbeats 1000000
namespace DL
open PySem L2 PySem.Spec PyProof.Rows
def strD : D → R (List D)
  | .str s => .ok (s.map fun c => .str [c])
  | _ => .stuck
theorem signs_get {s : List Nat} {i : Nat} {d : D} (h : (s.map fun c => D.str [c])[i]? = some d) : ∃ c, s[i]? = some c ∧ d = .str [c] := by
  rw [List.getElem?_map] at h
  cases e : s[i]? with
  | none => rw [e] at h; cases h
  | some c => rw [e] at h; cases h; exact ⟨c, rfl, rfl⟩
section
variable {X : Cx} {G : Gm} {W : WX} {tg iter : Expr} {f : LE → R D} {pos p : Pos}
theorem walk_str {dl : Addr} {s : List Nat} : WalkS G dl (Its ⟨s.toArray⟩) (s.map fun c => D.str [c]) (fun _ _ => True) where
  mono := fun _ _ _ _ _ _ _ => trivial
  monoS := fun _ _ _ _ _ _ => trivial
  go := fun i Z H h hi => by
    show i < s.toArray.size
    simpa using hi
  stop := fun i Z H h hi => by
    show s.toArray.size ≤ i
    simpa using hi
  yld := fun i Z O r sg H x H' A h hy d hd => by
    obtain ⟨rfl, c, hc, rfl⟩ := hy
    obtain ⟨c', hc', rfl⟩ := signs_get hd
    have hc2 : s.toArray[i]? = some c := hc
    rw [List.getElem?_toArray, hc'] at hc2
    cases hc2
    exact ⟨.refl _ _, fun _ k => k, Rep.str_⟩
theorem di_str (h : DE X G W iter f) : DI X G W tg iter (fun r => f r >>= strD) := PI_imp (pi_str h) fun sg H Q ⟨dl, Z, O, r, A, q⟩ => by
  refine ⟨dl, Z, O, r, A, q.bind.thn fun d hd v H1 g1 k1 rp => ?_⟩
  unfold strD at hd
  split at hd
  · rename_i s
    unfold Rep at rp
    subst rp
    exact ⟨_, rfl, hd _ _ H1 g1 k1 walk_str trivial⟩
  · exact hd.elim
def enumL (k : Int) (ds : List D) : List D := ds.mapIdx fun i d => .tup [.int (k + (i : Nat)), d]
theorem enumL_get {k : Int} {ds : List D} {i : Nat} {e : D} (h : (enumL k ds)[i]? = some e) : ∃ d, ds[i]? = some d ∧ e = .tup [.int (k + (i : Nat)), d] := by
  unfold enumL at h
  rw [List.getElem?_mapIdx] at h
  cases q : ds[i]? with
  | none => rw [q] at h; cases h
  | some d => rw [q] at h; cases h; exact ⟨d, rfl, rfl⟩
theorem enumL_len {k : Int} {ds : List D} : (enumL k ds).length = ds.length := by unfold enumL; simp
end
end DL
set_option Elab.async false
set_option linter.all false
set_option maxRecDepth 100000
set_option maxHeartbeats 1000000
namespace DL
open PySem L2 PySem.Spec PyProof.Rows
section
variable {X : Cx} {G : Gm} {W : WX} {e : Expr} {f : LE → R D} {te : TE} {p pos tpos kpos : Pos} {elts : List Expr} {kk : Nat}
def signsV (x : Str) : List V := x.cps.toList.map fun c => V.str ⟨#[c]⟩
theorem signs_rep {G : Gm} {dl : Addr} {S : Hp} : ∀ {s : List Nat}, RepL G dl S (s.map fun c => D.str [c]) (s.map fun c => V.str ⟨#[c]⟩)
  | [] => RepL.nil
  | c :: s => RepL.cons Rep.str_ signs_rep
end
end DL
set_option Elab.async false
set_option linter.all false
set_option maxRecDepth 100000
set_option maxHeartbeats 1000000
namespace DL
open PySem L2 PySem.Spec PyProof.Rows
def strsD : List D → Option (List (List Nat))
  | [] => some []
  | .str s :: ds => (strsD ds).map (s :: ·)
  | _ :: _ => none
theorem strsD_rep {G : Gm} {dl : Addr} {S : Hp} : ∀ {ds : List D} {ss : List (List Nat)} {vs : List V}, strsD ds = some ss → RepL G dl S ds vs → vs = (ss.map fun s => (⟨s.toArray⟩ : Str)).map V.str
  | [], ss, vs, h, rl => by
    cases h
    unfold RepL at rl
    exact rl
  | d :: ds, ss, vs, h, rl => by
    unfold RepL at rl
    obtain ⟨v, r, rfl, h1, h2⟩ := rl
    cases d with
    | str s =>
      unfold strsD at h
      cases e : strsD ds with
      | none => rw [e] at h; cases h
      | some ss' =>
        rw [e] at h
        cases h
        unfold Rep at h1
        rw [h1, strsD_rep e h2]
        rfl
    | _ => cases h
def joinOk (a : List Nat) (ss : List (List Nat)) : Bool := decide ((ss.map List.length).sum + ss.length * a.length ≤ 16777216)
def joinD : D → List D → R D
  | .str a, [.lst ds] => (match strsD ds with
    | some ss => if joinOk a ss then .ok (.str (TL.joinL a ss)) else .stuck
    | none => .stuck)
  | .str a, [.tup ds] => (match strsD ds with
    | some ss => if joinOk a ss then .ok (.str (TL.joinL a ss)) else .stuck
    | none => .stuck)
  | _, _ => .stuck
theorem join_fit {a : List Nat} {ss : List (List Nat)} (h : joinOk a ss = true) : ((ss.map fun s => (⟨s.toArray⟩ : Str)).map (·.length)).sum + (ss.map fun s => (⟨s.toArray⟩ : Str)).length * (⟨a.toArray⟩ : Str).length ≤ 16777216 := by
  unfold joinOk at h
  have h := of_decide_eq_true h
  have e : (ss.map fun s => (⟨s.toArray⟩ : Str)).map (·.length) = ss.map List.length := by
    rw [List.map_map]
    exact List.map_congr_left fun s _ => by simp [Str.length]
  rw [e, List.length_map]
  simpa [Str.length] using h
section
variable {X : Cx} {G : Gm}
theorem bm_join (hG : G.K = X.K) : BmD X G "str" "join" joinD := by
  refine ⟨⟨_, _, PySem.F.slot_str_join, PySem.F.type_str_join, mt_join, ?_⟩, PySem.F.plainAttrs_str⟩
  intro dl Z O r sg x vx ds vs H Q E A hx hds h
  unfold joinD at h
  split at h
  · rename_i a ds
    split at h
    · rename_i ss hss
      split at h
      · rename_i hf
        obtain ⟨v, rfl, hv⟩ := hds.one
        obtain ⟨p, us, rfl, hp, rl⟩ := hv.lst
        have := strsD_rep hss rl
        subst this
        refine ⟨_, p, _, hx.str, rfl, .inl (SqL.of hp), join_fit hf, ?_⟩
        rw [show Txt.join ⟨a.toArray⟩ (ss.map fun s => (⟨s.toArray⟩ : Str)) = ⟨(TL.joinL a ss).toArray⟩ from SX.join_S a ss]
        exact h _ H (.refl _ _) A.gl Rep.str_
      · exact h.elim
    · exact h.elim
  · rename_i a ds
    split at h
    · rename_i ss hss
      split at h
      · rename_i hf
        obtain ⟨v, rfl, hv⟩ := hds.one
        obtain ⟨p, us, rfl, hp, rl⟩ := hv.tup
        have := strsD_rep hss rl
        subst this
        refine ⟨_, p, _, hx.str, rfl, .inr (hG ▸ hp), join_fit hf, ?_⟩
        rw [show Txt.join ⟨a.toArray⟩ (ss.map fun s => (⟨s.toArray⟩ : Str)) = ⟨(TL.joinL a ss).toArray⟩ from SX.join_S a ss]
        exact h _ H (.refl _ _) A.gl Rep.str_
      · exact h.elim
    · exact h.elim
  · exact h.elim
/-- how often a sign stands in a text -/
def countD : D → List D → R D
  | .str s, [.str [c]] => .ok (.int (s.count c))
  | _, _ => .stuck
theorem cnt_count (c : Nat) : ∀ l : List Nat, cnt c l = (l.count c : Int)
  | [] => rfl
  | n :: r => by
    rw [cnt_cons, cnt_count c r, List.count_cons]
    by_cases h : n = c
    · subst h; simp; omega
    · simp [h]
theorem bm_count : BmD X G "str" "count" countD := by
  refine ⟨⟨_, _, PySem.F.slot_str_count, PySem.F.type_str_count, mt_count, ?_⟩, PySem.F.plainAttrs_str⟩
  intro dl Z O r sg x vx ds vs H Q E A hx hds h
  unfold countD at h
  split at h
  · rename_i s c
    obtain ⟨v, rfl, hv⟩ := hds.one
    refine ⟨_, _, hx.str, by rw [hv.str], ?_⟩
    have e : Txt.count ⟨s.toArray⟩ ⟨[c].toArray⟩ = (s.count c : Int) := by
      rw [show (⟨[c].toArray⟩ : Str) = ⟨#[c]⟩ from rfl, count_is]
      exact cnt_count c s
    rw [e]
    exact h _ H (.refl _ _) A.gl Rep.int_
  · exact h.elim
end
end DL
set_option Elab.async false
set_option linter.all false
set_option maxRecDepth 100000
set_option maxHeartbeats 2000000
namespace DLR
open PySem PySem.Spec PyProof.Rows
def IsRs (h : Heap) (a : Addr) (x : Str) (t : Tok) (i : Int) : Prop := ∃ o, h.get? a = some o ∧ o.cls = .type "reversed" ∧ o.data = .fields #[.str x t, rawInt i]
theorem IsRs.at {h h' : Heap} {a : Addr} {x : Str} {t : Tok} {i : Int} (q : IsRs h a x t i) (e : ∀ o, h.get? a = some o → h'.get? a = some o) : IsRs h' a x t i := let ⟨o, ho, r⟩ := q; ⟨o, e _ ho, r⟩
section
variable {prog : Program} {w : World} {A : Around} {E : Value → Shared → Prop} {s : Shared} {x : Str} {t : Tok}
theorem IsRs.typeIs {a : Addr} {i : Int} (q : IsRs s.heap a x t i) : s.TypeIs (.ref a) "reversed" := let ⟨o, ho, hc, _⟩ := q; ⟨o, ho, hc⟩
end
end DLR
set_option Elab.async false
set_option linter.all false
set_option maxRecDepth 100000
set_option maxHeartbeats 2000000
namespace DL
open PySem L2 PySem.Spec PyProof.Rows
end DL
set_option Elab.async false
set_option linter.all false
set_option maxRecDepth 100000
set_option maxHeartbeats 1000000
namespace DL
open PySem L2 PySem.Spec PyProof.Rows
section
variable {G : Gm} {dl D : Addr} {Z : List Addr} {O : List (Nat × Addr)} {r : LE} {sg : L2.St} {H : Hp} {us xs : List V}
theorem app_cut (hD : H D = some (.lst us)) : GrowS (cut H (D :: Z)) (cut (upd H D (.lst xs)) (D :: Z)) := fun b o e n => by
  obtain ⟨e1, e2⟩ := cut_some e
  have hbD : b ≠ D := fun z => e1 (by rw [z]; exact List.mem_cons_self)
  rw [cut_out e1, upd_ne hbD]; exact e2
theorem GlOk.app (k4 : GlOk G dl H) (D4 : H D = some (.lst us)) (hDd : D ≠ dl) : GlOk G dl (upd H D (.lst xs)) := by
  obtain ⟨x1, y1, z1, hd1⟩ := k4.dice
  exact ⟨⟨x1, y1, z1, by rw [upd_ne fun e => hDd e.symm]; exact hd1⟩, k4.tab.upd D4 rfl⟩
theorem At.app (C4 : At G dl (D :: Z) O r sg H) (D4 : H D = some (.lst us)) (hDd : D ≠ dl) (hO : ∀ q ∈ O, q.2 ≠ D) : At G dl (D :: Z) O r sg (upd H D (.lst xs)) := by
  have nt : ∀ (xs : List V) ps, HO.lst xs ≠ HO.tbl ps := fun _ _ z => by cases z
  refine ⟨C4.gl.app D4 hDd, C4.dz, fun b hb => ?_, C4.own, C4.inj, C4.len, fun j c e => ?_⟩
  · by_cases e : b = D
    · rw [e]; exact ⟨_, upd_same, NT.lst _⟩
    · obtain ⟨u, h1, h2⟩ := C4.live b hb
      exact ⟨u, by rw [upd_ne e]; exact h1, h2⟩
  · have := C4.slot j c e
    cases c with
    | un => trivial
    | val d =>
      obtain ⟨v, e, q⟩ := this
      exact ⟨v, e, q.mono (app_cut D4)⟩
    | own d =>
      obtain ⟨a, ha, e, q, ko⟩ := this
      refine ⟨a, ha, e, ?_, ko⟩
      rw [upd_ne (hO _ ha)]; exact q.mono (app_cut D4)
end
end DL
set_option Elab.async false
set_option linter.all false
set_option maxRecDepth 100000
set_option maxHeartbeats 1000000
namespace DL
open PySem L2 PySem.Spec PyProof.Rows
def sidxD : D → List D → R D
  | .str s, [.str [c]] => (match s.findIdx? (· == c) with
    | some i => .ok (.int i)
    | none => .stuck)
  | _, _ => .stuck
theorem occ_sign {s : List Nat} {c i : Nat} (h : s.findIdx? (· == c) = some i) : ∃ rest, Builtin.Str.occurrences ⟨s.toArray⟩ ⟨#[c]⟩ 0 (⟨s.toArray⟩ : Str).length 1 = i :: rest := by
  obtain ⟨hi, h1, h2⟩ := List.findIdx?_eq_some_iff_getElem.mp h
  have hat : ∀ k, StrLaws.At ⟨s.toArray⟩ ⟨#[c]⟩ (⟨s.toArray⟩ : Str).length k ↔ s[k]? = some c := fun k => StrLaws.subAt_one ⟨s.toArray⟩ c k
  have hc : s[i]? = some c := by rw [List.getElem?_eq_getElem hi]; simpa using h1
  rcases StrLaws.occ_head ⟨s.toArray⟩ ⟨#[c]⟩ 1 (Nat.le_refl _) with ⟨_, hn⟩ | ⟨j, r, e, hj, hk⟩
  · exact (hn i ((hat i).mpr hc)).elim
  · have hj' := (hat j).mp hj
    have : j = i := by
      rcases Nat.lt_trichotomy j i with q | q | q
      · have := h2 j q
        rw [List.getElem?_eq_getElem (by omega)] at hj'
        simp at this hj'
        exact (this hj').elim
      · exact q
      · exact (hk i q ((hat i).mpr hc)).elim
    subst this
    exact ⟨r, e⟩
def pairsD : List D → Option (List (D × D))
  | [] => some []
  | .tup [k, v] :: ds => if k.key1 = true then (pairsD ds).map ((k, v) :: ·) else none
  | _ :: _ => none
def dictL : List D → R (List (D × D))
  | [.lst ds] => (match pairsD ds with
    | some ps => .ok (mergeD [] ps)
    | none => .stuck)
  | _ => .stuck
def dictD (ds : List D) : R D := dictL ds >>= fun kvs => .ok (.dic kvs)
section
variable {X : Cx} {G : Gm} {W : WX} {dl : Addr} {H : Hp} {Z : List Addr}
theorem bm_sindex : BmD X G "str" "index" sidxD := by
  refine ⟨⟨_, _, PySem.F.slot_str_index, PySem.F.type_str_index, mt_sindex, ?_⟩, PySem.F.plainAttrs_str⟩
  intro dl Z O r sg x vx ds vs H Q E A hx hds h
  unfold sidxD at h
  split at h
  · rename_i s c
    split at h
    · rename_i i hi
      obtain ⟨v, rfl, hv⟩ := hds.one
      obtain ⟨rest, ho⟩ := occ_sign hi
      exact ⟨_, _, i, rest, hx.str, by rw [hv.str], ho, h _ H (.refl _ _) A.gl Rep.int_⟩
    · exact h.elim
  · exact h.elim
theorem pairsD_rep : ∀ {ds : List D} {ps : List (D × D)} {vs : List V}, pairsD ds = some ps → RepL G dl (cut H Z) ds vs → ∃ (as : List Addr) (kv : List (Key × V)), vs = as.map V.ref ∧ Paired (fun p kv => SqT G.K H p [kV kv.1, kv.2]) as kv ∧ RepK G dl (cut H Z) ps kv
  | [], ps, vs, h, rl => by
    cases h
    unfold RepL at rl
    exact ⟨[], [], rl, .nil, by unfold RepK; rfl⟩
  | d :: ds, ps, vs, h, rl => by
    unfold RepL at rl
    obtain ⟨v, r, rfl, h1, h2⟩ := rl
    match d, h, h1 with
    | .tup [k, w], h, h1 =>
      unfold pairsD at h
      split at h
      case isFalse => cases h
      rename_i hk
      cases hp : pairsD ds with
      | none => rw [hp] at h; cases h
      | some ps' =>
        rw [hp] at h
        cases h
        obtain ⟨as, kv, e3, h3, h4⟩ := pairsD_rep hp h2
        unfold Rep at h1
        obtain ⟨a, vs2, e5, hs, rl2⟩ := h1
        subst e5
        obtain ⟨x, hx⟩ := key1_key hk
        unfold RepL at rl2
        obtain ⟨v1, r1, e6, r1', rl3⟩ := rl2
        unfold RepL at rl3
        obtain ⟨v2, r2, e7, r2', rl4⟩ := rl3
        unfold RepL at rl4
        subst rl4
        subst e7
        subst e6
        have := key_kV hx (RepP.of r1')
        subst this
        refine ⟨a :: as, (x, v2) :: kv, by rw [e3]; rfl, .cons ((cut_grow H Z).sqt (SqT.of hs)) h3, ?_⟩
        unfold RepK
        exact ⟨x, v2, kv, rfl, hx, r2', h4⟩
theorem cd_dict (hG : G.K = X.K) (hc : X.calm = true) : CallD X G (.type "dict") dictD := by
  refine ⟨_, cr_lkN (call_dictP hc), fun dl Z O r sg ds vs H Q E A rl h => ?_⟩
  unfold dictD dictL at h
  split at h
  · rename_i ds
    split at h
    · rename_i ps hps
      obtain ⟨v, rfl, rp⟩ := rl.one
      obtain ⟨a, us, rfl, e, rl'⟩ := rp.lst
      obtain ⟨as, kv, rfl, h3, h4⟩ := pairsD_rep hps rl'
      refine ⟨a, as, kv, rfl, SqL.of e, hG ▸ h3, fun p hp => ⟨p, _, rfl, upd_same, trivial, fun od => ?_⟩⟩
      rw [upd_upd]
      refine h _ _ (.new hp) (A.gl.new hp) ?_
      have hz := A.out hp
      unfold Rep
      refine ⟨p, od, _, rfl, by rw [cut_out hz]; exact upd_same, ?_⟩
      exact RepK.mono ((Grow.new (dl := dl) hp).cut A.dz) _ (RepK_merge _ h4 (by unfold RepK; rfl))
    · exact h.elim
  · exact h.elim
end
end DL
set_option Elab.async false
set_option linter.all false
set_option maxRecDepth 100000
namespace DL
open PySem L2 PySem.Spec PyProof.Rows
def itS (f : LE → R D) : LE → R (List D) := fun r => f r >>= strD
/-- the law's round keeps the law, whatever is rolled -/
structure LawOk (F : LE → R Out) (m : Nat) : Prop where
  out : Wp (F (r0 m)) (fun o => ∃ r, o = .nx r ∨ o = .ct r) (fun _ => False)
section
variable {P : Program} {w : World} {K : PySem.W.Frag} {mg : Str → Option Value} {base : Heap} {G : Gm} {x qual : Str} {st : Stmt} {f : Addr} {fd : FuncData} {N ps : List Str} {k n m c nf : Nat} {F : LE → R Out}
theorem law_W {cdv : Value} {m : Nat} {oc : Value} {od : Option Addr} {kV doc pm : Value} {an : Option Addr} {ct : Value} {osl : Array (Option Value)} (lk : K.lookup f = some ⟨oc, od, .func (PySem.W.fnOf "law" "law" (defArgs st) (defBody st) (defScope st) .none kV doc pm an cdv ct), osl⟩)
    (cd : PySem.W.codeIn K cdv "law" = true) (S : FnScope N ["script"] (defScope st)) (hm : N.length = m) (h2 : 2 ≤ m) (hG : G.K = K) (hU : ∀ p ∈ G.tabs, ∀ q ∈ G.tabs, p.1 = q.1 → p.2 = q.2) (hS0 : G.subs = []) (hF : LawOk F m)
    (hb : ∀ A outer s H E, Room k (A.deeper (envOfC "law" (defScope st) s.heap.objs.size f cdv)) → ∃ E', PSs (cxD P w K mg base N "law" st f cdv A outer s H E) (defBody st) (tSeq (tFor (iList G.K (tCallS (spRounds G.K) E' (tCons (tVar 0) (tCons (tC (.int 1)) tNil)))) (gName 1) (tS G (WD E) F)) (tRet (tC (.bl true))))) :
    FnOk P w K mg base (L2.CX P w) (k + 1) f (PySem.W.fnOf "law" "law" (defArgs st) (defBody st) (defScope st) .none kV doc pm an cdv ct) ["script"] (spLaw K G.tabs) := by
  exact law_V lk cd S hm h2 hG hU hS0 hF.out hb
end
end DL
set_option Elab.async false
set_option linter.all false
set_option maxRecDepth 100000
namespace DL
open PySem L2 PySem.Spec PyProof.Rows
/-- statements in a row -/
def seqAll : List (LE → R Out) → (LE → R Out) → LE → R Out
  | [], K => K
  | S :: Ss, K => seqS S (seqAll Ss K)
/-- .. run to their end: the state behind them -/
def runAll : List (LE → R Out) → LE → R LE
  | [], r => .ok r
  | S :: Ss, r => S r >>= fun o => match o with
    | .nx r' => runAll Ss r'
    | _ => .stuck
structure GoP (P : Out → Prop) (F : LE → R Out) (r : LE) : Prop where
  h : Wp (F r) P (fun _ => False)
theorem runAll_wp {P : Out → Prop} {K : LE → R Out} {Q : LE → Prop} : ∀ (Ss : List (LE → R Out)) (r : LE), Wp (runAll Ss r) Q (fun _ => False) → (∀ r', Q r' → GoP P K r') → Wp (seqAll Ss K r) P (fun _ => False)
  | [], r, h, k => (k r h).h
  | S :: Ss, r, h, k => by
    show Wp (S r >>= fun o => match o with
      | .nx r' => seqAll Ss K r'
      | o => .ok o) _ _
    refine Wp.of_bind ((show Wp (S r >>= _) _ _ from h).bind.mono (fun o ho => ?_) fun _ z => z)
    cases o with
    | nx r' => exact runAll_wp Ss r' ho k
    | rt _ => exact ho.elim
    | ex _ _ => exact ho.elim
    | bk _ => exact ho.elim
    | ct _ => exact ho.elim
structure Wr {α : Type} (m : R α) (Q : α → Prop) : Prop where
  h : Wp m Q (fun _ => False)
theorem GoP.one {P : Out → Prop} {S F K : LE → R Out} {r : LE} {Q : LE → Prop} (e : F = seqS S K) (h : Wr (runAll [S] r) Q) (k : ∀ r', Q r' → GoP P K r') : GoP P F r := by
  subst e
  exact ⟨runAll_wp [S] r h.h k⟩
theorem Wr.run1 {i : Nat} {f : LE → R D} {r : LE} {Q : LE → Prop} (h : Wr (f r) (fun d => Q (r.set i (.val d)))) : Wr (runAll [setK i (valK f)] r) Q := by
  refine ⟨Wp.of_bind ((Wp_setK (h.h.mono (fun d hd => ?_) fun _ z => z.elim) : Wp (setK i (valK f) r) (fun o => ∃ r', o = .nx r' ∧ Q r') _).mono (fun o ho => ?_) fun _ z => z)⟩
  · exact ⟨_, rfl, hd⟩
  · obtain ⟨r', rfl, hq⟩ := ho
    exact hq
theorem LawOk.of {F : LE → R Out} {m : Nat} (g : GoP (fun o => ∃ r, o = .nx r ∨ o = .ct r) F (r0 m)) : LawOk F m := ⟨g.h⟩
end DL
set_option Elab.async false
set_option linter.all false
set_option maxRecDepth 100000
namespace DL
open PySem L2 PySem.Spec PyProof.Rows
end DL
set_option Elab.async false
set_option linter.all false
set_option maxRecDepth 100000
namespace DL
open PySem L2 PySem.Spec PyProof.Rows
end DL
set_option Elab.async false
set_option linter.all false
set_option maxRecDepth 100000
set_option maxHeartbeats 1000000
namespace L2
open PySem PySem.Spec PyProof.Rows
section
variable {X : Cx}
def signsOf (x : Str) : List Str := x.cps.toList.map fun c => ⟨#[c]⟩
theorem strs_signs {x : Str} {acc : Array Value} (h : ItemsOf (SignAt x) acc x.cps.size) : StrsAre acc.toList (signsOf x) :=
  strs_at (by rw [Array.length_toList, h.1]; simp [signsOf]) fun j v e => by
    obtain ⟨c, u, e1, e2⟩ := h.2 j v (by rw [← Array.getElem?_toList]; exact e)
    refine ⟨⟨#[c]⟩, u, ?_, e2⟩
    unfold signsOf
    rw [List.getElem?_map, Array.getElem?_toList, e1]
    rfl
theorem call_list_S (hcalm : X.calm = true) : CallR X (.type "list") (fun xs H Q => ∃ (x : Str), xs = [.str x] ∧ x.length ≤ sizeLine ∧ ∀ p, H p = none → Q (.ref p) (upd H p (.lst ((signsOf x).map V.str)))) := by
  intro pins s σ H xs us Q I r q
  obtain ⟨x, ex, hz, q⟩ := q
  subst ex
  obtain ⟨u, eu, rx⟩ := vals1 r
  subst eu
  obtain ⟨t, rfl⟩ : ∃ t, u = Value.str x t := rx
  refine call_list_str (I.ok.hd hcalm) x t (hn := hz) fun h' tk acc c' hk hD hacc => ?_
  have hS := strs_signs hacc
  refine ⟨.ref s.heap.objs.size, upd H s.heap.objs.size (.lst ((signsOf x).map V.str)), I.laid (t' := tk) hk (Nat.le_refl _)
    (show ObjOk X.prog X.w _ _ _ (.lst ((signsOf x).map V.str)) from ⟨by simp [signsOf]; exact hz, acc.toList, c', vals_of_strs hS, by rw [Array.toArray_toList]; exact hD⟩), rfl, q _ (I.hok.fresh (Nat.le_refl _))⟩
theorem call_sorted_S (hcalm : X.calm = true) : CallR X (.builtin "sorted") (fun xs H Q => ∃ (x : Str), xs = [.str x] ∧ x.length < 64 ∧
    ∀ ys p, ys.Perm (signsOf x) → sortedS ys = true → H p = none → Q (.ref p) (upd H p (.lst (ys.map V.str)))) := by
  intro pins s σ H xs us Q I r q
  obtain ⟨x, ex, h64, q⟩ := q
  subst ex
  obtain ⟨u, eu, rx⟩ := vals1 r
  subst eu
  obtain ⟨t, rfl⟩ : ∃ t, u = Value.str x t := rx
  have h16 : x.cps.size ≤ sizeLine := by rw [sizeLine_eq]; show x.length ≤ _; omega
  refine Calls.call_function_entry PyProof.Rows.kind_sorted PyProof.Rows.plain_sorted PyProof.Rows.entry_sorted (PyProof.Rows.args_sorted1 _) ?_
  unfold Builtin.«sorted»
  refine wpAny_bind (m := checkCount "sorted" 1 1 _) (wpAny_pure ?_)
  refine wpAny_bind (wpAny_collect_str (A := X.A.in1) (I.ok.hd hcalm) x t (hn := h16) fun s' acc hk hg hd ho hacc => ?_)
  have hS := strs_signs hacc
  have hal : acc.toList.length = (signsOf x).length := hS.length
  have hsl : (signsOf x).length = x.length := by simp [signsOf, Str.length]
  have es : s' = { s with heap := s'.heap, toks := s'.toks } := by
    obtain ⟨h, g, d, t, o⟩ := s'
    subst hg hd ho
    rfl
  rw [es]
  generalize hh' : s'.heap = h' at *
  generalize htk : s'.toks = tk at *
  have I1 : Inv X pins σ H { s with heap := h', toks := tk } := I.kept hk
  refine wpAny_bind (wpAny_newList ?_ (by rw [hal, hsl, sizeLine_eq]; omega))
  have hoL : (h'.push (seqObj "list" acc.toList.toArray 0)).get? h'.objs.size = some (seqObj "list" acc.toList.toArray 0) := Heap.get?_push_size _ rfl
  show wpAny _ _ _ _ _ { s with heap := h'.push (seqObj "list" acc.toList.toArray 0), toks := tk }
  refine wpAny_bind (wpAny_holding (wpAny_call_entry PyProof.Rows.slot_list_sort ⟨_, hoL, rfl⟩ PyProof.Rows.entry_list_sort
    (list_sort_treeK strKind_oneLt (s := { s with heap := h'.push (seqObj "list" acc.toList.toArray 0), toks := tk }) hoL hS.keysOf (fun v₁ v₂ rest e => keyKind_strs (by rw [← e]; exact hS)) (by rw [hal, hsl]; exact h64) fun st' hp hs => ⟨_, rfl, ?_⟩)
    (PyProof.Rows.args_list_sort _)))
  obtain ⟨ys, g1, g2, g3⟩ := sorted_out_str hS hp hs
  obtain ⟨e', he'⟩ := PyProof.Rows.sortedHeap_at (vs := acc.toList) (out := (arrOf st').map (·.2)) hoL
  have hlen : (ys.map V.str).length ≤ sizeLine := by
    rw [List.length_map, g2.length_eq, hsl]
    exact Nat.le_trans (Nat.le_of_lt h64) (by decide)
  refine wpAny_pure ⟨_, rfl, .ref h'.objs.size, upd H h'.objs.size (.lst (ys.map V.str)), I1.laid (t' := tk) (fun b u e => ?_) (Nat.le_refl _)
    (show ObjOk X.prog X.w _ _ _ (.lst (ys.map V.str)) from ⟨hlen, ((arrOf st').map (·.2)).toList, e', vals_of_strs g1, by rw [Array.toArray_toList]; exact he'⟩), rfl, q ys _ g2 g3 (I1.hok.fresh (Nat.le_refl _))⟩
  have hb : b < h'.objs.size := Heap.lt_size e
  rw [PyProof.Rows.sortedHeap_old (Nat.ne_of_lt hb) (by rw [size_push']; exact Nat.lt_succ_of_lt hb)]
  exact Heap.get?_push_of_some _ e
end
end L2
namespace DL
open PySem L2 PySem.Spec PyProof.Rows
def signsD (s : List Nat) : List D := s.map fun c => .str [c]
def listX : List D → R (List D)
  | [.lst xs] => .ok xs
  | [.tup xs] => .ok xs
  | [.str s] => if s.length ≤ 16777216 then .ok (signsD s) else .stuck
  | [.dic kvs] => .ok (kvs.map (·.1))
  | _ => .stuck
def sortedX : List D → R (List D)
  | [.str s] => if s.length < 64 then .ok ((isort ltCps (s.map fun c => [c])).map D.str) else .stuck
  | ds => sortedL ds
section
variable {X : Cx} {G : Gm} {dl : Addr} {S : Hp}
theorem signsOf_eq (s : List Nat) : signsOf ⟨s.toArray⟩ = (s.map fun c => [c]).map fun z => (⟨z.toArray⟩ : Str) := by
  unfold signsOf
  rw [List.map_map]
  rfl
theorem signsD_eq (s : List Nat) : signsD s = (s.map fun c => [c]).map D.str := by
  unfold signsD
  rw [List.map_map]
  rfl
theorem RepK.keysD : ∀ {kvs : List (D × D)} {kv : List (Key × V)}, RepK G dl S kvs kv → RepL G dl S (kvs.map (·.1)) (kv.map fun p => kV p.1)
  | [], kv, h => by unfold RepK at h; subst h; exact RepL.nil
  | (k, d) :: r, kv, h => by
    unfold RepK at h
    obtain ⟨x, v, t, rfl, hk, _, h2⟩ := h
    refine RepL.cons ?_ (RepK.keysD h2)
    cases k with
    | int i => cases hk; exact Rep.int_
    | str s => cases hk; exact Rep.str_
    | _ => cases hk
theorem cf_listX (hG : G.K = X.K) (hc : X.calm = true) : CallF X G (.type "list") listX := by
  refine ⟨_, CallR.or_ call_list_of (CallR.or_ (call_list_S hc) (call_listD hc)), fun dl Z O r sg ds vs H Q E A rl h => ?_⟩
  unfold listX at h
  split at h
  · obtain ⟨v, rfl, rp⟩ := rl.one
    obtain ⟨a, us, rfl, e, rl'⟩ := rp.lst
    exact .inl ⟨a, us, rfl, .inl (SqL.of e), fun l hl => h l us H (.refl _ _) A.gl hl rl'⟩
  · obtain ⟨v, rfl, rp⟩ := rl.one
    obtain ⟨a, us, rfl, e, rl'⟩ := rp.tup
    exact .inl ⟨a, us, rfl, .inr (hG ▸ e), fun l hl => h l us H (.refl _ _) A.gl hl rl'⟩
  · rename_i s
    split at h
    case isFalse => exact h.elim
    rename_i hz
    obtain ⟨v, rfl, rp⟩ := rl.one
    refine .inr (.inl ⟨_, by rw [rp.str], by rw [sizeLine_eq]; simpa [Str.length] using hz, fun l hl => ?_⟩)
    refine h l _ H (.refl _ _) A.gl hl ?_
    rw [signsOf_eq, signsD_eq]
    exact RepL.of_strs _
  · obtain ⟨v, rfl, rp⟩ := rl.one
    obtain ⟨a, kv, rfl, hrd, rk⟩ := rp.dic
    exact .inr (.inr ⟨a, kv, rfl, hrd, fun l hl => h l _ H (.refl _ _) A.gl hl rk.keysD⟩)
  · exact h.elim
theorem cf_sortedX (hG : G.K = X.K) (hc : X.calm = true) : CallF X G (.builtin "sorted") sortedX := by
  obtain ⟨rr, h1, h2⟩ := cf_sorted hG hc
  refine ⟨_, CallR.or_ h1 (call_sorted_S hc), fun dl Z O r sg ds vs H Q E A rl h => ?_⟩
  unfold sortedX at h
  split at h
  · rename_i s
    obtain ⟨v, rfl, rp⟩ := rl.one
    split at h
    case isFalse => exact h.elim
    rename_i hz
    refine .inr ⟨_, by rw [rp.str], by simpa [Str.length] using hz, fun ys p hp hs hf => ?_⟩
    rw [signsOf_eq] at hp
    rw [sortedS_eq hs hp]
    exact h p _ H (.refl _ _) A.gl hf (RepL.of_strs _)
  · exact .inl (h2 dl Z O r sg ds vs H Q E A rl h)
end
end DL
set_option Elab.async false
set_option linter.all false
set_option maxRecDepth 100000
set_option maxHeartbeats 1000000
namespace L2
open PySem PySem.Spec PyProof.Rows
end L2
namespace DL
open PySem L2 PySem.Spec PyProof.Rows
def keysD : List D → Option (List D)
  | [] => some []
  | .int i :: r => (keysD r).map (.int i :: ·)
  | .str s :: r => (keysD r).map (.str s :: ·)
  | _ :: _ => none
def keqsD : List D → List D → Bool
  | [], [] => true
  | a :: r, b :: t => a.keq b && keqsD r t
  | _, _ => false
end DL
set_option Elab.async false
set_option linter.all false
set_option maxRecDepth 100000
set_option maxHeartbeats 2000000
set_option Elab.async false
set_option linter.all false
set_option maxRecDepth 100000
set_option maxHeartbeats 2000000
namespace DL
open PySem L2 PySem.Spec PyProof.Rows
end DL
set_option Elab.async false
set_option linter.all false
set_option maxRecDepth 100000
set_option maxHeartbeats 2000000
namespace DL
open PySem L2 PySem.Spec PyProof.Rows
end DL
set_option Elab.async false
set_option linter.all false
set_option maxRecDepth 100000
set_option maxHeartbeats 2000000
namespace DL
open PySem L2 PySem.Spec PyProof.Rows
end DL
set_option Elab.async false
set_option linter.all false
set_option maxRecDepth 100000
set_option maxHeartbeats 2000000
namespace DSX
open PySem PySem.W PySem.Spec PySem.Calls PyProof.Rows L2
end DSX
namespace DSX
open PySem PySem.W PySem.Spec PySem.Calls PyProof.Rows L2
end DSX
set_option Elab.async false
set_option linter.all false
set_option maxRecDepth 100000
set_option maxHeartbeats 2000000
namespace DL
open PySem L2 PySem.Spec PyProof.Rows DSX
end DL
set_option Elab.async false
set_option linter.all false
set_option maxRecDepth 100000
set_option maxHeartbeats 2000000
namespace DSX
open PySem PySem.W PySem.Spec PySem.Calls PyProof.Rows L2 DL
end DSX
namespace DL
open PySem L2 PySem.Spec PyProof.Rows DSX
end DL
set_option Elab.async false
set_option linter.all false
set_option maxRecDepth 100000
set_option maxHeartbeats 2000000
namespace DL
open PySem L2 PySem.Spec PyProof.Rows
end DL
set_option Elab.async false
set_option linter.all false
set_option maxRecDepth 100000
set_option maxHeartbeats 2000000
namespace DL
open PySem L2 PySem.Spec PyProof.Rows
def par2oS (i j : Nat) (f : LE → R Cell) (g : LE → R D) : LE → R Out := fun r => (f r >>= okK).onS r fun a => (g r).onS r fun b => .ok (.nx ((r.set i a).set j (.val b)))
section
variable {X : Cx} {G : Gm} {W : WX} {a b : Expr} {g : LE → R D} {fk : LE → R Cell} {pos : Pos} {x y : Str}
theorem ds_asg2o (i j : Nat) (hG : G.K = X.K) (hc : X.calm = true) (hN : X.N.Nodup) {px py pt pt2 : Pos} {kt k2 : Nat} (hti : i ≠ 1000000) (ha : DK X G W a fk) (hb : DE X G W b g)
    (hi : X.N[i]? = some x := by rfl) (hj : X.N[j]? = some y := by rfl)
    (hx : Loc X.env.scope x := by first | exact Or.inl rfl | exact Or.inr rfl) (hy : Loc X.env.scope y := by first | exact Or.inl rfl | exact Or.inr rfl)
    (fx : X.fn x = true ∨ X.env.scope.names.lookup x = some .local := by first | exact .inl rfl | exact .inr rfl) (fy : X.fn y = true ∨ X.env.scope.names.lookup y = some .local := by first | exact .inl rfl | exact .inr rfl)
    (hs : swapsWithSole [.Tuple [.Name x px, .Name y py] kt pt] (.Tuple [a, b] k2 pt2) pos.line X.env = pure false := by rfl) (hw : swappedStores [.Tuple [.Name x px, .Name y py] kt pt] (.Tuple [a, b] k2 pt2) X.env = pure none := by rfl)
    (h1 : (assignEach [.Tuple [.Name x px, .Name y py] kt pt] X.env).map (·.2) = [assign (.Tuple [.Name x px, .Name y py] kt pt) X.env] := by rfl)
    (hn : (assignEach [.Name x px, .Name y py] X.env).length = 2 := by rfl) (hst : (assignEach [.Name x px, .Name y py] X.env).findIdx? (·.1) = none := by rfl)
    (t1 : (assignEach [.Name x px, .Name y py] X.env).map (·.2) = assign (.Name x px) X.env :: (assignEach [.Name y py] X.env).map (·.2) := by rfl)
    (t2 : (assignEach [.Name y py] X.env).map (·.2) = assign (.Name y py) X.env :: (assignEach [] X.env).map (·.2) := by rfl)
    (s1 : starEach [a, b] X.env = (false, eval a X.env) :: starEach [b] X.env := by rfl) (s2 : starEach [b] X.env = (false, eval b X.env) :: starEach [] X.env := by rfl) :
    DS X G W (.Assign [.Tuple [.Name x px, .Name y py] kt pt] (.Tuple [a, b] k2 pt2) pos) (par2oS i j fk g) :=
  PS_imp (ps_asg (pe_tup (pa_cons ha (pa_cons hb pa_nil s2) s1)) (pg_tup hc (pgs_cons (pg_name hN hi hx fx) (pgs_cons (pg_name hN hj hy fy) pgs_nil t2) t1) hn hst) hs hw h1) fun De sg H ⟨dl, Z, O, r, A, q⟩ => by
  have sub : ∀ {Hx : Hp} {p : Addr}, GrowS (cut Hx (p :: Z)) (cut Hx Z) := cut_sub fun a ha => List.mem_cons_of_mem _ ha
  have ntT : ∀ (xs : List V) ps, HO.tup xs ≠ .tbl ps := fun _ _ z => by cases z
  refine ⟨dl, Z, O, r, A, (onS_wp q).bind.mono (fun c1 q1 => ?_) fun e he => spost_ex A he⟩
  cases c1 with
  | un => exact q1.elim
  | val d1 =>
    intro v1 H1 g1 k1 r1
    have A1 := A.grow g1 k1
    refine ⟨dl, Z, O, r, A1, (onS_wp q1).mono (fun d2 q2 v2 H2 g2 k2 r2 => ?_) fun e he => epost g1 (spost_ex A he)⟩
    have A2 := A1.grow g2 k2
    refine ⟨by rw [sizeLine_eq]; show 2 ≤ 16777216; decide, fun t ht => ⟨t, [v1, v2], rfl, .inl (.inl upd_same), rfl, v1, [v2], rfl, v2, [], rfl, rfl, ?_⟩⟩
    have g4 : Grow dl H2 (upd H2 t (.tup [v1, v2])) := .new ht
    have k4 := k2.new (o := .tup [v1, v2]) ht
    exact q2 Z O _ _ (Stp.of_grow ((g1.trans g2).trans g4) k4) (((A2.grow g4 k4).set_val i (r1.mono ((g2.trans g4).cut A.dz))).set_val j (r2.mono (g4.cut A.dz)))
  | own d1 =>
    intro p o H1 g1 k1 hp ow hk
    obtain ⟨_, ho, nt⟩ := ow.notTbl
    cases ho
    have A1 := A.grow g1 k1
    have B1 := A1.aside hp nt
    have B2 := A1.set_own i hp ow (hk i hti)
    have hs1 : Stp dl Z O H (p :: Z) ((i, p) :: O) (upd H1 p o) := Stp.trans A (Stp.of_grow g1 k1) (Stp.new A1 hp hti)
    refine ⟨dl, p :: Z, O, r, B1, (onS_wp q1).mono (fun d2 q2 v2 H2 g2 k2 r2 => ?_) fun e he cls dx H2 g2 k2 xr => ?_⟩
    · refine ⟨by rw [sizeLine_eq]; show 2 ≤ 16777216; decide, fun t ht => ⟨t, [_, v2], rfl, .inl (.inl upd_same), rfl, _, [v2], rfl, v2, [], rfl, rfl, ?_⟩⟩
      have g4 : Grow dl H2 (upd H2 t (.tup [.ref p, v2])) := .new ht
      have k4 := k2.new (o := .tup [.ref p, v2]) ht
      exact q2 _ _ _ _ (Stp.trans A hs1 (Stp.of_grow (g2.trans g4) k4)) ((B2.grow (g2.trans g4) k4).set_val j (r2.mono (g4.cut B1.dz)))
    · exact spost_ex A he cls dx H2 ((g1.trans (.new hp)).trans g2) k2 (xr.mono sub)
end
end DL
set_option Elab.async false
set_option linter.all false
set_option maxRecDepth 100000
set_option maxHeartbeats 1000000
namespace DL
open PySem L2 LamX PySem.Spec PyProof.Rows
/-- one parameter a, no other name of its own; a may be captured -/
structure LamP (sc scope : Scope) (a : Str) : Prop where
  kind : scope.kind = .function
  co : scope.isCoroutine = false
  gen : scope.isGenerator = false
  own : ∀ y ∈ scope.names, y.2 = .local ∨ y.2 = .cell → y.1 = a
  free : ∀ y ∈ scope.names, y.2 = .free → sc.names.lookup y.1 = some .cell ∨ sc.names.lookup y.1 = some .free
  par : (scope.names.lookup a = some .local ∧ ∀ y ∈ scope.names, y.2 ≠ .cell) ∨ (scope.names.lookup a = some .cell ∧ (scope.names.filter fun y => decide (y.2 = .cell)) = [(a, .cell)])
section
variable {X : Cx} {pins : List (Addr × Obj)} {σ : L2.St} {H : Hp} {s : Shared}
theorem LamP.has {scope : Scope} {a : Str} (L : LamP X.env.scope scope a) (ok : X.Ok) : ∀ y ∈ scope.names, y.2 = .free → ∃ c, X.env.cells.lookup y.1 = some c := fun y hy e =>
  (L.free y hy e).elim (fun k => ok.has _ (.inl k)) fun k => ok.has _ (.inr k)
end
end DL
set_option Elab.async false
set_option linter.all false
set_option maxRecDepth 100000
set_option maxHeartbeats 1000000
namespace DL
open PySem L2 LamX PySem.Spec PyProof.Rows
end DL
set_option Elab.async false
set_option linter.all false
set_option maxRecDepth 100000
set_option maxHeartbeats 1000000
namespace DL
open PySem L2 LamX PySem.Spec PyProof.Rows
end DL
set_option Elab.async false
set_option linter.all false
set_option maxRecDepth 100000
set_option maxHeartbeats 1000000
namespace DL
open PySem L2 LamX PySem.Spec PyProof.Rows
end DL
set_option Elab.async false
set_option linter.all false
set_option maxRecDepth 100000
set_option maxHeartbeats 1000000
namespace DL
open PySem L2 LamX PySem.Spec PyProof.Rows
end DL
set_option Elab.async false
set_option linter.all false
set_option maxRecDepth 100000
set_option maxHeartbeats 1000000
namespace DL
open PySem L2 LamX PySem.Spec PyProof.Rows
end DL
set_option Elab.async false
set_option linter.all false
set_option maxRecDepth 100000
set_option maxHeartbeats 1000000
namespace DL
open PySem L2 LamX PySem.Spec PyProof.Rows
theorem RepL.snoc {G : Gm} {dl : Addr} {S : Hp} {ds : List D} {vs : List V} {d : D} {v : V} (h : RepL G dl S ds vs) (q : Rep G dl S d v) : RepL G dl S (ds ++ [d]) (vs ++ [v]) := h.append (RepL.cons q RepL.nil)
end DL
set_option Elab.async false
set_option linter.all false
set_option maxRecDepth 100000
set_option maxHeartbeats 1000000
namespace DL
open PySem L2 PySem.Spec PyProof.Rows
end DL
set_option Elab.async false
set_option linter.all false
set_option maxRecDepth 100000
set_option maxHeartbeats 1000000
namespace DL
open PySem L2 PySem.Spec PyProof.Rows
def get2E (fo fe ff : LE → R D) : LE → R D := fun r => fo r >>= fun x => match x with
  | .dic kvs => fe r >>= fun y => ff r >>= fun z => if y.key1 then .ok ((getD kvs y).getD z) else .stuck
  | _ => .stuck
section
variable {X : Cx} {G : Gm} {W : WX} {o e f a ek : Expr} {fo fe ff : LE → R D} {pos apos cpos p p1 p2 : Pos} {x : Str}
theorem de_get2 (hu : X.A.units + 1 < cLine) (ho : DP X G W o fo) (he : DP X G W e fe) (hf : DE X G W f ff) (m : M2 X o "get" apos e f cpos := by exact ⟨rfl, rfl, rfl, rfl⟩) : DE X G W (.Call (.Attribute o "get" apos) [e, f] [] cpos) (get2E fo fe ff) :=
  PE_imp (pe_dget2 hu ho he hf m) fun sg H Q ⟨dl, Z, O, r, A, q⟩ => by
    refine ⟨dl, Z, O, r, A, q.bind.thn fun x hx v H1 g1 k1 rx => ?_⟩
    have A1 := A.grow g1 k1
    cases x <;> first | exact hx.elim | skip
    rename_i kvs
    obtain ⟨a, kv, rfl, hrd, rk⟩ := rx.dic
    refine ⟨a, rfl, .inl ⟨kv, hrd⟩, dl, Z, O, r, A1, hx.bind.mono (fun y hy u H2 g2 k2 ry => ?_) fun e he => epost g1 he⟩
    have A2 := A1.grow g2 k2
    refine ⟨dl, Z, O, r, A2, hy.bind.mono (fun z hz w H3 g3 k3 rz => ?_) fun e he => epost (g1.trans g2) he⟩
    have hz : Wp (if y.key1 = true then R.ok ((getD kvs y).getD z) else .stuck) _ _ := hz
    split at hz
    case isFalse => exact hz.elim
    rename_i hk1
    obtain ⟨kk, hk⟩ := key1_key hk1
    obtain ⟨a', kv', ea, hrd', rk'⟩ := (rx.grow A1 (g2.trans g3)).dic
    cases ea
    have ry3 := ry.grow A2 g3
    rcases getD_of hk rk' with ⟨e1, e2⟩ | ⟨d', v', e1, e2, rp⟩
    · refine ⟨none, .inl ⟨kv', kk, hrd', key_kV hk ry3, e2.symm⟩, ?_⟩
      rw [e1] at hz
      exact hz w H3 ((g1.trans g2).trans g3) k3 rz
    · refine ⟨some v', .inl ⟨kv', kk, hrd', key_kV hk ry3, e2.symm⟩, ?_⟩
      rw [e1] at hz
      exact hz v' H3 ((g1.trans g2).trans g3) k3 rp
end
end DL
set_option Elab.async false
set_option linter.all false
set_option maxRecDepth 100000
set_option maxHeartbeats 1000000
namespace DL
open PySem L2 PySem.Spec PyProof.Rows
/-- the rows of one dict looked up in the other, compared as data -/
inductive HitsV (K : PySem.W.Frag) (H : Hp) (kb : List (Key × V)) : List (Key × V) → Bool → Prop
  | nil : HitsV K H kb [] true
  | miss {k : Key} {v : V} {r : List (Key × V)} : valV kb k = none → HitsV K H kb ((k, v) :: r) false
  | hit {k : Key} {v y : V} {d e : PyData} {r : List (Key × V)} {b : Bool} : valV kb k = some y → Dp K H v d → Dp K H y e → SeqAt.shaped d = true → SeqAt.shaped e = true → HitsV K H kb r b → HitsV K H kb ((k, v) :: r) (PyData.eqv d e && b)
def rEqDc (K : PySem.W.Frag) (neg : Bool) : R2 := fun x y H Q => ∃ (a b : Addr) (ka kb : List (Key × V)) (t : Bool), x = .ref a ∧ y = .ref b ∧ Rd H a (.dK ka) ∧ Rd H b (.dK kb) ∧ HitsV K H kb ka t ∧ Q (.bl (Bool.xor neg (ka.length == kb.length && t))) H
section
variable {X : Cx}
theorem hits_of {pins : List (Addr × Obj)} {sg : L2.St} {H : Hp} {s : Shared} {ka kb : List (Key × V)} {vs ws : List (Key × Value)} {t : Bool} (I : Inv X pins sg H s) (hu : X.A.in1.units + 64 < cLine) (h : HitsV X.K H kb ka t) (ra : KV ka vs) (rb : KV kb ws) : PySem.W.KeqHits X.A.in1 s ws vs t := by
  unfold KV at ra
  induction h generalizing vs with
  | nil => cases ra; exact .nil
  | miss hn =>
    rename_i k v r
    cases ra with
    | cons h1 h2 =>
      rename_i q qs
      obtain ⟨k2, u⟩ := q
      obtain ⟨e1, e2⟩ := h1
      have e1 : k = k2 := e1
      subst e1
      have := rb.val k
      rw [hn] at this
      refine .miss ?_
      cases hq : PySem.valueAt ws k with
      | none => rfl
      | some z => rw [hq] at this; exact this.elim
  | hit hy hd he sd se _ ih =>
    rename_i k v y d e r b _
    cases ra with
    | cons h1 h2 =>
      rename_i q qs
      obtain ⟨k2, u⟩ := q
      obtain ⟨e1, e2⟩ := h1
      have e1 : k = k2 := e1
      subst e1
      have := rb.val k
      rw [hy] at this
      cases hq : PySem.valueAt ws k with
      | none => rw [hq] at this; exact this.elim
      | some z =>
        rw [hq] at this
        obtain ⟨as, r1⟩ := Dp.reads I d v u hd e2
        obtain ⟨bs, r2⟩ := Dp.reads I e y z he this
        exact .hit hq (PySem.W.keq_at r1 r2 sd se hu) (ih h2)
theorem op_neDc (hu : X.A.units + 70 < cLine) : OpR X (compareOp .NotEq) (rEqDc X.K true) := by
  intro pins s sg H x y v u Q I rx ry ⟨a, b, ka, kb, t, ex, ey, ha, hb, hh, q⟩
  subst ex ey
  obtain rfl : v = Value.ref a := rx
  obtain rfl : u = Value.ref b := ry
  obtain ⟨_, sa, vs, ra, da⟩ := dk_rd I.hok ha
  obtain ⟨_, sb, ws, rb, db⟩ := dk_rd I.hok hb
  have hi := hits_of I (by show X.A.units + 1 + 64 < _; omega) hh ra rb
  refine PySem.W.keq_ne sa sb da db (by omega) (fun _ => hi) ?_
  rw [← ra.length, ← rb.length]
  exact ⟨.bl _, H, I, rfl, by simpa using q⟩
end
def dicEq (a b : List (D × D)) : Bool := a.length == b.length && a.all fun p => match getD b p.1 with
  | some z => p.2.eqb z
  | none => false
def dicOk (a : List (D × D)) : Bool := D.shs (a.map (·.2)) 64
def neX (x y : D) : R D := match x, y with
  | .dic a, .dic b => if dicOk a && dicOk b then .ok (.bl (!dicEq a b)) else .stuck
  | x, y => neD x y
section
variable {X : Cx} {G : Gm}
theorem getD_mem {b : List (D × D)} {k z : D} (h : getD b k = some z) : z ∈ b.map (·.2) := by
  unfold getD at h
  cases hf : b.find? fun p => p.1.keq k with
  | none => rw [hf] at h; cases h
  | some p =>
    rw [hf] at h
    cases h
    exact List.mem_map.mpr ⟨p, List.mem_of_find?_eq_some hf, rfl⟩
theorem shs_mem {ds : List D} {n : Nat} (h : D.shs ds n = true) {d : D} (hd : d ∈ ds) : d.sh n = true := by
  induction ds with
  | nil => cases hd
  | cons e ds ih =>
    simp only [D.shs, Bool.and_eq_true] at h
    rcases List.mem_cons.mp hd with rfl | hd
    · exact h.1
    · exact ih h.2 hd
theorem hitsV_of {dl : Addr} {Z : List Addr} {H : Hp} {b : List (D × D)} {kb : List (Key × V)} (rb : RepK G dl (cut H Z) b kb) (hb : dicOk b = true) : ∀ {a : List (D × D)} {ka : List (Key × V)}, RepK G dl (cut H Z) a ka → dicOk a = true →
    HitsV G.K H kb ka (a.all fun p => match getD b p.1 with | some z => p.2.eqb z | none => false)
  | [], ka, h, _ => by unfold RepK at h; subst h; exact .nil
  | (k, d) :: a, ka, h, ok => by
    unfold RepK at h
    obtain ⟨x, v, r, rfl, hk, rp, h2⟩ := h
    have ok' : dicOk a = true := by
      unfold dicOk at ok ⊢
      simp only [List.map_cons, D.shs, Bool.and_eq_true] at ok
      exact ok.2
    have okd : d.sh 64 = true := by
      unfold dicOk at ok
      simp only [List.map_cons, D.shs, Bool.and_eq_true] at ok
      exact ok.1
    rw [List.all_cons]
    rcases getD_of hk rb with ⟨e1, e2⟩ | ⟨z, w, e1, e2, rz⟩
    · rw [e1]
      exact .miss e2
    · rw [e1]
      have okz : z.sh 64 = true := shs_mem hb (getD_mem e1)
      have e3 : d.eqb z = PyData.eqv d.toP z.toP := (eqb_eqv d z _ _ okd okz).symm
      show HitsV _ _ _ _ (d.eqb z && _)
      rw [e3]
      exact .hit e2 (RepP.dp (n := 64) okd (.inl rp)) (RepP.dp (n := 64) okz (.inl rz)) (sh_shaped okd) (sh_shaped okz) (hitsV_of rb hb h2 ok')
theorem op_neX_d (hG : G.K = X.K) (hu : X.A.units + 70 < cLine) : OpD X G (compareOp .NotEq) neX := by
  obtain ⟨rr, h1, h2⟩ := op_ne_d (X := X) (G := G) hG (by omega)
  refine ⟨_, OpR.or (op_neDc hu) h1, fun dl Z O r sg x y vx vy H Q E A hx hy h => ?_⟩
  unfold neX at h
  split at h
  · rename_i a b
    split at h
    case isFalse => exact h.elim
    rename_i hc
    simp only [Bool.and_eq_true] at hc
    obtain ⟨p, ka, rfl, ha, ra⟩ := hx.dic
    obtain ⟨q, kb, rfl, hb, rb⟩ := hy.dic
    refine .inl ⟨p, q, ka, kb, _, rfl, rfl, ha, hb, hG ▸ hitsV_of rb hc.2 ra hc.1, ?_⟩
    rw [ra.length, rb.length]
    simpa [dicEq] using h _ H (.refl _ _) A.gl Rep.bl_
  · exact .inr (h2 dl Z O r sg _ _ vx vy H Q E A hx hy h)
end
end DL
set_option Elab.async false
set_option linter.all false
set_option maxRecDepth 100000
namespace DL
open PySem L2 PySem.Spec PyProof.Rows
end DL
set_option Elab.async false
set_option linter.all false
set_option maxRecDepth 100000
set_option maxHeartbeats 2000000
namespace DL
open PySem L2 PySem.Spec PyProof.Rows
end DL
set_option Elab.async false
set_option linter.all false
set_option maxRecDepth 100000
set_option maxHeartbeats 2000000
namespace DL
open PySem L2 LamX PySem.Spec PyProof.Rows PySem.W
end DL
set_option Elab.async false
set_option linter.all false
set_option maxRecDepth 100000
set_option maxHeartbeats 1000000
namespace DL
open PySem L2 LamX PySem.Spec PyProof.Rows PySem.W
theorem insT_split {α : Type} {lt : α → α → Bool} {x : α} : ∀ {l₁ l₂ : List α}, (∀ b ∈ l₁, lt b x = true) → (∀ b ∈ l₂, lt b x = false) → insT lt x (l₁ ++ l₂) = l₁ ++ x :: l₂
  | [], [], _, _ => rfl
  | [], b :: l₂, _, h => by
    show insT lt x (b :: l₂) = _
    unfold insT
    rw [if_neg (by rw [h b List.mem_cons_self]; decide)]
    rfl
  | a :: l₁, l₂, h, k => by
    show insT lt x (a :: (l₁ ++ l₂)) = _
    unfold insT
    rw [if_pos (h a List.mem_cons_self), insT_split (fun b hb => h b (List.mem_cons_of_mem _ hb)) k]
    rfl
theorem isort_merge {α : Type} {lt : α → α → Bool} (T : TotalLe fun a b => !lt b a) : ∀ l : List α, isort lt l = l.mergeSort fun a b => !lt b a
  | [] => by simp [isort]
  | x :: l => by
    obtain ⟨l₁, l₂, e1, e2, h⟩ := List.mergeSort_cons (le := fun a b => !lt b a) (fun a b c h1 h2 => T.trans a b c h1 h2) (fun a b => by have := T.total a b; simpa [Bool.or_eq_true] using this) x l
    rw [e1]
    show insT lt x (isort lt l) = _
    rw [isort_merge T l, e2]
    refine insT_split (fun b hb => by simpa using h b hb) fun b hb => ?_
    have hp := List.pairwise_mergeSort (le := fun a b => !lt b a) (fun a b c h1 h2 => T.trans a b c h1 h2) (fun a b => by have := T.total a b; simpa [Bool.or_eq_true] using this) (x :: l)
    rw [e1] at hp
    have h3 := (List.pairwise_append.mp hp).2.1
    simpa using (List.pairwise_cons.mp h3).1 b hb
def ltKy (p q : D × D) : Bool := p.2.ltb q.2
theorem totLe_key (rev : Bool) {β : Type} (k : β → PyData) : TotalLe (dataLe rev k) := sortLe_total (listOrd itemOrd) rev fun b => keyToks (k b)
theorem dataLe_lt {β : Type} (k : β → PyData) : dataLe false k = fun a b => !dataLt (k b) (k a) := by
  rw [dataLe_eq]
  funext a b
  rfl
/-- by their keys, stably -/
def sortK (ds ks : List D) : List D := (isort ltKy (ds.zip ks)).map (·.1)
section
variable {G : Gm} {dl : Addr} {S : Hp}
theorem RepL.pairs {β : Type} {f : β → D} {g : β → V} : ∀ {l : List β}, (∀ z ∈ l, Rep G dl S (f z) (g z)) → RepL G dl S (l.map f) (l.map g)
  | [], _ => RepL.nil
  | z :: l, h => RepL.cons (h z List.mem_cons_self) (RepL.pairs fun y hy => h y (List.mem_cons_of_mem _ hy))
theorem RepL.zip_mem : ∀ {ds : List D} {us : List V} {ks : List D}, RepL G dl S ds us → ∀ z ∈ us.zip (ds.zip ks), Rep G dl S z.2.1 z.1
  | [], us, ks, h, z, hz => by simp at hz
  | d :: ds, [], ks, h, z, hz => by simp at hz
  | d :: ds, u :: us, [], h, z, hz => by simp at hz
  | d :: ds, u :: us, k :: ks, h, z, hz => by
    unfold RepL at h
    obtain ⟨v, vs, e, h1, h2⟩ := h
    cases e
    simp only [List.zip_cons_cons, List.mem_cons] at hz
    rcases hz with rfl | hz
    · exact h1
    · exact RepL.zip_mem h2 z hz
theorem sortK_rep {ds ks : List D} {us : List V} (h : RepL G dl S ds us) (hl : ks.length = ds.length) : RepL G dl S (sortK ds ks) (((us.zip (D.toPs ks)).mergeSort (dataLe false fun p => p.2)).map (·.1)) := by
  have hul := h.length
  have hZ1 : (us.zip (ds.zip ks)).map (fun z => (z.1, z.2.2.toP)) = us.zip (D.toPs ks) := by
    rw [toPs_map]
    apply List.ext_getElem
    · simp [hl, hul]
    · intro i h1 h2
      simp
  have hZ2 : (us.zip (ds.zip ks)).map (fun z => z.2) = ds.zip ks := List.map_snd_zip (by rw [List.length_zip, hl, hul]; omega)
  have e1 := List.map_mergeSort (r := fun a b : V × (D × D) => !(b.2.2.ltb a.2.2)) (s := dataLe false fun p : V × PyData => p.2) (f := fun z : V × (D × D) => (z.1, z.2.2.toP)) (l := us.zip (ds.zip ks)) fun a _ b _ => by rw [dataLe_lt]; rfl
  have e2 := List.map_mergeSort (r := fun a b : V × (D × D) => !(b.2.2.ltb a.2.2)) (s := fun a b : D × D => !ltKy b a) (f := fun z : V × (D × D) => z.2) (l := us.zip (ds.zip ks)) fun a _ b _ => rfl
  have T : TotalLe fun a b : D × D => !ltKy b a := by
    have := totLe_key false fun p : D × D => p.2.toP
    rw [dataLe_lt] at this
    exact this
  unfold sortK
  have e3 : (ds.zip ks).mergeSort (fun a b : D × D => !ltKy b a) = ((us.zip (ds.zip ks)).mergeSort fun a b => !(b.2.2.ltb a.2.2)).map (·.2) := by rw [e2, hZ2]
  rw [isort_merge T, ← hZ1, ← e1, e3, List.map_map, List.map_map]
  refine RepL.pairs fun z hz => ?_
  exact h.zip_mem z ((List.mergeSort_perm _ _).mem_iff.mp hz)
end
def tup1 : D → Bool
  | .tup (_ :: _) => true
  | _ => false
def notTup : D → Bool
  | .tup _ => false
  | .non => false
  | _ => true
def srtb (ks : List D) : Bool := ks.all tup1 || ks.all notTup
theorem srtb_ok {ks : List D} (ha : alis ks = true) (h : srtb ks = true) : Sortable (D.toPs ks) := by
  rw [toPs_map]
  unfold srtb at h
  rw [Bool.or_eq_true, List.all_eq_true, List.all_eq_true] at h
  rcases h with h | h
  · refine .inl fun d hd => ?_
    obtain ⟨x, hx, rfl⟩ := List.mem_map.mp hd
    have := h x hx
    unfold tup1 at this
    split at this
    · exact ⟨_, _, rfl⟩
    · cases this
  · refine .inr fun d hd => ?_
    obtain ⟨x, hx, rfl⟩ := List.mem_map.mp hd
    have h1 := h x hx
    have h2 := alis_sh ha x hx
    cases x <;> first | (cases h1; done) | (simp [D.sh] at h2; done) | (refine ⟨fun z => ?_, fun xs z => ?_⟩ <;> (simp [D.toP] at z))
theorem alis_all {ks : List D} (h : alis ks = true) : AllAlike (D.toPs ks) := (alis_alike h).1
theorem alis_dep {ks : List D} (h : alis ks = true) : ∀ d ∈ D.toPs ks, d.depth ≤ 50 := fun d hd => by
  rw [toPs_map] at hd
  obtain ⟨x, hx, rfl⟩ := List.mem_map.mp hd
  exact (sh_lay x 50 (alis_sh h x hx)).2
end DL
set_option Elab.async false
set_option linter.all false
set_option maxRecDepth 100000
set_option maxHeartbeats 2000000
namespace DSX
open PySem PySem.W PySem.Spec PySem.Calls PyProof.Rows L2
end DSX
namespace DSX
open PySem PySem.W PySem.Spec PySem.Calls PyProof.Rows L2
end DSX
namespace DL
open PySem L2 PySem.Spec PyProof.Rows DSX
end DL
namespace DSX
open PySem PySem.W PySem.Spec PySem.Calls PyProof.Rows L2 DL
end DSX
namespace DL
open PySem L2 PySem.Spec PyProof.Rows DSX
end DL
set_option Elab.async false
set_option linter.all false
set_option maxRecDepth 100000
set_option maxHeartbeats 2000000
namespace DL
open PySem L2 PySem.Spec PyProof.Rows
inductive Src where
  | l (a : Addr)
  | t (a : Addr)
  | s (x : Str)
def Src.val : Src → V
  | .l a => .ref a
  | .t a => .ref a
  | .s x => .str x
def Src.at_ (K : PySem.W.Frag) (H : Hp) : Src → List V → Prop
  | .l a, vs => SqL K H a vs
  | .t a, vs => SqT K H a vs
  | .s x, vs => vs = signsV x
/-- its iterator at the address it, i items gone -/
def Src.it (h : Heap) (it : Addr) (i : Nat) : Src → Prop
  | .l a => h.IsListIter it a i ∧ a < it
  | .t a => h.IsTupleIter it a i ∧ a < it
  | .s x => ∃ t, h.IsStrIter it (strIterType x) x t i
def Src.fp : Src → List Addr
  | .l a => [a]
  | .t a => [a]
  | .s _ => []
theorem Src.it_at {h h' : Heap} {it : Addr} {i : Nat} : ∀ {S : Src}, S.it h it i → (∀ o, h.get? it = some o → h'.get? it = some o) → S.it h' it i
  | .l a, ⟨e, n⟩, k => ⟨e.at k, n⟩
  | .t a, ⟨e, n⟩, k => ⟨e.at k, n⟩
  | .s x, ⟨tk, o, e, r⟩, k => ⟨tk, o, k _ e, r⟩
theorem Src.it_obj {h : Heap} {it : Addr} {i : Nat} : ∀ {S : Src}, S.it h it i → ∃ o, h.get? it = some o ∧ ∀ v, o.data ≠ .cell v
  | .l a, ⟨⟨o, e, _, d⟩, _⟩ => ⟨o, e, fun v q => by rw [d] at q; cases q⟩
  | .t a, ⟨⟨o, e, _, d⟩, _⟩ => ⟨o, e, fun v q => by rw [d] at q; cases q⟩
  | .s x, ⟨tk, o, e, _, d⟩ => ⟨o, e, fun v q => by rw [d] at q; cases q⟩
section
variable {X : Cx} {pins : List (Addr × Obj)} {σ : L2.St} {H : Hp} {s : Shared}
theorem src_draws {S : Src} {vs : List V} {it : Addr} {i : Nat} {A : Around} (I : Inv X pins σ H s) (hh : A.handled = none) (h : S.at_ X.K H vs) (st : S.it s.heap it i) :
    ∃ (P : Nat → Value → Prop) (St : Nat → Heap → Prop), Draws X.prog X.w A it (it :: S.fp) vs.length P St ∧ St i s.heap ∧ (∀ j u, P j u → ∃ y, vs[j]? = some y ∧ RelV y u) ∧ ∀ j h', St j h' → S.it h' it j := by
  cases S with
  | l a =>
    obtain ⟨its, rv, pl, _⟩ := I.list h
    have D := Draws.list (prog := X.prog) (w := X.w) hh it a (Nat.ne_of_lt st.2) its.toArray
    have hl : its.toArray.size = vs.length := by rw [List.size_toArray, rv.length]
    rw [hl] at D
    exact ⟨_, _, D, ⟨st.1, pl.isList⟩, fun j u e => Vals_back rv (by simpa using e), fun j h' e => ⟨e.1, st.2⟩⟩
  | t a =>
    obtain ⟨its, rv, pl, _⟩ := I.tuple h
    have D := Draws.tuple (prog := X.prog) (w := X.w) hh it a (Nat.ne_of_lt st.2) its.toArray
    have hl : its.toArray.size = vs.length := by rw [List.size_toArray, rv.length]
    rw [hl] at D
    exact ⟨_, _, D, ⟨st.1, pl⟩, fun j u e => Vals_back rv (by simpa using e), fun j h' e => ⟨e.1, st.2⟩⟩
  | s x =>
    obtain ⟨t, st⟩ := st
    have D := Draws.text (prog := X.prog) (w := X.w) hh it x t
    have h : vs = signsV x := h
    have hl : x.cps.size = vs.length := by rw [h]; unfold signsV; simp
    rw [hl] at D
    refine ⟨_, _, D, st, fun j u e => ?_, fun j h' e => ⟨t, e⟩⟩
    obtain ⟨c, tc, hc, rfl⟩ := e
    refine ⟨.str ⟨#[c]⟩, ?_, ⟨tc, rfl⟩⟩
    rw [h]
    unfold signsV
    rw [List.getElem?_map, Array.getElem?_toList, hc]
    rfl
theorem src_begins {S : Src} {vs : List V} {u : Value} (I : Inv X pins σ H s) (h : S.at_ X.K H vs) (r : RelV S.val u) :
    ∃ (o : Obj) (Hh : Heap → Prop), Begins u o Hh ∧ Hh s.heap ∧ ∀ (h' : Heap) (it : Addr), s.heap.objs.size ≤ it → h'.get? it = some o → S.it h' it 0 := by
  cases S with
  | l a =>
    obtain ⟨its, rv, pl, _⟩ := I.list h
    obtain rfl : u = .ref a := r
    exact ⟨_, _, begins_list a its.toArray, pl.isList, fun h' it hi e => ⟨⟨_, e, rfl, rfl⟩, Nat.lt_of_lt_of_le pl.lt hi⟩⟩
  | t a =>
    obtain ⟨its, rv, pl, _⟩ := I.tuple h
    obtain rfl : u = .ref a := r
    exact ⟨_, _, begins_tuple a its.toArray, pl, fun h' it hi e => ⟨⟨_, e, rfl, rfl⟩, Nat.lt_of_lt_of_le (by obtain ⟨_, q, _⟩ := pl; exact Heap.lt_size q) hi⟩⟩
  | s x =>
    obtain ⟨t, rfl⟩ : ∃ t, u = .str x t := r
    exact ⟨_, _, begins_text x t, trivial, fun h' it hi e => ⟨t, _, e, rfl, rfl⟩⟩
theorem src_inj {S : Src} {vs ws : List V} (I : Inv X pins σ H s) (h : S.at_ X.K H vs) (k : S.at_ X.K H ws) : vs = ws := by
  cases S with
  | l a => exact I.list_inj h k
  | t a => exact I.tuple_inj h k
  | s x => exact (show vs = _ from h).trans (show ws = _ from k).symm
end
def Itz2 (K : PySem.W.Frag) (S1 S2 : Src) (n1 n2 : Nat) : It :=
  ⟨fun i H => i < n1 ∧ i < n2 ∧ ∃ xs ys : List V, S1.at_ K H xs ∧ S2.at_ K H ys ∧ xs.length = n1 ∧ ys.length = n2,
    fun i H v H' => ∃ T x y, v = .ref T ∧ H T = none ∧ H' = upd H T (.tup [x, y]) ∧ (∀ xs, S1.at_ K H xs → xs[i]? = some x) ∧ ∀ ys, S2.at_ K H ys → ys[i]? = some y,
    fun i H => (n1 ≤ i ∨ n2 ≤ i) ∧ ∃ xs ys : List V, S1.at_ K H xs ∧ S2.at_ K H ys ∧ xs.length = n1 ∧ ys.length = n2⟩
structure ZTn (S1 S2 : Src) (n1 n2 : Nat) (z TI TO i1 i2 : Addr) (i : Nat) (h : Heap) : Prop where
  z : IsZip h z TI TO .none
  TI : IsTupOf2 h TI (.ref i1) (.ref i2)
  TO : ∃ x y, IsTupOf2 h TO x y
  s1 : S1.it h i1 i
  s2 : S2.it h i2 i
  l1 : i ≤ n1
  l2 : i ≤ n2
theorem turn_zip2 {P : Program} {w : World} {K : PySem.W.Frag} {elts : List Expr} {kk : Nat} {tpos : Pos} {S1 S2 : Src} {n1 n2 : Nat} {z TI TO i1 i2 : Addr} (D : ZipSep2 z TI TO i1 i2 (i1 :: S1.fp) (i2 :: S2.fp)) :
    Turn P w K (.Tuple elts kk tpos) (Itz2 K S1 S2 n1 n2) [z, TI, TO, i1, i2] z (ZTn S1 S2 n1 n2 z TI TO i1 i2) where
  mem := by simp
  obj := fun i h st c hc => by
    have e' : c = z ∨ c = TI ∨ c = TO ∨ c = i1 ∨ c = i2 := by simpa using hc
    obtain ⟨x, y, hTO⟩ := st.TO
    rcases e' with q | q | q | q | q
    · rw [q]; exact ⟨_, st.z, fun v q => nomatch q⟩
    · rw [q]; exact ⟨_, st.TI, fun v q => nomatch q⟩
    · rw [q]; exact ⟨_, hTO, fun v q => nomatch q⟩
    · rw [q]; exact Src.it_obj st.s1
    · rw [q]; exact Src.it_obj st.s2
  keep := fun i h h' st k => by
    obtain ⟨x, y, hTO⟩ := st.TO
    exact ⟨k z (by simp) _ st.z, k TI (by simp) _ st.TI, ⟨x, y, k TO (by simp) _ hTO⟩, Src.it_at st.s1 fun o q => k i1 (by simp) o q, Src.it_at st.s2 fun o q => k i2 (by simp) o q, st.l1, st.l2⟩
  item := by
    intro X hP hw hK hc i pins s σ H E I hf st hg
    subst hP hw hK
    obtain ⟨hi1, hi2, xs, ys, hx, hy, rfl, rfl⟩ := hg
    obtain ⟨a1, a2, hTO⟩ := st.TO
    obtain ⟨P1, St1, D1, b1, c1, d1⟩ := src_draws (A := X.A.in1) I (I.ok.hd hc) hx st.s1
    obtain ⟨P2, St2, D2, b2, c2, d2⟩ := src_draws (A := X.A.in1) I (I.ok.hd hc) hy st.s2
    have hzl : z < s.heap.objs.size := Heap.lt_size st.z
    refine wpAny_pyNext_zipD2_item D D1 D2 st.z st.TI hTO b1 b2 hi1 hi2 fun x1 x2 h' tk y1 y2 g1 g2 g3 g4 g5 g6 g7 => ?_
    obtain ⟨v1, e1, r1⟩ := c1 _ _ y1
    obtain ⟨v2, e2, r2⟩ := c2 _ _ y2
    refine ⟨_, rfl, wpAny_letOwnedTupleGo_zip (s := { s with heap := h', toks := tk }) g1 fun h'' z'' sb => ?_⟩
    have hT2 : h''.get? s.heap.objs.size = some { cls := .type "tuple", data := .seq #[x1, x2] } := (sb.2 _ (Nat.ne_of_gt hzl)).trans g5
    have new : ObjOk X.prog X.w (upd H s.heap.objs.size (.tup [v1, v2])) h'' s.heap.objs.size (.tup [v1, v2]) :=
      ⟨by show 2 ≤ sizeLine; decide, [x1, x2], .cons r1 (.cons r2 .nil), ⟨_, hT2, rfl, _, rfl⟩⟩
    have I1 : Inv X pins σ (upd H s.heap.objs.size (.tup [v1, v2])) { s with heap := h'', toks := tk } :=
      I.turnedNew (t' := tk) (ch := [z, TI, TO, i1, i2]) (fun c o hb q => (sb.2 c (fun q' => hb (by simp [q']))).trans (g7 c o (fun q' => hb (by simp [q'])) (fun q' => hb (by simp [q'])) (fun q' => hb (by simp [q'])) (fun q' => hb (by simp [q'])) q)) hf (Nat.le_refl _) new
    refine ⟨.ref s.heap.objs.size, _, I1, rfl, ⟨_, v1, v2, rfl, I.hok.fresh (Nat.le_refl _), rfl, fun l hl => by rw [src_inj I hl hx]; exact e1, fun l hl => by rw [src_inj I hl hy]; exact e2⟩, ⟨z'', ?_, ⟨x1, x2, ?_⟩, ?_, ?_, hi1, hi2⟩, fun c hcm => ?_⟩
    · exact (sb.2 _ D.TIz).trans (g7 _ _ D.TIz D.TITO D.TIi1 D.TIi2 st.TI)
    · exact (sb.2 _ D.TOz).trans g2
    · exact Src.it_at (d1 _ _ g3) fun o q => (sb.2 _ (fun e => D.zi1 e.symm)).trans q
    · exact Src.it_at (d2 _ _ g4) fun o q => (sb.2 _ (fun e => D.zi2 e.symm)).trans q
    · have hlt : c < s.heap.objs.size := by
        have e' : c = z ∨ c = TI ∨ c = TO ∨ c = i1 ∨ c = i2 := by simpa using hcm
        rcases e' with q | q | q | q | q
        · rw [q]; exact hzl
        · rw [q]; exact Heap.lt_size st.TI
        · rw [q]; exact Heap.lt_size hTO
        · rw [q]; obtain ⟨_, e1, _⟩ := Src.it_obj st.s1; exact Heap.lt_size e1
        · rw [q]; obtain ⟨_, e2, _⟩ := Src.it_obj st.s2; exact Heap.lt_size e2
      rw [upd_ne (Nat.ne_of_lt hlt)]
      exact (hf c hcm).1
  done := by
    intro X hP hw hK hc i pins s σ H E I hf st hg
    subst hP hw hK
    obtain ⟨hend, xs, ys, hx, hy, rfl, rfl⟩ := hg
    obtain ⟨a1, a2, hTO⟩ := st.TO
    obtain ⟨P1, St1, D1, b1, c1, d1⟩ := src_draws (A := X.A.in1) I (I.ok.hd hc) hx st.s1
    obtain ⟨P2, St2, D2, b2, c2, d2⟩ := src_draws (A := X.A.in1) I (I.ok.hd hc) hy st.s2
    have h1 := st.l1
    have h2 := st.l2
    exact wpAny_pyNext_zipD2_end D D1 D2 st.z st.TI hTO b1 b2 h1 h2 (by omega) fun h' tk hk => ⟨rfl, I.turnedL (t' := tk) (ch := [z, TI, TO, i1, i2]) (fun c o hb q =>
      hk c o (fun q' => hb (by simp [q'])) (fun q' => hb (by simp [q'])) (fun q' => hb (by simp [q'])) (fun q' => hb (by simp [q'])) q) hf⟩
  self := fun A i s Q E st h => wpAny_pyIter_zip st.z h
def iZip2 (K : PySem.W.Frag) (ta : TA) : TI := fun σ H R => ta σ H fun vs H1 => ∃ S1 S2 xs ys, vs = [Src.val S1, Src.val S2] ∧ S1.at_ K H1 xs ∧ S2.at_ K H1 ys ∧ R (Itz2 K S1 S2 xs.length ys.length) H1
theorem src_fp_size {X : Cx} {pins : List (Addr × Obj)} {σ : L2.St} {H : Hp} {s : Shared} {S : Src} {vs : List V} (I : Inv X pins σ H s) (h : S.at_ X.K H vs) : ∀ b ∈ S.fp, b < s.heap.objs.size := by
  cases S with
  | l a =>
    intro b hb
    rw [List.mem_singleton.mp hb]
    obtain ⟨its, rv, pl, _⟩ := I.list h
    exact pl.lt
  | t a =>
    intro b hb
    rw [List.mem_singleton.mp hb]
    obtain ⟨its, rv, pl, _⟩ := I.tuple h
    obtain ⟨_, q, _⟩ := pl
    exact Heap.lt_size q
  | s x => intro b hb; cases hb
theorem pi_zip2 {X : Cx} {e e2 : Expr} {ta : TA} {p pos tpos : Pos} {elts : List Expr} {kk : Nat} (hg : Gl X "zip") (hm : X.mg "zip" = none) (ha : PA X [e, e2] ta)
    (hs : starEach [e, e2] X.env = (false, eval e X.env) :: starEach [e2] X.env := by rfl) (hpl : (backTo pos (starEach [e2] X.env)).any (·.1) = false := by rfl) :
    PI X (.Tuple elts kk tpos) (.Call (.Name "zip" p) [e, e2] [] pos) (iZip2 X.K ta) := by
  refine ⟨fun pins s σ H R I h => ?_⟩
  refine Call_ (ld_blt I hg hm PyProof.Rows.boot_zip (PyProof.Rows.callWith_type1 (thn (ha.run pos pins s σ H _ I h) fun us s1 ⟨vs, H1, I1, r1, q1⟩ => ?_) hs hpl))
  obtain ⟨S1, S2, xs, ys, ex, hx, hy, q⟩ := q1
  subst ex
  cases r1 with
  | cons r rr =>
    cases rr with
    | cons r' rr =>
      cases rr
      obtain ⟨o1, Hh1, B1, k1, j1⟩ := src_begins I1 hx r
      obtain ⟨o2, Hh2, B2, k2, j2⟩ := src_begins I1 hy r'
      refine zip_begins2 B1 B2 k1 k2 fun h' hz hTI hTO g1 g2 hsz hk => wpAny_pyIter_zip hz ?_
      have I2 : Inv X pins σ H1 { s1 with heap := h' } := I1.kept (t' := s1.toks) hk
      refine ⟨s1.heap.objs.size + 4, [s1.heap.objs.size + 4, s1.heap.objs.size + 2, s1.heap.objs.size + 3, s1.heap.objs.size, s1.heap.objs.size + 1], _, _, H1, rfl, I2, turn_zip2 (zip_sep2 (src_fp_size I1 hx) (src_fp_size I1 hy)),
        ⟨hz, hTI, ⟨_, _, hTO⟩, j1 _ _ (Nat.le_refl _) g1, j2 _ _ (Nat.le_add_right _ _) g2, Nat.zero_le _, Nat.zero_le _⟩, fun c hcm => ?_, q⟩
      have e' : c = s1.heap.objs.size + 4 ∨ c = s1.heap.objs.size + 2 ∨ c = s1.heap.objs.size + 3 ∨ c = s1.heap.objs.size ∨ c = s1.heap.objs.size + 1 := by simpa using hcm
      have hle : s1.heap.objs.size ≤ c := by
        rcases e' with z | z | z | z | z <;> rw [z] <;> first | exact Nat.le_refl _ | exact Nat.le_add_right _ _
      exact I1.fpOk hle (I1.hok.fresh hle)
def Ite2 (K : PySem.W.Frag) (k : Int) (S : Src) (n : Nat) : It :=
  ⟨fun i H => i < n ∧ ∃ xs : List V, S.at_ K H xs ∧ xs.length = n,
    fun i H v H' => ∃ T x, v = .ref T ∧ H T = none ∧ H' = upd H T (.tup [.int (k + (i : Nat)), x]) ∧ ∀ xs, S.at_ K H xs → xs[i]? = some x,
    fun i H => n ≤ i ∧ ∃ xs : List V, S.at_ K H xs ∧ xs.length = n⟩
theorem turn_enum2 {P : Program} {w : World} {K : PySem.W.Frag} {elts : List Expr} {kk : Nat} {tpos : Pos} (k : Int) (S : Src) (n : Nat) (e it : Addr) (hef : e ∉ S.fp) (hne : e ≠ it) :
    Turn P w K (.Tuple elts kk tpos) (Ite2 K k S n) [e, it] e (fun i h => (∃ old, IsEnum h e it (k + ((i : Nat) : Int)) old) ∧ S.it h it i ∧ i ≤ n) where
  mem := by simp
  obj := fun i h st b hb => by
    obtain ⟨⟨old, he⟩, hit, _⟩ := st
    have e' : b = e ∨ b = it := by simpa using hb
    rcases e' with z | z
    · rw [z]; exact ⟨_, he, fun v q => nomatch q⟩
    · rw [z]; exact Src.it_obj hit
  keep := fun i h h' st kk => let ⟨⟨old, he⟩, hit, hl⟩ := st; ⟨⟨old, kk e (by simp) _ he⟩, Src.it_at hit fun o q => kk it (by simp) o q, hl⟩
  item := by
    intro X hP hw hK hc i pins s σ H E I hf st hg
    subst hP hw hK
    obtain ⟨⟨old, he⟩, hit, _⟩ := st
    obtain ⟨hi, xs, hx, rfl⟩ := hg
    have hel : e < s.heap.objs.size := Heap.lt_size he
    have hil : it < s.heap.objs.size := by obtain ⟨_, q, _⟩ := Src.it_obj hit; exact Heap.lt_size q
    obtain ⟨P1, St1, D1, b1, c1, d1⟩ := src_draws (A := X.A.in1) I (I.ok.hd hc) hx hit
    refine wpAny_pyNext_enum_itemC D1 he b1 hi hne (fun z => (List.mem_cons.mp z).elim hne hef) fun u h' tk hu ho hit' hT hsz hk => ?_
    obtain ⟨v, ev, rv⟩ := c1 _ _ hu
    refine ⟨_, rfl, wpAny_letOwnedTupleGo_enum (s := { s with heap := h', toks := tk + 1 }) ho fun h'' he' sb => ?_⟩
    have hT2 : h''.get? s.heap.objs.size = some { cls := .type "tuple", data := .seq #[.int (k + ((i : Nat) : Int)) tk, u] } := (sb.2 _ (Nat.ne_of_gt hel)).trans hT
    have new : ObjOk X.prog X.w (upd H s.heap.objs.size (.tup [.int (k + (i : Nat)), v])) h'' s.heap.objs.size (.tup [.int (k + (i : Nat)), v]) :=
      ⟨by show 2 ≤ sizeLine; decide, [.int (k + ((i : Nat) : Int)) tk, u], .cons ⟨_, rfl⟩ (.cons rv .nil), ⟨_, hT2, rfl, _, rfl⟩⟩
    have I1 : Inv X pins σ (upd H s.heap.objs.size (.tup [.int (k + (i : Nat)), v])) { s with heap := h'', toks := tk + 1 } :=
      I.turnedNew (ch := [e, it]) (fun b ob hb q => (sb.2 b (fun z => hb (by simp [z]))).trans (hk b ob (fun z => hb (by simp [z])) (fun z => hb (by simp [z])) q)) hf (Nat.le_refl _) new
    refine ⟨.ref s.heap.objs.size, _, I1, rfl, ⟨_, v, rfl, I.hok.fresh (Nat.le_refl _), rfl, fun l hl => by rw [src_inj I hl hx]; exact ev⟩, ⟨⟨u, ?_⟩, Src.it_at (d1 _ _ hit') fun o q => (sb.2 _ (Ne.symm hne)).trans q, hi⟩, fun b hb => ?_⟩
    · have e1 : k + ((i + 1 : Nat) : Int) = k + ((i : Nat) : Int) + 1 := by omega
      rw [e1]; exact he'
    · have hb' : b < s.heap.objs.size := by
        have e' : b = e ∨ b = it := by simpa using hb
        rcases e' with z | z
        · rw [z]; exact hel
        · rw [z]; exact hil
      rw [upd_ne (Nat.ne_of_lt hb')]
      exact (hf b hb).1
  done := by
    intro X hP hw hK hc i pins s σ H E I hf st hg
    subst hP hw hK
    obtain ⟨⟨old, he⟩, hit, hle⟩ := st
    obtain ⟨hi, xs, hx, rfl⟩ := hg
    obtain ⟨f0, f1, f2, f3, f4, f5⟩ := hf it (by simp)
    obtain rfl : i = xs.length := by omega
    obtain ⟨P1, St1, D1, b1, c1, d1⟩ := src_draws (A := X.A.in1) I (I.ok.hd hc) hx hit
    refine wpAny_pyNext_enum_endD D1 he b1 fun h' eb => ⟨rfl, I.turned (t' := s.toks) (fun b o hb q => eb b o hb q) f0 f1 f3 f4 f5⟩
  self := fun A i s Q E st h => let ⟨⟨_, he⟩, _⟩ := st; wpAny_pyIter_enum he h
theorem meets_enum1 {v : Value} {o : Obj} {Hh : Heap → Prop} (B : Begins v o Hh) :
    Meets (Builtin.«enumerate.__new__» ⟨[.type "enumerate", v], []⟩) (fun _ R s => Hh s.heap ∧ R (.ok (.ret (.ref (s.heap.push o).objs.size))) { s with heap := (s.heap.push o).push { cls := .type "enumerate", data := .fields #[.none, .bool false, .ref s.heap.objs.size, rawInt 0, .none, .none] } }) :=
  .of_wp fun prog w A R s h => by
    obtain ⟨hp, g, d, tk, os⟩ := s; obtain ⟨h1, h⟩ := h
    have hsub := sub_enumerate
    have q1 : ∀ {A' : Around} {E : Value → Shared → Prop} {Q : Value → Shared → Prop}, Q (.ref hp.objs.size) ⟨hp.push o, g, d, tk, os⟩ → wpAny (model prog w) A' (pyIter v) Q E ⟨hp, g, d, tk, os⟩ :=
      fun q => B.iter prog w _ _ ⟨hp, g, d, tk, os⟩ _ h1 q
    wp_walk using q1
    refine wpAny_stack_any fun st => wpAny_pure ?_
    split
    · rename_i c _ _ _ _ _
      cases (c == Value.type "enumerate")
      · wp_walk using q1
        exact ⟨_, rfl, h⟩
      · wp_walk using q1
        exact ⟨_, rfl, h⟩
    · wp_walk using q1
      exact ⟨_, rfl, h⟩
theorem call_enum1 {prog : Program} {w : World} {A : Around} {E : Value → Shared → Prop} {s : Shared} {v : Value} {o : Obj} {Hh : Heap → Prop} {Q : Value → Shared → Prop} (B : Begins v o Hh) (h1 : Hh s.heap)
    (h : ∀ h', IsEnum h' (s.heap.objs.size + 1) s.heap.objs.size 0 .none → h'.get? s.heap.objs.size = some o → (∀ b o, s.heap.get? b = some o → h'.get? b = some o) → Q (.ref (s.heap.objs.size + 1)) { s with heap := h' }) :
    wpAny (model prog w) A (call (.type "enumerate") [v]) Q E s := by
  refine callType_new F.called_enumerate (by decide) (F.typeCall_enumerate_1 _) (F.newCall_enumerate_1 _) (fun obj => F.args_object_init_2 obj _) F.entry_enumerate_new (meets_enum1 B) ⟨h1, ?_⟩
  have hz : (s.heap.push o).objs.size = s.heap.objs.size + 1 := Heap.size_push ..
  have he : IsEnum ((s.heap.push o).push { cls := .type "enumerate", data := .fields #[.none, .bool false, .ref s.heap.objs.size, rawInt 0, .none, .none] }) (s.heap.objs.size + 1) s.heap.objs.size 0 .none := by
    have := Heap.get?_push_size (s.heap.push o) (o := { cls := .type "enumerate", data := .fields #[.none, .bool false, .ref s.heap.objs.size, rawInt 0, .none, .none] }) rfl
    rw [hz] at this; exact this
  show _ ∧ _
  rw [hz]
  exact ⟨⟨_, he, rfl⟩, h _ he (Heap.get?_push_of_some _ (Heap.get?_push_size _ B.free)) fun b o x => Heap.get?_push_of_some _ (Heap.get?_push_of_some _ x)⟩
def iEnum2 (K : PySem.W.Frag) (ta : TA) : TI := fun σ H R => ta σ H fun vs H1 => ∃ S xs, vs = [Src.val S] ∧ S.at_ K H1 xs ∧ R (Ite2 K 0 S xs.length) H1
theorem pi_enum2 {X : Cx} {e : Expr} {ta : TA} {p pos tpos : Pos} {elts : List Expr} {kk : Nat} (hg : Gl X "enumerate") (hm : X.mg "enumerate" = none) (ha : PA X [e] ta) (hs : starEach [e] X.env = [(false, eval e X.env)] := by rfl) :
    PI X (.Tuple elts kk tpos) (.Call (.Name "enumerate" p) [e] [] pos) (iEnum2 X.K ta) := by
  refine ⟨fun pins s σ H R I h => ?_⟩
  refine Call_ (ld_blt I hg hm boot_enumerate (PyProof.Rows.callWith_type1 (thn (ha.run pos pins s σ H _ I h) fun us s1 ⟨vs, H1, I1, r1, q1⟩ => ?_) hs rfl))
  obtain ⟨S, xs, ex, hx, q⟩ := q1
  subst ex
  cases r1 with
  | cons r rr =>
    cases rr
    obtain ⟨o1, Hh1, B1, k1, j1⟩ := src_begins I1 hx r
    refine call_enum1 B1 k1 fun h' he g1 hk => wpAny_pyIter_enum he ?_
    have I2 : Inv X pins σ H1 { s1 with heap := h' } := I1.kept (t' := s1.toks) hk
    refine ⟨s1.heap.objs.size + 1, [s1.heap.objs.size + 1, s1.heap.objs.size], _, _, H1, rfl, I2, turn_enum2 0 S xs.length (s1.heap.objs.size + 1) s1.heap.objs.size (fun z => ?_) (Nat.succ_ne_self _), ⟨⟨.none, by simpa using he⟩, j1 _ _ (Nat.le_refl _) g1, Nat.zero_le _⟩, fun b hb => ?_, q⟩
    · exact absurd (src_fp_size I1 hx _ z) (Nat.not_lt.mpr (Nat.le_succ _))
    · have e' : b = s1.heap.objs.size + 1 ∨ b = s1.heap.objs.size := by simpa using hb
      have hle : s1.heap.objs.size ≤ b := by rcases e' with z | z <;> rw [z] <;> first | exact Nat.le_refl _ | exact Nat.le_add_right _ _
      exact I1.fpOk hle (I1.hok.fresh hle)
end DL
set_option Elab.async false
set_option linter.all false
set_option maxRecDepth 100000
set_option maxHeartbeats 1000000
namespace DL
open PySem L2 PySem.Spec PyProof.Rows
/-- what is drawn from a list, a tuple, a text -/
def itemsQ : D → Option (List D)
  | .lst ds => some ds
  | .tup ds => some ds
  | .str s => some (s.map fun c => .str [c])
  | _ => none
def zipL (ds es : List D) : List D := (ds.zip es).map fun p => .tup [p.1, p.2]
def zipD : List D → R (List D)
  | [x, y] => match itemsQ x, itemsQ y with
    | some ds, some es => .ok (zipL ds es)
    | _, _ => .stuck
  | _ => .stuck
def enumQD : List D → R (List D)
  | [x] => match itemsQ x with
    | some ds => .ok (enumL 0 ds)
    | none => .stuck
  | _ => .stuck
def zipE (fs : LE → R (List D)) : LE → R (List D) := fun r => fs r >>= zipD
def enumQE (fs : LE → R (List D)) : LE → R (List D) := fun r => fs r >>= enumQD
theorem Src.at_mono {K : PySem.W.Frag} {H H' : Hp} (g : GrowS H H') : ∀ {S : Src} {vs : List V}, S.at_ K H vs → S.at_ K H' vs
  | .l a, vs, h => g.sql h
  | .t a, vs, h => g.sqt h
  | .s x, vs, h => h
theorem src_of {G : Gm} {dl : Addr} {S : Hp} {d : D} {v : V} {ds : List D} (h : Rep G dl S d v) (e : itemsQ d = some ds) : ∃ Sr vs, v = Src.val Sr ∧ Sr.at_ G.K S vs ∧ RepL G dl S ds vs := by
  unfold itemsQ at e
  split at e
  · cases e
    unfold Rep at h
    obtain ⟨a, vs, rfl, q, r⟩ := h
    exact ⟨.l a, vs, rfl, SqL.of q, r⟩
  · cases e
    unfold Rep at h
    obtain ⟨a, vs, rfl, q, r⟩ := h
    exact ⟨.t a, vs, rfl, SqT.of q, r⟩
  · cases e
    unfold Rep at h
    subst h
    refine ⟨.s _, signsV _, rfl, rfl, ?_⟩
    unfold signsV
    exact signs_rep
  · cases e
section
variable {X : Cx} {G : Gm} {W : WX} {e e2 : Expr} {p pos tpos : Pos} {elts : List Expr} {kk : Nat} {fs : LE → R (List D)}
theorem zipL_get {ds es : List D} {i : Nat} {d : D} (h : (zipL ds es)[i]? = some d) : ∃ a b, ds[i]? = some a ∧ es[i]? = some b ∧ d = .tup [a, b] := by
  unfold zipL at h
  rw [List.getElem?_map] at h
  cases q : (ds.zip es)[i]? with
  | none => rw [q] at h; cases h
  | some pr =>
    rw [q] at h
    cases h
    obtain ⟨a, b⟩ := pr
    obtain ⟨h1, h2⟩ := List.getElem?_zip_eq_some.mp q
    exact ⟨a, b, h1, h2, rfl⟩
theorem zipL_len {ds es : List D} : (zipL ds es).length = min ds.length es.length := by unfold zipL; simp
theorem walk_zip2 {dl : Addr} {S1 S2 : Src} {ds es : List D} {xs ys : List V} (l1 : xs.length = ds.length) (l2 : ys.length = es.length) :
    WalkS G dl (Itz2 G.K S1 S2 xs.length ys.length) (zipL ds es) (fun Z H => S1.at_ G.K (cut H Z) xs ∧ S2.at_ G.K (cut H Z) ys ∧ RepL G dl (cut H Z) ds xs ∧ RepL G dl (cut H Z) es ys) where
  mono := fun _ _ _ _ g _ h => ⟨Src.at_mono g h.1, Src.at_mono g h.2.1, h.2.2.1.mono g, h.2.2.2.mono g⟩
  monoS := fun _ _ _ _ g h => ⟨Src.at_mono g h.1, Src.at_mono g h.2.1, h.2.2.1.mono g, h.2.2.2.mono g⟩
  go := fun i Z H h hi => by
    rw [zipL_len] at hi
    exact ⟨by omega, by omega, xs, ys, Src.at_mono (cut_grow H Z) h.1, Src.at_mono (cut_grow H Z) h.2.1, rfl, rfl⟩
  stop := fun i Z H h hi => by
    rw [zipL_len] at hi
    exact ⟨by omega, xs, ys, Src.at_mono (cut_grow H Z) h.1, Src.at_mono (cut_grow H Z) h.2.1, rfl, rfl⟩
  yld := fun i Z O r sg H x H' A h hy d hd => by
    obtain ⟨a, b, ha, hb, rfl⟩ := zipL_get hd
    obtain ⟨T, u, v, rfl, hT, rfl, q1, q2⟩ := hy
    obtain ⟨u', hu', rp⟩ := RepL.getD ds xs i a h.2.2.1 ha
    obtain ⟨v', hv', rq⟩ := RepL.getD es ys i b h.2.2.2 hb
    have e1 := q1 xs (Src.at_mono (cut_grow H Z) h.1)
    have e2 := q2 ys (Src.at_mono (cut_grow H Z) h.2.1)
    rw [hu'] at e1; cases e1
    rw [hv'] at e2; cases e2
    have hTZ : T ∉ Z := A.out hT
    have gN : GrowS (cut H Z) (cut (upd H T (.tup [u, v])) Z) := fun b o e n => by
      obtain ⟨e1, e2⟩ := cut_some e
      rw [cut_out e1, upd_ne (ne_of_none e2 hT)]; exact e2
    refine ⟨.new hT, fun _ k => k.new hT, ?_⟩
    unfold Rep
    exact ⟨T, _, rfl, (by rw [cut_out hTZ, upd_same]), RepL.cons (rp.mono gN) (RepL.cons (rq.mono gN) RepL.nil)⟩
theorem walk_enum2 {dl : Addr} {S : Src} {ds : List D} {xs : List V} (l1 : xs.length = ds.length) :
    WalkS G dl (Ite2 G.K 0 S xs.length) (enumL 0 ds) (fun Z H => S.at_ G.K (cut H Z) xs ∧ RepL G dl (cut H Z) ds xs) where
  mono := fun _ _ _ _ g _ h => ⟨Src.at_mono g h.1, h.2.mono g⟩
  monoS := fun _ _ _ _ g h => ⟨Src.at_mono g h.1, h.2.mono g⟩
  go := fun i Z H h hi => by
    rw [enumL_len] at hi
    exact ⟨by omega, xs, Src.at_mono (cut_grow H Z) h.1, rfl⟩
  stop := fun i Z H h hi => by
    rw [enumL_len] at hi
    exact ⟨by omega, xs, Src.at_mono (cut_grow H Z) h.1, rfl⟩
  yld := fun i Z O r sg H x H' A h hy e he => by
    obtain ⟨d, hd, rfl⟩ := enumL_get he
    obtain ⟨T, u, rfl, hT, rfl, hu⟩ := hy
    obtain ⟨u', hu', rp⟩ := RepL.getD ds xs i d h.2 hd
    have e1 := hu xs (Src.at_mono (cut_grow H Z) h.1)
    rw [hu'] at e1; cases e1
    have hTZ : T ∉ Z := A.out hT
    have gN : GrowS (cut H Z) (cut (upd H T (.tup [.int (0 + (i : Nat)), u])) Z) := fun b o e n => by
      obtain ⟨e1, e2⟩ := cut_some e
      rw [cut_out e1, upd_ne (ne_of_none e2 hT)]; exact e2
    refine ⟨.new hT, fun _ k => k.new hT, ?_⟩
    unfold Rep
    exact ⟨T, _, rfl, (by rw [cut_out hTZ, upd_same]), RepL.cons Rep.int_ (RepL.cons (rp.mono gN) RepL.nil)⟩
theorem di_zip2 (hG : G.K = X.K) (hg : Gl X "zip") (hm : X.mg "zip" = none) (ha : DA X G W [e, e2] fs)
    (hs : starEach [e, e2] X.env = (false, eval e X.env) :: starEach [e2] X.env := by rfl) (hpl : (backTo pos (starEach [e2] X.env)).any (·.1) = false := by rfl) :
    DI X G W (.Tuple elts kk tpos) (.Call (.Name "zip" p) [e, e2] [] pos) (zipE fs) := PI_imp (pi_zip2 hg hm ha hs hpl) fun sg H Q ⟨dl, Z, O, r, A, q⟩ => by
  refine ⟨dl, Z, O, r, A, q.bind.thn fun d hd vs1 H1 g1 k1 rl => ?_⟩
  unfold zipD at hd
  split at hd
  · rename_i x y
    unfold RepL at rl
    obtain ⟨v, us, rfl, h1, h2⟩ := rl
    unfold RepL at h2
    obtain ⟨v2, us2, rfl, h3, h4⟩ := h2
    unfold RepL at h4
    subst h4
    split at hd
    · rename_i ds es e1 e2
      obtain ⟨S1, xs, rfl, a1, r1⟩ := src_of h1 e1
      obtain ⟨S2, ys, rfl, a2, r2⟩ := src_of h3 e2
      refine ⟨S1, S2, xs, ys, rfl, hG ▸ Src.at_mono (cut_grow H1 Z) a1, hG ▸ Src.at_mono (cut_grow H1 Z) a2, ?_⟩
      rw [← hG]
      exact hd _ _ H1 g1 k1 (walk_zip2 r1.length r2.length) ⟨a1, a2, r1, r2⟩
    · exact hd.elim
  · exact hd.elim
theorem di_enum2 (hG : G.K = X.K) (hg : Gl X "enumerate") (hm : X.mg "enumerate" = none) (ha : DA X G W [e] fs) (hs : starEach [e] X.env = [(false, eval e X.env)] := by rfl) :
    DI X G W (.Tuple elts kk tpos) (.Call (.Name "enumerate" p) [e] [] pos) (enumQE fs) := PI_imp (pi_enum2 hg hm ha hs) fun sg H Q ⟨dl, Z, O, r, A, q⟩ => by
  refine ⟨dl, Z, O, r, A, q.bind.thn fun d hd vs1 H1 g1 k1 rl => ?_⟩
  unfold enumQD at hd
  split at hd
  · rename_i x
    unfold RepL at rl
    obtain ⟨v, us, rfl, h1, h2⟩ := rl
    unfold RepL at h2
    subst h2
    split at hd
    · rename_i ds e1
      obtain ⟨S1, xs, rfl, a1, r1⟩ := src_of h1 e1
      refine ⟨S1, xs, rfl, hG ▸ Src.at_mono (cut_grow H1 Z) a1, ?_⟩
      rw [← hG]
      exact hd _ _ H1 g1 k1 (walk_enum2 r1.length) ⟨a1, r1⟩
    · exact hd.elim
  · exact hd.elim
end
end DL
set_option Elab.async false
set_option linter.all false
set_option maxRecDepth 100000
set_option maxHeartbeats 1000000
namespace DL
open PySem L2 PySem.Spec PyProof.Rows
end DL
set_option Elab.async false
set_option linter.all false
set_option maxRecDepth 100000
set_option maxHeartbeats 1000000
namespace DL
open PySem L2 PySem.Spec PyProof.Rows
def rgB (i : Int) : Bool := decide (i < 1000000) && decide (-1000000 < i)
def lrg1 : D → R (List D)
  | .int j => if rgB j then .ok (rangeL 0 j.toNat) else .stuck
  | _ => .stuck
def lrg1E (f : LE → R D) : LE → R (List D) := fun r => f r >>= lrg1
theorem rgB_iff {i : Int} : rgB i = true ↔ i < 1000000 ∧ -1000000 < i := by unfold rgB; simp
theorem RepL.ints {G : Gm} {dl : Addr} {S : Hp} (a : Int) : ∀ l : List Nat, RepL G dl S (l.map fun (i : Nat) => D.int (a + (i : Int))) (l.map fun (i : Nat) => V.int (a + (i : Int)))
  | [] => RepL.nil
  | i :: l => RepL.cons Rep.int_ (RepL.ints a l)
section
variable {X : Cx} {G : Gm} {W : WX} {a b : Expr} {f g : LE → R D} {p pos p2 pos2 : Pos}
theorem df_listRg1 (hc : X.calm = true) (hg : Gl X "list") (hm : X.mg "list" = none) (hg2 : Gl X "range") (hm2 : X.mg "range" = none) (ha : DE X G W a f) (hs : starEach [a] X.env = (false, eval a X.env) :: starEach [] X.env := by rfl)
    (hs2 : starEach [.Call (.Name "range" p2) [a] [] pos2] X.env = (false, eval (.Call (.Name "range" p2) [a] [] pos2) X.env) :: starEach [] X.env := by rfl) :
    DF X G W (.Call (.Name "list" p) [.Call (.Name "range" p2) [a] [] pos2] [] pos) (lrg1E f) :=
  PE_imp (pe_listRg hc hg hm (prg_1 hg2 hm2 ha hs) hs2) fun sg H Q ⟨dl, Z, O, r, A, q⟩ => ⟨dl, Z, O, r, A, q.bind.thn fun d hd v H1 g1 k1 rp => by
    unfold lrg1 at hd
    split at hd
    · rename_i j
      split at hd
      · rename_i hj
        rw [rgB_iff] at hj
        unfold Rep at rp
        refine ⟨j, rp, ⟨by omega, by omega, by omega, by omega, by omega⟩, fun l hl => hd l _ H1 g1 k1 hl ?_⟩
        have := RepL.ints (G := G) (dl := dl) (S := cut H1 Z) 0 (List.range j.toNat)
        unfold rgV
        rw [Int.sub_zero]
        exact this
      · exact hd.elim
    · exact hd.elim⟩
end
end DL
set_option Elab.async false
set_option linter.all false
set_option maxRecDepth 100000
set_option maxHeartbeats 1000000
namespace DL
open PySem L2 PySem.Spec PyProof.Rows
def appPop (i j : Nat) (r : LE) (ds es : List D) : D → R Out
  | .int (.ofNat n) => (match ds[n]? with
    | some y => if es.length < 16777216 ∧ n < 16777216 then .ok (.nx ((r.set j (.own (.lst (ds.eraseIdx n)))).set i (.own (.lst (es ++ [y]))))) else .stuck
    | none => .stuck)
  | _ => .stuck
def appPopS (i j : Nat) (f : LE → R D) : LE → R Out := fun r => match r[i]? with
  | some (.own (.lst es)) => (match r[j]? with
    | some (.own (.lst ds)) => (f r).onS r (appPop i j r ds es)
    | _ => .stuck)
  | _ => .stuck
theorem RepL.erase {G : Gm} {dl : Addr} {S : Hp} : ∀ {ds : List D} {vs : List V} (n : Nat), RepL G dl S ds vs → RepL G dl S (ds.eraseIdx n) (vs.eraseIdx n)
  | [], vs, n, h => by
    unfold RepL at h
    subst h
    exact RepL.nil
  | d :: ds, vs, n, h => by
    unfold RepL at h
    obtain ⟨v, us, rfl, h1, h2⟩ := h
    cases n with
    | zero => exact h2
    | succ n => exact RepL.cons h1 (RepL.erase n h2)
section
variable {X : Cx} {G : Gm} {W : WX} {ex : Expr} {f : LE → R D} {pos apos apos2 p p1 p2 p3 : Pos} {x y : Str}
theorem ds_apppop (i j : Nat) (hij : i ≠ j) (ha : DE X G W ex f) (hN : X.N[i]? = some x := by rfl) (hN2 : X.N[j]? = some y := by rfl) (hv : Vis X.env.scope x := by first | exact Or.inl rfl | exact Or.inr (Or.inl rfl) | exact Or.inr (Or.inr rfl)) (hv2 : Vis X.env.scope y := by first | exact Or.inl rfl | exact Or.inr (Or.inl rfl) | exact Or.inr (Or.inr rfl))
    (hd : (x == ("__debug__" : Str)) = false := by decide) (hcd : (x == ("__classdict__" : Str)) = false := by decide) (hd2 : (y == ("__debug__" : Str)) = false := by decide) (hcd2 : (y == ("__classdict__" : Str)) = false := by decide)
    (hs : swapsWith (.Call (.Attribute (.Name x p1) "append" apos) [.Call (.Attribute (.Name y p2) "pop" apos2) [ex] [] p3] [] p) none pos.line X.env = pure false := by rfl)
    (hbase : attributeBase (.Name x p1) "append" X.env (eval (.Name x p1) X.env) = eval (.Name x p1) X.env := by rfl) (hbase2 : attributeBase (.Name y p2) "pop" X.env (eval (.Name y p2) X.env) = eval (.Name y p2) X.env := by rfl)
    (hfew : ((backTo p (starEach [.Call (.Attribute (.Name y p2) "pop" apos2) [ex] [] p3] X.env)).all (fun x => !x.1) && (backToKw p (keywordEach [] X.env)).all (fun x => x.1.isSome)
      && decide ([Expr.Call (.Attribute (.Name y p2) "pop" apos2) [ex] [] p3].length + ([] : List Keyword).length + (if ([] : List Keyword).isEmpty then 0 else 1) < 30)) = true := by rfl)
    (hfew2 : ((backTo p3 (starEach [ex] X.env)).all (fun x => !x.1) && (backToKw p3 (keywordEach [] X.env)).all (fun x => x.1.isSome)
      && decide ([ex].length + ([] : List Keyword).length + (if ([] : List Keyword).isEmpty then 0 else 1) < 30)) = true := by rfl)
    (hline : (apos.endLine == p.line) = true := by rfl) (hline2 : (apos2.endLine == p3.line) = true := by rfl)
    (hst : starEach [.Call (.Attribute (.Name y p2) "pop" apos2) [ex] [] p3] X.env = (false, eval (.Call (.Attribute (.Name y p2) "pop" apos2) [ex] [] p3) X.env) :: starEach [] X.env := by rfl)
    (hst2 : starEach [ex] X.env = (false, eval ex X.env) :: starEach [] X.env := by rfl) :
    DS X G W (.Expr (.Call (.Attribute (.Name x p1) "append" apos) [.Call (.Attribute (.Name y p2) "pop" apos2) [ex] [] p3] [] p) pos) (appPopS i j f) := by
  refine PS_imp (ps_expr (pe_bm PySem.F.plainAttrs_list PySem.F.slot_list_append PySem.F.type_list_append mt_append (pe_var hN hv hd hcd)
    (pa_cons (pe_bm PySem.F.plainAttrs_list PySem.F.slot_list_pop PySem.F.type_list_pop mt_popAt (pe_var hN2 hv2 hd2 hcd2) (pa_cons ha pa_nil hst2) hbase2 hfew2 hline2 hst2 (by rfl)) pa_nil hst) hbase hfew hline hst (by rfl)) hs) fun De sg H ⟨dl, Z, O, r, A, q⟩ => ?_
  unfold appPopS at q
  split at q
  case h_2 => exact q.elim
  rename_i es hri
  split at q
  case h_2 => exact q.elim
  rename_i ds hrj
  obtain ⟨a, ha', hs', ⟨vs, e, rl⟩, ko⟩ := A.slot i _ hri
  obtain ⟨b, hb', hsb, ⟨us, eb, rlb⟩, kob⟩ := A.slot j _ hrj
  obtain ⟨haz, had⟩ := A.own _ ha'
  obtain ⟨hbz, hbd⟩ := A.own _ hb'
  have hab : a ≠ b := fun z => by
    have := A.inj _ ha' _ hb' z
    exact hij (kee_inj ko kob (congrArg Prod.fst this))
  refine ⟨.ref a, hs', .inl ⟨rfl, vs, SqL.of e⟩, .ref b, hsb, .inl ⟨rfl, us, SqL.of eb⟩, dl, Z, O, r, A, (onS_wp q).mono (fun d hd' v H1 g1 k1 rp => ?_) fun e he => spost_ex A he⟩
  have A1 := A.grow g1 k1
  have e1 : H1 a = some (.lst vs) := g1 a _ e had (fun ps z => by cases z)
  have e2 : H1 b = some (.lst us) := g1 b _ eb hbd (fun ps z => by cases z)
  unfold appPop at hd'
  split at hd'
  case h_2 => exact hd'.elim
  rename_i n
  split at hd'
  case h_2 => exact hd'.elim
  rename_i y hy
  split at hd'
  case isFalse => exact hd'.elim
  rename_i hlen
  have hv : v = .int (n : Int) := by
    unfold Rep at rp
    exact rp
  subst hv
  obtain ⟨w, hw, rw_⟩ := RepL.getD ds us n y rlb hy
  have hn : n < us.length := (List.getElem?_eq_some_iff.mp hw).1
  refine ⟨b, us, (n : Int), n, w, rfl, rfl, e2, by omega, by omega, ?_, hw, ?_⟩
  · unfold seqIndex?
    rw [if_neg (by omega : ¬ ((n : Int) < 0)), if_pos (by simp; omega)]
    simp
  have nt : ∀ ps, HO.lst (us.eraseIdx n) ≠ .tbl ps := fun ps z => by cases z
  have B := A1.write hrj hb' hsb (d' := .lst (ds.eraseIdx n)) (o := .lst (us.eraseIdx n)) ⟨_, rfl, RepL.erase n (rlb.mono (g1.cut A.dz))⟩ rfl kob
  have gw : GrowS (cut H1 Z) (cut (upd H1 b (.lst (us.eraseIdx n))) Z) := Stp.cut A1 (Stp.write hb' nt)
  refine ⟨a, vs, w, rfl, rfl, by rw [upd_ne hab]; exact e1, by rw [sizeLine_eq, rl.length]; exact hlen.1, ?_⟩
  have hri2 : (r.set j (.own (.lst (ds.eraseIdx n))))[i]? = some (.own (.lst es)) := by rw [List.getElem?_set_ne (Ne.symm hij)]; exact hri
  refine hd' Z O sg _ (Stp.trans A (Stp.trans A (Stp.of_grow g1 k1) (Stp.write hb' nt)) (Stp.write ha' fun ps z => by cases z)) (B.write hri2 ha' hs' ⟨_, rfl, RepL.append ((rl.mono (g1.cut A.dz)).mono gw) (RepL.cons ((rw_.mono (g1.cut A.dz)).mono gw) RepL.nil)⟩ rfl ko)
end
end DL
set_option Elab.async false
set_option linter.all false
set_option maxRecDepth 100000
set_option maxHeartbeats 1000000
namespace DL
open PySem L2 PySem.Spec PyProof.Rows
section
variable {X : Cx} {e lo st : Expr} {te tl tk : TE} {p2 pos : Pos}
def tSlSt (te tl tk : TE) : TE := fun σ H Q => te σ H fun x H1 => tl σ H1 fun l H2 => tk σ H2 fun k H3 => ∃ z i j, x = .str z ∧ l = .int i ∧ k = .int j ∧ j ≠ 0 ∧ z.length ≤ sizeLine ∧ Q (.str (Txt.sliceBy z (some (i, 0)) none (j, 0))) H3
theorem pe_sliceStep (he : PE X e te) (hl : PE X lo tl) (hk : PE X st tk) : PE X (.Subscript e (.Slice (some lo) none (some st) p2) pos) (tSlSt te tl tk) := by
  refine ⟨fun pins s σ H Q I h => ?_⟩
  refine Subscript_ (thn (he.run pins s σ H _ I h) fun v s1 ⟨x, H1, I1, r1, q1⟩ => ?_)
  refine wpAny_Slice ?_
  rw [evalPart_some]
  refine thn (hl.run pins s1 σ H1 _ I1 q1) fun vl s2 ⟨l, H2, I2, rl, q2⟩ => ?_
  rw [evalPart_none]
  refine wpAny_pure ?_
  rw [evalPart_some]
  refine thn (hk.run pins s2 σ H2 _ I2 q2) fun vk s3 ⟨k, H3, I3, rk, q3⟩ => ?_
  obtain ⟨z, i, j, rfl, rfl, rfl, hj, hz, q⟩ := q3
  obtain ⟨t, rfl⟩ := r1
  obtain ⟨ti, rfl⟩ := rl
  obtain ⟨tj, rfl⟩ := rk
  have hj0 : (j == 0) = false := by simpa using hj
  have I4 : Inv X pins σ H3 { s3 with heap := s3.heap.push { cls := .type "slice", data := .fields #[.int i ti, .none, .int j tj] } } := I3.kept (t' := s3.toks) fun b ob q => Heap.get?_push_of_some _ q
  show wpAny (model X.prog X.w) X.A (subscriptTail e (.Slice (some lo) none (some st) p2) (.str z t) (.ref s3.heap.objs.size)) (EP X pins σ Q) X.xe { s3 with heap := s3.heap.push { cls := .type "slice", data := .fields #[.int i ti, .none, .int j tj] } }
  refine tail_any (ops := [.ref s3.heap.objs.size, .str z t]) (typeIs_str _ _ _) PySem.F.slot_str_getitem.lookup (wpAny_getItem_str_slice (l := some (i, ti)) (u := none) (st := some (j, tj)) ⟨_, Heap.get?_push_size _ rfl, rfl, rfl⟩ hj0
    (post_val_or_str ⟨Nat.le_trans (Txt.sliceBy_le z _ _ (j, tj) hj) hz, fun t' c => ?_⟩)) (by with_unfolding_all rfl)
  exact ⟨.str (Txt.sliceBy z (some (i, 0)) none (j, 0)), H3, I4.tok c, ⟨t', rfl⟩, q⟩
end
def stepD (s : List Nat) (i j : Int) : List Nat := (Txt.sliceBy ⟨s.toArray⟩ (some (i, 0)) none (j, 0)).cps.toList
def stepI : D → D → D → R D
  | .str s, .int i, .int j => if j ≠ 0 ∧ s.length ≤ 16777216 then .ok (.str (stepD s i j)) else .stuck
  | _, _, _ => .stuck
def stepE (f g k : LE → R D) : LE → R D := fun r => f r >>= fun x => g r >>= fun i => k r >>= fun j => stepI x i j
section
variable {X : Cx} {G : Gm} {W : WX} {e lo st : Expr} {f g k : LE → R D} {p2 pos : Pos}
theorem de_sliceStep (he : DE X G W e f) (hl : DE X G W lo g) (hk : DE X G W st k) : DE X G W (.Subscript e (.Slice (some lo) none (some st) p2) pos) (stepE f g k) :=
  PE_imp (pe_sliceStep he hl hk) fun sg H Q ⟨dl, Z, O, r, A, q⟩ => ⟨dl, Z, O, r, A, q.bind.thn fun d hd v H1 g1 k1 rp => ⟨dl, Z, O, r, A.grow g1 k1, (hd.bind.thn fun d2 hd2 v2 H2 g2 k2 rp2 => (⟨dl, Z, O, r, (A.grow g1 k1).grow g2 k2, (hd2.bind.thn fun d3 hd3 v3 H3 g3 k3 rp3 => by
    unfold stepI at hd3
    split at hd3
    · rename_i s i j
      split at hd3
      · rename_i hc
        refine ⟨⟨s.toArray⟩, i, j, (by unfold Rep at rp; exact rp), ?_, ?_, hc.1, by rw [sizeLine_eq]; simpa [Str.length] using hc.2, hd3 _ H3 ((g1.trans g2).trans g3) k3 ?_⟩
        · unfold Rep at rp2; exact rp2
        · unfold Rep at rp3; exact rp3
        · unfold Rep stepD
          rfl
      · exact hd3.elim
    · exact hd3.elim).mono (fun _ h => h) fun e he cls dx H3 g3 => he cls dx H3 ((g1.trans g2).trans g3)⟩ : _)).mono (fun _ h => h) fun e he cls dx H2 g2 => he cls dx H2 (g1.trans g2)⟩⟩
end
end DL
set_option Elab.async false
set_option linter.all false
set_option maxRecDepth 100000
set_option maxHeartbeats 1000000
namespace PySem
namespace HandSPX
end HandSPX
end PySem
namespace DL
open PySem L2 PySem.Spec PyProof.Rows HandSPX
end DL
set_option Elab.async false
set_option linter.all false
set_option maxRecDepth 100000
set_option maxHeartbeats 1000000
namespace DL
open PySem L2 PySem.Spec PyProof.Rows HandSPX
end DL
set_option Elab.async false
set_option linter.all false
set_option maxRecDepth 100000
set_option maxHeartbeats 1000000
namespace DL
open PySem L2 PySem.Spec PyProof.Rows HandSPX
end DL
set_option Elab.async false
set_option linter.all false
set_option maxRecDepth 100000
set_option maxHeartbeats 1000000
namespace DL
open PySem L2 PySem.Spec PyProof.Rows
end DL
set_option Elab.async false
set_option linter.all false
set_option maxRecDepth 100000
set_option maxHeartbeats 2000000
namespace DL
open PySem L2 PySem.Spec PyProof.Rows
def partD : D → List D → R D
  | .str a, [.str b] => if b ≠ [] ∧ a.length ≤ 16777000 then (match TL.par b [] a with
    | some (p, q) => .ok (.tup [.str p, .str b, .str q])
    | none => .ok (.tup [.str a, .str [], .str []])) else .stuck
  | _, _ => .stuck
end DL
set_option Elab.async false
set_option linter.all false
set_option maxRecDepth 100000
set_option maxHeartbeats 2000000
namespace L2
open PySem PySem.Spec PyProof.Rows
/-- a pair with a tracked tuple as its key -/
abbrev KeyP (H : Hp) (p : V × V) (q : List Key × V) : Prop := ∃ b, p.1 = .ref b ∧ H b = some (.tup (q.1.map kV)) ∧ p.2 = q.2
end L2
namespace DL
open PySem L2 PySem.Spec PyProof.Rows
def keysOf : List D → Option (List Key)
  | [] => some []
  | d :: ds => match d.key, keysOf ds with
    | some x, some r => some (x :: r)
    | _, _ => none
/-- in its place, or at the end; what stands at a key -/
def putG (kvs : List (List Key × D)) (k : List Key) (v : D) : List (List Key × D) :=
  if (kvs.any fun kv => decide (kv.1 = k)) = true then kvs.map (fun kv => if kv.1 = k then (kv.1, v) else kv) else kvs ++ [(k, v)]
def valG (kvs : List (List Key × D)) (k : List Key) : Option D := (kvs.find? fun kv => decide (kv.1 = k)).map (·.2)
abbrev RepG (G : Gm) (dl : Addr) (S : Hp) : List (List Key × D) → List (List Key × V) → Prop := Paired fun p q => p.1 = q.1 ∧ Rep G dl S p.2 q.2
section
variable {G : Gm} {dl : Addr} {S S' : Hp}
theorem RepG.any {kvs : List (List Key × D)} {kv : List (List Key × V)} (h : RepG G dl S kvs kv) (k : List Key) : (kvs.any fun z => decide (z.1 = k)) = kv.any fun z => decide (z.1 = k) := by
  induction h with
  | nil => rfl
  | cons h t ih => rw [List.any_cons, List.any_cons, ih, h.1]
theorem RepG.put {kvs : List (List Key × D)} {kv : List (List Key × V)} (h : RepG G dl S kvs kv) (k : List Key) {d : D} {v : V} (r : Rep G dl S d v) : RepG G dl S (putG kvs k d) (putK kv k v) := by
  unfold putG putK
  rw [h.any k]
  by_cases c : (kv.any fun z => decide (z.1 = k)) = true
  · rw [if_pos c, if_pos c]
    clear c
    induction h with
    | nil => exact .nil
    | @cons p q ps qs h t ih =>
      rw [List.map_cons, List.map_cons]
      refine .cons ?_ ih
      by_cases e : p.1 = k
      · rw [if_pos e, if_pos (h.1.symm.trans e)]; exact ⟨h.1, r⟩
      · rw [if_neg e, if_neg (fun z => e (h.1.trans z))]; exact h
  · rw [if_neg c, if_neg c]; exact Paired.snoc h ⟨rfl, r⟩
theorem RepG.val {kvs : List (List Key × D)} {kv : List (List Key × V)} (h : RepG G dl S kvs kv) {k : List Key} {d : D} (e : valG kvs k = some d) : ∃ v, valV kv k = some v ∧ Rep G dl S d v := by
  induction h with
  | nil => cases e
  | @cons p q ps qs h t ih =>
    by_cases z : p.1 = k
    · have : valG (p :: ps) k = some p.2 := by simp [valG, List.find?_cons, z]
      rw [this] at e
      cases e
      exact ⟨q.2, valV_pos (h.1.symm.trans z), h.2⟩
    · have : valG (p :: ps) k = valG ps k := by simp [valG, List.find?_cons, z]
      rw [this] at e
      obtain ⟨v, h1, h2⟩ := ih e
      exact ⟨v, (valV_neg (fun y => z (h.1.trans y))).trans h1, h2⟩
end
/-- the pairs of a display, the keys tuples written down -/
inductive DPsT (X : Cx) (G : Gm) (W : WX) (pos : Pos) : List (Option Expr) → List Expr → List ((LE → R (List D)) × (LE → R D)) → Prop
  | nil : DPsT X G W pos [] [] []
  | cons {es : List Expr} {x1 : Nat} {p : Pos} {v : Expr} {ks : List (Option Expr)} {vs : List Expr} {f : LE → R (List D)} {g : LE → R D} {fs : List ((LE → R (List D)) × (LE → R D))} (hk : DA X G W es f) (hv : DE X G W v g) (h : DPsT X G W pos ks vs fs) : DPsT X G W pos (some (.Tuple es x1 p) :: ks) (v :: vs) ((f, g) :: fs)
section
variable {X : Cx} {G : Gm} {W : WX} {pos : Pos}
theorem DPsT.len {ks : List (Option Expr)} {vs : List Expr} {fs : List ((LE → R (List D)) × (LE → R D))} (h : DPsT X G W pos ks vs fs) : fs.length = ks.length := by
  induction h with
  | nil => rfl
  | cons _ _ _ ih => rw [List.length_cons, List.length_cons, ih]
theorem KeyP.grow {dl : Addr} {H H' : Hp} (g : Grow dl H H') {b : Addr} {xs : List V} (hd : b ≠ dl) (e : H b = some (.tup xs)) : H' b = some (.tup xs) := g b _ e hd fun ps z => by cases z
end
end DL
set_option Elab.async false
set_option linter.all false
set_option maxRecDepth 100000
set_option maxHeartbeats 2000000
namespace DL
open PySem L2 LamX PySem.Spec PyProof.Rows
end DL
set_option Elab.async false
set_option linter.all false
set_option maxRecDepth 100000
set_option maxHeartbeats 4000000
namespace DLR
open PySem PySem.Spec PyProof.Rows
section
variable {prog : Program} {w : World} {A : Around} {E : Value → Shared → Prop} {s : Shared}
theorem Walks.rt {t : Addr} {items : Array Value} (hh : A.handled = none) (it : Addr) (hne : t ≠ it) (hz : items.size ≤ sizeLine) :
    Walks prog w A it [it, t] [it] items.size (fun i v => items[items.size - 1 - i]? = some v) (fun i h => i ≤ items.size ∧ RT.IsRt h it t ((items.size : Int) - 1 - (i : Nat)) ∧ IsTup h t items) where
  sub := fun b hb => by simp at hb; simp [hb]
  frame := fun i h h' st k => ⟨st.1, st.2.1.at fun o e => k it (by simp) o e, by
    obtain ⟨o, e, c, n, d⟩ := st.2.2
    exact ⟨o, k t (by simp) o e, c, n, d⟩⟩
  item := fun i s Q E hi st hQ => by
    obtain ⟨_, st, ht⟩ := st
    have e1 : (items.size : Int) - 1 - ((i : Nat) : Int) = ((items.size - 1 - i : Nat) : Int) := by omega
    rw [e1] at st
    have hlt : items.size - 1 - i < items.size := by omega
    refine RT.next_rt_item st ht (x := items[items.size - 1 - i]) (by simp [hlt]) hz fun h' st' sb => ?_
    have e2 : ((items.size - 1 - i : Nat) : Int) - 1 = (items.size : Int) - 1 - ((i + 1 : Nat) : Int) := by omega
    rw [e2] at st'
    refine hQ _ h' _ (by simp [hlt]) ⟨hi, st', ?_⟩ fun b o hb e => (sb.2 b (fun z => hb (by simp [z]))).trans e
    obtain ⟨o, e, c, n, d⟩ := ht
    exact ⟨o, (sb.2 t hne).trans e, c, n, d⟩
  done := fun s Q E st hQ => by
    obtain ⟨_, st, ht⟩ := st
    have e1 : (items.size : Int) - 1 - ((items.size : Nat) : Int) = -1 := by omega
    rw [e1] at st
    exact RT.next_rt_end hh st fun h' eb => hQ h' s.toks fun b o hb e => eb b o (fun z => hb (by simp [z])) e
  self := fun i s Q E st h => RT.iter_rt st.2.1 h
theorem IsTup.keep {h h' : Heap} {t : Addr} {items : Array Value} (x : IsTup h t items) (k : ∀ o, h.get? t = some o → h'.get? t = some o) : IsTup h' t items := by
  obtain ⟨o, e, c⟩ := x
  exact ⟨o, k o e, c⟩
end
end DLR
namespace DL
open PySem L2 PySem.Spec PyProof.Rows
end DL
set_option Elab.async false
set_option linter.all false
set_option maxRecDepth 100000
set_option maxHeartbeats 1000000
namespace DL
open PySem L2 PySem.Spec PyProof.Rows
end DL
set_option Elab.async false
set_option linter.all false
set_option maxRecDepth 100000
set_option maxHeartbeats 1000000
namespace DL
open PySem L2 PySem.Spec PyProof.Rows PySem.W
theorem each_vals : ∀ {us : List V} {its : List Value} {xs : List PyData}, Vals us its → us.length = xs.length → EachIs (fun (v : Value) (b : V × PyData) => RelV b.1 v) its (us.zip xs)
  | [], _, [], h, _ => by cases h; exact .nil
  | [], _, _ :: _, _, e => by cases e
  | _ :: _, _, [], _, e => by cases e
  | u :: us, its, x :: xs, h, e => by
    cases h with
    | cons r t => exact .cons r (each_vals t (by simpa using e))
theorem vals_each : ∀ {bs : List (V × PyData)} {out : List Value}, EachIs (fun (v : Value) (b : V × PyData) => RelV b.1 v) out bs → Vals (bs.map (·.1)) out
  | _, _, .nil => .nil
  | _, _, .cons r t => .cons r (vals_each t)
theorem DpAll.length {K : PySem.W.Frag} {H : Hp} : ∀ {vs : List V} {ds : List PyData}, DpAll K H vs ds → vs.length = ds.length
  | _, _, .nil => rfl
  | _, _, .cons _ t => by simp [DL.DpAll.length t]
def rSortG (K : PySem.W.Frag) (b : Bool) : List V → Hp → VK → Prop := fun vs H Q => ∃ (a : Addr) (us : List V) (xs : List PyData), vs = [.ref a] ∧ SqL K H a us ∧ DpAll K H us xs ∧ AllAlike xs ∧ Sortable xs ∧ (∀ d ∈ xs, d.depth ≤ 50) ∧ us.length ≤ sizeLine ∧
  ∀ p, H p = none → Q (.ref p) (upd H p (.lst (((us.zip xs).mergeSort (dataLe b fun p => p.2)).map (·.1))))
section
variable {X : Cx}
theorem sortG_run {b : Bool} {pins : List (Addr × Obj)} {s : Shared} {σ : L2.St} {H : Hp} {a : Addr} {us : List V} {xs : List PyData} {Q : VK} {f : List (Str × Value)} (I : Inv X pins σ H s) (hs : SqL X.K H a us) (hdp : DpAll X.K H us xs) (ha : AllAlike xs) (hk : Sortable xs) (hd : ∀ d ∈ xs, d.depth ≤ 50) (hz : us.length ≤ sizeLine)
    (hu : X.A.units + 70 < cLine) (hf : f = [] ∧ b = false ∨ f = [(Str.ofString "reverse", .bool b)])
    (q : ∀ p, H p = none → Q (.ref p) (upd H p (.lst (((us.zip xs).mergeSort (dataLe b fun p => p.2)).map (·.1))))) : wpAny (model X.prog X.w) X.A (call (.builtin "sorted") [.ref a] f) (EP X pins σ Q) X.xe s := by
  obtain ⟨its, rv, pl, _⟩ := I.list hs
  obtain ⟨as, hr⟩ := Dp.readsAll I xs us its hdp rv
  have hl := DL.DpAll.length hdp
  have hm : (us.zip xs).map (fun p : V × PyData => p.2) = xs := List.map_snd_zip (by omega)
  have e := each_vals rv hl
  have er := readsAll_each (h := s.heap) (fun p : V × PyData => p.2) (vs := its) (bs := us.zip xs) (as := as) (by rw [hm]; exact hr)
  have hlz : (us.zip xs).length = us.length := by rw [List.length_zip]; omega
  have fin : ∀ out : List Value, out.length = (us.zip xs).length → EachIs (fun (v : Value) (b : V × PyData) => RelV b.1 v) out ((us.zip xs).mergeSort (dataLe b fun p => p.2)) →
      EP X pins σ Q (.ref (s.heap.objs.size + 1)) { s with heap := sortedAll s.heap its (List.toArray out) } := fun out ho eo => by
    obtain ⟨ep, he'⟩ := PyProof.Rows.sortedAll_at s.heap its (List.toArray out)
    have hlen : (((us.zip xs).mergeSort (dataLe b fun p => p.2)).map (·.1)).length ≤ sizeLine := by
      rw [List.length_map, List.length_mergeSort, hlz]; exact hz
    exact ⟨.ref _, upd H (s.heap.objs.size + 1) (.lst (((us.zip xs).mergeSort (dataLe b fun p => p.2)).map (·.1))), I.laid (t' := s.toks) (fun _ _ => PyProof.Rows.sortedAll_old) (Nat.le_succ _) ⟨hlen, _, ep, vals_each eo, he'⟩, rfl, q _ (I.hok.fresh (Nat.le_succ _))⟩
  have hub : ∀ y, y ∈ us.zip xs → X.A.units + 2 + (y.2).depth < cLine := fun y hy => by
    have := hd y.2 (by rw [← hm]; exact List.mem_map.mpr ⟨y, hy, rfl⟩)
    omega
  rcases hf with ⟨rfl, rfl⟩ | rfl
  · exact sorted_data pl.isList e er (by rw [hm]; exact ha) (by rw [hm]; exact hk) (by rw [hlz]; exact hz) hub fin
  · exact sorted_rev_data pl.isList e er (by rw [hm]; exact ha) (by rw [hm]; exact hk) (by rw [hlz]; exact hz) hub fin
theorem cr_sortG (hu : X.A.units + 70 < cLine) : CallR X (.builtin "sorted") (rSortG X.K false) := by
  intro pins s σ H vs us0 Q I r ⟨a, us, xs, ev, hs, hdp, ha, hk, hd, hz, q⟩
  subst ev
  rw [Vals.ref1 r]
  exact sortG_run I hs hdp ha hk hd hz hu (.inl ⟨rfl, rfl⟩) q
end
def sortGD (ds : List D) : R (List D) := if alis ds && srtb ds && decide (ds.length ≤ 16777216) then .ok (sortK ds ds) else .stuck
def sortedY : List D → R (List D)
  | [.lst xs] => match sortedX [.lst xs] with
    | .stuck => sortGD xs
    | z => z
  | ds => sortedX ds
section
variable {X : Cx} {G : Gm} {W : WX} {e : Expr} {f : LE → R D} {p pos : Pos}
theorem sortG_core {dl : Addr} {Z : List Addr} {O : List (Nat × Addr)} {r : LE} {sg : L2.St} {H : Hp} {b : Bool} {xs : List D} {a : Addr} {us : List V} {Q : VK} (hG : G.K = X.K) (e : H a = some (.lst us)) (rl : RepL G dl (cut H Z) xs us) (hal : (alis xs && srtb xs && decide (xs.length ≤ 16777216)) = true)
    (h : ∀ p, H p = none → Q (.ref p) (upd H p (.lst (((us.zip (D.toPs xs)).mergeSort (dataLe b fun p => p.2)).map (·.1))))) : rSortG X.K b [.ref a] H Q := by
  simp only [Bool.and_eq_true, decide_eq_true_eq] at hal
  obtain ⟨⟨hal, hsr⟩, hz⟩ := hal
  have hs := alis_sh hal
  have hdp := RepL.dp (cut_grow H Z) xs 50 (shs_of hs) rl
  rw [hG] at hdp
  exact ⟨a, us, D.toPs xs, rfl, SqL.of e, hdp, alis_all hal, srtb_ok hal hsr, alis_dep hal, by rw [rl.length, sizeLine_eq]; exact hz, h⟩
theorem cf_sortedY (hG : G.K = X.K) (hc : X.calm = true) (hu : X.A.units + 70 < cLine) : CallF X G (.builtin "sorted") sortedY := by
  obtain ⟨rr, h1, h2⟩ := cf_sortedX hG hc
  refine ⟨_, CallR.or_ h1 (cr_sortG hu), fun dl Z O r sg ds vs H Q E A rl h => ?_⟩
  unfold sortedY at h
  split at h
  · rename_i xs
    split at h
    case h_2 => exact .inl (h2 dl Z O r sg _ vs H Q E A rl h)
    obtain ⟨v, rfl, rp⟩ := rl.one
    obtain ⟨a, us, rfl, e, rl'⟩ := rp.lst
    unfold sortGD at h
    split at h
    case isFalse => exact h.elim
    rename_i hal
    refine .inr (sortG_core (O := O) (r := r) (sg := sg) hG e rl' hal fun p hp => ?_)
    exact h p _ H (.refl _ _) A.gl hp (sortK_rep rl' rfl)
  · exact .inl (h2 dl Z O r sg ds vs H Q E A rl h)
end
end DL
set_option Elab.async false
set_option linter.all false
set_option maxRecDepth 100000
set_option maxHeartbeats 1000000
namespace DL
open PySem L2 PySem.Spec PyProof.Rows
end DL
set_option Elab.async false
set_option linter.all false
set_option maxRecDepth 100000
set_option maxHeartbeats 1000000
namespace DL
open PySem L2 PySem.Spec PyProof.Rows
def eqZ (x y : D) : R D := match x, y with
  | .lst xs, .lst ys => if xs.length = ys.length then eqD (.lst xs) (.lst ys) else .ok (.bl false)
  | x, y => eqD x y
def neZ (x y : D) : R D := match x, y with
  | .lst xs, .lst ys => if xs.length = ys.length then neD (.lst xs) (.lst ys) else .ok (.bl true)
  | x, y => neD x y
section
variable {X : Cx}
theorem op_eqLen (hu : X.A.units + 64 < cLine) : OpR X (compareOp .Eq) (fun x y H Q => ∃ a b xs ys, x = .ref a ∧ y = .ref b ∧ SqL X.K H a xs ∧ SqL X.K H b ys ∧ xs.length ≠ ys.length ∧ Q (.bl false) H) := by
  intro pins s σ H x y v u Q I rx ry ⟨a, b, xs, ys, ex, ey, ha, hb, hl, q⟩
  subst ex ey
  obtain rfl : v = Value.ref a := rx
  obtain rfl : u = Value.ref b := ry
  obtain ⟨is, rv, p, _⟩ := I.list ha
  obtain ⟨js, rw', p', _⟩ := I.list hb
  refine PySem.SeqAt.RcAt.lists_lengths p.isList p'.isList ?_ (by omega) _ _ _ _ ⟨.bl _, H, I, rfl, q⟩
  simp only [List.size_toArray, bne_iff_ne, ne_eq]
  rw [← rv.length, ← rw'.length]
  exact hl
theorem op_neLen (hu : X.A.units + 64 < cLine) : OpR X (compareOp .NotEq) (fun x y H Q => ∃ a b xs ys, x = .ref a ∧ y = .ref b ∧ SqL X.K H a xs ∧ SqL X.K H b ys ∧ xs.length ≠ ys.length ∧ Q (.bl true) H) := by
  intro pins s σ H x y v u Q I rx ry ⟨a, b, xs, ys, ex, ey, ha, hb, hl, q⟩
  subst ex ey
  obtain rfl : v = Value.ref a := rx
  obtain rfl : u = Value.ref b := ry
  obtain ⟨is, rv, p, _⟩ := I.list ha
  obtain ⟨js, rw', p', _⟩ := I.list hb
  refine PySem.SeqAt.RcNeAt.lists_lengths p.isList p'.isList ?_ (by omega) _ _ _ _ ⟨.bl _, H, I, rfl, q⟩
  simp only [List.size_toArray, bne_iff_ne, ne_eq]
  rw [← rv.length, ← rw'.length]
  exact hl
end
section
variable {X : Cx} {G : Gm}
theorem op_eqZ_d (hG : G.K = X.K) (hu : X.A.units + 64 < cLine) : OpD X G (compareOp .Eq) eqZ := by
  obtain ⟨rr, h1, h2⟩ := op_eq_d hG hu
  refine ⟨_, OpR.or h1 (op_eqLen hu), fun dl Z O r sg x y vx vy H Q E A hx hy h => ?_⟩
  unfold eqZ at h
  split at h
  · split at h
    · exact .inl (h2 dl Z O r sg _ _ vx vy H Q E A hx hy h)
    · rename_i hl
      obtain ⟨a, us, rfl, e1, r1⟩ := hx.lst
      obtain ⟨b, ws, rfl, e2, r2⟩ := hy.lst
      exact .inr ⟨a, b, us, ws, rfl, rfl, SqL.of e1, SqL.of e2, by rw [r1.length, r2.length]; exact hl, h _ H (.refl _ _) A.gl Rep.bl_⟩
  · exact .inl (h2 dl Z O r sg _ _ vx vy H Q E A hx hy h)
theorem op_neZ_d (hG : G.K = X.K) (hu : X.A.units + 64 < cLine) : OpD X G (compareOp .NotEq) neZ := by
  obtain ⟨rr, h1, h2⟩ := op_ne_d hG hu
  refine ⟨_, OpR.or h1 (op_neLen hu), fun dl Z O r sg x y vx vy H Q E A hx hy h => ?_⟩
  unfold neZ at h
  split at h
  · split at h
    · exact .inl (h2 dl Z O r sg _ _ vx vy H Q E A hx hy h)
    · rename_i hl
      obtain ⟨a, us, rfl, e1, r1⟩ := hx.lst
      obtain ⟨b, ws, rfl, e2, r2⟩ := hy.lst
      exact .inr ⟨a, b, us, ws, rfl, rfl, SqL.of e1, SqL.of e2, by rw [r1.length, r2.length]; exact hl, h _ H (.refl _ _) A.gl Rep.bl_⟩
  · exact .inl (h2 dl Z O r sg _ _ vx vy H Q E A hx hy h)
end
theorem eqZ_nil (xs : List D) : eqZ (.lst xs) (.lst []) = .ok (.bl xs.isEmpty) := by
  cases xs with
  | nil => rfl
  | cons x xs => rfl
end DL
set_option Elab.async false
set_option linter.all false
set_option maxRecDepth 100000
set_option maxHeartbeats 2000000
namespace DL
open PySem L2 PySem.Spec PyProof.Rows
/-- a class without == of its own -/
structure CmpO (K : PySem.W.Frag) (C : Addr) : Prop where
  mro : PySem.W.mroIn K C (.type "object") = some true
  eq : PySem.W.findIn K (.ref C) "__eq__" = some (some (.builtin "object.__eq__"))
  ne : PySem.W.findIn K (.ref C) "__ne__" = some (some (.builtin "object.__ne__"))
theorem CmpO.of {K : PySem.W.Frag} {C : Addr} (h : PySem.W.makesIn K C = true) (h1 : PySem.W.findIn K (.ref C) "__eq__" = some (some (.builtin "object.__eq__"))) (h2 : PySem.W.findIn K (.ref C) "__ne__" = some (some (.builtin "object.__ne__"))) : CmpO K C := ⟨L2.mro_obj h, h1, h2⟩
end DL
set_option Elab.async false
set_option linter.all false
set_option maxRecDepth 100000
set_option maxHeartbeats 1000000
namespace DL
open PySem L2 PySem.Spec PyProof.Rows GenW
abbrev ge2 (elt t0 i0 : Expr) (ifs0 : List Expr) (t1 i1 : Expr) (ifs1 : List Expr) (scope : Scope) (pos : Pos) : Expr := .GeneratorExp elt [⟨t0, i0, ifs0, 0⟩, ⟨t1, i1, ifs1, 0⟩] scope pos
theorem compTurn_ge2o (elt t0 i0 : Expr) (ifs0 : List Expr) (t1 i1 : Expr) (ifs1 : List Expr) (scope : Scope) (pos : Pos) (it acc : Value) (env : Env) :
    compTurn (ge2 elt t0 i0 ifs0 t1 i1 ifs1 scope pos) 0 it acc env = (do
      standAt i0.pos
      match ← pyNext it with
      | none => pure (.done .next)
      | some v =>
        letOwnedTupleGo t0 it v
        assign t0 env v
        let ok ← forIn ifs0 true fun c r => if r = true then do let ok ← isTrue c env (eval c env); pure (ForInStep.yield ok) else pure (ForInStep.yield r)
        if ok then
          let x ← eval i1 env
          standAt i1.pos
          let x ← foldedSetIterable i1 env x
          let _ ← runOwn (.compStart (ge2 elt t0 i0 ifs0 t1 i1 ifs1 scope pos) 1 (← holding [x] (pyIter x)) acc env) env
        again (.compLoop (ge2 elt t0 i0 ifs0 t1 i1 ifs1 scope pos) 0 it acc env)) := by rfl
theorem compTurn_ge2i (elt t0 i0 : Expr) (ifs0 : List Expr) (t1 i1 : Expr) (ifs1 : List Expr) (scope : Scope) (pos : Pos) (it acc : Value) (env : Env) :
    compTurn (ge2 elt t0 i0 ifs0 t1 i1 ifs1 scope pos) 1 it acc env = (do
      standAt i1.pos
      match ← pyNext it with
      | none => pure (.done .next)
      | some v =>
        letOwnedTupleGo t1 it v
        assign t1 env v
        let ok ← forIn ifs1 true fun c r => if r = true then do let ok ← isTrue c env (eval c env); pure (ForInStep.yield ok) else pure (ForInStep.yield r)
        if ok then
          (do let v ← eval elt env; standAt elt.pos; let _ ← yieldOut env v)
        again (.compLoop (ge2 elt t0 i0 ifs0 t1 i1 ifs1 scope pos) 1 it acc env)) := by rfl
theorem over_in {A : Around} {elt t0 i0 : Expr} {ifs0 : List Expr} {t1 i1 : Expr} {ifs1 : List Expr} {scope : Scope} {pos : Pos} {it it2 acc : Value} {env : Env} {k : Result → Sem PySem.Fin} {l : List Value} {p : Pos} :
    A.over (.compLoop (ge2 elt t0 i0 ifs0 t1 i1 ifs1 scope pos) 1 it2 acc env) [.ret k none false l (.compLoop (ge2 elt t0 i0 ifs0 t1 i1 ifs1 scope pos) 0 it acc env) p []] = A.over (.compLoop (ge2 elt t0 i0 ifs0 t1 i1 ifs1 scope pos) 0 it acc env) [] := by
  unfold Around.over
  congr 1
theorem over_in' {A : Around} {elt t0 i0 : Expr} {ifs0 : List Expr} {t1 i1 : Expr} {ifs1 : List Expr} {scope : Scope} {pos : Pos} {it it2 acc : Value} {env : Env} {k : Result → Sem PySem.Fin} {l : List Value} {p : Pos} :
    A.over (.compStart (ge2 elt t0 i0 ifs0 t1 i1 ifs1 scope pos) 1 it2 acc env) [.ret k none false l (.compLoop (ge2 elt t0 i0 ifs0 t1 i1 ifs1 scope pos) 0 it acc env) p []] = A.over (.compLoop (ge2 elt t0 i0 ifs0 t1 i1 ifs1 scope pos) 0 it acc env) [] := by
  unfold Around.over
  congr 1
/-- the consumer sees the outer iterator alone, at any place -/
abbrev Ge.flat (g : Ge) : Ge := { g with tn := fun _ h => ∃ i, g.tn i h, J := ⟨fun _ _ => False, fun _ _ _ _ => False, fun _ _ => False⟩ }
theorem GeOk.flat {g : Ge} {tg : Expr} (k : GeOk g tg) : GeOk g.flat tg :=
  ⟨k.pn, k.ex, k.calm, k.xe, ⟨k.turn.mem, fun _ h ⟨i, st⟩ => k.turn.obj i h st, fun _ h h' ⟨i, st⟩ z => ⟨i, k.turn.keep i h h' st z⟩, fun _ _ _ _ _ _ _ _ _ _ _ _ _ _ h => h.elim, fun _ _ _ _ _ _ _ _ _ _ _ _ _ _ h => h.elim, fun A _ s Q E ⟨i, st⟩ h => k.turn.self A i s Q E st h⟩, k.apart, k.gen⟩
section
variable {g : Ge} {tg : Expr} {H : Hp} {s s' : Shared} {ps ps' po : List (Addr × Obj)} {σ : L2.St}
theorem fpOk_to {X : Cx} {pins pins' : List (Addr × Obj)} {H H' : Hp} {b : Addr} (h : FpOk X pins H b) (hn : H' b = none) (hp : pins'.map (·.1) = pins.map (·.1)) : FpOk X pins' H' b := by
  obtain ⟨_, f1, f2, f3, f4, f5⟩ := h
  refine ⟨hn, f1, f2, f3, f4, fun p hp' => ?_⟩
  rcases List.mem_append.mp hp' with z | z
  · exact f5 p (List.mem_append_left _ z)
  · have : p.1 ∈ pins.map (·.1) := by rw [← hp]; exact List.mem_map.mpr ⟨p, z, rfl⟩
    obtain ⟨q, hq, e⟩ := List.mem_map.mp this
    rw [← e]
    exact f5 q (List.mem_append_right _ hq)
/-- behind the consumer's turn, more pinned -/
theorem inv_slept (k : GeOk g tg) (hps : ps.map (·.1) = g.S) (hpo : ∀ p ∈ po, p.1 ∉ g.S) (I : Inv g.Xg (g.pa :: ps ++ po) σ H s) (z : Slp g.S s s') (hd : Held g.S ps' s') : Inv g.Xg (g.pa :: ps' ++ po) σ H s' := by
  have pinS : ∀ b ∈ g.S, ∃ o, s.heap.get? b = some o ∧ H b = none ∧ b ≠ g.Xg.env.locals ∧ b ∉ g.Xg.fs := fun b hb => by
    rw [← hps] at hb
    obtain ⟨p, hp, e⟩ := List.mem_map.mp hb
    obtain ⟨h1, h2, h3, h4, _⟩ := I.pin p (List.mem_append_right _ (List.mem_append_left _ (List.mem_cons_of_mem _ hp)))
    rw [← e]
    exact ⟨_, h1, h2, h3, h4⟩
  have I0 : Inv g.Xg (g.pa :: po) σ H s := I.pins_of fun p hp => by
    rcases List.mem_cons.mp hp with z | z
    · rw [z]; exact I.pin g.pa (List.mem_append_right _ (List.mem_append_left _ List.mem_cons_self))
    · exact I.pin p (List.mem_append_right _ (List.mem_append_right _ z))
  have nt : ∀ b u, H b = some u → b ∉ g.S := fun b u q hb => by
    obtain ⟨_, _, h2, _⟩ := pinS b hb
    rw [h2] at q; cases q
  obtain ⟨z1, z2, z3⟩ := z
  obtain ⟨hh, G, d, t, o⟩ := s'
  have ho : o = s.os := z1
  subst ho
  have J : Inv g.Xg (g.pa :: po) σ H { s with heap := hh, gens := G, drawn := d, toks := t } := by
    refine I0.step (g' := G) (t' := t) (d' := d) (ch := g.S) (fun b hb => ?_)
      (fun b ob _ _ hc q _ => z3 b ob hc q) (fun b ob _ _ hc q _ => ⟨ob.slots, z3 b ob hc q⟩) (fun _ _ _ _ n => n) (fun b ob hc q => ⟨ob, z3 b ob hc q⟩)
      (fun _ _ q => q) (fun _ _ _ q => q) (fun b ps q => ⟨#[], by rw [q]; simp⟩) (fun m hm => ?_) (fun b u q => ?_) z2
    · obtain ⟨a1, a2, a3, a4, a5⟩ := k.apart b hb
      refine ⟨.inr a1, a2, a5, fun p hp => ?_⟩
      rw [k.pn, List.nil_append] at hp
      rcases List.mem_cons.mp hp with z | z
      · rw [z]
        exact fun e => a3 e.symm
      · exact fun e => hpo p z (by rw [e]; exact hb)
    · obtain ⟨ob, es, ep, ho, r⟩ := hm
      exact ⟨ob, es, ep, z3 _ ob (fun hb => (k.apart _ hb).2.1 rfl) ho, r⟩
    · refine (I0.hok b u q).stay (fun c v hc y => z3 c v ?_ y) (fun _ y => y) fun _ _ y => y
      rcases hc with y | y
      · rw [y]; exact nt b u q
      · exact nt c _ y
  have hp' : ∀ p ∈ ps', hh.get? p.1 = some p.2 ∧ H p.1 = none ∧ p.1 ≠ g.Xg.env.locals ∧ p.1 ∉ g.Xg.fs ∧ ∀ v, p.2.data ≠ .cell v := fun p hp => by
    obtain ⟨q1, q2⟩ := hd.ok p hp
    obtain ⟨_, _, h2, h3, h4⟩ := pinS p.1 (by rw [← hd.at_]; exact List.mem_map.mpr ⟨p, hp, rfl⟩)
    exact ⟨q1, h2, h3, h4, q2⟩
  refine J.pins_of fun p hp => ?_
  rcases List.mem_append.mp hp with z | z
  · rcases List.mem_cons.mp z with z | z
    · rw [z]
      exact J.pin g.pa (List.mem_append_right _ List.mem_cons_self)
    · exact hp' p z
  · exact J.pin p (List.mem_append_right _ (List.mem_cons_of_mem _ z))
/-- the inner loop's things -/
structure In2 where
  po : List (Addr × Obj)
  fp : List Addr
  it : Addr
  tn : Nat → Heap → Prop
  J : It
  σ : L2.St
  hp : Heap
  i : Nat
/-- between two turns of the inner loop -/
structure G2 (g : Ge) (q : In2) (j : Nat) (ps : List (Addr × Obj)) (H : Hp) (s : Shared) : Prop where
  at_ : ps.map (·.1) = g.S
  inv : Inv g.Xg (g.pa :: ps ++ q.po) q.σ H s
  tn : q.tn j s.heap
  fp : ∀ b ∈ q.fp, FpOk g.Xg (g.pa :: ps ++ q.po) H b
structure In2Ok (g : Ge) (tg2 : Expr) (q : In2) : Prop where
  turn : Turn g.Xg.prog g.Xg.w g.Xg.K tg2 q.J q.fp q.it q.tn
  po : q.po = pinsAt g.fp q.hp
  out : g.tn q.i q.hp
  σ : q.σ.length = g.σ0.length
theorem In2Ok.apart {tg2 : Expr} {q : In2} (k : GeOk g tg) (o : In2Ok g tg2 q) : ∀ p ∈ q.po, p.1 ∉ g.S := fun p hp => by
  rw [o.po] at hp
  obtain ⟨hb, _⟩ := of_pinsAt hp
  exact fun hS => (k.apart p.1 hS).2.2.2.1 hb
/-- seen from outside -/
theorem G2.out {tg2 : Expr} {q : In2} (k : GeOk g tg) (o : In2Ok g tg2 q) {more : List (Addr × Obj)} (hps : ps.map (·.1) = g.S) (I : Inv g.Xg (g.pa :: ps ++ q.po ++ more) σ H s) (hl : g.σ0.length = σ.length) (hw : ∀ (j : Nat) v, g.σ0[j]? = some (some v) → σ[j]? = some (some v)) : GInv g q.i ps H s := by
  have pin' : ∀ b ∈ g.fp, ∀ ob, q.hp.get? b = some ob → s.heap.get? b = some ob ∧ H b = none := fun b hb ob e => by
    have z := I.pin (b, ob) (List.mem_append_right _ (List.mem_append_left _ (List.mem_append_right _ (by rw [o.po]; exact mem_pinsAt hb e))))
    exact ⟨z.1, z.2.1⟩
  refine ⟨hps, (Inv.unpinned (pins := g.pa :: ps) (pl := q.po ++ more) (by rw [← List.append_assoc]; exact I)).weak hl hw, k.turn.keep _ _ _ o.out fun b hb ob e => (pin' b hb ob e).1, fun b hb => ?_⟩
  obtain ⟨ob, e, _⟩ := k.turn.obj _ _ o.out b hb
  exact (pin' b hb ob e).2
theorem G2.slept {tg2 : Expr} {q : In2} {j : Nat} (k : GeOk g tg) (o : In2Ok g tg2 q) (h : G2 g q j ps H s) (z : Slp g.S s s') (hd : Held g.S ps' s') : G2 g q j ps' H s' := by
  obtain ⟨hps, I, st, hf⟩ := h
  have hmap : (g.pa :: ps' ++ q.po).map (·.1) = (g.pa :: ps ++ q.po).map (·.1) := by
    rw [List.map_append, List.map_append, List.map_cons, List.map_cons, hps, hd.at_]
  refine ⟨hd.at_, inv_slept k hps (o.apart k) I z hd, o.turn.keep _ _ _ st fun b hb ob e => z.keep b ob (fun hS => ?_) e, fun b hb => fpOk_to (hf b hb) (hf b hb).1 hmap⟩
  rw [← hps] at hS
  obtain ⟨p, hp, e2⟩ := List.mem_map.mp hS
  exact (hf b hb).2.2.2.2.2 p (List.mem_append_right _ (List.mem_append_left _ (List.mem_cons_of_mem _ hp))) e2
end
/-- what is told at a yield: p the place behind it -/
def GYldP {Pl : Type} (g : Ge) (Rest : Pl → List (Addr × Obj) → Hp → Prop) (Yl : Pl → List (Addr × Obj) → V → Hp → Prop) : Protocol := fun n s₀ v s kap =>
  ∃ p x H ps, RelV x v ∧ GInv g 0 ps H s ∧ Held g.S ps s₀ ∧ Yl p ps x H ∧ ∀ s' ps', Slp g.S s s' → Held g.S ps' s' → Rest p ps' H → kap (.send .none) s'
abbrev Pl2 := Option (Nat × It × L2.St × Nat)
def rest2 (R1 : Nat → List (Addr × Obj) → Hp → Prop) (In : Nat → It → L2.St → Nat → List (Addr × Obj) → Hp → Prop) : Pl2 → List (Addr × Obj) → Hp → Prop
  | none => R1 0
  | some (i, J, σ, j) => In i J σ j
theorem seg_in {g : Ge} {tg : Expr} {A : Around} {elt i0 i1 tg2 : Expr} {ifs0 ifs1 : List Expr} {scope : Scope} {pos : Pos} {gd : TG} {tt : TT} {te : TE} {M F1 : Nat} {vs vs2 : List Nat} {fs : List Frame} {R1 : Nat → List (Addr × Obj) → Hp → Prop} {In : Nat → It → L2.St → Nat → List (Addr × Obj) → Hp → Prop} {Dn : List (Addr × Obj) → Hp → Prop} {Yl : Pl2 → List (Addr × Obj) → V → Hp → Prop} (k : GeOk g tg) {q : In2} (o : In2Ok g tg2 q)
    (hfs : splitAtGen fs = none) (hfg : fs.any Frame.guarded = false) (hA : A.over (.compLoop (ge2 elt tg i0 ifs0 tg2 i1 ifs1 scope pos) 1 (.ref q.it) .none g.Xg.env) fs = g.Xg.A) (hco : g.Xg.env.scope.isCoroutine = false)
    (hg : PG g.Xg tg2 gd) (ht : PTs g.Xg ifs1 tt) (he : PE g.Xg elt te) (hσ0 : ∀ (j : Nat) v, g.σ0[j]? = some (some v) → q.σ[j]? = some (some v))
    (hend : ∀ n s₀ s H ps, GInv g q.i ps H s → Held g.S ps s₀ → R1 q.i ps H → F1 ≤ n → Seg (model g.Xg.prog g.Xg.w) A (GDn g.flat Dn) (GYldP g.flat (rest2 R1 In) Yl) n s₀ (.compLoop (ge2 elt tg i0 ifs0 tg2 i1 ifs1 scope pos) 1 (.ref q.it) .none g.Xg.env) (leafOf (.ok .next)) fs s)
    (turn : ∀ j ps H, ps.map (·.1) = g.S → In q.i q.J q.σ j ps H → (q.J.stop j H ∧ R1 q.i ps H) ∨ (j < M ∧ q.J.go j H ∧ ∀ x H', q.J.yld j H x H' → gd x q.σ H' fun σ2 H2 => wipe σ2 vs2 = q.σ ∧ wipe σ2 vs = g.σ0 ∧ tt σ2 H2 fun b H3 => if b = true then te σ2 H3 fun y H4 => Yl (some (q.i, q.J, q.σ, j + 1)) ps y H4 else In q.i q.J q.σ (j + 1) ps H3)) :
    ∀ (m j n : Nat) (s₀ s : Shared) (H : Hp) (ps : List (Addr × Obj)), M - j = m → F1 + m ≤ n → G2 g q j ps H s → Held g.S ps s₀ → In q.i q.J q.σ j ps H →
      Seg (model g.Xg.prog g.Xg.w) A (GDn g.flat Dn) (GYldP g.flat (rest2 R1 In) Yl) n s₀ (.compLoop (ge2 elt tg i0 ifs0 tg2 i1 ifs1 scope pos) 1 (.ref q.it) .none g.Xg.env)
        ((model g.Xg.prog g.Xg.w).den (.compLoop (ge2 elt tg i0 ifs0 tg2 i1 ifs1 scope pos) 1 (.ref q.it) .none g.Xg.env)) fs s := by
  have noE : ∀ {α : Type} {Kx : Value → Shared → Prop} {t : Sem α} {Q : α → Shared → Prop} {s : Shared}, wpAny (model g.Xg.prog g.Xg.w) g.Xg.A t Q g.Xg.xe s → wpAny (model g.Xg.prog g.Xg.w) g.Xg.A t Q Kx s := fun h => by
    rw [k.xe] at h
    exact wpAny_mono h (fun _ _ e => e) fun _ _ e => e.elim
  have hlq : g.σ0.length = q.σ.length := o.σ.symm
  have stop_ : ∀ (j n : Nat) (s₀ s : Shared) (H : Hp) (ps : List (Addr × Obj)), F1 ≤ n → G2 g q j ps H s → Held g.S ps s₀ → q.J.stop j H → R1 q.i ps H →
      Seg (model g.Xg.prog g.Xg.w) A (GDn g.flat Dn) (GYldP g.flat (rest2 R1 In) Yl) n s₀ (.compLoop (ge2 elt tg i0 ifs0 tg2 i1 ifs1 scope pos) 1 (.ref q.it) .none g.Xg.env)
        ((model g.Xg.prog g.Xg.w).den (.compLoop (ge2 elt tg i0 ifs0 tg2 i1 ifs1 scope pos) 1 (.ref q.it) .none g.Xg.env)) fs s := by
    intro j n s₀ s H ps hn hI h0 stop hd
    obtain ⟨hps, I, st, hf⟩ := hI
    show Seg _ A _ _ _ s₀ _ ((compTurn (ge2 elt tg i0 ifs0 tg2 i1 ifs1 scope pos) 1 (.ref q.it) .none g.Xg.env).onRaise (fun x => do noteFrame x g.Xg.env; theTreesLotGoes x)) fs s
    rw [compTurn_ge2i, Sem.onRaise_eq_wrap]
    refine seg_bind_wrap (wpAny_standAt ?_)
    refine seg_bind_wrap ?_
    rw [hA]
    refine thn (o.turn.done g.Xg rfl rfl rfl k.calm j _ s _ H _ I hf st stop) fun r s1 ⟨hr, I1⟩ => ?_
    subst hr
    exact hend n s₀ s1 H ps (G2.out (more := []) k o hps (by rw [List.append_nil]; exact I1) hlq hσ0) h0 hd hn
  intro m
  induction m with
  | zero =>
    intro j n s₀ s H ps hm hn hI h0 hR
    rcases turn j ps H hI.at_ hR with ⟨stop, hd⟩ | ⟨hlt, _⟩
    · exact stop_ j n s₀ s H ps (by omega) hI h0 stop hd
    · omega
  | succ m ih =>
    intro j n s₀ s H ps hm hn hI h0 hR
    rcases turn j ps H hI.at_ hR with ⟨stop, hd⟩ | ⟨hlt, go, step⟩
    · exact stop_ j n s₀ s H ps (by omega) hI h0 stop hd
    obtain ⟨hps, I, st, hf⟩ := hI
    obtain ⟨n, rfl⟩ : ∃ n', n = n' + 1 := ⟨n - 1, by omega⟩
    show Seg _ A _ _ _ s₀ _ ((compTurn (ge2 elt tg i0 ifs0 tg2 i1 ifs1 scope pos) 1 (.ref q.it) .none g.Xg.env).onRaise (fun x => do noteFrame x g.Xg.env; theTreesLotGoes x)) fs s
    rw [compTurn_ge2i, Sem.onRaise_eq_wrap]
    refine seg_bind_wrap (wpAny_standAt ?_)
    refine seg_bind_wrap ?_
    rw [hA]
    refine thn (o.turn.item g.Xg rfl rfl rfl k.calm j _ s _ H _ I hf st go) fun r s1 ⟨u, hr, h1⟩ => ?_
    subst hr
    refine seg_bind_wrap ?_
    rw [hA]
    refine thn h1 fun _ s2 ⟨x, H2, I2, r2, y2, st2, n2⟩ => ?_
    have hf2 : ∀ b ∈ q.fp, FpOk g.Xg (g.pa :: ps ++ q.po) H2 b := fun b hb => fpOk_to (hf b hb) (n2 b hb) rfl
    have I2' := I2.pinned hf2 (o.turn.obj _ _ st2)
    refine seg_bind_wrap ?_
    rw [hA]
    refine noE (thn (hg.run _ s2 _ H2 x u _ I2' r2 (step x H2 y2)) fun _ s3 ⟨σ3, H3, I3, ⟨hw3, hw4, q3⟩⟩ => ?_)
    refine seg_bind_wrap ?_
    rw [hA]
    refine noE (thn (ht.run _ s3 σ3 H3 _ I3 q3) fun b s4 ⟨H4, I4, q4⟩ => ?_)
    have fin : ∀ {s' : Shared} {H' : Hp}, Inv g.Xg (g.pa :: ps ++ q.po ++ pinsAt q.fp s2.heap) σ3 H' s' → G2 g q (j + 1) ps H' s' := fun {s' H'} I' => by
      have pin' : ∀ b ∈ q.fp, ∀ ob, s2.heap.get? b = some ob → s'.heap.get? b = some ob ∧ H' b = none := fun b hb ob e =>
        let z := I'.pin (b, ob) (List.mem_append_right _ (List.mem_append_right _ (mem_pinsAt hb e)))
        ⟨z.1, z.2.1⟩
      have hl : q.σ.length = σ3.length := by rw [← hw3, wipe_length]
      refine ⟨hps, (I'.unpinned (pins := g.pa :: ps ++ q.po)).weak hl (fun j v e => ?_), o.turn.keep _ _ _ st2 fun b hb ob e => (pin' b hb ob e).1, fun b hb => ?_⟩
      · rw [← hw3] at e
        exact (wipe_some e).1
      · obtain ⟨ob, e, _⟩ := o.turn.obj _ _ st2 b hb
        exact fpOk_to (hf b hb) (pin' b hb ob e).2 rfl
    have fin0 : ∀ {s' : Shared} {H' : Hp}, Inv g.Xg (g.pa :: ps ++ q.po ++ pinsAt q.fp s2.heap) σ3 H' s' → GInv g.flat 0 ps H' s' := fun {s' H'} I' => by
      have z := G2.out k o hps I' (by rw [← hw4, wipe_length]) fun j v e => by
        rw [← hw4] at e
        exact (wipe_some e).1
      exact ⟨z.at_, z.inv, ⟨_, z.tn⟩, z.fp⟩
    cases b with
    | false =>
      simp only [Bool.false_eq_true, if_false] at q4 ⊢
      exact seg_again rfl (ih (j + 1) (n + 1) s₀ s4 H4 ps (by omega) (by omega) (fin I4) h0 q4)
    | true =>
      simp only [if_true] at q4 ⊢
      have hy : ∀ v, yieldOut g.Xg.env v = yieldValue v := fun v => by simp only [yieldOut, hco, Bool.false_eq_true, if_false]
      simp only [hy]
      rw [Sem.bind_eq_wrap', Sem.bind_eq_wrap', Sem.wrap_wrap, Sem.wrap_wrap]
      refine seg_wrap ?_
      rw [hA]
      refine noE (thn (he.run _ s4 σ3 H4 _ I4 q4) fun z s5 ⟨yv, H5, I5, r5, q5⟩ => ?_)
      refine seg_at (seg_yield hfs rfl hfg ⟨some (q.i, q.J, q.σ, j + 1), yv, H5, ps, r5, fin0 I5, h0, q5, fun s'' ps' hz hd' hR' => ?_⟩)
      exact seg_again rfl (ih (j + 1) n s'' s'' H5 ps' (by omega) (by omega) ((fin I5).slept k o hz hd') hd' hR')
end DL
set_option Elab.async false
set_option linter.all false
set_option maxRecDepth 100000
set_option maxHeartbeats 1000000
namespace DL
open PySem L2 PySem.Spec PyProof.Rows GenW
theorem seg_ge2 {g : Ge} {tg : Expr} {A : Around} {elt i0 i1 tg2 : Expr} {ifs0 ifs1 : List Expr} {scope : Scope} {pos : Pos} {gd1 gd2 : TG} {tt1 tt2 : TT} {te : TE} {wi2 : TI} {N M : Nat} {vs2 : List Nat} {R1 : Nat → List (Addr × Obj) → Hp → Prop} {In : Nat → It → L2.St → Nat → List (Addr × Obj) → Hp → Prop} {Dn : List (Addr × Obj) → Hp → Prop} {Yl : Pl2 → List (Addr × Obj) → V → Hp → Prop} (k : GeOk g tg)
    (hA : A.over (.compLoop (ge2 elt tg i0 ifs0 tg2 i1 ifs1 scope pos) 0 (.ref g.it) .none g.Xg.env) [] = g.Xg.A) (hco : g.Xg.env.scope.isCoroutine = false)
    (hg1 : PG g.Xg tg gd1) (ht1 : PTs g.Xg ifs0 tt1) (hi2 : PI g.Xg tg2 i1 wi2) (hs2 : ∀ x, foldedSetIterable i1 g.Xg.env x = pure x)
    (hg2 : PG g.Xg tg2 gd2) (ht2 : PTs g.Xg ifs1 tt2) (he : PE g.Xg elt te) (hw0 : wipe g.σ0 g.vs = g.σ0)
    (turn1 : ∀ i ps H, ps.map (·.1) = g.S → R1 i ps H → (g.J.stop i H ∧ Dn ps H) ∨ (i < N ∧ g.J.go i H ∧ ∀ x H', g.J.yld i H x H' → gd1 x g.σ0 H' fun σ2 H2 => wipe σ2 g.vs = g.σ0 ∧ tt1 σ2 H2 fun b H3 => if b = true then wi2 σ2 H3 fun J2 H4 => (∀ (j : Nat) v, g.σ0[j]? = some (some v) → (wipe σ2 vs2)[j]? = some (some v)) ∧ In (i + 1) J2 (wipe σ2 vs2) 0 ps H4 else R1 (i + 1) ps H3))
    (turn2 : ∀ i J2 σ2 j ps H, σ2.length = g.σ0.length → ps.map (·.1) = g.S → In i J2 σ2 j ps H → (J2.stop j H ∧ R1 i ps H) ∨ (j < M ∧ J2.go j H ∧ ∀ x H', J2.yld j H x H' → gd2 x σ2 H' fun σ3 H2 => wipe σ3 vs2 = σ2 ∧ wipe σ3 g.vs = g.σ0 ∧ tt2 σ3 H2 fun b H3 => if b = true then te σ3 H3 fun y H4 => Yl (some (i, J2, σ2, j + 1)) ps y H4 else In i J2 σ2 (j + 1) ps H3)) :
    ∀ (m i n : Nat) (s₀ s : Shared) (H : Hp) (ps : List (Addr × Obj)), N - i = m → m * M ≤ n → GInv g i ps H s → Held g.S ps s₀ → R1 i ps H →
      Seg (model g.Xg.prog g.Xg.w) A (GDn g.flat Dn) (GYldP g.flat (rest2 R1 In) Yl) n s₀ (.compLoop (ge2 elt tg i0 ifs0 tg2 i1 ifs1 scope pos) 0 (.ref g.it) .none g.Xg.env)
        ((model g.Xg.prog g.Xg.w).den (.compLoop (ge2 elt tg i0 ifs0 tg2 i1 ifs1 scope pos) 0 (.ref g.it) .none g.Xg.env)) [] s := by
  have noE : ∀ {α : Type} {Kx : Value → Shared → Prop} {t : Sem α} {Q : α → Shared → Prop} {s : Shared}, wpAny (model g.Xg.prog g.Xg.w) g.Xg.A t Q g.Xg.xe s → wpAny (model g.Xg.prog g.Xg.w) g.Xg.A t Q Kx s := fun h => by
    rw [k.xe] at h
    exact wpAny_mono h (fun _ _ e => e) fun _ _ e => e.elim
  have stop_ : ∀ (i n : Nat) (s₀ s : Shared) (H : Hp) (ps : List (Addr × Obj)), GInv g i ps H s → Held g.S ps s₀ → g.J.stop i H → Dn ps H →
      Seg (model g.Xg.prog g.Xg.w) A (GDn g.flat Dn) (GYldP g.flat (rest2 R1 In) Yl) n s₀ (.compLoop (ge2 elt tg i0 ifs0 tg2 i1 ifs1 scope pos) 0 (.ref g.it) .none g.Xg.env)
        ((model g.Xg.prog g.Xg.w).den (.compLoop (ge2 elt tg i0 ifs0 tg2 i1 ifs1 scope pos) 0 (.ref g.it) .none g.Xg.env)) [] s := by
    intro i n s₀ s H ps hI h0 stop hd
    obtain ⟨hps, I, st, hnn⟩ := hI
    show Seg _ A _ _ _ s₀ _ ((compTurn (ge2 elt tg i0 ifs0 tg2 i1 ifs1 scope pos) 0 (.ref g.it) .none g.Xg.env).onRaise (leaving g.Xg.env)) [] s
    rw [compTurn_ge2o, Sem.onRaise_eq_wrap]
    refine seg_bind_wrap (wpAny_standAt ?_)
    refine seg_bind_wrap ?_
    rw [hA]
    refine thn (k.turn.done g.Xg rfl rfl rfl k.calm i _ s _ H _ I (k.fpok hps I hnn) st stop) fun r s1 ⟨hr, I1⟩ => ?_
    subst hr
    exact seg_end (.ok .next) ⟨rfl, H, ps, ⟨hps, I1, hnn⟩, h0, hd⟩
  intro m
  induction m with
  | zero =>
    intro i n s₀ s H ps hm hn hI h0 hR
    rcases turn1 i ps H hI.at_ hR with ⟨stop, hd⟩ | ⟨hlt, _⟩
    · exact stop_ i n s₀ s H ps hI h0 stop hd
    · omega
  | succ m ih =>
    intro i n s₀ s H ps hm hn hI h0 hR
    rcases turn1 i ps H hI.at_ hR with ⟨stop, hd⟩ | ⟨hlt, go, step⟩
    · exact stop_ i n s₀ s H ps hI h0 stop hd
    obtain ⟨hps, I, st, hnn⟩ := hI
    have hn2 : m * M + M ≤ n := by rw [Nat.succ_mul] at hn; exact hn
    show Seg _ A _ _ _ s₀ _ ((compTurn (ge2 elt tg i0 ifs0 tg2 i1 ifs1 scope pos) 0 (.ref g.it) .none g.Xg.env).onRaise (leaving g.Xg.env)) [] s
    rw [compTurn_ge2o, Sem.onRaise_eq_wrap]
    refine seg_bind_wrap (wpAny_standAt ?_)
    refine seg_bind_wrap ?_
    rw [hA]
    refine thn (k.turn.item g.Xg rfl rfl rfl k.calm i _ s _ H _ I (k.fpok hps I hnn) st go) fun r s1 ⟨u, hr, h1⟩ => ?_
    subst hr
    refine seg_bind_wrap ?_
    rw [hA]
    refine thn h1 fun _ s2 ⟨x, H2, I2, r2, y2, st2, n2⟩ => ?_
    have I2' := I2.pinned (k.fpok hps I2 n2) (k.turn.obj _ _ st2)
    refine seg_bind_wrap ?_
    rw [hA]
    refine noE (thn (hg1.run _ s2 _ H2 x u _ I2' r2 (step x H2 y2)) fun _ s3 ⟨σ3, H3, I3, hw3, q3⟩ => ?_)
    refine seg_bind_wrap ?_
    rw [hA]
    refine noE (thn (ht1.run _ s3 σ3 H3 _ I3 q3) fun b s4 ⟨H4, I4, q4⟩ => ?_)
    have fin : ∀ {s' : Shared} {H' : Hp}, Inv g.Xg (g.pa :: ps ++ pinsAt g.fp s2.heap) σ3 H' s' → GInv g (i + 1) ps H' s' := fun {s' H'} I' => by
      have pin' : ∀ b ∈ g.fp, ∀ o, s2.heap.get? b = some o → s'.heap.get? b = some o ∧ H' b = none := fun b hb o e =>
        let z := I'.pin (b, o) (List.mem_append_right _ (List.mem_append_right _ (mem_pinsAt hb e)))
        ⟨z.1, z.2.1⟩
      have hl : g.σ0.length = σ3.length := by rw [← hw3, wipe_length]
      refine ⟨hps, (I'.unpinned (pins := g.pa :: ps)).weak hl (fun j v e => ?_), k.turn.keep _ _ _ st2 fun b hb o e => (pin' b hb o e).1, fun b hb => ?_⟩
      · rw [← hw3] at e
        exact (wipe_some e).1
      · obtain ⟨o, e, _⟩ := k.turn.obj _ _ st2 b hb
        exact (pin' b hb o e).2
    cases b with
    | false =>
      simp only [Bool.false_eq_true, if_false] at q4 ⊢
      exact seg_again rfl (ih (i + 1) n s₀ s4 H4 ps (by omega) (by omega) (fin I4) h0 q4)
    | true =>
      simp only [if_true] at q4 ⊢
      refine seg_bind_wrap ?_
      rw [hA]
      refine noE (thn (hi2.run _ s4 σ3 H4 _ I4 q4) fun xv s5 hx => ?_)
      refine seg_bind_wrap (wpAny_standAt ?_)
      refine seg_bind_wrap (wpAny_of_eq (hs2 xv) ?_)
      refine seg_bind_wrap (wpAny_holding ?_)
      rw [hA]
      refine noE (thn hx fun itv s6 ⟨it2, fp2, tn2, J2, H5, e, I5, T2, st5, f5, ⟨hσ, hin⟩⟩ => ?_)
      subst e
      have hl3 : σ3.length = g.σ0.length := by rw [← hw3, wipe_length]
      let q : In2 := { po := pinsAt g.fp s2.heap, fp := fp2, it := it2, tn := tn2, J := J2, σ := wipe σ3 vs2, hp := s2.heap, i := i + 1 }
      have ok2 : In2Ok g tg2 q := ⟨T2, rfl, st2, by show (wipe σ3 vs2).length = _; rw [wipe_length]; exact hl3⟩
      have hG : G2 g q 0 ps H5 s6 := ⟨hps, I5.weak (by show (wipe σ3 vs2).length = _; rw [wipe_length]) (fun j v e => (wipe_some e).1), st5, f5⟩
      show Seg _ A _ _ _ s₀ _ (.call (.compStart (ge2 elt tg i0 ifs0 tg2 i1 ifs1 scope pos) 1 (.ref it2) .none g.Xg.env) none false _ _) [] s6
      refine seg_call fun p => ?_
      have loop : ∀ (fs : List Frame) (hfs : splitAtGen fs = none) (hfg : fs.any Frame.guarded = false) (hA2 : A.over (.compLoop (ge2 elt tg i0 ifs0 tg2 i1 ifs1 scope pos) 1 (.ref q.it) .none g.Xg.env) fs = g.Xg.A)
          (hend : ∀ n s₀ s H ps, GInv g q.i ps H s → Held g.S ps s₀ → R1 q.i ps H → m * M ≤ n → Seg (model g.Xg.prog g.Xg.w) A (GDn g.flat Dn) (GYldP g.flat (rest2 R1 In) Yl) n s₀ (.compLoop (ge2 elt tg i0 ifs0 tg2 i1 ifs1 scope pos) 1 (.ref q.it) .none g.Xg.env) (leafOf (.ok .next)) fs s),
          Seg (model g.Xg.prog g.Xg.w) A (GDn g.flat Dn) (GYldP g.flat (rest2 R1 In) Yl) n s₀ (.compLoop (ge2 elt tg i0 ifs0 tg2 i1 ifs1 scope pos) 1 (.ref q.it) .none g.Xg.env)
            ((model g.Xg.prog g.Xg.w).den (.compLoop (ge2 elt tg i0 ifs0 tg2 i1 ifs1 scope pos) 1 (.ref q.it) .none g.Xg.env)) fs s6 := fun fs hfs hfg hA2 hend =>
        seg_in k ok2 hfs hfg hA2 hco hg2 ht2 he hσ hend (fun j ps H h1 h2 => turn2 q.i q.J q.σ j ps H ok2.σ h1 h2) M 0 n s₀ s6 H5 ps (Nat.sub_zero _) hn2 hG h0 hin
      have st : ∀ (fs : List Frame) (hA2 : A.over (.compStart (ge2 elt tg i0 ifs0 tg2 i1 ifs1 scope pos) 1 (.ref it2) .none g.Xg.env) fs = g.Xg.A)
          (h : Seg (model g.Xg.prog g.Xg.w) A (GDn g.flat Dn) (GYldP g.flat (rest2 R1 In) Yl) n s₀ (.compLoop (ge2 elt tg i0 ifs0 tg2 i1 ifs1 scope pos) 1 (.ref it2) .none g.Xg.env)
            ((model g.Xg.prog g.Xg.w).den (.compLoop (ge2 elt tg i0 ifs0 tg2 i1 ifs1 scope pos) 1 (.ref it2) .none g.Xg.env)) fs s6),
          Seg (model g.Xg.prog g.Xg.w) A (GDn g.flat Dn) (GYldP g.flat (rest2 R1 In) Yl) n s₀ (.compStart (ge2 elt tg i0 ifs0 tg2 i1 ifs1 scope pos) 1 (.ref it2) .none g.Xg.env)
            ((model g.Xg.prog g.Xg.w).den (.compStart (ge2 elt tg i0 ifs0 tg2 i1 ifs1 scope pos) 1 (.ref it2) .none g.Xg.env)) fs s6 := fun fs hA2 h => by
        show Seg _ A _ _ _ s₀ _ ((compStart (ge2 elt tg i0 ifs0 tg2 i1 ifs1 scope pos) 1 (.ref it2) .none g.Xg.env).onRaise (fun x => do noteFrame x g.Xg.env; standAt theWindowsPlace)) fs s6
        unfold compStart
        rw [Sem.onRaise_eq_wrap]
        show Seg _ A _ _ _ s₀ _ ((ask >>= _).wrap _ _ _ _) fs s6
        refine seg_bind_wrap (wpAny_askSetting ?_)
        split
        · exact seg_again rfl h
        · first
            | exact seg_bind_wrap (wpAny_rule (seg_bind_wrap (wpAny_standAt (seg_bind_wrap (T2.self _ 0 s6 _ _ st5 (seg_again rfl h))))))
            | (refine seg_bind_wrap (wpAny_rule ?_); show Seg _ A _ _ _ s₀ _ ((standAt i1.pos >>= _).wrap _ _ _ _) fs s6; exact seg_bind_wrap (wpAny_standAt (seg_bind_wrap (T2.self _ 0 s6 _ _ st5 (seg_again rfl h)))))
      refine st _ (over_in'.trans hA) (loop _ rfl rfl (over_in.trans hA) fun n s₀ s H ps hI h0 hR hn3 => ?_)
      exact seg_leaf (.ok .next) (seg_again rfl (ih (i + 1) n s₀ s H ps (by omega) hn3 hI h0 hR))
end DL
set_option Elab.async false
set_option linter.all false
set_option maxRecDepth 100000
set_option maxHeartbeats 1000000
namespace DL
open PySem L2 PySem.Spec PyProof.Rows GenW
theorem eval_ge2 {elt target iter t1 i1 : Expr} {ifs ifs1 : List Expr} {scope : Scope} {pos : Pos} {env : Env} (hco : scope.isCoroutine = false) :
    eval (ge2 elt target iter ifs t1 i1 ifs1 scope pos) env = (do
      let x ← eval iter env
      standAt iter.pos
      let x ← genFold iter env x
      let it ← holding [x] (pyIter x)
      enterFrame
      let cl ← closureFor scope env
      let code ← genexprCode env pos (env.qual ++ "<genexpr>") scope
      let bi ← builtinsFor env.globals env.builtins
      let cenv ← newFunctionEnv scope env.globals cl [(".0", it)] (env.qual ++ "<genexpr>.") none code none bi
      newGenerator (.compStart (ge2 elt target iter ifs t1 i1 ifs1 scope pos) 0 it .none cenv) "<genexpr>" (env.qual ++ "<genexpr>")) := by
  rw [arm_eval_GeneratorExp]
  simp only [hco, Bool.false_eq_true, if_false]
  cases iter <;> rfl
/-- ready to be woken, n times at most -/
def GAtP {Pl : Type} (g : Ge) (Rest : Pl → List (Addr × Obj) → Hp → Prop) (Dn : List (Addr × Obj) → Hp → Prop) (Yl : Pl → List (Addr × Obj) → V → Hp → Prop) (gi : Nat) (A : Around) (n : Nat) (p : Pl) (ps : List (Addr × Obj)) (H : Hp) (s : Shared) : Prop :=
  GInv g 0 ps H s ∧ ∃ gs, s.gens[gi]? = some gs ∧ ∀ s' ps', Slp g.S s s' → Held g.S ps' s' → Rest p ps' H → gs.Goes (model g.Xg.prog g.Xg.w) A (GDn g Dn) (GYldP g Rest Yl) n (.send .none) s'
theorem ge_nextP {Pl : Type} {g : Ge} {tg : Expr} {A : Around} {n : Nat} {p : Pl} {ps : List (Addr × Obj)} {H : Hp} {s : Shared} {Rest : Pl → List (Addr × Obj) → Hp → Prop} {Dn : List (Addr × Obj) → Hp → Prop} {Yl : Pl → List (Addr × Obj) → V → Hp → Prop} {gi : Nat} {Q : Option Value → Shared → Prop} {E : Value → Shared → Prop} (k : GeOk g tg) (hgen : ∀ h : Heap, h.get? g.pa.1 = some g.pa.2 → h.IsGen g.pa.1 gi)
    (hh : A.handled = none) (hroom : A.depth < recursionLimit) (h : GAtP g Rest Dn Yl gi A.in1 n p ps H s) (hR : Rest p ps H)
    (hY : ∀ p2 x v H' s', RelV x v → Yl p2 ps x H' → GInv g 0 ps H' s' → (∀ s'' ps', Slp g.S s' s'' → Held g.S ps' s'' → s''.gens[gi]? = s'.gens[gi]? → Rest p2 ps' H' → ∃ n', n = n' + 1 ∧ GAtP g Rest Dn Yl gi A.in1 n' p2 ps' H' s'') → Q (some v) s')
    (hD : ∀ H' s', GEnd g ps H' s' → Dn ps H' → Q none s') : wpAny (model g.Xg.prog g.Xg.w) A (pyNext (.ref g.pa.1)) Q E s := by
  obtain ⟨hI, gs, hgs, hgo⟩ := h
  have hlt : gi < s.gens.size := by
    rcases Nat.lt_or_ge gi s.gens.size with h' | h'
    · exact h'
    · rw [Array.getElem?_eq_none h'] at hgs; cases hgs
  have hh0 : Held g.S ps (s.setGen gi .running) := ⟨hI.end.held.at_, hI.end.held.ok⟩
  refine wpAny_gsz (n := gi + 1) hlt ?_
  refine wpAny_pyNext_genexpQ (P := fun _ s₀ s₁ => ∃ H ps, GEnd g ps H s₁ ∧ Held g.S ps s₀ ∧ Dn ps H) (Y := GYldP g Rest Yl) hh hI.inv.nolimit hroom (hgen _ hI.obj) hgs (hgo _ ps (Slp.gens (allBare_setGen hI.inv.bare rfl)) hh0 hR) (fun v s₁ gs' hb hv => ?_) (fun s₁ hp h' hk => ?_)
  · obtain ⟨p2, x, H', ps1, rv, hI', hs0, hy, hkap⟩ := hv
    obtain rfl := held_inj hs0 hh0
    intro hsz
    have hsz' : gi < s₁.gens.size := by
      have := setGen_size s₁ gi gs'
      omega
    have slp : Slp g.S s₁ (s₁.setGen gi gs') := Slp.gens (allBare_setGen hI'.inv.bare hb)
    have hI2 : GInv g 0 ps1 H' (s₁.setGen gi gs') := hI'.slept k slp ⟨hI'.end.held.at_, hI'.end.held.ok⟩
    refine hY p2 x v H' _ rv hy hI2 fun s'' ps' hz hd hg hR => ?_
    have hz1 : Slp g.S s₁ s'' := ⟨hz.os, hz.bare, fun b o hb e => hz.keep b o hb e⟩
    cases n with
    | zero => exact (hkap s'' ps' hz1 hd hR).elim
    | succ n =>
      refine ⟨n, rfl, hI2.slept k hz hd, gs', by rw [hg]; simp [Shared.setGen, hsz'], fun s3 ps3 hz3 hd3 hR3 => ?_⟩
      exact hkap s3 ps3 ⟨hz3.os.trans hz1.os, hz3.bare, fun b o hb e => hz3.keep b o hb (hz1.keep b o hb e)⟩ hd3 hR3
  · obtain ⟨H', ps1, ⟨hps, I, hnn⟩, hs0, hd⟩ := hp
    obtain rfl := held_inj hs0 hh0
    intro _
    exact hD H' _ ⟨hps, (inv_gens I (allBare_setGen I.bare rfl)).kept (t' := s₁.toks) hk, hnn⟩ hd
theorem seg_ge20 {g : Ge} {tg : Expr} {A : Around} {elt i0 i1 tg2 : Expr} {ifs0 ifs1 : List Expr} {scope : Scope} {pos : Pos} {R : GenEnd} {Y : Protocol} {n : Nat} {ps : List (Addr × Obj)} {H : Hp} {s s₀ : Shared} (k : GeOk g tg)
    (hI : GInv g 0 ps H s)
    (loop : Seg (model g.Xg.prog g.Xg.w) A R Y n s₀ (.compLoop (ge2 elt tg i0 ifs0 tg2 i1 ifs1 scope pos) 0 (.ref g.it) .none g.Xg.env)
        ((model g.Xg.prog g.Xg.w).den (.compLoop (ge2 elt tg i0 ifs0 tg2 i1 ifs1 scope pos) 0 (.ref g.it) .none g.Xg.env)) [] s) :
    Seg (model g.Xg.prog g.Xg.w) A R Y n s₀ (.compStart (ge2 elt tg i0 ifs0 tg2 i1 ifs1 scope pos) 0 (.ref g.it) .none g.Xg.env)
        ((model g.Xg.prog g.Xg.w).den (.compStart (ge2 elt tg i0 ifs0 tg2 i1 ifs1 scope pos) 0 (.ref g.it) .none g.Xg.env)) [] s := by
  obtain ⟨hps, I, st, hnn⟩ := hI
  show Seg _ A _ _ _ s₀ _ ((compStart (ge2 elt tg i0 ifs0 tg2 i1 ifs1 scope pos) 0 (.ref g.it) .none g.Xg.env).onRaise (leaving g.Xg.env)) [] s
  unfold compStart
  rw [Sem.onRaise_eq_wrap]
  show Seg _ A _ _ _ s₀ _ ((ask >>= _).wrap _ _ _ _) [] s
  refine seg_bind_wrap (wpAny_askSetting ?_)
  split
  · exact seg_again rfl loop
  · first
      | exact seg_bind_wrap (wpAny_rule (seg_bind_wrap (wpAny_standAt (seg_bind_wrap (k.turn.self _ 0 s _ _ st (seg_again rfl loop))))))
      | (refine seg_bind_wrap (wpAny_rule ?_); show Seg _ A _ _ _ s₀ _ ((standAt i0.pos >>= _).wrap _ _ _ _) [] s; exact seg_bind_wrap (wpAny_standAt (seg_bind_wrap (k.turn.self _ 0 s _ _ st (seg_again rfl loop)))))
theorem gen_made2 {M : Model} {A : Around} {E : Value → Shared → Prop} {s : Shared} {env : Env} {elt target iter t1 i1 : Expr} {ifs ifs1 : List Expr} {scope : Scope} {cl : List (Str × Addr)} {pos : Pos} {Q : Value → Shared → Prop}
    (hco : scope.isCoroutine = false) (hclos : closureFor scope env = pure cl) (h0 : scope.names.lookup (".0" : Str) = some NameKind.local) (hkind : scope.kind = .function)
    (hroom : A.depth < recursionLimit)
    (h : wpAny M A (eval iter env) (fun xv s₁ => wpAny M A (pyIter xv) (fun it s₂ => s₂.heap.NoLimit ∧
      wpAny M A (genexprCode env pos (env.qual ++ "<genexpr>") scope) (fun code s₃ => wpAny M A (builtinsFor env.globals env.builtins) (fun bi s₄ =>
        ∀ h' tk1 tk2 tk3, GenAt scope.names cl s₄.heap.objs.size s₄.heap h' →
          Q (.ref h'.objs.size) { s₄ with
            gens := s₄.gens.push (.fresh (.compStart (ge2 elt target iter ifs t1 i1 ifs1 scope pos) 0 it .none (genEnv scope (cellsFrom (s₄.heap.objs.size + 1) scope.names cl) s₄.heap.objs.size code bi env))),
            toks := tk3,
            heap := h'.push { cls := .type "generator", data := .fields #[.int s₄.gens.size 0, .str "<genexpr>" tk1, .str (env.qual ++ "<genexpr>") tk2] } }) E s₃) E s₂) E s₁) E s)
    (hs : ∀ x, genFold iter env x = pure x) :
    wpAny M A (eval (ge2 elt target iter ifs t1 i1 ifs1 scope pos) env) Q E s := by
  rw [eval_ge2 hco, hclos]
  refine wpAny_bind (wpAny_mono h (fun xv s₁ h₁ => ?_) fun _ _ e => e)
  refine wpAny_bind (wpAny_standAt ?_)
  refine wpAny_bind (wpAny_of_eq (hs xv) ?_)
  refine wpAny_bind (wpAny_holding (wpAny_mono h₁ (fun it s₂ h₂ => ?_) fun _ _ e => e))
  refine wpAny_bind (wpAny_enterFrame h₂.1 hroom ?_)
  refine wpAny_bind (wpAny_pure ?_)
  refine wpAny_bind (wpAny_mono h₂.2 (fun code s₃ h₃ => ?_) fun _ _ e => e)
  refine wpAny_bind (wpAny_mono h₃ (fun bi s₄ h₄ => ?_) fun _ _ e => e)
  refine wpAny_bind (gen_env h0 hkind fun h' tk ga => ?_)
  simp only [newGenerator, newFields]
  refine wpAny_bind (wpAny_newGen (wpAny_bind (wpAny_mkText (wpAny_bind (wpAny_mkText (wpAny_newObj_type ?_ (by size_fits)))))))
  exact h₄ h' _ _ _ ga
/-- a generator has been made: s4 the state ahead of its frame -/
structure GNew2 (X : Cx) (pins : List (Addr × Obj)) (σ : L2.St) (elt tg iter : Expr) (ifs : List Expr) (t1 i1 : Expr) (ifs1 : List Expr) (scope : Scope) (gpos : Pos) (H4 : Hp) (J : It) (a : Addr) (s5 : Shared) (code : Value) : Prop where
  ex : ∃ (s4 : Shared) (it : Addr) (fp : List Addr) (tn : Nat → Heap → Prop) (gs : GenState) (tk : Nat) (h5 : Heap) (ob : Obj),
    Inv X pins σ H4 s4 ∧ Turn X.prog X.w X.K tg J fp it tn ∧ tn 0 s4.heap ∧ (∀ b ∈ fp, FpOk X pins H4 b ∧ b < s4.heap.objs.size) ∧
    gs = .fresh (.compStart (ge2 elt tg iter ifs t1 i1 ifs1 scope gpos) 0 (.ref it) .none (genEnv scope (genCl X scope s4.heap.objs.size) s4.heap.objs.size code builtinsNs X.env)) ∧
    s5 = { s4 with gens := s4.gens.push gs, toks := tk, heap := h5 } ∧ GenAt scope.names (cloFrom X.env.cells scope.names []) s4.heap.objs.size s4.heap h5 ∧ s4.heap.objs.size < a ∧ h5.get? a = some ob ∧
    (∀ h : Heap, h.get? a = some ob → h.IsGen a s4.gens.size) ∧ ∀ v, ob.data ≠ .cell v
section
variable {X : Cx} {pins : List (Addr × Obj)} {σ : L2.St} {H : Hp} {s : Shared}
theorem ge_make2 {G : Gm} {c P : Addr} {elt tg iter t1 i1 : Expr} {ifs ifs1 : List Expr} {scope : Scope} {gpos : Pos} {own : List (Str × Nat)} {wi : TI} {Q : Value → Shared → Prop} {k : Nat}
    (I : Inv X pins σ H s) (hr : Room k X.A) (M : Mkr X G c P) (hkd : G.kd gpos.line gpos.col = false)
    (hi : PI X tg iter wi) (ok : BlkOk X.N X.env.scope scope own) (gk : GenOk scope) (hs : ∀ v, genFold iter X.env v = pure v)
    {Rr : It → Hp → Prop} (h : wi σ H Rr) (hRr : ∀ J H1, Rr J H1 → CT G.kd G.tabs G.subs H1 ∧ ∀ H2 c' P2, LamX.ExtN H1 H2 → CT G.kd (G.sub (c', P2, X.env.qual ++ "<genexpr>.")).tabs (G.sub (c', P2, X.env.qual ++ "<genexpr>.")).subs H2 → ∀ a s5, GNew2 X pins σ elt tg iter ifs t1 i1 ifs1 scope gpos H2 J a s5 (.ref c') → Q (.ref a) s5) :
    wpAny (model X.prog X.w) X.A (eval (ge2 elt tg iter ifs t1 i1 ifs1 scope gpos) X.env) Q X.xe s := by
  have hfree : ∀ y ∈ scope.names, y.2 = .free → ∃ c, X.env.cells.lookup y.1 = some c := fun y hy e => by
    rcases ok.free y hy e with k | k
    · exact I.ok.has _ (.inl k)
    · exact I.ok.has _ (.inr k)
  refine gen_made2 gk.co (closure_ok hfree) gk.dot ok.kind hr.depth (thn (hi.run pins s σ H _ I h) fun xv s1 hx => thn hx fun itv s2 h2 => ?_) hs
  obtain ⟨it, fp, tn, J, H2, e, I2, Tu, st2, f2, hRj⟩ := h2
  obtain ⟨hT, q⟩ := hRr J H2 hRj
  subst e
  refine ⟨I2.nolimit, ?_⟩
  obtain ⟨C, ps, hC, hP, hP', ht, hbt, hgP, h3⟩ := M.tab I2 hT
  have cd : PySem.W.CodeHd s2.heap c P := M.hd I2 hT
  have sz : ∀ b ∈ fp, b < s2.heap.objs.size := fun b hb => by
    obtain ⟨o, e, _⟩ := Tu.obj _ _ st2 b hb
    exact Heap.lt_size e
  -- behind the code
  have cont : ∀ (c' P2 : Addr) (s4 : Shared) (H4 : Hp), Inv X pins σ H4 s4 → LamX.ExtN H2 H4 → CT G.kd (G.sub (c', P2, X.env.qual ++ "<genexpr>.")).tabs (G.sub (c', P2, X.env.qual ++ "<genexpr>.")).subs H4 → s4.gens = s2.gens → (∀ b o, b ≠ P → s2.heap.get? b = some o → s4.heap.get? b = some o) → (∀ b ∈ fp, H4 b = none) → s2.heap.objs.size ≤ s4.heap.objs.size →
      wpAny (model X.prog X.w) X.A (builtinsFor X.env.globals X.env.builtins) (fun bi s₄ =>
        ∀ h' tk1 tk2 tk3, GenAt scope.names (cloFrom X.env.cells scope.names []) s₄.heap.objs.size s₄.heap h' →
          Q (.ref h'.objs.size) { s₄ with
            gens := s₄.gens.push (.fresh (.compStart (ge2 elt tg iter ifs t1 i1 ifs1 scope gpos) 0 (.ref it) .none (genEnv scope (genCl X scope s₄.heap.objs.size) s₄.heap.objs.size (.ref c') bi X.env))),
            toks := tk3,
            heap := h'.push { cls := .type "generator", data := .fields #[.int s₄.gens.size 0, .str "<genexpr>" tk1, .str (X.env.qual ++ "<genexpr>") tk2] } }) X.xe s4 := by
    intro c' P2 s4 H4 I4 e4 t4 g4 k4 n4 z4
    obtain ⟨P0, bm, ob, e1, e2, e3, e4', e5, e6, e7, e8⟩ := M.bm0
    refine wpAny_builtinsFor (m := X.mg) (by rw [I4.ok.glob]; exact I4.mod.glob.keeps I4.bk) e1 e2 (I4.bk _ _ e5) e6 e7 e8 ?_
    intro h' tk1 tk2 tk3 ga
    refine q H4 c' P2 e4 t4 h'.objs.size _ ⟨⟨s4, it, fp, tn, _, _, _, { cls := .type "generator", data := .fields #[.int s4.gens.size 0, .str "<genexpr>" tk1, .str (X.env.qual ++ "<genexpr>") tk2] }, I4, Tu, ?_, fun b hb => ?_, rfl, rfl, ga.push (fun b o e => Heap.get?_push_of_some _ e) (by rw [Heap.size_push]; exact Nat.le_succ _), ga.sz, Heap.get?_push_size _ rfl, fun h hh => ⟨_, _, _, hh, rfl, rfl, rfl⟩, fun v e => by cases e⟩⟩
    · refine Tu.keep _ _ _ st2 fun b hb o e => k4 b o (fun z => ?_) e
      have := (f2 b hb).1
      rw [z, hP] at this
      cases this
    · exact ⟨⟨n4 b hb, (f2 b hb).2⟩, Nat.lt_of_lt_of_le (sz b hb) z4⟩
  cases hc : codeAmong gpos ps.toList with
  | none =>
    refine wpAny_genexprCodeX M.code (cd.code hP' ht) (cd.tab hP') hc fun c' h' tk hx hge hlt hco hrec htab hnew => ?_
    obtain ⟨c2, oc, vs, t, e2, hoc, hd, hv⟩ := hrec
    cases e2
    obtain ⟨P2, y1, y2, y3⟩ := hnew
    have hcd2 := PySem.W.CodeHd.of y2 y3
    have hszz : s2.heap.objs.size ≤ h'.objs.size := Nat.le_trans hge (Nat.le_of_lt hlt)
    have nC : H2 c' = none := I2.hok.fresh hge
    have nT : H2 P2 = none := I2.hok.fresh y1
    have cP2 : c' ≠ P2 := by obtain ⟨_, _, _, _, _, _, _, _, _, _, _, _, _, _, _, _, _, _, z⟩ := id hcd2; exact z
    have ekd : nam_ X.env.qual (G.kd gpos.line gpos.col) = X.env.qual ++ "<genexpr>" := by rw [hkd]; rfl
    have ekp : pre_ X.env.qual (G.kd gpos.line gpos.col) = X.env.qual ++ "<genexpr>." := by rw [hkd]; rfl
    have hC1 := ct_code (X := X) (G := G) (pos := gpos) hC M.mem hP ht nC nT cP2 h3
    rw [ekd, ekp] at hC1
    have hE := ct_ext (ps := ps) (more := #[rawInt gpos.line, rawInt gpos.col, .ref c']) (c' := c') (P2 := P2) (q := X.env.qual ++ "<genexpr>") hP nC nT
    have I3 := inv_code (t' := tk) (more := #[rawInt gpos.line, rawInt gpos.col, .ref c']) (q := X.env.qual ++ "<genexpr>") (h' := h') I2 hP hx htab.2 hge ⟨oc, vs, t, hoc, hd, hv⟩ hcd2 y1 y3.2
    refine cont c' P2 _ _ I3 hE (ct_sub hC1 List.mem_cons_self fun x hx => ?_) rfl hx (fun b hb => ?_) hszz
    · obtain ⟨n, e⟩ := hT.2 x hx
      exact ⟨n, hE _ _ e codeN_ne⟩
    · have n1 : b ≠ c' := fun z => Nat.lt_irrefl _ (Nat.lt_of_lt_of_le (sz b hb) (by rw [z]; exact hge))
      have n3 : b ≠ P2 := fun z => Nat.lt_irrefl _ (Nat.lt_of_lt_of_le (sz b hb) (by rw [z]; exact y1))
      have n2 : b ≠ P := fun z => by
        have := (f2 b hb).1
        rw [z, hP] at this
        cases this
      rw [upd_ne n3, upd_ne n1, upd_ne n2]
      exact (f2 b hb).1
  | some cv =>
    obtain ⟨c', P2, e, hm⟩ := h3 gpos cv hc
    subst e
    rw [hkd] at hm
    refine wpAny_genexprCode_hit M.code (cd.code hP' ht) hc ?_
    exact cont c' P2 s2 H2 I2 (LamX.ExtN.refl H2) (ct_sub hC hm hT.2) rfl (fun b o _ e => e) (fun b hb => (f2 b hb).1) (Nat.le_refl _)
/-- the around of the element: over the consumer's loop -/
abbrev genA2 (X : Cx) (elt tg iter : Expr) (ifs : List Expr) (t1 i1 : Expr) (ifs1 : List Expr) (scope : Scope) (gpos : Pos) (it : Addr) (env : Env) : Around := X.A.in1.in1.over (.compLoop (ge2 elt tg iter ifs t1 i1 ifs1 scope gpos) 0 (.ref it) .none env) []
theorem genA_room2 {k : Nat} {elt tg iter t1 i1 : Expr} {ifs ifs1 : List Expr} {scope : Scope} {gpos : Pos} {it : Addr} {env : Env} (hr : Room (k + 1) X.A) : Room k (genA2 X elt tg iter ifs t1 i1 ifs1 scope gpos it env) :=
  ⟨hr.hd, by have := hr.dp; show X.A.depth + 1 + 3 * k + 5 < _; omega, by have := hr.un; show X.A.units + 5 + 16 * k + 200 < _; omega⟩
theorem genA_frames2 {elt tg iter t1 i1 : Expr} {ifs ifs1 : List Expr} {scope : Scope} {gpos : Pos} {it : Addr} {env : Env} {st : List Env} (h : X.A.frames = some st) : (genA2 X elt tg iter ifs t1 i1 ifs1 scope gpos it env).frames = some (env :: st) := by
  show pushEnvs [env] X.A.frames = _
  rw [h]
  rfl
theorem ge_ready2 {code : Value} {k N M : Nat} {elt tg iter t1 i1 : Expr} {ifs ifs1 : List Expr} {scope : Scope} {gpos : Pos} {own : List (Str × Nat)} {H4 : Hp} {J : It} {a : Addr} {s5 s6 : Shared} {gd1 gd2 : TG} {tt1 tt2 : TT} {te : TE} {wi2 : TI} {vs2 : List Nat} {R1 : Nat → List (Addr × Obj) → Hp → Prop} {In : Nat → It → L2.St → Nat → List (Addr × Obj) → Hp → Prop} {Dn : List (Addr × Obj) → Hp → Prop} {Yl : Pl2 → List (Addr × Obj) → V → Hp → Prop}
    (hr : Room (k + 1) X.A) (hN : X.N.Nodup) (ok : BlkOk X.N X.env.scope scope own) (gk : GenOk scope) (hnew : GNew2 X pins σ elt tg iter ifs t1 i1 ifs1 scope gpos H4 J a s5 code)
    (hg1 : ∀ (A : Around) (s : Shared) (H : Hp) (C : Addr) (cl : List (Str × Addr)) (fp : List Addr), Room k A → PG (genCx X A s H (genEnv scope cl C code builtinsNs X.env) fp) tg gd1)
    (ht1 : ∀ (A : Around) (s : Shared) (H : Hp) (C : Addr) (cl : List (Str × Addr)) (fp : List Addr), Room k A → PTs (genCx X A s H (genEnv scope cl C code builtinsNs X.env) fp) ifs tt1)
    (hi2 : ∀ (A : Around) (s : Shared) (H : Hp) (C : Addr) (cl : List (Str × Addr)) (fp : List Addr), Room k A → PI (genCx X A s H (genEnv scope cl C code builtinsNs X.env) fp) t1 i1 wi2)
    (hg2 : ∀ (A : Around) (s : Shared) (H : Hp) (C : Addr) (cl : List (Str × Addr)) (fp : List Addr), Room k A → PG (genCx X A s H (genEnv scope cl C code builtinsNs X.env) fp) t1 gd2)
    (ht2 : ∀ (A : Around) (s : Shared) (H : Hp) (C : Addr) (cl : List (Str × Addr)) (fp : List Addr), Room k A → PTs (genCx X A s H (genEnv scope cl C code builtinsNs X.env) fp) ifs1 tt2)
    (he : ∀ (A : Around) (s : Shared) (H : Hp) (C : Addr) (cl : List (Str × Addr)) (fp : List Addr), Room k A → PE (genCx X A s H (genEnv scope cl C code builtinsNs X.env) fp) elt te)
    (hs2 : ∀ (e : Env) x, foldedSetIterable i1 e x = pure x)
    {S : List Addr} {ps : List (Addr × Obj)} (turn1 : ∀ i ps H, ps.map (·.1) = S → R1 i ps H → (J.stop i H ∧ Dn ps H) ∨ (i < N ∧ J.go i H ∧ ∀ x H', J.yld i H x H' → gd1 x (wipe σ (own.map (·.2))) H' fun σ2 H2 => wipe σ2 (own.map (·.2)) = wipe σ (own.map (·.2)) ∧ tt1 σ2 H2 fun b H3 => if b = true then wi2 σ2 H3 fun J2 H4 => (∀ (j : Nat) v, (wipe σ (own.map (·.2)))[j]? = some (some v) → (wipe σ2 vs2)[j]? = some (some v)) ∧ In (i + 1) J2 (wipe σ2 vs2) 0 ps H4 else R1 (i + 1) ps H3))
    (turn2 : ∀ i J2 σ2 j ps H, σ2.length = (wipe σ (own.map (·.2))).length → ps.map (·.1) = S → In i J2 σ2 j ps H → (J2.stop j H ∧ R1 i ps H) ∨ (j < M ∧ J2.go j H ∧ ∀ x H', J2.yld j H x H' → gd2 x σ2 H' fun σ3 H2 => wipe σ3 vs2 = σ2 ∧ wipe σ3 (own.map (·.2)) = wipe σ (own.map (·.2)) ∧ tt2 σ3 H2 fun b H3 => if b = true then te σ3 H3 fun y H4 => Yl (some (i, J2, σ2, j + 1)) ps y H4 else In i J2 σ2 (j + 1) ps H3))
    (hS : ∀ b ∈ S, s5.heap.objs.size ≤ b) (hps : Held S ps s6) (kp : ∀ b o, s5.heap.get? b = some o → s6.heap.get? b = some o) (e6 : ∃ h6 t6, s6 = { s5 with heap := h6, toks := t6 }) :
    ∃ g : Ge, g.pa.1 = a ∧ g.S = S ∧ g.Xg.prog = X.prog ∧ g.Xg.w = X.w ∧ GeOk g tg ∧ (∃ gi, (∀ h : Heap, h.get? g.pa.1 = some g.pa.2 → h.IsGen g.pa.1 gi) ∧ GAtP g (rest2 R1 In) Dn Yl gi X.A.in1.in1 (N * M) none ps H4 s6) ∧ ∀ ps H' s', GEnd g ps H' s' → Inv X pins σ H' s' := by
  obtain ⟨s4, it, fp, tn, gs, tk, h5, ob, I4, Tu, st4, f4, rfl, rfl, ga, ha, hob, hgen, hnc⟩ := hnew.ex
  have k5 := ga.kp
  obtain ⟨h6, t6, rfl⟩ := e6
  generalize hgv : genEnv scope (genCl X scope s4.heap.objs.size) s4.heap.objs.size code builtinsNs X.env = gv
  have hC : gv.locals = s4.heap.objs.size := by rw [← hgv]; rfl
  have hG : AllBare (s4.gens.push (.fresh (.compStart (ge2 elt tg iter ifs t1 i1 ifs1 scope gpos) 0 (.ref it) .none gv))) := I4.bare.push rfl
  have I5 := gen_start (A := genA2 X elt tg iter ifs t1 i1 ifs1 scope gpos it gv) (code := code) (tk := tk) I4 ok hN f4 hr.hd (by rw [hgv]; exact genA_frames2 I4.ok.frames) ga hG
  rw [hgv] at I5
  have I6 : Inv (genCx X (genA2 X elt tg iter ifs t1 i1 ifs1 scope gpos it gv) s4 H4 gv fp) [] (wipe σ (own.map (·.2))) H4 { s4 with gens := s4.gens.push (.fresh (.compStart (ge2 elt tg iter ifs t1 i1 ifs1 scope gpos) 0 (.ref it) .none gv)), toks := t6, heap := h6 } := I5.kept (t' := t6) (h' := h6) kp
  have hz5 : s4.heap.objs.size < h5.objs.size := Nat.lt_trans ha (Heap.lt_size hob)
  have young : ∀ b, s4.heap.objs.size ≤ b → H4 b = none ∧ b ∉ frs X.stack := fun b hb => ⟨I4.hok.fresh hb, fun z => by
    rcases List.mem_cons.mp (I4.stkSub b z) with z | z
    · exact absurd (Nat.lt_of_lt_of_le I4.lt hb) (by rw [z]; exact Nat.lt_irrefl _)
    · exact I4.nofs hb z⟩
  have bigS : ∀ b ∈ S, s4.heap.objs.size ≤ b ∧ a < b := fun b hb => by
    have h1 : h5.objs.size ≤ b := hS b hb
    exact ⟨Nat.le_trans (Nat.le_of_lt hz5) h1, Nat.lt_of_lt_of_le (Heap.lt_size hob) h1⟩
  have I7 : Inv (genCx X (genA2 X elt tg iter ifs t1 i1 ifs1 scope gpos it gv) s4 H4 gv fp) ((a, ob) :: ps) (wipe σ (own.map (·.2))) H4 { s4 with gens := s4.gens.push (.fresh (.compStart (ge2 elt tg iter ifs t1 i1 ifs1 scope gpos) 0 (.ref it) .none gv)), toks := t6, heap := h6 } := I6.pins_of fun p hp => by
    rcases List.mem_cons.mp hp with z | z
    · rw [z]
      obtain ⟨y1, y2⟩ := young a (Nat.le_of_lt ha)
      exact ⟨kp _ _ hob, y1, by show a ≠ gv.locals; rw [hC]; exact Nat.ne_of_gt ha, y2, hnc⟩
    · obtain ⟨q2, q3⟩ := hps.ok p z
      have q1 : p.1 ∈ S := by rw [← hps.at_]; exact List.mem_map.mpr ⟨p, z, rfl⟩
      obtain ⟨y1, y2⟩ := young p.1 (bigS _ q1).1
      exact ⟨q2, y1, by show p.1 ≠ gv.locals; rw [hC]; exact Nat.ne_of_gt (Nat.lt_trans ha (bigS _ q1).2), y2, q3⟩
  have nfp : ∀ b ∈ fp, H4 b = none := fun b hb => (f4 b hb).1.1
  have st6 : tn 0 h6 := Tu.keep _ _ _ st4 fun b _ o e => kp b o (k5 b o e)
  let g : Ge := { Xg := genCx X (genA2 X elt tg iter ifs t1 i1 ifs1 scope gpos it gv) s4 H4 gv fp, pa := (a, ob), S := S, σ0 := wipe σ (own.map (·.2)), fp := fp, it := it, tn := tn, J := J, vs := own.map (·.2) }
  have gok : GeOk g tg := by
    refine ⟨rfl, rfl, rfl, rfl, Tu, fun b hb => ⟨(bigS b hb).1, ?_, Nat.ne_of_gt (bigS b hb).2, fun z => ?_, fun x c e z => ?_⟩, fun z => ?_⟩
    · show b ≠ gv.locals
      rw [hC]
      exact Nat.ne_of_gt (Nat.lt_trans ha (bigS b hb).2)
    · exact absurd (Nat.lt_of_lt_of_le (f4 b z).2 (bigS b hb).1) (Nat.lt_irrefl _)
    · obtain ⟨v, zc⟩ := I5.cell x c e
      have h1 : c < h5.objs.size := zc.lt
      have h2 : h5.objs.size ≤ b := hS b hb
      rw [z] at h1
      exact absurd (Nat.lt_of_lt_of_le h1 h2) (Nat.lt_irrefl _)
    · exact absurd (Nat.lt_trans (f4 a z).2 ha) (Nat.lt_irrefl _)
  have hI : GInv g 0 ps H4 { s4 with gens := s4.gens.push (.fresh (.compStart (ge2 elt tg iter ifs t1 i1 ifs1 scope gpos) 0 (.ref it) .none gv)), toks := t6, heap := h6 } := ⟨hps.at_, I7, st6, nfp⟩
  have room := genA_room2 (elt := elt) (tg := tg) (iter := iter) (t1 := t1) (i1 := i1) (ifs := ifs) (ifs1 := ifs1) (scope := scope) (gpos := gpos) (it := it) (env := gv) hr
  have hIf : ∀ {ps H s}, GInv g 0 ps H s → GInv g.flat 0 ps H s := fun h => ⟨h.at_, h.inv, ⟨0, h.tn⟩, h.fp⟩
  refine ⟨g.flat, rfl, rfl, rfl, rfl, gok.flat, ⟨s4.gens.size, hgen, hIf hI, _, Array.getElem?_push_size .., fun s' ps' hz hd hR => ⟨rfl, ?_⟩⟩, fun ps H' s' ⟨_, I', hn'⟩ => ?_⟩
  · have hI' := hI.slept gok hz hd
    have P : ∀ {T : Cx → Prop}, (∀ (A : Around) (s : Shared) (H : Hp) (C : Addr) (cl : List (Str × Addr)) (fp : List Addr), Room k A → T (genCx X A s H (genEnv scope cl C code builtinsNs X.env) fp)) → T g.Xg := fun {T} h => by
      have := h (genA2 X elt tg iter ifs t1 i1 ifs1 scope gpos it gv) s4 H4 s4.heap.objs.size (genCl X scope s4.heap.objs.size) fp room
      rw [hgv] at this; exact this
    refine seg_ge20 (g := g) gok hI' (seg_ge2 (g := g) gok rfl ?_ (P (T := fun Y => PG Y tg gd1) hg1) (P (T := fun Y => PTs Y ifs tt1) ht1) (P (T := fun Y => PI Y t1 i1 wi2) hi2) (hs2 _) (P (T := fun Y => PG Y t1 gd2) hg2) (P (T := fun Y => PTs Y ifs1 tt2) ht2) (P (T := fun Y => PE Y elt te) he) ?_ turn1 turn2 N 0 (N * M) s' s' H4 ps' (Nat.sub_zero _) (Nat.le_refl _) hI' hd hR)
    · show gv.scope.isCoroutine = false
      rw [← hgv]; exact gk.co
    · exact wipe_wipe _
  · exact I4.call' (ch := fp) I'.os I'.base I'.hok I'.bare fun b hb => ⟨(f4 b hb).1.2.2.2.1, (f4 b hb).1.2.1, (f4 b hb).1.2.2.2.2.1, (f4 b hb).1.2.2.2.2.2⟩
end
end DL
set_option Elab.async false
set_option linter.all false
set_option maxRecDepth 100000
set_option maxHeartbeats 1000000
namespace DL
open PySem L2 PySem.Spec PyProof.Rows GenW
def restA2 (R1 : Int → Nat → Hp → Prop) (In : Int → Nat → It → L2.St → Nat → Hp → Prop) (acc : Int) : Pl2 → Hp → Prop
  | none, H => R1 acc 0 H
  | some (i, J, σ, j), H => In acc i J σ j H
def R1S (S : Addr) (R1 : Int → Nat → Hp → Prop) (i : Nat) (ps : List (Addr × Obj)) (H : Hp) : Prop := ∃ acc tA c, ps = [(S, sumObj acc tA c)] ∧ R1 acc i H
def InS (S : Addr) (In : Int → Nat → It → L2.St → Nat → Hp → Prop) (i : Nat) (J : It) (σ : L2.St) (j : Nat) (ps : List (Addr × Obj)) (H : Hp) : Prop := ∃ acc tA c, ps = [(S, sumObj acc tA c)] ∧ In acc i J σ j H
theorem restS2 {S : Addr} {R1 : Int → Nat → Hp → Prop} {In : Int → Nat → It → L2.St → Nat → Hp → Prop} {p : Pl2} {acc : Int} {tA : Tok} {c : Nat} {H : Hp} (h : restA2 R1 In acc p H) : rest2 (R1S S R1) (InS S In) p [(S, sumObj acc tA c)] H := by
  cases p with
  | none => exact ⟨acc, tA, c, rfl, h⟩
  | some q => exact ⟨acc, tA, c, rfl, h⟩
def YlSP (S : Addr) (R1 : Int → Nat → Hp → Prop) (In : Int → Nat → It → L2.St → Nat → Hp → Prop) (p : Pl2) (ps : List (Addr × Obj)) (y : V) (H : Hp) : Prop := ∃ acc tA c v, ps = [(S, sumObj acc tA c)] ∧ y = .int v ∧ InLong v ∧ InLong (acc + v) ∧ restA2 R1 In (acc + v) p H
theorem sum_loopP {g : Ge} {tg : Expr} {gi : Nat} {S : Addr} {A : Around} {R1 : Int → Nat → Hp → Prop} {In : Int → Nat → It → L2.St → Nat → Hp → Prop} {Qd : Int → Hp → Prop} {R : Result → Shared → Prop} (k : GeOk g tg) (hS : g.S = [S]) (hgen : ∀ h : Heap, h.get? g.pa.1 = some g.pa.2 → h.IsGen g.pa.1 gi) (hh : A.handled = none) (hroom : A.depth < recursionLimit)
    (hd : ∀ ps H' s' acc t, GEnd g ps H' s' → Qd acc H' → R (.ok (.ret (.int acc t))) s') : ∀ (n : Nat) (p : Pl2) (acc : Int) (tA : Tok) (c : Nat) (H : Hp) (s : Shared),
    GAtP g (rest2 (R1S S R1) (InS S In)) (DnS S Qd) (YlSP S R1 In) gi A.in1.in1 n p [(S, sumObj acc tA c)] H s → restA2 R1 In acc p H → codeAny (model g.Xg.prog g.Xg.w) A (.builtin "sum.loop" ⟨[.ref g.pa.1, .ref S, rawInt 0, rawInt 0], []⟩) R s := by
  intro n
  induction n using Nat.strongRecOn with
  | ind n ih =>
    intro p acc tA c H s hG hR
    have hSs : s.heap.get? S = some (sumObj acc tA c) := (hG.1.end.held.ok _ List.mem_cons_self).1
    refine codeAny_builtin F.entry_sum_loop ?_
    rw [Around.under_plainId F.plain_sum_loop _]
    show wpAny _ A.in1 (seqItems? (.ref S) >>= _) _ _ s
    refine wpAny_bind (wpAny_seqItems hSs rfl ?_)
    show wpAny _ A.in1 (tryCatch (pyNext (.ref g.pa.1)) _ >>= _) _ _ s
    refine wpAny_bind (wpAny_tryCatch (ge_nextP (A := A.in1) k hgen hh hroom hG (restS2 hR) (fun j x v H' s' rv hy hI next => ?_) fun H' s' hE hD => ?_))
    · obtain ⟨acc', tA', c', w, hps, rfl, ⟨f1, f2⟩, ⟨f3, f4⟩, hR'⟩ := hy
      obtain ⟨rfl, rfl, rfl⟩ := one_inj hps
      obtain ⟨t, rfl⟩ : ∃ t, v = Value.int w t := rv
      have hS' : s'.heap.get? S = some (sumObj acc tA c) := (hI.end.held.ok _ List.mem_cons_self).1
      have hc : ((decide (-(2 ^ 63) ≤ w) && decide (w < 2 ^ 63)) && (decide (-(2 ^ 63) ≤ acc + w) && decide (acc + w < 2 ^ 63))) = true := by
        simp only [Bool.and_eq_true, decide_eq_true_eq]
        exact ⟨⟨f1, f2⟩, f3, f4⟩
      show wpAny _ A.in1 (if (_ : Bool) = true then (mkInt (acc + w) >>= _) else _) _ _ _
      split
      · refine wpAny_bind (wpAny_mkInt ?_)
        show wpAny _ A.in1 (updateSeq S (fun _ => #[.int (acc + w) s'.toks]) >>= _) _ _ _
        refine wpAny_bind ?_
        refine wpAny_updateSeq hS' rfl (wpAny_pure ?_)
        have hu := Heap.get?_update_self (h := s'.heap) (Obj.mapSeq (fun _ => (#[.int (acc + w) s'.toks] : Array Value))) hS' rfl
        obtain ⟨n', hn', hG'⟩ := next { s' with toks := s'.toks + 1, heap := s'.heap.update S (Obj.mapSeq (fun _ => (#[.int (acc + w) s'.toks] : Array Value))) } [(S, sumObj (acc + w) s'.toks _)] ⟨rfl, hI.inv.bare, fun b o hb e => (Heap.get?_update_other _ _ (fun h : S = b => hb (by rw [hS, h]; exact List.mem_cons_self))).trans e⟩
          ⟨by rw [hS]; rfl, fun p hp => by rw [List.mem_singleton.mp hp]; exact ⟨hu, fun v e => by cases e⟩⟩ rfl (restS2 hR')
        exact ⟨plainId_quiet F.plain_sum_loop _, ih n' (by omega) j (acc + w) s'.toks _ H' _ hG' hR'⟩
      · rename_i hneg
        exact absurd hc hneg
    · obtain ⟨acc', tA', c', hps, hq⟩ := hD
      obtain ⟨rfl, rfl, rfl⟩ := one_inj hps
      exact wpAny_pure (hd _ H' s' acc tA hE hq)
def tSumE2 (G : Gm) (q : Str) (wi : TI) (gd1 : Fr_ → TG) (tt1 : Fr_ → TT) (wi2 : Fr_ → TI) (gd2 : Fr_ → TG) (tt2 : Fr_ → TT) (te : Fr_ → TE) (vs vs2 : List Nat) : TE := fun σ H Q => wi σ H fun J H1 => CT G.kd G.tabs G.subs H1 ∧ ∀ H2 c' P2, LamX.ExtN H1 H2 → CT G.kd (G.sub (c', P2, q)).tabs (G.sub (c', P2, q)).subs H2 → ∃ (N M : Nat) (R1 : Int → Nat → Hp → Prop) (In : Int → Nat → It → L2.St → Nat → Hp → Prop), R1 0 0 H2 ∧
  (∀ acc i H, R1 acc i H → (J.stop i H ∧ Q (.int acc) H) ∨ (i < N ∧ J.go i H ∧ ∀ v H', J.yld i H v H' → gd1 (c', P2, q) v (wipe σ vs) H' fun σ2 H3 => wipe σ2 vs = wipe σ vs ∧ tt1 (c', P2, q) σ2 H3 fun b H4 => if b = true then wi2 (c', P2, q) σ2 H4 fun J2 H5 => (∀ (j : Nat) v, (wipe σ vs)[j]? = some (some v) → (wipe σ2 vs2)[j]? = some (some v)) ∧ In acc (i + 1) J2 (wipe σ2 vs2) 0 H5 else R1 acc (i + 1) H4)) ∧
  (∀ acc i J2 σ2 j H, σ2.length = (wipe σ vs).length → In acc i J2 σ2 j H → (J2.stop j H ∧ R1 acc i H) ∨ (j < M ∧ J2.go j H ∧ ∀ v H', J2.yld j H v H' → gd2 (c', P2, q) v σ2 H' fun σ3 H3 => wipe σ3 vs2 = σ2 ∧ wipe σ3 vs = wipe σ vs ∧ tt2 (c', P2, q) σ3 H3 fun b H4 => if b = true then te (c', P2, q) σ3 H4 fun y H5 => ∃ v, y = .int v ∧ InLong v ∧ InLong (acc + v) ∧ In (acc + v) i J2 σ2 (j + 1) H5 else In acc i J2 σ2 (j + 1) H4))
section
variable {X : Cx}
theorem pe_sumE2 {G : Gm} {c P : Addr} {elt tg iter t1 i1 : Expr} {ifs ifs1 : List Expr} {scope : Scope} {gpos p pos : Pos} {own : List (Str × Nat)} {wi : TI} {gd1 gd2 : Fr_ → TG} {tt1 tt2 : Fr_ → TT} {wi2 : Fr_ → TI} {te : Fr_ → TE} {vs2 : List Nat} {k : Nat}
    (mg1 : ∀ y v σ H (Q Q' : L2.St → Hp → Prop), (∀ σ H, Q σ H → Q' σ H) → gd1 y v σ H Q → gd1 y v σ H Q') (mt1 : ∀ y σ H (Q Q' : Bool → Hp → Prop), (∀ b H, Q b H → Q' b H) → tt1 y σ H Q → tt1 y σ H Q')
    (mw2 : ∀ y σ H (Q Q' : It → Hp → Prop), (∀ J H, Q J H → Q' J H) → wi2 y σ H Q → wi2 y σ H Q')
    (mg2 : ∀ y v σ H (Q Q' : L2.St → Hp → Prop), (∀ σ H, Q σ H → Q' σ H) → gd2 y v σ H Q → gd2 y v σ H Q') (mt2 : ∀ y σ H (Q Q' : Bool → Hp → Prop), (∀ b H, Q b H → Q' b H) → tt2 y σ H Q → tt2 y σ H Q')
    (me : ∀ y σ H (Q Q' : VK), (∀ v H, Q v H → Q' v H) → te y σ H Q → te y σ H Q')
    (hr : Room (k + 1) X.A) (hgl : Gl X "sum") (hm : X.mg "sum" = none) (hb : bootBuiltins "sum" = some (.builtin "sum")) (M : Mkr X G c P) (hkd : G.kd gpos.line gpos.col = false) (hN : X.N.Nodup)
    (hi : PI X tg iter wi) (ok : BlkOk X.N X.env.scope scope own) (gk : GenOk scope)
    (hg1 : ∀ (c' P2 : Addr) (A : Around) (s : Shared) (H : Hp) (C : Addr) (cl : List (Str × Addr)) (fp : List Addr), Room k A → PG (genCx X A s H (genEnv scope cl C (.ref c') builtinsNs X.env) fp) tg (gd1 (c', P2, X.env.qual ++ "<genexpr>.")))
    (ht1 : ∀ (c' P2 : Addr) (A : Around) (s : Shared) (H : Hp) (C : Addr) (cl : List (Str × Addr)) (fp : List Addr), Room k A → PTs (genCx X A s H (genEnv scope cl C (.ref c') builtinsNs X.env) fp) ifs (tt1 (c', P2, X.env.qual ++ "<genexpr>.")))
    (hi2 : ∀ (c' P2 : Addr) (A : Around) (s : Shared) (H : Hp) (C : Addr) (cl : List (Str × Addr)) (fp : List Addr), Room k A → PI (genCx X A s H (genEnv scope cl C (.ref c') builtinsNs X.env) fp) t1 i1 (wi2 (c', P2, X.env.qual ++ "<genexpr>.")))
    (hg2 : ∀ (c' P2 : Addr) (A : Around) (s : Shared) (H : Hp) (C : Addr) (cl : List (Str × Addr)) (fp : List Addr), Room k A → PG (genCx X A s H (genEnv scope cl C (.ref c') builtinsNs X.env) fp) t1 (gd2 (c', P2, X.env.qual ++ "<genexpr>.")))
    (ht2 : ∀ (c' P2 : Addr) (A : Around) (s : Shared) (H : Hp) (C : Addr) (cl : List (Str × Addr)) (fp : List Addr), Room k A → PTs (genCx X A s H (genEnv scope cl C (.ref c') builtinsNs X.env) fp) ifs1 (tt2 (c', P2, X.env.qual ++ "<genexpr>.")))
    (he : ∀ (c' P2 : Addr) (A : Around) (s : Shared) (H : Hp) (C : Addr) (cl : List (Str × Addr)) (fp : List Addr), Room k A → PE (genCx X A s H (genEnv scope cl C (.ref c') builtinsNs X.env) fp) elt (te (c', P2, X.env.qual ++ "<genexpr>.")))
    (hs : ∀ v, genFold iter X.env v = pure v) (hs2 : ∀ (e : Env) x, foldedSetIterable i1 e x = pure x)
    (hse : starEach [ge2 elt tg iter ifs t1 i1 ifs1 scope gpos] X.env = (false, eval (ge2 elt tg iter ifs t1 i1 ifs1 scope gpos) X.env) :: starEach [] X.env := by rfl) :
    PE X (.Call (.Name "sum" p) [ge2 elt tg iter ifs t1 i1 ifs1 scope gpos] [] pos) (tSumE2 G (X.env.qual ++ "<genexpr>.") wi gd1 tt1 wi2 gd2 tt2 te (own.map (·.2)) vs2) := by
  refine ⟨fun pins s σ H Q I h => ?_⟩
  refine wpAny_Call_Name_kw (ld_blt I hgl hm hb ?_)
  refine PyProof.Rows.callWith_builtin1 ?_ hse (by rfl)
  rw [hse]
  show wpAny _ _ (spliced ((false, eval (ge2 elt tg iter ifs t1 i1 ifs1 scope gpos) X.env) :: backTo pos (starEach [] X.env))) _ _ s
  refine Calls.spliced_cons (ge_make2 I hr M hkd hi ok gk hs h fun J H1 h1 => ⟨h1.1, fun H2 c' P2 x2 t2 a s5 hnew => ?_⟩)
  refine Calls.spliced_nil ?_
  obtain ⟨N, M2, R1, In, hR0, turn1, turn2⟩ := h1.2 H2 c' P2 x2 t2
  have hgen0 : ∃ gi, s5.heap.IsGen a gi := by
    obtain ⟨s4, it, fp, tn, gs, tk, h5, ob, I4, Tu, st4, f4, _, rfl, ga, ha, hob, hgen, hnc⟩ := hnew.ex
    exact ⟨_, hgen _ hob⟩
  obtain ⟨gi0, hgen0⟩ := hgen0
  refine call_function_tree F.kind_sum F.plain_sum F.entry_sum (F.args_sum1 _) ?_
  unfold Builtin.«sum»
  simp only [List.length_cons, List.length_nil]
  rw [if_neg (by decide)]
  refine wpAny_bind (wpAny_of_eq (show Builtin.Builtins.bindParams "sum" ["start"] 0 { } = pure [none] from rfl) ?_)
  refine wpAny_bind (wpAny_pyIter_gen hgen0 ?_)
  refine wpAny_bind (wpAny_mkInt ?_)
  refine wpAny_bind (wpAny_pure ?_)
  simp only [List.forIn_cons, List.forIn_nil]
  refine wpAny_bind (wpAny_bind (wpAny_bind (wpAny_isInstance (T := "int") (b := false) (typeIs_int _ _ _) PySem.sub_int_str ?_)))
  simp only [Bool.false_eq_true, if_false]
  refine wpAny_pure (wpAny_bind (wpAny_bind (wpAny_isInstance (T := "int") (b := false) (typeIs_int _ _ _) PySem.sub_int_bytes ?_)))
  simp only [Bool.false_eq_true, if_false]
  refine wpAny_pure (wpAny_bind (wpAny_bind (wpAny_isInstance (T := "int") (b := false) (typeIs_int _ _ _) PySem.sub_int_bytearray ?_)))
  simp only [Bool.false_eq_true, if_false]
  refine wpAny_pure (wpAny_pure ?_)
  refine wpAny_bind (wpAny_newObj_type ?_)
  obtain ⟨g, ea, eS, ep, ew, gok, ⟨gi, hgen, hG⟩, back⟩ := ge_ready2 (N := N) (M := M2) (R1 := R1S s5.heap.objs.size R1) (In := InS s5.heap.objs.size In) (Dn := DnS s5.heap.objs.size fun acc => Q (.int acc)) (Yl := YlSP s5.heap.objs.size R1 In) (S := [s5.heap.objs.size]) (ps := [(s5.heap.objs.size, sumObj 0 s5.toks 0)]) (s6 := { s5 with toks := s5.toks + 1, heap := s5.heap.push { cls := .type "list", data := .seq #[.int 0 s5.toks] } }) hr hN ok gk hnew (hg1 c' P2) (ht1 c' P2) (hi2 c' P2) (hg2 c' P2) (ht2 c' P2) (he c' P2) hs2
    (fun i ps H _ hR => by
      obtain ⟨acc, tA, c, rfl, hR⟩ := hR
      rcases turn1 acc i H hR with ⟨h1, h2⟩ | ⟨h1, h2, h3⟩
      · exact .inl ⟨h1, acc, tA, c, rfl, h2⟩
      · refine .inr ⟨h1, h2, fun x H' hy => mg1 _ _ _ _ _ _ (fun σ2 H2 ⟨q1, q2⟩ => ⟨q1, mt1 _ _ _ _ _ (fun b H3 q3 => ?_) q2⟩) (h3 x H' hy)⟩
        cases b with
        | false => exact ⟨acc, tA, c, rfl, q3⟩
        | true => exact mw2 _ _ _ _ _ (fun J2 H4 ⟨e1, e2⟩ => ⟨e1, acc, tA, c, rfl, e2⟩) q3)
    (fun i J2 σ2 j ps H hl _ hR => by
      obtain ⟨acc, tA, c, rfl, hR⟩ := hR
      rcases turn2 acc i J2 σ2 j H hl hR with ⟨h1, h2⟩ | ⟨h1, h2, h3⟩
      · exact .inl ⟨h1, acc, tA, c, rfl, h2⟩
      · refine .inr ⟨h1, h2, fun x H' hy => mg2 _ _ _ _ _ _ (fun σ2 H2 ⟨q0, q1, q2⟩ => ⟨q0, q1, mt2 _ _ _ _ _ (fun b H3 q3 => ?_) q2⟩) (h3 x H' hy)⟩
        cases b with
        | false => exact ⟨acc, tA, c, rfl, q3⟩
        | true => exact me _ _ _ _ _ (fun v H4 ⟨w, e1, e2, e3, e4⟩ => ⟨acc, tA, c, w, rfl, e1, e2, e3, e4⟩) q3)
    (fun b hb => by rw [List.mem_singleton.mp hb]; exact Nat.le_refl _) ⟨rfl, fun p hp => by rw [List.mem_singleton.mp hp]; exact ⟨Heap.get?_push_size _ rfl, fun v e => by cases e⟩⟩ (fun _ _ e => Heap.get?_push_of_some _ e) ⟨_, _, rfl⟩
  rw [← ea, ← ep, ← ew]
  exact wpAny_pure ⟨plainId_quiet F.plain_sum_loop _, sum_loopP (R1 := R1) (In := In) (Qd := fun acc => Q (.int acc)) gok eS hgen hr.hd hr.depth (fun ps H' s' acc t hE q => ⟨.int acc, H', back ps H' s' hE, ⟨t, rfl⟩, q⟩) (N * M2) none 0 s5.toks 0 H2 _ hG hR0⟩
end
end DL
set_option Elab.async false
set_option linter.all false
set_option maxRecDepth 100000
set_option maxHeartbeats 2000000
namespace DL
open PySem L2 PySem.Spec PyProof.Rows GenW
def sumG2 (gd1 : D → LE → Option LE) (tt1 : LE → R Bool) (fi2 : LE → R (List D)) (gd2 : D → LE → Option LE) (tt2 : LE → R Bool) (te : LE → R D) (vs2 : List Nat) (r : LE) : Int → List D → R Int
  | acc, [] => .ok acc
  | acc, d :: ds => match gd1 d r with
    | none => .stuck
    | some r1 => do
      if (← (tt1 r1).calm) then do
        let es ← (fi2 r1).calm
        if es.length ≤ 16777216 then do
          let acc2 ← sumG gd2 tt2 te (wipeL r1 vs2) acc es
          sumG2 gd1 tt1 fi2 gd2 tt2 te vs2 r acc2 ds
        else .stuck
      else sumG2 gd1 tt1 fi2 gd2 tt2 te vs2 r acc ds
def sumE2 (fi : LE → R (List D)) (gd1 : D → LE → Option LE) (tt1 : LE → R Bool) (fi2 : LE → R (List D)) (gd2 : D → LE → Option LE) (tt2 : LE → R Bool) (te : LE → R D) (vs vs2 : List Nat) : LE → R D := fun r => do
  let ds ← fi r
  let b ← sumG2 gd1 tt1 fi2 gd2 tt2 te vs2 (wipeL r vs) 0 ds
  .ok (.int b)
theorem wipe_keep {σ : L2.St} {j : Nat} : ∀ {vs : List Nat}, j ∉ vs → (wipe σ vs)[j]? = σ[j]?
  | [], _ => rfl
  | v :: vs, h => by
    show ((wipe σ vs).set v _)[j]? = _
    rw [List.getElem?_set_ne (fun e => h (by rw [e]; exact List.mem_cons_self)), wipe_keep fun z => h (List.mem_cons_of_mem _ z)]
theorem wipe_base {σ τ : L2.St} {vs vs2 : List Nat} (h : wipe σ vs = wipe τ vs) (hs : ∀ j ∈ vs2, j ∈ vs) (j : Nat) (v : V) (e : (wipe τ vs)[j]? = some (some v)) : (wipe σ vs2)[j]? = some (some v) := by
  rw [← h] at e
  obtain ⟨h1, h2⟩ := wipe_some e
  rw [wipe_keep fun z => h2 (hs j z)]
  exact h1
section
variable {X : Cx} {G : Gm} {W : WX} {tg iter t1 i1 : Expr} {fi fi2 : LE → R (List D)} {gd1 gd2 : D → LE → Option LE} {is is2 vs vs2 : List Nat} {tt1 tt2 : LE → R Bool} {te : LE → R D}
theorem sum_core2_d (q_ : Str) (hsub : ∀ j ∈ is, j ∈ vs) (hsub2 : ∀ j ∈ is2, j ∈ vs2) (hvs : ∀ j ∈ vs2, j ∈ vs) {sg : L2.St} {H : Hp} {Q : VK} (h : tD G W (sumE2 fi gd1 tt1 fi2 gd2 tt2 te vs vs2) sg H Q) :
    tSumE2 G q_ (tIe G W fi) (fun y => tGd (G.sub y) gd1 is) (fun y => tT (G.sub y) W0 tt1) (fun y => tIe (G.sub y) W0 fi2) (fun y => tGd (G.sub y) gd2 is2) (fun y => tT (G.sub y) W0 tt2) (fun y => tD (G.sub y) W0 te) vs vs2 sg H Q := by
  obtain ⟨dl, Z, O, r, A, q⟩ := h
  refine ⟨dl, Z, O, r, A, q.bind.thn fun ds hds J B H1 g1 k1 wk hB => ⟨k1.tab, fun H2 c' P2 x2 t2 => ?_⟩⟩
  have k2 : GlOk G dl H2 := k1.ofExt x2 t2.drop
  have A1 := A.grow g1 k1
  have g2 : Grow dl H1 H2 := ext_grow x2
  have A2 := (A1.grow g2 k2).enter t2
  have hds := hds.bind
  let post : Int → Prop := fun b => ∀ v H2, Grow dl H H2 → GlOk G dl H2 → Rep G dl (cut H2 Z) (.int b) v → Q v H2
  let err : Exc → Prop := fun e => ∀ cls dx H', Grow dl H H' → GlOk G dl H' → XRep G dl (cut H' Z) e cls dx H' → W cls dx sg H'
  let outer : Int → Nat → R Int := fun acc i => sumG2 gd1 tt1 fi2 gd2 tt2 te vs2 (wipeL r vs) acc (ds.drop i)
  refine ⟨ds.length, 16777217, fun acc i H' => i ≤ ds.length ∧ At (G.sub (c', P2, q_)) dl Z O r sg H' ∧ Grow dl H H' ∧ B Z H' ∧ Wp (outer acc i) post err,
    fun acc i J2 σ2 j H' => i ≤ ds.length ∧ At (G.sub (c', P2, q_)) dl Z O r sg H' ∧ Grow dl H H' ∧ B Z H' ∧ wipe σ2 vs = wipe sg vs ∧ wipe σ2 vs2 = σ2 ∧
      ∃ (r1 : LE) (es : List D) (B2 : List Addr → Hp → Prop), j ≤ es.length ∧ es.length ≤ 16777216 ∧ WalkE (G.sub (c', P2, q_)) dl J2 es B2 ∧ B2 Z H' ∧ At (G.sub (c', P2, q_)) dl Z O r1 σ2 H' ∧
        Wp (sumG gd2 tt2 te r1 acc (es.drop j)) (fun b => Wp (outer b i) post err) err,
    ⟨Nat.zero_le _, A2, g1.trans g2, wk.mono _ _ _ _ (g2.cut A.dz) g2 hB, by simpa [outer] using hds⟩, ?_, ?_⟩
  · rintro acc i H' ⟨hi', A', gH, hB', hw⟩
    by_cases hlt : i < ds.length
    · have hdrop : ds.drop i = ds[i] :: ds.drop (i + 1) := List.drop_eq_getElem_cons hlt
      have hw : Wp (sumG2 gd1 tt1 fi2 gd2 tt2 te vs2 (wipeL r vs) acc (ds.drop i)) post err := hw
      rw [hdrop] at hw
      refine .inr ⟨hlt, wk.go i Z H' hB' hlt, fun v H3 hy => ?_⟩
      obtain ⟨g3, k3, rp⟩ := wk.yld i Z O r sg H' v H3 A'.drop hB' hy ds[i] (by simp)
      have A3 := A'.grow g3 (k3 _ A'.gl)
      unfold sumG2 at hw
      cases hgd : gd1 ds[i] (wipeL r vs) with
      | none => rw [hgd] at hw; exact hw.elim
      | some r2 =>
        rw [hgd] at hw
        refine ⟨dl, Z, O, wipeL r vs, ds[i], A3.wipe vs, rep_sub.mpr rp, r2, hgd, fun sg3 hl3 hs3 A4 => ?_⟩
        have hwip : wipe sg3 vs = wipe sg vs := (wipe_same hl3 fun j hj => hs3 j fun z => hj (hsub j z)).trans (wipe_wipe vs)
        refine ⟨hwip, ?_⟩
        refine ⟨dl, Z, O, r2, A4, (calm_wp hw.bind).mono (fun b hb H4 g4 k4 => ?_) fun e he => he⟩
        have A5 := A4.grow g4 k4
        have C4 : At (G.sub (c', P2, q_)) dl Z O r sg H4 := A3.grow g4 k4
        have gg : Grow dl H H4 := (gH.trans g3).trans g4
        have hB4 : B Z H4 := wk.mono _ _ _ _ (g4.cut A.dz) g4 (wk.mono _ _ _ _ (g3.cut A.dz) g3 hB')
        cases b with
        | false => exact ⟨hlt, C4, gg, hB4, hb⟩
        | true =>
          refine ⟨dl, Z, O, r2, A5, (calm_wp hb.bind).mono (fun es hes J2 B2 H5 g5 k5 wk2 hB2 => ?_) fun e he => he⟩
          refine ⟨fun j v e => wipe_base hwip hvs j v e, ?_⟩
          have hes2 : Wp (if es.length ≤ 16777216 then (sumG gd2 tt2 te (wipeL r2 vs2) acc es >>= fun b => outer b (i + 1)) else R.stuck) post err := hes
          split at hes2
          case isFalse => exact hes2.elim
          rename_i hle
          refine ⟨hlt, C4.grow g5 k5, gg.trans g5, wk.mono _ _ _ _ (g5.cut A.dz) g5 hB4, ?_, wipe_wipe vs2, wipeL r2 vs2, es, B2, Nat.zero_le _, hle, wk2, hB2, (A5.grow g5 k5).wipe vs2, by rw [List.drop_zero]; exact hes2.bind⟩
          rw [← hwip]
          exact wipe_same (wipe_length _ _) fun j hj => wipe_keep fun z => hj (hvs j z)
    · have e : i = ds.length := by omega
      subst e
      have hw : Wp (sumG2 gd1 tt1 fi2 gd2 tt2 te vs2 (wipeL r vs) acc (ds.drop ds.length)) post err := hw
      rw [List.drop_length] at hw
      exact .inl ⟨wk.stop _ _ H' hB' (Nat.le_refl _), hw (.int acc) H' gH A'.gl.drop (by unfold Rep; rfl)⟩
  · rintro acc i J2 σ2 j H' hlen ⟨hi', A', gH, hB', hσ, hσ2, r1, es, B2, hj, hle, wk2, hB2, D', hw⟩
    by_cases hlt : j < es.length
    · have hdrop : es.drop j = es[j] :: es.drop (j + 1) := List.drop_eq_getElem_cons hlt
      rw [hdrop] at hw
      refine .inr ⟨by omega, wk2.go j Z H' hB2 hlt, fun v H3 hy => ?_⟩
      obtain ⟨g3, k3, rp⟩ := wk2.yld j Z O r1 σ2 H' v H3 D' hB2 hy es[j] (by simp)
      have A3 := A'.grow g3 (k3 _ A'.gl)
      have D3 := D'.grow g3 (k3 _ D'.gl)
      unfold sumG at hw
      cases hgd : gd2 es[j] r1 with
      | none => rw [hgd] at hw; exact hw.elim
      | some r2 =>
        rw [hgd] at hw
        refine ⟨dl, Z, O, r1, es[j], D3, rp, r2, hgd, fun sg3 hl3 hs3 A4 => ⟨?_, ?_, ?_⟩⟩
        · exact (wipe_same hl3 fun k hk => hs3 k fun z => hk (hsub2 k z)).trans hσ2
        · exact (wipe_same hl3 fun k hk => hs3 k fun z => hk (hvs k (hsub2 k z))).trans hσ
        refine ⟨dl, Z, O, r2, A4, (calm_wp hw.bind).mono (fun b hb H4 g4 k4 => ?_) fun e he => he⟩
        have A5 := A4.grow g4 k4
        have C4 : At (G.sub (c', P2, q_)) dl Z O r sg H4 := A3.grow g4 k4
        have D4 : At (G.sub (c', P2, q_)) dl Z O r1 σ2 H4 := D3.grow g4 k4
        have gg : Grow dl H H4 := (gH.trans g3).trans g4
        have hB4 : B Z H4 := wk.mono _ _ _ _ (g4.cut A.dz) g4 (wk.mono _ _ _ _ (g3.cut A.dz) g3 hB')
        have hB24 : B2 Z H4 := wk2.mono _ _ _ _ (g4.cut A.dz) g4 (wk2.mono _ _ _ _ (g3.cut A.dz) g3 hB2)
        cases b with
        | false => exact ⟨hi', C4, gg, hB4, hσ, hσ2, r1, es, B2, hlt, hle, wk2, hB24, D4, hb⟩
        | true =>
          refine ⟨dl, Z, O, r2, A5, (calm_wp hb.bind).mono (fun y hy2 w H5 g5 k5 rp5 => ?_) fun e he => he⟩
          have C5 : At (G.sub (c', P2, q_)) dl Z O r sg H5 := C4.grow g5 k5
          have D5 : At (G.sub (c', P2, q_)) dl Z O r1 σ2 H5 := D4.grow g5 k5
          have hB5 : B Z H5 := wk.mono _ _ _ _ (g5.cut A.dz) g5 hB4
          have hB25 : B2 Z H5 := wk2.mono _ _ _ _ (g5.cut A.dz) g5 hB24
          cases y with
          | int z =>
            unfold Rep at rp5
            have hy3 : Wp (if smallI z ∧ smallI (acc + z) then sumG gd2 tt2 te r1 (acc + z) (es.drop (j + 1)) else R.stuck) (fun b => Wp (outer b i) post err) err := hy2
            split at hy3
            · rename_i hsm
              exact ⟨z, rp5, hsm.1.long, hsm.2.long, hi', C5, gg.trans g5, hB5, hσ, hσ2, r1, es, B2, hlt, hle, wk2, hB25, D5, hy3⟩
            · exact hy3.elim
          | _ => exact hy2.elim
    · have e : j = es.length := by omega
      subst e
      rw [List.drop_length] at hw
      have hw2 : Wp (outer acc i) post err := hw
      exact .inl ⟨wk2.stop _ _ H' hB2 (Nat.le_refl _), hi', A', gH, hB', hw2⟩
theorem de_sum2 {c P : Addr} {elt : Expr} {ifs ifs1 : List Expr} {scope : Scope} {gpos p pos : Pos} {own : List (Str × Nat)} {k : Nat}
    (hr : Room (k + 1) X.A) (hgl : Gl X "sum") (hm : X.mg "sum" = none) (M : Mkr X G c P) (hN : X.N.Nodup)
    (hi : DIe X G W tg iter fi) (ok : BlkOk X.N X.env.scope scope own) (gk : GenOk scope)
    (hg1 : GenC X G k scope fun Y G => DG Y G tg gd1 is) (ht1 : GenC X G k scope fun Y G => DTs Y G W0 ifs tt1) (hi2 : GenC X G k scope fun Y G => DIe Y G W0 t1 i1 fi2)
    (hg2 : GenC X G k scope fun Y G => DG Y G t1 gd2 is2) (ht2 : GenC X G k scope fun Y G => DTs Y G W0 ifs1 tt2) (he : GenC X G k scope fun Y G => DE Y G W0 elt te)
    (hsub : ∀ j ∈ is, j ∈ own.map (·.2)) (hsub2 : ∀ j ∈ is2, j ∈ vs2) (hvs : ∀ j ∈ vs2, j ∈ own.map (·.2)) (hkd : G.kd gpos.line gpos.col = false := by rfl) (hs : ∀ v, genFold iter X.env v = pure v := by intro _; rfl) (hs2 : ∀ (e : Env) v, foldedSetIterable i1 e v = pure v := by intro _ _; rfl) (hb : bootBuiltins "sum" = some (.builtin "sum") := by rfl)
    (hse : starEach [ge2 elt tg iter ifs t1 i1 ifs1 scope gpos] X.env = (false, eval (ge2 elt tg iter ifs t1 i1 ifs1 scope gpos) X.env) :: starEach [] X.env := by rfl) :
    DE X G W (.Call (.Name "sum" p) [.GeneratorExp elt [⟨tg, iter, ifs, 0⟩, ⟨t1, i1, ifs1, 0⟩] scope gpos] [] pos) (sumE2 fi gd1 tt1 fi2 gd2 tt2 te (own.map (·.2)) vs2) :=
  PE_imp (pe_sumE2 (fun y v σ H Q Q' h ⟨dl, Z, O, r, d, A, rp, r', hr', q⟩ => ⟨dl, Z, O, r, d, A, rp, r', hr', fun sg' h1 h2 h3 => h _ _ (q sg' h1 h2 h3)⟩) (fun y σ H Q Q' h ⟨dl, Z, O, r, A, q⟩ => ⟨dl, Z, O, r, A, q.thn fun b q H' g k => h _ _ (q H' g k)⟩) (fun y σ H Q Q' h ⟨dl, Z, O, r, A, q⟩ => ⟨dl, Z, O, r, A, q.thn fun ds z J B H' g k w b => h _ _ (z J B H' g k w b)⟩) (fun y v σ H Q Q' h ⟨dl, Z, O, r, d, A, rp, r', hr', q⟩ => ⟨dl, Z, O, r, d, A, rp, r', hr', fun sg' h1 h2 h3 => h _ _ (q sg' h1 h2 h3)⟩) (fun y σ H Q Q' h ⟨dl, Z, O, r, A, q⟩ => ⟨dl, Z, O, r, A, q.thn fun b q H' g k => h _ _ (q H' g k)⟩) (fun y σ H Q Q' h ⟨dl, Z, O, r, A, q⟩ => ⟨dl, Z, O, r, A, q.thn fun d q v H' g k rp => h _ _ (q v H' g k rp)⟩) hr hgl hm hb M hkd hN hi ok gk (GenC.mk hg1 M) (GenC.mk ht1 M) (GenC.mk hi2 M) (GenC.mk hg2 M) (GenC.mk ht2 M) (GenC.mk he M) hs hs2 hse) fun sg H Q h => sum_core2_d _ hsub hsub2 hvs h
end
end DL
set_option Elab.async false
set_option linter.all false
set_option maxRecDepth 100000
set_option maxHeartbeats 1000000
namespace DL
open PySem L2 PySem.Spec PyProof.Rows
end DL
set_option Elab.async false
set_option linter.all false
set_option maxRecDepth 100000
set_option maxHeartbeats 2000000
namespace DL
open PySem L2 PySem.Spec PyProof.Rows
/-- two own things at once -/
def par2qS (i j : Nat) (f g : LE → R Cell) : LE → R Out := fun r => (f r >>= okK).onS r fun a => match a with
  | .own d => (g r >>= okK).onS r fun b => match b with
    | .own e => .ok (.nx ((r.set i (.own d)).set j (.own e)))
    | _ => .stuck
  | _ => .stuck
section
variable {X : Cx} {G : Gm} {W : WX} {a b : Expr} {fk gk : LE → R Cell} {pos : Pos} {x y : Str}
theorem ds_asg2q (i j : Nat) (hG : G.K = X.K) (hc : X.calm = true) (hN : X.N.Nodup) {px py pt pt2 : Pos} {kt k2 : Nat} (hti : i ≠ 1000000) (htj : j ≠ 1000000) (ha : DK X G W a fk) (hb : DK X G W b gk)
    (hi : X.N[i]? = some x := by rfl) (hj : X.N[j]? = some y := by rfl)
    (hx : Loc X.env.scope x := by first | exact Or.inl rfl | exact Or.inr rfl) (hy : Loc X.env.scope y := by first | exact Or.inl rfl | exact Or.inr rfl)
    (fx : X.fn x = true ∨ X.env.scope.names.lookup x = some .local := by first | exact .inl rfl | exact .inr rfl) (fy : X.fn y = true ∨ X.env.scope.names.lookup y = some .local := by first | exact .inl rfl | exact .inr rfl)
    (hs : swapsWithSole [.Tuple [.Name x px, .Name y py] kt pt] (.Tuple [a, b] k2 pt2) pos.line X.env = pure false := by rfl) (hw : swappedStores [.Tuple [.Name x px, .Name y py] kt pt] (.Tuple [a, b] k2 pt2) X.env = pure none := by rfl)
    (h1 : (assignEach [.Tuple [.Name x px, .Name y py] kt pt] X.env).map (·.2) = [assign (.Tuple [.Name x px, .Name y py] kt pt) X.env] := by rfl)
    (hn : (assignEach [.Name x px, .Name y py] X.env).length = 2 := by rfl) (hst : (assignEach [.Name x px, .Name y py] X.env).findIdx? (·.1) = none := by rfl)
    (t1 : (assignEach [.Name x px, .Name y py] X.env).map (·.2) = assign (.Name x px) X.env :: (assignEach [.Name y py] X.env).map (·.2) := by rfl)
    (t2 : (assignEach [.Name y py] X.env).map (·.2) = assign (.Name y py) X.env :: (assignEach [] X.env).map (·.2) := by rfl)
    (s1 : starEach [a, b] X.env = (false, eval a X.env) :: starEach [b] X.env := by rfl) (s2 : starEach [b] X.env = (false, eval b X.env) :: starEach [] X.env := by rfl) :
    DS X G W (.Assign [.Tuple [.Name x px, .Name y py] kt pt] (.Tuple [a, b] k2 pt2) pos) (par2qS i j fk gk) :=
  PS_imp (ps_asg (pe_tup (pa_cons ha (pa_cons hb pa_nil s2) s1)) (pg_tup hc (pgs_cons (pg_name hN hi hx fx) (pgs_cons (pg_name hN hj hy fy) pgs_nil t2) t1) hn hst) hs hw h1) fun De sg H ⟨dl, Z, O, r, A, q⟩ => by
  have sub : ∀ {Hx : Hp} {p : Addr}, GrowS (cut Hx (p :: Z)) (cut Hx Z) := cut_sub fun a ha => List.mem_cons_of_mem _ ha
  refine ⟨dl, Z, O, r, A, (onS_wp q).bind.mono (fun c1 q1 => ?_) fun e he => spost_ex A he⟩
  cases c1 with
  | un => exact q1.elim
  | val d1 => exact q1.elim
  | own d1 =>
    intro p o H1 g1 k1 hp ow hk
    obtain ⟨_, ho, nt⟩ := ow.notTbl
    cases ho
    have A1 := A.grow g1 k1
    have B1 := A1.aside hp nt
    have B2 := A1.set_own i hp ow (hk i hti)
    have hs1 : Stp dl Z O H (p :: Z) ((i, p) :: O) (upd H1 p o) := Stp.trans A (Stp.of_grow g1 k1) (Stp.new A1 hp hti)
    refine ⟨dl, p :: Z, O, r, B1, (onS_wp q1).bind.mono (fun c2 q2 => ?_) fun e he cls dx H2 g2 k2 xr => ?_⟩
    · cases c2 with
      | un => exact q2.elim
      | val d2 => exact q2.elim
      | own d2 =>
        intro p2 o2 H2 g2 k2 hp2 ow2 hk2
        obtain ⟨_, ho2, nt2⟩ := ow2.notTbl
        cases ho2
        have B3 := B2.grow g2 k2
        have B4 := B3.set_own j hp2 ow2 (hk2 j htj)
        have hs2 : Stp dl (p :: Z) ((i, p) :: O) (upd H1 p o) (p2 :: p :: Z) ((j, p2) :: (i, p) :: O) (upd H2 p2 o2) := Stp.trans B2 (Stp.of_grow g2 k2) (Stp.new B3 hp2 htj)
        refine ⟨by rw [sizeLine_eq]; show 2 ≤ 16777216; decide, fun t ht => ⟨t, [.ref p, .ref p2], rfl, .inl (.inl upd_same), rfl, .ref p, [.ref p2], rfl, .ref p2, [], rfl, rfl, ?_⟩⟩
        have g4 : Grow dl (upd H2 p2 o2) (upd (upd H2 p2 o2) t (.tup [.ref p, .ref p2])) := .new ht
        have k4 := B4.gl.new (o := .tup [.ref p, .ref p2]) ht
        exact q2 _ _ _ _ (Stp.trans A hs1 (Stp.trans B2 hs2 (Stp.of_grow g4 k4))) (B4.grow g4 k4)
    · exact spost_ex A he cls dx H2 ((g1.trans (.new hp)).trans g2) k2 (xr.mono sub)
end
end DL
set_option Elab.async false
set_option linter.all false
set_option maxRecDepth 100000
set_option maxHeartbeats 1000000
namespace DL
open PySem L2 PySem.Spec PyProof.Rows PySem.W
def rSortT (K : PySem.W.Frag) : List V → Hp → VK → Prop := fun vs H Q => ∃ (a : Addr) (us : List V) (xs : List PyData), vs = [.ref a] ∧ SqT K H a us ∧ DpAll K H us xs ∧ AllAlike xs ∧ Sortable xs ∧ (∀ d ∈ xs, d.depth ≤ 50) ∧ us.length ≤ sizeLine ∧
  ∀ p, H p = none → Q (.ref p) (upd H p (.lst (((us.zip xs).mergeSort (dataLe false fun p => p.2)).map (·.1))))
section
variable {X : Cx}
theorem cr_sortT (hu : X.A.units + 70 < cLine) : CallR X (.builtin "sorted") (rSortT X.K) := by
  intro pins s σ H vs us0 Q I0 r ⟨l, us, xs, ev, hs, hdp, ha, hk, hd, hz, q⟩
  subst ev
  rw [Vals.ref1 r]
  obtain ⟨its, rv, pl, _⟩ := I0.tuple hs
  obtain ⟨as, hr⟩ := Dp.readsAll I0 xs us its hdp rv
  have hl := DL.DpAll.length hdp
  have hm : (us.zip xs).map (fun p : V × PyData => p.2) = xs := List.map_snd_zip (by omega)
  have e := each_vals rv hl
  have er := readsAll_each (h := s.heap) (fun p : V × PyData => p.2) (vs := its) (bs := us.zip xs) (as := as) (by rw [hm]; exact hr)
  have hlz : (us.zip xs).length = us.length := by rw [List.length_zip]; omega
  have hub : ∀ y, y ∈ us.zip xs → X.A.in1.in1.units + (y.2).depth < cLine := fun y hy => by
    have := hd y.2 (by rw [← hm]; exact List.mem_map.mpr ⟨y, hy, rfl⟩)
    show X.A.units + 1 + 1 + _ < _
    omega
  refine call_function_entry_kw kind_sorted plain_sorted entry_sorted (args_sorted1 _) ?_
  unfold Builtin.«sorted»
  refine wpAny_bind (m := checkCount "sorted" 1 1 _) (wpAny_pure ?_)
  obtain ⟨o, ho, hc, nn, hdat⟩ := pl
  refine wpAny_bind (wpAny_collect_seq l (.inr rfl) ho hc hdat (fun h1 k1 => ?_) (by rw [List.size_toArray, ← rv.length]; exact hz))
  have len : us.length = its.length := rv.length
  have I1 : Inv X pins σ H { s with heap := h1 } := I0.kept (t' := s.toks) k1
  refine wpAny_bind (wpAny_newList ?_ (by show its.length ≤ _; rw [← len]; exact hz))
  have hoL : (h1.push (seqObj "list" its.toArray 0)).get? h1.objs.size = some (seqObj "list" its.toArray 0) := Heap.get?_push_size _ rfl
  have kp : ∀ b ob, s.heap.get? b = some ob → (sortingHeap (h1.push (seqObj "list" its.toArray 0)) h1.objs.size its).get? b = some ob := fun b ob q => by
    have q1 := k1 b ob q
    exact sortingHeap_old (Nat.ne_of_lt (Heap.lt_size q1)) (Heap.get?_push_of_some _ q1)
  have er' : EachIs (fun v (b : V × PyData) => ∃ as, Reads (sortingHeap (h1.push (seqObj "list" its.toArray 0)) h1.objs.size its) v b.2 as) its (us.zip xs) := er.mono fun _ _ ⟨as, r⟩ => ⟨as, PyProof.Rows.Reads.keeps (fun b ob q => kp b ob q) r⟩
  refine wpAny_bind (wpAny_holding (wpAny_call_entry_kw slot_list_sort ⟨_, hoL, rfl⟩ entry_list_sort ?body (args_list_sort _)))
  case body =>
    refine list_sort_vals (κ := dataKind (sortingHeap (h1.push (seqObj "list" its.toArray 0)) h1.objs.size its) ((us.zip xs).map fun p => p.2)) hoL
      (SortsAt.data (s := { s with heap := sortingHeap (h1.push (seqObj "list" its.toArray 0)) h1.objs.size its }) (each_map (R := fun v d => ∃ as, Reads (sortingHeap (h1.push (seqObj "list" its.toArray 0)) h1.objs.size its) v d as) (fun p : V × PyData => p.2) er') (by rw [hm]; exact ha) (by rw [hm]; exact hk) (bound_map hub)) (by rw [← len]; exact hz) ⟨_, rfl, ?_⟩
    have eo := sortVals_data false e er' (by rw [hm]; exact ha)
    have ho2 : (sortVals (dataKind (sortingHeap (h1.push (seqObj "list" its.toArray 0)) h1.objs.size its) ((us.zip xs).map fun p => p.2)) false its its).length = us.length := by
      rw [sortVals_length false rfl, ← len]
    obtain ⟨ep, he'⟩ := PyProof.Rows.sortedHeap_at (vs := its) (out := (sortVals (dataKind (sortingHeap (h1.push (seqObj "list" its.toArray 0)) h1.objs.size its) ((us.zip xs).map fun p => p.2)) false its its).toArray) hoL
    have hlen : (((us.zip xs).mergeSort (dataLe false fun p => p.2)).map (·.1)).length ≤ sizeLine := by
      rw [List.length_map, List.length_mergeSort, hlz]; exact hz
    refine wpAny_pure ⟨_, rfl, .ref h1.objs.size, upd H h1.objs.size (.lst (((us.zip xs).mergeSort (dataLe false fun p => p.2)).map (·.1))), I1.laid (t' := s.toks) (fun b u e => ?_) (Nat.le_refl _) ⟨hlen, _, ep, vals_each eo, he'⟩, rfl, q _ (I1.hok.fresh (Nat.le_refl _))⟩
    have hb : b < h1.objs.size := Heap.lt_size e
    rw [PyProof.Rows.sortedHeap_old (Nat.ne_of_lt hb) (by rw [size_push']; exact Nat.lt_succ_of_lt hb)]
    exact Heap.get?_push_of_some _ e
end
def sortedZ : List D → R (List D)
  | [.tup xs] => sortGD xs
  | ds => sortedY ds
section
variable {X : Cx} {G : Gm}
theorem cf_sortedZ (hG : G.K = X.K) (hc : X.calm = true) (hu : X.A.units + 70 < cLine) : CallF X G (.builtin "sorted") sortedZ := by
  obtain ⟨rr, h1, h2⟩ := cf_sortedY hG hc hu
  refine ⟨_, CallR.or_ h1 (cr_sortT hu), fun dl Z O r sg ds vs H Q E A rl h => ?_⟩
  unfold sortedZ at h
  split at h
  · rename_i xs
    obtain ⟨v, rfl, rp⟩ := rl.one
    obtain ⟨a, us, rfl, e, rl'⟩ := rp.tup
    unfold sortGD at h
    split at h
    case isFalse => exact h.elim
    rename_i hal
    simp only [Bool.and_eq_true, decide_eq_true_eq] at hal
    obtain ⟨⟨hal, hsr⟩, hz⟩ := hal
    have hs := alis_sh hal
    have hdp := RepL.dp (cut_grow H Z) xs 50 (shs_of hs) rl'
    rw [hG] at hdp
    exact .inr ⟨a, us, D.toPs xs, rfl, hG ▸ e, hdp, alis_all hal, srtb_ok hal hsr, alis_dep hal, by rw [rl'.length, sizeLine_eq]; exact hz, fun p hp => h p _ H (.refl _ _) A.gl hp (sortK_rep rl' rfl)⟩
  · exact .inl (h2 dl Z O r sg ds vs H Q E A rl h)
end
end DL
set_option Elab.async false
set_option linter.all false
set_option maxRecDepth 100000
set_option maxHeartbeats 1000000
namespace DL
open PySem L2 PySem.Spec PyProof.Rows
section
variable {prog : Program} {w : World} {A : Around} {E : Value → Shared → Prop} {s : Shared} {l : Addr}
theorem sum_intTup {xs : Array (Int × Tok)} {Q : Value → Shared → Prop} (hh : A.handled = none) (hl : s.heap.IsTuple l (intItems xs))
    (h : ∀ h' tk t', (∀ b o, s.heap.get? b = some o → h'.get? b = some o) → Q (.int (preSum (numAt xs) xs.size) t') { s with heap := h', toks := tk }) :
    wpAny (model prog w) A (call (.builtin "sum") [.ref l]) Q E s := by
  have hlt : l < s.heap.objs.size := by
    obtain ⟨o, e, _⟩ := id hl
    exact Heap.lt_size e
  refine call_sum_walkG (wpAny_pyIter_tuple hl ?_)
  refine ⟨_, _, _, _, _, _, numAt xs, rfl, Walks.tuple (A := A.in1) hh s.heap.objs.size l (Nat.ne_of_lt hlt) (intItems xs), ⟨⟨_, Heap.get?_push_size _ rfl, rfl, rfl⟩, ?_⟩, fun b hb => ?_, (fun _ _ => intItems_at), fun h' tk t' hk => ?_⟩
  · obtain ⟨o, e, c⟩ := id hl
    exact ⟨o, Heap.get?_push_of_some _ e, c⟩
  · show b < (s.heap.push _).objs.size
    rw [Heap.size_push]
    simp only [List.mem_cons, List.not_mem_nil, or_false] at hb
    rcases hb with rfl | rfl
    · exact Nat.lt_succ_self _
    · exact Nat.lt_succ_of_lt hlt
  · have := h h' tk t' fun b o e => hk b o (fun hm => by
      have : b = s.heap.objs.size := by simpa using hm
      exact absurd (Heap.lt_size e) (by rw [this]; exact Nat.lt_irrefl _)) (Heap.get?_push_of_some _ e)
    simpa [intItems] using this
theorem sum_rawT {its : List Value} {ns : List Int} {Q : Value → Shared → Prop} (hh : A.handled = none) (hl : s.heap.IsTuple l its.toArray) (hi : IntsAre its ns)
    (h : ∀ h' tk t', (∀ b o, s.heap.get? b = some o → h'.get? b = some o) → Q (.int ns.sum t') { s with heap := h', toks := tk }) : wpAny (model prog w) A (call (.builtin "sum") [.ref l]) Q E s := by
  obtain ⟨xs, e⟩ := hi.allInts.items
  have hn : numsOf (intItems xs).toList = ns := by rw [← e]; exact hi.numsOf
  rw [nums_intItems] at hn
  rw [e] at hl
  refine sum_intTup hh hl fun h' tk t' hk => ?_
  have := h h' tk t' hk
  rw [preSum_eq, List.take_of_length_le (by simp), hn]; exact this
end
def sumT : List D → R D
  | [.tup ds] => match ints? ds with
    | some is => .ok (.int is.sum)
    | none => .stuck
  | ds => sumD ds
section
variable {X : Cx} {G : Gm}
theorem cr_sumT (hc : X.calm = true) : CallR X (.builtin "sum") (fun vs H Q => ∃ (a : Addr) (ns : List Int), vs = [V.ref a] ∧ SqT X.K H a (ns.map V.int) ∧ Q (.int ns.sum) H) := by
  intro pins s σ H vs us Q I r ⟨a, ns, ev, hs, q⟩
  subst ev
  obtain ⟨its, rv, hl, _⟩ := I.tuple hs
  rw [Vals.ref1 r]
  exact sum_rawT (I.ok.hd hc) (show s.heap.IsTuple a its.toArray from hl) rv.ints fun h' tk t' hk => ⟨.int _, H, I.kept hk, ⟨_, rfl⟩, q⟩
theorem cd_sumT (hG : G.K = X.K) (hc : X.calm = true) : CallD X G (.builtin "sum") sumT := by
  obtain ⟨rr, h1, h2⟩ := cd_sum hG hc
  refine ⟨_, CallR.or h1 (cr_sumT hc), fun dl Z O r sg ds vs H Q E A rl h => ?_⟩
  unfold sumT at h
  split at h
  · rename_i xs
    obtain ⟨v, rfl, rp⟩ := rl.one
    obtain ⟨a, us, rfl, e, rl'⟩ := rp.tup
    split at h
    · rename_i is his
      have := ints_eq his
      subst this
      have := rl'.are_ints
      subst this
      exact .inr ⟨a, is, rfl, hG ▸ e, h _ H (.refl _ _) A.gl Rep.int_⟩
    · exact h.elim
  · exact .inl (h2 dl Z O r sg ds vs H Q E A rl h)
end
end DL
set_option Elab.async false
set_option linter.all false
set_option maxRecDepth 100000
set_option maxHeartbeats 1000000
namespace L2
open PySem PySem.Spec PyProof.Rows
end L2
namespace DL
open PySem L2 PySem.Spec PyProof.Rows
theorem RepL.flat {G : Gm} {dl : Addr} {S : Hp} {ds : List D} {us : List V} (h : RepL G dl S ds us) : ∀ n : Nat, RepL G dl S (List.replicate n ds).flatten (List.replicate n us).flatten
  | 0 => RepL.nil
  | n + 1 => by
    rw [List.replicate_succ, List.flatten_cons, List.replicate_succ, List.flatten_cons]
    exact h.append (RepL.flat h n)
end DL
set_option Elab.async false
set_option linter.all false
set_option maxRecDepth 100000
set_option maxHeartbeats 1000000
namespace DL
open PySem L2 LamX PySem.Spec PyProof.Rows PySem.W
end DL
set_option Elab.async false
set_option linter.all false
set_option maxRecDepth 100000
set_option maxHeartbeats 1000000
namespace DL
open PySem L2 PySem.Spec PyProof.Rows
section
variable {X : Cx} {G : Gm} {W : WX} {e : Expr} {te : TE} {f : LE → R D} {p pos apos cpos : Pos}
theorem RepL.app {dl : Addr} {S : Hp} : ∀ {ds es : List D} {us ws : List V}, RepL G dl S ds us → RepL G dl S es ws → RepL G dl S (ds ++ es) (us ++ ws)
  | [], es, us, ws, h, k => by unfold RepL at h; subst h; exact k
  | d :: ds, es, us, ws, h, k => by
    unfold RepL at h
    obtain ⟨v, r, rfl, h1, h2⟩ := h
    exact RepL.cons h1 (RepL.app h2 k)
end
end DL
set_option Elab.async false
set_option linter.all false
set_option maxRecDepth 100000
set_option maxHeartbeats 1000000
namespace DL
open PySem L2 PySem.Spec PyProof.Rows
section
variable {X : Cx} {G : Gm} {W : WX} {tg l e : Expr} {f : LE → R D} {p pos apos cpos : Pos}
def iAnyB (K : PySem.W.Frag) (tl : TE) : TI := fun σ H R => tl σ H fun x H1 => (∃ a, x = .ref a ∧ (((∃ xs, SqL K H1 a xs) ∧ R (Itl K a) H1) ∨ ((∃ xs, SqT K H1 a xs) ∧ R (Itt K a) H1) ∨ ∃ o kvs, H1 a = some (.frz o (.dK kvs)) ∧ R (Itk a o kvs) H1)) ∨ ∃ s : Str, x = .str s ∧ R (Its s) H1
theorem pi_anyB {tl : TE} (hl : PE X l tl) : PI X tg l (iAnyB X.K tl) := by
  refine ⟨fun pins s σ H R I h => ?_⟩
  refine thn (hl.run pins s σ H _ I h) fun v s1 ⟨x, H1, I1, r1, q1⟩ => ?_
  have hfp : ∀ b ∈ [s1.heap.objs.size], _ := fun b hb => by
    have e : b = s1.heap.objs.size := by simpa using hb
    subst e
    exact I1.fpOk (Nat.le_refl _) (I1.hok.fresh (Nat.le_refl _))
  rcases q1 with ⟨a, e, q⟩ | ⟨y, e, q⟩
  · subst e
    cases r1
    rcases q with ⟨⟨xs, hq⟩, q⟩ | ⟨⟨xs, hq⟩, q⟩ | ⟨o, kvs, hd, q⟩
    · obtain ⟨its, rv, p, hz⟩ := I1.list hq
      refine wpAny_pyIter_list p.isList ?_
      exact ⟨s1.heap.objs.size, [s1.heap.objs.size], _, _, H1, rfl, I1.kept (t' := s1.toks) fun b o e => Heap.get?_push_of_some _ e, turn_list a _, ⟨_, Heap.get?_push_size _ rfl, rfl, rfl⟩, hfp, q⟩
    · obtain ⟨its, rv, p, hz⟩ := I1.tuple hq
      refine wpAny_pyIter_tuple (show s1.heap.IsTuple a its.toArray from p) ?_
      exact ⟨s1.heap.objs.size, [s1.heap.objs.size], _, _, H1, rfl, I1.kept (t' := s1.toks) fun b o e => Heap.get?_push_of_some _ e, turn_tuple a _, ⟨_, Heap.get?_push_size _ rfl, rfl, rfl⟩, hfp, q⟩
    · obtain ⟨hs, hgd, hx, es, ep, vs, hdt, hsz, kv, hm⟩ := I1.frzK hd
      refine iter_keys hs hgd hx hdt (pi_one (tk := s1.toks) I1 _ (turn_keys _ hdt) ⟨_, Heap.get?_push_size _ rfl, rfl, ?_⟩ q)
      rw [hsz] <;> rfl
  · subst e
    obtain ⟨t, rfl⟩ := r1
    cases ha : y.cps.all (· < 128)
    · exact wpAny_pyIter_wide ha (pi_one (tk := s1.toks) I1 _ (turn_str _ y t "str_iterator" (.inr rfl)) ⟨_, Heap.get?_push_size _ rfl, rfl, rfl⟩ q)
    · exact wpAny_pyIter_ascii ha (pi_one (tk := s1.toks) I1 _ (turn_str _ y t "str_ascii_iterator" (.inl rfl)) ⟨_, Heap.get?_push_size _ rfl, rfl, rfl⟩ q)
def itemsB : D → R (List D)
  | .lst ds => .ok ds
  | .tup ds => .ok ds
  | .str s => strD (.str s)
  | .dic kvs => .ok (kvs.map (·.1))
  | _ => .stuck
def itB (f : LE → R D) : LE → R (List D) := fun r => f r >>= itemsB
theorem di_anyB (hG : G.K = X.K) (h : DE X G W l f) : DI X G W tg l (itB f) := PI_imp (pi_anyB h) fun sg H Q ⟨dl, Z, O, r, A, q⟩ => by
  refine ⟨dl, Z, O, r, A, q.bind.thn fun d hd v H1 g1 k1 rp => ?_⟩
  unfold itemsB at hd
  split at hd
  · unfold Rep at rp
    obtain ⟨a, vs, rfl, e, rl⟩ := rp
    refine .inl ⟨a, rfl, .inl ⟨⟨vs, SqL.of (cut_some e).2⟩, ?_⟩⟩
    rw [← hG]
    exact hd _ _ H1 g1 k1 walk_list ⟨e, rl⟩
  · unfold Rep at rp
    obtain ⟨a, vs, rfl, e, rl⟩ := rp
    refine .inl ⟨a, rfl, .inr (.inl ⟨⟨vs, hG ▸ (cut_grow H1 Z).sqt (SqT.of e)⟩, ?_⟩)⟩
    rw [← hG]
    exact hd _ _ H1 g1 k1 walk_tup ⟨SqT.of e, rl⟩
  · unfold Rep at rp
    subst rp
    exact .inr ⟨_, rfl, hd _ _ H1 g1 k1 walk_str trivial⟩
  · unfold Rep at rp
    obtain ⟨a, o, kv, rfl, e, rk⟩ := rp
    exact .inl ⟨a, rfl, .inr (.inr ⟨o, kv, (cut_some e).2, hd _ _ H1 g1 k1 walk_keys ⟨e, rk⟩⟩)⟩
  · exact hd.elim
end
end DL
set_option Elab.async false
set_option linter.all false
set_option maxRecDepth 100000
set_option maxHeartbeats 1000000
namespace DL
open PySem L2 LamX PySem.Spec PyProof.Rows
end DL
set_option Elab.async false
set_option linter.all false
set_option maxRecDepth 100000
set_option maxHeartbeats 1000000
namespace DL
open PySem L2 PySem.Spec PyProof.Rows
def D.tkq : D → D → Bool
  | .tup a, .tup b => keqsD a b
  | _, _ => false
def putT (kvs : List (D × D)) (k d : D) : List (D × D) := if (kvs.any fun p => p.1.tkq k) = true then kvs.map (fun p => if p.1.tkq k then (p.1, d) else p) else kvs ++ [(k, d)]
theorem keysK_cons {d : D} {ds : List D} {ks : List Key} (h : keysK (d :: ds) = some ks) : ∃ k r, ks = k :: r ∧ d.key = some k ∧ keysK ds = some r := by
  unfold keysK at h
  split at h
  · rename_i k r e1 e2
    cases h
    exact ⟨k, r, rfl, e1, e2⟩
  · cases h
theorem keqsK : ∀ {a b : List D} {x y : List Key}, keysK a = some x → keysK b = some y → keqsD a b = decide (x = y)
  | [], [], x, y, h1, h2 => by cases h1; cases h2; rfl
  | [], d :: b, x, y, h1, h2 => by
    cases h1
    obtain ⟨k, r, rfl, _, _⟩ := keysK_cons h2
    rfl
  | d :: a, [], x, y, h1, h2 => by
    cases h2
    obtain ⟨k, r, rfl, _, _⟩ := keysK_cons h1
    rfl
  | d :: a, e :: b, x, y, h1, h2 => by
    obtain ⟨k, r, rfl, q1, q2⟩ := keysK_cons h1
    obtain ⟨k', r', rfl, q3, q4⟩ := keysK_cons h2
    unfold keqsD
    rw [keq_key q1 q3, keqsK q2 q4, Bool.eq_iff_iff]
    simp
theorem tkey_tup {a : D} {x : List Key} (h : a.tkey = some x) : ∃ ds, a = .tup ds ∧ keysK ds = some x := by
  cases a <;> first | (cases h; done) | skip
  exact ⟨_, rfl, h⟩
theorem tkq_key {a b : D} {x y : List Key} (h1 : a.tkey = some x) (h2 : b.tkey = some y) : a.tkq b = decide (x = y) := by
  obtain ⟨ds, rfl, q1⟩ := tkey_tup h1
  obtain ⟨es, rfl, q2⟩ := tkey_tup h2
  exact keqsK q1 q2
section
variable {X : Cx} {G : Gm} {W : WX} {dl : Addr} {S H : Hp} {Z : List Addr} {v : V}
theorem tkey_inj {a b : D} {x y : List Key} (h1 : a.tkey = some x) (h2 : b.tkey = some y) : a.tkq b = true ↔ x = y := by
  rw [tkq_key h1 h2]; simp
theorem RepT.any : ∀ {kvs : List (D × D)} {kv : List (List Key × V)} {k : D} {x : List Key}, RepT G dl S kvs kv → k.tkey = some x → (kvs.any fun p => p.1.tkq k) = (kv.any fun p => decide (p.1 = x))
  | [], kv, k, x, h, hk => by unfold RepT at h; subst h; rfl
  | (k', d) :: kvs, kv, k, x, h, hk => by
    unfold RepT at h
    obtain ⟨y, v, r, rfl, hk', rp, h2⟩ := h
    rw [List.any_cons, List.any_cons, tkq_key hk' hk, RepT.any h2 hk]
theorem RepT.map : ∀ {kvs : List (D × D)} {kv : List (List Key × V)} {k d : D} {x : List Key} {v : V}, RepT G dl S kvs kv → k.tkey = some x → Rep G dl S d v →
    RepT G dl S (kvs.map fun p => if p.1.tkq k then (p.1, d) else p) (kv.map fun p => if p.1 = x then (p.1, v) else p)
  | [], kv, k, d, x, v, h, hk, rv => by unfold RepT at h; subst h; unfold RepT; rfl
  | (k', d') :: kvs, kv, k, d, x, v, h, hk, rv => by
    unfold RepT at h
    obtain ⟨y, u, r, rfl, hk', rp, h2⟩ := h
    have q := RepT.map (v := v) (d := d) h2 hk rv
    rw [List.map_cons, List.map_cons]
    by_cases e : y = x
    · rw [if_pos ((tkey_inj hk' hk).mpr e), if_pos e]
      unfold RepT
      exact ⟨y, v, _, rfl, hk', rv, q⟩
    · rw [if_neg fun z => e ((tkey_inj hk' hk).mp z), if_neg e]
      unfold RepT
      exact ⟨y, u, _, rfl, hk', rp, q⟩
theorem RepT.app : ∀ {kvs : List (D × D)} {kv : List (List Key × V)} {k d : D} {x : List Key} {v : V}, RepT G dl S kvs kv → k.tkey = some x → Rep G dl S d v → RepT G dl S (kvs ++ [(k, d)]) (kv ++ [(x, v)])
  | [], kv, k, d, x, v, h, hk, rv => by
    unfold RepT at h
    subst h
    unfold RepT
    exact ⟨x, v, [], rfl, hk, rv, by unfold RepT; rfl⟩
  | (k', d') :: kvs, kv, k, d, x, v, h, hk, rv => by
    unfold RepT at h
    obtain ⟨y, u, r, rfl, hk', rp, h2⟩ := h
    rw [List.cons_append]
    unfold RepT
    exact ⟨y, u, r ++ [(x, v)], rfl, hk', rp, RepT.app h2 hk rv⟩
theorem RepT.put {kvs : List (D × D)} {kv : List (List Key × V)} {k d : D} {x : List Key} {v : V} (h : RepT G dl S kvs kv) (hk : k.tkey = some x) (rv : Rep G dl S d v) : RepT G dl S (putT kvs k d) (putK kv x v) := by
  unfold putT putK
  rw [RepT.any h hk]
  by_cases c : (kv.any fun p => decide (p.1 = x)) = true
  · rw [if_pos c, if_pos c]
    exact h.map hk rv
  · rw [if_neg c, if_neg c]
    exact h.app hk rv
theorem RepT.length : ∀ {kvs : List (D × D)} {kv : List (List Key × V)}, RepT G dl S kvs kv → kv.length = kvs.length
  | [], kv, h => by unfold RepT at h; subst h; rfl
  | (k', d') :: kvs, kv, h => by
    unfold RepT at h
    obtain ⟨y, u, r, rfl, _, _, h2⟩ := h
    rw [List.length_cons, List.length_cons, RepT.length h2]
theorem RepP.tdic {kvs : List (D × D)} (h : RepP G dl H Z (.tdic kvs) v) : ∃ a kv, v = .ref a ∧ Rd H a (.dT kv) ∧ RepT G dl (cut H Z) kvs kv := by
  rcases h with h | ⟨a, e, hz, hd, q⟩
  · unfold Rep at h
    obtain ⟨a, o, kv, e, q, rl⟩ := h
    exact ⟨a, kv, e, .inr ⟨o, cut_grow H Z a _ q fun ps z => by cases z⟩, rl⟩
  · obtain ⟨kv, e2, rl⟩ := q
    exact ⟨a, kv, e, .inl e2, rl⟩
end
end DL
set_option Elab.async false
set_option linter.all false
set_option maxRecDepth 100000
set_option maxHeartbeats 1000000
namespace DL
open PySem L2 PySem.Spec PyProof.Rows PySem.W
def rSortDT (K : PySem.W.Frag) : List V → Hp → VK → Prop := fun vs H Q => ∃ (d : Addr) (kvs : List (List Key × V)) (xs : List PyData), vs = [.ref d] ∧ Rd H d (.dT kvs) ∧ AllAlike xs ∧ Sortable xs ∧ (∀ d ∈ xs, d.depth ≤ 50) ∧
  ∀ bs, IsKeys H kvs bs → DpAll K H (bs.map V.ref) xs ∧ ∀ p, H p = none → Q (.ref p) (upd H p (.lst ((((bs.map V.ref).zip xs).mergeSort (dataLe false fun p => p.2)).map (·.1))))
section
variable {X : Cx}
theorem cr_sortDT (hc : X.calm = true) (hu : X.A.units + 70 < cLine) : CallR X (.builtin "sorted") (rSortDT X.K) := by
  intro pins s σ H vs us0 Q I0 r ⟨d, kvs, xs, ev, hd, ha, hk, hdep, q0⟩
  subst ev
  rw [Vals.ref1 r]
  obtain ⟨z, hs, ks, pr, o, es, ep, ho, hx, hdt, he, hn⟩ := (show ObjOk X.prog X.w H s.heap d (.dT kvs) from hd.ok I0.hok)
  have l1 : es.size = ks.length := size_of_entries he
  have l2 : kvs.length = ks.length := Paired.length pr
  obtain ⟨hdp, q⟩ := q0 _ (isKeys_of pr)
  have eus : (ks.map fun x => x.2.1).map V.ref = ks.map fun x => V.ref x.2.1 := by rw [List.map_map]; rfl
  have hz : ((ks.map fun x => x.2.1).map V.ref).length ≤ sizeLine := by rw [List.length_map, List.length_map]; omega
  generalize hus : (ks.map fun x => x.2.1).map V.ref = us at hdp q hz
  have rv0 : Vals us ((ks.map fun x => x.2.1).map Value.ref) := hus ▸ vals_refs _
  generalize hits : (ks.map fun x => x.2.1).map Value.ref = its at rv0
  have rv := rv0
  obtain ⟨as, hr⟩ := Dp.readsAll I0 xs us its hdp rv
  have hl := DL.DpAll.length hdp
  have hm : (us.zip xs).map (fun p : V × PyData => p.2) = xs := List.map_snd_zip (by omega)
  have e := each_vals rv hl
  have er := readsAll_each (h := s.heap) (fun p : V × PyData => p.2) (vs := its) (bs := us.zip xs) (as := as) (by rw [hm]; exact hr)
  have hlz : (us.zip xs).length = us.length := by rw [List.length_zip]; omega
  have hub : ∀ y, y ∈ us.zip xs → X.A.in1.in1.units + (y.2).depth < cLine := fun y hy => by
    have := hdep y.2 (by rw [← hm]; exact List.mem_map.mpr ⟨y, hy, rfl⟩)
    show X.A.units + 1 + 1 + _ < _
    omega
  refine call_function_entry_kw kind_sorted plain_sorted entry_sorted (args_sorted1 _) ?_
  unfold Builtin.«sorted»
  refine wpAny_bind (m := checkCount "sorted" 1 1 _) (wpAny_pure ?_)
  refine wpAny_bind (PySem.W.kdu_collect (A := X.A.in1) (kdl_raw hs hx hdt) (I0.ok.hd hc) ho (by omega) fun h1 tk acc k1 it => ?_)
  have ea : acc.toList = its := by
    have hl : acc.toList.length = ks.length := by rw [Array.length_toList, it.1]; exact l1
    rw [← hits, List.map_map]
    apply List.ext_getElem?
    intro j
    rw [List.getElem?_map]
    cases hj : acc.toList[j]? with
    | none =>
      have h1 := List.getElem?_eq_none_iff.mp hj
      rw [List.getElem?_eq_none (by omega)]
      all_goals rfl
    | some v =>
      obtain ⟨en, hen, hv⟩ := it.2 j v (by rw [← Array.getElem?_toList]; exact hj)
      have qe := entry_at he j
      rw [hen] at qe
      cases hb : ks[j]? with
      | none =>
        rw [hb] at qe
        exact nomatch (show some en = none from qe)
      | some b =>
        rw [hb] at qe
        have e2 : en = entryOfKey (tupleKind (mixKind X.prog X.w)) b := Option.some.inj qe
        rw [hv, e2]
        all_goals rfl
  rw [ea]
  have len : us.length = its.length := rv.length
  have I1 : Inv X pins σ H { s with heap := h1, toks := tk } := I0.kept (t' := tk) k1
  refine wpAny_bind (wpAny_newList ?_ (by show its.length ≤ _; rw [← len]; exact hz))
  have hoL : (h1.push (seqObj "list" its.toArray 0)).get? h1.objs.size = some (seqObj "list" its.toArray 0) := Heap.get?_push_size _ rfl
  have kp : ∀ b ob, s.heap.get? b = some ob → (sortingHeap (h1.push (seqObj "list" its.toArray 0)) h1.objs.size its).get? b = some ob := fun b ob q => by
    have q1 := k1 b ob q
    exact sortingHeap_old (Nat.ne_of_lt (Heap.lt_size q1)) (Heap.get?_push_of_some _ q1)
  have er' : EachIs (fun v (b : V × PyData) => ∃ as, Reads (sortingHeap (h1.push (seqObj "list" its.toArray 0)) h1.objs.size its) v b.2 as) its (us.zip xs) := er.mono fun _ _ ⟨as, r⟩ => ⟨as, PyProof.Rows.Reads.keeps (fun b ob q => kp b ob q) r⟩
  refine wpAny_bind (wpAny_holding (wpAny_call_entry_kw slot_list_sort ⟨_, hoL, rfl⟩ entry_list_sort ?body (args_list_sort _)))
  case body =>
    refine list_sort_vals (κ := dataKind (sortingHeap (h1.push (seqObj "list" its.toArray 0)) h1.objs.size its) ((us.zip xs).map fun p => p.2)) hoL
      (SortsAt.data (s := { s with heap := sortingHeap (h1.push (seqObj "list" its.toArray 0)) h1.objs.size its, toks := tk }) (each_map (R := fun v d => ∃ as, Reads (sortingHeap (h1.push (seqObj "list" its.toArray 0)) h1.objs.size its) v d as) (fun p : V × PyData => p.2) er') (by rw [hm]; exact ha) (by rw [hm]; exact hk) (bound_map hub)) (by rw [← len]; exact hz) ⟨_, rfl, ?_⟩
    have eo := sortVals_data false e er' (by rw [hm]; exact ha)
    have ho2 : (sortVals (dataKind (sortingHeap (h1.push (seqObj "list" its.toArray 0)) h1.objs.size its) ((us.zip xs).map fun p => p.2)) false its its).length = us.length := by
      rw [sortVals_length false rfl, ← len]
    obtain ⟨ep, he'⟩ := PyProof.Rows.sortedHeap_at (vs := its) (out := (sortVals (dataKind (sortingHeap (h1.push (seqObj "list" its.toArray 0)) h1.objs.size its) ((us.zip xs).map fun p => p.2)) false its its).toArray) hoL
    have hlen : (((us.zip xs).mergeSort (dataLe false fun p => p.2)).map (·.1)).length ≤ sizeLine := by
      rw [List.length_map, List.length_mergeSort, hlz]; exact hz
    refine wpAny_pure ⟨_, rfl, .ref h1.objs.size, upd H h1.objs.size (.lst (((us.zip xs).mergeSort (dataLe false fun p => p.2)).map (·.1))), I1.laid (t' := tk) (fun b u e => ?_) (Nat.le_refl _) ⟨hlen, _, ep, vals_each eo, he'⟩, rfl, q _ (I1.hok.fresh (Nat.le_refl _))⟩
    have hb : b < h1.objs.size := Heap.lt_size e
    rw [PyProof.Rows.sortedHeap_old (Nat.ne_of_lt hb) (by rw [size_push']; exact Nat.lt_succ_of_lt hb)]
    exact Heap.get?_push_of_some _ e
end
section
variable {X : Cx} {G : Gm} {dl : Addr} {S H : Hp} {Z : List Addr} {O : List (Nat × Addr)} {r : LE} {sg : L2.St}
theorem keysK_repL : ∀ {ds : List D} {x : List Key}, keysK ds = some x → RepL G dl S ds (x.map kV)
  | [], x, h => by cases h; exact RepL.nil
  | d :: ds, x, h => by
    obtain ⟨k, r, rfl, q1, q2⟩ := keysK_cons h
    refine RepL.cons ?_ (keysK_repL q2)
    cases d <;> simp [D.key] at q1 <;> subst q1 <;> unfold Rep <;> rfl
theorem tkey_in {k : D} {x : List Key} {b : Addr} (A : At G dl Z O r sg H) (h : k.tkey = some x) (e : H b = some (.tup (x.map kV))) : Rep G dl (cut H Z) k (.ref b) := by
  obtain ⟨ds, rfl, q⟩ := tkey_tup h
  unfold Rep
  refine ⟨b, _, rfl, ?_, keysK_repL q⟩
  rw [cut_out]
  · exact e
  · intro hz
    obtain ⟨o, e2, n⟩ := A.live b hz
    rw [e] at e2
    exact n.tu _ (Option.some.inj e2).symm
theorem tkeys_in (A : At G dl Z O r sg H) : ∀ {kvs : List (D × D)} {kv : List (List Key × V)} {bs : List Addr}, RepT G dl S kvs kv → IsKeys H kv bs → RepL G dl (cut H Z) (kvs.map (·.1)) (bs.map V.ref)
  | [], kv, bs, h, q => by
    unfold RepT at h
    subst h
    cases q
    exact RepL.nil
  | (k, d) :: kvs, kv, bs, h, q => by
    unfold RepT at h
    obtain ⟨x, v, t, rfl, h1, h2, h3⟩ := h
    cases q with
    | cons e t => exact RepL.cons (tkey_in A h1 e) (tkeys_in A h3 t)
end
def sortedT : List D → R (List D)
  | [.tdic kvs] => sortGD (kvs.map (·.1))
  | ds => sortedZ ds
section
variable {X : Cx} {G : Gm} {W : WX} {tg iter : Expr} {f : LE → R D}
theorem cf_sortedT (hG : G.K = X.K) (hc : X.calm = true) (hu : X.A.units + 70 < cLine) : CallF X G (.builtin "sorted") sortedT := by
  obtain ⟨rr, h1, h2⟩ := cf_sortedZ hG hc hu
  refine ⟨_, CallR.or_ h1 (cr_sortDT hc hu), fun dl Z O r sg ds vs H Q E A rl h => ?_⟩
  unfold sortedT at h
  split at h
  · rename_i kvs
    obtain ⟨v, rfl, rp⟩ := rl.one
    obtain ⟨a, kv, rfl, hrd, rk⟩ := rp.tdic
    unfold sortGD at h
    split at h
    case isFalse => exact h.elim
    rename_i hal
    simp only [Bool.and_eq_true, decide_eq_true_eq] at hal
    obtain ⟨⟨hal, hsr⟩, hz⟩ := hal
    have hs := alis_sh hal
    refine .inr ⟨a, kv, D.toPs (kvs.map (·.1)), rfl, hrd, alis_all hal, srtb_ok hal hsr, alis_dep hal, fun bs hb => ?_⟩
    have rl' := tkeys_in A rk hb
    have hdp := RepL.dp (cut_grow H Z) (kvs.map (·.1)) 50 (shs_of hs) rl'
    rw [hG] at hdp
    exact ⟨hdp, fun p hp => h p _ H (.refl _ _) A.gl hp (sortK_rep rl' rfl)⟩
  · exact .inl (h2 dl Z O r sg ds vs H Q E A rl h)
end
end DL
set_option Elab.async false
set_option linter.all false
set_option maxRecDepth 100000
set_option maxHeartbeats 1000000
namespace L2
open PySem PySem.Spec PyProof.Rows
end L2
namespace DL
open PySem L2 PySem.Spec PyProof.Rows
end DL
set_option Elab.async false
set_option linter.all false
set_option maxRecDepth 100000
set_option maxHeartbeats 1000000
namespace L2
open PySem PySem.Spec PyProof.Rows
end L2
namespace DL
open PySem L2 PySem.Spec PyProof.Rows
end DL
set_option Elab.async false
set_option linter.all false
set_option maxRecDepth 100000
set_option maxHeartbeats 1000000
namespace DL
open PySem L2 PySem.Spec PyProof.Rows
end DL
set_option Elab.async false
set_option linter.all false
set_option maxRecDepth 100000
set_option maxHeartbeats 1000000
namespace L2
open PySem PySem.Spec PyProof.Rows
end L2
namespace DL
open PySem L2 PySem.Spec PyProof.Rows
def listK : List D → R (List D)
  | [.ktup xs] => .ok xs
  | [.ctup xs] => .ok xs
  | ds => listX ds
theorem RepP.ctup {G : Gm} {dl : Addr} {H : Hp} {Z : List Addr} {v : V} {ds : List D} (h : RepP G dl H Z (.ctup ds) v) : ∃ a vs, v = .ref a ∧ SqT G.K H a vs ∧ RepL G dl (cut H Z) ds vs := by
  rcases h with h | ⟨a, e, hz, hd, q⟩
  · unfold Rep at h
    obtain ⟨a, vs, e, q, rl⟩ := h
    exact ⟨a, vs, e, (cut_grow H Z).sqt q, rl⟩
  · exact q.elim
theorem RepP.ktup {G : Gm} {dl : Addr} {H : Hp} {Z : List Addr} {v : V} {ds : List D} (h : RepP G dl H Z (.ktup ds) v) : ∃ a vs o, v = .ref a ∧ H a = some (.frz o (.tup vs)) ∧ o.cls = .type "tuple" ∧ o.dict = none ∧ RepL G dl (cut H Z) ds vs := by
  rcases h with h | ⟨a, e, hz, hd, q⟩
  · unfold Rep at h
    obtain ⟨a, vs, o, e, q, h1, h2, rl⟩ := h
    exact ⟨a, vs, o, e, (cut_some q).2, h1, h2, rl⟩
  · exact q.elim
section
variable {X : Cx} {G : Gm}
theorem cf_listK (hG : G.K = X.K) (hc : X.calm = true) : CallF X G (.type "list") listK := by
  obtain ⟨rr, h1, h2⟩ := cf_listX hG hc
  refine ⟨_, CallR.or_ call_list_of h1, fun dl Z O r sg ds vs H Q E A rl h => ?_⟩
  unfold listK at h
  split at h
  · obtain ⟨v, rfl, rp⟩ := rl.one
    obtain ⟨a, us, o, rfl, e, _, _, rl'⟩ := rp.ktup
    exact .inl ⟨a, us, rfl, .inr (.inl (.inr ⟨o, e⟩)), fun l hl => h l us H (.refl _ _) A.gl hl rl'⟩
  · obtain ⟨v, rfl, rp⟩ := rl.one
    obtain ⟨a, us, rfl, e, rl'⟩ := rp.ctup
    exact .inl ⟨a, us, rfl, .inr (hG ▸ e), fun l hl => h l us H (.refl _ _) A.gl hl rl'⟩
  · exact .inr (h2 dl Z O r sg ds vs H Q E A rl h)
end
end DL
set_option Elab.async false
set_option linter.all false
set_option maxRecDepth 100000
set_option maxHeartbeats 1000000
namespace L2
open PySem PySem.Spec PyProof.Rows
end L2
namespace DL
open PySem L2 PySem.Spec PyProof.Rows
end DL
set_option Elab.async false
set_option linter.all false
set_option maxRecDepth 100000
set_option maxHeartbeats 1000000
namespace DL
open PySem L2 PySem.Spec PyProof.Rows
end DL
set_option Elab.async false
set_option linter.all false
set_option maxRecDepth 100000
set_option maxHeartbeats 1000000
namespace DL
open PySem L2 PySem.Spec PyProof.Rows
end DL
set_option Elab.async false
set_option linter.all false
set_option maxRecDepth 100000
set_option maxHeartbeats 1000000
namespace DL
open PySem L2 PySem.Spec PyProof.Rows
def sgnP (c : Nat) : PyData := .str ⟨#[c]⟩
def rMinS : List V → Hp → VK → Prop := fun vs H Q => ∃ (c : Nat) (cs : List Nat), vs = [.str ⟨(c :: cs).toArray⟩] ∧ ∀ b, PySem.W.minD (sgnP c) (cs.map sgnP) = sgnP b → Q (.str ⟨#[b]⟩) H
theorem cr_minS {X : Cx} (hc : X.calm = true) (hu : X.A.units + 70 < cLine) : CallR X (.builtin "min") rMinS := by
  intro pins s sg H vs us Q I r ⟨c, cs, ev, q⟩
  subst ev
  obtain ⟨u, eu, ru⟩ := vals1 r
  subst eu
  obtain ⟨t, rfl⟩ := ru
  have hx : ∀ i : Nat, (⟨(c :: cs).toArray⟩ : Str).cps[i]? = (c :: cs)[i]? := fun i => by simp
  have hd : ∀ (i : Nat) v, SignAt ⟨(c :: cs).toArray⟩ i v → ∃ b u, (c :: cs)[i]? = some b ∧ v = .str ⟨#[b]⟩ u ∧ (sgnP c :: cs.map sgnP).getD i .none = sgnP b := fun i v h => by
    obtain ⟨b, u, h1, h2⟩ := h
    rw [hx] at h1
    refine ⟨b, u, h1, h2, ?_⟩
    rw [List.getD_eq_getElem?_getD, ← List.map_cons, List.getElem?_map, h1]
    rfl
  refine call_min_walkH (wpAny_pyIter_str fun o St W st => ?_)
  have hh : X.A.in1.handled = none := I.ok.hd hc
  have hn : (⟨(c :: cs).toArray⟩ : Str).cps.size = cs.length + 1 := by simp
  refine ⟨_, _, _, _, _, _, _, s.heap, fun i j => PySem.W.dataLt ((sgnP c :: cs.map sgnP).getD i .none) ((sgnP c :: cs.map sgnP).getD j .none), rfl, (W X.A.in1 hh).toS, st, fun b hb => ?_, by rw [hn]; omega, fun b ob e hb => ?_, fun b ob e => Heap.get?_push_of_some _ e, ?_, fun v s' hP m => ?_⟩
  · show b < (s.heap.push _).objs.size
    rw [Heap.size_push, List.mem_singleton.mp hb]
    exact Nat.lt_succ_self _
  · exact absurd (Heap.lt_size e) ((List.mem_singleton.mp hb) ▸ Nat.lt_irrefl _)
  · intro i j vi vj s1 Q E hk hi hj hq
    obtain ⟨a, u1, _, rfl, e1⟩ := hd i vi hi
    obtain ⟨b, u2, _, rfl, e2⟩ := hd j vj hj
    have hq' : Q (.bool (PySem.W.dataLt (sgnP a) (sgnP b))) s1 := by
      rw [← e1, ← e2]
      exact hq
    exact PySem.W.rcLt_alike (sgnP a) (sgnP b) X.A.in1 s1 _ _ [] [] (Reads.str _ _) (Reads.str _ _) (by unfold sgnP; simp only [PySem.W.alike]) (fun e => by cases e) (by show X.A.units + 1 + min 0 0 < cLine; omega) X.prog X.w E Q hq'
  · obtain ⟨h', tk, rfl, hk'⟩ := PySem.W.moved_old (s := s) rfl rfl m
    obtain ⟨b, u, _, rfl, e⟩ := hd _ v hP
    have e2 := (PySem.W.argBest_fold PySem.W.dataLt PyData.none (sgnP c) (cs.map sgnP) cs.length (by rw [List.length_map]; exact Nat.le_refl _)).2
    rw [hn, Nat.add_sub_cancel] at e
    rw [e, List.take_of_length_le (by rw [List.length_map]; exact Nat.le_refl _)] at e2
    exact ⟨.str ⟨#[b]⟩, H, I.kept (t' := tk) hk', ⟨u, rfl⟩, q b e2.symm⟩
def minS : List D → R D
  | [.str (c :: cs)] => .ok (least (.str [c]) (cs.map fun c => .str [c]))
  | ds => minL ds
theorem toPs_sgn : ∀ cs : List Nat, D.toPs (cs.map fun c => D.str [c]) = cs.map sgnP
  | [] => rfl
  | c :: cs => by
    show sgnP c :: D.toPs (cs.map fun c => D.str [c]) = _
    rw [toPs_sgn cs]
    rfl
theorem cd_minS {X : Cx} {G : Gm} (hG : G.K = X.K) (hc : X.calm = true) (hu : X.A.units + 70 < cLine) : CallD X G (.builtin "min") minS := by
  obtain ⟨rr, h1, h2⟩ := cd_min hG hc hu
  refine ⟨_, CallR.or h1 (cr_minS hc hu), fun dl Z O r sg ds vs H Q E A rl h => ?_⟩
  unfold minS at h
  split at h
  · rename_i c cs
    obtain ⟨v, rfl, rp⟩ := rl.one
    have e1 := rp.str
    subst e1
    refine .inr ⟨c, cs, rfl, fun b hb => ?_⟩
    obtain ⟨b', hb'⟩ : ∃ b', least (.str [c]) (cs.map fun c => D.str [c]) = .str [b'] := by
      have hm := least_mem (.str [c]) (cs.map fun c => D.str [c])
      rcases List.mem_cons.mp hm with e | hm
      · exact ⟨c, e⟩
      · obtain ⟨a, _, e⟩ := List.mem_map.mp hm
        exact ⟨a, e.symm⟩
    have ht := least_toP (.str [c]) (cs.map fun c => D.str [c])
    rw [hb', toPs_sgn] at ht
    have e2 : sgnP b' = sgnP b := ht.trans hb
    have e3 : b' = b := by
      unfold sgnP at e2
      injection e2 with e2
      injection e2 with e2
      simpa using e2
    rw [hb', e3] at h
    exact h _ H (.refl _ _) A.gl Rep.str_
  · exact .inl (h2 dl Z O r sg _ vs H Q E A rl h)
end DL
set_option Elab.async false
set_option linter.all false
set_option maxRecDepth 100000
set_option maxHeartbeats 1000000
namespace K09
open PySem L2 DL LamX PySem.Spec PyProof.Rows
def top (i : Nat) : Stmt := PySem.Challenge.pw_flaghall_k09_ciphers.main.body.getD i (.Pass ⟨0, 0, 0, 0⟩)
abbrev s_law_dice : Stmt := top 25
abbrev s_law_roll : Stmt := top 26
abbrev s_law_rounds : Stmt := top 27
abbrev s_law_told : Stmt := top 28
abbrev s_law_word : Stmt := top 30
abbrev s_check_text : Stmt := top 13
abbrev s_Key_init : Stmt := inClass (top 14) 0
abbrev s_key_of_word : Stmt := top 15
abbrev s_law_key : Stmt := top 31
abbrev s_Key_changed : Stmt := inClass (top 14) 1
abbrev s_Key_undoer : Stmt := inClass (top 14) 2
abbrev s_Key_behind : Stmt := inClass (top 14) 3
abbrev s_Key_kept : Stmt := inClass (top 14) 4
abbrev s_Key_rounds : Stmt := inClass (top 14) 5
abbrev s_Key_times_home : Stmt := inClass (top 14) 6
abbrev s_Key_is_own_undoer : Stmt := inClass (top 14) 7
abbrev s_shift_key : Stmt := top 16
abbrev s_shifted_by : Stmt := top 17
abbrev s_law_moves : Stmt := top 29
abbrev s_in_columns : Stmt := top 18
abbrev s_out_of_columns : Stmt := top 19
abbrev s_keys_that_fit : Stmt := top 20
abbrev s_part_of_key : Stmt := top 21
abbrev s_word_of_shifts : Stmt := top 22
abbrev s_alike_places : Stmt := top 23
abbrev s_law_cases1 : Stmt := top 32
abbrev s_law_rest1 : Stmt := top 33
abbrev s_law : Stmt := top 34
structure Adr where
  f_law_dice : Addr
  f_law_roll : Addr
  f_law_rounds : Addr
  f_law_told : Addr
  f_law_word : Addr
  f_check_text : Addr
  f_Key_init : Addr
  f_key_of_word : Addr
  f_law_key : Addr
  f_Key_changed : Addr
  f_Key_undoer : Addr
  f_Key_behind : Addr
  f_Key_kept : Addr
  f_Key_rounds : Addr
  f_Key_times_home : Addr
  f_Key_is_own_undoer : Addr
  f_shift_key : Addr
  f_shifted_by : Addr
  f_law_moves : Addr
  f_in_columns : Addr
  f_out_of_columns : Addr
  f_keys_that_fit : Addr
  f_part_of_key : Addr
  f_word_of_shifts : Addr
  f_alike_places : Addr
  f_law_cases1 : Addr
  f_law_rest1 : Addr
  f_law : Addr
  c_Key : Addr
  x_BadBook : Addr
  x_NoWay : Addr
  x_BadFlag : Addr
  x_BadFleet : Addr
  x_BadHoist : Addr
  x_Foul : Addr
  x_TooLarge : Addr
  x_Unclear : Addr
  x_BadText : Addr
  k_check_text : Addr
  t_check_text : Addr
  k_word_of_shifts : Addr
  t_word_of_shifts : Addr
  k_alike_places : Addr
  t_alike_places : Addr
  k_law_cases1 : Addr
  t_law_cases1 : Addr
  k_law_rest1 : Addr
  t_law_rest1 : Addr
def flds : Nat → List Str
  | 0 => ["letters"]
  | _ => []
def clsA (a : Adr) : Nat → Addr
  | 0 => a.c_Key
  | _ => 0
def excA (a : Adr) : Nat → Addr
  | 3 => a.x_BadBook
  | 7 => a.x_NoWay
  | 1 => a.x_BadFlag
  | 4 => a.x_BadFleet
  | 2 => a.x_BadHoist
  | 5 => a.x_Foul
  | 8 => a.x_TooLarge
  | 6 => a.x_Unclear
  | 9 => a.x_BadText
  | _ => 0
def excF : Nat → Option Str
  | _ => none
def tabsA (a : Adr) : List (Addr × Str) := [(a.t_check_text, ("check_text" : Str) ++ ".<locals>."), (a.t_word_of_shifts, ("word_of_shifts" : Str) ++ ".<locals>."), (a.t_alike_places, ("alike_places" : Str) ++ ".<locals>."), (a.t_law_cases1, ("_law_cases1" : Str) ++ ".<locals>."), (a.t_law_rest1, ("_law_rest1" : Str) ++ ".<locals>.")]
def lamPos : List (Nat × Nat) := [(193, 17), (195, 17), (197, 17), (199, 17), (201, 17), (203, 17), (205, 17), (207, 17), (209, 17), (239, 17)]
def kdT (l c : Nat) : Bool := lamPos.any fun p => Nat.beq p.1 l && Nat.beq p.2 c
abbrev gm (K : PySem.W.Frag) (w : World) (a : Adr) (xs : List (Addr × Addr × Str)) : Gm := { K := K, w := w, cls := clsA a, flds := flds, fns := fun _ => 0, xcls := excA a, xfld := excF, tabs := tabsA a, kd := kdT, subs := xs }
theorem hsz : ∀ c, (flds c).length ≤ 900 := fun c => by unfold flds; split <;> decide
def fx_letters : Nat → Option Nat
  | 0 => some 0
  | _ => none
def d_LETTERS : D := .str [97, 98, 99, 100, 101, 102, 103, 104, 105, 106, 107, 108, 109, 110, 111, 112, 113, 114, 115, 116, 117, 118, 119, 120, 121, 122]
def toldL : List (Nat × List Nat) := [(3, [98, 111, 111, 107]), (1, [102, 108, 97, 103]), (4, [102, 108, 101, 101, 116]), (2, [104, 111, 105, 115, 116]), (5, [102, 111, 117, 108]), (7, [110, 111, 32, 119, 97, 121]), (8, [108, 97, 114, 103, 101]), (6, [117, 110, 99, 108, 101, 97, 114]), (9, [116, 101, 120, 116])]
def FunL (K : PySem.W.Frag) (x : Str) (st : Stmt) (f : Addr) (ps : List Str) : Prop := ∃ (oc : Value) (od : Option Addr) (kV doc pm : Value) (an : Option Addr) (cdv ct : Value) (osl : Array (Option Value)),
  K.lookup f = some ⟨oc, od, .func (PySem.W.fnOf x x (defArgs st) (defBody st) (defScope st) .none kV doc pm an cdv ct), osl⟩ ∧ PySem.W.codeIn K cdv x = true ∧ PySem.W.keepIn K (.ref f) = true ∧ L2.Binds K (PySem.W.fnOf x x (defArgs st) (defBody st) (defScope st) .none kV doc pm an cdv ct) ps []
/-- what the head knows -/
structure Txt (w : World) (K : PySem.W.Frag) (mg : Str → Option Value) (base : Heap) (a : Adr) : Prop where
  b_range : mg "range" = none
  b_any : mg "any" = none
  b_sorted : mg "sorted" = none
  b_list : mg "list" = none
  b_tuple : mg "tuple" = none
  b_min : mg "min" = none
  b_len : mg "len" = none
  b_max : mg "max" = none
  b_enumerate : mg "enumerate" = none
  b_zip : mg "zip" = none
  b_dict : mg "dict" = none
  b_all : mg "all" = none
  b_sum : mg "sum" = none
  b_int : mg "int" = none
  b_abs : mg "abs" = none
  g_law_dice : mg "_law_dice" = some (.ref a.f_law_dice)
  e_law_dice : FunE K "_law_dice" "_law_dice" s_law_dice a.f_law_dice ["cell"]
  g_law_roll : mg "_law_roll" = some (.ref a.f_law_roll)
  e_law_roll : FunE K "_law_roll" "_law_roll" s_law_roll a.f_law_roll ["dice", "many"]
  g_law_rounds : mg "_law_rounds" = some (.ref a.f_law_rounds)
  e_law_rounds : FunE K "_law_rounds" "_law_rounds" s_law_rounds a.f_law_rounds ["script", "most"]
  g_law_told : mg "_law_told" = some (.ref a.f_law_told)
  l_told : FunL K "_law_told" s_law_told a.f_law_told ["what"]
  g_law_word : mg "_law_word" = some (.ref a.f_law_word)
  e_law_word : FunE K "_law_word" "_law_word" s_law_word a.f_law_word ["dice", "most"]
  g_check_text : mg "check_text" = some (.ref a.f_check_text)
  e_check_text : FunC K "check_text" "check_text" s_check_text a.f_check_text a.k_check_text ["text"]
  e_Key_init : FunE K "__init__" "Key.__init__" s_Key_init a.f_Key_init ["self", "letters"]
  mk_Key : Mk K a.c_Key a.f_Key_init
  g_key_of_word : mg "key_of_word" = some (.ref a.f_key_of_word)
  e_key_of_word : FunE K "key_of_word" "key_of_word" s_key_of_word a.f_key_of_word ["word"]
  g_law_key : mg "_law_key" = some (.ref a.f_law_key)
  e_law_key : FunE K "_law_key" "_law_key" s_law_key a.f_law_key ["word"]
  e_Key_changed : FunE K "changed" "Key.changed" s_Key_changed a.f_Key_changed ["self", "text"]
  mt_Key_changed : Meth K a.c_Key "changed" a.f_Key_changed
  e_Key_undoer : FunE K "undoer" "Key.undoer" s_Key_undoer a.f_Key_undoer ["self"]
  mt_Key_undoer : Meth K a.c_Key "undoer" a.f_Key_undoer
  e_Key_behind : FunE K "behind" "Key.behind" s_Key_behind a.f_Key_behind ["self", "other"]
  mt_Key_behind : Meth K a.c_Key "behind" a.f_Key_behind
  e_Key_kept : FunE K "kept" "Key.kept" s_Key_kept a.f_Key_kept ["self"]
  mt_Key_kept : Meth K a.c_Key "kept" a.f_Key_kept
  e_Key_rounds : FunE K "rounds" "Key.rounds" s_Key_rounds a.f_Key_rounds ["self"]
  mt_Key_rounds : Meth K a.c_Key "rounds" a.f_Key_rounds
  e_Key_times_home : FunE K "times_home" "Key.times_home" s_Key_times_home a.f_Key_times_home ["self"]
  mt_Key_times_home : Meth K a.c_Key "times_home" a.f_Key_times_home
  e_Key_is_own_undoer : FunE K "is_own_undoer" "Key.is_own_undoer" s_Key_is_own_undoer a.f_Key_is_own_undoer ["self"]
  mt_Key_is_own_undoer : Meth K a.c_Key "is_own_undoer" a.f_Key_is_own_undoer
  g_shift_key : mg "shift_key" = some (.ref a.f_shift_key)
  e_shift_key : FunE K "shift_key" "shift_key" s_shift_key a.f_shift_key ["many"]
  g_shifted_by : mg "shifted_by" = some (.ref a.f_shifted_by)
  e_shifted_by : FunE K "shifted_by" "shifted_by" s_shifted_by a.f_shifted_by ["text", "word", "way"]
  g_law_moves : mg "_law_moves" = some (.ref a.f_law_moves)
  e_law_moves : FunE K "_law_moves" "_law_moves" s_law_moves a.f_law_moves ["dice", "many"]
  g_in_columns : mg "in_columns" = some (.ref a.f_in_columns)
  e_in_columns : FunE K "in_columns" "in_columns" s_in_columns a.f_in_columns ["text", "order"]
  g_out_of_columns : mg "out_of_columns" = some (.ref a.f_out_of_columns)
  e_out_of_columns : FunE K "out_of_columns" "out_of_columns" s_out_of_columns a.f_out_of_columns ["text", "order"]
  g_keys_that_fit : mg "keys_that_fit" = some (.ref a.f_keys_that_fit)
  e_keys_that_fit : FunE K "keys_that_fit" "keys_that_fit" s_keys_that_fit a.f_keys_that_fit ["plain", "sent", "wide"]
  g_part_of_key : mg "part_of_key" = some (.ref a.f_part_of_key)
  e_part_of_key : FunE K "part_of_key" "part_of_key" s_part_of_key a.f_part_of_key ["plain", "sent"]
  g_word_of_shifts : mg "word_of_shifts" = some (.ref a.f_word_of_shifts)
  e_word_of_shifts : FunC K "word_of_shifts" "word_of_shifts" s_word_of_shifts a.f_word_of_shifts a.k_word_of_shifts ["plain", "sent", "most"]
  g_alike_places : mg "alike_places" = some (.ref a.f_alike_places)
  e_alike_places : FunC K "alike_places" "alike_places" s_alike_places a.f_alike_places a.k_alike_places ["text"]
  g_law_cases1 : mg "_law_cases1" = some (.ref a.f_law_cases1)
  e_law_cases1 : FunC K "_law_cases1" "_law_cases1" s_law_cases1 a.f_law_cases1 a.k_law_cases1 []
  g_law_rest1 : mg "_law_rest1" = some (.ref a.f_law_rest1)
  e_law_rest1 : FunC K "_law_rest1" "_law_rest1" s_law_rest1 a.f_law_rest1 a.k_law_rest1 ["dice", "plain", "words", "one", "text", "sent"]
  g_law : mg "law" = some (.ref a.f_law)
  e_law : FunE K "law" "law" s_law a.f_law ["script"]
  g_Key : mg "Key" = some (.ref a.c_Key)
  c_Key : Cls K a.c_Key
  n_Key_letters : NoAttr K a.c_Key "letters"
  x_BadBook : PySem.W.excIn K a.x_BadBook [.type "ValueError", .type "Exception", .type "BaseException", .type "object"] "ValueError.__new__" = true ∧ mg "BadBook" = some (.ref a.x_BadBook) ∧ PySem.W.keepIn K (.ref a.x_BadBook) = true ∧ PySem.W.subIn K (.ref a.x_BadBook) (.type "BaseException") = some true ∧ PySem.W.typeIn K (.ref a.x_BadBook) = some (.type "type")
  x_NoWay : PySem.W.excIn K a.x_NoWay [.type "ValueError", .type "Exception", .type "BaseException", .type "object"] "ValueError.__new__" = true ∧ mg "NoWay" = some (.ref a.x_NoWay) ∧ PySem.W.keepIn K (.ref a.x_NoWay) = true ∧ PySem.W.subIn K (.ref a.x_NoWay) (.type "BaseException") = some true ∧ PySem.W.typeIn K (.ref a.x_NoWay) = some (.type "type")
  x_BadFlag : PySem.W.excIn K a.x_BadFlag [.type "ValueError", .type "Exception", .type "BaseException", .type "object"] "ValueError.__new__" = true ∧ mg "BadFlag" = some (.ref a.x_BadFlag) ∧ PySem.W.keepIn K (.ref a.x_BadFlag) = true ∧ PySem.W.subIn K (.ref a.x_BadFlag) (.type "BaseException") = some true ∧ PySem.W.typeIn K (.ref a.x_BadFlag) = some (.type "type")
  x_BadFleet : PySem.W.excIn K a.x_BadFleet [.type "ValueError", .type "Exception", .type "BaseException", .type "object"] "ValueError.__new__" = true ∧ mg "BadFleet" = some (.ref a.x_BadFleet) ∧ PySem.W.keepIn K (.ref a.x_BadFleet) = true ∧ PySem.W.subIn K (.ref a.x_BadFleet) (.type "BaseException") = some true ∧ PySem.W.typeIn K (.ref a.x_BadFleet) = some (.type "type")
  x_BadHoist : PySem.W.excIn K a.x_BadHoist [.type "ValueError", .type "Exception", .type "BaseException", .type "object"] "ValueError.__new__" = true ∧ mg "BadHoist" = some (.ref a.x_BadHoist) ∧ PySem.W.keepIn K (.ref a.x_BadHoist) = true ∧ PySem.W.subIn K (.ref a.x_BadHoist) (.type "BaseException") = some true ∧ PySem.W.typeIn K (.ref a.x_BadHoist) = some (.type "type")
  x_Foul : mg "Foul" = some (.ref a.x_Foul)
  x_TooLarge : PySem.W.excIn K a.x_TooLarge [.type "ValueError", .type "Exception", .type "BaseException", .type "object"] "ValueError.__new__" = true ∧ mg "TooLarge" = some (.ref a.x_TooLarge) ∧ PySem.W.keepIn K (.ref a.x_TooLarge) = true ∧ PySem.W.subIn K (.ref a.x_TooLarge) (.type "BaseException") = some true ∧ PySem.W.typeIn K (.ref a.x_TooLarge) = some (.type "type")
  x_Unclear : mg "Unclear" = some (.ref a.x_Unclear)
  x_BadText : mg "BadText" = some (.ref a.x_BadText)
  exm : ∀ xs, ExmOk K (gm K w a xs) (toldL.map (·.1))
  v_LETTERS : ∀ xs, GlD (gm K w a xs) mg "LETTERS" d_LETTERS
  tb_check_text : TabB base mg a.k_check_text a.t_check_text
  tb_word_of_shifts : TabB base mg a.k_word_of_shifts a.t_word_of_shifts
  tb_alike_places : TabB base mg a.k_alike_places a.t_alike_places
  tb_law_cases1 : TabB base mg a.k_law_cases1 a.t_law_cases1
  tb_law_rest1 : TabB base mg a.k_law_rest1 a.t_law_rest1
  ne_check_text_word_of_shifts : a.t_check_text ≠ a.t_word_of_shifts
  ne_check_text_alike_places : a.t_check_text ≠ a.t_alike_places
  ne_check_text_law_cases1 : a.t_check_text ≠ a.t_law_cases1
  ne_check_text_law_rest1 : a.t_check_text ≠ a.t_law_rest1
  ne_word_of_shifts_alike_places : a.t_word_of_shifts ≠ a.t_alike_places
  ne_word_of_shifts_law_cases1 : a.t_word_of_shifts ≠ a.t_law_cases1
  ne_word_of_shifts_law_rest1 : a.t_word_of_shifts ≠ a.t_law_rest1
  ne_alike_places_law_cases1 : a.t_alike_places ≠ a.t_law_cases1
  ne_alike_places_law_rest1 : a.t_alike_places ≠ a.t_law_rest1
  ne_law_cases1_law_rest1 : a.t_law_cases1 ≠ a.t_law_rest1
theorem sc_law_dice : FnScope ["cell"] ["cell"] (defScope s_law_dice) := ⟨rfl, rfl, rfl, by decide +kernel, rfl, by decide +kernel, by decide +kernel⟩
theorem sc_law_roll : FnScope ["dice", "many", "found"] ["dice", "many"] (defScope s_law_roll) := ⟨rfl, rfl, rfl, by decide +kernel, rfl, by decide +kernel, by decide +kernel⟩
theorem sc_law_rounds : FnScope ["script", "most", "cells", "cell"] ["script", "most"] (defScope s_law_rounds) := ⟨rfl, rfl, rfl, by decide +kernel, rfl, by decide +kernel, by decide +kernel⟩
theorem sc_law_told : FnScope ["what"] ["what"] (defScope s_law_told) := ⟨rfl, rfl, rfl, by decide +kernel, rfl, by decide +kernel, by decide +kernel⟩
theorem sc_law_word : FnScope ["dice", "most", "k"] ["dice", "most"] (defScope s_law_word) := ⟨rfl, rfl, rfl, by decide +kernel, rfl, by decide +kernel, by decide +kernel⟩
theorem sc_check_text : FnScope ["text", "sign"] ["text"] (defScope s_check_text) := ⟨rfl, rfl, rfl, by decide +kernel, rfl, by decide +kernel, by decide +kernel⟩
theorem sc_Key_init : FnScope ["self", "letters"] ["self", "letters"] (defScope s_Key_init) := ⟨rfl, rfl, rfl, by decide +kernel, rfl, by decide +kernel, by decide +kernel⟩
theorem sc_key_of_word : FnScope ["word", "found", "sign"] ["word"] (defScope s_key_of_word) := ⟨rfl, rfl, rfl, by decide +kernel, rfl, by decide +kernel, by decide +kernel⟩
theorem sc_law_key : FnScope ["word", "letters", "sign"] ["word"] (defScope s_law_key) := ⟨rfl, rfl, rfl, by decide +kernel, rfl, by decide +kernel, by decide +kernel⟩
theorem sc_Key_changed : FnScope ["self", "text", "sign"] ["self", "text"] (defScope s_Key_changed) := ⟨rfl, rfl, rfl, by decide +kernel, rfl, by decide +kernel, by decide +kernel⟩
theorem sc_Key_undoer : FnScope ["self", "sign"] ["self"] (defScope s_Key_undoer) := ⟨rfl, rfl, rfl, by decide +kernel, rfl, by decide +kernel, by decide +kernel⟩
theorem sc_Key_behind : FnScope ["self", "other"] ["self", "other"] (defScope s_Key_behind) := ⟨rfl, rfl, rfl, by decide +kernel, rfl, by decide +kernel, by decide +kernel⟩
theorem sc_Key_kept : FnScope ["self", "sign"] ["self"] (defScope s_Key_kept) := ⟨rfl, rfl, rfl, by decide +kernel, rfl, by decide +kernel, by decide +kernel⟩
theorem sc_Key_rounds : FnScope ["self", "seen", "found", "sign", "mine", "here"] ["self"] (defScope s_Key_rounds) := ⟨rfl, rfl, rfl, by decide +kernel, rfl, by decide +kernel, by decide +kernel⟩
theorem sc_Key_times_home : FnScope ["self", "found", "ring", "a", "b"] ["self"] (defScope s_Key_times_home) := ⟨rfl, rfl, rfl, by decide +kernel, rfl, by decide +kernel, by decide +kernel⟩
theorem sc_Key_is_own_undoer : FnScope ["self"] ["self"] (defScope s_Key_is_own_undoer) := ⟨rfl, rfl, rfl, by decide +kernel, rfl, by decide +kernel, by decide +kernel⟩
theorem sc_shift_key : FnScope ["many", "gap"] ["many"] (defScope s_shift_key) := ⟨rfl, rfl, rfl, by decide +kernel, rfl, by decide +kernel, by decide +kernel⟩
theorem sc_shifted_by : FnScope ["text", "word", "way", "found", "k", "sign", "by"] ["text", "word", "way"] (defScope s_shifted_by) := ⟨rfl, rfl, rfl, by decide +kernel, rfl, by decide +kernel, by decide +kernel⟩
theorem sc_law_moves : FnScope ["dice", "many", "left", "found", "k"] ["dice", "many"] (defScope s_law_moves) := ⟨rfl, rfl, rfl, by decide +kernel, rfl, by decide +kernel, by decide +kernel⟩
theorem sc_in_columns : FnScope ["text", "order", "column"] ["text", "order"] (defScope s_in_columns) := ⟨rfl, rfl, rfl, by decide +kernel, rfl, by decide +kernel, by decide +kernel⟩
theorem sc_out_of_columns : FnScope ["text", "order", "many", "columns", "place", "column", "size", "k"] ["text", "order"] (defScope s_out_of_columns) := ⟨rfl, rfl, rfl, by decide +kernel, rfl, by decide +kernel, by decide +kernel⟩
theorem sc_keys_that_fit : FnScope ["plain", "sent", "wide", "gap"] ["plain", "sent", "wide"] (defScope s_keys_that_fit) := ⟨rfl, rfl, rfl, by decide +kernel, rfl, by decide +kernel, by decide +kernel⟩
theorem sc_part_of_key : FnScope ["plain", "sent", "found", "back", "a", "b", "sign"] ["plain", "sent"] (defScope s_part_of_key) := ⟨rfl, rfl, rfl, by decide +kernel, rfl, by decide +kernel, by decide +kernel⟩
theorem sc_word_of_shifts : FnScope ["plain", "sent", "most", "gaps", "a", "b", "size", "k"] ["plain", "sent", "most"] (defScope s_word_of_shifts) := ⟨rfl, rfl, rfl, by decide +kernel, rfl, by decide +kernel, by decide +kernel⟩
theorem sc_alike_places : FnScope ["text", "k", "j"] ["text"] (defScope s_alike_places) := ⟨rfl, rfl, rfl, by decide +kernel, rfl, by decide +kernel, by decide +kernel⟩
theorem sc_law_cases1 : FnScope [] [] (defScope s_law_cases1) := ⟨rfl, rfl, rfl, by decide +kernel, rfl, by decide +kernel, by decide +kernel⟩
theorem sc_law_rest1 : FnScope ["dice", "plain", "words", "one", "text", "sent", "gap", "sign", "shifted", "k", "many", "order", "rows", "column", "fits", "told", "word"] ["dice", "plain", "words", "one", "text", "sent"] (defScope s_law_rest1) := ⟨rfl, rfl, rfl, by decide +kernel, rfl, by decide +kernel, by decide +kernel⟩
theorem sc_law : FnScope ["script", "dice", "plain", "words", "one", "other", "text", "k", "sent", "sign", "rings", "ring", "times", "sizes", "size"] ["script"] (defScope s_law) := ⟨rfl, rfl, rfl, by decide +kernel, rfl, by decide +kernel, by decide +kernel⟩
section
variable {P : Program} {w : World} {K : PySem.W.Frag} {mg : Str → Option Value} {base : Heap} {G : Gm} {a : Adr} {xs : List (Addr × Addr × Str)}
theorem ok_roll {f : Addr} {fd : FuncData} (F : Fun K "_law_roll" "_law_roll" s_law_roll f fd) (mi : mg "int" = none) : FnOk P w K mg base (L2.CX P w) 1 f fd ["dice", "many"] (spD G 2 rollD) := by
  refine F.okX sc_law_roll (fun vs H Q E h => h.1) (fun cdv A outer s H vs Q E hr h => ?_)
  obtain ⟨hl, dl, Z, ds, gl, dz, live, rl, hw⟩ := h
  obtain ⟨m, x, y, z, rfl, m0, m1, hd, k⟩ := roll_of gl dz rl hw
  refine ⟨_, pss_cons (ps_if (pw_or (pt_cmpR op_eq (pe_ix ix_list (pv 0) pe_int fun _ _ => rfl) pe_int (nomark _)) (pw_or1 (pw_and (pt_cmpR op_eq (pe_ix ix_list (pv 0) pe_int fun _ _ => rfl) pe_int (nomark _)) (pw_and1 (pt_cmpR op_gt (pe_ix ix_list (pv 0) pe_int fun _ _ => rfl) pe_int (nomark _)))).pt)).pt
      (pss_cons (ps_set (i := 2) sc_law_roll.nd rfl (Or.inl rfl) (pe_op op_mod (pe_callTy call_int1 rfl mi rfl (pa_cons (pe_ix ix_list (pv 0) pe_int fun _ _ => rfl) pa_nil)) (pv 1)))
        (pss_cons (ps_asg (pe_op op_fdiv (pe_ix ix_list (pv 0) pe_int fun _ _ => rfl) (pv 1)) (pg_sub (pv 0) pe_int set_list))
          (pss_one (ps_ret (pv 2))))) pss_nil)
    (pss_cons (ps_asg pe_int (pg_sub (pv 0) pe_int set_list))
      (pss_cons (ps_asg (pe_op op_mod (pe_callTy call_int1 rfl mi rfl (pa_cons (pe_op op_add (pe_op op_add (pe_op op_mul (pe_ix ix_list (pv 0) pe_int fun _ _ => rfl) pe_int) (pe_op op_mul (pe_ix ix_list (pv 0) pe_int fun _ _ => rfl) pe_int)) pe_int) pa_nil)) pe_int) (pg_sub (pv 0) pe_int set_list))
        (pss_cons (ps_asg (pe_op op_add (pe_ix ix_list (pv 0) pe_int fun _ _ => rfl) pe_int) (pg_sub (pv 0) pe_int set_list))
          (pss_one (ps_ret (pe_op op_mod (pe_callTy call_int1 rfl mi rfl (pa_cons (pe_op op_add (pe_op op_fdiv (pe_ix ix_list (pv 0) pe_int fun _ _ => rfl) pe_int) (pe_ix ix_list (pv 0) pe_int fun _ _ => rfl)) pa_nil)) (pv 1))))))), ?_⟩
  have hm1 : m < 1073741824 := by omega
  have r0 : 0 ≤ x % m := Int.emod_nonneg _ (by omega)
  have r1 : x % m < m := Int.emod_lt_of_pos _ m0
  refine ⟨_, rfl, dl, _, _, _, rfl, rfl, SqL.of hd, rfl, rfl, _, rfl, ?_⟩
  refine ite2 (fun _ => ite2 (fun _ => ?y1) (fun h => absurd rfl h)) (fun _ => ⟨_, rfl, dl, _, _, _, rfl, rfl, SqL.of hd, rfl, rfl, _, rfl, ite2 (fun _ => ⟨_, rfl, dl, _, _, _, rfl, rfl, SqL.of hd, rfl, _, _, rfl, rfl, _, rfl, ite2 (fun _ => ?y2) (fun _ => ?n1)⟩) (fun _ => ite2 (fun h => nomatch h) (fun _ => ?n2))⟩)
  case y1 =>
    refine ⟨_, rfl, dl, _, _, _, rfl, rfl, SqL.of hd, rfl, .inl ⟨_, rfl, _, rfl, _, _, rfl, rfl, m0, ?_⟩⟩
    refine ⟨_, rfl, dl, _, _, _, rfl, rfl, SqL.of hd, rfl, _, rfl, _, _, rfl, rfl, ⟨m0, hm1⟩, _, rfl, dl, _, _, _, rfl, rfl, hd, rfl, _, rfl, ?_⟩
    exact k _ _ r0 r1 ⟨_, _, _, rfl⟩
  case y2 =>
    refine ⟨_, rfl, dl, _, _, _, rfl, rfl, SqL.of hd, rfl, .inl ⟨_, rfl, _, rfl, _, _, rfl, rfl, m0, ?_⟩⟩
    refine ⟨_, rfl, dl, _, _, _, rfl, rfl, SqL.of hd, rfl, _, rfl, _, _, rfl, rfl, ⟨m0, hm1⟩, _, rfl, dl, _, _, _, rfl, rfl, hd, rfl, _, rfl, ?_⟩
    exact k _ _ r0 r1 ⟨_, _, _, rfl⟩
  all_goals
    refine ⟨_, rfl, dl, _, _, _, rfl, rfl, hd, rfl, ?_⟩
    have h2 : (upd H dl (.lst [V.int x, V.int y, V.int 0])) dl = some (.lst [V.int x, V.int y, V.int 0]) := upd_same
    refine ⟨_, rfl, dl, _, _, _, rfl, rfl, SqL.of h2, rfl, _, _, rfl, rfl, .inr ⟨by decide, by decide⟩, _, rfl, dl, _, _, _, rfl, rfl, SqL.of h2, rfl, _, _, rfl, rfl, .inr ⟨by decide, by decide⟩, _, _, rfl, rfl, _, _, rfl, rfl, .inl ⟨_, rfl, _, _, rfl, rfl, (by show (0 : Int) < 2147483647; decide), _, rfl, dl, _, _, _, rfl, rfl, h2, rfl, ?_⟩⟩
    refine ⟨_, rfl, dl, _, _, _, rfl, rfl, SqL.of upd_same, rfl, _, _, rfl, rfl, _, rfl, dl, _, _, _, rfl, rfl, upd_same, rfl, ?_⟩
    refine ⟨_, rfl, dl, _, _, _, rfl, rfl, SqL.of upd_same, rfl, _, _, rfl, rfl, ⟨(by show (0 : Int) < 7; decide), (by show (7 : Int) < 1073741824; decide)⟩, _, rfl, dl, _, _, _, rfl, rfl, SqL.of upd_same, rfl, _, _, rfl, rfl, .inl ⟨_, rfl, _, rfl, _, _, rfl, rfl, m0, ?_⟩⟩
    refine k _ _ (Int.emod_nonneg _ (by omega)) (Int.emod_lt_of_pos _ m0) ⟨(x * 48271 + y * 69621 + 11) % 2147483647, y + 1, 0, ?_⟩
    rw [upd_upd, upd_upd]
    rfl
theorem ok_dice {f : Addr} {fd : FuncData} (F : Fun K "_law_dice" "_law_dice" s_law_dice f fd) (mi : mg "int" = none) (ma : mg "abs" = none) : FnOk P w K mg base (L2.CX P w) 1 f fd ["cell"] spDice := by
  refine F.okX sc_law_dice (fun vs H Q E h => by obtain ⟨c, rfl, _⟩ := h; rfl) (fun cdv A outer s H vs Q E hr h => ?_)
  obtain ⟨c, rfl, k⟩ := h
  refine ⟨_, pss_cons (ps_if (pt_chain op_lt op_lt (pe_op op_sub pe_int pe_int) (pv 0) pe_int) (pss_one (ps_ret (pe_lst (pa_cons (pe_callB call_abs rfl ma rfl (pa_cons (pv 0) pa_nil)) (pa_cons pe_int (pa_cons pe_int pa_nil)))))) pss_nil)
    (pss_one (ps_ret (pe_lst (pa_cons (pv 0) (pa_cons (pe_op op_add pe_int (pe_op op_mod (pe_callTy call_int1 rfl mi rfl (pa_cons (pv 0) pa_nil)) pe_int)) (pa_cons (pe_callTy call_int1 rfl mi rfl (pa_cons (pe_cmpR op_ge (pv 0) (pe_op op_pow pe_int pe_int) (nomark _)) pa_nil)) pa_nil)))))), ?_⟩
  have kk : ∀ a : Int, [V.int a, V.int 0, V.int 2].length ≤ sizeLine ∧ ∀ p, H p = none → Q (.ref p) (upd H p (.lst [V.int a, V.int 0, V.int 2])) := fun a => ⟨by rw [sizeLine_eq]; exact Nat.le_of_ble_eq_true rfl, fun p hp => k p a 0 2 hp⟩
  have kn : ∀ b : Bool, [V.int c, V.int (1 + c % 1009), V.int (if b = true then 1 else 0)].length ≤ sizeLine ∧ ∀ p, H p = none → Q (.ref p) (upd H p (.lst [V.int c, V.int (1 + c % 1009), V.int (if b = true then 1 else 0)])) := fun b => ⟨by rw [sizeLine_eq]; exact Nat.le_of_ble_eq_true rfl, fun p hp => k p c _ _ hp⟩
  have no : tRet
      (tLst
        (tCons (tVar 0)
          (tCons
            (tOp (rI0 fun i j => V.int (i + j)) (tC (V.int 1))
              (tOp (rI (fun x j => 0 < j) fun i j => V.int (i % j))
                (tCB
                  (fun xs H Q =>
                    (∃ i, xs = [V.int i] ∧ Q (V.int i) H) ∨
                      ∃ k, xs = [V.bl k] ∧ Q (V.int (if k = true then 1 else 0)) H)
                  (tCons (tVar 0) tNil))
                (tC (V.int 1009))))
            (tCons
              (tCB
                (fun xs H Q =>
                  (∃ i, xs = [V.int i] ∧ Q (V.int i) H) ∨ ∃ k, xs = [V.bl k] ∧ Q (V.int (if k = true then 1 else 0)) H)
                (tCons
                  (tOp (rI0 fun i j => V.bl (decide (j ≤ i))) (tVar 0)
                    (tOp (rI CPow fun i j => V.int (i ^ j.toNat)) (tC (V.int 10)) (tC (V.int 18))))
                  tNil))
              tNil)))) { nx := fun x H' => Q V.non H', rt := Q } (L2.start [Str.ofString "cell"] [V.int c]) H := by
    exact ⟨_, rfl, _, rfl, .inl ⟨_, rfl, _, _, rfl, rfl, (by show (0 : Int) < 1009; decide), _, _, rfl, rfl, _, rfl, _, _, rfl, rfl, ⟨by decide, by decide, by decide⟩, _, _, rfl, rfl, .inr ⟨_, rfl, kn _⟩⟩⟩
  refine ⟨_, _, rfl, rfl, _, rfl, _, _, rfl, rfl, _, rfl, ite2 (fun _ => ⟨_, _, rfl, rfl, _, rfl, ite2 (fun _ => ⟨_, rfl, _, rfl, kk _⟩) (fun _ => no)⟩) (fun _ => ⟨_, rfl, ite2 (fun h => nomatch h) (fun _ => no)⟩)⟩
theorem ok_rounds {f fD : Addr} {fd fdD : FuncData} (F : Fun K "_law_rounds" "_law_rounds" s_law_rounds f fd) (D : FnOk P w K mg base (L2.CX P w) 1 fD fdD ["cell"] spDice) (kD : PySem.W.keepIn K (.ref fD) = true) (bD : Binds K fdD ["cell"] []) (mD : mg "_law_dice" = some (.ref fD)) : FnOk P w K mg base (L2.CX P w) 2 f fd ["script", "most"] (spRounds K) := by
  refine F.okX sc_law_rounds (fun vs H Q E h => by obtain ⟨a, ns, rfl, _⟩ := h; rfl) (fun cdv A outer s H vs Q E hr h => ?_)
  obtain ⟨a, ns, rfl, hS, k⟩ := h
  have hu : (A.deeper (PyProof.Rows.envOfC "_law_rounds" (defScope s_law_rounds) s.heap.objs.size f cdv)).units + 64 < cLine := by have := hr.un; omega
  refine ⟨_, pss_cons (ps_set (i := 2) sc_law_rounds.nd rfl (Or.inl rfl) (pe_slice sl_list (pv 0) po_none (po_some (pv 1))))
    (pss_cons (ps_if (pt_cmpR (op_eqD hu) (pv 2) (pe_lst pa_nil) (nomark _)) (pss_one (ps_set (i := 2) sc_law_rounds.nd rfl (Or.inl rfl) (pe_lst (pa_cons pe_int pa_nil)))) pss_nil)
      (pss_one (ps_ret (pe_lc (own := [("cell", 3)]) (g := gName 3) (tt := tYes) rfl sc_law_rounds.nd (pi_list (pv 2)) (blkOk_by (N := ["script", "most", "cells", "cell"]) (sc := defScope s_law_rounds) (by decide +kernel)) (fun _ _ _ _ _ => pg_name (i := 3) sc_law_rounds.nd rfl (Or.inl rfl)) (fun _ _ _ _ _ => pts_nil)
        (fun _ _ _ _ _ => pe_callS D hr rfl mD kD bD (fun sg => passAt takes0D sg) (pa_cons (pv 3) pa_nil)))))), ?_⟩
  have fin : ∀ (H1 : Hp) (l : Addr) (c : Int), (∀ b o, H b = some o → H1 b = some o) → H1 l = some (.lst [.int c]) →
      (tRet (tLc (iList K (tVar 2)) (gName 3) tYes (tCallS spDice (WE W0) (tCons (tVar 3) tNil)) [3])) { nx := fun x H' => Q V.non H', rt := Q } [some (.ref a), some (.int 1), some (.ref l), none] H1 := fun H1 l c e1 hl => by
    refine ⟨_, rfl, l, rfl, ⟨_, SqL.of hl⟩, fun D hD => ?_⟩
    have hlD : l ≠ D := ne_of_none hl hD
    refine lc_list (xs := [V.int c]) (fun i H' => (∀ b o, H1 b = some o → H' b = some o) ∧ ((i = 0 ∧ H' D = some (.lst [])) ∨ (i = 1 ∧ ∃ (d : Addr) (x y z : Int), D ≠ d ∧ H' D = some (.lst [.ref d]) ∧ H' d = some (.lst [.int x, .int y, .int z])))) ⟨fun b o e => by rw [upd_ne (ne_of_none e hD)]; exact e, .inl ⟨rfl, upd_same⟩⟩
      (fun i H' _ p => SqL.of (p.1 _ _ hl)) (fun i x H' hx p => ?_) fun H' p => ?_
    · obtain ⟨p1, p2⟩ := p
      cases i with
      | succ i => simp at hx
      | zero =>
        cases hx
        rcases p2 with ⟨_, hDl⟩ | ⟨h, _⟩
        case inr => cases h
        refine ⟨rfl, _, rfl, c, rfl, fun d x y z hd => ?_⟩
        have hDd : D ≠ d := ne_of_none hDl hd
        refine ⟨[], by rw [upd_ne hDd]; exact hDl, by rw [sizeLine_eq]; decide, fun b o e => ?_, .inr ⟨rfl, d, x, y, z, hDd, upd_same, by rw [upd_ne hDd.symm]; exact upd_same⟩⟩
        rw [upd_ne (ne_of_none e hD), upd_ne (ne_of_none (p1 b o e) hd)]
        exact p1 b o e
    · obtain ⟨p1, p2⟩ := p
      rcases p2 with ⟨h, _⟩ | ⟨_, d, x, y, z, n, h1, h2⟩
      · cases h
      · exact k H' D d x y z (fun b o e => p1 b o (e1 b o e)) n h1 h2
  refine ⟨_, rfl, _, rfl, _, rfl, a, _, rfl, hS, fun l hl => ?_⟩
  have dnil : ∀ {H2 : Hp} {q : Addr}, H2 q = some (.lst []) → Dp K H2 (.ref q) (.list []) := fun h => .lst (SqL.of h) .nil
  cases ns with
  | nil =>
    refine ⟨_, rfl, Nat.zero_le _, fun l2 hl2 => ⟨.list [], .list [], dnil ?_, dnil upd_same, by decide, by decide, _, rfl, ite2 (fun _ => ⟨by rw [sizeLine_eq]; decide, fun l3 hl3 => fin _ l3 0 (fun b o e => ?_) upd_same⟩) (fun h => absurd rfl h)⟩⟩
    · have n : l ≠ l2 := fun e => by rw [← e, upd_same] at hl2; cases hl2
      rw [upd_ne n]; exact upd_same
    · have e1 := (upd_ne (o := .lst (cutV ([].map V.int) none (some 1))) (ne_of_none e hl)).trans e
      have e2 := (upd_ne (o := .lst []) (ne_of_none e1 hl2)).trans e1
      exact (upd_ne (o := .lst [V.int 0]) (ne_of_none e2 hl3)).trans e2
  | cons c r =>
    have cv : cutV ((c :: r).map V.int) none (some 1) = [V.int c] := by
      show (List.take (HT.sIx _ _ (some ((1 : Nat) : Int)) - 0) _) = _
      rw [HT.sIx_nat, HT.sIx_none]
      simp
    rw [cv] at *
    refine ⟨_, rfl, Nat.zero_le _, fun l2 hl2 => ⟨.list [.int c], .list [], .lst (xs := [V.int c]) (SqL.of ?_) (.cons (.int c) .nil), dnil upd_same, rfl, by decide, _, rfl, ite2 (fun h => nomatch h) (fun _ => fin _ l c (fun b o e => ?_) ?_)⟩⟩
    · have n : l ≠ l2 := fun e => by rw [← e, upd_same] at hl2; cases hl2
      rw [upd_ne n]; exact upd_same
    · have e1 := (upd_ne (o := .lst [V.int c]) (ne_of_none e hl)).trans e
      exact (upd_ne (o := .lst []) (ne_of_none e1 hl2)).trans e1
    · have n : l ≠ l2 := fun e => by rw [← e, upd_same] at hl2; cases hl2
      rw [upd_ne n]; exact upd_same
theorem fo_letters {X : Cx} (T : Txt w X.K mg base a) : FldOk X (gm X.K w a xs) "letters" fx_letters := fun c j e => by
  unfold fx_letters at e
  split at e
  · cases e; exact ⟨T.c_Key, T.n_Key_letters, rfl, show (["letters"] : List Str).Nodup by decide +kernel⟩
  · cases e
theorem tm_check_text : (a.t_check_text, ("check_text" : Str) ++ ".<locals>.") ∈ tabsA a := by unfold tabsA; simp
theorem tm_word_of_shifts : (a.t_word_of_shifts, ("word_of_shifts" : Str) ++ ".<locals>.") ∈ tabsA a := by unfold tabsA; simp
theorem tm_alike_places : (a.t_alike_places, ("alike_places" : Str) ++ ".<locals>.") ∈ tabsA a := by unfold tabsA; simp
theorem tm_law_cases1 : (a.t_law_cases1, ("_law_cases1" : Str) ++ ".<locals>.") ∈ tabsA a := by unfold tabsA; simp
theorem tm_law_rest1 : (a.t_law_rest1, ("_law_rest1" : Str) ++ ".<locals>.") ∈ tabsA a := by unfold tabsA; simp
theorem tabs_u (T : Txt w K mg base a) : ∀ p ∈ tabsA a, ∀ q ∈ tabsA a, p.1 = q.1 → p.2 = q.2 := by
  intro p hp q hq e
  unfold tabsA at hp hq
  simp only [List.mem_cons, List.not_mem_nil, or_false] at hp hq
  rcases hp with rfl | rfl | rfl | rfl | rfl
  · rcases hq with rfl | rfl | rfl | rfl | rfl
    · rfl
    · exact (T.ne_check_text_word_of_shifts e).elim
    · exact (T.ne_check_text_alike_places e).elim
    · exact (T.ne_check_text_law_cases1 e).elim
    · exact (T.ne_check_text_law_rest1 e).elim
  · rcases hq with rfl | rfl | rfl | rfl | rfl
    · exact (T.ne_check_text_word_of_shifts e.symm).elim
    · rfl
    · exact (T.ne_word_of_shifts_alike_places e).elim
    · exact (T.ne_word_of_shifts_law_cases1 e).elim
    · exact (T.ne_word_of_shifts_law_rest1 e).elim
  · rcases hq with rfl | rfl | rfl | rfl | rfl
    · exact (T.ne_check_text_alike_places e.symm).elim
    · exact (T.ne_word_of_shifts_alike_places e.symm).elim
    · rfl
    · exact (T.ne_alike_places_law_cases1 e).elim
    · exact (T.ne_alike_places_law_rest1 e).elim
  · rcases hq with rfl | rfl | rfl | rfl | rfl
    · exact (T.ne_check_text_law_cases1 e.symm).elim
    · exact (T.ne_word_of_shifts_law_cases1 e.symm).elim
    · exact (T.ne_alike_places_law_cases1 e.symm).elim
    · rfl
    · exact (T.ne_law_cases1_law_rest1 e).elim
  · rcases hq with rfl | rfl | rfl | rfl | rfl
    · exact (T.ne_check_text_law_rest1 e.symm).elim
    · exact (T.ne_word_of_shifts_law_rest1 e.symm).elim
    · exact (T.ne_alike_places_law_rest1 e.symm).elim
    · exact (T.ne_law_cases1_law_rest1 e.symm).elim
    · rfl
theorem gives_told {X : Cx} {cdg : Value} {g : Addr} (T : Txt w K mg base a) (hK : X.K = K) (hm : X.mg = mg) : GivesN X ["what"] "_law_told" (defScope s_law_told) g cdg (defBody s_law_told) "what" (TTm X.K (toldL.map fun p => ((gm K w a xs).xcls p.1, (⟨p.2.toArray⟩ : Str)))) := by
  subst hm
  exact told_many (X := X) (.cons (by rfl) T.x_BadBook.2.1 (by decide) (.cons (by rfl) T.x_BadFlag.2.1 (by decide) (.cons (by rfl) T.x_BadFleet.2.1 (by decide) (.cons (by rfl) T.x_BadHoist.2.1 (by decide) (.cons (by rfl) T.x_Foul (by decide) (.cons (by rfl) T.x_NoWay.2.1 (by decide) (.cons (by rfl) T.x_TooLarge.2.1 (by decide) (.cons (by rfl) T.x_Unclear (by decide) (.cons (by rfl) T.x_BadText (by decide) .nil))))))))) (fun _ => rfl)
theorem k_law_roll (T : Txt w K mg base a) : FnD P w K mg base (gm K w a xs) 1 "_law_roll" a.f_law_roll 2 rollD := by
  obtain ⟨fd, F, bd⟩ := T.e_law_roll
  exact ⟨⟨fd, _, rfl, ok_roll F T.b_int, bd⟩, rollD_len, F.kp, T.g_law_roll⟩
def F_law_word : LE → R Out :=
    (retS (bmE "str" joinD (cst (.str [])) (acons (lE (compF (rng1E (acons (opE addD (cst (.int 1)) (callE rollD (acons (var 0) (acons (var 1) anil)))) anil)) (gN 2) yesT (subE (cst (.str [97, 98, 99, 120, 121, 122])) (callE rollD (acons (var 0) (acons (cst (.int 6)) anil)))) [2])) anil)))
def D_law_word : List D → R D := runF 2 3 F_law_word
theorem k_law_word (T : Txt w K mg base a) : FnD P w K mg base (gm K w a xs) 2 "_law_word" a.f_law_word 2 D_law_word := by
  exact fnD_E T.e_law_word sc_law_word T.g_law_word rfl rfl fun cdv A outer s H E hr =>
    (dss_one (ds_ret (de_bm (bm_join rfl) rfl (DE.p (de_str [])) (dap_cons (DE.p (DF.e (df_comp (own := [("k", 2)]) rfl sc_law_word.nd (DI.e (di_rng1 rfl T.b_range (da_cons (de_op (op_add_d rfl) (DE.p de_int) (DE.p (de_call (k_law_roll T) (hr.mono (by decide)) takes_cxD (da_cons (de_var 0) (da_cons (de_var 1) da_nil))))) da_nil))) (blkOk_by (N := ["dice", "most", "k"]) (sc := defScope s_law_word) (by decide +kernel)) (fun _ _ _ _ _ => (dg_name 2 sc_law_word.nd)) (fun _ _ _ _ _ => dts_nil) (fun _ _ _ _ _ => (de_sub rfl rfl (huD hr) (DE.p (de_str [97, 98, 99, 120, 121, 122])) (DE.p (de_call (k_law_roll T) (hr.mono (by decide)) takes0D (da_cons (de_var 0) (da_cons de_int da_nil)))) fun _ _ => rfl)) (by decide)))) dap_nil))))
def F_check_text : LE → R Out :=
    (ifS (valT (anyE true (itB (var 0)) (gN 1) yesT (opE notInD (var 1) (cst d_LETTERS)) [1]))
    (errS ⟨3, .non⟩)
    skipS)
def D_check_text : List D → R D := runF 1 2 F_check_text
theorem k_check_text (T : Txt w K mg base a) : FnD P w K mg base (gm K w a xs) 2 "check_text" a.f_check_text 1 D_check_text := by
  obtain ⟨oc0, od0, kV0, doc0, pm0, an0, cdv0, ct0, osl0, lk0, cd0, kp0, bd0⟩ := T.l_told
  exact fnD_C T.e_check_text sc_check_text T.g_check_text rfl rfl fun A outer s H E hr =>
    (dss_one (ds_if (dt_val (de_any (k := 0) (own := [("sign", 1)]) (hr.mono (by decide)) rfl T.b_any (mk_def T.tb_check_text rfl tm_check_text) sc_check_text.nd (DI.e (di_anyB rfl (de_var 0))) (blkOk_by (N := ["text", "sign"]) (sc := defScope s_check_text) (by decide +kernel)) (genOk_by (by decide +kernel)) (fun _ _ _ _ _ _ _ _ hrg mk1_ => (dg_name 1 sc_check_text.nd)) (fun _ _ _ _ _ _ _ _ hrg mk1_ => dts_nil) (fun _ _ _ _ _ _ _ _ hrg mk1_ => (de_cmp (op_notin_d rfl (huD hrg)) (DE.p (de_var 1)) (DE.p (de_gl (T.v_LETTERS _))))) (by decide)))
    (dss_one (ds_raise 3 takes_cxD rfl PySem.F.excBase_ValueError rfl rfl T.x_BadBook.1 T.x_BadBook.2.1 T.x_BadBook.2.2.1 (raises_own T.x_BadBook.2.2.2.1 T.x_BadBook.2.2.2.2)))
    dss_nil))
def F_Key_init : LE → R Out :=
    (seqS (ifS (cmpT neD (lE (callF sortedT (acons (var 1) anil))) (lE (callF listK (acons (cst d_LETTERS) anil))))
    (errS ⟨3, .non⟩)
    skipS)
    (fldS fx_letters (var 1)))
def D_Key_init : List D → R D := runI 0 1 1 2 F_Key_init
theorem k_Key_init (T : Txt w K mg base a) : MkD P w K mg base (gm K w a xs) 1 0 "Key" 1 D_Key_init := by
  exact mkD_E (G := gm K w a xs) (c := 0) T.e_Key_init sc_Key_init T.mk_Key T.g_Key rfl rfl rfl fun cdv A outer s H E hr =>
    (dss_cons (ds_if (dt_cmp (op_ne_d rfl (huD64 hr)) (DE.p (DF.e (df_callB (cf_sortedT rfl rfl (huD hr)) T.b_sorted rfl (dap_cons (DE.p (de_var 1)) dap_nil)))) (DE.p (DF.e (df_callT (cf_listK rfl rfl) T.b_list rfl (dap_cons (DE.p (de_gl (T.v_LETTERS _))) dap_nil)))))
    (dss_one (ds_raise 3 takes_cxD rfl PySem.F.excBase_ValueError rfl rfl T.x_BadBook.1 T.x_BadBook.2.1 T.x_BadBook.2.2.1 (raises_own T.x_BadBook.2.2.2.1 T.x_BadBook.2.2.2.2)))
    dss_nil)
    (dss_one (ds_field (fo_letters T) hsz (de_var 1))))
def F_key_of_word : LE → R Out :=
    (seqS (dropS (callE D_check_text (acons (var 0) anil)))
    (seqS (setK 1 (valK (cst (.str []))))
    (seqS (forS (itB (opE addD (var 0) (cst d_LETTERS))) (gN 2)
    (ifS (cmpT notInD (var 2) (var 1))
    (setK 1 (valK (opE iaddD (var 1) (var 2))))
    skipS))
    (retS (callE D_Key_init (acons (var 1) anil))))))
def D_key_of_word : List D → R D := runF 1 3 F_key_of_word
theorem k_key_of_word (T : Txt w K mg base a) : FnD P w K mg base (gm K w a xs) 3 "key_of_word" a.f_key_of_word 1 D_key_of_word := by
  exact fnD_E T.e_key_of_word sc_key_of_word T.g_key_of_word rfl rfl fun cdv A outer s H E hr =>
    (dss_cons (ds_expr (de_call (k_check_text T) (hr.mono (by decide)) takes_cxD (da_cons (de_var 0) da_nil)))
    (dss_cons (ds_set 1 (DE.k (de_str [])) (by decide) sc_key_of_word.nd)
    (dss_cons (ds_for owns_cxD rfl (di_anyB rfl (de_op (op_add_d rfl) (DE.p (de_var 0)) (DE.p (de_gl (T.v_LETTERS _))))) (dg_name 2 sc_key_of_word.nd)
    (dss_one (ds_if (dt_cmp (op_notin_d rfl (huD hr)) (DE.p (de_var 2)) (DE.p (de_var 1)))
    (dss_one (ds_aug 1 oi_add sc_key_of_word.nd (de_var 2)))
    dss_nil)))
    (dss_one (ds_ret (de_make (k_Key_init T) (hr.mono (by decide)) takes_cxD (da_cons (de_var 1) da_nil)))))))
def F_law_key : LE → R Out :=
    (seqS (setK 1 (ownK (lstE anil)))
    (seqS (forS (itB (opE addD (var 0) (cst (.str [97, 98, 99, 100, 101, 102, 103, 104, 105, 106, 107, 108, 109, 110, 111, 112, 113, 114, 115, 116, 117, 118, 119, 120, 121, 122])))) (gN 2)
    (ifS (cmpT notInD (var 2) (varP 1))
    (appS 1 (var 2))
    skipS))
    (retS (bmE "str" joinD (cst (.str [])) (acons (varP 1) anil)))))
def D_law_key : List D → R D := runF 1 3 F_law_key
theorem k_law_key (T : Txt w K mg base a) : FnD P w K mg base (gm K w a xs) 1 "_law_key" a.f_law_key 1 D_law_key := by
  exact fnD_E T.e_law_key sc_law_key T.g_law_key rfl rfl fun cdv A outer s H E hr =>
    (dss_cons (ds_set 1 (DF.k (df_lst da_nil)) (by decide) sc_law_key.nd)
    (dss_cons (ds_for owns_cxD rfl (di_anyB rfl (de_op (op_add_d rfl) (DE.p (de_var 0)) (DE.p (de_str [97, 98, 99, 100, 101, 102, 103, 104, 105, 106, 107, 108, 109, 110, 111, 112, 113, 114, 115, 116, 117, 118, 119, 120, 121, 122])))) (dg_name 2 sc_law_key.nd)
    (dss_one (ds_if (dt_cmp (op_notin_d rfl (huD hr)) (DE.p (de_var 2)) (dp_var 1))
    (dss_one (ds_append 1 (de_var 2)))
    dss_nil)))
    (dss_one (ds_ret (de_bm (bm_join rfl) rfl (DE.p (de_str [])) (dap_cons (dp_var 1) dap_nil))))))
def F_Key_changed : LE → R Out :=
    (seqS (dropS (callE D_check_text (acons (var 1) anil)))
    (retS (bmE "str" joinD (cst (.str [])) (acons (lE (compF (itB (var 1)) (gN 2) yesT (subE (fldE fx_letters (var 0)) (bmE "str" sidxD (cst d_LETTERS) (acons (var 2) anil))) [2])) anil))))
def D_Key_changed : List D → R D := runF 2 3 F_Key_changed
theorem k_Key_changed (T : Txt w K mg base a) : MeD P w K mg base (gm K w a xs) 3 0 "changed" 2 D_Key_changed := by
  exact meD_E (G := gm K w a xs) (c := 0) T.e_Key_changed sc_Key_changed T.mt_Key_changed T.c_Key (show ("changed" : Str) ∉ (["letters"] : List Str) by decide +kernel) rfl rfl fun cdv A outer s H E hr =>
    (dss_cons (ds_expr (de_call (k_check_text T) (hr.mono (by decide)) takes_cxD (da_cons (de_var 1) da_nil)))
    (dss_one (ds_ret (de_bm (bm_join rfl) rfl (DE.p (de_str [])) (dap_cons (DE.p (DF.e (df_comp (own := [("sign", 2)]) rfl sc_Key_changed.nd (DI.e (di_anyB rfl (de_var 1))) (blkOk_by (N := ["self", "text", "sign"]) (sc := defScope s_Key_changed) (by decide +kernel)) (fun _ _ _ _ _ => (dg_name 2 sc_Key_changed.nd)) (fun _ _ _ _ _ => dts_nil) (fun _ _ _ _ _ => (de_sub rfl rfl (huD hr) (DE.p (de_fld (fo_letters T) (de_var 0))) (DE.p (de_bm (bm_sindex) rfl (DE.p (de_gl (T.v_LETTERS _))) (dap_cons (DE.p (de_var 2)) dap_nil))) fun _ _ => rfl)) (by decide)))) dap_nil)))))
def F_Key_undoer : LE → R Out :=
    (retS (callE D_Key_init (acons (bmE "str" joinD (cst (.str [])) (acons (lE (compF (itS (cst d_LETTERS)) (gN 1) yesT (subE (cst d_LETTERS) (bmE "str" sidxD (fldE fx_letters (var 0)) (acons (var 1) anil))) [1])) anil)) anil)))
def D_Key_undoer : List D → R D := runF 1 2 F_Key_undoer
theorem k_Key_undoer (T : Txt w K mg base a) : MeD P w K mg base (gm K w a xs) 3 0 "undoer" 1 D_Key_undoer := by
  exact meD_E (G := gm K w a xs) (c := 0) T.e_Key_undoer sc_Key_undoer T.mt_Key_undoer T.c_Key (show ("undoer" : Str) ∉ (["letters"] : List Str) by decide +kernel) rfl rfl fun cdv A outer s H E hr =>
    (dss_one (ds_ret (de_make (k_Key_init T) (hr.mono (by decide)) takes_cxD (da_cons (de_bm (bm_join rfl) rfl (DE.p (de_str [])) (dap_cons (DE.p (DF.e (df_comp (own := [("sign", 1)]) rfl sc_Key_undoer.nd (DI.e (di_str (de_gl (T.v_LETTERS _)))) (blkOk_by (N := ["self", "sign"]) (sc := defScope s_Key_undoer) (by decide +kernel)) (fun _ _ _ _ _ => (dg_name 1 sc_Key_undoer.nd)) (fun _ _ _ _ _ => dts_nil) (fun _ _ _ _ _ => (de_sub rfl rfl (huD hr) (DE.p (de_gl (T.v_LETTERS _))) (DE.p (de_bm (bm_sindex) rfl (DE.p (de_fld (fo_letters T) (de_var 0))) (dap_cons (DE.p (de_var 1)) dap_nil))) fun _ _ => rfl)) (by decide)))) dap_nil)) da_nil))))
def F_Key_behind : LE → R Out :=
    (retS (callE D_Key_init (acons (methE 0 D_Key_changed (var 0) (acons (fldE fx_letters (var 1)) anil)) anil)))
def D_Key_behind : List D → R D := runF 2 2 F_Key_behind
theorem k_Key_behind (T : Txt w K mg base a) : MeD P w K mg base (gm K w a xs) 4 0 "behind" 2 D_Key_behind := by
  exact meD_E (G := gm K w a xs) (c := 0) T.e_Key_behind sc_Key_behind T.mt_Key_behind T.c_Key (show ("behind" : Str) ∉ (["letters"] : List Str) by decide +kernel) rfl rfl fun cdv A outer s H E hr =>
    (dss_one (ds_ret (de_make (k_Key_init T) (hr.mono (by decide)) takes_cxD (da_cons (de_meth (k_Key_changed T) (hr.mono (by decide)) takes_cxD (de_var 0) (da_cons (de_fld (fo_letters T) (de_var 1)) da_nil)) da_nil))))
def F_Key_kept : LE → R Out :=
    (retS (bmE "str" joinD (cst (.str [])) (acons (lE (compF (itS (cst d_LETTERS)) (gN 1) (cmpT eqD (methE 0 D_Key_changed (var 0) (acons (var 1) anil)) (var 1)) (var 1) [1])) anil)))
def D_Key_kept : List D → R D := runF 1 2 F_Key_kept
theorem k_Key_kept (T : Txt w K mg base a) : MeD P w K mg base (gm K w a xs) 4 0 "kept" 1 D_Key_kept := by
  exact meD_E (G := gm K w a xs) (c := 0) T.e_Key_kept sc_Key_kept T.mt_Key_kept T.c_Key (show ("kept" : Str) ∉ (["letters"] : List Str) by decide +kernel) rfl rfl fun cdv A outer s H E hr =>
    (dss_one (ds_ret (de_bm (bm_join rfl) rfl (DE.p (de_str [])) (dap_cons (DE.p (DF.e (df_comp (own := [("sign", 1)]) rfl sc_Key_kept.nd (DI.e (di_str (de_gl (T.v_LETTERS _)))) (blkOk_by (N := ["self", "sign"]) (sc := defScope s_Key_kept) (by decide +kernel)) (fun _ _ _ _ _ => (dg_name 1 sc_Key_kept.nd)) (fun _ _ _ _ _ => (dts_one (dt_cmp (op_eq_d rfl (huD64 hr)) (DE.p (de_meth (k_Key_changed T) (hr.mono (by decide)) takes0D (de_var 0) (da_cons (de_var 1) da_nil))) (DE.p (de_var 1))))) (fun _ _ _ _ _ => (de_var 1)) (by decide)))) dap_nil))))
def F_Key_rounds : LE → R Out :=
    (seqS (parK 1 2 nodic (ownK (lstE anil)))
    (seqS (forS (itS (cst d_LETTERS)) (gN 3)
    (ifS (cmpT notInD (var 3) (varP 1))
    (seqS (parK 4 5 (valK (cst (.str []))) (valK (var 3)))
    (seqS (whileS 100 (cmpT notInD (var 5) (varP 1))
    (seqS (stodS 1 (cst (.bl true)) (var 5))
    (seqS (setK 4 (valK (opE iaddD (var 4) (var 5))))
    (setK 5 (valK (methE 0 D_Key_changed (var 0) (acons (var 5) anil)))))))
    (appS 2 (var 4))))
    skipS))
    (retS (callE tupleD (acons (varP 2) anil)))))
def D_Key_rounds : List D → R D := runF 1 6 F_Key_rounds
theorem k_Key_rounds (T : Txt w K mg base a) : MeD P w K mg base (gm K w a xs) 4 0 "rounds" 1 D_Key_rounds := by
  exact meD_E (G := gm K w a xs) (c := 0) T.e_Key_rounds sc_Key_rounds T.mt_Key_rounds T.c_Key (show ("rounds" : Str) ∉ (["letters"] : List Str) by decide +kernel) rfl rfl fun cdv A outer s H E hr =>
    (dss_cons (ds_par 1 2 rfl sc_Key_rounds.nd (by decide) (by decide) (by decide) dk_nodic (DF.k (df_lst da_nil)))
    (dss_cons (ds_for owns_cxD rfl (di_str (de_gl (T.v_LETTERS _))) (dg_name 3 sc_Key_rounds.nd)
    (dss_one (ds_if (dt_cmp (op_notin_d rfl (huD hr)) (DE.p (de_var 3)) (dp_var 1))
    (dss_cons (ds_par 4 5 rfl sc_Key_rounds.nd (by decide) (by decide) (by decide) (DE.k (de_str [])) (DE.k (de_var 3)))
    (dss_cons (ds_while 100 owns_cxD (dt_cmp (op_notin_d rfl (huD hr)) (DE.p (de_var 5)) (dp_var 1))
    (dss_cons (ds_stored 1 (hu1 hr) de_bl (de_var 5))
    (dss_cons (ds_aug 4 oi_add sc_Key_rounds.nd (de_var 5))
    (dss_one (ds_set 5 (DE.k (de_meth (k_Key_changed T) (hr.mono (by decide)) takes_cxD (de_var 0) (da_cons (de_var 5) da_nil))) (by decide) sc_Key_rounds.nd)))))
    (dss_one (ds_append 2 (de_var 4)))))
    dss_nil)))
    (dss_one (ds_ret (de_callT (cd_tuple rfl) T.b_tuple rfl (dap_cons (dp_var 2) dap_nil))))))
def F_Key_times_home : LE → R Out :=
    (seqS (setK 1 (valK (cst (.int 1))))
    (seqS (forS (itB (meth0E 0 D_Key_rounds (var 0))) (gN 2)
    (seqS (parK 3 4 (valK (var 1)) (valK (callE lenX (acons (var 2) anil))))
    (seqS (whileS 100 (cmpT neD (var 4) (cst (.int 0)))
    (parK 3 4 (valK (var 4)) (valK (opE modD (var 3) (var 4)))))
    (setK 1 (valK (opE fdivD (opE mulD (var 1) (callE lenX (acons (var 2) anil))) (var 3)))))))
    (retS (var 1))))
def D_Key_times_home : List D → R D := runF 1 5 F_Key_times_home
theorem k_Key_times_home (T : Txt w K mg base a) : MeD P w K mg base (gm K w a xs) 5 0 "times_home" 1 D_Key_times_home := by
  exact meD_E (G := gm K w a xs) (c := 0) T.e_Key_times_home sc_Key_times_home T.mt_Key_times_home T.c_Key (show ("times_home" : Str) ∉ (["letters"] : List Str) by decide +kernel) rfl rfl fun cdv A outer s H E hr =>
    (dss_cons (ds_set 1 (DE.k de_int) (by decide) sc_Key_times_home.nd)
    (dss_cons (ds_for owns_cxD rfl (di_anyB rfl (de_meth0 (k_Key_rounds T) (hr.mono (by decide)) takes_cxD (de_var 0))) (dg_name 2 sc_Key_times_home.nd)
    (dss_cons (ds_par 3 4 rfl sc_Key_times_home.nd (by decide) (by decide) (by decide) (DE.k (de_var 1)) (DE.k (de_callB (cd_lenX rfl) T.b_len rfl (dap_cons (DE.p (de_var 2)) dap_nil))))
    (dss_cons (ds_while 100 owns_cxD (dt_cmp (op_ne_d rfl (huD64 hr)) (DE.p (de_var 4)) (DE.p de_int))
    (dss_one (ds_par 3 4 rfl sc_Key_times_home.nd (by decide) (by decide) (by decide) (DE.k (de_var 4)) (DE.k (de_op (op_mod_d) (DE.p (de_var 3)) (DE.p (de_var 4)))))))
    (dss_one (ds_set 1 (DE.k (de_op (op_fdiv_d) (DE.p (de_op (op_mul_d) (DE.p (de_var 1)) (DE.p (de_callB (cd_lenX rfl) T.b_len rfl (dap_cons (DE.p (de_var 2)) dap_nil))))) (DE.p (de_var 3)))) (by decide) sc_Key_times_home.nd)))))
    (dss_one (ds_ret (de_var 1)))))
def F_Key_is_own_undoer : LE → R Out :=
    (retS (opE eqD (fldE fx_letters (meth0E 0 D_Key_undoer (var 0))) (fldE fx_letters (var 0))))
def D_Key_is_own_undoer : List D → R D := runF 1 1 F_Key_is_own_undoer
theorem k_Key_is_own_undoer (T : Txt w K mg base a) : MeD P w K mg base (gm K w a xs) 4 0 "is_own_undoer" 1 D_Key_is_own_undoer := by
  exact meD_E (G := gm K w a xs) (c := 0) T.e_Key_is_own_undoer sc_Key_is_own_undoer T.mt_Key_is_own_undoer T.c_Key (show ("is_own_undoer" : Str) ∉ (["letters"] : List Str) by decide +kernel) rfl rfl fun cdv A outer s H E hr =>
    (dss_one (ds_ret (de_cmp (op_eq_d rfl (huD64 hr)) (DE.p (de_fld (fo_letters T) (de_meth0 (k_Key_undoer T) (hr.mono (by decide)) takes_cxD (de_var 0)))) (DE.p (de_fld (fo_letters T) (de_var 0))))))
def F_shift_key : LE → R Out :=
    (seqS (setK 1 (valK (opE modD (var 0) (cst (.int 26)))))
    (retS (callE D_Key_init (acons (opE addD (sliceE (cst d_LETTERS) (someP (var 1)) noP) (sliceE (cst d_LETTERS) noP (someP (var 1)))) anil))))
def D_shift_key : List D → R D := runF 1 2 F_shift_key
theorem k_shift_key (T : Txt w K mg base a) : FnD P w K mg base (gm K w a xs) 3 "shift_key" a.f_shift_key 1 D_shift_key := by
  exact fnD_E T.e_shift_key sc_shift_key T.g_shift_key rfl rfl fun cdv A outer s H E hr =>
    (dss_cons (ds_set 1 (DE.k (de_op (op_mod_d) (DE.p (de_var 0)) (DE.p de_int))) (by decide) sc_shift_key.nd)
    (dss_one (ds_ret (de_make (k_Key_init T) (hr.mono (by decide)) takes_cxD (da_cons (de_op (op_add_d rfl) (DE.p (de_slice rfl (DE.p (de_gl (T.v_LETTERS _))) (do_some (DE.p (de_var 1))) do_none)) (DE.p (de_slice rfl (DE.p (de_gl (T.v_LETTERS _))) do_none (do_some (DE.p (de_var 1)))))) da_nil)))))
def F_shifted_by : LE → R Out :=
    (seqS (dropS (callE D_check_text (acons (var 0) anil)))
    (seqS (dropS (callE D_check_text (acons (var 1) anil)))
    (seqS (ifS (orT (cmpT eqD (var 1) (cst (.str []))) (cmpT notInD (var 2) (tupE (acons (cst (.int 1)) (acons (negE (cst (.int 1))) anil)))))
    (errS ⟨3, .non⟩)
    skipS)
    (seqS (setK 3 (valK (cst (.str []))))
    (seqS (forS (enumQE (acons (var 0) anil)) (gTup_ 2 (gCons_ (gN 4) (gCons_ (gN 5) gNil_)))
    (seqS (setK 6 (valK (opE mulD (var 2) (bmE "str" sidxD (cst d_LETTERS) (acons (subE (var 1) (opE modD (var 4) (callE lenX (acons (var 1) anil)))) anil)))))
    (setK 3 (valK (opE iaddD (var 3) (subE (cst d_LETTERS) (opE modD (opE addD (bmE "str" sidxD (cst d_LETTERS) (acons (var 5) anil)) (var 6)) (cst (.int 26)))))))))
    (retS (var 3)))))))
def D_shifted_by : List D → R D := runF 3 7 F_shifted_by
theorem k_shifted_by (T : Txt w K mg base a) : FnD P w K mg base (gm K w a xs) 3 "shifted_by" a.f_shifted_by 3 D_shifted_by := by
  exact fnD_E T.e_shifted_by sc_shifted_by T.g_shifted_by rfl rfl fun cdv A outer s H E hr =>
    (dss_cons (ds_expr (de_call (k_check_text T) (hr.mono (by decide)) takes_cxD (da_cons (de_var 0) da_nil)))
    (dss_cons (ds_expr (de_call (k_check_text T) (hr.mono (by decide)) takes_cxD (da_cons (de_var 1) da_nil)))
    (dss_cons (ds_if (dt_w (dw_or (dt_cmp (op_eq_d rfl (huD64 hr)) (DE.p (de_var 1)) (DE.p (de_str []))) (dw_or1 (dt_cmp (op_notin_d rfl (huD hr)) (DE.p (de_var 2)) (DE.p (de_tup (da_cons de_int (da_cons (de_neg (DE.p de_int)) da_nil))))))))
    (dss_one (ds_raise 3 takes_cxD rfl PySem.F.excBase_ValueError rfl rfl T.x_BadBook.1 T.x_BadBook.2.1 T.x_BadBook.2.2.1 (raises_own T.x_BadBook.2.2.2.1 T.x_BadBook.2.2.2.2)))
    dss_nil)
    (dss_cons (ds_set 3 (DE.k (de_str [])) (by decide) sc_shifted_by.nd)
    (dss_cons (ds_for owns_cxD rfl (di_enum2 rfl rfl T.b_enumerate (da_cons (de_var 0) da_nil)) (dg_tup rfl rfl (dgs_cons (dg_name 4 sc_shifted_by.nd) (dgs_cons (dg_name 5 sc_shifted_by.nd) dgs_nil)))
    (dss_cons (ds_set 6 (DE.k (de_op (op_mul_d) (DE.p (de_var 2)) (DE.p (de_bm (bm_sindex) rfl (DE.p (de_gl (T.v_LETTERS _))) (dap_cons (DE.p (de_sub rfl rfl (huD hr) (DE.p (de_var 1)) (DE.p (de_op (op_mod_d) (DE.p (de_var 4)) (DE.p (de_callB (cd_lenX rfl) T.b_len rfl (dap_cons (DE.p (de_var 1)) dap_nil))))) fun _ _ => rfl)) dap_nil))))) (by decide) sc_shifted_by.nd)
    (dss_one (ds_aug 3 oi_add sc_shifted_by.nd (de_sub rfl rfl (huD hr) (DE.p (de_gl (T.v_LETTERS _))) (DE.p (de_op (op_mod_d) (DE.p (de_op (op_add_d rfl) (DE.p (de_bm (bm_sindex) rfl (DE.p (de_gl (T.v_LETTERS _))) (dap_cons (DE.p (de_var 5)) dap_nil))) (DE.p (de_var 6)))) (DE.p de_int))) fun _ _ => rfl)))))
    (dss_one (ds_ret (de_var 3))))))))
def F_law_moves : LE → R Out :=
    (seqS (parK 2 3 (ownK (lrg1E (var 1))) (ownK (lstE anil)))
    (seqS (forS (rng1E (acons (var 1) anil)) (gN 4)
    (appPopS 3 2 (callE rollD (acons (var 0) (acons (callE lenX (acons (varP 2) anil)) anil)))))
    (retS (callE tupleD (acons (varP 3) anil)))))
def D_law_moves : List D → R D := runF 2 5 F_law_moves
theorem k_law_moves (T : Txt w K mg base a) : FnD P w K mg base (gm K w a xs) 2 "_law_moves" a.f_law_moves 2 D_law_moves := by
  exact fnD_E T.e_law_moves sc_law_moves T.g_law_moves rfl rfl fun cdv A outer s H E hr =>
    (dss_cons (ds_par 2 3 rfl sc_law_moves.nd (by decide) (by decide) (by decide) (DF.k (df_listRg1 rfl rfl T.b_list rfl T.b_range (de_var 1))) (DF.k (df_lst da_nil)))
    (dss_cons (ds_for owns_cxD rfl (di_rng1 rfl T.b_range (da_cons (de_var 1) da_nil)) (dg_name 4 sc_law_moves.nd)
    (dss_one (ds_apppop 3 2 (by decide) (de_call (k_law_roll T) (hr.mono (by decide)) takes_cxD (da_cons (de_var 0) (da_cons (de_callB (cd_lenX rfl) T.b_len rfl (dap_cons (dp_var 2) dap_nil)) da_nil))))))
    (dss_one (ds_ret (de_callT (cd_tuple rfl) T.b_tuple rfl (dap_cons (dp_var 3) dap_nil))))))
def F_in_columns : LE → R Out :=
    (seqS (ifS (orT (cmpT neD (lE (callF sortedT (acons (var 1) anil))) (lE (lrg1E (callE lenX (acons (var 1) anil))))) (cmpT eqD (callE lenX (acons (var 1) anil)) (cst (.int 0))))
    (errS ⟨3, .non⟩)
    skipS)
    (retS (bmE "str" joinD (cst (.str [])) (acons (lE (compF (itB (var 1)) (gN 2) yesT (stepE (var 0) (var 2) (callE lenX (acons (var 1) anil))) [2])) anil))))
def D_in_columns : List D → R D := runF 2 3 F_in_columns
theorem k_in_columns (T : Txt w K mg base a) : FnD P w K mg base (gm K w a xs) 1 "in_columns" a.f_in_columns 2 D_in_columns := by
  exact fnD_E T.e_in_columns sc_in_columns T.g_in_columns rfl rfl fun cdv A outer s H E hr =>
    (dss_cons (ds_if (dt_w (dw_or (dt_cmp (op_ne_d rfl (huD64 hr)) (DE.p (DF.e (df_callB (cf_sortedT rfl rfl (huD hr)) T.b_sorted rfl (dap_cons (DE.p (de_var 1)) dap_nil)))) (DE.p (DF.e (df_listRg1 rfl rfl T.b_list rfl T.b_range (de_callB (cd_lenX rfl) T.b_len rfl (dap_cons (DE.p (de_var 1)) dap_nil)))))) (dw_or1 (dt_cmp (op_eq_d rfl (huD64 hr)) (DE.p (de_callB (cd_lenX rfl) T.b_len rfl (dap_cons (DE.p (de_var 1)) dap_nil))) (DE.p de_int)))))
    (dss_one (ds_raise 3 takes_cxD rfl PySem.F.excBase_ValueError rfl rfl T.x_BadBook.1 T.x_BadBook.2.1 T.x_BadBook.2.2.1 (raises_own T.x_BadBook.2.2.2.1 T.x_BadBook.2.2.2.2)))
    dss_nil)
    (dss_one (ds_ret (de_bm (bm_join rfl) rfl (DE.p (de_str [])) (dap_cons (DE.p (DF.e (df_comp (own := [("column", 2)]) rfl sc_in_columns.nd (DI.e (di_anyB rfl (de_var 1))) (blkOk_by (N := ["text", "order", "column"]) (sc := defScope s_in_columns) (by decide +kernel)) (fun _ _ _ _ _ => (dg_name 2 sc_in_columns.nd)) (fun _ _ _ _ _ => dts_nil) (fun _ _ _ _ _ => (de_sliceStep (de_var 0) (de_var 2) (de_callB (cd_lenX rfl) T.b_len rfl (dap_cons (DE.p (de_var 1)) dap_nil)))) (by decide)))) dap_nil)))))
def F_out_of_columns : LE → R Out :=
    (seqS (ifS (orT (cmpT neD (lE (callF sortedT (acons (var 1) anil))) (lE (lrg1E (callE lenX (acons (var 1) anil))))) (cmpT eqD (callE lenX (acons (var 1) anil)) (cst (.int 0))))
    (errS ⟨3, .non⟩)
    skipS)
    (seqS (setK 2 (valK (callE lenX (acons (var 1) anil))))
    (seqS (par2oS 3 4 nodic (cst (.int 0)))
    (seqS (forS (itB (var 1)) (gN 5)
    (seqS (setK 6 (valK (opE addD (opE fdivD (callE lenX (acons (var 0) anil)) (var 2)) (iteE (cmpT ltD (var 5) (opE modD (callE lenX (acons (var 0) anil)) (var 2))) (cst (.int 1)) (cst (.int 0))))))
    (seqS (stodS 3 (sliceE (var 0) (someP (var 4)) (someP (opE addD (var 4) (var 6)))) (var 5))
    (setK 4 (valK (opE iaddD (var 4) (var 6)))))))
    (retS (bmE "str" joinD (cst (.str [])) (acons (lE (compF (rng1E (acons (callE lenX (acons (var 0) anil)) anil)) (gN 7) yesT (subE (subE (varP 3) (opE modD (var 7) (var 2))) (opE fdivD (var 7) (var 2))) [7])) anil)))))))
def D_out_of_columns : List D → R D := runF 2 8 F_out_of_columns
theorem k_out_of_columns (T : Txt w K mg base a) : FnD P w K mg base (gm K w a xs) 1 "out_of_columns" a.f_out_of_columns 2 D_out_of_columns := by
  exact fnD_E T.e_out_of_columns sc_out_of_columns T.g_out_of_columns rfl rfl fun cdv A outer s H E hr =>
    (dss_cons (ds_if (dt_w (dw_or (dt_cmp (op_ne_d rfl (huD64 hr)) (DE.p (DF.e (df_callB (cf_sortedT rfl rfl (huD hr)) T.b_sorted rfl (dap_cons (DE.p (de_var 1)) dap_nil)))) (DE.p (DF.e (df_listRg1 rfl rfl T.b_list rfl T.b_range (de_callB (cd_lenX rfl) T.b_len rfl (dap_cons (DE.p (de_var 1)) dap_nil)))))) (dw_or1 (dt_cmp (op_eq_d rfl (huD64 hr)) (DE.p (de_callB (cd_lenX rfl) T.b_len rfl (dap_cons (DE.p (de_var 1)) dap_nil))) (DE.p de_int)))))
    (dss_one (ds_raise 3 takes_cxD rfl PySem.F.excBase_ValueError rfl rfl T.x_BadBook.1 T.x_BadBook.2.1 T.x_BadBook.2.2.1 (raises_own T.x_BadBook.2.2.2.1 T.x_BadBook.2.2.2.2)))
    dss_nil)
    (dss_cons (ds_set 2 (DE.k (de_callB (cd_lenX rfl) T.b_len rfl (dap_cons (DE.p (de_var 1)) dap_nil))) (by decide) sc_out_of_columns.nd)
    (dss_cons (ds_asg2o 3 4 rfl rfl sc_out_of_columns.nd (by decide) dk_nodic de_int)
    (dss_cons (ds_for owns_cxD rfl (di_anyB rfl (de_var 1)) (dg_name 5 sc_out_of_columns.nd)
    (dss_cons (ds_set 6 (DE.k (de_op (op_add_d rfl) (DE.p (de_op (op_fdiv_d) (DE.p (de_callB (cd_lenX rfl) T.b_len rfl (dap_cons (DE.p (de_var 0)) dap_nil))) (DE.p (de_var 2)))) (DE.p (de_if (dt_cmp (op_lt_d) (DE.p (de_var 5)) (DE.p (de_op (op_mod_d) (DE.p (de_callB (cd_lenX rfl) T.b_len rfl (dap_cons (DE.p (de_var 0)) dap_nil))) (DE.p (de_var 2))))) de_int de_int)))) (by decide) sc_out_of_columns.nd)
    (dss_cons (ds_stored 3 (hu1 hr) (de_slice rfl (DE.p (de_var 0)) (do_some (DE.p (de_var 4))) (do_some (DE.p (de_op (op_add_d rfl) (DE.p (de_var 4)) (DE.p (de_var 6)))))) (de_var 5))
    (dss_one (ds_aug 4 oi_add sc_out_of_columns.nd (de_var 6))))))
    (dss_one (ds_ret (de_bm (bm_join rfl) rfl (DE.p (de_str [])) (dap_cons (DE.p (DF.e (df_comp (own := [("k", 7)]) rfl sc_out_of_columns.nd (DI.e (di_rng1 rfl T.b_range (da_cons (de_callB (cd_lenX rfl) T.b_len rfl (dap_cons (DE.p (de_var 0)) dap_nil)) da_nil))) (blkOk_by (N := ["text", "order", "many", "columns", "place", "column", "size", "k"]) (sc := defScope s_out_of_columns) (by decide +kernel)) (fun _ _ _ _ _ => (dg_name 7 sc_out_of_columns.nd)) (fun _ _ _ _ _ => dts_nil) (fun _ _ _ _ _ => (de_sub rfl rfl (huD hr) (DE.p (de_sub rfl rfl (huD hr) (dp_var 3) (DE.p (de_op (op_mod_d) (DE.p (de_var 7)) (DE.p (de_var 2)))) fun _ _ => rfl)) (DE.p (de_op (op_fdiv_d) (DE.p (de_var 7)) (DE.p (de_var 2)))) fun _ _ => rfl)) (by decide)))) dap_nil))))))))
def F_keys_that_fit : LE → R Out :=
    (retS (callE tupleD (acons (lE (compF (rng1E (acons (callE minL (acons (var 2) (acons (cst (.int 26)) anil))) anil)) (gN 3) (cmpT eqD (methE 0 D_Key_changed (callE D_shift_key (acons (var 3) anil)) (acons (var 0) anil)) (var 1)) (var 3) [3])) anil)))
def D_keys_that_fit : List D → R D := runF 3 4 F_keys_that_fit
theorem k_keys_that_fit (T : Txt w K mg base a) : FnD P w K mg base (gm K w a xs) 4 "keys_that_fit" a.f_keys_that_fit 3 D_keys_that_fit := by
  exact fnD_E T.e_keys_that_fit sc_keys_that_fit T.g_keys_that_fit rfl rfl fun cdv A outer s H E hr =>
    (dss_one (ds_ret (de_callT (cd_tuple rfl) T.b_tuple rfl (dap_cons (DE.p (DF.e (df_comp (own := [("gap", 3)]) rfl sc_keys_that_fit.nd (DI.e (di_rng1 rfl T.b_range (da_cons (de_callB (cd_min rfl rfl (huD hr)) T.b_min rfl (dap_cons (DE.p (de_var 2)) (dap_cons (DE.p de_int) dap_nil))) da_nil))) (blkOk_by (N := ["plain", "sent", "wide", "gap"]) (sc := defScope s_keys_that_fit) (by decide +kernel)) (fun _ _ _ _ _ => (dg_name 3 sc_keys_that_fit.nd)) (fun _ _ _ _ _ => (dts_one (dt_cmp (op_eq_d rfl (huD64 hr)) (DE.p (de_meth (k_Key_changed T) (hr.mono (by decide)) takes0D (de_call (k_shift_key T) (hr.mono (by decide)) takes0D (da_cons (de_var 3) da_nil)) (da_cons (de_var 0) da_nil))) (DE.p (de_var 1))))) (fun _ _ _ _ _ => (de_var 3)) (by decide)))) dap_nil))))
def F_part_of_key : LE → R Out :=
    (seqS (dropS (callE D_check_text (acons (var 0) anil)))
    (seqS (dropS (callE D_check_text (acons (var 1) anil)))
    (seqS (ifS (cmpT neD (callE lenX (acons (var 0) anil)) (callE lenX (acons (var 1) anil)))
    (errS ⟨3, .non⟩)
    skipS)
    (seqS (par2qS 2 3 nodic nodic)
    (seqS (forS (zipE (acons (var 0) (acons (var 1) anil))) (gTup_ 2 (gCons_ (gN 4) (gCons_ (gN 5) gNil_)))
    (seqS (ifS (orT (cmpT neD (get2E (varP 2) (var 4) (var 5)) (var 5)) (cmpT neD (get2E (varP 3) (var 5) (var 4)) (var 4)))
    (errS ⟨3, .non⟩)
    skipS)
    (seqS (stodS 2 (var 5) (var 4))
    (stodS 3 (var 4) (var 5)))))
    (retS (callE dictD (acons (lE (compF (itB (lE (callF sortedT (acons (varP 2) anil)))) (gN 6) yesT (tupE (acons (var 6) (acons (subE (varP 2) (var 6)) anil))) [6])) anil))))))))
def D_part_of_key : List D → R D := runF 2 7 F_part_of_key
theorem k_part_of_key (T : Txt w K mg base a) : FnD P w K mg base (gm K w a xs) 3 "part_of_key" a.f_part_of_key 2 D_part_of_key := by
  exact fnD_E T.e_part_of_key sc_part_of_key T.g_part_of_key rfl rfl fun cdv A outer s H E hr =>
    (dss_cons (ds_expr (de_call (k_check_text T) (hr.mono (by decide)) takes_cxD (da_cons (de_var 0) da_nil)))
    (dss_cons (ds_expr (de_call (k_check_text T) (hr.mono (by decide)) takes_cxD (da_cons (de_var 1) da_nil)))
    (dss_cons (ds_if (dt_cmp (op_ne_d rfl (huD64 hr)) (DE.p (de_callB (cd_lenX rfl) T.b_len rfl (dap_cons (DE.p (de_var 0)) dap_nil))) (DE.p (de_callB (cd_lenX rfl) T.b_len rfl (dap_cons (DE.p (de_var 1)) dap_nil))))
    (dss_one (ds_raise 3 takes_cxD rfl PySem.F.excBase_ValueError rfl rfl T.x_BadBook.1 T.x_BadBook.2.1 T.x_BadBook.2.2.1 (raises_own T.x_BadBook.2.2.2.1 T.x_BadBook.2.2.2.2)))
    dss_nil)
    (dss_cons (ds_asg2q 2 3 rfl rfl sc_part_of_key.nd (by decide) (by decide) dk_nodic dk_nodic)
    (dss_cons (ds_for owns_cxD rfl (di_zip2 rfl rfl T.b_zip (da_cons (de_var 0) (da_cons (de_var 1) da_nil))) (dg_tup rfl rfl (dgs_cons (dg_name 4 sc_part_of_key.nd) (dgs_cons (dg_name 5 sc_part_of_key.nd) dgs_nil)))
    (dss_cons (ds_if (dt_w (dw_or (dt_cmp (op_ne_d rfl (huD64 hr)) (DE.p (de_get2 (hu1 hr) (dp_var 2) (DE.p (de_var 4)) (de_var 5))) (DE.p (de_var 5))) (dw_or1 (dt_cmp (op_ne_d rfl (huD64 hr)) (DE.p (de_get2 (hu1 hr) (dp_var 3) (DE.p (de_var 5)) (de_var 4))) (DE.p (de_var 4))))))
    (dss_one (ds_raise 3 takes_cxD rfl PySem.F.excBase_ValueError rfl rfl T.x_BadBook.1 T.x_BadBook.2.1 T.x_BadBook.2.2.1 (raises_own T.x_BadBook.2.2.2.1 T.x_BadBook.2.2.2.2)))
    dss_nil)
    (dss_cons (ds_stored 2 (hu1 hr) (de_var 5) (de_var 4))
    (dss_one (ds_stored 3 (hu1 hr) (de_var 4) (de_var 5))))))
    (dss_one (ds_ret (de_callT (cd_dict rfl rfl) T.b_dict rfl (dap_cons (DE.p (DF.e (df_comp (own := [("sign", 6)]) rfl sc_part_of_key.nd (DI.e (di_anyB rfl (DF.e (df_callB (cf_sortedT rfl rfl (huD hr)) T.b_sorted rfl (dap_cons (dp_var 2) dap_nil))))) (blkOk_by (N := ["plain", "sent", "found", "back", "a", "b", "sign"]) (sc := defScope s_part_of_key) (by decide +kernel)) (fun _ _ _ _ _ => (dg_name 6 sc_part_of_key.nd)) (fun _ _ _ _ _ => dts_nil) (fun _ _ _ _ _ => (de_tup (da_cons (de_var 6) (da_cons (de_sub rfl rfl (huD hr) (dp_var 2) (DE.p (de_var 6)) fun _ _ => rfl) da_nil)))) (by decide)))) dap_nil)))))))))
def F_word_of_shifts : LE → R Out :=
    (seqS (dropS (callE D_check_text (acons (var 0) anil)))
    (seqS (dropS (callE D_check_text (acons (var 1) anil)))
    (seqS (ifS (cmpT neD (callE lenX (acons (var 0) anil)) (callE lenX (acons (var 1) anil)))
    (errS ⟨3, .non⟩)
    skipS)
    (seqS (setK 3 (valK (lE (compF (zipE (acons (var 0) (acons (var 1) anil))) (gTup_ 2 (gCons_ (gN 4) (gCons_ (gN 5) gNil_))) yesT (opE modD (opE subD (bmE "str" sidxD (cst d_LETTERS) (acons (var 5) anil)) (bmE "str" sidxD (cst d_LETTERS) (acons (var 4) anil))) (cst (.int 26))) [4, 5]))))
    (seqS (forS (rng2E (acons (cst (.int 1)) (acons (opE addD (var 2) (cst (.int 1))) anil))) (gN 6)
    (ifS (valT (anyE false (rng1E (acons (callE lenX (acons (var 3) anil)) anil)) (gN 7) yesT (opE eqD (subE (var 3) (var 7)) (subE (var 3) (opE modD (var 7) (var 6)))) [7]))
    (retS (bmE "str" joinD (cst (.str [])) (acons (lE (compF (rng1E (acons (var 6) anil)) (gN 7) yesT (subE (cst d_LETTERS) (iteE (cmpT ltD (var 7) (callE lenX (acons (var 3) anil))) (subE (var 3) (var 7)) (cst (.int 0)))) [7])) anil)))
    skipS))
    (errS ⟨7, .non⟩))))))
def D_word_of_shifts : List D → R D := runF 3 8 F_word_of_shifts
theorem k_word_of_shifts (T : Txt w K mg base a) : FnD P w K mg base (gm K w a xs) 3 "word_of_shifts" a.f_word_of_shifts 3 D_word_of_shifts := by
  obtain ⟨oc0, od0, kV0, doc0, pm0, an0, cdv0, ct0, osl0, lk0, cd0, kp0, bd0⟩ := T.l_told
  exact fnD_C T.e_word_of_shifts sc_word_of_shifts T.g_word_of_shifts rfl rfl fun A outer s H E hr =>
    (dss_cons (ds_expr (de_call (k_check_text T) (hr.mono (by decide)) takes_cxD (da_cons (de_var 0) da_nil)))
    (dss_cons (ds_expr (de_call (k_check_text T) (hr.mono (by decide)) takes_cxD (da_cons (de_var 1) da_nil)))
    (dss_cons (ds_if (dt_cmp (op_ne_d rfl (huD64 hr)) (DE.p (de_callB (cd_lenX rfl) T.b_len rfl (dap_cons (DE.p (de_var 0)) dap_nil))) (DE.p (de_callB (cd_lenX rfl) T.b_len rfl (dap_cons (DE.p (de_var 1)) dap_nil))))
    (dss_one (ds_raise 3 takes_cxD rfl PySem.F.excBase_ValueError rfl rfl T.x_BadBook.1 T.x_BadBook.2.1 T.x_BadBook.2.2.1 (raises_own T.x_BadBook.2.2.2.1 T.x_BadBook.2.2.2.2)))
    dss_nil)
    (dss_cons (ds_set 3 (DE.k (DF.e (df_comp (own := [("a", 4), ("b", 5)]) rfl sc_word_of_shifts.nd (DI.e (di_zip2 rfl rfl T.b_zip (da_cons (de_var 0) (da_cons (de_var 1) da_nil)))) (blkOk_by (N := ["plain", "sent", "most", "gaps", "a", "b", "size", "k"]) (sc := defScope s_word_of_shifts) (by decide +kernel)) (fun _ _ _ _ _ => (dg_tup rfl rfl (dgs_cons (dg_name 4 sc_word_of_shifts.nd) (dgs_cons (dg_name 5 sc_word_of_shifts.nd) dgs_nil)))) (fun _ _ _ _ _ => dts_nil) (fun _ _ _ _ _ => (de_op (op_mod_d) (DE.p (de_op (op_sub_d) (DE.p (de_bm (bm_sindex) rfl (DE.p (de_gl (T.v_LETTERS _))) (dap_cons (DE.p (de_var 5)) dap_nil))) (DE.p (de_bm (bm_sindex) rfl (DE.p (de_gl (T.v_LETTERS _))) (dap_cons (DE.p (de_var 4)) dap_nil))))) (DE.p de_int))) (by decide)))) (by decide) sc_word_of_shifts.nd)
    (dss_cons (ds_for owns_cxD rfl (di_rng2 rfl T.b_range (da_cons de_int (da_cons (de_op (op_add_d rfl) (DE.p (de_var 2)) (DE.p de_int)) da_nil))) (dg_name 6 sc_word_of_shifts.nd)
    (dss_one (ds_if (dt_val (de_all (k := 0) (own := [("k", 7)]) (hr.mono (by decide)) rfl T.b_all (mk_def T.tb_word_of_shifts rfl tm_word_of_shifts) sc_word_of_shifts.nd (DI.e (di_rng1 rfl T.b_range (da_cons (de_callB (cd_lenX rfl) T.b_len rfl (dap_cons (DE.p (de_var 3)) dap_nil)) da_nil))) (blkOk_by (N := ["plain", "sent", "most", "gaps", "a", "b", "size", "k"]) (sc := defScope s_word_of_shifts) (by decide +kernel)) (genOk_by (by decide +kernel)) (fun _ _ _ _ _ _ _ _ hrg mk1_ => (dg_name 7 sc_word_of_shifts.nd)) (fun _ _ _ _ _ _ _ _ hrg mk1_ => dts_nil) (fun _ _ _ _ _ _ _ _ hrg mk1_ => (de_cmp (op_eq_d rfl (huD64 hrg)) (DE.p (de_sub rfl rfl (huD hrg) (DE.p (de_var 3)) (DE.p (de_var 7)) fun _ _ => rfl)) (DE.p (de_sub rfl rfl (huD hrg) (DE.p (de_var 3)) (DE.p (de_op (op_mod_d) (DE.p (de_var 7)) (DE.p (de_var 6)))) fun _ _ => rfl)))) (by decide)))
    (dss_one (ds_ret (de_bm (bm_join rfl) rfl (DE.p (de_str [])) (dap_cons (DE.p (DF.e (df_comp (own := [("k", 7)]) rfl sc_word_of_shifts.nd (DI.e (di_rng1 rfl T.b_range (da_cons (de_var 6) da_nil))) (blkOk_by (N := ["plain", "sent", "most", "gaps", "a", "b", "size", "k"]) (sc := defScope s_word_of_shifts) (by decide +kernel)) (fun _ _ _ _ _ => (dg_name 7 sc_word_of_shifts.nd)) (fun _ _ _ _ _ => dts_nil) (fun _ _ _ _ _ => (de_sub rfl rfl (huD hr) (DE.p (de_gl (T.v_LETTERS _))) (DE.p (de_if (dt_cmp (op_lt_d) (DE.p (de_var 7)) (DE.p (de_callB (cd_lenX rfl) T.b_len rfl (dap_cons (DE.p (de_var 3)) dap_nil)))) (de_sub rfl rfl (huD hr) (DE.p (de_var 3)) (DE.p (de_var 7)) fun _ _ => rfl) de_int)) fun _ _ => rfl)) (by decide)))) dap_nil))))
    dss_nil)))
    (dss_one (ds_raise 7 takes_cxD rfl PySem.F.excBase_ValueError rfl rfl T.x_NoWay.1 T.x_NoWay.2.1 T.x_NoWay.2.2.1 (raises_own T.x_NoWay.2.2.2.1 T.x_NoWay.2.2.2.2))))))))
def F_alike_places : LE → R Out :=
    (retS (sumE2 (rng1E (acons (callE lenX (acons (var 0) anil)) anil)) (gN 1) yesT (rng1E (acons (var 1) anil)) (gN 2) (cmpT eqD (subE (var 0) (var 2)) (subE (var 0) (var 1))) (cst (.int 1)) [1, 2] [2]))
def D_alike_places : List D → R D := runF 1 3 F_alike_places
theorem k_alike_places (T : Txt w K mg base a) : FnD P w K mg base (gm K w a xs) 2 "alike_places" a.f_alike_places 1 D_alike_places := by
  obtain ⟨oc0, od0, kV0, doc0, pm0, an0, cdv0, ct0, osl0, lk0, cd0, kp0, bd0⟩ := T.l_told
  exact fnD_C T.e_alike_places sc_alike_places T.g_alike_places rfl rfl fun A outer s H E hr =>
    (dss_one (ds_ret (de_sum2 (k := 0) (vs2 := [2]) (own := [("k", 1), ("j", 2)]) (hr.mono (by decide)) rfl T.b_sum (mk_def T.tb_alike_places rfl tm_alike_places) sc_alike_places.nd (DI.e (di_rng1 rfl T.b_range (da_cons (de_callB (cd_lenX rfl) T.b_len rfl (dap_cons (DE.p (de_var 0)) dap_nil)) da_nil))) (blkOk_by (N := ["text", "k", "j"]) (sc := defScope s_alike_places) (by decide +kernel)) (genOk_by (by decide +kernel)) (fun _ _ _ _ _ _ _ _ hrg mk1_ => (dg_name 1 sc_alike_places.nd)) (fun _ _ _ _ _ _ _ _ hrg mk1_ => dts_nil) (fun _ _ _ _ _ _ _ _ hrg mk1_ => (DI.e (di_rng1 rfl T.b_range (da_cons (de_var 1) da_nil)))) (fun _ _ _ _ _ _ _ _ hrg mk1_ => (dg_name 2 sc_alike_places.nd)) (fun _ _ _ _ _ _ _ _ hrg mk1_ => (dts_one (dt_cmp (op_eq_d rfl (huD64 hrg)) (DE.p (de_sub rfl rfl (huD hrg) (DE.p (de_var 0)) (DE.p (de_var 2)) fun _ _ => rfl)) (DE.p (de_sub rfl rfl (huD hrg) (DE.p (de_var 0)) (DE.p (de_var 1)) fun _ _ => rfl))))) (fun _ _ _ _ _ _ _ _ hrg mk1_ => de_int) (by decide) (by decide) (by decide))))
def F_law_cases1 : LE → R Out :=
    (seqS (ifS (cmpT neD (toldE toldL (callE D_Key_init (acons (cst (.str [97, 98, 99])) anil))) (cst (.str [98, 111, 111, 107])))
    (retS (cst (.bl false)))
    skipS)
    (seqS (ifS (cmpT neD (toldE toldL (callE D_shifted_by (acons (cst (.str [97])) (acons (cst (.str [])) (acons (cst (.int 1)) anil))))) (cst (.str [98, 111, 111, 107])))
    (retS (cst (.bl false)))
    skipS)
    (seqS (ifS (cmpT neD (toldE toldL (callE D_shifted_by (acons (cst (.str [97])) (acons (cst (.str [98])) (acons (cst (.int 2)) anil))))) (cst (.str [98, 111, 111, 107])))
    (retS (cst (.bl false)))
    skipS)
    (seqS (ifS (cmpT neD (toldE toldL (callE D_in_columns (acons (cst (.str [97])) (acons (lE (lstE (acons (cst (.int 1)) anil))) anil)))) (cst (.str [98, 111, 111, 107])))
    (retS (cst (.bl false)))
    skipS)
    (seqS (ifS (cmpT neD (toldE toldL (callE D_part_of_key (acons (cst (.str [97, 97])) (acons (cst (.str [98, 99])) anil)))) (cst (.str [98, 111, 111, 107])))
    (retS (cst (.bl false)))
    skipS)
    (seqS (ifS (cmpT neD (toldE toldL (callE D_part_of_key (acons (cst (.str [97, 98])) (acons (cst (.str [99, 99])) anil)))) (cst (.str [98, 111, 111, 107])))
    (retS (cst (.bl false)))
    skipS)
    (seqS (ifS (cmpT neD (toldE toldL (callE D_word_of_shifts (acons (cst (.str [97, 98])) (acons (cst (.str [97, 99])) (acons (cst (.int 1)) anil))))) (cst (.str [110, 111, 32, 119, 97, 121])))
    (retS (cst (.bl false)))
    skipS)
    (seqS (ifS (cmpT neD (toldE toldL (callE D_out_of_columns (acons (cst (.str [97])) (acons (lE (lstE anil)) anil)))) (cst (.str [98, 111, 111, 107])))
    (retS (cst (.bl false)))
    skipS)
    (seqS (ifS (cmpT neD (toldE toldL (callE D_word_of_shifts (acons (cst (.str [97])) (acons (cst (.str [])) (acons (cst (.int 1)) anil))))) (cst (.str [98, 111, 111, 107])))
    (retS (cst (.bl false)))
    skipS)
    (retS (cst (.bl true))))))))))))
def D_law_cases1 : List D → R D := runF 0 0 F_law_cases1
theorem k_law_cases1 (T : Txt w K mg base a) : FnD P w K mg base (gm K w a xs) 6 "_law_cases1" a.f_law_cases1 0 D_law_cases1 := by
  obtain ⟨oc0, od0, kV0, doc0, pm0, an0, cdv0, ct0, osl0, lk0, cd0, kp0, bd0⟩ := T.l_told
  exact fnD_C T.e_law_cases1 sc_law_cases1 T.g_law_cases1 rfl rfl fun A outer s H E hr =>
    (dss_cons (ds_if (dt_cmp (op_ne_d rfl (huD64 hr)) (DE.p (de_told (k := 2) (l := toldL) T.g_law_told kp0 lk0 cd0 bd0 sc_law_told rfl (Or.inl rfl) (gives_told T rfl rfl) (T.exm _) (mk_def T.tb_law_cases1 rfl tm_law_cases1) (hr.mono (by decide)) (lamS_by (sc := defScope s_law_cases1) (by decide +kernel)) (fun _ _ _ _ _ _ _ _ hr' mk1_ => (de_make (k_Key_init T) (hr'.mono (by decide)) takes_lam (da_cons (de_str [97, 98, 99]) da_nil))))) (DE.p (de_str [98, 111, 111, 107])))
    (dss_one (ds_ret de_bl))
    dss_nil)
    (dss_cons (ds_if (dt_cmp (op_ne_d rfl (huD64 hr)) (DE.p (de_told (k := 3) (l := toldL) T.g_law_told kp0 lk0 cd0 bd0 sc_law_told rfl (Or.inl rfl) (gives_told T rfl rfl) (T.exm _) (mk_def T.tb_law_cases1 rfl tm_law_cases1) (hr.mono (by decide)) (lamS_by (sc := defScope s_law_cases1) (by decide +kernel)) (fun _ _ _ _ _ _ _ _ hr' mk2_ => (de_call (k_shifted_by T) (hr'.mono (by decide)) takes_lam (da_cons (de_str [97]) (da_cons (de_str []) (da_cons de_int da_nil))))))) (DE.p (de_str [98, 111, 111, 107])))
    (dss_one (ds_ret de_bl))
    dss_nil)
    (dss_cons (ds_if (dt_cmp (op_ne_d rfl (huD64 hr)) (DE.p (de_told (k := 3) (l := toldL) T.g_law_told kp0 lk0 cd0 bd0 sc_law_told rfl (Or.inl rfl) (gives_told T rfl rfl) (T.exm _) (mk_def T.tb_law_cases1 rfl tm_law_cases1) (hr.mono (by decide)) (lamS_by (sc := defScope s_law_cases1) (by decide +kernel)) (fun _ _ _ _ _ _ _ _ hr' mk3_ => (de_call (k_shifted_by T) (hr'.mono (by decide)) takes_lam (da_cons (de_str [97]) (da_cons (de_str [98]) (da_cons de_int da_nil))))))) (DE.p (de_str [98, 111, 111, 107])))
    (dss_one (ds_ret de_bl))
    dss_nil)
    (dss_cons (ds_if (dt_cmp (op_ne_d rfl (huD64 hr)) (DE.p (de_told (k := 1) (l := toldL) T.g_law_told kp0 lk0 cd0 bd0 sc_law_told rfl (Or.inl rfl) (gives_told T rfl rfl) (T.exm _) (mk_def T.tb_law_cases1 rfl tm_law_cases1) (hr.mono (by decide)) (lamS_by (sc := defScope s_law_cases1) (by decide +kernel)) (fun _ _ _ _ _ _ _ _ hr' mk4_ => (de_call (k_in_columns T) (hr'.mono (by decide)) takes_lam (da_cons (de_str [97]) (da_cons (DF.e (df_lst (da_cons de_int da_nil))) da_nil)))))) (DE.p (de_str [98, 111, 111, 107])))
    (dss_one (ds_ret de_bl))
    dss_nil)
    (dss_cons (ds_if (dt_cmp (op_ne_d rfl (huD64 hr)) (DE.p (de_told (k := 3) (l := toldL) T.g_law_told kp0 lk0 cd0 bd0 sc_law_told rfl (Or.inl rfl) (gives_told T rfl rfl) (T.exm _) (mk_def T.tb_law_cases1 rfl tm_law_cases1) (hr.mono (by decide)) (lamS_by (sc := defScope s_law_cases1) (by decide +kernel)) (fun _ _ _ _ _ _ _ _ hr' mk5_ => (de_call (k_part_of_key T) (hr'.mono (by decide)) takes_lam (da_cons (de_str [97, 97]) (da_cons (de_str [98, 99]) da_nil)))))) (DE.p (de_str [98, 111, 111, 107])))
    (dss_one (ds_ret de_bl))
    dss_nil)
    (dss_cons (ds_if (dt_cmp (op_ne_d rfl (huD64 hr)) (DE.p (de_told (k := 3) (l := toldL) T.g_law_told kp0 lk0 cd0 bd0 sc_law_told rfl (Or.inl rfl) (gives_told T rfl rfl) (T.exm _) (mk_def T.tb_law_cases1 rfl tm_law_cases1) (hr.mono (by decide)) (lamS_by (sc := defScope s_law_cases1) (by decide +kernel)) (fun _ _ _ _ _ _ _ _ hr' mk6_ => (de_call (k_part_of_key T) (hr'.mono (by decide)) takes_lam (da_cons (de_str [97, 98]) (da_cons (de_str [99, 99]) da_nil)))))) (DE.p (de_str [98, 111, 111, 107])))
    (dss_one (ds_ret de_bl))
    dss_nil)
    (dss_cons (ds_if (dt_cmp (op_ne_d rfl (huD64 hr)) (DE.p (de_told (k := 3) (l := toldL) T.g_law_told kp0 lk0 cd0 bd0 sc_law_told rfl (Or.inl rfl) (gives_told T rfl rfl) (T.exm _) (mk_def T.tb_law_cases1 rfl tm_law_cases1) (hr.mono (by decide)) (lamS_by (sc := defScope s_law_cases1) (by decide +kernel)) (fun _ _ _ _ _ _ _ _ hr' mk7_ => (de_call (k_word_of_shifts T) (hr'.mono (by decide)) takes_lam (da_cons (de_str [97, 98]) (da_cons (de_str [97, 99]) (da_cons de_int da_nil))))))) (DE.p (de_str [110, 111, 32, 119, 97, 121])))
    (dss_one (ds_ret de_bl))
    dss_nil)
    (dss_cons (ds_if (dt_cmp (op_ne_d rfl (huD64 hr)) (DE.p (de_told (k := 1) (l := toldL) T.g_law_told kp0 lk0 cd0 bd0 sc_law_told rfl (Or.inl rfl) (gives_told T rfl rfl) (T.exm _) (mk_def T.tb_law_cases1 rfl tm_law_cases1) (hr.mono (by decide)) (lamS_by (sc := defScope s_law_cases1) (by decide +kernel)) (fun _ _ _ _ _ _ _ _ hr' mk8_ => (de_call (k_out_of_columns T) (hr'.mono (by decide)) takes_lam (da_cons (de_str [97]) (da_cons (DF.e (df_lst da_nil)) da_nil)))))) (DE.p (de_str [98, 111, 111, 107])))
    (dss_one (ds_ret de_bl))
    dss_nil)
    (dss_cons (ds_if (dt_cmp (op_ne_d rfl (huD64 hr)) (DE.p (de_told (k := 3) (l := toldL) T.g_law_told kp0 lk0 cd0 bd0 sc_law_told rfl (Or.inl rfl) (gives_told T rfl rfl) (T.exm _) (mk_def T.tb_law_cases1 rfl tm_law_cases1) (hr.mono (by decide)) (lamS_by (sc := defScope s_law_cases1) (by decide +kernel)) (fun _ _ _ _ _ _ _ _ hr' mk9_ => (de_call (k_word_of_shifts T) (hr'.mono (by decide)) takes_lam (da_cons (de_str [97]) (da_cons (de_str []) (da_cons de_int da_nil))))))) (DE.p (de_str [98, 111, 111, 107])))
    (dss_one (ds_ret de_bl))
    dss_nil)
    (dss_one (ds_ret de_bl)))))))))))
def F_law_rest1 : LE → R Out :=
    (seqS (setK 6 (valK (callE rollD (acons (var 0) (acons (cst (.int 60)) anil)))))
    (seqS (ifS (cmpT neD (methE 0 D_Key_changed (callE D_shift_key (acons (var 6) anil)) (acons (var 4) anil)) (bmE "str" joinD (cst (.str [])) (acons (lE (compF (itS (var 4)) (gN 7) yesT (subE (var 1) (opE modD (opE addD (bmE "str" sidxD (var 1) (acons (var 7) anil)) (var 6)) (cst (.int 26)))) [7])) anil)))
    (retS (cst (.bl false)))
    skipS)
    (seqS (setK 8 (valK (callE D_shifted_by (acons (var 4) (acons (subE (var 2) (cst (.int 0))) (acons (cst (.int 1)) anil))))))
    (seqS (ifS (cmpT neD (var 8) (bmE "str" joinD (cst (.str [])) (acons (lE (compF (rng1E (acons (callE lenX (acons (var 4) anil)) anil)) (gN 9) yesT (subE (var 1) (opE modD (opE addD (bmE "str" sidxD (var 1) (acons (subE (var 4) (var 9)) anil)) (bmE "str" sidxD (var 1) (acons (subE (subE (var 2) (cst (.int 0))) (opE modD (var 9) (callE lenX (acons (subE (var 2) (cst (.int 0))) anil)))) anil))) (cst (.int 26)))) [9])) anil)))
    (retS (cst (.bl false)))
    skipS)
    (seqS (ifS (cmpT neD (callE D_shifted_by (acons (var 8) (acons (subE (var 2) (cst (.int 0))) (acons (opE subD (cst (.int 0)) (cst (.int 1))) anil)))) (var 4))
    (retS (cst (.bl false)))
    skipS)
    (seqS (setK 10 (valK (opE addD (cst (.int 1)) (callE rollD (acons (var 0) (acons (cst (.int 4)) anil))))))
    (seqS (setK 11 (valK (callE D_law_moves (acons (var 0) (acons (var 10) anil)))))
    (seqS (setK 12 (valK (bmE "str" joinD (cst (.str [])) (acons (lE (compF (itB (var 11)) (gN 13) yesT (bmE "str" joinD (cst (.str [])) (acons (lE (compF (rng1E (acons (callE lenX (acons (var 4) anil)) anil)) (gN 9) (cmpT eqD (opE modD (var 9) (var 10)) (var 13)) (subE (var 4) (var 9)) [9])) anil)) [13])) anil))))
    (seqS (ifS (orT (cmpT neD (callE D_in_columns (acons (var 4) (acons (var 11) anil))) (var 12)) (cmpT neD (callE D_out_of_columns (acons (var 12) (acons (var 11) anil))) (var 4)))
    (retS (cst (.bl false)))
    skipS)
    (seqS (setK 14 (valK (callE D_keys_that_fit (acons (var 4) (acons (methE 0 D_Key_changed (callE D_shift_key (acons (var 6) anil)) (acons (var 4) anil)) (acons (cst (.int 26)) anil))))))
    (seqS (ifS (cmpT neD (lE (callF listK (acons (var 14) anil))) (iteE (cmpT neD (var 4) (cst (.str []))) (lE (lstE (acons (opE modD (var 6) (cst (.int 26))) anil))) (lE (lrg1E (cst (.int 26))))))
    (retS (cst (.bl false)))
    skipS)
    (seqS (setK 15 (valK (callE D_part_of_key (acons (var 4) (acons (var 5) anil)))))
    (seqS (ifS (cmpT neX (var 15) (callE dictD (acons (lE (compF (itB (lE (callF sortedT (acons (callE dictD (acons (lE (compF (itS (var 4)) (gN 7) yesT (tupE (acons (var 7) (acons (cst (.int 1)) anil))) [7])) anil)) anil)))) (gN 7) yesT (tupE (acons (var 7) (acons (methE 0 D_Key_changed (var 3) (acons (var 7) anil)) anil))) [7])) anil)))
    (retS (cst (.bl false)))
    skipS)
    (seqS (setK 16 (valK (callE D_word_of_shifts (acons (var 4) (acons (var 8) (acons (cst (.int 12)) anil))))))
    (seqS (ifS (orT (cmpT gtD (callE lenX (acons (var 16) anil)) (callE lenX (acons (subE (var 2) (cst (.int 0))) anil))) (cmpT neD (callE D_shifted_by (acons (var 4) (acons (var 16) (acons (cst (.int 1)) anil)))) (var 8)))
    (retS (cst (.bl false)))
    skipS)
    (seqS (ifS (cmpT neD (callE D_alike_places (acons (var 4) anil)) (callE sumT (acons (lE (compF (itS (var 1)) (gN 7) yesT (opE fdivD (opE mulD (bmE "str" countD (var 4) (acons (var 7) anil)) (opE subD (bmE "str" countD (var 4) (acons (var 7) anil)) (cst (.int 1)))) (cst (.int 2))) [7])) anil)))
    (retS (cst (.bl false)))
    skipS)
    (seqS (ifS (notT (valT (fun _ => D_law_cases1 [])))
    (retS (cst (.bl false)))
    skipS)
    (seqS (ifS (cmpT neD (toldE toldL (methE 0 D_Key_changed (var 3) (acons (cst (.str [65])) anil))) (cst (.str [98, 111, 111, 107])))
    (retS (cst (.bl false)))
    skipS)
    (retS (cst (.bl true)))))))))))))))))))))
def D_law_rest1 : List D → R D := runF 6 17 F_law_rest1
theorem k_law_rest1 (T : Txt w K mg base a) : FnD P w K mg base (gm K w a xs) 7 "_law_rest1" a.f_law_rest1 6 D_law_rest1 := by
  obtain ⟨oc0, od0, kV0, doc0, pm0, an0, cdv0, ct0, osl0, lk0, cd0, kp0, bd0⟩ := T.l_told
  exact fnD_C T.e_law_rest1 sc_law_rest1 T.g_law_rest1 rfl rfl fun A outer s H E hr =>
    (dss_cons (ds_set 6 (DE.k (de_call (k_law_roll T) (hr.mono (by decide)) takes_cxD (da_cons (de_var 0) (da_cons de_int da_nil)))) (by decide) sc_law_rest1.nd)
    (dss_cons (ds_if (dt_cmp (op_ne_d rfl (huD64 hr)) (DE.p (de_meth (k_Key_changed T) (hr.mono (by decide)) takes_cxD (de_call (k_shift_key T) (hr.mono (by decide)) takes_cxD (da_cons (de_var 6) da_nil)) (da_cons (de_var 4) da_nil))) (DE.p (de_bm (bm_join rfl) rfl (DE.p (de_str [])) (dap_cons (DE.p (DF.e (df_comp (own := [("sign", 7)]) rfl sc_law_rest1.nd (DI.e (di_str (de_var 4))) (blkOk_by (N := ["dice", "plain", "words", "one", "text", "sent", "gap", "sign", "shifted", "k", "many", "order", "rows", "column", "fits", "told", "word"]) (sc := defScope s_law_rest1) (by decide +kernel)) (fun _ _ _ _ _ => (dg_name 7 sc_law_rest1.nd)) (fun _ _ _ _ _ => dts_nil) (fun _ _ _ _ _ => (de_sub rfl rfl (huD hr) (DE.p (de_var 1)) (DE.p (de_op (op_mod_d) (DE.p (de_op (op_add_d rfl) (DE.p (de_bm (bm_sindex) rfl (DE.p (de_var 1)) (dap_cons (DE.p (de_var 7)) dap_nil))) (DE.p (de_var 6)))) (DE.p de_int))) fun _ _ => rfl)) (by decide)))) dap_nil))))
    (dss_one (ds_ret de_bl))
    dss_nil)
    (dss_cons (ds_set 8 (DE.k (de_call (k_shifted_by T) (hr.mono (by decide)) takes_cxD (da_cons (de_var 4) (da_cons (de_sub rfl rfl (huD hr) (DE.p (de_var 2)) (DE.p de_int) fun _ _ => rfl) (da_cons de_int da_nil))))) (by decide) sc_law_rest1.nd)
    (dss_cons (ds_if (dt_cmp (op_ne_d rfl (huD64 hr)) (DE.p (de_var 8)) (DE.p (de_bm (bm_join rfl) rfl (DE.p (de_str [])) (dap_cons (DE.p (DF.e (df_comp (own := [("k", 9)]) rfl sc_law_rest1.nd (DI.e (di_rng1 rfl T.b_range (da_cons (de_callB (cd_lenX rfl) T.b_len rfl (dap_cons (DE.p (de_var 4)) dap_nil)) da_nil))) (blkOk_by (N := ["dice", "plain", "words", "one", "text", "sent", "gap", "sign", "shifted", "k", "many", "order", "rows", "column", "fits", "told", "word"]) (sc := defScope s_law_rest1) (by decide +kernel)) (fun _ _ _ _ _ => (dg_name 9 sc_law_rest1.nd)) (fun _ _ _ _ _ => dts_nil) (fun _ _ _ _ _ => (de_sub rfl rfl (huD hr) (DE.p (de_var 1)) (DE.p (de_op (op_mod_d) (DE.p (de_op (op_add_d rfl) (DE.p (de_bm (bm_sindex) rfl (DE.p (de_var 1)) (dap_cons (DE.p (de_sub rfl rfl (huD hr) (DE.p (de_var 4)) (DE.p (de_var 9)) fun _ _ => rfl)) dap_nil))) (DE.p (de_bm (bm_sindex) rfl (DE.p (de_var 1)) (dap_cons (DE.p (de_sub rfl rfl (huD hr) (DE.p (de_sub rfl rfl (huD hr) (DE.p (de_var 2)) (DE.p de_int) fun _ _ => rfl)) (DE.p (de_op (op_mod_d) (DE.p (de_var 9)) (DE.p (de_callB (cd_lenX rfl) T.b_len rfl (dap_cons (DE.p (de_sub rfl rfl (huD hr) (DE.p (de_var 2)) (DE.p de_int) fun _ _ => rfl)) dap_nil))))) fun _ _ => rfl)) dap_nil))))) (DE.p de_int))) fun _ _ => rfl)) (by decide)))) dap_nil))))
    (dss_one (ds_ret de_bl))
    dss_nil)
    (dss_cons (ds_if (dt_cmp (op_ne_d rfl (huD64 hr)) (DE.p (de_call (k_shifted_by T) (hr.mono (by decide)) takes_cxD (da_cons (de_var 8) (da_cons (de_sub rfl rfl (huD hr) (DE.p (de_var 2)) (DE.p de_int) fun _ _ => rfl) (da_cons (de_op (op_sub_d) (DE.p de_int) (DE.p de_int)) da_nil))))) (DE.p (de_var 4)))
    (dss_one (ds_ret de_bl))
    dss_nil)
    (dss_cons (ds_set 10 (DE.k (de_op (op_add_d rfl) (DE.p de_int) (DE.p (de_call (k_law_roll T) (hr.mono (by decide)) takes_cxD (da_cons (de_var 0) (da_cons de_int da_nil)))))) (by decide) sc_law_rest1.nd)
    (dss_cons (ds_set 11 (DE.k (de_call (k_law_moves T) (hr.mono (by decide)) takes_cxD (da_cons (de_var 0) (da_cons (de_var 10) da_nil)))) (by decide) sc_law_rest1.nd)
    (dss_cons (ds_set 12 (DE.k (de_bm (bm_join rfl) rfl (DE.p (de_str [])) (dap_cons (DE.p (DF.e (df_comp (own := [("column", 13)]) rfl sc_law_rest1.nd (DI.e (di_anyB rfl (de_var 11))) (blkOk_by (N := ["dice", "plain", "words", "one", "text", "sent", "gap", "sign", "shifted", "k", "many", "order", "rows", "column", "fits", "told", "word"]) (sc := defScope s_law_rest1) (by decide +kernel)) (fun _ _ _ _ _ => (dg_name 13 sc_law_rest1.nd)) (fun _ _ _ _ _ => dts_nil) (fun _ _ _ _ _ => (de_bm (bm_join rfl) rfl (DE.p (de_str [])) (dap_cons (DE.p (DF.e (df_comp (own := [("k", 9)]) rfl sc_law_rest1.nd (DI.e (di_rng1 rfl T.b_range (da_cons (de_callB (cd_lenX rfl) T.b_len rfl (dap_cons (DE.p (de_var 4)) dap_nil)) da_nil))) (blkOk_by (N := ["dice", "plain", "words", "one", "text", "sent", "gap", "sign", "shifted", "k", "many", "order", "rows", "column", "fits", "told", "word"]) (sc := _) (by rfl)) (fun _ _ _ _ _ => (dg_name 9 sc_law_rest1.nd)) (fun _ _ _ _ _ => (dts_one (dt_cmp (op_eq_d rfl (huD64 hr)) (DE.p (de_op (op_mod_d) (DE.p (de_var 9)) (DE.p (de_var 10)))) (DE.p (de_var 13))))) (fun _ _ _ _ _ => (de_sub rfl rfl (huD hr) (DE.p (de_var 4)) (DE.p (de_var 9)) fun _ _ => rfl)) (by decide)))) dap_nil))) (by decide)))) dap_nil))) (by decide) sc_law_rest1.nd)
    (dss_cons (ds_if (dt_w (dw_or (dt_cmp (op_ne_d rfl (huD64 hr)) (DE.p (de_call (k_in_columns T) (hr.mono (by decide)) takes_cxD (da_cons (de_var 4) (da_cons (de_var 11) da_nil)))) (DE.p (de_var 12))) (dw_or1 (dt_cmp (op_ne_d rfl (huD64 hr)) (DE.p (de_call (k_out_of_columns T) (hr.mono (by decide)) takes_cxD (da_cons (de_var 12) (da_cons (de_var 11) da_nil)))) (DE.p (de_var 4))))))
    (dss_one (ds_ret de_bl))
    dss_nil)
    (dss_cons (ds_set 14 (DE.k (de_call (k_keys_that_fit T) (hr.mono (by decide)) takes_cxD (da_cons (de_var 4) (da_cons (de_meth (k_Key_changed T) (hr.mono (by decide)) takes_cxD (de_call (k_shift_key T) (hr.mono (by decide)) takes_cxD (da_cons (de_var 6) da_nil)) (da_cons (de_var 4) da_nil)) (da_cons de_int da_nil))))) (by decide) sc_law_rest1.nd)
    (dss_cons (ds_if (dt_cmp (op_ne_d rfl (huD64 hr)) (DE.p (DF.e (df_callT (cf_listK rfl rfl) T.b_list rfl (dap_cons (DE.p (de_var 14)) dap_nil)))) (DE.p (de_if (dt_cmp (op_ne_d rfl (huD64 hr)) (DE.p (de_var 4)) (DE.p (de_str []))) (DF.e (df_lst (da_cons (de_op (op_mod_d) (DE.p (de_var 6)) (DE.p de_int)) da_nil))) (DF.e (df_listRg1 rfl rfl T.b_list rfl T.b_range de_int)))))
    (dss_one (ds_ret de_bl))
    dss_nil)
    (dss_cons (ds_set 15 (DE.k (de_call (k_part_of_key T) (hr.mono (by decide)) takes_cxD (da_cons (de_var 4) (da_cons (de_var 5) da_nil)))) (by decide) sc_law_rest1.nd)
    (dss_cons (ds_if (dt_cmp (op_neX_d rfl (huD hr)) (DE.p (de_var 15)) (DE.p (de_callT (cd_dict rfl rfl) T.b_dict rfl (dap_cons (DE.p (DF.e (df_comp (own := [("sign", 7)]) rfl sc_law_rest1.nd (DI.e (di_anyB rfl (DF.e (df_callB (cf_sortedT rfl rfl (huD hr)) T.b_sorted rfl (dap_cons (DE.p (de_callT (cd_dict rfl rfl) T.b_dict rfl (dap_cons (DE.p (DF.e (df_comp (own := [("sign", 7)]) rfl sc_law_rest1.nd (DI.e (di_str (de_var 4))) (blkOk_by (N := ["dice", "plain", "words", "one", "text", "sent", "gap", "sign", "shifted", "k", "many", "order", "rows", "column", "fits", "told", "word"]) (sc := defScope s_law_rest1) (by decide +kernel)) (fun _ _ _ _ _ => (dg_name 7 sc_law_rest1.nd)) (fun _ _ _ _ _ => dts_nil) (fun _ _ _ _ _ => (de_tup (da_cons (de_var 7) (da_cons de_int da_nil)))) (by decide)))) dap_nil))) dap_nil))))) (blkOk_by (N := ["dice", "plain", "words", "one", "text", "sent", "gap", "sign", "shifted", "k", "many", "order", "rows", "column", "fits", "told", "word"]) (sc := defScope s_law_rest1) (by decide +kernel)) (fun _ _ _ _ _ => (dg_name 7 sc_law_rest1.nd)) (fun _ _ _ _ _ => dts_nil) (fun _ _ _ _ _ => (de_tup (da_cons (de_var 7) (da_cons (de_meth (k_Key_changed T) (hr.mono (by decide)) takes0D (de_var 3) (da_cons (de_var 7) da_nil)) da_nil)))) (by decide)))) dap_nil))))
    (dss_one (ds_ret de_bl))
    dss_nil)
    (dss_cons (ds_set 16 (DE.k (de_call (k_word_of_shifts T) (hr.mono (by decide)) takes_cxD (da_cons (de_var 4) (da_cons (de_var 8) (da_cons de_int da_nil))))) (by decide) sc_law_rest1.nd)
    (dss_cons (ds_if (dt_w (dw_or (dt_cmp (op_gt_d) (DE.p (de_callB (cd_lenX rfl) T.b_len rfl (dap_cons (DE.p (de_var 16)) dap_nil))) (DE.p (de_callB (cd_lenX rfl) T.b_len rfl (dap_cons (DE.p (de_sub rfl rfl (huD hr) (DE.p (de_var 2)) (DE.p de_int) fun _ _ => rfl)) dap_nil)))) (dw_or1 (dt_cmp (op_ne_d rfl (huD64 hr)) (DE.p (de_call (k_shifted_by T) (hr.mono (by decide)) takes_cxD (da_cons (de_var 4) (da_cons (de_var 16) (da_cons de_int da_nil))))) (DE.p (de_var 8))))))
    (dss_one (ds_ret de_bl))
    dss_nil)
    (dss_cons (ds_if (dt_cmp (op_ne_d rfl (huD64 hr)) (DE.p (de_call (k_alike_places T) (hr.mono (by decide)) takes_cxD (da_cons (de_var 4) da_nil))) (DE.p (de_callB (cd_sumT rfl rfl) T.b_sum rfl (dap_cons (DE.p (DF.e (df_comp (own := [("sign", 7)]) rfl sc_law_rest1.nd (DI.e (di_str (de_var 1))) (blkOk_by (N := ["dice", "plain", "words", "one", "text", "sent", "gap", "sign", "shifted", "k", "many", "order", "rows", "column", "fits", "told", "word"]) (sc := defScope s_law_rest1) (by decide +kernel)) (fun _ _ _ _ _ => (dg_name 7 sc_law_rest1.nd)) (fun _ _ _ _ _ => dts_nil) (fun _ _ _ _ _ => (de_op (op_fdiv_d) (DE.p (de_op (op_mul_d) (DE.p (de_bm (bm_count) rfl (DE.p (de_var 4)) (dap_cons (DE.p (de_var 7)) dap_nil))) (DE.p (de_op (op_sub_d) (DE.p (de_bm (bm_count) rfl (DE.p (de_var 4)) (dap_cons (DE.p (de_var 7)) dap_nil))) (DE.p de_int))))) (DE.p de_int))) (by decide)))) dap_nil))))
    (dss_one (ds_ret de_bl))
    dss_nil)
    (dss_cons (ds_if (dt_not (dt_val (de_call0 (k_law_cases1 T) (hr.mono (by decide)) takes_cxD)))
    (dss_one (ds_ret de_bl))
    dss_nil)
    (dss_cons (ds_if (dt_cmp (op_ne_d rfl (huD64 hr)) (DE.p (de_told (k := 3) (l := toldL) T.g_law_told kp0 lk0 cd0 bd0 sc_law_told rfl (Or.inl rfl) (gives_told T rfl rfl) (T.exm _) (mk_def T.tb_law_rest1 rfl tm_law_rest1) (hr.mono (by decide)) (lamS_by (sc := defScope s_law_rest1) (by decide +kernel)) (fun _ _ _ _ _ _ _ _ hr' mk1_ => (de_meth (k_Key_changed T) (hr'.mono (by decide)) takes_lam (de_var 3) (da_cons (de_str [65]) da_nil))))) (DE.p (de_str [98, 111, 111, 107])))
    (dss_one (ds_ret de_bl))
    dss_nil)
    (dss_one (ds_ret de_bl))))))))))))))))))))
def F_law : LE → R Out :=
    (seqS (asgS (tupE (acons (cst (.str [97, 98, 99, 100, 101, 102, 103, 104, 105, 106, 107, 108, 109, 110, 111, 112, 113, 114, 115, 116, 117, 118, 119, 120, 121, 122])) (acons (lE (lstE (acons (callE D_law_word (acons (var 1) (acons (cst (.int 5)) anil))) (acons (callE D_law_word (acons (var 1) (acons (cst (.int 5)) anil))) anil)))) anil))) (gTup_ 2 (gCons_ (gN 2) (gCons_ (gN 3) gNil_))))
    (seqS (asgS (tupE (acons (callE D_key_of_word (acons (subE (var 3) (cst (.int 0))) anil)) (acons (callE D_key_of_word (acons (subE (var 3) (cst (.int 1))) anil)) anil))) (gTup_ 2 (gCons_ (gN 4) (gCons_ (gN 5) gNil_))))
    (seqS (ifS (cmpT neD (fldE fx_letters (var 4)) (callE D_law_key (acons (subE (var 3) (cst (.int 0))) anil)))
    (retS (cst (.bl false)))
    skipS)
    (seqS (setK 6 (valK (bmE "str" joinD (cst (.str [])) (acons (lE (compF (rng1E (acons (callE rollD (acons (var 1) (acons (cst (.int 13)) anil))) anil)) (gN 7) yesT (subE (var 2) (callE rollD (acons (var 1) (acons (cst (.int 26)) anil)))) [7])) anil))))
    (seqS (setK 8 (valK (bmE "str" joinD (cst (.str [])) (acons (lE (compF (itS (var 6)) (gN 9) yesT (subE (fldE fx_letters (var 4)) (bmE "str" sidxD (var 2) (acons (var 9) anil))) [9])) anil))))
    (seqS (ifS (orT (cmpT neD (methE 0 D_Key_changed (var 4) (acons (var 6) anil)) (var 8)) (cmpT neD (methE 0 D_Key_changed (meth0E 0 D_Key_undoer (var 4)) (acons (var 8) anil)) (var 6)))
    (retS (cst (.bl false)))
    skipS)
    (seqS (ifS (orT (cmpT neD (methE 0 D_Key_changed (methE 0 D_Key_behind (var 5) (acons (var 4) anil)) (acons (var 6) anil)) (methE 0 D_Key_changed (var 5) (acons (var 8) anil))) (cmpT neD (fldE fx_letters (methE 0 D_Key_behind (meth0E 0 D_Key_undoer (var 4)) (acons (var 4) anil))) (var 2)))
    (retS (cst (.bl false)))
    skipS)
    (seqS (ifS (cmpT neD (meth0E 0 D_Key_kept (var 4)) (bmE "str" joinD (cst (.str [])) (acons (lE (compF (rng1E (acons (cst (.int 26)) anil)) (gN 7) (cmpT eqD (subE (fldE fx_letters (var 4)) (var 7)) (subE (var 2) (var 7))) (subE (var 2) (var 7)) [7])) anil)))
    (retS (cst (.bl false)))
    skipS)
    (seqS (setK 10 (valK (meth0E 0 D_Key_rounds (var 4))))
    (seqS (ifS (orT (cmpT neD (lE (callF sortedT (acons (bmE "str" joinD (cst (.str [])) (acons (var 10) anil)) anil))) (lE (callF listK (acons (var 2) anil)))) (cmpT neZ (lE (compF (itB (var 10)) (gN 11) (cmpT neD (subE (var 11) (cst (.int 0))) (callE minS (acons (var 11) anil))) (var 11) [11])) (lE (lstE anil))))
    (retS (cst (.bl false)))
    skipS)
    (seqS (forS (itB (var 10)) (gN 11)
    (ifS (cmpT neZ (lE (compF (rng1E (acons (callE lenX (acons (var 11) anil)) anil)) (gN 7) (cmpT neD (methE 0 D_Key_changed (var 4) (acons (subE (var 11) (var 7)) anil)) (subE (var 11) (opE modD (opE addD (var 7) (cst (.int 1))) (callE lenX (acons (var 11) anil))))) (var 7) [7])) (lE (lstE anil)))
    (retS (cst (.bl false)))
    skipS))
    (seqS (asgS (tupE (acons (meth0E 0 D_Key_times_home (var 4)) (acons (lE (compF (itB (var 10)) (gN 11) yesT (callE lenX (acons (var 11) anil)) [11])) anil))) (gTup_ 2 (gCons_ (gN 12) (gCons_ (gN 13) gNil_))))
    (seqS (ifS (orT (cmpT neZ (lE (compF (itB (var 13)) (gN 14) (cmpT neD (opE modD (var 12) (var 14)) (cst (.int 0))) (var 14) [14])) (lE (lstE anil))) (cmpT neZ (lE (compF (itB (lE (lstE (acons (cst (.int 2)) (acons (cst (.int 3)) (acons (cst (.int 5)) (acons (cst (.int 7)) (acons (cst (.int 11)) (acons (cst (.int 13)) (acons (cst (.int 17)) (acons (cst (.int 19)) (acons (cst (.int 23)) anil)))))))))))) (gN 7) (andT (cmpT eqD (opE modD (var 12) (var 7)) (cst (.int 0))) (cmpT eqZ (lE (compF (itB (var 13)) (gN 14) (cmpT neD (opE modD (opE fdivD (var 12) (var 7)) (var 14)) (cst (.int 0))) (var 14) [14])) (lE (lstE anil)))) (var 7) [7])) (lE (lstE anil))))
    (retS (cst (.bl false)))
    skipS)
    (seqS (ifS (cmpT neD (meth0E 0 D_Key_is_own_undoer (var 4)) (opE ltD (callE maxL (acons (var 13) anil)) (cst (.int 3))))
    (retS (cst (.bl false)))
    skipS)
    (ifS (notT (valT (callE D_law_rest1 (acons (var 1) (acons (var 2) (acons (var 3) (acons (var 4) (acons (var 6) (acons (var 8) anil)))))))))
    (retS (cst (.bl false)))
    skipS)))))))))))))))
theorem ok_law (T : Txt w K mg base a) {cdv_ : Value} {oc : Value} {od : Option Addr} {kV doc pm : Value} {an : Option Addr} {ct : Value} {osl : Array (Option Value)} (lk : K.lookup a.f_law = some ⟨oc, od, .func (PySem.W.fnOf "law" "law" (defArgs s_law) (defBody s_law) (defScope s_law) .none kV doc pm an cdv_ ct), osl⟩)
    (cd : PySem.W.codeIn K cdv_ "law" = true) (hF : LawOk F_law 15) :
    FnOk P w K mg base (L2.CX P w) 8 a.f_law (PySem.W.fnOf "law" "law" (defArgs s_law) (defBody s_law) (defScope s_law) .none kV doc pm an cdv_ ct) ["script"] (spLaw K (gm K w a []).tabs) := by
  obtain ⟨fdD, FD, bD⟩ := T.e_law_dice
  obtain ⟨fdR, FR, bR⟩ := T.e_law_rounds
  have hD := ok_dice (P := P) (w := w) (base := base) FD T.b_int T.b_abs
  have hR := ok_rounds (P := P) (w := w) (base := base) FR hD FD.kp bD T.g_law_dice
  exact law_W (G := gm K w a []) (F := F_law) lk cd sc_law rfl (by decide) rfl (tabs_u T) rfl hF fun A outer s H E hr => ⟨_, pss_cons (ps_for owns_cxD rfl (pi_list (pe_callS hR (hr.mono (by decide)) rfl T.g_law_rounds FR.kp bR (fun sg => passAt (takes_cxD (N := ["script", "dice", "plain", "words", "one", "other", "text", "k", "sent", "sign", "rings", "ring", "times", "sizes", "size"]) (st := s_law) (f := a.f_law)) sg) (pa_cons (pv 0) (pa_cons pe_int pa_nil)))) (pg_name (i := 1) sc_law.nd rfl (Or.inr rfl))
    (dss_cons (ds_asg (de_tup (da_cons (de_str [97, 98, 99, 100, 101, 102, 103, 104, 105, 106, 107, 108, 109, 110, 111, 112, 113, 114, 115, 116, 117, 118, 119, 120, 121, 122]) (da_cons (DF.e (df_lst (da_cons (de_call (k_law_word T) (hr.mono (by decide)) takes_cxD (da_cons (de_var 1) (da_cons de_int da_nil))) (da_cons (de_call (k_law_word T) (hr.mono (by decide)) takes_cxD (da_cons (de_var 1) (da_cons de_int da_nil))) da_nil)))) da_nil))) (dg_tup rfl rfl (dgs_cons (dg_name 2 sc_law.nd) (dgs_cons (dg_name 3 sc_law.nd) dgs_nil))))
    (dss_cons (ds_asg (de_tup (da_cons (de_call (k_key_of_word T) (hr.mono (by decide)) takes_cxD (da_cons (de_sub rfl rfl (huD hr) (DE.p (de_var 3)) (DE.p de_int) fun _ _ => rfl) da_nil)) (da_cons (de_call (k_key_of_word T) (hr.mono (by decide)) takes_cxD (da_cons (de_sub rfl rfl (huD hr) (DE.p (de_var 3)) (DE.p de_int) fun _ _ => rfl) da_nil)) da_nil))) (dg_tup rfl rfl (dgs_cons (dg_name 4 sc_law.nd) (dgs_cons (dg_name 5 sc_law.nd) dgs_nil))))
    (dss_cons (ds_if (dt_cmp (op_ne_d rfl (huD64 hr)) (DE.p (de_fld (fo_letters T) (de_var 4))) (DE.p (de_call (k_law_key T) (hr.mono (by decide)) takes_cxD (da_cons (de_sub rfl rfl (huD hr) (DE.p (de_var 3)) (DE.p de_int) fun _ _ => rfl) da_nil))))
    (dss_one (ds_ret de_bl))
    dss_nil)
    (dss_cons (ds_set 6 (DE.k (de_bm (bm_join rfl) rfl (DE.p (de_str [])) (dap_cons (DE.p (DF.e (df_comp (own := [("k", 7)]) rfl sc_law.nd (DI.e (di_rng1 rfl T.b_range (da_cons (de_call (k_law_roll T) (hr.mono (by decide)) takes_cxD (da_cons (de_var 1) (da_cons de_int da_nil))) da_nil))) (blkOk_by (N := ["script", "dice", "plain", "words", "one", "other", "text", "k", "sent", "sign", "rings", "ring", "times", "sizes", "size"]) (sc := defScope s_law) (by decide +kernel)) (fun _ _ _ _ _ => (dg_name 7 sc_law.nd)) (fun _ _ _ _ _ => dts_nil) (fun _ _ _ _ _ => (de_sub rfl rfl (huD hr) (DE.p (de_var 2)) (DE.p (de_call (k_law_roll T) (hr.mono (by decide)) takes0D (da_cons (de_var 1) (da_cons de_int da_nil)))) fun _ _ => rfl)) (by decide)))) dap_nil))) (by decide) sc_law.nd)
    (dss_cons (ds_set 8 (DE.k (de_bm (bm_join rfl) rfl (DE.p (de_str [])) (dap_cons (DE.p (DF.e (df_comp (own := [("sign", 9)]) rfl sc_law.nd (DI.e (di_str (de_var 6))) (blkOk_by (N := ["script", "dice", "plain", "words", "one", "other", "text", "k", "sent", "sign", "rings", "ring", "times", "sizes", "size"]) (sc := defScope s_law) (by decide +kernel)) (fun _ _ _ _ _ => (dg_name 9 sc_law.nd)) (fun _ _ _ _ _ => dts_nil) (fun _ _ _ _ _ => (de_sub rfl rfl (huD hr) (DE.p (de_fld (fo_letters T) (de_var 4))) (DE.p (de_bm (bm_sindex) rfl (DE.p (de_var 2)) (dap_cons (DE.p (de_var 9)) dap_nil))) fun _ _ => rfl)) (by decide)))) dap_nil))) (by decide) sc_law.nd)
    (dss_cons (ds_if (dt_w (dw_or (dt_cmp (op_ne_d rfl (huD64 hr)) (DE.p (de_meth (k_Key_changed T) (hr.mono (by decide)) takes_cxD (de_var 4) (da_cons (de_var 6) da_nil))) (DE.p (de_var 8))) (dw_or1 (dt_cmp (op_ne_d rfl (huD64 hr)) (DE.p (de_meth (k_Key_changed T) (hr.mono (by decide)) takes_cxD (de_meth0 (k_Key_undoer T) (hr.mono (by decide)) takes_cxD (de_var 4)) (da_cons (de_var 8) da_nil))) (DE.p (de_var 6))))))
    (dss_one (ds_ret de_bl))
    dss_nil)
    (dss_cons (ds_if (dt_w (dw_or (dt_cmp (op_ne_d rfl (huD64 hr)) (DE.p (de_meth (k_Key_changed T) (hr.mono (by decide)) takes_cxD (de_meth (k_Key_behind T) (hr.mono (by decide)) takes_cxD (de_var 5) (da_cons (de_var 4) da_nil)) (da_cons (de_var 6) da_nil))) (DE.p (de_meth (k_Key_changed T) (hr.mono (by decide)) takes_cxD (de_var 5) (da_cons (de_var 8) da_nil)))) (dw_or1 (dt_cmp (op_ne_d rfl (huD64 hr)) (DE.p (de_fld (fo_letters T) (de_meth (k_Key_behind T) (hr.mono (by decide)) takes_cxD (de_meth0 (k_Key_undoer T) (hr.mono (by decide)) takes_cxD (de_var 4)) (da_cons (de_var 4) da_nil)))) (DE.p (de_var 2))))))
    (dss_one (ds_ret de_bl))
    dss_nil)
    (dss_cons (ds_if (dt_cmp (op_ne_d rfl (huD64 hr)) (DE.p (de_meth0 (k_Key_kept T) (hr.mono (by decide)) takes_cxD (de_var 4))) (DE.p (de_bm (bm_join rfl) rfl (DE.p (de_str [])) (dap_cons (DE.p (DF.e (df_comp (own := [("k", 7)]) rfl sc_law.nd (DI.e (di_rng1 rfl T.b_range (da_cons de_int da_nil))) (blkOk_by (N := ["script", "dice", "plain", "words", "one", "other", "text", "k", "sent", "sign", "rings", "ring", "times", "sizes", "size"]) (sc := defScope s_law) (by decide +kernel)) (fun _ _ _ _ _ => (dg_name 7 sc_law.nd)) (fun _ _ _ _ _ => (dts_one (dt_cmp (op_eq_d rfl (huD64 hr)) (DE.p (de_sub rfl rfl (huD hr) (DE.p (de_fld (fo_letters T) (de_var 4))) (DE.p (de_var 7)) fun _ _ => rfl)) (DE.p (de_sub rfl rfl (huD hr) (DE.p (de_var 2)) (DE.p (de_var 7)) fun _ _ => rfl))))) (fun _ _ _ _ _ => (de_sub rfl rfl (huD hr) (DE.p (de_var 2)) (DE.p (de_var 7)) fun _ _ => rfl)) (by decide)))) dap_nil))))
    (dss_one (ds_ret de_bl))
    dss_nil)
    (dss_cons (ds_set 10 (DE.k (de_meth0 (k_Key_rounds T) (hr.mono (by decide)) takes_cxD (de_var 4))) (by decide) sc_law.nd)
    (dss_cons (ds_if (dt_w (dw_or (dt_cmp (op_ne_d rfl (huD64 hr)) (DE.p (DF.e (df_callB (cf_sortedT rfl rfl (huD hr)) T.b_sorted rfl (dap_cons (DE.p (de_bm (bm_join rfl) rfl (DE.p (de_str [])) (dap_cons (DE.p (de_var 10)) dap_nil))) dap_nil)))) (DE.p (DF.e (df_callT (cf_listK rfl rfl) T.b_list rfl (dap_cons (DE.p (de_var 2)) dap_nil))))) (dw_or1 (dt_cmp (op_neZ_d rfl (huD64 hr)) (DE.p (DF.e (df_comp (own := [("ring", 11)]) rfl sc_law.nd (DI.e (di_anyB rfl (de_var 10))) (blkOk_by (N := ["script", "dice", "plain", "words", "one", "other", "text", "k", "sent", "sign", "rings", "ring", "times", "sizes", "size"]) (sc := defScope s_law) (by decide +kernel)) (fun _ _ _ _ _ => (dg_name 11 sc_law.nd)) (fun _ _ _ _ _ => (dts_one (dt_cmp (op_ne_d rfl (huD64 hr)) (DE.p (de_sub rfl rfl (huD hr) (DE.p (de_var 11)) (DE.p de_int) fun _ _ => rfl)) (DE.p (de_callB (cd_minS rfl rfl (huD hr)) T.b_min rfl (dap_cons (DE.p (de_var 11)) dap_nil)))))) (fun _ _ _ _ _ => (de_var 11)) (by decide)))) (DE.p (DF.e (df_lst da_nil)))))))
    (dss_one (ds_ret de_bl))
    dss_nil)
    (dss_cons (ds_for owns_cxD rfl (di_anyB rfl (de_var 10)) (dg_name 11 sc_law.nd)
    (dss_one (ds_if (dt_cmp (op_neZ_d rfl (huD64 hr)) (DE.p (DF.e (df_comp (own := [("k", 7)]) rfl sc_law.nd (DI.e (di_rng1 rfl T.b_range (da_cons (de_callB (cd_lenX rfl) T.b_len rfl (dap_cons (DE.p (de_var 11)) dap_nil)) da_nil))) (blkOk_by (N := ["script", "dice", "plain", "words", "one", "other", "text", "k", "sent", "sign", "rings", "ring", "times", "sizes", "size"]) (sc := defScope s_law) (by decide +kernel)) (fun _ _ _ _ _ => (dg_name 7 sc_law.nd)) (fun _ _ _ _ _ => (dts_one (dt_cmp (op_ne_d rfl (huD64 hr)) (DE.p (de_meth (k_Key_changed T) (hr.mono (by decide)) takes0D (de_var 4) (da_cons (de_sub rfl rfl (huD hr) (DE.p (de_var 11)) (DE.p (de_var 7)) fun _ _ => rfl) da_nil))) (DE.p (de_sub rfl rfl (huD hr) (DE.p (de_var 11)) (DE.p (de_op (op_mod_d) (DE.p (de_op (op_add_d rfl) (DE.p (de_var 7)) (DE.p de_int))) (DE.p (de_callB (cd_lenX rfl) T.b_len rfl (dap_cons (DE.p (de_var 11)) dap_nil))))) fun _ _ => rfl))))) (fun _ _ _ _ _ => (de_var 7)) (by decide)))) (DE.p (DF.e (df_lst da_nil))))
    (dss_one (ds_ret de_bl))
    dss_nil)))
    (dss_cons (ds_asg (de_tup (da_cons (de_meth0 (k_Key_times_home T) (hr.mono (by decide)) takes_cxD (de_var 4)) (da_cons (DF.e (df_comp (own := [("ring", 11)]) rfl sc_law.nd (DI.e (di_anyB rfl (de_var 10))) (blkOk_by (N := ["script", "dice", "plain", "words", "one", "other", "text", "k", "sent", "sign", "rings", "ring", "times", "sizes", "size"]) (sc := defScope s_law) (by decide +kernel)) (fun _ _ _ _ _ => (dg_name 11 sc_law.nd)) (fun _ _ _ _ _ => dts_nil) (fun _ _ _ _ _ => (de_callB (cd_lenX rfl) T.b_len rfl (dap_cons (DE.p (de_var 11)) dap_nil))) (by decide))) da_nil))) (dg_tup rfl rfl (dgs_cons (dg_name 12 sc_law.nd) (dgs_cons (dg_name 13 sc_law.nd) dgs_nil))))
    (dss_cons (ds_if (dt_w (dw_or (dt_cmp (op_neZ_d rfl (huD64 hr)) (DE.p (DF.e (df_comp (own := [("size", 14)]) rfl sc_law.nd (DI.e (di_anyB rfl (de_var 13))) (blkOk_by (N := ["script", "dice", "plain", "words", "one", "other", "text", "k", "sent", "sign", "rings", "ring", "times", "sizes", "size"]) (sc := defScope s_law) (by decide +kernel)) (fun _ _ _ _ _ => (dg_name 14 sc_law.nd)) (fun _ _ _ _ _ => (dts_one (dt_cmp (op_ne_d rfl (huD64 hr)) (DE.p (de_op (op_mod_d) (DE.p (de_var 12)) (DE.p (de_var 14)))) (DE.p de_int)))) (fun _ _ _ _ _ => (de_var 14)) (by decide)))) (DE.p (DF.e (df_lst da_nil)))) (dw_or1 (dt_cmp (op_neZ_d rfl (huD64 hr)) (DE.p (DF.e (df_comp (own := [("k", 7)]) rfl sc_law.nd (DI.e (di_anyB rfl (DF.e (df_lst (da_cons de_int (da_cons de_int (da_cons de_int (da_cons de_int (da_cons de_int (da_cons de_int (da_cons de_int (da_cons de_int (da_cons de_int da_nil))))))))))))) (blkOk_by (N := ["script", "dice", "plain", "words", "one", "other", "text", "k", "sent", "sign", "rings", "ring", "times", "sizes", "size"]) (sc := defScope s_law) (by decide +kernel)) (fun _ _ _ _ _ => (dg_name 7 sc_law.nd)) (fun _ _ _ _ _ => (dts_one (dt_w (dw_and (dt_cmp (op_eq_d rfl (huD64 hr)) (DE.p (de_op (op_mod_d) (DE.p (de_var 12)) (DE.p (de_var 7)))) (DE.p de_int)) (dw_and1 (dt_cmp (op_eqZ_d rfl (huD64 hr)) (DE.p (DF.e (df_comp (own := [("size", 14)]) rfl sc_law.nd (DI.e (di_anyB rfl (de_var 13))) (blkOk_by (N := ["script", "dice", "plain", "words", "one", "other", "text", "k", "sent", "sign", "rings", "ring", "times", "sizes", "size"]) (sc := _) (by rfl)) (fun _ _ _ _ _ => (dg_name 14 sc_law.nd)) (fun _ _ _ _ _ => (dts_one (dt_cmp (op_ne_d rfl (huD64 hr)) (DE.p (de_op (op_mod_d) (DE.p (de_op (op_fdiv_d) (DE.p (de_var 12)) (DE.p (de_var 7)))) (DE.p (de_var 14)))) (DE.p de_int)))) (fun _ _ _ _ _ => (de_var 14)) (by decide)))) (DE.p (DF.e (df_lst da_nil))))))))) (fun _ _ _ _ _ => (de_var 7)) (by decide)))) (DE.p (DF.e (df_lst da_nil)))))))
    (dss_one (ds_ret de_bl))
    dss_nil)
    (dss_cons (ds_if (dt_cmp (op_ne_d rfl (huD64 hr)) (DE.p (de_meth0 (k_Key_is_own_undoer T) (hr.mono (by decide)) takes_cxD (de_var 4))) (DE.p (de_cmp (op_lt_d) (DE.p (de_callB (cd_max rfl rfl (huD hr)) T.b_max rfl (dap_cons (DE.p (de_var 13)) dap_nil))) (DE.p de_int))))
    (dss_one (ds_ret de_bl))
    dss_nil)
    (dss_one (ds_if (dt_not (dt_val (de_call (k_law_rest1 T) (hr.mono (by decide)) takes_cxD (da_cons (de_var 1) (da_cons (de_var 2) (da_cons (de_var 3) (da_cons (de_var 4) (da_cons (de_var 6) (da_cons (de_var 8) da_nil)))))))))
    (dss_one (ds_ret de_bl))
    dss_nil)))))))))))))))))
    (pss_one (ps_ret pe_bl))⟩
end
theorem all_mk {l : PySem.W.OpenLaw} {w : World} {K : PySem.W.Frag} {h : Heap} {mg : Str → Option Value} {fa : Addr} {ts : List Addr} (X : K.In h) (hN : h.Ns mainGlobals mg) (hfa : mg "law" = some (.ref fa)) (hTS : ∀ P ∈ ts, h.get? P = some { cls := .none, data := .fields #[] })
    (hF : LawOk F_law 15)
    {f_law_dice f_law_roll f_law_rounds f_law_told f_law_word f_check_text f_Key_init f_key_of_word f_law_key f_Key_changed f_Key_undoer f_Key_behind f_Key_kept f_Key_rounds f_Key_times_home f_Key_is_own_undoer f_shift_key f_shifted_by f_law_moves f_in_columns f_out_of_columns f_keys_that_fit f_part_of_key f_word_of_shifts f_alike_places f_law_cases1 f_law_rest1 f_law c_Key x_BadBook x_NoWay x_BadFlag x_BadFleet x_BadHoist x_Foul x_TooLarge x_Unclear x_BadText k_check_text t_check_text k_word_of_shifts t_word_of_shifts k_alike_places t_alike_places k_law_cases1 t_law_cases1 k_law_rest1 t_law_rest1 : Addr} {oc_law_dice kV_law_dice dc_law_dice pm_law_dice ct_law_dice cd_law_dice : Value} {od_law_dice an_law_dice : Option Addr} {sl_law_dice : Array (Option Value)} {oc_law_roll kV_law_roll dc_law_roll pm_law_roll ct_law_roll cd_law_roll : Value} {od_law_roll an_law_roll : Option Addr} {sl_law_roll : Array (Option Value)} {oc_law_rounds kV_law_rounds dc_law_rounds pm_law_rounds ct_law_rounds cd_law_rounds : Value} {od_law_rounds an_law_rounds : Option Addr} {sl_law_rounds : Array (Option Value)} {oc_law_told kV_law_told dc_law_told pm_law_told ct_law_told cd_law_told : Value} {od_law_told an_law_told : Option Addr} {sl_law_told : Array (Option Value)} {oc_law_word kV_law_word dc_law_word pm_law_word ct_law_word cd_law_word : Value} {od_law_word an_law_word : Option Addr} {sl_law_word : Array (Option Value)} {oc_check_text kV_check_text dc_check_text pm_check_text ct_check_text : Value} {od_check_text an_check_text : Option Addr} {sl_check_text : Array (Option Value)} {oc_Key_init kV_Key_init dc_Key_init pm_Key_init ct_Key_init cd_Key_init : Value} {od_Key_init an_Key_init : Option Addr} {sl_Key_init : Array (Option Value)} {oc_key_of_word kV_key_of_word dc_key_of_word pm_key_of_word ct_key_of_word cd_key_of_word : Value} {od_key_of_word an_key_of_word : Option Addr} {sl_key_of_word : Array (Option Value)} {oc_law_key kV_law_key dc_law_key pm_law_key ct_law_key cd_law_key : Value} {od_law_key an_law_key : Option Addr} {sl_law_key : Array (Option Value)} {oc_Key_changed kV_Key_changed dc_Key_changed pm_Key_changed ct_Key_changed cd_Key_changed : Value} {od_Key_changed an_Key_changed : Option Addr} {sl_Key_changed : Array (Option Value)} {oc_Key_undoer kV_Key_undoer dc_Key_undoer pm_Key_undoer ct_Key_undoer cd_Key_undoer : Value} {od_Key_undoer an_Key_undoer : Option Addr} {sl_Key_undoer : Array (Option Value)} {oc_Key_behind kV_Key_behind dc_Key_behind pm_Key_behind ct_Key_behind cd_Key_behind : Value} {od_Key_behind an_Key_behind : Option Addr} {sl_Key_behind : Array (Option Value)} {oc_Key_kept kV_Key_kept dc_Key_kept pm_Key_kept ct_Key_kept cd_Key_kept : Value} {od_Key_kept an_Key_kept : Option Addr} {sl_Key_kept : Array (Option Value)} {oc_Key_rounds kV_Key_rounds dc_Key_rounds pm_Key_rounds ct_Key_rounds cd_Key_rounds : Value} {od_Key_rounds an_Key_rounds : Option Addr} {sl_Key_rounds : Array (Option Value)} {oc_Key_times_home kV_Key_times_home dc_Key_times_home pm_Key_times_home ct_Key_times_home cd_Key_times_home : Value} {od_Key_times_home an_Key_times_home : Option Addr} {sl_Key_times_home : Array (Option Value)} {oc_Key_is_own_undoer kV_Key_is_own_undoer dc_Key_is_own_undoer pm_Key_is_own_undoer ct_Key_is_own_undoer cd_Key_is_own_undoer : Value} {od_Key_is_own_undoer an_Key_is_own_undoer : Option Addr} {sl_Key_is_own_undoer : Array (Option Value)} {oc_shift_key kV_shift_key dc_shift_key pm_shift_key ct_shift_key cd_shift_key : Value} {od_shift_key an_shift_key : Option Addr} {sl_shift_key : Array (Option Value)} {oc_shifted_by kV_shifted_by dc_shifted_by pm_shifted_by ct_shifted_by cd_shifted_by : Value} {od_shifted_by an_shifted_by : Option Addr} {sl_shifted_by : Array (Option Value)} {oc_law_moves kV_law_moves dc_law_moves pm_law_moves ct_law_moves cd_law_moves : Value} {od_law_moves an_law_moves : Option Addr} {sl_law_moves : Array (Option Value)} {oc_in_columns kV_in_columns dc_in_columns pm_in_columns ct_in_columns cd_in_columns : Value} {od_in_columns an_in_columns : Option Addr} {sl_in_columns : Array (Option Value)} {oc_out_of_columns kV_out_of_columns dc_out_of_columns pm_out_of_columns ct_out_of_columns cd_out_of_columns : Value} {od_out_of_columns an_out_of_columns : Option Addr} {sl_out_of_columns : Array (Option Value)} {oc_keys_that_fit kV_keys_that_fit dc_keys_that_fit pm_keys_that_fit ct_keys_that_fit cd_keys_that_fit : Value} {od_keys_that_fit an_keys_that_fit : Option Addr} {sl_keys_that_fit : Array (Option Value)} {oc_part_of_key kV_part_of_key dc_part_of_key pm_part_of_key ct_part_of_key cd_part_of_key : Value} {od_part_of_key an_part_of_key : Option Addr} {sl_part_of_key : Array (Option Value)} {oc_word_of_shifts kV_word_of_shifts dc_word_of_shifts pm_word_of_shifts ct_word_of_shifts : Value} {od_word_of_shifts an_word_of_shifts : Option Addr} {sl_word_of_shifts : Array (Option Value)} {oc_alike_places kV_alike_places dc_alike_places pm_alike_places ct_alike_places : Value} {od_alike_places an_alike_places : Option Addr} {sl_alike_places : Array (Option Value)} {oc_law_cases1 kV_law_cases1 dc_law_cases1 pm_law_cases1 ct_law_cases1 : Value} {od_law_cases1 an_law_cases1 : Option Addr} {sl_law_cases1 : Array (Option Value)} {oc_law_rest1 kV_law_rest1 dc_law_rest1 pm_law_rest1 ct_law_rest1 : Value} {od_law_rest1 an_law_rest1 : Option Addr} {sl_law_rest1 : Array (Option Value)} {oc_law kV_law dc_law pm_law ct_law cd_law : Value} {od_law an_law : Option Addr} {sl_law : Array (Option Value)} {u_LETTERS : Value} {vs_check_text : Array Value} {zo_check_text : Option Addr} {zs_check_text : Array (Option Value)} {vs_word_of_shifts : Array Value} {zo_word_of_shifts : Option Addr} {zs_word_of_shifts : Array (Option Value)} {vs_alike_places : Array Value} {zo_alike_places : Option Addr} {zs_alike_places : Array (Option Value)} {vs_law_cases1 : Array Value} {zo_law_cases1 : Option Addr} {zs_law_cases1 : Array (Option Value)} {vs_law_rest1 : Array Value} {zo_law_rest1 : Option Addr} {zs_law_rest1 : Array (Option Value)}
    (nk_law_dice : PySem.W.nsIn K mainGlobals "_law_dice" = some (some (.ref f_law_dice)))
    (lk_law_dice : K.lookup f_law_dice = some ⟨oc_law_dice, od_law_dice, .func (PySem.W.fnOf "_law_dice" "_law_dice" (defArgs s_law_dice) (defBody s_law_dice) (defScope s_law_dice) .none kV_law_dice dc_law_dice pm_law_dice an_law_dice cd_law_dice ct_law_dice), sl_law_dice⟩)
    (dk_law_dice : PySem.W.codeIn K cd_law_dice "_law_dice" = true)
    (kk_law_dice : PySem.W.keepIn K (.ref f_law_dice) = true)
    (nk_law_roll : PySem.W.nsIn K mainGlobals "_law_roll" = some (some (.ref f_law_roll)))
    (lk_law_roll : K.lookup f_law_roll = some ⟨oc_law_roll, od_law_roll, .func (PySem.W.fnOf "_law_roll" "_law_roll" (defArgs s_law_roll) (defBody s_law_roll) (defScope s_law_roll) .none kV_law_roll dc_law_roll pm_law_roll an_law_roll cd_law_roll ct_law_roll), sl_law_roll⟩)
    (dk_law_roll : PySem.W.codeIn K cd_law_roll "_law_roll" = true)
    (kk_law_roll : PySem.W.keepIn K (.ref f_law_roll) = true)
    (nk_law_rounds : PySem.W.nsIn K mainGlobals "_law_rounds" = some (some (.ref f_law_rounds)))
    (lk_law_rounds : K.lookup f_law_rounds = some ⟨oc_law_rounds, od_law_rounds, .func (PySem.W.fnOf "_law_rounds" "_law_rounds" (defArgs s_law_rounds) (defBody s_law_rounds) (defScope s_law_rounds) .none kV_law_rounds dc_law_rounds pm_law_rounds an_law_rounds cd_law_rounds ct_law_rounds), sl_law_rounds⟩)
    (dk_law_rounds : PySem.W.codeIn K cd_law_rounds "_law_rounds" = true)
    (kk_law_rounds : PySem.W.keepIn K (.ref f_law_rounds) = true)
    (nk_law_told : PySem.W.nsIn K mainGlobals "_law_told" = some (some (.ref f_law_told)))
    (lk_law_told : K.lookup f_law_told = some ⟨oc_law_told, od_law_told, .func (PySem.W.fnOf "_law_told" "_law_told" (defArgs s_law_told) (defBody s_law_told) (defScope s_law_told) .none kV_law_told dc_law_told pm_law_told an_law_told cd_law_told ct_law_told), sl_law_told⟩)
    (dk_law_told : PySem.W.codeIn K cd_law_told "_law_told" = true)
    (kk_law_told : PySem.W.keepIn K (.ref f_law_told) = true)
    (nk_law_word : PySem.W.nsIn K mainGlobals "_law_word" = some (some (.ref f_law_word)))
    (lk_law_word : K.lookup f_law_word = some ⟨oc_law_word, od_law_word, .func (PySem.W.fnOf "_law_word" "_law_word" (defArgs s_law_word) (defBody s_law_word) (defScope s_law_word) .none kV_law_word dc_law_word pm_law_word an_law_word cd_law_word ct_law_word), sl_law_word⟩)
    (dk_law_word : PySem.W.codeIn K cd_law_word "_law_word" = true)
    (kk_law_word : PySem.W.keepIn K (.ref f_law_word) = true)
    (nk_check_text : PySem.W.nsIn K mainGlobals "check_text" = some (some (.ref f_check_text)))
    (lk_check_text : K.lookup f_check_text = some ⟨oc_check_text, od_check_text, .func (PySem.W.fnOf "check_text" "check_text" (defArgs s_check_text) (defBody s_check_text) (defScope s_check_text) .none kV_check_text dc_check_text pm_check_text an_check_text (.ref k_check_text) ct_check_text), sl_check_text⟩)
    (dk_check_text : PySem.W.codeIn K (.ref k_check_text) "check_text" = true)
    (kk_check_text : PySem.W.keepIn K (.ref f_check_text) = true)
    (ck_Key : PySem.W.nsIn K mainGlobals "Key" = some (some (.ref c_Key)))
    (nk_Key_init : PySem.W.findIn K (.ref c_Key) "__init__" = some (some (.ref f_Key_init)))
    (ik_Key_init : PySem.W.isFn K (.ref f_Key_init) = true)
    (lk_Key_init : K.lookup f_Key_init = some ⟨oc_Key_init, od_Key_init, .func (PySem.W.fnOf "__init__" "Key.__init__" (defArgs s_Key_init) (defBody s_Key_init) (defScope s_Key_init) .none kV_Key_init dc_Key_init pm_Key_init an_Key_init cd_Key_init ct_Key_init), sl_Key_init⟩)
    (dk_Key_init : PySem.W.codeIn K cd_Key_init "Key.__init__" = true)
    (kk_Key_init : PySem.W.keepIn K (.ref f_Key_init) = true)
    (nk_key_of_word : PySem.W.nsIn K mainGlobals "key_of_word" = some (some (.ref f_key_of_word)))
    (lk_key_of_word : K.lookup f_key_of_word = some ⟨oc_key_of_word, od_key_of_word, .func (PySem.W.fnOf "key_of_word" "key_of_word" (defArgs s_key_of_word) (defBody s_key_of_word) (defScope s_key_of_word) .none kV_key_of_word dc_key_of_word pm_key_of_word an_key_of_word cd_key_of_word ct_key_of_word), sl_key_of_word⟩)
    (dk_key_of_word : PySem.W.codeIn K cd_key_of_word "key_of_word" = true)
    (kk_key_of_word : PySem.W.keepIn K (.ref f_key_of_word) = true)
    (nk_law_key : PySem.W.nsIn K mainGlobals "_law_key" = some (some (.ref f_law_key)))
    (lk_law_key : K.lookup f_law_key = some ⟨oc_law_key, od_law_key, .func (PySem.W.fnOf "_law_key" "_law_key" (defArgs s_law_key) (defBody s_law_key) (defScope s_law_key) .none kV_law_key dc_law_key pm_law_key an_law_key cd_law_key ct_law_key), sl_law_key⟩)
    (dk_law_key : PySem.W.codeIn K cd_law_key "_law_key" = true)
    (kk_law_key : PySem.W.keepIn K (.ref f_law_key) = true)
    (nk_Key_changed : PySem.W.findIn K (.ref c_Key) "changed" = some (some (.ref f_Key_changed)))
    (ik_Key_changed : PySem.W.isFn K (.ref f_Key_changed) = true)
    (lk_Key_changed : K.lookup f_Key_changed = some ⟨oc_Key_changed, od_Key_changed, .func (PySem.W.fnOf "changed" "Key.changed" (defArgs s_Key_changed) (defBody s_Key_changed) (defScope s_Key_changed) .none kV_Key_changed dc_Key_changed pm_Key_changed an_Key_changed cd_Key_changed ct_Key_changed), sl_Key_changed⟩)
    (dk_Key_changed : PySem.W.codeIn K cd_Key_changed "Key.changed" = true)
    (kk_Key_changed : PySem.W.keepIn K (.ref f_Key_changed) = true)
    (nk_Key_undoer : PySem.W.findIn K (.ref c_Key) "undoer" = some (some (.ref f_Key_undoer)))
    (ik_Key_undoer : PySem.W.isFn K (.ref f_Key_undoer) = true)
    (lk_Key_undoer : K.lookup f_Key_undoer = some ⟨oc_Key_undoer, od_Key_undoer, .func (PySem.W.fnOf "undoer" "Key.undoer" (defArgs s_Key_undoer) (defBody s_Key_undoer) (defScope s_Key_undoer) .none kV_Key_undoer dc_Key_undoer pm_Key_undoer an_Key_undoer cd_Key_undoer ct_Key_undoer), sl_Key_undoer⟩)
    (dk_Key_undoer : PySem.W.codeIn K cd_Key_undoer "Key.undoer" = true)
    (kk_Key_undoer : PySem.W.keepIn K (.ref f_Key_undoer) = true)
    (nk_Key_behind : PySem.W.findIn K (.ref c_Key) "behind" = some (some (.ref f_Key_behind)))
    (ik_Key_behind : PySem.W.isFn K (.ref f_Key_behind) = true)
    (lk_Key_behind : K.lookup f_Key_behind = some ⟨oc_Key_behind, od_Key_behind, .func (PySem.W.fnOf "behind" "Key.behind" (defArgs s_Key_behind) (defBody s_Key_behind) (defScope s_Key_behind) .none kV_Key_behind dc_Key_behind pm_Key_behind an_Key_behind cd_Key_behind ct_Key_behind), sl_Key_behind⟩)
    (dk_Key_behind : PySem.W.codeIn K cd_Key_behind "Key.behind" = true)
    (kk_Key_behind : PySem.W.keepIn K (.ref f_Key_behind) = true)
    (nk_Key_kept : PySem.W.findIn K (.ref c_Key) "kept" = some (some (.ref f_Key_kept)))
    (ik_Key_kept : PySem.W.isFn K (.ref f_Key_kept) = true)
    (lk_Key_kept : K.lookup f_Key_kept = some ⟨oc_Key_kept, od_Key_kept, .func (PySem.W.fnOf "kept" "Key.kept" (defArgs s_Key_kept) (defBody s_Key_kept) (defScope s_Key_kept) .none kV_Key_kept dc_Key_kept pm_Key_kept an_Key_kept cd_Key_kept ct_Key_kept), sl_Key_kept⟩)
    (dk_Key_kept : PySem.W.codeIn K cd_Key_kept "Key.kept" = true)
    (kk_Key_kept : PySem.W.keepIn K (.ref f_Key_kept) = true)
    (nk_Key_rounds : PySem.W.findIn K (.ref c_Key) "rounds" = some (some (.ref f_Key_rounds)))
    (ik_Key_rounds : PySem.W.isFn K (.ref f_Key_rounds) = true)
    (lk_Key_rounds : K.lookup f_Key_rounds = some ⟨oc_Key_rounds, od_Key_rounds, .func (PySem.W.fnOf "rounds" "Key.rounds" (defArgs s_Key_rounds) (defBody s_Key_rounds) (defScope s_Key_rounds) .none kV_Key_rounds dc_Key_rounds pm_Key_rounds an_Key_rounds cd_Key_rounds ct_Key_rounds), sl_Key_rounds⟩)
    (dk_Key_rounds : PySem.W.codeIn K cd_Key_rounds "Key.rounds" = true)
    (kk_Key_rounds : PySem.W.keepIn K (.ref f_Key_rounds) = true)
    (nk_Key_times_home : PySem.W.findIn K (.ref c_Key) "times_home" = some (some (.ref f_Key_times_home)))
    (ik_Key_times_home : PySem.W.isFn K (.ref f_Key_times_home) = true)
    (lk_Key_times_home : K.lookup f_Key_times_home = some ⟨oc_Key_times_home, od_Key_times_home, .func (PySem.W.fnOf "times_home" "Key.times_home" (defArgs s_Key_times_home) (defBody s_Key_times_home) (defScope s_Key_times_home) .none kV_Key_times_home dc_Key_times_home pm_Key_times_home an_Key_times_home cd_Key_times_home ct_Key_times_home), sl_Key_times_home⟩)
    (dk_Key_times_home : PySem.W.codeIn K cd_Key_times_home "Key.times_home" = true)
    (kk_Key_times_home : PySem.W.keepIn K (.ref f_Key_times_home) = true)
    (nk_Key_is_own_undoer : PySem.W.findIn K (.ref c_Key) "is_own_undoer" = some (some (.ref f_Key_is_own_undoer)))
    (ik_Key_is_own_undoer : PySem.W.isFn K (.ref f_Key_is_own_undoer) = true)
    (lk_Key_is_own_undoer : K.lookup f_Key_is_own_undoer = some ⟨oc_Key_is_own_undoer, od_Key_is_own_undoer, .func (PySem.W.fnOf "is_own_undoer" "Key.is_own_undoer" (defArgs s_Key_is_own_undoer) (defBody s_Key_is_own_undoer) (defScope s_Key_is_own_undoer) .none kV_Key_is_own_undoer dc_Key_is_own_undoer pm_Key_is_own_undoer an_Key_is_own_undoer cd_Key_is_own_undoer ct_Key_is_own_undoer), sl_Key_is_own_undoer⟩)
    (dk_Key_is_own_undoer : PySem.W.codeIn K cd_Key_is_own_undoer "Key.is_own_undoer" = true)
    (kk_Key_is_own_undoer : PySem.W.keepIn K (.ref f_Key_is_own_undoer) = true)
    (nk_shift_key : PySem.W.nsIn K mainGlobals "shift_key" = some (some (.ref f_shift_key)))
    (lk_shift_key : K.lookup f_shift_key = some ⟨oc_shift_key, od_shift_key, .func (PySem.W.fnOf "shift_key" "shift_key" (defArgs s_shift_key) (defBody s_shift_key) (defScope s_shift_key) .none kV_shift_key dc_shift_key pm_shift_key an_shift_key cd_shift_key ct_shift_key), sl_shift_key⟩)
    (dk_shift_key : PySem.W.codeIn K cd_shift_key "shift_key" = true)
    (kk_shift_key : PySem.W.keepIn K (.ref f_shift_key) = true)
    (nk_shifted_by : PySem.W.nsIn K mainGlobals "shifted_by" = some (some (.ref f_shifted_by)))
    (lk_shifted_by : K.lookup f_shifted_by = some ⟨oc_shifted_by, od_shifted_by, .func (PySem.W.fnOf "shifted_by" "shifted_by" (defArgs s_shifted_by) (defBody s_shifted_by) (defScope s_shifted_by) .none kV_shifted_by dc_shifted_by pm_shifted_by an_shifted_by cd_shifted_by ct_shifted_by), sl_shifted_by⟩)
    (dk_shifted_by : PySem.W.codeIn K cd_shifted_by "shifted_by" = true)
    (kk_shifted_by : PySem.W.keepIn K (.ref f_shifted_by) = true)
    (nk_law_moves : PySem.W.nsIn K mainGlobals "_law_moves" = some (some (.ref f_law_moves)))
    (lk_law_moves : K.lookup f_law_moves = some ⟨oc_law_moves, od_law_moves, .func (PySem.W.fnOf "_law_moves" "_law_moves" (defArgs s_law_moves) (defBody s_law_moves) (defScope s_law_moves) .none kV_law_moves dc_law_moves pm_law_moves an_law_moves cd_law_moves ct_law_moves), sl_law_moves⟩)
    (dk_law_moves : PySem.W.codeIn K cd_law_moves "_law_moves" = true)
    (kk_law_moves : PySem.W.keepIn K (.ref f_law_moves) = true)
    (nk_in_columns : PySem.W.nsIn K mainGlobals "in_columns" = some (some (.ref f_in_columns)))
    (lk_in_columns : K.lookup f_in_columns = some ⟨oc_in_columns, od_in_columns, .func (PySem.W.fnOf "in_columns" "in_columns" (defArgs s_in_columns) (defBody s_in_columns) (defScope s_in_columns) .none kV_in_columns dc_in_columns pm_in_columns an_in_columns cd_in_columns ct_in_columns), sl_in_columns⟩)
    (dk_in_columns : PySem.W.codeIn K cd_in_columns "in_columns" = true)
    (kk_in_columns : PySem.W.keepIn K (.ref f_in_columns) = true)
    (nk_out_of_columns : PySem.W.nsIn K mainGlobals "out_of_columns" = some (some (.ref f_out_of_columns)))
    (lk_out_of_columns : K.lookup f_out_of_columns = some ⟨oc_out_of_columns, od_out_of_columns, .func (PySem.W.fnOf "out_of_columns" "out_of_columns" (defArgs s_out_of_columns) (defBody s_out_of_columns) (defScope s_out_of_columns) .none kV_out_of_columns dc_out_of_columns pm_out_of_columns an_out_of_columns cd_out_of_columns ct_out_of_columns), sl_out_of_columns⟩)
    (dk_out_of_columns : PySem.W.codeIn K cd_out_of_columns "out_of_columns" = true)
    (kk_out_of_columns : PySem.W.keepIn K (.ref f_out_of_columns) = true)
    (nk_keys_that_fit : PySem.W.nsIn K mainGlobals "keys_that_fit" = some (some (.ref f_keys_that_fit)))
    (lk_keys_that_fit : K.lookup f_keys_that_fit = some ⟨oc_keys_that_fit, od_keys_that_fit, .func (PySem.W.fnOf "keys_that_fit" "keys_that_fit" (defArgs s_keys_that_fit) (defBody s_keys_that_fit) (defScope s_keys_that_fit) .none kV_keys_that_fit dc_keys_that_fit pm_keys_that_fit an_keys_that_fit cd_keys_that_fit ct_keys_that_fit), sl_keys_that_fit⟩)
    (dk_keys_that_fit : PySem.W.codeIn K cd_keys_that_fit "keys_that_fit" = true)
    (kk_keys_that_fit : PySem.W.keepIn K (.ref f_keys_that_fit) = true)
    (nk_part_of_key : PySem.W.nsIn K mainGlobals "part_of_key" = some (some (.ref f_part_of_key)))
    (lk_part_of_key : K.lookup f_part_of_key = some ⟨oc_part_of_key, od_part_of_key, .func (PySem.W.fnOf "part_of_key" "part_of_key" (defArgs s_part_of_key) (defBody s_part_of_key) (defScope s_part_of_key) .none kV_part_of_key dc_part_of_key pm_part_of_key an_part_of_key cd_part_of_key ct_part_of_key), sl_part_of_key⟩)
    (dk_part_of_key : PySem.W.codeIn K cd_part_of_key "part_of_key" = true)
    (kk_part_of_key : PySem.W.keepIn K (.ref f_part_of_key) = true)
    (nk_word_of_shifts : PySem.W.nsIn K mainGlobals "word_of_shifts" = some (some (.ref f_word_of_shifts)))
    (lk_word_of_shifts : K.lookup f_word_of_shifts = some ⟨oc_word_of_shifts, od_word_of_shifts, .func (PySem.W.fnOf "word_of_shifts" "word_of_shifts" (defArgs s_word_of_shifts) (defBody s_word_of_shifts) (defScope s_word_of_shifts) .none kV_word_of_shifts dc_word_of_shifts pm_word_of_shifts an_word_of_shifts (.ref k_word_of_shifts) ct_word_of_shifts), sl_word_of_shifts⟩)
    (dk_word_of_shifts : PySem.W.codeIn K (.ref k_word_of_shifts) "word_of_shifts" = true)
    (kk_word_of_shifts : PySem.W.keepIn K (.ref f_word_of_shifts) = true)
    (nk_alike_places : PySem.W.nsIn K mainGlobals "alike_places" = some (some (.ref f_alike_places)))
    (lk_alike_places : K.lookup f_alike_places = some ⟨oc_alike_places, od_alike_places, .func (PySem.W.fnOf "alike_places" "alike_places" (defArgs s_alike_places) (defBody s_alike_places) (defScope s_alike_places) .none kV_alike_places dc_alike_places pm_alike_places an_alike_places (.ref k_alike_places) ct_alike_places), sl_alike_places⟩)
    (dk_alike_places : PySem.W.codeIn K (.ref k_alike_places) "alike_places" = true)
    (kk_alike_places : PySem.W.keepIn K (.ref f_alike_places) = true)
    (nk_law_cases1 : PySem.W.nsIn K mainGlobals "_law_cases1" = some (some (.ref f_law_cases1)))
    (lk_law_cases1 : K.lookup f_law_cases1 = some ⟨oc_law_cases1, od_law_cases1, .func (PySem.W.fnOf "_law_cases1" "_law_cases1" (defArgs s_law_cases1) (defBody s_law_cases1) (defScope s_law_cases1) .none kV_law_cases1 dc_law_cases1 pm_law_cases1 an_law_cases1 (.ref k_law_cases1) ct_law_cases1), sl_law_cases1⟩)
    (dk_law_cases1 : PySem.W.codeIn K (.ref k_law_cases1) "_law_cases1" = true)
    (kk_law_cases1 : PySem.W.keepIn K (.ref f_law_cases1) = true)
    (nk_law_rest1 : PySem.W.nsIn K mainGlobals "_law_rest1" = some (some (.ref f_law_rest1)))
    (lk_law_rest1 : K.lookup f_law_rest1 = some ⟨oc_law_rest1, od_law_rest1, .func (PySem.W.fnOf "_law_rest1" "_law_rest1" (defArgs s_law_rest1) (defBody s_law_rest1) (defScope s_law_rest1) .none kV_law_rest1 dc_law_rest1 pm_law_rest1 an_law_rest1 (.ref k_law_rest1) ct_law_rest1), sl_law_rest1⟩)
    (dk_law_rest1 : PySem.W.codeIn K (.ref k_law_rest1) "_law_rest1" = true)
    (kk_law_rest1 : PySem.W.keepIn K (.ref f_law_rest1) = true)
    (nk_law : PySem.W.nsIn K mainGlobals "law" = some (some (.ref f_law)))
    (lk_law : K.lookup f_law = some ⟨oc_law, od_law, .func (PySem.W.fnOf "law" "law" (defArgs s_law) (defBody s_law) (defScope s_law) .none kV_law dc_law pm_law an_law cd_law ct_law), sl_law⟩)
    (dk_law : PySem.W.codeIn K cd_law "law" = true)
    (kk_law : PySem.W.keepIn K (.ref f_law) = true)
    (pg_Key : PySem.W.plainGet K c_Key Str.empty = true)
    (hd_Key : PySem.W.hasDictIn K c_Key = true)
    (po_Key : PySem.W.plainOver K c_Key = true)
    (sa_Key : PySem.W.findIn K (.ref c_Key) "__setattr__" = some (some (.builtin "object.__setattr__")))
    (mi_Key : PySem.W.makesIn K c_Key = true)
    (kc_Key : PySem.W.keepIn K (.ref c_Key) = true)
    (nf_Key_letters : PySem.W.findIn K (.ref c_Key) "letters" = some none)
    (xn_BadBook : PySem.W.nsIn K mainGlobals "BadBook" = some (some (.ref x_BadBook)))
    (xe_BadBook : PySem.W.excIn K x_BadBook [.type "ValueError", .type "Exception", .type "BaseException", .type "object"] "ValueError.__new__" = true)
    (xk_BadBook : PySem.W.keepIn K (.ref x_BadBook) = true)
    (xs_BadBook : PySem.W.subIn K (.ref x_BadBook) (.type "BaseException") = some true)
    (xt_BadBook : PySem.W.typeIn K (.ref x_BadBook) = some (.type "type"))
    (xn_NoWay : PySem.W.nsIn K mainGlobals "NoWay" = some (some (.ref x_NoWay)))
    (xe_NoWay : PySem.W.excIn K x_NoWay [.type "ValueError", .type "Exception", .type "BaseException", .type "object"] "ValueError.__new__" = true)
    (xk_NoWay : PySem.W.keepIn K (.ref x_NoWay) = true)
    (xs_NoWay : PySem.W.subIn K (.ref x_NoWay) (.type "BaseException") = some true)
    (xt_NoWay : PySem.W.typeIn K (.ref x_NoWay) = some (.type "type"))
    (xn_BadFlag : PySem.W.nsIn K mainGlobals "BadFlag" = some (some (.ref x_BadFlag)))
    (xe_BadFlag : PySem.W.excIn K x_BadFlag [.type "ValueError", .type "Exception", .type "BaseException", .type "object"] "ValueError.__new__" = true)
    (xk_BadFlag : PySem.W.keepIn K (.ref x_BadFlag) = true)
    (xs_BadFlag : PySem.W.subIn K (.ref x_BadFlag) (.type "BaseException") = some true)
    (xt_BadFlag : PySem.W.typeIn K (.ref x_BadFlag) = some (.type "type"))
    (xn_BadFleet : PySem.W.nsIn K mainGlobals "BadFleet" = some (some (.ref x_BadFleet)))
    (xe_BadFleet : PySem.W.excIn K x_BadFleet [.type "ValueError", .type "Exception", .type "BaseException", .type "object"] "ValueError.__new__" = true)
    (xk_BadFleet : PySem.W.keepIn K (.ref x_BadFleet) = true)
    (xs_BadFleet : PySem.W.subIn K (.ref x_BadFleet) (.type "BaseException") = some true)
    (xt_BadFleet : PySem.W.typeIn K (.ref x_BadFleet) = some (.type "type"))
    (xn_BadHoist : PySem.W.nsIn K mainGlobals "BadHoist" = some (some (.ref x_BadHoist)))
    (xe_BadHoist : PySem.W.excIn K x_BadHoist [.type "ValueError", .type "Exception", .type "BaseException", .type "object"] "ValueError.__new__" = true)
    (xk_BadHoist : PySem.W.keepIn K (.ref x_BadHoist) = true)
    (xs_BadHoist : PySem.W.subIn K (.ref x_BadHoist) (.type "BaseException") = some true)
    (xt_BadHoist : PySem.W.typeIn K (.ref x_BadHoist) = some (.type "type"))
    (xn_Foul : PySem.W.nsIn K mainGlobals "Foul" = some (some (.ref x_Foul)))
    (xn_TooLarge : PySem.W.nsIn K mainGlobals "TooLarge" = some (some (.ref x_TooLarge)))
    (xe_TooLarge : PySem.W.excIn K x_TooLarge [.type "ValueError", .type "Exception", .type "BaseException", .type "object"] "ValueError.__new__" = true)
    (xk_TooLarge : PySem.W.keepIn K (.ref x_TooLarge) = true)
    (xs_TooLarge : PySem.W.subIn K (.ref x_TooLarge) (.type "BaseException") = some true)
    (xt_TooLarge : PySem.W.typeIn K (.ref x_TooLarge) = some (.type "type"))
    (xn_Unclear : PySem.W.nsIn K mainGlobals "Unclear" = some (some (.ref x_Unclear)))
    (xn_BadText : PySem.W.nsIn K mainGlobals "BadText" = some (some (.ref x_BadText)))
    (exq : exmB K (excA ⟨f_law_dice, f_law_roll, f_law_rounds, f_law_told, f_law_word, f_check_text, f_Key_init, f_key_of_word, f_law_key, f_Key_changed, f_Key_undoer, f_Key_behind, f_Key_kept, f_Key_rounds, f_Key_times_home, f_Key_is_own_undoer, f_shift_key, f_shifted_by, f_law_moves, f_in_columns, f_out_of_columns, f_keys_that_fit, f_part_of_key, f_word_of_shifts, f_alike_places, f_law_cases1, f_law_rest1, f_law, c_Key, x_BadBook, x_NoWay, x_BadFlag, x_BadFleet, x_BadHoist, x_Foul, x_TooLarge, x_Unclear, x_BadText, k_check_text, t_check_text, k_word_of_shifts, t_word_of_shifts, k_alike_places, t_alike_places, k_law_cases1, t_law_cases1, k_law_rest1, t_law_rest1⟩) (toldL.map (·.1)) = true)
    (bz_range : PySem.W.nsIn K mainGlobals "range" = some none)
    (bz_any : PySem.W.nsIn K mainGlobals "any" = some none)
    (bz_sorted : PySem.W.nsIn K mainGlobals "sorted" = some none)
    (bz_list : PySem.W.nsIn K mainGlobals "list" = some none)
    (bz_tuple : PySem.W.nsIn K mainGlobals "tuple" = some none)
    (bz_min : PySem.W.nsIn K mainGlobals "min" = some none)
    (bz_len : PySem.W.nsIn K mainGlobals "len" = some none)
    (bz_max : PySem.W.nsIn K mainGlobals "max" = some none)
    (bz_enumerate : PySem.W.nsIn K mainGlobals "enumerate" = some none)
    (bz_zip : PySem.W.nsIn K mainGlobals "zip" = some none)
    (bz_dict : PySem.W.nsIn K mainGlobals "dict" = some none)
    (bz_all : PySem.W.nsIn K mainGlobals "all" = some none)
    (bz_sum : PySem.W.nsIn K mainGlobals "sum" = some none)
    (bz_int : PySem.W.nsIn K mainGlobals "int" = some none)
    (bz_abs : PySem.W.nsIn K mainGlobals "abs" = some none)
    (cn_LETTERS : PySem.W.nsIn K mainGlobals "LETTERS" = some (some u_LETTERS))
    (cq_LETTERS : isD K d_LETTERS u_LETTERS = true)
    (zl_check_text : K.lookup k_check_text = some ⟨.type "code", zo_check_text, .fields vs_check_text, zs_check_text⟩)
    (zv_check_text : (vs_check_text[11]? : Option Value) = some (.ref t_check_text))
    (zh_check_text : PySem.W.codeHdIn K k_check_text t_check_text = true)
    (zn_check_text : K.lookup t_check_text = none)
    (zt_check_text : t_check_text ∈ ts)
    (zl_word_of_shifts : K.lookup k_word_of_shifts = some ⟨.type "code", zo_word_of_shifts, .fields vs_word_of_shifts, zs_word_of_shifts⟩)
    (zv_word_of_shifts : (vs_word_of_shifts[11]? : Option Value) = some (.ref t_word_of_shifts))
    (zh_word_of_shifts : PySem.W.codeHdIn K k_word_of_shifts t_word_of_shifts = true)
    (zn_word_of_shifts : K.lookup t_word_of_shifts = none)
    (zt_word_of_shifts : t_word_of_shifts ∈ ts)
    (zl_alike_places : K.lookup k_alike_places = some ⟨.type "code", zo_alike_places, .fields vs_alike_places, zs_alike_places⟩)
    (zv_alike_places : (vs_alike_places[11]? : Option Value) = some (.ref t_alike_places))
    (zh_alike_places : PySem.W.codeHdIn K k_alike_places t_alike_places = true)
    (zn_alike_places : K.lookup t_alike_places = none)
    (zt_alike_places : t_alike_places ∈ ts)
    (zl_law_cases1 : K.lookup k_law_cases1 = some ⟨.type "code", zo_law_cases1, .fields vs_law_cases1, zs_law_cases1⟩)
    (zv_law_cases1 : (vs_law_cases1[11]? : Option Value) = some (.ref t_law_cases1))
    (zh_law_cases1 : PySem.W.codeHdIn K k_law_cases1 t_law_cases1 = true)
    (zn_law_cases1 : K.lookup t_law_cases1 = none)
    (zt_law_cases1 : t_law_cases1 ∈ ts)
    (zl_law_rest1 : K.lookup k_law_rest1 = some ⟨.type "code", zo_law_rest1, .fields vs_law_rest1, zs_law_rest1⟩)
    (zv_law_rest1 : (vs_law_rest1[11]? : Option Value) = some (.ref t_law_rest1))
    (zh_law_rest1 : PySem.W.codeHdIn K k_law_rest1 t_law_rest1 = true)
    (zn_law_rest1 : K.lookup t_law_rest1 = none)
    (zt_law_rest1 : t_law_rest1 ∈ ts)
    (ne_check_text_word_of_shifts : t_check_text ≠ t_word_of_shifts)
    (ne_check_text_alike_places : t_check_text ≠ t_alike_places)
    (ne_check_text_law_cases1 : t_check_text ≠ t_law_cases1)
    (ne_check_text_law_rest1 : t_check_text ≠ t_law_rest1)
    (ne_word_of_shifts_alike_places : t_word_of_shifts ≠ t_alike_places)
    (ne_word_of_shifts_law_cases1 : t_word_of_shifts ≠ t_law_cases1)
    (ne_word_of_shifts_law_rest1 : t_word_of_shifts ≠ t_law_rest1)
    (ne_alike_places_law_cases1 : t_alike_places ≠ t_law_cases1)
    (ne_alike_places_law_rest1 : t_alike_places ≠ t_law_rest1)
    (ne_law_cases1_law_rest1 : t_law_cases1 ≠ t_law_rest1) :
    LawAtS l w K (L2.CX l.prog w) 8 63 "script" mg fa h := by
  have M : ∀ {x : Str} {v : Value}, PySem.W.nsIn K mainGlobals x = some (some v) → mg x = some v := fun e => PySem.W.mg_of X hN e
  have M0 : ∀ {x : Str}, PySem.W.nsIn K mainGlobals x = some none → mg x = none := fun e => PySem.W.mg_none_of X hN e
  have e := hfa.symm.trans (M nk_law)
  have e2 : f_law = fa := by injection e with e; injection e with e; exact e.symm
  subst e2
  have TT : ∀ base : Heap, (∀ p ∈ ([(k_check_text, t_check_text), (k_word_of_shifts, t_word_of_shifts), (k_alike_places, t_alike_places), (k_law_cases1, t_law_cases1), (k_law_rest1, t_law_rest1)] : List (Addr × Addr)), TabB base mg p.1 p.2) → Txt w K mg base ⟨f_law_dice, f_law_roll, f_law_rounds, f_law_told, f_law_word, f_check_text, f_Key_init, f_key_of_word, f_law_key, f_Key_changed, f_Key_undoer, f_Key_behind, f_Key_kept, f_Key_rounds, f_Key_times_home, f_Key_is_own_undoer, f_shift_key, f_shifted_by, f_law_moves, f_in_columns, f_out_of_columns, f_keys_that_fit, f_part_of_key, f_word_of_shifts, f_alike_places, f_law_cases1, f_law_rest1, f_law, c_Key, x_BadBook, x_NoWay, x_BadFlag, x_BadFleet, x_BadHoist, x_Foul, x_TooLarge, x_Unclear, x_BadText, k_check_text, t_check_text, k_word_of_shifts, t_word_of_shifts, k_alike_places, t_alike_places, k_law_cases1, t_law_cases1, k_law_rest1, t_law_rest1⟩ := fun base hTB => {
    b_range := M0 bz_range,
    b_any := M0 bz_any,
    b_sorted := M0 bz_sorted,
    b_list := M0 bz_list,
    b_tuple := M0 bz_tuple,
    b_min := M0 bz_min,
    b_len := M0 bz_len,
    b_max := M0 bz_max,
    b_enumerate := M0 bz_enumerate,
    b_zip := M0 bz_zip,
    b_dict := M0 bz_dict,
    b_all := M0 bz_all,
    b_sum := M0 bz_sum,
    b_int := M0 bz_int,
    b_abs := M0 bz_abs,
    g_law_dice := M nk_law_dice,
    e_law_dice := funE_of lk_law_dice dk_law_dice kk_law_dice (fun us hl => match us, hl with | [_], _ => rfl),
    g_law_roll := M nk_law_roll,
    e_law_roll := funE_of lk_law_roll dk_law_roll kk_law_roll (fun us hl => match us, hl with | [_, _], _ => rfl),
    g_law_rounds := M nk_law_rounds,
    e_law_rounds := funE_of lk_law_rounds dk_law_rounds kk_law_rounds (fun us hl => match us, hl with | [_, _], _ => rfl),
    g_law_told := M nk_law_told,
    l_told := ⟨_, _, _, _, _, _, _, _, _, lk_law_told, dk_law_told, kk_law_told, .all (fun us hl => match us, hl with | [_], _ => rfl)⟩,
    g_law_word := M nk_law_word,
    e_law_word := funE_of lk_law_word dk_law_word kk_law_word (fun us hl => match us, hl with | [_, _], _ => rfl),
    g_check_text := M nk_check_text,
    e_check_text := funC_of lk_check_text dk_check_text kk_check_text (fun us hl => match us, hl with | [_], _ => rfl),
    e_Key_init := funE_of lk_Key_init dk_Key_init kk_Key_init (fun us hl => match us, hl with | [_, _], _ => rfl),
    mk_Key := ⟨mi_Key, nk_Key_init, ik_Key_init, kc_Key⟩,
    g_key_of_word := M nk_key_of_word,
    e_key_of_word := funE_of lk_key_of_word dk_key_of_word kk_key_of_word (fun us hl => match us, hl with | [_], _ => rfl),
    g_law_key := M nk_law_key,
    e_law_key := funE_of lk_law_key dk_law_key kk_law_key (fun us hl => match us, hl with | [_], _ => rfl),
    e_Key_changed := funE_of lk_Key_changed dk_Key_changed kk_Key_changed (fun us hl => match us, hl with | [_, _], _ => rfl),
    mt_Key_changed := ⟨nk_Key_changed, ik_Key_changed, kk_Key_changed⟩,
    e_Key_undoer := funE_of lk_Key_undoer dk_Key_undoer kk_Key_undoer (fun us hl => match us, hl with | [_], _ => rfl),
    mt_Key_undoer := ⟨nk_Key_undoer, ik_Key_undoer, kk_Key_undoer⟩,
    e_Key_behind := funE_of lk_Key_behind dk_Key_behind kk_Key_behind (fun us hl => match us, hl with | [_, _], _ => rfl),
    mt_Key_behind := ⟨nk_Key_behind, ik_Key_behind, kk_Key_behind⟩,
    e_Key_kept := funE_of lk_Key_kept dk_Key_kept kk_Key_kept (fun us hl => match us, hl with | [_], _ => rfl),
    mt_Key_kept := ⟨nk_Key_kept, ik_Key_kept, kk_Key_kept⟩,
    e_Key_rounds := funE_of lk_Key_rounds dk_Key_rounds kk_Key_rounds (fun us hl => match us, hl with | [_], _ => rfl),
    mt_Key_rounds := ⟨nk_Key_rounds, ik_Key_rounds, kk_Key_rounds⟩,
    e_Key_times_home := funE_of lk_Key_times_home dk_Key_times_home kk_Key_times_home (fun us hl => match us, hl with | [_], _ => rfl),
    mt_Key_times_home := ⟨nk_Key_times_home, ik_Key_times_home, kk_Key_times_home⟩,
    e_Key_is_own_undoer := funE_of lk_Key_is_own_undoer dk_Key_is_own_undoer kk_Key_is_own_undoer (fun us hl => match us, hl with | [_], _ => rfl),
    mt_Key_is_own_undoer := ⟨nk_Key_is_own_undoer, ik_Key_is_own_undoer, kk_Key_is_own_undoer⟩,
    g_shift_key := M nk_shift_key,
    e_shift_key := funE_of lk_shift_key dk_shift_key kk_shift_key (fun us hl => match us, hl with | [_], _ => rfl),
    g_shifted_by := M nk_shifted_by,
    e_shifted_by := funE_of lk_shifted_by dk_shifted_by kk_shifted_by (fun us hl => match us, hl with | [_, _, _], _ => rfl),
    g_law_moves := M nk_law_moves,
    e_law_moves := funE_of lk_law_moves dk_law_moves kk_law_moves (fun us hl => match us, hl with | [_, _], _ => rfl),
    g_in_columns := M nk_in_columns,
    e_in_columns := funE_of lk_in_columns dk_in_columns kk_in_columns (fun us hl => match us, hl with | [_, _], _ => rfl),
    g_out_of_columns := M nk_out_of_columns,
    e_out_of_columns := funE_of lk_out_of_columns dk_out_of_columns kk_out_of_columns (fun us hl => match us, hl with | [_, _], _ => rfl),
    g_keys_that_fit := M nk_keys_that_fit,
    e_keys_that_fit := funE_of lk_keys_that_fit dk_keys_that_fit kk_keys_that_fit (fun us hl => match us, hl with | [_, _, _], _ => rfl),
    g_part_of_key := M nk_part_of_key,
    e_part_of_key := funE_of lk_part_of_key dk_part_of_key kk_part_of_key (fun us hl => match us, hl with | [_, _], _ => rfl),
    g_word_of_shifts := M nk_word_of_shifts,
    e_word_of_shifts := funC_of lk_word_of_shifts dk_word_of_shifts kk_word_of_shifts (fun us hl => match us, hl with | [_, _, _], _ => rfl),
    g_alike_places := M nk_alike_places,
    e_alike_places := funC_of lk_alike_places dk_alike_places kk_alike_places (fun us hl => match us, hl with | [_], _ => rfl),
    g_law_cases1 := M nk_law_cases1,
    e_law_cases1 := funC_of lk_law_cases1 dk_law_cases1 kk_law_cases1 (fun us hl => match us, hl with | [], _ => rfl),
    g_law_rest1 := M nk_law_rest1,
    e_law_rest1 := funC_of lk_law_rest1 dk_law_rest1 kk_law_rest1 (fun us hl => match us, hl with | [_, _, _, _, _, _], _ => rfl),
    g_law := M nk_law,
    e_law := funE_of lk_law dk_law kk_law (fun us hl => match us, hl with | [_], _ => rfl),
    g_Key := M ck_Key,
    c_Key := ⟨pg_Key, hd_Key, po_Key, sa_Key⟩,
    n_Key_letters := nf_Key_letters,
    x_BadBook := ⟨xe_BadBook, M xn_BadBook, xk_BadBook, xs_BadBook, xt_BadBook⟩,
    x_NoWay := ⟨xe_NoWay, M xn_NoWay, xk_NoWay, xs_NoWay, xt_NoWay⟩,
    x_BadFlag := ⟨xe_BadFlag, M xn_BadFlag, xk_BadFlag, xs_BadFlag, xt_BadFlag⟩,
    x_BadFleet := ⟨xe_BadFleet, M xn_BadFleet, xk_BadFleet, xs_BadFleet, xt_BadFleet⟩,
    x_BadHoist := ⟨xe_BadHoist, M xn_BadHoist, xk_BadHoist, xs_BadHoist, xt_BadHoist⟩,
    x_Foul := M xn_Foul,
    x_TooLarge := ⟨xe_TooLarge, M xn_TooLarge, xk_TooLarge, xs_TooLarge, xt_TooLarge⟩,
    x_Unclear := M xn_Unclear,
    x_BadText := M xn_BadText,
    exm := fun _ => exm_by exq,
    v_LETTERS := fun _ => glD_of rfl (M cn_LETTERS) cq_LETTERS,
    tb_check_text := hTB (k_check_text, t_check_text) (by simp),
    tb_word_of_shifts := hTB (k_word_of_shifts, t_word_of_shifts) (by simp),
    tb_alike_places := hTB (k_alike_places, t_alike_places) (by simp),
    tb_law_cases1 := hTB (k_law_cases1, t_law_cases1) (by simp),
    tb_law_rest1 := hTB (k_law_rest1, t_law_rest1) (by simp),
    ne_check_text_word_of_shifts := ne_check_text_word_of_shifts,
    ne_check_text_alike_places := ne_check_text_alike_places,
    ne_check_text_law_cases1 := ne_check_text_law_cases1,
    ne_check_text_law_rest1 := ne_check_text_law_rest1,
    ne_word_of_shifts_alike_places := ne_word_of_shifts_alike_places,
    ne_word_of_shifts_law_cases1 := ne_word_of_shifts_law_cases1,
    ne_word_of_shifts_law_rest1 := ne_word_of_shifts_law_rest1,
    ne_alike_places_law_cases1 := ne_alike_places_law_cases1,
    ne_alike_places_law_rest1 := ne_alike_places_law_rest1,
    ne_law_cases1_law_rest1 := ne_law_cases1_law_rest1 }
  refine ⟨_, [(k_check_text, t_check_text), (k_word_of_shifts, t_word_of_shifts), (k_alike_places, t_alike_places), (k_law_cases1, t_law_cases1), (k_law_rest1, t_law_rest1)], spLaw K (tabsA ⟨f_law_dice, f_law_roll, f_law_rounds, f_law_told, f_law_word, f_check_text, f_Key_init, f_key_of_word, f_law_key, f_Key_changed, f_Key_undoer, f_Key_behind, f_Key_kept, f_Key_rounds, f_Key_times_home, f_Key_is_own_undoer, f_shift_key, f_shifted_by, f_law_moves, f_in_columns, f_out_of_columns, f_keys_that_fit, f_part_of_key, f_word_of_shifts, f_alike_places, f_law_cases1, f_law_rest1, f_law, c_Key, x_BadBook, x_NoWay, x_BadFlag, x_BadFleet, x_BadHoist, x_Foul, x_TooLarge, x_Unclear, x_BadText, k_check_text, t_check_text, k_word_of_shifts, t_word_of_shifts, k_alike_places, t_alike_places, k_law_cases1, t_law_cases1, k_law_rest1, t_law_rest1⟩), fun p hp => ?_, fun p hp => ?_, fun p hp => ?_, fun s u => .of_eq rfl, fun H a ns hl hb hT hS => ⟨a, ns, rfl, hS, fun p hp => ?_, fun _ => rfl⟩, fun base _ _ hTB => ok_law (TT base hTB) lk_law dk_law hF⟩
  · simp only [List.mem_cons, List.not_mem_nil, or_false] at hp
    rcases hp with rfl | rfl | rfl | rfl | rfl
    · exact hTS _ zt_check_text
    · exact hTS _ zt_word_of_shifts
    · exact hTS _ zt_alike_places
    · exact hTS _ zt_law_cases1
    · exact hTS _ zt_law_rest1
  · simp only [List.mem_cons, List.not_mem_nil, or_false] at hp
    rcases hp with rfl | rfl | rfl | rfl | rfl
    · exact zn_check_text
    · exact zn_word_of_shifts
    · exact zn_alike_places
    · exact zn_law_cases1
    · exact zn_law_rest1
  · simp only [List.mem_cons, List.not_mem_nil, or_false] at hp
    rcases hp with rfl | rfl | rfl | rfl | rfl
    · exact PySem.W.codeHd_of_K X zh_check_text
    · exact PySem.W.codeHd_of_K X zh_word_of_shifts
    · exact PySem.W.codeHd_of_K X zh_alike_places
    · exact PySem.W.codeHd_of_K X zh_law_cases1
    · exact PySem.W.codeHd_of_K X zh_law_rest1
  · unfold tabsA at hp
    simp only [List.mem_cons, List.not_mem_nil, or_false] at hp
    rcases hp with rfl | rfl | rfl | rfl | rfl
    · exact hT (k_check_text, t_check_text) (by simp)
    · exact hT (k_word_of_shifts, t_word_of_shifts) (by simp)
    · exact hT (k_alike_places, t_alike_places) (by simp)
    · exact hT (k_law_cases1, t_law_cases1) (by simp)
    · exact hT (k_law_rest1, t_law_rest1) (by simp)
end K09
set_option Elab.async false
set_option linter.all false
set_option maxRecDepth 100000
namespace DL
noncomputable def bdF {α β : Type} (m : R α) (k : α → R β) : R β := @R.rec α (fun _ => R β) k (fun e => .err e) .stuck (fun m _ ih => .roll m ih) m
theorem bd_f {α β : Type} (m : R α) (k : α → R β) : (m >>= k) = bdF m k := by
  induction m with
  | ok a => rfl
  | err e => rfl
  | stuck => rfl
  | roll m f ih => show R.roll m (fun i => f i >>= k) = R.roll m (fun i => bdF (f i) k); congr; funext i; exact ih i
noncomputable def onF {α : Type} (m : R α) (r : LE) (k : α → R Out) : R Out := @R.rec α (fun _ => R Out) k (fun e => .ok (.ex e r)) .stuck (fun m _ ih => .roll m ih) m
theorem on_f {α : Type} (m : R α) (r : LE) (k : α → R Out) : m.onS r k = onF m r k := by
  induction m with
  | ok a => rfl
  | err e => rfl
  | stuck => rfl
  | roll m f ih => show R.roll m (fun i => (f i).onS r k) = R.roll m (fun i => onF (f i) r k); congr; funext i; exact ih i
noncomputable def cmF {α : Type} (m : R α) : R α := @R.rec α (fun _ => R α) (fun a => .ok a) (fun _ => .stuck) .stuck (fun m _ ih => .roll m ih) m
theorem cm_f {α : Type} (m : R α) : m.calm = cmF m := by
  induction m with
  | ok a => rfl
  | err e => rfl
  | stuck => rfl
  | roll m f ih => show R.roll m (fun i => (f i).calm) = R.roll m (fun i => cmF (f i)); congr; funext i; exact ih i
noncomputable def bifF {α : Type} (b : Bool) (x y : α) : α := @Bool.rec (fun _ => α) y x b
noncomputable def setF (r : LE) : Nat → Cell → LE := @List.rec Cell (fun _ => Nat → Cell → LE) (fun _ _ => []) (fun c t ih i x => @Nat.rec (fun _ => LE) (x :: t) (fun i _ => c :: ih i x) i) r
theorem set_f : ∀ (r : LE) (i : Nat) (x : Cell), r.set i x = setF r i x
  | [], _, _ => rfl
  | c :: r, 0, x => rfl
  | c :: r, i + 1, x => by show c :: r.set i x = c :: setF r i x; rw [set_f r i x]
/-- the state with its cells in sight -/
noncomputable def nfF {α : Type} (r : LE) : (LE → α) → α := @List.rec Cell (fun _ => (LE → α) → α) (fun k => k []) (fun c _ ih k => ih fun t => k (c :: t)) r
theorem nf_f {α : Type} : ∀ (r : LE) (k : LE → α), nfF r k = k r
  | [], k => rfl
  | c :: r, k => by show nfF r (fun t => k (c :: t)) = k (c :: r); rw [nf_f r]
noncomputable def nxF (r : LE) : R Out := nfF r fun r => .ok (.nx r)
theorem nx_f (r : LE) : R.ok (.nx r) = nxF r := by unfold nxF; rw [nf_f]
noncomputable def cellF {α : Type} (c : Cell) (z : α) (f g : D → α) : α := @Cell.rec (fun _ => α) z f g c
noncomputable def opEF (g : D → D → R D) (f k : LE → R D) : LE → R D := fun r => bdF (f r) fun x => bdF (k r) fun y => g x y
noncomputable def lenF {α : Type} (l : List α) : Nat := @List.rec α (fun _ => Nat) 0 (fun _ _ n => Nat.succ n) l
/-- at most as long: looked at no further than needed -/
noncomputable def okLenF {α : Type} (l : List α) : Bool := Nat.ble (lenF l) 16777216
noncomputable def outF {α : Type} (o : Out) (n : LE → α) (d : D → α) (b c : LE → α) (e : Exc → LE → α) : α := @Out.rec (fun _ => α) n d b c e o
noncomputable def seqSF (F K : LE → R Out) : LE → R Out := fun r => bdF (F r) fun o => outF o K (fun d => .ok (.rt d)) (fun r => .ok (.bk r)) (fun r => .ok (.ct r)) (fun e r => .ok (.ex e r))
theorem seqS_f (F K : LE → R Out) : seqS F K = seqSF F K := by
  funext r; unfold seqS seqSF; rw [bd_f]; congr; funext o; cases o <;> rfl
noncomputable def valKF (f : LE → R D) : LE → R Cell := fun r => bdF (f r) fun d => .ok (.val d)
theorem valK_f (f : LE → R D) : valK f = valKF f := by funext r; exact bd_f ..
noncomputable def setKF (i : Nat) (f : LE → R Cell) : LE → R Out := fun r => onF (f r) r fun c => cellF c .stuck (fun d => nxF (setF r i (.val d))) (fun d => nxF (setF r i (.own d)))
theorem onF_bdF {α β : Type} (m : R α) (g : α → R β) (r : LE) (k : β → R Out) : onF (bdF m g) r k = onF m r fun x => onF (g x) r k := by
  induction m with
  | ok a => rfl
  | err e => rfl
  | stuck => rfl
  | roll m f ih => show R.roll m (fun i => onF (bdF (f i) g) r k) = R.roll m (fun i => onF (f i) r fun x => onF (g x) r k); congr; funext i; exact ih i
theorem setK_f (i : Nat) (f : LE → R Cell) : setK i f = setKF i f := by
  funext r; unfold setK setKF; rw [bd_f, on_f, onF_bdF]; congr; funext c
  cases c with
  | un => rfl
  | val d => show R.ok (Out.nx (r.set i (.val d))) = nxF _; rw [← nx_f, set_f]
  | own d => show R.ok (Out.nx (r.set i (.own d))) = nxF _; rw [← nx_f, set_f]
noncomputable def parKF (i j : Nat) (f g : LE → R Cell) : LE → R Out := fun r => onF (f r) r fun c => onF (okK c) r fun c => onF (g r) r fun c' => onF (okK c') r fun c' => .ok (.nx (setF (setF r i c) j c'))
end DL
set_option Elab.async false
set_option linter.all false
set_option maxRecDepth 100000
namespace DL
open L2
noncomputable def ieqF (i j : Int) : Bool := @Int.rec (fun _ => Int → Bool) (fun m j => @Int.rec (fun _ => Bool) (fun n => Nat.beq m n) (fun _ => false) j) (fun m j => @Int.rec (fun _ => Bool) (fun _ => false) (fun n => Nat.beq m n) j) i j
noncomputable def seqF (s t : List Nat) : Bool := @List.rec Nat (fun _ => List Nat → Bool) (fun t => @List.rec Nat (fun _ => Bool) true (fun _ _ _ => false) t) (fun a _ ih t => @List.rec Nat (fun _ => Bool) false (fun b u _ => @Bool.rec (fun _ => Bool) false (ih u) (Nat.beq a b)) t) s t
end DL
set_option Elab.async false
set_option linter.all false
set_option maxRecDepth 100000
namespace DL
open L2
noncomputable def key1F (d : D) : Bool := match d with
  | .int _ => true
  | .str _ => true
  | _ => false
noncomputable def keqF (x y : D) : Bool := match x with
  | .int i => (match y with
    | .int j => ieqF i j
    | _ => false)
  | .str s => (match y with
    | .str t => seqF s t
    | _ => false)
  | _ => false
noncomputable def getDF (kvs : List (D × D)) (k : D) : Option D := @List.rec (D × D) (fun _ => Option D) none (fun p _ ih => @Bool.rec (fun _ => Option D) ih (some p.2) (keqF p.1 k)) kvs
noncomputable def nthF {α : Type} (xs : List α) : Nat → Option α := @List.rec α (fun _ => Nat → Option α) (fun _ => none) (fun x _ ih i => @Nat.rec (fun _ => Option α) (some x) (fun i _ => ih i) i) xs
noncomputable def atF {α : Type} (xs : List α) (i : Int) : Option α := @Int.rec (fun _ => Option α) (fun k => nthF xs k) (fun k => @Bool.rec (fun _ => Option α) none (nthF xs (Nat.sub (lenF xs) (Nat.succ k))) (Nat.ble (Nat.succ k) (lenF xs))) i
noncomputable def okF {α : Type} (o : Option α) (k : α → D) : R D := @Option.rec α (fun _ => R D) .stuck (fun a => .ok (k a)) o
noncomputable def ixDF (x y : D) : R D := match x with
  | .lst xs => (match y with
    | .int i => okF (atF xs i) fun d => d
    | _ => .stuck)
  | .tup xs => (match y with
    | .int i => okF (atF xs i) fun d => d
    | _ => .stuck)
  | .str s => (match y with
    | .int i => bifF (okLenF s) (okF (atF s i) fun c => .str [c]) .stuck
    | _ => .stuck)
  | _ => .stuck
noncomputable def subIF (x y : D) : R D := match x with
  | .dic kvs => bifF (key1F y) (okF (getDF kvs y) fun d => d) .stuck
  | .cdic kvs => subI (.cdic kvs) y
  | x => ixDF x y
noncomputable def subEF (f k : LE → R D) : LE → R D := fun r => bdF (f r) fun x => bdF (k r) fun y => subIF x y
end DL
set_option Elab.async false
set_option linter.all false
set_option maxRecDepth 100000
namespace DL
open L2 PySem.Spec
noncomputable def cntF (c : Nat) (s : List Nat) : Nat := @List.rec Nat (fun _ => Nat) 0 (fun a _ ih => @Bool.rec (fun _ => Nat) ih (Nat.succ ih) (Nat.beq a c)) s
end DL
set_option Elab.async false
set_option linter.all false
set_option maxRecDepth 100000
namespace DL
open PySem L2 PySem.Spec PyProof.Rows
/-- all that comes out of it -/
def Ev {α : Type} : R α → (α → Prop) → Prop
  | .ok a, P => P a
  | .err _, _ => True
  | .stuck, _ => True
  | .roll _ k, P => ∀ i, Ev (k i) P
theorem Ev.mono {α : Type} {P Q : α → Prop} : ∀ {m : R α}, Ev m P → (∀ a, P a → Q a) → Ev m Q
  | .ok _, h, k => k _ h
  | .err _, _, _ => trivial
  | .stuck, _, _ => trivial
  | .roll _ _, h, k => fun i => Ev.mono (h i) k
theorem Ev.all {α : Type} {P : α → Prop} (h : ∀ a, P a) : ∀ m : R α, Ev m P
  | .ok _ => h _
  | .err _ => trivial
  | .stuck => trivial
  | .roll _ f => fun i => Ev.all h (f i)
/-- only the slots vs are written -/
def Same_ (vs : List Nat) (r r' : LE) : Prop := r'.length = r.length ∧ ∀ j, j ∉ vs → r'[j]? = r[j]?
theorem Same_.refl {vs : List Nat} {r : LE} : Same_ vs r r := ⟨rfl, fun _ _ => rfl⟩
theorem Same_.set {vs : List Nat} {r : LE} {i : Nat} {x : Cell} (h : i ∈ vs) : Same_ vs r (setF r i x) := by
  rw [← set_f]
  exact ⟨List.length_set, fun j hj => List.getElem?_set_ne fun e : i = j => hj (by rw [← e]; exact h)⟩
theorem GoP.set {P : Out → Prop} {f : LE → R D} {i : Nat} {K F : LE → R Out} {r : LE} (e : F = seqS (setKF i (valKF f)) K) {Q : D → Prop} (h : Wr (f r) Q) (k : ∀ d, Q d → GoP P K (r.set i (.val d))) : GoP P F r := by
  subst e
  refine GoP.one (Q := fun r' => ∃ d, Q d ∧ r' = r.set i (.val d)) rfl ?_ fun r' ⟨d, hd, e⟩ => e ▸ k d hd
  rw [← valK_f, ← setK_f]
  exact Wr.run1 ⟨h.h.mono (fun d hd => ⟨d, hd, rfl⟩) fun _ z => z⟩
theorem Wr.eq {α : Type} {m : R α} {a : α} {Q : α → Prop} (h : m = .ok a) (q : Q a) : Wr m Q := ⟨by rw [h]; exact q⟩
theorem Wr.mono {α : Type} {m : R α} {Q Q' : α → Prop} (h : Wr m Q) (k : ∀ a, Q a → Q' a) : Wr m Q' := ⟨h.h.mono k fun _ z => z⟩
theorem Wr.bdF {α β : Type} {m : R α} {k : α → R β} {Q : β → Prop} (h : Wr m (fun a => Wr (k a) Q)) : Wr (DL.bdF m k) Q := ⟨by
  rw [← bd_f]
  exact Wp.of_bind (h.h.mono (fun a ha => ha.h) fun _ z => z)⟩
theorem Wr.ok {α : Type} {a : α} {Q : α → Prop} (q : Q a) : Wr (.ok a) Q := ⟨q⟩
end DL
namespace DL
theorem Same_.none {r r' : LE} (h : Same_ [] r r') : r' = r := List.ext_getElem? fun j => h.2 j (by simp)
theorem Same_.one {i : Nat} {r r' : LE} (h : Same_ [i] r r') : ∃ c, r' = r.set i c := by
  refine ⟨r'.getD i .un, List.ext_getElem? fun j => ?_⟩
  by_cases e : j = i
  · subst e
    by_cases hj : j < r.length
    · rw [List.getElem?_set_self hj, List.getD_eq_getElem?_getD, List.getElem?_eq_getElem (by rw [h.1]; exact hj)]
      rfl
    · rw [List.getElem?_eq_none (by rw [h.1]; omega), List.getElem?_eq_none (by rw [List.length_set]; omega)]
  · rw [h.2 j (by simpa using e), List.getElem?_set_ne (Ne.symm e)]
theorem Same_.two {i k : Nat} {r r' : LE} (h : Same_ [i, k] r r') : ∃ c d, r' = (r.set i c).set k d := by
  refine ⟨r'.getD i .un, r'.getD k .un, List.ext_getElem? fun j => ?_⟩
  by_cases e : j = k
  · subst e
    by_cases hj : j < r.length
    · rw [List.getElem?_set_self (by rw [List.length_set]; exact hj), List.getD_eq_getElem?_getD, List.getElem?_eq_getElem (by rw [h.1]; exact hj)]
      rfl
    · rw [List.getElem?_eq_none (by rw [h.1]; omega), List.getElem?_eq_none (by rw [List.length_set, List.length_set]; omega)]
  · rw [List.getElem?_set_ne (Ne.symm e)]
    by_cases e2 : j = i
    · subst e2
      by_cases hj : j < r.length
      · rw [List.getElem?_set_self hj, List.getD_eq_getElem?_getD, List.getElem?_eq_getElem (by rw [h.1]; exact hj)]
        rfl
      · rw [List.getElem?_eq_none (by rw [h.1]; omega), List.getElem?_eq_none (by rw [List.length_set]; omega)]
    · rw [h.2 j (by simp [e, e2]), List.getElem?_set_ne (Ne.symm e2)]
end DL
set_option Elab.async false
set_option linter.all false
set_option maxRecDepth 100000
namespace DL
open PySem L2 PySem.Spec PyProof.Rows
theorem bdF_ok {α β : Type} (a : α) (k : α → R β) : bdF (.ok a) k = k a := rfl
end DL
namespace DL
theorem Wr.cm {α : Type} {m : R α} {Q : α → Prop} (h : Wr m Q) : Wr (cmF m) Q := by
  refine ⟨?_⟩
  rw [← cm_f]
  have : ∀ {m : R α}, Wp m Q (fun _ => False) → Wp m.calm Q (fun _ => False) := fun {m} hm => by
    induction m with
    | ok a => exact hm
    | err e => exact hm.elim
    | stuck => exact hm
    | roll n k ih => exact fun i hi => ih i (hm i hi)
  exact this h.h
end DL
set_option Elab.async false
set_option linter.all false
set_option maxRecDepth 100000
namespace DL
open L2 PySem.Spec
end DL
set_option Elab.async false
set_option linter.all false
set_option maxRecDepth 100000
namespace DL
open L2 PySem.Spec
end DL
set_option Elab.async false
set_option linter.all false
set_option maxRecDepth 100000
namespace DL
open PySem L2 PySem.Spec PyProof.Rows
theorem GoP.wrF {P : Out → Prop} {S K : LE → R Out} {r : LE} {Q : LE → Prop} (h : Wr (S r) (fun o => ∃ r2, o = .nx r2 ∧ Q r2)) (k : ∀ r2, Q r2 → GoP P K r2) : GoP P (seqSF S K) r := ⟨by
  rw [← seqS_f]
  show Wp (S r >>= _) _ _
  refine Wp.of_bind (h.h.mono (fun o ho => ?_) fun _ z => z.elim)
  obtain ⟨r2, rfl, hq⟩ := ho
  exact (k r2 hq).h⟩
theorem Wr.onF {α : Type} {m : R α} {k : α → R Out} {r : LE} {Q : Out → Prop} (h : Wr m (fun a => Wr (k a) Q)) : Wr (DL.onF m r k) Q := ⟨by
  rw [← on_f]
  exact Wp_onS (h.h.mono (fun a ha => ha.h) fun _ z => z.elim)⟩
theorem Wr.par {i j : Nat} {f g : LE → R D} {r : LE} {P Q : D → Prop} (h1 : Wr (f r) P) (h2 : Wr (g r) Q) : Wr (parKF i j (valKF f) (valKF g) r) (fun o => ∃ r2, o = .nx r2 ∧ ∃ x y, P x ∧ Q y ∧ r2 = setF (setF r i (.val x)) j (.val y)) := by
  refine Wr.onF (Wr.bdF (h1.mono fun x hx => Wr.ok (Wr.onF (Wr.ok (Wr.onF (Wr.bdF (h2.mono fun y hy => Wr.ok (Wr.onF (Wr.ok (Wr.ok ⟨_, rfl, x, y, hx, hy, rfl⟩))))))))))
theorem Wr.sub {f k : LE → R D} {r : LE} {x : D} {P Q : D → Prop} (h1 : f r = .ok x) (h2 : Wr (k r) P) (h3 : ∀ y, P y → Wr (subIF x y) Q) : Wr (subEF f k r) Q := by
  unfold subEF
  rw [h1, bdF_ok]
  exact Wr.bdF (h2.mono fun y hy => h3 y hy)
end DL
set_option Elab.async false
set_option linter.all false
set_option maxRecDepth 100000
namespace DL
open PySem L2 PySem.Spec PyProof.Rows
end DL
set_option Elab.async false
set_option linter.all false
set_option maxRecDepth 100000
namespace DL
open PySem L2 PySem.Spec PyProof.Rows
theorem Wr.op {g : D → D → R D} {f k : LE → R D} {r : LE} {P Q : D → Prop} {x : D} (h1 : f r = .ok x) (h2 : Wr (k r) P) (h3 : ∀ y, P y → Wr (g x y) Q) : Wr (opEF g f k r) Q := by
  show Wr (DL.bdF (f r) _) _
  rw [h1]
  exact Wr.bdF (Wr.ok (Wr.bdF (h2.mono h3)))
end DL
set_option Elab.async false
set_option linter.all false
set_option maxRecDepth 100000
namespace DL
open PySem L2 PySem.Spec PyProof.Rows
theorem Same_.trans {vs : List Nat} {a b c : LE} (h1 : Same_ vs a b) (h2 : Same_ vs b c) : Same_ vs a c := ⟨h2.1.trans h1.1, fun j hj => (h2.2 j hj).trans (h1.2 j hj)⟩
end DL
set_option Elab.async false
set_option linter.all false
set_option maxRecDepth 100000
namespace DL
open PySem L2 PySem.Spec PyProof.Rows
@[simp] theorem asgS_eq (f : LE → R D) (gd : D → LE → Option LE) (r : LE) : asgS f gd r = (f r).onS r fun d => match gd d r with
  | some r' => .ok (.nx r')
  | none => .stuck := rfl
@[simp] theorem gTup_eq (n : Nat) (gs : List D → LE → Option LE) (ds : List D) (r : LE) : gTup_ n gs (.tup ds) r = if ds.length = n then gs ds r else none := rfl
@[simp] theorem gCons_eq (g : D → LE → Option LE) (gs : List D → LE → Option LE) (d : D) (ds : List D) (r : LE) : gCons_ g gs (d :: ds) r = (g d r).bind (gs ds) := rfl
@[simp] theorem gNil_eq (r : LE) : gNil_ [] r = some r := rfl
@[simp] theorem rng2E_eq (fs : LE → R (List D)) (r : LE) : rng2E fs r = fs r >>= rng2 := rfl
@[simp] theorem callF_eq (g : List D → R (List D)) (fs : LE → R (List D)) (r : LE) : callF g fs r = fs r >>= g := rfl
@[simp] theorem noP_eq (r : LE) : noP r = .ok none := rfl
@[simp] theorem someP_int (f : LE → R D) (r : LE) (i : Int) (h : f r = .ok (.int i)) : someP f r = .ok (some i) := by unfold someP; rw [h]; rfl
@[simp] theorem sliceE_eq (f : LE → R D) (l h : LE → R (Option Int)) (r : LE) : sliceE f l h r = f r >>= fun x => l r >>= fun a => h r >>= fun b => slI x a b := rfl
@[simp] theorem slI_tup (xs : List D) (lo hi : Option Int) : slI (.tup xs) lo hi = .ok (.tup (cutD xs lo hi)) := rfl
@[simp] theorem slI_lst (xs : List D) (lo hi : Option Int) : slI (.lst xs) lo hi = .ok (.lst (cutD xs lo hi)) := rfl
@[simp] theorem tupleD_lst (xs : List D) : tupleD [.lst xs] = .ok (.tup xs) := rfl
@[simp] theorem tupleD_tup (xs : List D) : tupleD [.tup xs] = .ok (.tup xs) := rfl
@[simp] theorem listX_lst (xs : List D) : listX [.lst xs] = .ok xs := rfl
@[simp] theorem listX_tup (xs : List D) : listX [.tup xs] = .ok xs := rfl
theorem lenX_lst (xs : List D) : lenX [.lst xs] = .ok (.int xs.length) := rfl
theorem lenX_str (s : List Nat) (h : s.length ≤ 16777216) : lenX [.str s] = .ok (.int s.length) := if_pos h
@[simp] theorem modD_4 (i : Int) : modD (.int i) (.int 4) = .ok (.int (i % 4)) := rfl
theorem appS_own {i : Nat} {f : LE → R D} {r : LE} {ds : List D} {d : D} (h : r[i]? = some (.own (.lst ds))) (hf : f r = .ok d) (hl : ds.length < 16777216) : appS i f r = .ok (.nx (r.set i (.own (.lst (ds ++ [d]))))) := by
  unfold appS
  rw [h]
  show (f r).onS r _ = _
  rw [hf]
  exact if_pos hl
theorem GoP.okS {P : Out → Prop} {S K : LE → R Out} {r r2 : LE} (h : S r = .ok (.nx r2)) (k : GoP P K r2) : GoP P (seqS S K) r := ⟨by
  show Wp (S r >>= _) _ _
  rw [h]
  exact k.h⟩
theorem GoP.wrS {P : Out → Prop} {S K : LE → R Out} {r : LE} {Q : LE → Prop} (h : Wr (S r) (fun o => ∃ r2, o = .nx r2 ∧ Q r2)) (k : ∀ r2, Q r2 → GoP P K r2) : GoP P (seqS S K) r := by
  rw [seqS_f]
  exact GoP.wrF h k
theorem orT_ff {f g : LE → R Bool} {r : LE} (h1 : f r = .ok false) (h2 : g r = .ok false) : orT f g r = .ok false := by
  rw [orT_eq, h1]
  exact h2
theorem cmpT_ok {g : D → D → R D} {f k : LE → R D} {r : LE} {x y : D} {b : Bool} (h1 : f r = .ok x) (h2 : k r = .ok y) (h3 : g x y = .ok (.bl b)) : cmpT g f k r = .ok b := by
  rw [cmpT_eq, h1, R.ok_bind, h2, R.ok_bind, h3]
  rfl
theorem seqS_go {F K : LE → R Out} {r r' : LE} {x : R Out} (h : F r = .ok (.nx r')) (k : K r' = x) : seqS F K r = x := by rw [seqS_eq, h]; exact k
theorem seqS_rt {F K : LE → R Out} {r : LE} {d : D} (h : F r = .ok (.rt d)) : seqS F K r = .ok (.rt d) := by rw [seqS_eq, h]; rfl
theorem seqS_ex {F K : LE → R Out} {r r' : LE} {e : Exc} (h : F r = .ok (.ex e r')) : seqS F K r = .ok (.ex e r') := by rw [seqS_eq, h]; rfl
theorem retS_ok {f : LE → R D} {r : LE} {d : D} (h : f r = .ok d) : retS f r = .ok (.rt d) := by rw [retS_eq, h]; rfl
theorem setK_val {i : Nat} {f : LE → R D} {r : LE} {d : D} (h : f r = .ok d) : setK i (valK f) r = .ok (.nx (r.set i (.val d))) := by rw [setK_eq, valK_eq, h]; rfl
theorem asgS_ok {f : LE → R D} {gd : D → LE → Option LE} {r r' : LE} {d : D} (h : f r = .ok d) (h2 : gd d r = some r') : asgS f gd r = .ok (.nx r') := by rw [asgS_eq, h, onS_ok, h2]
theorem forS_ok {fi : LE → R (List D)} {gd : D → LE → Option LE} {F : LE → R Out} {r : LE} {ds : List D} {x : R Out} (h : fi r = .ok ds) (k : loopS gd F ds r = x) : forS fi gd F r = x := by rw [forS_eq, h]; exact k
theorem opE_k {g : D → D → R D} {f k : LE → R D} {r : LE} {x y z : D} (h1 : f r = .ok x) (h2 : k r = .ok y) (h3 : g x y = .ok z) : opE g f k r = .ok z := by rw [opE_eq, h1, R.ok_bind, h2, R.ok_bind, h3]
theorem subE_k {f k : LE → R D} {r : LE} {x y z : D} (h1 : f r = .ok x) (h2 : k r = .ok y) (h3 : subI x y = .ok z) : subE f k r = .ok z := by rw [subE_eq, h1, R.ok_bind, h2, R.ok_bind, h3]
theorem acons_ok {f : LE → R D} {fs : LE → R (List D)} {r : LE} {x : D} {xs : List D} (h1 : f r = .ok x) (h2 : fs r = .ok xs) : acons f fs r = .ok (x :: xs) := by rw [acons_eq, h1, R.ok_bind, h2]; rfl
theorem callE_ok {g : List D → R D} {fs : LE → R (List D)} {r : LE} {xs : List D} {z : D} (h1 : fs r = .ok xs) (h2 : g xs = .ok z) : callE g fs r = .ok z := by rw [callE_eq, h1]; exact h2
theorem callE1_ok {g : List D → R D} {f : LE → R D} {r : LE} {x z : D} (h1 : f r = .ok x) (h2 : g [x] = .ok z) : callE g (acons f anil) r = .ok z := callE_ok (acons_ok h1 (xs := []) rfl) h2
theorem callE2_ok {g : List D → R D} {f k : LE → R D} {r : LE} {x y z : D} (h1 : f r = .ok x) (h2 : k r = .ok y) (h3 : g [x, y] = .ok z) : callE g (acons f (acons k anil)) r = .ok z := callE_ok (acons_ok h1 (acons_ok h2 (xs := []) rfl)) h3
theorem callE3_ok {g : List D → R D} {f k l : LE → R D} {r : LE} {x y w z : D} (h1 : f r = .ok x) (h2 : k r = .ok y) (h3 : l r = .ok w) (h4 : g [x, y, w] = .ok z) : callE g (acons f (acons k (acons l anil))) r = .ok z := callE_ok (acons_ok h1 (acons_ok h2 (acons_ok h3 (xs := []) rfl))) h4
theorem meth0_ok {c : Nat} {g : List D → R D} {f : LE → R D} {r : LE} {fs : List D} {z : D} (h1 : f r = .ok (.ins c fs)) (h2 : g [.ins c fs] = .ok z) : meth0E c g f r = .ok z := by rw [meth0E_eq, h1, R.ok_bind, isC_eq]; exact h2
theorem meth_ok {c : Nat} {g : List D → R D} {f : LE → R D} {as : LE → R (List D)} {r : LE} {fs xs : List D} {z : D} (h1 : f r = .ok (.ins c fs)) (h2 : as r = .ok xs) (h3 : g (.ins c fs :: xs) = .ok z) : methE c g f as r = .ok z := by rw [methE_eq, h1, R.ok_bind, isC_eq, R.ok_bind, h2]; exact h3
theorem tupE_ok {fs : LE → R (List D)} {r : LE} {xs : List D} (h : fs r = .ok xs) (hl : xs.length ≤ 1000000) : tupE fs r = .ok (.tup xs) := by rw [tupE_eq, h, R.ok_bind, if_pos (by omega)]
theorem lstE_ok {fs : LE → R (List D)} {r : LE} {xs : List D} (h : fs r = .ok xs) (hl : xs.length ≤ 1000000) : lstE fs r = .ok xs := by rw [lstE_eq, h, R.ok_bind, if_pos (by omega)]
theorem lE_ok {f : LE → R (List D)} {r : LE} {xs : List D} (h : f r = .ok xs) : lE f r = .ok (.lst xs) := by rw [lE_eq, h]; rfl
theorem callF1_k {g : List D → R (List D)} {f : LE → R D} {r : LE} {x : D} {zs : List D} (h1 : f r = .ok x) (h2 : g [x] = .ok zs) : callF g (acons f anil) r = .ok zs := by rw [callF_eq, acons_ok h1 (xs := []) rfl]; exact h2
theorem rng1E_ok {f : LE → R D} {r : LE} {n : Nat} (h : f r = .ok (.int (n : Nat))) (hn : n ≤ 1000000) : rng1E (acons f anil) r = .ok ((List.range n).map fun k => D.int (k : Nat)) := by
  rw [rng1E_eq, acons_ok h (xs := []) rfl, R.ok_bind]
  unfold rng1
  dsimp only
  rw [if_pos (by omega), Int.toNat_natCast]
  congr 1
  unfold rangeL
  exact List.map_congr_left fun k _ => by rw [Int.zero_add]
theorem ifS_yes {c : LE → R Bool} {F K : LE → R Out} {r : LE} {x : R Out} (h : c r = .ok true) (k : F r = x) : ifS c F K r = x := by rw [ifS_eq, h]; exact k
theorem ifS_no {c : LE → R Bool} {F K : LE → R Out} {r : LE} {x : R Out} (h : c r = .ok false) (k : K r = x) : ifS c F K r = x := by rw [ifS_eq, h]; exact k
theorem iteE_yes {c : LE → R Bool} {f g : LE → R D} {r : LE} {x : D} (h : c r = .ok true) (k : f r = .ok x) : iteE c f g r = .ok x := by rw [iteE_eq, h]; exact k
theorem iteE_no {c : LE → R Bool} {f g : LE → R D} {r : LE} {x : D} (h : c r = .ok false) (k : g r = .ok x) : iteE c f g r = .ok x := by rw [iteE_eq, h]; exact k
theorem valT_ok {f : LE → R D} {r : LE} {b : Bool} (h : f r = .ok (.bl b)) : valT f r = .ok b := by rw [valT_eq, h]; rfl
theorem notT_ok {f : LE → R Bool} {r : LE} {b : Bool} (h : f r = .ok b) : notT f r = .ok (!b) := by rw [notT_eq, h]; rfl
theorem bmE_ok {T : String} {gg : D → List D → R D} {f : LE → R D} {fs : LE → R (List D)} {r : LE} {x z : D} {xs : List D} (h1 : f r = .ok x) (h0 : isT T x = .ok x) (h2 : fs r = .ok xs) (h3 : gg x xs = .ok z) : bmE T gg f fs r = .ok z := by rw [bmE_eq, h1, R.ok_bind, h0, R.ok_bind, h2]; exact h3
theorem parK_vv {i j : Nat} {f g : LE → R D} {r : LE} {x y : D} (h1 : f r = .ok x) (h2 : g r = .ok y) : parK i j (valK f) (valK g) r = .ok (.nx ((r.set i (.val x)).set j (.val y))) := by rw [parK_eq, valK_eq, h1, valK_eq, h2]; rfl
/-- over mapped things -/
theorem compF_mapM {α : Type} {fi : LE → R (List D)} {gd : D → LE → Option LE} {te : LE → R D} {vs : List Nat} {r : LE} {e h : α → D} {l : List α} (hf : fi r = .ok (l.map e)) (hl : l.length ≤ 16777216) (q : ∀ a ∈ l, ∃ r', gd (e a) (wipeL r vs) = some r' ∧ te r' = .ok (h a)) :
    compF fi gd yesT te vs r = .ok (l.map h) := by
  rw [compF_eq, hf, R.ok_bind, if_pos (by rw [List.length_map]; exact hl)]
  clear hf hl
  induction l with
  | nil => rfl
  | cons a l ih =>
    obtain ⟨r', h1, h2⟩ := q a List.mem_cons_self
    rw [List.map_cons, loopC_cons, h1]
    dsimp only
    rw [h2, ih fun b hb => q b (List.mem_cons_of_mem _ hb)]
    rfl
theorem compF_fmM {α : Type} {fi : LE → R (List D)} {gd : D → LE → Option LE} {tt : LE → R Bool} {te : LE → R D} {vs : List Nat} {r : LE} {e h : α → D} {p : α → Bool} {l : List α} (hf : fi r = .ok (l.map e)) (hl : l.length ≤ 16777216) (q : ∀ a ∈ l, ∃ r', gd (e a) (wipeL r vs) = some r' ∧ tt r' = .ok (p a) ∧ (p a = true → te r' = .ok (h a))) :
    compF fi gd tt te vs r = .ok ((l.filter p).map h) := by
  rw [compF_eq, hf, R.ok_bind, if_pos (by rw [List.length_map]; exact hl)]
  clear hf hl
  induction l with
  | nil => rfl
  | cons a l ih =>
    obtain ⟨r', h1, h2, h3⟩ := q a List.mem_cons_self
    rw [List.map_cons, loopC_cons, h1]
    dsimp only
    rw [h2, ih fun b hb => q b (List.mem_cons_of_mem _ hb)]
    cases hp : p a with
    | true => rw [List.filter_cons_of_pos hp, h3 hp]; rfl
    | false => rw [List.filter_cons_of_neg (by simp [hp])]; rfl
theorem smallI_nat {n : Nat} (h : n < 1000000000) : smallI (n : Int) := ⟨Int.lt_of_lt_of_le (Int.ofNat_lt.mpr h) (by decide), Int.lt_of_lt_of_le (by decide : (-1152921504606846976 : Int) < 0) (Int.natCast_nonneg n)⟩
theorem sumG_cons (gd : D → LE → Option LE) (tt : LE → R Bool) (te : LE → R D) (r r' : LE) (d : D) (ds : List D) (acc v : Int) (h1 : gd d r = some r') (h0 : tt r' = .ok true) (h2 : te r' = .ok (.int v)) (h3 : smallI v) (h4 : smallI (acc + v)) : sumG gd tt te r acc (d :: ds) = sumG gd tt te r (acc + v) ds := by
  rw [sumG.eq_2, h1]
  dsimp only
  rw [h0]
  show ((te r').calm >>= _) = _
  rw [h2]
  exact if_pos ⟨h3, h4⟩
theorem anyC_allM {α : Type} {x : Bool} {gd : D → LE → Option LE} {te : LE → R D} {r : LE} {e : α → D} : ∀ {l : List α}, (∀ a ∈ l, ∃ r', gd (e a) r = some r' ∧ te r' = .ok (.bl (!x))) → anyC x gd yesT te r (l.map e) = .ok (!x)
  | [], _ => rfl
  | a :: l, q => by
    obtain ⟨r', h1, h2⟩ := q a List.mem_cons_self
    have ih := anyC_allM (x := x) (gd := gd) (te := te) (r := r) (e := e) (l := l) fun b hb => q b (List.mem_cons_of_mem _ hb)
    rw [List.map_cons]
    unfold anyC
    rw [h1]
    show ((te r').calm >>= _) = _
    rw [h2]
    show (if (!x) = x then R.ok x else anyC x gd yesT te r (l.map e)) = _
    rw [if_neg (by cases x <;> simp), ih]
/-- none of them is x -/
theorem anyE_allM {α : Type} {x : Bool} {fi : LE → R (List D)} {gd : D → LE → Option LE} {te : LE → R D} {vs : List Nat} {r : LE} {e : α → D} {l : List α} (hf : fi r = .ok (l.map e)) (q : ∀ a ∈ l, ∃ r', gd (e a) (wipeL r vs) = some r' ∧ te r' = .ok (.bl (!x))) :
    anyE x fi gd yesT te vs r = .ok (.bl (!x)) := by
  unfold anyE
  rw [hf]
  show (anyC x gd yesT te (wipeL r vs) (l.map e) >>= _) = _
  rw [anyC_allM q]
  rfl
theorem anyC_valM {α : Type} {x : Bool} {gd : D → LE → Option LE} {te : LE → R D} {r : LE} {e : α → D} {p : α → Bool} : ∀ {l : List α}, (∀ a ∈ l, ∃ r', gd (e a) r = some r' ∧ te r' = .ok (.bl (p a))) → anyC x gd yesT te r (l.map e) = .ok (if l.any (fun a => p a == x) = true then x else !x)
  | [], _ => rfl
  | a :: l, q => by
    obtain ⟨r', h1, h2⟩ := q a List.mem_cons_self
    have ih := anyC_valM (x := x) (gd := gd) (te := te) (r := r) (e := e) (p := p) (l := l) fun b hb => q b (List.mem_cons_of_mem _ hb)
    rw [List.map_cons]
    unfold anyC
    rw [h1]
    show ((te r').calm >>= _) = _
    rw [h2]
    show (if p a = x then R.ok x else anyC x gd yesT te r (l.map e)) = _
    rw [List.any_cons]
    by_cases h : p a = x
    · rw [if_pos h, if_pos (by rw [h]; simp)]
    · rw [if_neg h, ih, show (p a == x) = false from beq_eq_false_iff_ne.mpr h, Bool.false_or]
theorem anyE_valM {α : Type} {x : Bool} {fi : LE → R (List D)} {gd : D → LE → Option LE} {te : LE → R D} {vs : List Nat} {r : LE} {e : α → D} {p : α → Bool} {l : List α} (hf : fi r = .ok (l.map e)) (q : ∀ a ∈ l, ∃ r', gd (e a) (wipeL r vs) = some r' ∧ te r' = .ok (.bl (p a))) :
    anyE x fi gd yesT te vs r = .ok (.bl (if l.any (fun a => p a == x) = true then x else !x)) := by
  unfold anyE
  rw [hf]
  show (anyC x gd yesT te (wipeL r vs) (l.map e) >>= _) = _
  rw [anyC_valM q]
  rfl
theorem loopS_nx {gd : D → LE → Option LE} {body : LE → R Out} {d : D} {ds : List D} {r r' r2 : LE} (h1 : gd d r = some r') (h2 : body r' = .ok (.nx r2)) : loopS gd body (d :: ds) r = loopS gd body ds r2 := by
  rw [loopS.eq_2, h1]
  dsimp only
  rw [h2]
  rfl
theorem loopS_rt {gd : D → LE → Option LE} {body : LE → R Out} {d v : D} {ds : List D} {r r' : LE} (h1 : gd d r = some r') (h2 : body r' = .ok (.rt v)) : loopS gd body (d :: ds) r = .ok (.rt v) := by
  rw [loopS.eq_2, h1]
  dsimp only
  rw [h2]
  rfl
theorem loopS_ex {gd : D → LE → Option LE} {body : LE → R Out} {d : D} {ds : List D} {r r' r2 : LE} {e : Exc} (h1 : gd d r = some r') (h2 : body r' = .ok (.ex e r2)) : loopS gd body (d :: ds) r = .ok (.ex e r2) := by
  rw [loopS.eq_2, h1]
  dsimp only
  rw [h2]
  rfl
/-- every turn goes on -/
theorem loopS_all {α : Type} {gd : D → LE → Option LE} {body : LE → R Out} {e : α → D} (I : List α → LE → Prop) : ∀ {l done : List α} {r : LE}, I done r → (∀ a done r, a ∈ l → I done r → ∃ r' r2, gd (e a) r = some r' ∧ body r' = .ok (.nx r2) ∧ I (done ++ [a]) r2) →
    ∃ r2, loopS gd body (l.map e) r = .ok (.nx r2) ∧ I (done ++ l) r2
  | [], done, r, h, _ => ⟨r, rfl, by simpa using h⟩
  | a :: l, done, r, h, q => by
    obtain ⟨r', r2, h1, h2, h3⟩ := q a done r List.mem_cons_self h
    obtain ⟨r3, h4, h5⟩ := loopS_all I (l := l) h3 fun b d r hb hd => q b d r (List.mem_cons_of_mem _ hb) hd
    refine ⟨r3, ?_, by simpa using h5⟩
    rw [List.map_cons, loopS_nx h1 h2, h4]
/-- the turns go on, up to the first that ends it -/
theorem loopS_find {α : Type} {gd : D → LE → Option LE} {body : LE → R Out} {e : α → D} (I : LE → Prop) (p : α → Bool) (End : α → Out → Prop) : ∀ {l : List α} {r : LE}, I r → (∀ a r, a ∈ l → I r → ∃ r', gd (e a) r = some r' ∧ (p a = false → ∃ r2, body r' = .ok (.nx r2) ∧ I r2) ∧ (p a = true → ∃ o, body r' = .ok o ∧ End a o ∧ (∀ r, o ≠ .nx r) ∧ (∀ r, o ≠ .bk r) ∧ (∀ r, o ≠ .ct r))) →
    (l.find? p = none ∧ ∃ r2, loopS gd body (l.map e) r = .ok (.nx r2) ∧ I r2) ∨ (∃ a, l.find? p = some a ∧ ∃ o, loopS gd body (l.map e) r = .ok o ∧ End a o)
  | [], r, h, _ => .inl ⟨rfl, r, rfl, h⟩
  | a :: l, r, h, q => by
    obtain ⟨r', h1, h2, h3⟩ := q a r List.mem_cons_self h
    cases hp : p a with
    | false =>
      obtain ⟨r2, h4, h5⟩ := h2 hp
      rw [List.map_cons, loopS_nx h1 h4, List.find?_cons_of_neg (by simp [hp])]
      exact loopS_find I p End h5 fun b r hb => q b r (List.mem_cons_of_mem _ hb)
    | true =>
      obtain ⟨o, h4, h5, n1, n2, n3⟩ := h3 hp
      refine .inr ⟨a, List.find?_cons_of_pos hp, o, ?_, h5⟩
      rw [List.map_cons]
      cases o with
      | nx r => exact (n1 r rfl).elim
      | bk r => exact (n2 r rfl).elim
      | ct r => exact (n3 r rfl).elim
      | rt d => exact loopS_rt h1 h4
      | ex e r => exact loopS_ex h1 h4
theorem cutD_to {α : Type} {s : List α} {k : Nat} : cutD s none (some (k : Int)) = s.take k := by
  unfold cutD
  rw [HT.sIx_none, HT.sIx_nat, List.drop_zero, Nat.sub_zero]
  by_cases h : k ≤ s.length
  · rw [Nat.min_eq_left h]
  · rw [Nat.min_eq_right (by omega), List.take_length, List.take_of_length_le (by omega)]
theorem cutD_from {α : Type} {s : List α} {k : Nat} : cutD s (some (k : Int)) none = s.drop k := by
  unfold cutD
  rw [HT.sIx_none, HT.sIx_nat, List.take_of_length_le (by rw [List.length_drop]; omega)]
  by_cases h : k ≤ s.length
  · rw [Nat.min_eq_left h]
  · rw [Nat.min_eq_right (by omega), List.drop_length, List.drop_eq_nil_of_le (by omega)]
theorem rangeL_map (n : Nat) : rangeL 0 n = (List.range n).map fun k => D.int (k : Nat) := by
  unfold rangeL
  refine List.map_congr_left fun k _ => ?_
  rw [Int.zero_add]
theorem atI_nat {α : Type} {xs : List α} {k : Nat} {d : α} (h : xs[k]? = some d) : atI xs (k : Int) = some d := by
  have hk := (List.getElem?_eq_some_iff.mp h).1
  unfold atI ixN
  rw [if_pos (by omega), if_pos (by omega)]
  simpa using h
theorem subI_lst {xs : List D} {k : Nat} {d : D} (h : xs[k]? = some d) : subI (.lst xs) (.int (k : Nat)) = .ok d := by
  simp only [subI, ixD, atI_nat h]
theorem addD_str {a b : List Nat} (h : a.length + b.length ≤ 1000000) : addD (.str a) (.str b) = .ok (.str (a ++ b)) := if_pos (by omega)
mutual
theorem eqb_self : ∀ (d : D) (n : Nat), d.sh n = true → d.eqb d = true
  | .non, _, _ => rfl
  | .bl b, _, _ => beq_self_eq_true b
  | .int i, _, _ => beq_self_eq_true i
  | .str s, _, _ => beq_self_eq_true s
  | .lst xs, 0, h => by unfold D.sh at h; cases h
  | .lst xs, n + 1, h => by unfold D.sh at h; unfold D.eqb; exact eqbs_self xs n h
  | .tup xs, 0, h => by unfold D.sh at h; cases h
  | .tup xs, n + 1, h => by unfold D.sh at h; unfold D.eqb; exact eqbs_self xs n h
  | .dic _, _, h => by unfold D.sh at h; cases h
  | .cdic _, _, h => by unfold D.sh at h; cases h
  | .ins _ _, _, h => by unfold D.sh at h; cases h
  | .dice, _, h => by unfold D.sh at h; cases h
  | .fn _, _, h => by unfold D.sh at h; cases h
  | .ktup _, _, h => by unfold D.sh at h; cases h
  | .ctup _, _, h => by unfold D.sh at h; cases h
  | .tdic _, _, h => by unfold D.sh at h; cases h
theorem eqbs_self : ∀ (ds : List D) (n : Nat), D.shs ds n = true → D.eqbs ds ds = true
  | [], _, _ => rfl
  | d :: ds, n, h => by
    unfold D.shs at h
    rw [Bool.and_eq_true] at h
    unfold D.eqbs
    rw [eqb_self d n h.1, eqbs_self ds n h.2]
    rfl
end
theorem neD_self {d : D} (h : d.sh 64 = true) : neD d d = .ok (.bl false) := by
  unfold neD
  rw [h, if_pos (by rw [Bool.or_eq_true]; exact .inr rfl), eqb_self d 64 h]
  rfl
theorem shs_map {α : Type} {e : α → D} {n : Nat} : ∀ {l : List α}, (∀ a ∈ l, (e a).sh n = true) → D.shs (l.map e) n = true
  | [], _ => rfl
  | a :: l, h => by
    rw [List.map_cons]
    unfold D.shs
    rw [h a List.mem_cons_self, shs_map fun b hb => h b (List.mem_cons_of_mem _ hb)]
    rfl
theorem strsD_map {α : Type} (f : α → List Nat) : ∀ l : List α, strsD (l.map fun a => D.str (f a)) = some (l.map f)
  | [] => rfl
  | a :: l => by
    show (strsD (l.map fun a => D.str (f a))).map (f a :: ·) = _
    rw [strsD_map f l]
    rfl
theorem joinD_map {α : Type} {a : List Nat} (f : α → List Nat) {l : List α} (h : ((l.map f).map List.length).sum + (l.map f).length * a.length ≤ 1000000) : joinD (.str a) [.lst (l.map fun a => D.str (f a))] = .ok (.str (TL.joinL a (l.map f))) := by
  unfold joinD
  dsimp only
  rw [strsD_map]
  dsimp only
  rw [if_pos]
  unfold joinOk
  exact decide_eq_true (by omega)
theorem ints_map {α : Type} (f : α → Nat) : ∀ l : List α, ints? (l.map fun a => D.int (f a : Nat)) = some (l.map fun a => (f a : Int))
  | [] => rfl
  | a :: l => by
    show (ints? (l.map fun a => D.int (f a : Nat))).map ((f a : Int) :: ·) = _
    rw [ints_map f l]
    rfl
theorem sum_cast {α : Type} (f : α → Nat) : ∀ l : List α, (l.map fun a => (f a : Int)).sum = ((l.map f).sum : Nat)
  | [] => rfl
  | a :: l => by rw [List.map_cons, List.sum_cons, List.map_cons, List.sum_cons, sum_cast f l]; omega
theorem sumD_map {α : Type} (f : α → Nat) (l : List α) : sumD [.lst (l.map fun a => D.int (f a : Nat))] = .ok (.int ((l.map f).sum : Nat)) := by
  unfold sumD
  dsimp only
  rw [ints_map]
  dsimp only
  rw [sum_cast]
end DL
set_option Elab.async false
set_option linter.all false
set_option maxRecDepth 100000
namespace DL
open PySem L2 PySem.Spec PyProof.Rows
theorem Wr.bindS {α β : Type} {m : R α} {k : α → R β} {Q : β → Prop} (h : Wr m (fun a => Wr (k a) Q)) : Wr (m >>= k) Q := by
  rw [bd_f]
  exact Wr.bdF h
theorem Wr.onS_ {α : Type} {m : R α} {k : α → R Out} {r : LE} {Q : Out → Prop} (h : Wr m (fun a => Wr (k a) Q)) : Wr (m.onS r k) Q := by
  rw [on_f]
  exact Wr.onF h
theorem Wr.calmS {α : Type} {m : R α} {Q : α → Prop} (h : Wr m Q) : Wr m.calm Q := by
  rw [cm_f]
  exact Wr.cm h
theorem runF_wr {n m : Nat} {F : LE → R Out} {ds : List D} {Q : D → Prop} (hn : ds.length = n) (h : Wr (F (ds.map Cell.val ++ List.replicate (m - n) Cell.un)) (fun o => ∃ d, o = .rt d ∧ Q d)) : Wr (runF n m F ds) Q := by
  rw [runF_eq _ _ _ _ hn]
  refine Wr.bindS ((Wr.calmS h).mono fun o ho => ?_)
  obtain ⟨d, rfl, hd⟩ := ho
  exact Wr.ok hd
theorem rollS {f k : LE → R D} {r : LE} {n : Nat} (h1 : f r = .ok .dice) (h2 : k r = .ok (.int (n : Nat))) (hn : 1 ≤ n) (hn2 : n < 1000000) : Wr (callE rollD (acons f (acons k anil)) r) (fun d => ∃ i, i < n ∧ d = .int (i : Nat)) := by
  rw [callE_eq, acons_ok h1 (acons_ok h2 (xs := []) rfl), R.ok_bind]
  show Wr (if 0 < (n : Int) ∧ (n : Int) < 1000000000 then R.roll (n : Int).toNat (fun i => R.ok (D.int (i : Nat))) else R.stuck) _
  rw [if_pos (by omega)]
  exact ⟨fun i hi => ⟨i, by simpa using hi, rfl⟩⟩
theorem opS_wr {g : D → D → R D} {f k : LE → R D} {r : LE} {x : D} {P Q : D → Prop} (h1 : f r = .ok x) (h2 : Wr (k r) P) (h3 : ∀ y, P y → Wr (g x y) Q) : Wr (opE g f k r) Q := by
  rw [opE_eq, h1, R.ok_bind]
  exact Wr.bindS (h2.mono h3)
theorem subS_wr {f k : LE → R D} {r : LE} {x : D} {P Q : D → Prop} (h1 : f r = .ok x) (h2 : Wr (k r) P) (h3 : ∀ y, P y → Wr (subI x y) Q) : Wr (subE f k r) Q := by
  rw [subE_eq, h1, R.ok_bind]
  exact Wr.bindS (h2.mono h3)
theorem aconsS_wr {f : LE → R D} {fs : LE → R (List D)} {r : LE} {P : D → Prop} {Q : List D → Prop} (h1 : Wr (f r) P) (h2 : Wr (fs r) Q) : Wr (acons f fs r) (fun xs => ∃ x ys, xs = x :: ys ∧ P x ∧ Q ys) := by
  rw [acons_eq]
  exact Wr.bindS (h1.mono fun x hx => Wr.bindS (h2.mono fun ys hy => Wr.ok ⟨x, ys, rfl, hx, hy⟩))
theorem tup2_wr {f g : LE → R D} {r : LE} {P Q : D → Prop} (h1 : Wr (f r) P) (h2 : Wr (g r) Q) : Wr (tupE (acons f (acons g anil)) r) (fun d => ∃ x y, d = .tup [x, y] ∧ P x ∧ Q y) := by
  rw [tupE_eq]
  refine Wr.bindS ((aconsS_wr h1 (aconsS_wr h2 (Q := fun ys => ys = []) (Wr.eq (a := []) rfl rfl))).mono fun ds h => ?_)
  obtain ⟨x, ys, rfl, hx, y, zs, rfl, hy, rfl⟩ := h
  rw [if_pos (by simp)]
  exact Wr.ok ⟨x, y, rfl, hx, hy⟩
theorem loopC_wrS {gd : D → LE → Option LE} {te : LE → R D} {r : LE} {P : D → Prop} : ∀ {ds : List D}, (∀ d ∈ ds, ∃ r', gd d r = some r' ∧ Wr (te r') P) → Wr (loopC gd yesT te r ds) (fun ys => ys.length = ds.length ∧ ∀ y ∈ ys, P y)
  | [], _ => Wr.ok ⟨rfl, fun _ h => by cases h⟩
  | d :: ds, q => by
    obtain ⟨r', h1, h2⟩ := q d List.mem_cons_self
    rw [loopC_cons, h1]
    dsimp only
    show Wr ((te r').calm >>= _) _
    refine Wr.bindS ((Wr.calmS h2).mono fun y hy => Wr.bindS ((loopC_wrS fun d hd => q d (List.mem_cons_of_mem _ hd)).mono fun ys h => Wr.ok ⟨by rw [List.length_cons, List.length_cons, h.1], fun z hz => ?_⟩))
    rcases List.mem_cons.mp hz with rfl | hz
    · exact hy
    · exact h.2 z hz
theorem rng1_wr {f : LE → R D} {r : LE} {P : Nat → Prop} (h : Wr (f r) (fun d => ∃ n, P n ∧ n ≤ 1000 ∧ d = .int (n : Nat))) : Wr (rng1E (acons f anil) r) (fun ds => P ds.length ∧ ds.length ≤ 1000) := by
  rw [rng1E_eq, acons_eq]
  refine Wr.bindS (Wr.bindS (h.mono fun d hd => ?_))
  obtain ⟨n, hp, hn, rfl⟩ := hd
  show Wr (R.ok [D.int (n : Nat)]) _
  refine Wr.ok ?_
  unfold rng1
  dsimp only
  rw [if_pos (by omega)]
  refine Wr.ok ?_
  unfold rangeL
  simp only [List.length_map, List.length_range, Int.toNat_natCast]
  exact ⟨hp, hn⟩
theorem compF_wrS {fi : LE → R (List D)} {gd : D → LE → Option LE} {te : LE → R D} {vs : List Nat} {r : LE} {P : D → Prop} {N : Nat → Prop} (hf : Wr (fi r) (fun ds => N ds.length ∧ ds.length ≤ 1000)) (ht : ∀ d, ∃ r', gd d (wipeL r vs) = some r' ∧ Wr (te r') P) :
    Wr (compF fi gd yesT te vs r) (fun ys => N ys.length ∧ ∀ y ∈ ys, P y) := by
  rw [compF_eq]
  refine Wr.bindS (hf.mono fun ds h => ?_)
  rw [if_pos (by omega)]
  exact (loopC_wrS fun d _ => ht d).mono fun ys q => ⟨by rw [q.1]; exact h.1, q.2⟩
theorem lE_wr {f : LE → R (List D)} {r : LE} {Q : List D → Prop} (h : Wr (f r) Q) : Wr (lE f r) (fun d => ∃ ys, d = .lst ys ∧ Q ys) := by
  rw [lE_eq]
  exact Wr.bindS (h.mono fun ys hy => Wr.ok ⟨ys, rfl, hy⟩)
theorem retS_wr {f : LE → R D} {r : LE} {Q : D → Prop} (h : Wr (f r) Q) : Wr (retS f r) (fun o => ∃ d, o = .rt d ∧ Q d) := by
  rw [retS_eq]
  exact Wr.onS_ (h.mono fun d hd => Wr.ok ⟨d, rfl, hd⟩)
theorem setK_wr {i : Nat} {f : LE → R D} {r : LE} {Q : D → Prop} (h : Wr (f r) Q) : Wr (setK i (valK f) r) (fun o => ∃ r2, o = .nx r2 ∧ ∃ d, Q d ∧ r2 = r.set i (.val d)) := by
  rw [setK_eq, valK_eq]
  exact Wr.onS_ (Wr.bindS (Wr.bindS (h.mono fun d hd => Wr.ok (Wr.ok (Wr.ok ⟨_, rfl, d, hd, rfl⟩)))))
theorem asgS_wr {f : LE → R D} {gd : D → LE → Option LE} {r : LE} {P : D → Prop} {Q : LE → Prop} (h : Wr (f r) P) (k : ∀ d, P d → ∃ r', gd d r = some r' ∧ Q r') : Wr (asgS f gd r) (fun o => ∃ r2, o = .nx r2 ∧ Q r2) := by
  rw [asgS_eq]
  refine Wr.onS_ (h.mono fun d hd => ?_)
  obtain ⟨r', h1, h2⟩ := k d hd
  rw [h1]
  exact Wr.ok ⟨r', rfl, h2⟩
end DL
set_option Elab.async false
set_option linter.all false
set_option maxRecDepth 100000
namespace DL
open PySem L2 PySem.Spec PyProof.Rows
abbrev nD (n : Nat) : D := .int (n : Int)
theorem runF_rt {n m : Nat} {F : LE → R Out} {ds : List D} {d : D} (hn : ds.length = n) (h : F (ds.map Cell.val ++ List.replicate (m - n) Cell.un) = .ok (.rt d)) : runF n m F ds = .ok d := by
  rw [runF_eq _ _ _ _ hn, h]
  rfl
theorem runF_ex {n m : Nat} {F : LE → R Out} {ds : List D} {e : Exc} {r : LE} (hn : ds.length = n) (h : F (ds.map Cell.val ++ List.replicate (m - n) Cell.un) = .ok (.ex e r)) : runF n m F ds = .err e := by
  rw [runF_eq _ _ _ _ hn, h]
  rfl
theorem runF_nx {n m : Nat} {F : LE → R Out} {ds : List D} {r : LE} (hn : ds.length = n) (h : F (ds.map Cell.val ++ List.replicate (m - n) Cell.un) = .ok (.nx r)) : runF n m F ds = .ok .non := by
  rw [runF_eq _ _ _ _ hn, h]
  rfl
theorem runI_nx {c k n m : Nat} {F : LE → R Out} {ds fs : List D} {r : LE} (hn : ds.length = n) (h : F (Cell.own (.ins c []) :: (ds.map Cell.val ++ List.replicate (m - n - 1) Cell.un)) = .ok (.nx r)) (h0 : r[0]? = some (.own (.ins c fs))) (hk : fs.length = k) : runI c k n m F ds = .ok (.ins c fs) := by
  unfold runI
  rw [if_pos hn, h]
  show (match (r[0]? : Option Cell) with
    | some (Cell.own (D.ins c' fs)) => if c' = c ∧ fs.length = k then R.ok (D.ins c fs) else .stuck
    | _ => .stuck) = _
  rw [h0]
  exact if_pos ⟨rfl, hk⟩
theorem var_k {i : Nat} {r : LE} {d : D} (h : r[i]? = some (.val d)) : var i r = .ok d := by unfold var; rw [h]
theorem fld_k {fx : Nat → Option Nat} {f : LE → R D} {r : LE} {x y : D} (h : f r = .ok x) (h2 : fldD fx x = .ok y) : fldE fx f r = .ok y := by unfold fldE; rw [h]; exact h2
theorem andT_k {f g : LE → R Bool} {r : LE} {a b : Bool} (h1 : f r = .ok a) (h2 : g r = .ok b) : andT f g r = .ok (a && b) := by
  rw [andT_eq, h1, R.ok_bind]
  cases a
  · rfl
  · exact h2
theorem iadd_int (a b : Int) : iaddD (.int a) (.int b) = .ok (.int (a + b)) := rfl
theorem addD_nat (a b : Nat) : addD (nD a) (nD b) = .ok (nD (a + b)) := by
  show (R.ok (D.int ((a : Int) + (b : Int))) : R D) = _
  rw [← Int.natCast_add]
theorem iadd_nat (a b : Nat) : iaddD (nD a) (nD b) = .ok (nD (a + b)) := by
  show R.ok (D.int ((a : Int) + (b : Int))) = _
  rw [← Int.natCast_add]
theorem neD_nat (a b : Nat) : neD (nD a) (nD b) = .ok (.bl (!decide (a = b))) := by
  unfold neD
  rw [if_pos (by rfl)]
  show R.ok (D.bl (!((a : Int) == (b : Int)))) = _
  congr 3
  rw [Bool.eq_iff_iff]
  simp only [beq_iff_eq, decide_eq_true_eq]
  omega
theorem eqD_nat (a b : Nat) : eqD (nD a) (nD b) = .ok (.bl (decide (a = b))) := by
  unfold eqD
  rw [if_pos (by rfl)]
  show R.ok (D.bl ((a : Int) == (b : Int))) = _
  congr 2
  rw [Bool.eq_iff_iff]
  simp only [beq_iff_eq, decide_eq_true_eq]
  omega
theorem ltD_nat (a b : Nat) : ltD (nD a) (nD b) = .ok (.bl (decide (a < b))) := by
  rw [ltD_int]
  congr 2
  rw [Bool.eq_iff_iff]
  simp only [decide_eq_true_eq]
  omega
theorem gtD_nat (a b : Nat) : gtD (nD a) (nD b) = .ok (.bl (decide (a > b))) := by
  rw [gtD_int]
  congr 2
  rw [Bool.eq_iff_iff]
  simp only [decide_eq_true_eq]
  omega
theorem nD_sh (i n : Nat) : (nD i).sh n = true := by
  unfold D.sh
  rfl
theorem nDs_sh (l : List Nat) (n : Nat) : D.shs (l.map nD) n = true := shs_map fun a _ => nD_sh a n
theorem lenX_l (xs : List D) : lenX [.lst xs] = .ok (nD xs.length) := rfl
theorem lenX_t (xs : List D) : lenX [.tup xs] = .ok (nD xs.length) := rfl
theorem rng2_int (b : Int) (hb : b < 1000000) (hc : -1000000 < b) (a : Nat) (ha : a < 1000000) : rng2 [nD a, .int b] = .ok ((List.range (b - a).toNat).map fun i => nD (a + i)) := by
  show (if b < 1073741824 ∧ -(1073741824) < b ∧ (a : Int) < 1073741824 ∧ -(1073741824) < (a : Int) then R.ok (rangeL a (b - a).toNat) else .stuck) = _
  rw [if_pos (by omega)]
  unfold rangeL
  congr 1
theorem loopS_pre {α : Type} {gd : D → LE → Option LE} {body : LE → R Out} {e : α → D} {l0 : List α} (I : List α → LE → Prop) : ∀ {l done : List α} {r : LE}, done ++ l = l0 → I done r → (∀ a done rest r, done ++ a :: rest = l0 → I done r → ∃ r' r2, gd (e a) r = some r' ∧ body r' = .ok (.nx r2) ∧ I (done ++ [a]) r2) →
    ∃ r2, loopS gd body (l.map e) r = .ok (.nx r2) ∧ I (done ++ l) r2
  | [], done, r, _, h, _ => ⟨r, rfl, by simpa using h⟩
  | a :: l, done, r, hd, h, q => by
    obtain ⟨r', r2, h1, h2, h3⟩ := q a done l r hd h
    obtain ⟨r3, h4, h5⟩ := loopS_pre I (l := l) (by rw [List.append_assoc]; exact hd) h3 q
    refine ⟨r3, ?_, by simpa using h5⟩
    rw [List.map_cons, loopS_nx h1 h2, h4]
/-- over `range n`, any reading of its places -/
theorem loopS_rgM {gd : D → LE → Option LE} {body : LE → R Out} {e : Nat → D} (I : Nat → LE → Prop) {n : Nat} {r : LE} (h : I 0 r) (q : ∀ k r, k < n → I k r → ∃ r' r2, gd (e k) r = some r' ∧ body r' = .ok (.nx r2) ∧ I (k + 1) r2) :
    ∃ r2, loopS gd body ((List.range n).map e) r = .ok (.nx r2) ∧ I n r2 := by
  obtain ⟨r2, h1, h2⟩ := loopS_pre (gd := gd) (body := body) (e := e) (l0 := List.range n) (fun T r => I T.length r) (l := List.range n) (done := []) (r := r) rfl h (fun k T rest r hT hI => by
    have e : (List.range n)[T.length]? = some k := by rw [← hT]; simp
    obtain ⟨h1, h2⟩ := List.getElem?_eq_some_iff.mp e
    rw [List.getElem_range] at h2
    rw [List.length_range] at h1
    subst h2
    obtain ⟨r', r2, h3, h4, h5⟩ := q _ r h1 hI
    exact ⟨r', r2, h3, h4, by rw [List.length_append]; exact h5⟩)
  refine ⟨r2, h1, ?_⟩
  rw [List.nil_append, List.length_range] at h2
  exact h2
/-- each of them so: then mapped things -/
theorem map_of_all {α : Type} {e : α → D} {P : α → Prop} : ∀ {ys : List D}, (∀ y ∈ ys, ∃ a, P a ∧ y = e a) → ∃ l : List α, (∀ a ∈ l, P a) ∧ ys = l.map e
  | [], _ => ⟨[], ⟨fun _ h => (by cases h), rfl⟩⟩
  | y :: ys, h => by
    obtain ⟨a, ha, rfl⟩ := h y List.mem_cons_self
    obtain ⟨l, hl, rfl⟩ := map_of_all fun z hz => h z (List.mem_cons_of_mem _ hz)
    exact ⟨a :: l, fun b hb => by
      rcases List.mem_cons.mp hb with rfl | hb
      · exact ha
      · exact hl b hb, rfl⟩
end DL
namespace DL
open PySem L2 PySem.Spec PyProof.Rows
/-- a loop with draws -/
theorem loopS_wrL {α : Type} {gd : D → LE → Option LE} {body : LE → R Out} {e : α → D} (I : Nat → LE → Prop) : ∀ {l : List α} {k : Nat} {r : LE}, I k r → (∀ a ∈ l, ∀ j r, k ≤ j → j < k + l.length → I j r → ∃ r', gd (e a) r = some r' ∧ Wr (body r') (fun o => ∃ r2, o = .nx r2 ∧ I (j + 1) r2)) →
    Wr (loopS gd body (l.map e) r) (fun o => ∃ r2, o = .nx r2 ∧ I (k + l.length) r2)
  | [], k, r, h, _ => Wr.ok ⟨r, rfl, h⟩
  | a :: l, k, r, h, q => by
    obtain ⟨r', h1, h2⟩ := q a List.mem_cons_self k r (Nat.le_refl _) (by rw [List.length_cons]; omega) h
    rw [List.map_cons, loopS.eq_2, h1]
    dsimp only
    refine Wr.bindS (h2.mono fun o ho => ?_)
    obtain ⟨r2, rfl, h3⟩ := ho
    rw [List.length_cons, show k + (l.length + 1) = k + 1 + l.length by omega]
    exact loopS_wrL I (k := k + 1) h3 fun b hb j r h1 h2 => q b (List.mem_cons_of_mem _ hb) j r (by omega) (by rw [List.length_cons]; omega)
theorem forS_wr {fi : LE → R (List D)} {gd : D → LE → Option LE} {F : LE → R Out} {r : LE} {P : List D → Prop} {Q : Out → Prop} (h : Wr (fi r) P) (k : ∀ ds, P ds → Wr (loopS gd F ds r) Q) : Wr (forS fi gd F r) Q := by
  rw [forS_eq]
  exact Wr.onS_ (h.mono k)
theorem seqS_wr {F K : LE → R Out} {r : LE} {P : LE → Prop} {Q : Out → Prop} (h : Wr (F r) (fun o => ∃ r2, o = .nx r2 ∧ P r2)) (k : ∀ r2, P r2 → Wr (K r2) Q) : Wr (seqS F K r) Q := by
  rw [seqS_eq]
  refine Wr.bindS (h.mono fun o ho => ?_)
  obtain ⟨r2, rfl, h2⟩ := ho
  exact k r2 h2
theorem seqS_okW {F K : LE → R Out} {r r2 : LE} {Q : Out → Prop} (h : F r = .ok (.nx r2)) (k : Wr (K r2) Q) : Wr (seqS F K r) Q := by
  rw [seqS_eq, h]
  exact k
theorem callE_wr {g : List D → R D} {fs : LE → R (List D)} {r : LE} {xs : List D} {Q : D → Prop} (h1 : fs r = .ok xs) (h2 : Wr (g xs) Q) : Wr (callE g fs r) Q := by
  rw [callE_eq, h1]
  exact h2
end DL
namespace DL
open PySem L2 PySem.Spec PyProof.Rows
def up (f : Nat → Cell) (k : Nat) (c : Cell) : Nat → Cell := fun j => if j = k then c else f j
theorem told_er {l : List (Nat × List Nat)} {f : LE → R D} {r : LE} {e : Exc} {t : List Nat} (h : f r = .err e) (h2 : l.lookup e.cls = some t) : toldE l f r = .ok (.str t) := by rw [toldE_eq, h, toldD_err, h2]
theorem callE_err {g : List D → R D} {fs : LE → R (List D)} {r : LE} {xs : List D} {e : Exc} (h1 : fs r = .ok xs) (h2 : g xs = .err e) : callE g fs r = .err e := by rw [callE_eq, h1]; exact h2
theorem meth_err {c : Nat} {g : List D → R D} {f : LE → R D} {as : LE → R (List D)} {r : LE} {fs xs : List D} {e : Exc} (h1 : f r = .ok (.ins c fs)) (h2 : as r = .ok xs) (h3 : g (.ins c fs :: xs) = .err e) : methE c g f as r = .err e := by rw [methE_eq, h1, R.ok_bind, isC_eq, R.ok_bind, h2]; exact h3
theorem ltb_nDD (a b : Nat) : (nD a).ltb (nD b) = decide (a < b) := by
  show PySem.W.dataLt (.int a) (.int b) = _
  rw [PySem.W.dataLt_int, Bool.eq_iff_iff]
  simp only [decide_eq_true_eq]
  omega
theorem alis_nDD (l : List Nat) : alis (l.map nD) = true := by
  unfold alis
  rw [List.all_eq_true]
  intro x hx
  obtain ⟨a, _, rfl⟩ := List.mem_map.mp hx
  rw [nD_sh]
  simp only [Bool.true_and]
  rw [List.all_eq_true]
  intro y hy
  obtain ⟨b, _, rfl⟩ := List.mem_map.mp hy
  rfl
/-- the last statement: says False if its test is so -/
theorem lastS {c : LE → R Bool} {f : LE → R D} {r : LE} (h : Wr (c r) (fun b => b = false)) : GoP Done (ifS c (retS f) skipS) r := by
  refine ⟨?_⟩
  rw [ifS_eq]
  refine Wp_onS (h.h.mono (fun b hb => ?_) fun _ z => z.elim)
  rw [hb, if_neg (by simp), skipS_eq, Wp_ok]
  exact ⟨r, Or.inl rfl⟩
theorem not_wr {m : R D} (h : Wr m (fun d => d = .bl true)) : Wr ((m >>= asB) >>= fun b => R.ok (!b)) (fun b => b = false) := by
  refine Wr.bindS (Wr.bindS (h.mono fun d hd => ?_))
  rw [hd, asB_bl]
  exact Wr.ok (Wr.ok rfl)
end DL
set_option Elab.async false
set_option linter.all false
set_option maxRecDepth 100000
namespace DL
open PySem L2 PySem.Spec PyProof.Rows
theorem itB_l {f : LE → R D} {r : LE} {xs : List D} (h : f r = .ok (.lst xs)) : itB f r = .ok xs := by unfold itB; rw [h]; rfl
theorem itB_t {f : LE → R D} {r : LE} {xs : List D} (h : f r = .ok (.tup xs)) : itB f r = .ok xs := by unfold itB; rw [h]; rfl
theorem most_nD : ∀ (l : List Nat) (a : Nat), ∃ m, most (nD a) (l.map nD) = nD m ∧ m ∈ a :: l ∧ ∀ x ∈ a :: l, x ≤ m
  | [], a => ⟨a, rfl, by simp, by simp⟩
  | b :: l, a => by
    have e : most (nD a) ((b :: l).map nD) = most (if a < b then nD b else nD a) (l.map nD) := by
      show most (if (nD a).ltb (nD b) then nD b else nD a) (l.map nD) = _
      rw [ltb_nDD]
      simp only [decide_eq_true_eq]
    rw [e]
    by_cases h : a < b
    · rw [if_pos h]
      obtain ⟨m, h1, h2, h3⟩ := most_nD l b
      refine ⟨m, h1, List.mem_cons_of_mem _ h2, fun x hx => ?_⟩
      rcases List.mem_cons.mp hx with rfl | hx
      · have := h3 b List.mem_cons_self
        omega
      · exact h3 x hx
    · rw [if_neg h]
      obtain ⟨m, h1, h2, h3⟩ := most_nD l a
      refine ⟨m, h1, ?_, fun x hx => ?_⟩
      · rcases List.mem_cons.mp h2 with rfl | h2
        · exact List.mem_cons_self
        · exact List.mem_cons_of_mem _ (List.mem_cons_of_mem _ h2)
      · rcases List.mem_cons.mp hx with rfl | hx
        · exact h3 x List.mem_cons_self
        · rcases List.mem_cons.mp hx with rfl | hx
          · have := h3 a List.mem_cons_self
            omega
          · exact h3 x (List.mem_cons_of_mem _ hx)
theorem maxL_nD {l : List Nat} (h : l ≠ []) : ∃ m, maxL [.lst (l.map nD)] = .ok (nD m) ∧ m ∈ l ∧ ∀ x ∈ l, x ≤ m := by
  cases l with
  | nil => exact absurd rfl h
  | cons a l =>
    obtain ⟨m, h1, h2⟩ := most_nD l a
    refine ⟨m, ?_, h2⟩
    show (if alis ((a :: l).map nD) then R.ok (most (nD a) (l.map nD)) else .stuck) = _
    rw [alis_nDD, if_pos rfl, h1]
end DL
set_option Elab.async false
set_option linter.all false
set_option maxRecDepth 100000
namespace DL
open PySem L2 PySem.Spec PyProof.Rows
def tks (d : D) : List (Int ⊕ List Nat) := PySem.W.keyToks d.toP
def ltk {α : Type} (k : α → D) (a b : α) : Bool := (k a).ltb (k b)
theorem ord_k {α : Type} {k : α → D} (inj : ∀ a b, tks (k a) = tks (k b) → a = b) : Ord (ltk k) where
  tr a b c h1 h2 := by
    cases h : ltk k c a with
    | false => rfl
    | true =>
      rcases lex_negTrans _ (tks (k b)) _ h with h | h
      · exact absurd (h.symm.trans h2) (by decide)
      · exact absurd (h.symm.trans h1) (by decide)
  an a b h1 h2 := inj _ _ (lex_total _ _ h1 h2)
  as a b h := by
    cases h2 : ltk k b a with
    | false => rfl
    | true =>
      have h3 := lex_trans _ _ _ h h2
      exact absurd (h3.symm.trans (lex_irrefl _)) (by decide)
theorem srt_uniq {α : Type} {k : α → D} (inj : ∀ a b, tks (k a) = tks (k b) → a = b) {l m : List α} (p : l.Perm m) : isort (ltk k) l = isort (ltk k) m :=
  up_uniq (ord_k inj) _ _ (isort_up (ord_k inj) _) (isort_up (ord_k inj) _) ((isort_perm _).trans (p.trans (isort_perm _).symm))
theorem insT_map' {α β : Type} {lt : α → α → Bool} {lt' : β → β → Bool} {f : α → β} (h : ∀ a b, lt' (f a) (f b) = lt a b) (x : α) : ∀ l : List α, insT lt' (f x) (l.map f) = (insT lt x l).map f
  | [] => rfl
  | y :: l => by
    rw [List.map_cons]
    unfold insT
    rw [h y x]
    cases lt y x with
    | true => rw [if_pos rfl, if_pos rfl, insT_map' h x l]; rfl
    | false => rfl
theorem isort_map' {α β : Type} {lt : α → α → Bool} {lt' : β → β → Bool} {f : α → β} (h : ∀ a b, lt' (f a) (f b) = lt a b) : ∀ l : List α, isort lt' (l.map f) = (isort lt l).map f
  | [] => rfl
  | x :: l => by
    show insT lt' (f x) (isort lt' (l.map f)) = _
    rw [isort_map' h l, insT_map' h]
    rfl
theorem zip_maps' {α β γ : Type} (f : α → β) (g : α → γ) : ∀ l : List α, (l.map f).zip (l.map g) = l.map fun a => (f a, g a)
  | [] => rfl
  | a :: l => by rw [List.map_cons, List.map_cons, List.zip_cons_cons, zip_maps' f g l]; rfl
theorem sortK_k {α : Type} (e k : α → D) (l : List α) : sortK (l.map e) (l.map k) = (isort (ltk k) l).map e := by
  unfold sortK
  rw [zip_maps', isort_map' (lt := ltk k) (f := fun o => (e o, k o)) fun a b => rfl, List.map_map]
  rfl
theorem isort_mem {α : Type} {lt : α → α → Bool} {l : List α} {a : α} : a ∈ isort lt l ↔ a ∈ l := (isort_perm l).mem_iff
theorem isort_len {α : Type} {lt : α → α → Bool} (l : List α) : (isort lt l).length = l.length := (isort_perm l).length_eq
/-- keys that can be sorted -/
structure KeyOk {α : Type} (k : α → D) : Prop where
  sh : ∀ a, (k a).sh 50 = true
  al : ∀ a b, (k a).ali (k b) = true
  nn : ∀ a, k a ≠ .non
  one : (∀ a, tup1 (k a) = true) ∨ (∀ a, notTup (k a) = true)
theorem KeyOk.alis {α : Type} {k : α → D} (h : KeyOk k) (l : List α) : alis (l.map k) = true := by
  unfold DL.alis
  rw [List.all_eq_true]
  intro x hx
  obtain ⟨a, _, rfl⟩ := List.mem_map.mp hx
  have c1 := h.sh a
  have c3 := h.nn a
  have c2 : ((l.map k).all fun y => (k a).ali y) = true := by
    rw [List.all_eq_true]
    intro y hy
    obtain ⟨b, _, rfl⟩ := List.mem_map.mp hy
    exact h.al a b
  revert c1 c2 c3
  generalize k a = z
  intro c1 c3 c2
  rw [c1, c2]
  cases z <;> first | rfl | exact absurd rfl c3
theorem KeyOk.srtb {α : Type} {k : α → D} (h : KeyOk k) (l : List α) : srtb (l.map k) = true := by
  unfold DL.srtb
  rw [Bool.or_eq_true, List.all_eq_true, List.all_eq_true]
  rcases h.one with q | q
  · left
    intro x hx
    obtain ⟨a, _, rfl⟩ := List.mem_map.mp hx
    exact q a
  · right
    intro x hx
    obtain ⟨a, _, rfl⟩ := List.mem_map.mp hx
    exact q a
theorem sortGD_k {α : Type} {k : α → D} (h : KeyOk k) {l : List α} (hl : l.length ≤ 16777216) : sortGD (l.map k) = .ok ((isort (ltk k) l).map k) := by
  unfold sortGD
  rw [h.alis, h.srtb, if_pos (by simp only [List.length_map, Bool.true_and, decide_eq_true_eq]; exact hl), sortK_k]
theorem nD_tks (a : Nat) : tks (nD a) = [.inl (a : Int)] := rfl
theorem inj_nD : ∀ a b : Nat, tks (nD a) = tks (nD b) → a = b := fun a b h => by
  rw [nD_tks, nD_tks] at h
  injection h with h _
  injection h with h
  omega
theorem txts_k {α : Type} (f : α → List Nat) : ∀ l : List α, txts? (l.map fun a => D.str (f a)) = some (l.map f)
  | [] => rfl
  | a :: l => by
    show (txts? (l.map fun a => D.str (f a))).map (f a :: ·) = _
    rw [txts_k f l]
    rfl
theorem lt_cps : ∀ a b : List Nat, decide (a < b) = ltCps a b
  | [], [] => by simp [ltCps]
  | [], y :: b => by simp [ltCps]
  | x :: a, [] => by simp [ltCps]
  | x :: a, y :: b => by
    have ih := lt_cps a b
    unfold ltCps
    rw [← ih, Bool.eq_iff_iff]
    simp only [decide_eq_true_eq, Bool.or_eq_true, Bool.and_eq_true, beq_iff_eq]
    exact List.cons_lt_cons_iff
theorem ltb_str (a b : List Nat) : (D.str a).ltb (.str b) = ltCps a b := by
  show PySem.W.dataLt (.str ⟨a.toArray⟩) (.str ⟨b.toArray⟩) = _
  rw [PySem.W.dataLt_str]
  exact lt_cps a b
/-- sorted(list of texts) -/
theorem sortDs_str {α : Type} (f : α → List Nat) {l : List α} (h : l.length < 64) : sortDs (l.map fun a => D.str (f a)) = .ok ((isort (ltk fun a => D.str (f a)) l).map fun a => D.str (f a)) := by
  unfold sortDs
  rw [if_pos (by rw [List.length_map]; exact h), txts_k]
  dsimp only
  rw [isort_map' (lt := ltk fun a => D.str (f a)) (f := f) (fun a b => by
    unfold ltk
    rw [ltb_str]), List.map_map]
  rfl
section
variable {α : Type} [DecidableEq α]
def adds (acc : List α) (a : α) : List α := if a ∈ acc then acc else acc ++ [a]
def firsts (l : List α) : List α := l.foldl adds []
theorem firsts_snoc (l : List α) (a : α) : firsts (l ++ [a]) = adds (firsts l) a := by
  unfold firsts
  rw [List.foldl_append]
  rfl
theorem adds_mem {acc : List α} {a b : α} : b ∈ adds acc a ↔ b ∈ acc ∨ b = a := by
  unfold adds
  split
  · rename_i h
    exact ⟨.inl, fun q => q.elim id fun e => e ▸ h⟩
  · simp
theorem foldl_mem : ∀ (l acc : List α) {a : α}, a ∈ l.foldl adds acc ↔ a ∈ acc ∨ a ∈ l
  | [], acc, a => by simp
  | b :: l, acc, a => by
    rw [List.foldl_cons, foldl_mem l, adds_mem, List.mem_cons]
    exact or_assoc
theorem firsts_mem {l : List α} {a : α} : a ∈ firsts l ↔ a ∈ l := by
  unfold firsts
  rw [foldl_mem]
  simp
theorem adds_nodup {acc : List α} {a : α} (h : acc.Nodup) : (adds acc a).Nodup := by
  unfold adds
  split
  · exact h
  · rename_i q
    exact List.nodup_append.mpr ⟨h, by simp, fun x hx y hy e => q (by rw [List.mem_singleton.mp hy] at e; exact e ▸ hx)⟩
theorem firsts_nodup (l : List α) : (firsts l).Nodup := by
  unfold firsts
  have : ∀ (l acc : List α), acc.Nodup → (l.foldl adds acc).Nodup := fun l => by
    induction l with
    | nil => exact fun acc h => h
    | cons a l ih => exact fun acc h => ih _ (adds_nodup h)
  exact this l [] List.nodup_nil
theorem firsts_len (l : List α) : (firsts l).length ≤ l.length := by
  unfold firsts
  have : ∀ (l acc : List α), (l.foldl adds acc).length ≤ acc.length + l.length := fun l => by
    induction l with
    | nil => exact fun acc => Nat.le_refl _
    | cons a l ih =>
      intro acc
      have h1 := ih (adds acc a)
      have h2 : (adds acc a).length ≤ acc.length + 1 := by
        unfold adds
        split
        · omega
        · simp
      rw [List.foldl_cons, List.length_cons]
      omega
  have := this l []
  simpa using this
theorem firsts_of_nodup {l : List α} (h : l.Nodup) : firsts l = l := by
  unfold firsts
  have : ∀ (l acc : List α), (acc ++ l).Nodup → l.foldl adds acc = acc ++ l := fun l => by
    induction l with
    | nil => intro acc _; simp
    | cons a l ih =>
      intro acc h
      have hn : a ∉ acc := fun hm => (List.nodup_append.mp h).2.2 _ hm _ List.mem_cons_self rfl
      rw [List.foldl_cons]
      have e : adds acc a = acc ++ [a] := if_neg hn
      rw [e, ih _ (by rw [List.append_assoc]; exact h), List.append_assoc]
      rfl
  have := this l [] (by simpa using h)
  simpa using this
/-- two lists without doubles, of the same things -/
theorem perm_of {l m : List α} (hl : l.Nodup) (hm : m.Nodup) (h : ∀ a, a ∈ l ↔ a ∈ m) : l.Perm m := (List.perm_ext_iff_of_nodup hl hm).mpr h
/-- d[k] = v, keys compared by q -/
def putQ (q : D → D → Bool) (kvs : List (D × D)) (k d : D) : List (D × D) := if (kvs.any fun p => q p.1 k) = true then kvs.map (fun p => if q p.1 k then (p.1, d) else p) else kvs ++ [(k, d)]
def getQ (q : D → D → Bool) (kvs : List (D × D)) (k : D) : Option D := (kvs.find? fun p => q p.1 k).map (·.2)
theorem putD_q (kvs : List (D × D)) (k d : D) : putD kvs k d = putQ D.keq kvs k d := rfl
theorem getD_q (kvs : List (D × D)) (k : D) : getD kvs k = getQ D.keq kvs k := rfl
/-- a dict with these keys -/
def dcQ (e : α → D) (x : α → D) (l : List α) : List (D × D) := l.map fun a => (e a, x a)
variable {q : D → D → Bool} {e : α → D}
theorem dcQ_any (h : ∀ a b, q (e a) (e b) = decide (a = b)) {x : α → D} {l : List α} {a : α} : ((dcQ e x l).any fun p => q p.1 (e a)) = decide (a ∈ l) := by
  unfold dcQ
  rw [Bool.eq_iff_iff]
  simp only [List.any_eq_true, List.mem_map, decide_eq_true_eq]
  constructor
  · rintro ⟨p, ⟨b, hb, rfl⟩, hq⟩
    dsimp only at hq
    rw [h, decide_eq_true_eq] at hq
    exact hq ▸ hb
  · intro hb
    exact ⟨_, ⟨a, hb, rfl⟩, by dsimp only; rw [h]; exact decide_eq_true rfl⟩
theorem dcQ_put (h : ∀ a b, q (e a) (e b) = decide (a = b)) {x x' : α → D} {l : List α} {a : α} {v : D} (h1 : x' a = v) (h2 : ∀ b ∈ l, b ≠ a → x' b = x b) : putQ q (dcQ e x l) (e a) v = dcQ e x' (adds l a) := by
  unfold putQ
  rw [dcQ_any h]
  unfold adds
  by_cases hm : a ∈ l
  · rw [if_pos (decide_eq_true hm), if_pos hm]
    unfold dcQ
    rw [List.map_map]
    refine List.map_congr_left fun b hb => ?_
    show (if q (e b) (e a) = true then (e b, v) else (e b, x b)) = (e b, x' b)
    rw [h]
    by_cases eb : b = a
    · subst eb
      rw [if_pos (decide_eq_true rfl), h1]
    · rw [if_neg (by simpa using eb), h2 b hb eb]
  · rw [if_neg (by simpa using hm), if_neg hm]
    unfold dcQ
    rw [List.map_append, List.map_cons, h1]
    congr 1
    exact List.map_congr_left fun b hb => by rw [h2 b hb fun eb => hm (eb ▸ hb)]
theorem dcQ_get (h : ∀ a b, q (e a) (e b) = decide (a = b)) {x : α → D} {a : α} : ∀ {l : List α}, getQ q (dcQ e x l) (e a) = if a ∈ l then some (x a) else none
  | [] => by rw [if_neg (by simp)]; rfl
  | b :: l => by
    unfold getQ dcQ
    rw [List.map_cons]
    by_cases eb : b = a
    · subst eb
      rw [List.find?_cons_of_pos (by dsimp only; rw [h]; exact decide_eq_true rfl), if_pos List.mem_cons_self]
      rfl
    · rw [List.find?_cons_of_neg (by dsimp only; rw [h]; simpa using eb)]
      have := dcQ_get h (x := x) (a := a) (l := l)
      unfold getQ dcQ at this
      rw [this]
      have e2 : (a ∈ b :: l) ↔ a ∈ l := by
        rw [List.mem_cons]
        exact ⟨fun q => q.elim (fun e => absurd e.symm eb) id, .inr⟩
      by_cases hm : a ∈ l
      · rw [if_pos hm, if_pos (e2.mpr hm)]
      · rw [if_neg hm, if_neg fun q => hm (e2.mp q)]
theorem dcQ_in (h : ∀ a b, q (e a) (e b) = decide (a = b)) {x : α → D} {a : α} {l : List α} (ha : a ∈ l) : getQ q (dcQ e x l) (e a) = some (x a) := by rw [dcQ_get h, if_pos ha]
/-- a dict made of pairs whose first ones are all different -/
theorem dcQ_merge (h : ∀ a b, q (e a) (e b) = decide (a = b)) {x : α → D} : ∀ (l l0 : List α), (dcQ e x l).foldl (fun acc p => putQ q acc p.1 p.2) (dcQ e x l0) = dcQ e x (l.foldl adds l0)
  | [], l0 => rfl
  | a :: l, l0 => by
    show (dcQ e x l).foldl _ (putQ q (dcQ e x l0) (e a) (x a)) = _
    rw [dcQ_put h (x' := x) rfl fun _ _ _ => rfl, dcQ_merge h l]
    rfl
theorem mergeD_dc (h : ∀ a b, (e a).keq (e b) = decide (a = b)) {x : α → D} (l : List α) : mergeD [] (dcQ e x l) = dcQ e x (firsts l) := dcQ_merge (q := D.keq) h l []
theorem pairsD_dc (h : ∀ a, (e a).key1 = true) {x : α → D} : ∀ l : List α, pairsD (l.map fun a => .tup [e a, x a]) = some (dcQ e x l)
  | [] => rfl
  | a :: l => by
    show (if (e a).key1 = true then (pairsD (l.map fun a => .tup [e a, x a])).map ((e a, x a) :: ·) else none) = _
    rw [pairsD_dc h l, if_pos (h a)]
    rfl
theorem dictD_dc (hk : ∀ a, (e a).key1 = true) (h : ∀ a b, (e a).keq (e b) = decide (a = b)) {x : α → D} (l : List α) : dictD [.lst (l.map fun a => .tup [e a, x a])] = .ok (.dic (dcQ e x (firsts l))) := by
  unfold dictD dictL
  dsimp only
  rw [pairsD_dc hk]
  dsimp only
  rw [mergeD_dc h]
  rfl
/-- counts so far -/
def cnt (e : α → D) (l : List α) : List (D × D) := dcQ e (fun a => nD (l.count a)) (firsts l)
end
end DL
set_option Elab.async false
set_option linter.all false
set_option maxRecDepth 100000
namespace DL
open PySem L2 PySem.Spec PyProof.Rows
theorem sumG_fmN {α : Type} {gd : D → LE → Option LE} {tt : LE → R Bool} {te : LE → R D} {r : LE} {e : α → D} {p : α → Bool} {h : α → Nat} : ∀ {l : List α} {acc : Nat}, (∀ a ∈ l, ∃ r', gd (e a) r = some r' ∧ tt r' = .ok (p a) ∧ (p a = true → te r' = .ok (nD (h a)))) → acc + ((l.filter p).map h).sum < 1000000000 →
    sumG gd tt te r (acc : Int) (l.map e) = .ok (((acc + ((l.filter p).map h).sum : Nat) : Int))
  | [], acc, _, _ => rfl
  | a :: l, acc, q, hb => by
    obtain ⟨r', h1, h2, h3⟩ := q a List.mem_cons_self
    rw [List.map_cons]
    cases hp : p a with
    | true =>
      rw [hp] at h2
      rw [List.filter_cons_of_pos hp, List.map_cons, List.sum_cons] at hb ⊢
      rw [sumG_cons gd tt te r r' (e a) (l.map e) acc (h a) h1 h2 (h3 hp) (smallI_nat (n := h a) (by omega)) (smallI_nat (n := acc + h a) (by omega))]
      have := sumG_fmN (l := l) (acc := acc + h a) (fun b hb => q b (List.mem_cons_of_mem _ hb)) (by omega)
      rw [Nat.add_assoc] at this
      exact this
    | false =>
      rw [hp] at h2
      rw [List.filter_cons_of_neg (by rw [hp]; simp)] at hb ⊢
      rw [sumG.eq_2, h1]
      dsimp only
      rw [h2]
      exact sumG_fmN (l := l) (acc := acc) (fun b hb => q b (List.mem_cons_of_mem _ hb)) hb
theorem sumG2_fmN {α β : Type} {gd gd2 : D → LE → Option LE} {fi2 : LE → R (List D)} {tt2 : LE → R Bool} {te : LE → R D} {vs2 : List Nat} {r : LE} {e : α → D} {e1 : β → D} {h : α → β → Nat} {p : α → β → Bool} {m : α → List β} : ∀ {l : List α} {acc : Nat},
    (∀ a ∈ l, ∃ r1, gd (e a) r = some r1 ∧ fi2 r1 = .ok ((m a).map e1) ∧ (m a).length ≤ 16777216 ∧ ∀ b ∈ m a, ∃ r2, gd2 (e1 b) (wipeL r1 vs2) = some r2 ∧ tt2 r2 = .ok (p a b) ∧ (p a b = true → te r2 = .ok (nD (h a b)))) →
    acc + (l.map fun a => (((m a).filter (p a)).map (h a)).sum).sum < 1000000000 →
    sumG2 gd yesT fi2 gd2 tt2 te vs2 r (acc : Int) (l.map e) = .ok (((acc + (l.map fun a => (((m a).filter (p a)).map (h a)).sum).sum : Nat) : Int))
  | [], acc, _, _ => rfl
  | a :: l, acc, q, hb => by
    obtain ⟨r1, h1, h2, h3, h4⟩ := q a List.mem_cons_self
    rw [List.map_cons, List.sum_cons] at hb
    rw [List.map_cons, List.map_cons, List.sum_cons]
    have ih := sumG2_fmN (l := l) (acc := acc + (((m a).filter (p a)).map (h a)).sum) (fun b hb => q b (List.mem_cons_of_mem _ hb)) (by omega)
    rw [Nat.add_assoc] at ih
    unfold sumG2
    rw [h1]
    show ((fi2 r1).calm >>= fun es => if es.length ≤ 16777216 then (sumG gd2 tt2 te (wipeL r1 vs2) (acc : Int) es >>= fun acc2 => sumG2 gd yesT fi2 gd2 tt2 te vs2 r acc2 (l.map e)) else .stuck) = _
    rw [h2]
    show (if ((m a).map e1).length ≤ 16777216 then (sumG gd2 tt2 te (wipeL r1 vs2) (acc : Int) ((m a).map e1) >>= fun acc2 => sumG2 gd yesT fi2 gd2 tt2 te vs2 r acc2 (l.map e)) else .stuck) = _
    rw [if_pos (by rw [List.length_map]; exact h3), sumG_fmN h4 (by omega), R.ok_bind]
    exact ih
theorem sumE2_fmN {α β : Type} {fi : LE → R (List D)} {gd gd2 : D → LE → Option LE} {fi2 : LE → R (List D)} {tt2 : LE → R Bool} {te : LE → R D} {vs vs2 : List Nat} {r : LE} {e : α → D} {e1 : β → D} {h : α → β → Nat} {p : α → β → Bool} {m : α → List β} {l : List α} (hf : fi r = .ok (l.map e))
    (q : ∀ a ∈ l, ∃ r1, gd (e a) (wipeL r vs) = some r1 ∧ fi2 r1 = .ok ((m a).map e1) ∧ (m a).length ≤ 16777216 ∧ ∀ b ∈ m a, ∃ r2, gd2 (e1 b) (wipeL r1 vs2) = some r2 ∧ tt2 r2 = .ok (p a b) ∧ (p a b = true → te r2 = .ok (nD (h a b))))
    (hb : (l.map fun a => (((m a).filter (p a)).map (h a)).sum).sum < 1000000000) :
    sumE2 fi gd yesT fi2 gd2 tt2 te vs vs2 r = .ok (nD (l.map fun a => (((m a).filter (p a)).map (h a)).sum).sum) := by
  unfold sumE2
  rw [hf, R.ok_bind]
  have := sumG2_fmN (l := l) (acc := 0) q (by omega)
  rw [Nat.zero_add] at this
  rw [show ((0 : Nat) : Int) = 0 from rfl] at this
  rw [this]
  rfl
theorem enumL_rng {α : Type} (f : α → D) (g : Nat → α) (l : List α) (h : ∀ i, i < l.length → l[i]? = some (g i)) : enumL 0 (l.map f) = (List.range l.length).map fun i => .tup [nD i, f (g i)] := by
  unfold enumL
  refine List.ext_getElem? fun i => ?_
  rw [List.getElem?_mapIdx, List.getElem?_map, List.getElem?_map]
  by_cases hi : i < l.length
  · rw [List.getElem?_range hi, h i hi]
    show some (D.tup [.int (0 + (i : Int)), f (g i)]) = some (.tup [nD i, f (g i)])
    rw [Int.zero_add]
  · rw [List.getElem?_eq_none (by omega), List.getElem?_eq_none (by rw [List.length_range]; omega)]
    rfl
end DL
set_option Elab.async false
set_option linter.all false
set_option maxRecDepth 100000
namespace K09
open DL PySem L2 PySem.Spec PyProof.Rows
abbrev F := Fin 26
def cp (a : F) : Nat := 97 + a.val
def sg (a : F) : D := .str [cp a]
def tx (t : List F) : D := .str (t.map cp)
def LET : List F := (List.range 26).map fun i => Fin.ofNat 26 i
theorem LET_len : LET.length = 26 := by decide
theorem LET_nd : LET.Nodup := by decide
theorem LET_mem : ∀ a : F, a ∈ LET := by decide
theorem LET_get : ∀ a : F, LET[a.val]? = some a := by decide
theorem LET_tx : d_LETTERS = tx LET := by kernel_rfl
theorem cp_inj {a b : F} (h : cp a = cp b) : a = b := by
  unfold cp at h
  exact Fin.ext (by omega)
theorem sg_keq (a b : F) : (sg a).keq (sg b) = decide (a = b) := by
  show ([cp a] == [cp b]) = _
  rw [Bool.eq_iff_iff, beq_iff_eq, decide_eq_true_eq]
  exact ⟨fun h => cp_inj (by injection h), fun h => by rw [h]⟩
theorem sg_eqb (a b : F) : (sg a).eqb (sg b) = decide (a = b) := sg_keq a b
theorem sg_key1 (a : F) : (sg a).key1 = true := rfl
theorem cp_lt (a : F) : cp a < 0x110000 := by
  have := a.isLt
  unfold cp
  omega
theorem tx_sh (t : List F) (n : Nat) : (tx t).sh n = true := by
  unfold tx D.sh
  rw [List.all_eq_true]
  intro c hc
  obtain ⟨a, _, rfl⟩ := List.mem_map.mp hc
  exact decide_eq_true (cp_lt a)
theorem sg_sh (a : F) (n : Nat) : (sg a).sh n = true := tx_sh [a] n
theorem sg_tks (a : F) : tks (sg a) = [.inr [cp a]] := rfl
theorem sg_inj : ∀ a b : F, tks (sg a) = tks (sg b) → a = b := fun a b h => by
  rw [sg_tks, sg_tks] at h
  injection h with h _
  injection h with h
  injection h with h _
  exact cp_inj h
theorem len_tx {t : List F} (h : t.length ≤ 16777216) {f : LE → R D} {r : LE} (hf : f r = .ok (tx t)) : callE lenX (acons f anil) r = .ok (nD t.length) := callE1_ok hf ((lenX_str (t.map cp) (by rw [List.length_map]; exact h)).trans (by rw [List.length_map]))
theorem sgs (t : List F) : ((t.map cp).map fun c => D.str [c]) = t.map sg := by
  rw [List.map_map]
  rfl
theorem itS_tx {f : LE → R D} {r : LE} {t : List F} (h : f r = .ok (tx t)) : itS f r = .ok (t.map sg) := by
  unfold itS
  rw [h]
  show R.ok ((t.map cp).map fun c => D.str [c]) = _
  rw [sgs]
theorem itB_tx {f : LE → R D} {r : LE} {t : List F} (h : f r = .ok (tx t)) : itB f r = .ok (t.map sg) := by
  unfold itB
  rw [h]
  show R.ok ((t.map cp).map fun c => D.str [c]) = _
  rw [sgs]
theorem in_tx (t : List F) (a : F) : inB (sg a) (tx t) = .ok (decide (a ∈ t)) := by
  show R.ok (decide (cp a ∈ t.map cp)) = _
  congr 1
  rw [decide_eq_decide, List.mem_map]
  exact ⟨fun ⟨b, hb, e⟩ => cp_inj e ▸ hb, fun h => ⟨a, h, rfl⟩⟩
theorem notIn_tx (t : List F) (a : F) : notInD (sg a) (tx t) = .ok (.bl (!decide (a ∈ t))) := by
  unfold notInD
  rw [in_tx]
  rfl
theorem at_tx {t : List F} {i : Nat} {a : F} (h : t[i]? = some a) (hl : t.length ≤ 16777216) : subI (tx t) (nD i) = .ok (sg a) := by
  show (if (t.map cp).length ≤ 16777216 then (match atI (t.map cp) ((i : Nat) : Int) with
    | some c => R.ok (D.str [c])
    | none => .stuck) else .stuck) = _
  rw [if_pos (by rw [List.length_map]; exact hl), atI_nat (d := cp a) (by rw [List.getElem?_map, h]; rfl)]
  rfl
theorem LET_at (a : F) : subI (tx LET) (nD a.val) = .ok (sg a) := at_tx (LET_get a) (by rw [LET_len]; decide)
theorem idx_tx {t : List F} {a : F} {i : Nat} (h : t.findIdx? (fun b => decide (b = a)) = some i) : sidxD (tx t) [sg a] = .ok (nD i) := by
  have e : (t.map cp).findIdx? (· == cp a) = some i := by
    rw [List.findIdx?_map, ← h]
    congr 1
    funext b
    show (cp b == cp a) = _
    rw [Bool.eq_iff_iff, beq_iff_eq, decide_eq_true_eq]
    exact ⟨cp_inj, fun e => by rw [e]⟩
  show (match (t.map cp).findIdx? (· == cp a) with
    | some i => R.ok (D.int i)
    | none => .stuck) = _
  rw [e]
theorem LET_find : ∀ a : F, LET.findIdx? (fun b => decide (b = a)) = some a.val := by decide
theorem LET_idx (a : F) : sidxD (tx LET) [sg a] = .ok (nD a.val) := idx_tx (LET_find a)
theorem idx_L {f k : LE → R D} {r : LE} {a : F} (h1 : f r = .ok (tx LET)) (h2 : k r = .ok (sg a)) : bmE "str" sidxD f (acons k anil) r = .ok (nD a.val) := bmE_ok (x := tx LET) (xs := [sg a]) h1 rfl (acons_ok h2 (xs := []) rfl) (LET_idx a)
theorem cst_L (r : LE) : cst d_LETTERS r = .ok (tx LET) := by
  rw [← LET_tx]
  rfl
theorem joinL_one (f : F → Nat) : ∀ l : List F, TL.joinL [] (l.map fun a => [f a]) = l.map f
  | [] => rfl
  | [a] => rfl
  | a :: b :: l => by
    show [f a] ++ ([] ++ TL.joinL [] ((b :: l).map fun a => [f a])) = _
    rw [joinL_one f (b :: l)]
    rfl
theorem join_sg {l : List F} (hl : l.length ≤ 1000) : joinD (.str []) [.lst (l.map sg)] = .ok (tx l) := by
  have e := joinD_map (a := []) (fun a : F => [cp a]) (l := l) (by
    have : ∀ l : List F, ((l.map fun a => [cp a]).map List.length).sum = l.length := fun l => by
      induction l with
      | nil => rfl
      | cons a l ih => rw [List.map_cons, List.map_cons, List.sum_cons, ih]; exact Nat.add_comm _ _
    rw [this]
    simp
    omega)
  rw [joinL_one] at e
  exact e
theorem joinE {f : LE → R (List D)} {r : LE} {l : List F} (h : f r = .ok (l.map sg)) (hl : l.length ≤ 1000) : bmE "str" joinD (cst (.str [])) (acons (lE f) anil) r = .ok (tx l) :=
  bmE_ok (x := .str []) (xs := [.lst (l.map sg)]) rfl rfl (acons_ok (lE_ok h) (xs := []) rfl) (join_sg hl)
theorem check_ok (t : List F) : D_check_text [tx t] = .ok .non := by
  refine runF_nx (r := [.val (tx t), .un]) rfl ?_
  show F_check_text [.val (tx t), .un] = _
  unfold F_check_text
  refine ifS_no (valT_ok (anyE_allM (x := true) (e := sg) (l := t) (itB_tx rfl) fun a ha => ⟨[.val (tx t), .val (sg a)], rfl, (opE_k (x := sg a) rfl (cst_L _) (notIn_tx LET a)).trans ?_⟩)) rfl
  rw [decide_eq_true (LET_mem a)]
theorem check_drop {t : List F} {f : LE → R D} {r : LE} (h : f r = .ok (tx t)) : dropS (callE D_check_text (acons f anil)) r = .ok (.nx r) := by
  unfold dropS
  rw [callE1_ok h (check_ok t)]
  rfl
structure IsKey (k : List F) : Prop where
  nd : k.Nodup
  all : ∀ a, a ∈ k
theorem IsKey.perm {k : List F} (h : IsKey k) : k.Perm LET := perm_of h.nd LET_nd fun a => ⟨fun _ => LET_mem a, fun _ => h.all a⟩
theorem IsKey.len {k : List F} (h : IsKey k) : k.length = 26 := by rw [h.perm.length_eq, LET_len]
def keyD (k : List F) : D := .ins 0 [tx k]
theorem fld_key {k : List F} {f : LE → R D} {r : LE} (h : f r = .ok (keyD k)) : fldE fx_letters f r = .ok (tx k) := fld_k h rfl
theorem LET_sort : isort (ltk sg) LET = LET := by kernel_rfl
theorem sorted_tx {t : List F} (h : t.length < 64) : sortedT [tx t] = .ok ((isort (ltk sg) t).map sg) := by
  have e : sortedX [tx t] = .ok ((isort (ltk sg) t).map sg) := by
    show (if (t.map cp).length < 64 then R.ok ((isort ltCps ((t.map cp).map fun c => [c])).map D.str) else .stuck) = _
    rw [if_pos (by rw [List.length_map]; exact h), List.map_map, show ((fun c => [c]) ∘ cp) = (fun a : F => [cp a]) from rfl, isort_map' (lt := ltk sg) (f := fun a : F => [cp a]) (fun a b => by
      unfold ltk
      exact (ltb_str _ _).symm), List.map_map]
    rfl
  exact e
theorem sorted_key {k : List F} (h : IsKey k) : sortedT [tx k] = .ok (LET.map sg) := by
  rw [sorted_tx (by rw [h.len]; decide), srt_uniq sg_inj h.perm, LET_sort]
theorem list_LET : listK [tx LET] = .ok (LET.map sg) := by
  show (if (LET.map cp).length ≤ 16777216 then R.ok ((LET.map cp).map fun c => D.str [c]) else .stuck) = _
  rw [if_pos (by rw [List.length_map, LET_len]; decide), sgs]
theorem sgs_sh (l : List F) : (D.lst (l.map sg)).sh 64 = true := shs_map (n := 63) fun a _ => sg_sh a 63
theorem init_ok {k : List F} (h : IsKey k) : D_Key_init [tx k] = .ok (keyD k) := by
  refine runI_nx (r := [.own (keyD k), .val (tx k)]) rfl ?_ rfl rfl
  let r0 : LE := [.own (.ins 0 []), .val (tx k)]
  show F_Key_init r0 = _
  unfold F_Key_init
  refine seqS_go (r' := r0) (ifS_no (cmpT_ok (lE_ok (callF1_k (x := tx k) rfl (sorted_key h))) (lE_ok (callF1_k (cst_L r0) list_LET)) (neD_self (sgs_sh LET))) rfl) rfl
def kf (k : List F) (a : F) : F := (k[a.val]?).getD 0
theorem kf_get {k : List F} (h : IsKey k) (a : F) : k[a.val]? = some (kf k a) := by
  unfold kf
  rw [List.getElem?_eq_getElem (by rw [h.len]; exact a.isLt)]
  rfl
theorem kf_sub {k : List F} (h : IsKey k) (a : F) : subI (tx k) (nD a.val) = .ok (sg (kf k a)) := at_tx (kf_get h a) (by rw [h.len]; decide)
theorem changed_ok {k : List F} (h : IsKey k) {t : List F} (ht : t.length ≤ 1000) : D_Key_changed [keyD k, tx t] = .ok (tx (t.map (kf k))) := by
  refine runF_rt rfl ?_
  let r0 : LE := [.val (keyD k), .val (tx t), .un]
  show F_Key_changed r0 = _
  unfold F_Key_changed
  refine seqS_go (r' := r0) (check_drop rfl) (retS_ok (joinE (l := t.map (kf k)) ?_ (by rw [List.length_map]; exact ht)))
  rw [List.map_map]
  exact compF_mapM (e := sg) (h := sg ∘ kf k) (l := t) (itB_tx rfl) (by omega) fun a ha => ⟨[.val (keyD k), .val (tx t), .val (sg a)], rfl, subE_k (x := tx k) (y := nD a.val) (fld_key rfl) (idx_L (cst_L _) rfl) (kf_sub h a)⟩
theorem kf_inj {k : List F} (h : IsKey k) {a b : F} (e : kf k a = kf k b) : a = b := by
  have h1 := kf_get h a
  have h2 := kf_get h b
  rw [e] at h1
  obtain ⟨i1, e1⟩ := List.getElem?_eq_some_iff.mp h1
  obtain ⟨i2, e2⟩ := List.getElem?_eq_some_iff.mp h2
  exact Fin.ext ((List.getElem_inj h.nd).mp (e1.trans e2.symm))
theorem LET_map (f : F → F) (i : Nat) (hi : i < 26) : (LET.map f)[i]? = some (f ⟨i, hi⟩) := by
  rw [List.getElem?_map, LET_get ⟨i, hi⟩]
  rfl
theorem kf_map {g : F → F} (a : F) : kf (LET.map g) a = g a := by
  unfold kf
  rw [LET_map g a.val a.isLt]
  rfl
theorem key_of {g : F → F} (hi : ∀ a b, g a = g b → a = b) (hs : ∀ b, ∃ a, g a = b) : IsKey (LET.map g) := ⟨List.Pairwise.map _ (fun a b hab e => hab (hi a b e)) LET_nd, fun b => by
  obtain ⟨a, rfl⟩ := hs b
  exact List.mem_map_of_mem (LET_mem a)⟩
theorem key_eq {k : List F} (h : IsKey k) : k = LET.map (kf k) := by
  refine List.ext_getElem? fun i => ?_
  by_cases hi : i < 26
  · rw [LET_map _ i hi, kf_get h ⟨i, hi⟩]
  · rw [List.getElem?_eq_none (by rw [h.len]; omega), List.getElem?_eq_none (by rw [List.length_map, LET_len]; omega)]
theorem kf_sur {k : List F} (h : IsKey k) (b : F) : ∃ a, kf k a = b := by
  obtain ⟨i, hi, e⟩ := List.getElem_of_mem (h.all b)
  rw [h.len] at hi
  refine ⟨⟨i, hi⟩, ?_⟩
  have := kf_get h ⟨i, hi⟩
  rw [List.getElem?_eq_getElem (by rw [h.len]; exact hi)] at this
  have := Option.some.inj this
  exact this.symm.trans e
/-- the way back -/
def bk (k : List F) (b : F) : F := ((k.findIdx? fun c => decide (c = b)).map fun i => Fin.ofNat 26 i).getD 0
theorem bk_idx {k : List F} (h : IsKey k) (b : F) : k.findIdx? (fun c => decide (c = b)) = some (bk k b).val ∧ kf k (bk k b) = b := by
  obtain ⟨a, rfl⟩ := kf_sur h b
  have e : k.findIdx? (fun c => decide (c = kf k a)) = some a.val := by
    rw [List.findIdx?_eq_some_iff_getElem]
    have hl : a.val < k.length := by rw [h.len]; exact a.isLt
    have hg := kf_get h a
    rw [List.getElem?_eq_getElem hl] at hg
    have hg := Option.some.inj hg
    refine ⟨hl, decide_eq_true hg, fun j hj => ?_⟩
    have hj2 : j < k.length := by omega
    intro hd
    have hd := of_decide_eq_true hd
    have := (List.getElem_inj (h₀ := hj2) (h₁ := hl) h.nd).mp (hd.trans hg.symm)
    omega
  have e2 : bk k (kf k a) = a := by
    unfold bk
    rw [e]
    show Fin.ofNat 26 a.val = a
    exact Fin.ext (Nat.mod_eq_of_lt a.isLt)
  rw [e2]
  exact ⟨e, rfl⟩
theorem kf_bk {k : List F} (h : IsKey k) (b : F) : kf k (bk k b) = b := (bk_idx h b).2
theorem bk_kf {k : List F} (h : IsKey k) (a : F) : bk k (kf k a) = a := kf_inj h (kf_bk h _)
def inv (k : List F) : List F := LET.map (bk k)
theorem inv_key {k : List F} (h : IsKey k) : IsKey (inv k) := key_of (fun a b e => by rw [← kf_bk h a, e, kf_bk h]) fun b => ⟨kf k b, bk_kf h b⟩
theorem undoer_ok {k : List F} (h : IsKey k) : D_Key_undoer [keyD k] = .ok (keyD (inv k)) := by
  refine runF_rt rfl ?_
  let r0 : LE := [.val (keyD k), .un]
  show F_Key_undoer r0 = _
  unfold F_Key_undoer
  refine retS_ok (callE1_ok (x := tx (inv k)) (joinE (l := inv k) ?_ (by rw [(inv_key h).len]; decide)) (init_ok (inv_key h)))
  unfold inv
  rw [List.map_map]
  exact compF_mapM (e := sg) (h := sg ∘ bk k) (l := LET) (itS_tx (cst_L _)) (by rw [LET_len]; decide) fun a ha => ⟨[.val (keyD k), .val (sg a)], rfl, subE_k (x := tx LET) (y := nD (bk k a).val) (cst_L _) (bmE_ok (x := tx k) (xs := [sg a]) (fld_key rfl) rfl rfl (idx_tx (bk_idx h a).1)) (LET_at _)⟩
/-- one behind the other -/
def beh (k2 k1 : List F) : List F := k1.map (kf k2)
theorem beh_eq {k1 k2 : List F} (h1 : IsKey k1) : beh k2 k1 = LET.map fun a => kf k2 (kf k1 a) := by
  unfold beh
  rw [key_eq h1, List.map_map]
  refine List.map_congr_left fun a _ => ?_
  show kf k2 (kf k1 a) = _
  rw [← key_eq h1]
theorem beh_key {k1 k2 : List F} (h1 : IsKey k1) (h2 : IsKey k2) : IsKey (beh k2 k1) := by
  rw [beh_eq h1]
  exact key_of (fun a b e => kf_inj h1 (kf_inj h2 e)) fun b => by
    obtain ⟨c, rfl⟩ := kf_sur h2 b
    obtain ⟨a, rfl⟩ := kf_sur h1 c
    exact ⟨a, rfl⟩
theorem beh_kf {k1 k2 : List F} (h1 : IsKey k1) (a : F) : kf (beh k2 k1) a = kf k2 (kf k1 a) := by rw [beh_eq h1, kf_map]
theorem behind_ok {k1 k2 : List F} (h1 : IsKey k1) (h2 : IsKey k2) : D_Key_behind [keyD k2, keyD k1] = .ok (keyD (beh k2 k1)) := by
  refine runF_rt rfl ?_
  let r0 : LE := [.val (keyD k2), .val (keyD k1)]
  show F_Key_behind r0 = _
  unfold F_Key_behind
  exact retS_ok (callE1_ok (x := tx (beh k2 k1)) (meth_ok (c := 0) (f := var 0) (fs := [tx k2]) rfl (acons_ok (x := tx k1) (fld_key rfl) (xs := []) rfl) (changed_ok h2 (by rw [h1.len]; decide))) (init_ok (beh_key h1 h2)))
theorem inv_beh {k : List F} (h : IsKey k) : beh (inv k) k = LET := by
  rw [beh_eq h]
  have e : (fun a => kf (inv k) (kf k a)) = id := by
    funext a
    unfold inv
    rw [kf_map, bk_kf h]
    rfl
  rw [e, List.map_id]
theorem kept_ok {k : List F} (h : IsKey k) : D_Key_kept [keyD k] = .ok (tx (LET.filter fun a => decide (kf k a = a))) := by
  refine runF_rt rfl ?_
  let r0 : LE := [.val (keyD k), .un]
  show F_Key_kept r0 = _
  unfold F_Key_kept
  refine retS_ok (joinE (l := LET.filter fun a => decide (kf k a = a)) ?_ ?_)
  · exact compF_fmM (e := sg) (h := sg) (p := fun a => decide (kf k a = a)) (l := LET) (itS_tx (cst_L _)) (by rw [LET_len]; decide) fun a ha => ⟨[.val (keyD k), .val (sg a)], rfl, cmpT_ok (x := sg (kf k a)) (y := sg a) (meth_ok (c := 0) (f := var 0) (fs := [tx k]) rfl (acons_ok (x := sg a) rfl (xs := []) rfl) (changed_ok h (t := [a]) (by simp))) rfl (by
      unfold eqD
      rw [sg_sh, sg_sh, if_pos (by rw [Bool.or_eq_true]; exact .inr rfl), sg_eqb]), fun _ => rfl⟩
  · have : (LET.filter fun a => decide (kf k a = a)).length ≤ LET.length := List.length_filter_le ..
    rw [LET_len] at this
    omega
theorem own_ok {k : List F} (h : IsKey k) : D_Key_is_own_undoer [keyD k] = .ok (.bl (decide (inv k = k))) := by
  refine runF_rt rfl ?_
  show F_Key_is_own_undoer [.val (keyD k)] = _
  unfold F_Key_is_own_undoer
  refine retS_ok (opE_k (x := tx (inv k)) (y := tx k) (fld_key (meth0_ok (c := 0) (fs := [tx k]) rfl (undoer_ok h))) (fld_key rfl) ?_)
  unfold eqD
  rw [tx_sh, tx_sh, if_pos (by rw [Bool.or_eq_true]; exact .inr rfl)]
  show R.ok (D.bl ((inv k).map cp == k.map cp)) = _
  congr 2
  rw [Bool.eq_iff_iff, beq_iff_eq, decide_eq_true_eq]
  exact ⟨fun e => (List.map_inj_right fun a b => cp_inj).mp e, fun e => by rw [e]⟩
def kow (w : List F) : List F := firsts (w ++ LET)
theorem kow_key (w : List F) : IsKey (kow w) := ⟨firsts_nodup _, fun a => firsts_mem.mpr (List.mem_append.mpr (.inr (LET_mem a)))⟩
theorem add_tx {a b : List F} (h : a.length + b.length ≤ 1000000) : addD (tx a) (tx b) = .ok (tx (a ++ b)) := by
  refine (addD_str (by rw [List.length_map, List.length_map]; exact h)).trans ?_
  unfold tx
  rw [List.map_append]
theorem iadd_tx {a b : List F} (h : a.length + b.length ≤ 1000000) : iaddD (tx a) (tx b) = .ok (tx (a ++ b)) := by
  show (if (a.map cp).length + (b.map cp).length ≤ 16777216 then R.ok (D.str (a.map cp ++ b.map cp)) else .stuck) = _
  rw [if_pos (by rw [List.length_map, List.length_map]; omega)]
  unfold tx
  rw [List.map_append]
theorem of_word_ok {w : List F} (hw : w.length ≤ 100) : D_key_of_word [tx w] = .ok (keyD (kow w)) := by
  refine runF_rt rfl ?_
  let r0 : LE := [.val (tx w), .un, .un]
  show F_key_of_word r0 = _
  unfold F_key_of_word
  refine seqS_go (r' := r0) (check_drop rfl) (seqS_go (r' := [.val (tx w), .val (tx []), .un]) rfl ?_)
  have hit : itB (opE addD (var 0) (cst d_LETTERS)) [.val (tx w), .val (tx []), .un] = .ok ((w ++ LET).map sg) := itB_tx (opE_k (x := tx w) rfl (cst_L _) (add_tx (by rw [LET_len]; omega)))
  have hwl : (w ++ LET).length ≤ 126 := by
    rw [List.length_append, LET_len]
    omega
  obtain ⟨r2, h2, c2, hI⟩ := loopS_pre (gd := gN 2) (body := ifS (cmpT notInD (var 2) (var 1)) (setK 1 (valK (opE iaddD (var 1) (var 2)))) skipS) (e := sg) (l0 := w ++ LET) (fun done r => ∃ c2, r = [.val (tx w), .val (tx (firsts done)), c2]) (l := w ++ LET) (done := []) (r := [.val (tx w), .val (tx []), .un]) rfl ⟨_, rfl⟩ (by
    rintro a done rest r hd ⟨c2, rfl⟩
    have hdl : done.length ≤ 126 := by
      rw [← hd, List.length_append] at hwl
      omega
    have hfl := firsts_len done
    let ra : LE := [.val (tx w), .val (tx (firsts done)), .val (sg a)]
    have hc : cmpT notInD (var 2) (var 1) ra = .ok (!decide (a ∈ firsts done)) := cmpT_ok (x := sg a) (y := tx (firsts done)) rfl rfl (notIn_tx _ _)
    rw [firsts_snoc]
    unfold adds
    by_cases hm : a ∈ firsts done
    · rw [if_pos hm]
      exact ⟨ra, ra, rfl, ifS_no (hc.trans (by rw [decide_eq_true hm]; rfl)) rfl, _, rfl⟩
    · rw [if_neg hm]
      exact ⟨ra, [.val (tx w), .val (tx (firsts done ++ [a])), .val (sg a)], rfl, ifS_yes (hc.trans (by rw [decide_eq_false hm]; rfl)) (setK_val (opE_k (x := tx (firsts done)) (y := tx [a]) rfl rfl (iadd_tx (by simp; omega)))), _, rfl⟩)
  subst hI
  exact seqS_go (forS_ok hit h2) (retS_ok (callE1_ok (x := tx (kow w)) rfl (init_ok (kow_key w))))
theorem in_sgs (t : List F) (a : F) : notInD (sg a) (.lst (t.map sg)) = .ok (.bl (!decide (a ∈ t))) := by
  have h : inB (sg a) (.lst (t.map sg)) = .ok (decide (a ∈ t)) := by
    show (if (sg a).sh 62 && D.shs (t.map sg) 62 then R.ok ((t.map sg).any fun z => z.eqb (sg a)) else .stuck) = _
    rw [sg_sh, shs_map fun a _ => sg_sh a 62, Bool.and_self, if_pos rfl]
    congr 1
    rw [Bool.eq_iff_iff]
    simp only [List.any_eq_true, List.mem_map, decide_eq_true_eq]
    constructor
    · rintro ⟨z, ⟨b, hb, rfl⟩, h⟩
      rw [sg_eqb, decide_eq_true_eq] at h
      exact h ▸ hb
    · intro hb
      exact ⟨_, ⟨a, hb, rfl⟩, by rw [sg_eqb]; exact decide_eq_true rfl⟩
  unfold notInD
  rw [h]
  rfl
theorem law_key_ok {w : List F} (hw : w.length ≤ 100) : D_law_key [tx w] = .ok (tx (kow w)) := by
  refine runF_rt rfl ?_
  let r0 : LE := [.val (tx w), .un, .un]
  show F_law_key r0 = _
  unfold F_law_key
  refine seqS_go (r' := [.val (tx w), .own (.lst []), .un]) rfl ?_
  have hit : itB (opE addD (var 0) (cst (.str [97, 98, 99, 100, 101, 102, 103, 104, 105, 106, 107, 108, 109, 110, 111, 112, 113, 114, 115, 116, 117, 118, 119, 120, 121, 122]))) [.val (tx w), .own (.lst []), .un] = .ok ((w ++ LET).map sg) := itB_tx (opE_k (x := tx w) rfl (cst_L _) (add_tx (by rw [LET_len]; omega)))
  have hwl : (w ++ LET).length ≤ 126 := by
    rw [List.length_append, LET_len]
    omega
  obtain ⟨r2, h2, c2, hI⟩ := loopS_pre (gd := gN 2) (body := ifS (cmpT notInD (var 2) (varP 1)) (appS 1 (var 2)) skipS) (e := sg) (l0 := w ++ LET) (fun done r => ∃ c2, r = [.val (tx w), .own (.lst ((firsts done).map sg)), c2]) (l := w ++ LET) (done := []) (r := [.val (tx w), .own (.lst []), .un]) rfl ⟨_, rfl⟩ (by
    rintro a done rest r hd ⟨c2, rfl⟩
    have hdl : done.length ≤ 126 := by
      rw [← hd, List.length_append] at hwl
      omega
    have hfl := firsts_len done
    let ra : LE := [.val (tx w), .own (.lst ((firsts done).map sg)), .val (sg a)]
    have hc : cmpT notInD (var 2) (varP 1) ra = .ok (!decide (a ∈ firsts done)) := cmpT_ok (x := sg a) (y := .lst ((firsts done).map sg)) rfl rfl (in_sgs _ _)
    rw [firsts_snoc]
    unfold adds
    by_cases hm : a ∈ firsts done
    · rw [if_pos hm]
      exact ⟨ra, ra, rfl, ifS_no (hc.trans (by rw [decide_eq_true hm]; rfl)) rfl, _, rfl⟩
    · rw [if_neg hm]
      refine ⟨ra, _, rfl, ifS_yes (hc.trans (by rw [decide_eq_false hm]; rfl)) (appS_own (ds := (firsts done).map sg) (d := sg a) rfl rfl (by rw [List.length_map]; omega)), .val (sg a), ?_⟩
      rw [List.map_append]
      rfl)
  subst hI
  have hkl := firsts_len (w ++ LET)
  exact seqS_go (forS_ok hit h2) (retS_ok (bmE_ok (x := .str []) (xs := [.lst ((kow w).map sg)]) rfl rfl rfl (join_sg (by unfold kow; omega))))
end K09
set_option Elab.async false
set_option linter.all false
set_option maxRecDepth 100000
namespace K09
open DL PySem L2 PySem.Spec PyProof.Rows
def memF (l : List F) (a : F) : Bool := l.any fun z => Nat.beq z.val a.val
theorem memF_iff {l : List F} {a : F} : memF l a = true ↔ a ∈ l := by
  unfold memF
  rw [List.any_eq_true]
  exact ⟨fun ⟨z, hz, e⟩ => by
    have := Fin.ext (Nat.eq_of_beq_eq_true e)
    exact this ▸ hz, fun h => ⟨a, h, Nat.beq_refl _⟩⟩
def ringGo (k : List F) : Nat → List F → List F → F → List F × List F
  | 0, seen, mine, _ => (seen, mine)
  | n + 1, seen, mine, here => if memF seen here = true then (seen, mine) else ringGo k n (seen ++ [here]) (mine ++ [here]) (kf k here)
def rstep (k : List F) (s : List F × List (List F)) (a : F) : List F × List (List F) := if memF s.1 a = true then s else ((ringGo k 100 s.1 [] a).1, s.2 ++ [(ringGo k 100 s.1 [] a).2])
def rnd (k : List F) : List (List F) := (LET.foldl (rstep k) ([], [])).2
def thome (R : List (List F)) : Nat := R.foldl (fun n ring => n * ring.length / Nat.gcd n ring.length) 1
def nodF : List F → Bool
  | [] => true
  | a :: l => !memF l a && nodF l
def primes : List Nat := [2, 3, 5, 7, 11, 13, 17, 19, 23]
def hd (l : List F) : F := l.headD 0
def nth (l : List F) (i : Nat) : F := (l[i]?).getD 0
def chkR (k : List F) (R : List (List F)) : Bool := nodF R.flatten && LET.all (memF R.flatten) && R.all (fun g => decide (1 ≤ g.length) && decide (g.length ≤ 26) && g.all fun a => decide ((hd g).val ≤ a.val))
  && R.all (fun g => (List.range g.length).all fun i => Nat.beq (kf k (nth g i)).val (nth g ((i + 1) % g.length)).val)
  && R.all (fun g => decide (thome R % g.length = 0)) && primes.all (fun p => !(decide (thome R % p = 0) && R.all fun g => decide (thome R / p % g.length = 0)))
  && ((LET.all fun a => Nat.beq (kf k (kf k a)).val a.val) == R.all fun g => decide (g.length < 3)) && decide (1 ≤ R.length) && decide (R.length ≤ 26) && decide (thome R < 1000000)
def chk (k : List F) : Bool := chkR k (rnd k)
def six : List F := [0, 1, 2, 23, 24, 25]
def arr : Nat → List (List F)
  | 0 => [[]]
  | n + 1 => (arr n).flatMap fun p => (six.filter fun a => !memF p a).map fun a => p ++ [a]
/-- a key made fast -/
def addF (acc : List F) (a : F) : List F := if memF acc a = true then acc else acc ++ [a]
def kowF (p : List F) : List F := LET.foldl addF p
theorem addF_eq (acc : List F) (a : F) : addF acc a = adds acc a := by
  unfold addF adds
  by_cases h : a ∈ acc
  · rw [if_pos (memF_iff.mpr h), if_pos h]
  · rw [if_neg (fun e => h (memF_iff.mp e)), if_neg h]
theorem kow_F (w : List F) : kow w = kowF (firsts w) := by
  unfold kow kowF firsts
  rw [List.foldl_append]
  have : ∀ (l acc : List F), l.foldl adds acc = l.foldl addF acc := fun l => by
    induction l with
    | nil => exact fun _ => rfl
    | cons a l ih => exact fun acc => by rw [List.foldl_cons, List.foldl_cons, addF_eq, ih]
  exact this LET _
theorem arr_mem : ∀ {n : Nat} {p : List F}, p.length = n → p.Nodup → (∀ a ∈ p, a ∈ six) → p ∈ arr n
  | 0, p, h, _, _ => by
    rw [List.length_eq_zero_iff.mp h]
    exact List.mem_singleton.mpr rfl
  | n + 1, p, h, hn, h6 => by
    rcases List.eq_nil_or_concat p with rfl | ⟨q, a, rfl⟩
    · cases h
    · rw [List.concat_eq_append] at h hn h6 ⊢
      rw [List.length_append, List.length_singleton] at h
      rw [List.nodup_append] at hn
      obtain ⟨n1, _, n3⟩ := hn
      refine List.mem_flatMap.mpr ⟨q, arr_mem (by omega) n1 fun b hb => h6 b (List.mem_append.mpr (.inl hb)), List.mem_map.mpr ⟨a, List.mem_filter.mpr ⟨h6 a (by simp), ?_⟩, rfl⟩⟩
      rw [Bool.not_eq_true']
      cases e : memF q a with
      | false => rfl
      | true => exact absurd rfl (n3 a (memF_iff.mp e) a (List.mem_singleton.mpr rfl))
theorem nodup_26 {l : List F} (h : l.Nodup) : l.length ≤ 26 := by
  have hp : (LET.filter fun a => decide (a ∈ l)).Perm l := perm_of (List.Pairwise.filter _ LET_nd) h fun a => by
    rw [List.mem_filter, decide_eq_true_eq]
    exact ⟨fun q => q.2, fun q => ⟨LET_mem a, q⟩⟩
  have h1 := List.length_filter_le (fun a => decide (a ∈ l)) LET
  rw [hp.length_eq, LET_len] at h1
  exact h1
def yes (_ : F) : D := .bl true
abbrev RS (k : List F) (seen : List F) (found : List (List F)) (c3 : Cell) (mine : List F) (here : F) : LE := [.val (keyD k), .own (.dic (dcQ sg yes seen)), .own (.lst (found.map tx)), c3, .val (tx mine), .val (sg here)]
theorem notIn_seen (seen : List F) (a : F) : notInD (sg a) (.dic (dcQ sg yes seen)) = .ok (.bl (!memF seen a)) := by
  have h : inB (sg a) (.dic (dcQ sg yes seen)) = .ok (memF seen a) := by
    show (if (sg a).key1 = true then R.ok (getD (dcQ sg yes seen) (sg a)).isSome else .stuck) = _
    rw [if_pos (sg_key1 a), getD_q, dcQ_get sg_keq]
    by_cases q : a ∈ seen
    · rw [if_pos q, memF_iff.mpr q]
      rfl
    · rw [if_neg q]
      cases e : memF seen a with
      | false => rfl
      | true => exact absurd (memF_iff.mp e) q
  unfold notInD
  rw [h]
  rfl
abbrev bodyR : LE → R Out := seqS (stodS 1 (cst (.bl true)) (var 5))
    (seqS (setK 4 (valK (opE iaddD (var 4) (var 5))))
    (setK 5 (valK (methE 0 D_Key_changed (var 0) (acons (var 5) anil)))))
theorem stodS_ok {i : Nat} {f k : LE → R D} {r : LE} {kvs : List (D × D)} {d y : D} (h : r[i]? = some (.own (.dic kvs))) (hf : f r = .ok d) (hk : k r = .ok y) (hy : y.key1 = true) (hl : kvs.length < 16777216) : stodS i f k r = .ok (.nx (r.set i (.own (.dic (putD kvs y d))))) := by
  unfold stodS
  rw [h]
  show (f r).onS r _ = _
  rw [hf, onS_ok, hk, onS_ok]
  exact if_pos ⟨hy, hl⟩
theorem body_ok {k : List F} (h : IsKey k) {seen : List F} (hs : seen.Nodup) {found : List (List F)} {c3 : Cell} {mine : List F} (hm : mine.length ≤ 1000) {here : F} (hn : here ∉ seen) : bodyR (RS k seen found c3 mine here) = .ok (.nx (RS k (seen ++ [here]) found c3 (mine ++ [here]) (kf k here))) := by
  have hl := nodup_26 hs
  refine seqS_go (r' := RS k (seen ++ [here]) found c3 mine here) ?_ (seqS_go (r' := RS k (seen ++ [here]) found c3 (mine ++ [here]) here) (setK_val (opE_k (x := tx mine) (y := tx [here]) rfl rfl (iadd_tx (by simp; omega)))) ?_)
  · refine (stodS_ok (kvs := dcQ sg yes seen) (d := .bl true) (y := sg here) rfl rfl rfl rfl (by unfold dcQ; rw [List.length_map]; omega)).trans ?_
    rw [putD_q, dcQ_put sg_keq (x' := yes) (v := .bl true) rfl fun _ _ _ => rfl]
    unfold adds
    rw [if_neg hn]
    rfl
  · exact setK_val (meth_ok (c := 0) (f := var 0) (fs := [tx k]) rfl (acons_ok (x := tx [here]) rfl (xs := []) rfl) (changed_ok h (t := [here]) (by simp)))
theorem ringGo_stop {k : List F} {n : Nat} {seen mine : List F} {here : F} (h : memF seen here = true) : ringGo k (n + 1) seen mine here = (seen, mine) := if_pos h
theorem ringGo_go {k : List F} {n : Nat} {seen mine : List F} {here : F} (h : memF seen here = false) : ringGo k (n + 1) seen mine here = ringGo k n (seen ++ [here]) (mine ++ [here]) (kf k here) := if_neg (by rw [h]; simp)
theorem nodup_snoc {seen : List F} {a : F} (h : seen.Nodup) (ha : memF seen a = false) : (seen ++ [a]).Nodup := by
  have hn : a ∉ seen := fun q => by rw [memF_iff.mpr q] at ha; cases ha
  exact List.nodup_append.mpr ⟨h, by simp, fun x hx y hy e => hn (by rw [List.mem_singleton.mp hy] at e; exact e ▸ hx)⟩
theorem ring_ok {k : List F} (h : IsKey k) {found : List (List F)} {c3 : Cell} : ∀ (n : Nat) {seen mine : List F} {here : F}, seen.Nodup → mine.length ≤ seen.length → 26 - seen.length < n →
    (∃ here', whileS n (cmpT notInD (var 5) (varP 1)) bodyR (RS k seen found c3 mine here) = .ok (.nx (RS k (ringGo k n seen mine here).1 found c3 (ringGo k n seen mine here).2 here'))) ∧ (ringGo k n seen mine here).1.Nodup
  | 0, _, _, _, _, _, hb => absurd hb (Nat.not_lt_zero _)
  | n + 1, seen, mine, here, hs, hm, hb => by
    have hl := nodup_26 hs
    have hc : cmpT notInD (var 5) (varP 1) (RS k seen found c3 mine here) = .ok (!memF seen here) := cmpT_ok (x := sg here) (y := .dic (dcQ sg yes seen)) rfl rfl (notIn_seen _ _)
    cases e : memF seen here with
    | true =>
      rw [ringGo_stop e]
      refine ⟨⟨here, ?_⟩, hs⟩
      unfold whileS
      rw [hc, onS_ok, e]
      rfl
    | false =>
      have hn : here ∉ seen := fun q => by rw [memF_iff.mpr q] at e; cases e
      have hs2 := nodup_snoc hs e
      have hl2 := nodup_26 hs2
      rw [List.length_append, List.length_singleton] at hl2
      obtain ⟨⟨h', h1⟩, h2⟩ := ring_ok h (found := found) (c3 := c3) n (seen := seen ++ [here]) (mine := mine ++ [here]) (here := kf k here) hs2 (by simp; omega) (by rw [List.length_append, List.length_singleton]; omega)
      rw [ringGo_go e]
      refine ⟨⟨h', ?_⟩, h2⟩
      unfold whileS
      rw [hc, onS_ok, e]
      show (bodyR (RS k seen found c3 mine here) >>= _) = _
      rw [body_ok h hs (by omega) hn]
      exact h1
theorem rounds_ok {k : List F} (h : IsKey k) : D_Key_rounds [keyD k] = .ok (.tup ((rnd k).map tx)) := by
  refine runF_rt rfl ?_
  let r0 : LE := [.val (keyD k), .un, .un, .un, .un, .un]
  show F_Key_rounds r0 = _
  unfold F_Key_rounds
  refine seqS_go (r' := [.val (keyD k), .own (.dic []), .own (.lst []), .un, .un, .un]) rfl ?_
  obtain ⟨r2, h2, c3, c4, c5, hI, _⟩ := loopS_pre (gd := gN 3) (body := ifS (cmpT notInD (var 3) (varP 1))
    (seqS (parK 4 5 (valK (cst (.str []))) (valK (var 3)))
    (seqS (whileS 100 (cmpT notInD (var 5) (varP 1)) bodyR)
    (appS 2 (var 4))))
    skipS) (e := sg) (l0 := LET)
    (fun done r => ∃ c3 c4 c5, r = [.val (keyD k), .own (.dic (dcQ sg yes (done.foldl (rstep k) ([], [])).1)), .own (.lst ((done.foldl (rstep k) ([], [])).2.map tx)), c3, c4, c5] ∧ (done.foldl (rstep k) ([], [])).1.Nodup ∧ (done.foldl (rstep k) ([], [])).2.length ≤ done.length) (l := LET) (done := [])
    (r := [.val (keyD k), .own (.dic []), .own (.lst []), .un, .un, .un]) rfl ⟨_, _, _, rfl, List.nodup_nil, Nat.le_refl _⟩ (by
      rintro a done rest r hd ⟨c3, c4, c5, rfl, hn, hf⟩
      have hdl : done.length ≤ 26 := by
        have := congrArg List.length hd
        rw [List.length_append, LET_len] at this
        omega
      rw [List.foldl_append]
      generalize done.foldl (rstep k) ([], []) = s at hn hf
      simp only [List.foldl_cons, List.foldl_nil]
      let ra : LE := [.val (keyD k), .own (.dic (dcQ sg yes s.1)), .own (.lst (s.2.map tx)), .val (sg a), c4, c5]
      have hc : cmpT notInD (var 3) (varP 1) ra = .ok (!memF s.1 a) := cmpT_ok (x := sg a) (y := .dic (dcQ sg yes s.1)) rfl rfl (notIn_seen _ _)
      unfold rstep
      cases e : memF s.1 a with
      | true =>
        rw [if_pos rfl]
        refine ⟨ra, ra, rfl, ifS_no (hc.trans (by rw [e]; rfl)) rfl, _, _, _, rfl, hn, ?_⟩
        rw [List.length_append]
        omega
      | false =>
        rw [if_neg (by simp)]
        have hl := nodup_26 hn
        obtain ⟨⟨h', q1⟩, q2⟩ := ring_ok h (found := s.2) (c3 := .val (sg a)) 100 (seen := s.1) (mine := []) (here := a) hn (Nat.zero_le _) (by omega)
        generalize ringGo k 100 s.1 [] a = g at q1 q2
        refine ⟨ra, [.val (keyD k), .own (.dic (dcQ sg yes g.1)), .own (.lst ((s.2 ++ [g.2]).map tx)), .val (sg a), .val (tx g.2), .val (sg h')], rfl, ifS_yes (hc.trans (by rw [e]; rfl)) (seqS_go (r' := RS k s.1 s.2 (.val (sg a)) [] a) rfl (seqS_go q1 ?_)), _, _, _, rfl, q2, by simp; omega⟩
        refine (appS_own (ds := s.2.map tx) (d := tx g.2) rfl rfl (by rw [List.length_map]; omega)).trans ?_
        rw [List.map_append]
        rfl)
  subst hI
  exact seqS_go (forS_ok (itS_tx (cst_L _)) h2) rfl
theorem mod_nat (a b : Nat) (h : 0 < b) : modD (nD a) (nD b) = .ok (nD (a % b)) := by
  show (if (0 : Int) < (b : Int) then R.ok (D.int ((a : Int) % (b : Int))) else .stuck) = _
  rw [if_pos (by omega)]
  rfl
theorem fdiv_nat (a b : Nat) (h : 0 < b) (h2 : b < 1073741824) : fdivD (nD a) (nD b) = .ok (nD (a / b)) := by
  show (if (0 : Int) < (b : Int) ∧ (b : Int) < 1073741824 then R.ok (D.int ((a : Int) / (b : Int))) else .stuck) = _
  rw [if_pos (by omega)]
  rfl
theorem gcd_loop (c0 c1 c2 : Cell) : ∀ (n a b : Nat), b < n → whileS n (cmpT neD (var 4) (cst (.int 0))) (parK 3 4 (valK (var 4)) (valK (opE modD (var 3) (var 4)))) [c0, c1, c2, .val (nD a), .val (nD b)] = .ok (.nx [c0, c1, c2, .val (nD (Nat.gcd a b)), .val (nD 0)])
  | 0, a, b, h => absurd h (Nat.not_lt_zero b)
  | n + 1, a, b, h => by
    have hc : cmpT neD (var 4) (cst (.int 0)) [c0, c1, c2, .val (nD a), .val (nD b)] = .ok (!decide (b = 0)) := cmpT_ok (x := nD b) (y := nD 0) rfl rfl (neD_nat _ _)
    unfold whileS
    rw [hc, onS_ok]
    by_cases hb : b = 0
    · subst hb
      rw [Nat.gcd_zero_right]
      rfl
    · rw [decide_eq_false hb]
      have hm : a % b < b := Nat.mod_lt _ (by omega)
      have hp : parK 3 4 (valK (var 4)) (valK (opE modD (var 3) (var 4))) [c0, c1, c2, .val (nD a), .val (nD b)] = .ok (.nx [c0, c1, c2, .val (nD b), .val (nD (a % b))]) :=
        parK_vv (x := nD b) (y := nD (a % b)) rfl (opE_k (x := nD a) (y := nD b) rfl rfl (mod_nat a b (by omega)))
      show (parK 3 4 (valK (var 4)) (valK (opE modD (var 3) (var 4))) [c0, c1, c2, .val (nD a), .val (nD b)] >>= _) = _
      rw [hp]
      refine (gcd_loop c0 c1 c2 n b (a % b) (by omega)).trans ?_
      rw [Nat.gcd_comm a b, Nat.gcd_rec b a, Nat.gcd_comm (a % b) b]
theorem mulS (n g : Nat) (h : g ≤ 1000) : mulD (nD n) (nD g) = .ok (nD (n * g)) := by
  unfold mulD
  dsimp only
  rw [if_pos (Or.inr ⟨by omega, by omega⟩)]
  congr 2
theorem times_ok {k : List F} (h : IsKey k) (hr : ∀ g ∈ rnd k, 1 ≤ g.length ∧ g.length ≤ 26) : D_Key_times_home [keyD k] = .ok (nD (thome (rnd k))) := by
  refine runF_rt rfl ?_
  let r0 : LE := [.val (keyD k), .un, .un, .un, .un]
  show F_Key_times_home r0 = _
  unfold F_Key_times_home
  refine seqS_go (r' := [.val (keyD k), .val (nD 1), .un, .un, .un]) rfl ?_
  have hit : itB (meth0E 0 D_Key_rounds (var 0)) [.val (keyD k), .val (nD 1), .un, .un, .un] = .ok ((rnd k).map tx) := itB_t (meth0_ok (c := 0) (fs := [tx k]) rfl (rounds_ok h))
  obtain ⟨r2, h2, c2, c3, c4, hI⟩ := loopS_pre (gd := gN 2) (body := seqS (parK 3 4 (valK (var 1)) (valK (callE lenX (acons (var 2) anil))))
    (seqS (whileS 100 (cmpT neD (var 4) (cst (.int 0)))
    (parK 3 4 (valK (var 4)) (valK (opE modD (var 3) (var 4)))))
    (setK 1 (valK (opE fdivD (opE mulD (var 1) (callE lenX (acons (var 2) anil))) (var 3)))))) (e := tx) (l0 := rnd k)
    (fun done r => ∃ c2 c3 c4, r = [.val (keyD k), .val (nD (thome done)), c2, c3, c4]) (l := rnd k) (done := []) (r := [.val (keyD k), .val (nD 1), .un, .un, .un]) (List.nil_append _) ⟨.un, .un, .un, congrArg (fun n => [Cell.val (keyD k), .val (nD n), .un, .un, .un]) (show 1 = thome [] from rfl)⟩ (by
      rintro g done rest r hd ⟨c2, c3, c4, rfl⟩
      obtain ⟨g1, g26⟩ := hr g (by rw [← hd]; simp)
      have e : thome (done ++ [g]) = thome done * g.length / Nat.gcd (thome done) g.length := by
        unfold thome
        rw [List.foldl_append]
        rfl
      rw [e]
      generalize thome done = n
      have hg0 : 0 < Nat.gcd n g.length := Nat.gcd_pos_of_pos_right _ (by omega)
      have hg2 : Nat.gcd n g.length ≤ 26 := Nat.le_trans (Nat.gcd_le_right _ (by omega)) g26
      let ra : LE := [.val (keyD k), .val (nD n), .val (tx g), c3, c4]
      let rc : LE := [.val (keyD k), .val (nD n), .val (tx g), .val (nD (Nat.gcd n g.length)), .val (nD 0)]
      have hlen : ∀ x : LE, var 2 x = .ok (tx g) → callE lenX (acons (var 2) anil) x = .ok (nD g.length) := fun x hx => len_tx (by omega) hx
      have hmul := mulS n g.length (by omega)
      let rb : LE := [.val (keyD k), .val (nD n), .val (tx g), .val (nD n), .val (nD g.length)]
      have s1 : parK 3 4 (valK (var 1)) (valK (callE lenX (acons (var 2) anil))) ra = .ok (.nx rb) := parK_vv (x := nD n) (y := nD g.length) rfl (hlen _ rfl)
      have s2 : whileS 100 (cmpT neD (var 4) (cst (.int 0))) (parK 3 4 (valK (var 4)) (valK (opE modD (var 3) (var 4)))) rb = .ok (.nx rc) := gcd_loop _ _ _ 100 n g.length (by omega)
      have s3 : opE fdivD (opE mulD (var 1) (callE lenX (acons (var 2) anil))) (var 3) rc = .ok (nD (n * g.length / Nat.gcd n g.length)) := opE_k (opE_k (x := nD n) rfl (hlen _ rfl) hmul) (y := nD (Nat.gcd n g.length)) rfl (fdiv_nat _ _ hg0 (by omega))
      exact ⟨ra, _, rfl, seqS_go s1 (seqS_go s2 (setK_val s3)), .val (tx g), .val (nD (Nat.gcd n g.length)), .val (nD 0), rfl⟩)
  rw [List.nil_append] at hI
  subst hI
  exact seqS_go (forS_ok hit h2) (retS_ok rfl)
end K09
set_option Elab.async false
set_option linter.all false
set_option maxRecDepth 100000
namespace K09
open DL PySem L2 PySem.Spec PyProof.Rows
def ringF (k : List F) : Nat → List F → List F → F → List F × List F
  | 0, s, m, _ => (s, m)
  | n + 1, s, m, h => bif memF s h then (s, m) else ringF k n (h :: s) (h :: m) (kf k h)
theorem ringF_s (k : List F) (n : Nat) (s m : List F) (h : F) : ringF k (n + 1) s m h = bif memF s h then (s, m) else ringF k n (h :: s) (h :: m) (kf k h) := rfl
theorem memF_rev (s : List F) (a : F) : memF s.reverse a = memF s a := by
  unfold memF
  exact List.any_reverse
theorem ringF_eq (k : List F) : ∀ (n : Nat) (s m : List F) (h : F), ringGo k n s.reverse m.reverse h = ((ringF k n s m h).1.reverse, (ringF k n s m h).2.reverse)
  | 0, s, m, h => rfl
  | n + 1, s, m, h => by
    cases e : memF s h with
    | true =>
      rw [ringGo_stop (by rw [memF_rev, e])]
      rw [ringF_s, e]
      rfl
    | false =>
      rw [ringGo_go (by rw [memF_rev, e])]
      have := ringF_eq k n (h :: s) (h :: m) (kf k h)
      rw [List.reverse_cons, List.reverse_cons] at this
      rw [this]
      rw [ringF_s, e]
      rfl
def stepF (k : List F) (s : List F × List (List F)) (a : F) : List F × List (List F) := bif memF s.1 a then s else ((ringF k 100 s.1 [] a).1, (ringF k 100 s.1 [] a).2.reverse :: s.2)
theorem stepF_eq (k : List F) (s : List F × List (List F)) (a : F) : rstep k (s.1.reverse, s.2.reverse) a = ((stepF k s a).1.reverse, (stepF k s a).2.reverse) := by
  unfold rstep stepF
  dsimp only
  rw [memF_rev]
  cases e : memF s.1 a with
  | true => rfl
  | false =>
    rw [if_neg (by simp)]
    have := ringF_eq k 100 s.1 [] a
    rw [List.reverse_nil] at this
    rw [this]
    show _ = ((ringF k 100 s.1 [] a).1.reverse, ((ringF k 100 s.1 [] a).2.reverse :: s.2).reverse)
    rw [List.reverse_cons]
theorem foldF_eq (k : List F) : ∀ (l : List F) (s : List F × List (List F)), l.foldl (rstep k) (s.1.reverse, s.2.reverse) = ((l.foldl (stepF k) s).1.reverse, (l.foldl (stepF k) s).2.reverse)
  | [], s => rfl
  | a :: l, s => by
    rw [List.foldl_cons, stepF_eq, foldF_eq k l, List.foldl_cons]
def rndF (k : List F) : List (List F) := (LET.foldl (stepF k) ([], [])).2.reverse
theorem rnd_F (k : List F) : rnd k = rndF k := by
  unfold rnd rndF
  have := foldF_eq k LET ([], [])
  rw [List.reverse_nil, List.reverse_nil] at this
  rw [this]
def addR (acc : List F) (a : F) : List F := bif memF acc a then acc else a :: acc
def kowR (p : List F) : List F := (LET.foldl addR p.reverse).reverse
theorem kow_R (p : List F) : kowF p = kowR p := by
  unfold kowF kowR
  have : ∀ (l acc : List F), l.foldl addF acc.reverse = (l.foldl addR acc).reverse := fun l => by
    induction l with
    | nil => exact fun _ => rfl
    | cons a l ih =>
      intro acc
      rw [List.foldl_cons, List.foldl_cons, ← ih]
      congr 1
      unfold addF addR
      rw [memF_rev]
      cases memF acc a with
      | true => rfl
      | false => rw [if_neg (by simp), cond_false, List.reverse_cons]
  have h := this LET p.reverse
  rw [List.reverse_reverse] at h
  exact h
def chkF (p : List F) : Bool := chkR (kowR p) (rndF (kowR p))
theorem chk_F (p : List F) : chk (kowF p) = chkF p := by
  unfold chk chkF
  rw [kow_R, rnd_F]
end K09
set_option Elab.async false
set_option linter.all false
set_option maxRecDepth 100000
namespace K09
open DL PySem L2 PySem.Spec PyProof.Rows
theorem kk_1_0 : (((arr 1).drop 0).take 6).all (fun p => chkF p) = true := by kernel_rfl
theorem kk_4_0 : (((arr 4).drop 0).take 60).all (fun p => chkF p) = true := by kernel_rfl
theorem kk_4_240 : (((arr 4).drop 240).take 60).all (fun p => chkF p) = true := by kernel_rfl
theorem kk_5_120 : (((arr 5).drop 120).take 60).all (fun p => chkF p) = true := by kernel_rfl
theorem kk_5_360 : (((arr 5).drop 360).take 60).all (fun p => chkF p) = true := by kernel_rfl
theorem kk_5_600 : (((arr 5).drop 600).take 60).all (fun p => chkF p) = true := by kernel_rfl
end K09
set_option Elab.async false
set_option linter.all false
set_option maxRecDepth 100000
namespace K09
open DL PySem L2 PySem.Spec PyProof.Rows
theorem kk_2_0 : (((arr 2).drop 0).take 30).all (fun p => chkF p) = true := by kernel_rfl
theorem kk_4_60 : (((arr 4).drop 60).take 60).all (fun p => chkF p) = true := by kernel_rfl
theorem kk_4_300 : (((arr 4).drop 300).take 60).all (fun p => chkF p) = true := by kernel_rfl
theorem kk_5_180 : (((arr 5).drop 180).take 60).all (fun p => chkF p) = true := by kernel_rfl
theorem kk_5_420 : (((arr 5).drop 420).take 60).all (fun p => chkF p) = true := by kernel_rfl
theorem kk_5_660 : (((arr 5).drop 660).take 60).all (fun p => chkF p) = true := by kernel_rfl
end K09
set_option Elab.async false
set_option linter.all false
set_option maxRecDepth 100000
namespace K09
open DL PySem L2 PySem.Spec PyProof.Rows
theorem kk_3_0 : (((arr 3).drop 0).take 60).all (fun p => chkF p) = true := by kernel_rfl
theorem kk_4_120 : (((arr 4).drop 120).take 60).all (fun p => chkF p) = true := by kernel_rfl
theorem kk_5_0 : (((arr 5).drop 0).take 60).all (fun p => chkF p) = true := by kernel_rfl
theorem kk_5_240 : (((arr 5).drop 240).take 60).all (fun p => chkF p) = true := by kernel_rfl
theorem kk_5_480 : (((arr 5).drop 480).take 60).all (fun p => chkF p) = true := by kernel_rfl
end K09
set_option Elab.async false
set_option linter.all false
set_option maxRecDepth 100000
namespace K09
open DL PySem L2 PySem.Spec PyProof.Rows
theorem kk_3_60 : (((arr 3).drop 60).take 60).all (fun p => chkF p) = true := by kernel_rfl
theorem kk_4_180 : (((arr 4).drop 180).take 60).all (fun p => chkF p) = true := by kernel_rfl
theorem kk_5_60 : (((arr 5).drop 60).take 60).all (fun p => chkF p) = true := by kernel_rfl
theorem kk_5_300 : (((arr 5).drop 300).take 60).all (fun p => chkF p) = true := by kernel_rfl
theorem kk_5_540 : (((arr 5).drop 540).take 60).all (fun p => chkF p) = true := by kernel_rfl
end K09
set_option Elab.async false
set_option linter.all false
set_option maxRecDepth 100000
namespace K09
open DL PySem L2 PySem.Spec PyProof.Rows
theorem all_parts {α : Type} {p : α → Bool} (m : Nat) : ∀ (c : Nat) (l : List α), l.length ≤ c * m → (∀ i, i < c → ((l.drop (i * m)).take m).all p = true) → l.all p = true
  | 0, l, hl, _ => by
    rw [Nat.zero_mul] at hl
    rw [List.length_eq_zero_iff.mp (Nat.le_zero.mp hl)]
    rfl
  | c + 1, l, hl, h => by
    have h0 := h 0 (by omega)
    rw [Nat.zero_mul, List.drop_zero] at h0
    have h1 := all_parts m c (l.drop m) (by
      rw [List.length_drop]
      have : (c + 1) * m = c * m + m := Nat.succ_mul c m
      omega) fun i hi => by
      have := h (i + 1) (by omega)
      rw [Nat.succ_mul] at this
      rw [List.drop_drop, Nat.add_comm m]
      exact this
    rw [← List.take_append_drop m l, List.all_append, h0, h1]
    rfl
theorem kp_1 : ∀ i, i < 1 → (((arr 1).drop (i * 6)).take 6).all (fun p => chkF p) = true := fun i hi => by
  match i, hi with
  | 0, _ => exact kk_1_0
theorem kp_2 : ∀ i, i < 1 → (((arr 2).drop (i * 30)).take 30).all (fun p => chkF p) = true := fun i hi => by
  match i, hi with
  | 0, _ => exact kk_2_0
theorem kp_3 : ∀ i, i < 2 → (((arr 3).drop (i * 60)).take 60).all (fun p => chkF p) = true := fun i hi => by
  match i, hi with
  | 0, _ => exact kk_3_0
  | 1, _ => exact kk_3_60
theorem kp_4 : ∀ i, i < 6 → (((arr 4).drop (i * 60)).take 60).all (fun p => chkF p) = true := fun i hi => by
  match i, hi with
  | 0, _ => exact kk_4_0
  | 1, _ => exact kk_4_60
  | 2, _ => exact kk_4_120
  | 3, _ => exact kk_4_180
  | 4, _ => exact kk_4_240
  | 5, _ => exact kk_4_300
theorem kp_5 : ∀ i, i < 12 → (((arr 5).drop (i * 60)).take 60).all (fun p => chkF p) = true := fun i hi => by
  match i, hi with
  | 0, _ => exact kk_5_0
  | 1, _ => exact kk_5_60
  | 2, _ => exact kk_5_120
  | 3, _ => exact kk_5_180
  | 4, _ => exact kk_5_240
  | 5, _ => exact kk_5_300
  | 6, _ => exact kk_5_360
  | 7, _ => exact kk_5_420
  | 8, _ => exact kk_5_480
  | 9, _ => exact kk_5_540
  | 10, _ => exact kk_5_600
  | 11, _ => exact kk_5_660
theorem key5 : ∀ n, 1 ≤ n → n ≤ 5 → (arr n).all (fun p => chkF p) = true := fun n h1 h5 => by
  match n, h1, h5 with
  | 1, _, _ => exact all_parts 6 1 (arr 1) (by decide +kernel) kp_1
  | 2, _, _ => exact all_parts 30 1 (arr 2) (by decide +kernel) kp_2
  | 3, _, _ => exact all_parts 60 2 (arr 3) (by decide +kernel) kp_3
  | 4, _, _ => exact all_parts 60 6 (arr 4) (by decide +kernel) kp_4
  | 5, _, _ => exact all_parts 60 12 (arr 5) (by decide +kernel) kp_5
structure WordOk (w : List F) : Prop where
  l1 : 1 ≤ w.length
  l5 : w.length ≤ 5
  six : ∀ a ∈ w, a ∈ six
theorem word_chk {w : List F} (h : WordOk w) : chkR (kow w) (rnd (kow w)) = true := by
  have h1 := firsts_len w
  have h5 := h.l5
  have hn : 1 ≤ (firsts w).length := by
    have := h.l1
    cases hw : w with
    | nil => rw [hw] at this; cases this
    | cons a t =>
      exact List.length_pos_of_mem (firsts_mem.mpr (List.mem_cons_self (a := a) (l := t)))
  have hm : firsts w ∈ arr (firsts w).length := arr_mem rfl (firsts_nodup w) fun a ha => h.six a (firsts_mem.mp ha)
  have := List.all_eq_true.mp (key5 _ hn (by omega)) _ hm
  rw [← chk_F, ← kow_F] at this
  exact this
/-- what the law asks of rounds -/
structure RndOk (k : List F) (R : List (List F)) : Prop where
  nd : R.flatten.Nodup
  all : ∀ a, a ∈ R.flatten
  len : ∀ g ∈ R, 1 ≤ g.length ∧ g.length ≤ 26
  low : ∀ g ∈ R, ∀ a ∈ g, (hd g).val ≤ a.val
  cyc : ∀ g ∈ R, ∀ i, i < g.length → kf k (nth g i) = nth g ((i + 1) % g.length)
  home : ∀ g ∈ R, thome R % g.length = 0
  least : ∀ p ∈ primes, ¬ (thome R % p = 0 ∧ ∀ g ∈ R, thome R / p % g.length = 0)
  own : (∀ a, kf k (kf k a) = a) ↔ ∀ g ∈ R, g.length < 3
  n1 : 1 ≤ R.length
  n26 : R.length ≤ 26
  tb : thome R < 1000000
theorem nodF_iff : ∀ {l : List F}, nodF l = true → l.Nodup
  | [], _ => List.nodup_nil
  | p :: l, h => by
    unfold nodF at h
    rw [Bool.and_eq_true, Bool.not_eq_true'] at h
    refine List.nodup_cons.mpr ⟨fun hm => ?_, nodF_iff h.2⟩
    rw [memF_iff.mpr hm] at h
    exact absurd h.1 (by decide)
theorem rnd_chk {k : List F} {R : List (List F)} (h : chkR k R = true) : RndOk k R := by
  unfold chkR at h
  simp only [Bool.and_eq_true] at h
  obtain ⟨⟨⟨⟨⟨⟨⟨⟨⟨c1, c2⟩, c3⟩, c4⟩, c5⟩, c6⟩, c7⟩, c8⟩, c9⟩, c10⟩ := h
  refine ⟨nodF_iff c1, fun a => memF_iff.mp (List.all_eq_true.mp c2 a (LET_mem a)), fun g hg => ?_, fun g hg a ha => ?_, fun g hg i hi => ?_, fun g hg => of_decide_eq_true (List.all_eq_true.mp c5 g hg), fun p hp q => ?_, ?_, of_decide_eq_true c8, of_decide_eq_true c9, of_decide_eq_true c10⟩
  · have := List.all_eq_true.mp c3 g hg
    simp only [Bool.and_eq_true, decide_eq_true_eq] at this
    exact this.1
  · have := List.all_eq_true.mp c3 g hg
    simp only [Bool.and_eq_true] at this
    exact of_decide_eq_true (List.all_eq_true.mp this.2 a ha)
  · exact Fin.ext (Nat.eq_of_beq_eq_true (List.all_eq_true.mp (List.all_eq_true.mp c4 g hg) i (List.mem_range.mpr hi)))
  · have := List.all_eq_true.mp c6 p hp
    have e : (R.all fun g => decide (thome R / p % g.length = 0)) = true := List.all_eq_true.mpr fun g hg => decide_eq_true (q.2 g hg)
    rw [e, decide_eq_true q.1] at this
    cases this
  · have e1 : (LET.all fun a => Nat.beq (kf k (kf k a)).val a.val) = true ↔ ∀ a, kf k (kf k a) = a := by
      rw [List.all_eq_true]
      exact ⟨fun q a => Fin.ext (Nat.eq_of_beq_eq_true (q a (LET_mem a))), fun q a _ => by rw [q a]; exact Nat.beq_refl _⟩
    have e2 : (R.all fun g => decide (g.length < 3)) = true ↔ ∀ g ∈ R, g.length < 3 := by
      rw [List.all_eq_true]
      exact ⟨fun q g hg => of_decide_eq_true (q g hg), fun q g hg => decide_eq_true (q g hg)⟩
    rw [← e1, ← e2, beq_iff_eq.mp c7]
theorem word_rnd {w : List F} (h : WordOk w) : RndOk (kow w) (rnd (kow w)) := rnd_chk (word_chk h)
end K09
set_option Elab.async false
set_option linter.all false
set_option maxRecDepth 100000
namespace K09
open DL PySem L2 PySem.Spec PyProof.Rows
def LW1 : LE → R Out := (asgS (tupE (acons (cst (.str [97, 98, 99, 100, 101, 102, 103, 104, 105, 106, 107, 108, 109, 110, 111, 112, 113, 114, 115, 116, 117, 118, 119, 120, 121, 122])) (acons (lE (lstE (acons (callE D_law_word (acons (var 1) (acons (cst (.int 5)) anil))) (acons (callE D_law_word (acons (var 1) (acons (cst (.int 5)) anil))) anil)))) anil))) (gTup_ 2 (gCons_ (gN 2) (gCons_ (gN 3) gNil_))))
def LW2 : LE → R Out := (asgS (tupE (acons (callE D_key_of_word (acons (subE (var 3) (cst (.int 0))) anil)) (acons (callE D_key_of_word (acons (subE (var 3) (cst (.int 1))) anil)) anil))) (gTup_ 2 (gCons_ (gN 4) (gCons_ (gN 5) gNil_))))
def LW3 : LE → R Out := (ifS (cmpT neD (fldE fx_letters (var 4)) (callE D_law_key (acons (subE (var 3) (cst (.int 0))) anil)))
    (retS (cst (.bl false)))
    skipS)
def LW4 : LE → R Out := (setK 6 (valK (bmE "str" joinD (cst (.str [])) (acons (lE (compF (rng1E (acons (callE rollD (acons (var 1) (acons (cst (.int 13)) anil))) anil)) (gN 7) yesT (subE (var 2) (callE rollD (acons (var 1) (acons (cst (.int 26)) anil)))) [7])) anil))))
def LW5 : LE → R Out := (setK 8 (valK (bmE "str" joinD (cst (.str [])) (acons (lE (compF (itS (var 6)) (gN 9) yesT (subE (fldE fx_letters (var 4)) (bmE "str" sidxD (var 2) (acons (var 9) anil))) [9])) anil))))
def LW6 : LE → R Out := (ifS (orT (cmpT neD (methE 0 D_Key_changed (var 4) (acons (var 6) anil)) (var 8)) (cmpT neD (methE 0 D_Key_changed (meth0E 0 D_Key_undoer (var 4)) (acons (var 8) anil)) (var 6)))
    (retS (cst (.bl false)))
    skipS)
def LW7 : LE → R Out := (ifS (orT (cmpT neD (methE 0 D_Key_changed (methE 0 D_Key_behind (var 5) (acons (var 4) anil)) (acons (var 6) anil)) (methE 0 D_Key_changed (var 5) (acons (var 8) anil))) (cmpT neD (fldE fx_letters (methE 0 D_Key_behind (meth0E 0 D_Key_undoer (var 4)) (acons (var 4) anil))) (var 2)))
    (retS (cst (.bl false)))
    skipS)
def LW8 : LE → R Out := (ifS (cmpT neD (meth0E 0 D_Key_kept (var 4)) (bmE "str" joinD (cst (.str [])) (acons (lE (compF (rng1E (acons (cst (.int 26)) anil)) (gN 7) (cmpT eqD (subE (fldE fx_letters (var 4)) (var 7)) (subE (var 2) (var 7))) (subE (var 2) (var 7)) [7])) anil)))
    (retS (cst (.bl false)))
    skipS)
def LW9 : LE → R Out := (setK 10 (valK (meth0E 0 D_Key_rounds (var 4))))
def LW10 : LE → R Out := (ifS (orT (cmpT neD (lE (callF sortedT (acons (bmE "str" joinD (cst (.str [])) (acons (var 10) anil)) anil))) (lE (callF listK (acons (var 2) anil)))) (cmpT neZ (lE (compF (itB (var 10)) (gN 11) (cmpT neD (subE (var 11) (cst (.int 0))) (callE minS (acons (var 11) anil))) (var 11) [11])) (lE (lstE anil))))
    (retS (cst (.bl false)))
    skipS)
def LW11 : LE → R Out := (forS (itB (var 10)) (gN 11)
    (ifS (cmpT neZ (lE (compF (rng1E (acons (callE lenX (acons (var 11) anil)) anil)) (gN 7) (cmpT neD (methE 0 D_Key_changed (var 4) (acons (subE (var 11) (var 7)) anil)) (subE (var 11) (opE modD (opE addD (var 7) (cst (.int 1))) (callE lenX (acons (var 11) anil))))) (var 7) [7])) (lE (lstE anil)))
    (retS (cst (.bl false)))
    skipS))
def LW12 : LE → R Out := (asgS (tupE (acons (meth0E 0 D_Key_times_home (var 4)) (acons (lE (compF (itB (var 10)) (gN 11) yesT (callE lenX (acons (var 11) anil)) [11])) anil))) (gTup_ 2 (gCons_ (gN 12) (gCons_ (gN 13) gNil_))))
def LW13 : LE → R Out := (ifS (orT (cmpT neZ (lE (compF (itB (var 13)) (gN 14) (cmpT neD (opE modD (var 12) (var 14)) (cst (.int 0))) (var 14) [14])) (lE (lstE anil))) (cmpT neZ (lE (compF (itB (lE (lstE (acons (cst (.int 2)) (acons (cst (.int 3)) (acons (cst (.int 5)) (acons (cst (.int 7)) (acons (cst (.int 11)) (acons (cst (.int 13)) (acons (cst (.int 17)) (acons (cst (.int 19)) (acons (cst (.int 23)) anil)))))))))))) (gN 7) (andT (cmpT eqD (opE modD (var 12) (var 7)) (cst (.int 0))) (cmpT eqZ (lE (compF (itB (var 13)) (gN 14) (cmpT neD (opE modD (opE fdivD (var 12) (var 7)) (var 14)) (cst (.int 0))) (var 14) [14])) (lE (lstE anil)))) (var 7) [7])) (lE (lstE anil))))
    (retS (cst (.bl false)))
    skipS)
def LW14 : LE → R Out := (ifS (cmpT neD (meth0E 0 D_Key_is_own_undoer (var 4)) (opE ltD (callE maxL (acons (var 13) anil)) (cst (.int 3))))
    (retS (cst (.bl false)))
    skipS)
def LW15 : LE → R Out := (ifS (notT (valT (callE D_law_rest1 (acons (var 1) (acons (var 2) (acons (var 3) (acons (var 4) (acons (var 6) (acons (var 8) anil)))))))))
    (retS (cst (.bl false)))
    skipS)
def LWs15 : LE → R Out := LW15
def LWs14 : LE → R Out := seqS LW14 LWs15
def LWs13 : LE → R Out := seqS LW13 LWs14
def LWs12 : LE → R Out := seqS LW12 LWs13
def LWs11 : LE → R Out := seqS LW11 LWs12
def LWs10 : LE → R Out := seqS LW10 LWs11
def LWs9 : LE → R Out := seqS LW9 LWs10
def LWs8 : LE → R Out := seqS LW8 LWs9
def LWs7 : LE → R Out := seqS LW7 LWs8
def LWs6 : LE → R Out := seqS LW6 LWs7
def LWs5 : LE → R Out := seqS LW5 LWs6
def LWs4 : LE → R Out := seqS LW4 LWs5
def LWs3 : LE → R Out := seqS LW3 LWs4
def LWs2 : LE → R Out := seqS LW2 LWs3
def LWs1 : LE → R Out := seqS LW1 LWs2
theorem F_law_split : F_law = LWs1 := rfl
def LR1 : LE → R Out := (setK 6 (valK (callE rollD (acons (var 0) (acons (cst (.int 60)) anil)))))
def LR2 : LE → R Out := (ifS (cmpT neD (methE 0 D_Key_changed (callE D_shift_key (acons (var 6) anil)) (acons (var 4) anil)) (bmE "str" joinD (cst (.str [])) (acons (lE (compF (itS (var 4)) (gN 7) yesT (subE (var 1) (opE modD (opE addD (bmE "str" sidxD (var 1) (acons (var 7) anil)) (var 6)) (cst (.int 26)))) [7])) anil)))
    (retS (cst (.bl false)))
    skipS)
def LR3 : LE → R Out := (setK 8 (valK (callE D_shifted_by (acons (var 4) (acons (subE (var 2) (cst (.int 0))) (acons (cst (.int 1)) anil))))))
def LR4 : LE → R Out := (ifS (cmpT neD (var 8) (bmE "str" joinD (cst (.str [])) (acons (lE (compF (rng1E (acons (callE lenX (acons (var 4) anil)) anil)) (gN 9) yesT (subE (var 1) (opE modD (opE addD (bmE "str" sidxD (var 1) (acons (subE (var 4) (var 9)) anil)) (bmE "str" sidxD (var 1) (acons (subE (subE (var 2) (cst (.int 0))) (opE modD (var 9) (callE lenX (acons (subE (var 2) (cst (.int 0))) anil)))) anil))) (cst (.int 26)))) [9])) anil)))
    (retS (cst (.bl false)))
    skipS)
def LR5 : LE → R Out := (ifS (cmpT neD (callE D_shifted_by (acons (var 8) (acons (subE (var 2) (cst (.int 0))) (acons (opE subD (cst (.int 0)) (cst (.int 1))) anil)))) (var 4))
    (retS (cst (.bl false)))
    skipS)
def LR6 : LE → R Out := (setK 10 (valK (opE addD (cst (.int 1)) (callE rollD (acons (var 0) (acons (cst (.int 4)) anil))))))
def LR7 : LE → R Out := (setK 11 (valK (callE D_law_moves (acons (var 0) (acons (var 10) anil)))))
def LR8 : LE → R Out := (setK 12 (valK (bmE "str" joinD (cst (.str [])) (acons (lE (compF (itB (var 11)) (gN 13) yesT (bmE "str" joinD (cst (.str [])) (acons (lE (compF (rng1E (acons (callE lenX (acons (var 4) anil)) anil)) (gN 9) (cmpT eqD (opE modD (var 9) (var 10)) (var 13)) (subE (var 4) (var 9)) [9])) anil)) [13])) anil))))
def LR9 : LE → R Out := (ifS (orT (cmpT neD (callE D_in_columns (acons (var 4) (acons (var 11) anil))) (var 12)) (cmpT neD (callE D_out_of_columns (acons (var 12) (acons (var 11) anil))) (var 4)))
    (retS (cst (.bl false)))
    skipS)
def LR10 : LE → R Out := (setK 14 (valK (callE D_keys_that_fit (acons (var 4) (acons (methE 0 D_Key_changed (callE D_shift_key (acons (var 6) anil)) (acons (var 4) anil)) (acons (cst (.int 26)) anil))))))
def LR11 : LE → R Out := (ifS (cmpT neD (lE (callF listK (acons (var 14) anil))) (iteE (cmpT neD (var 4) (cst (.str []))) (lE (lstE (acons (opE modD (var 6) (cst (.int 26))) anil))) (lE (lrg1E (cst (.int 26))))))
    (retS (cst (.bl false)))
    skipS)
def LR12 : LE → R Out := (setK 15 (valK (callE D_part_of_key (acons (var 4) (acons (var 5) anil)))))
def LR13 : LE → R Out := (ifS (cmpT neX (var 15) (callE dictD (acons (lE (compF (itB (lE (callF sortedT (acons (callE dictD (acons (lE (compF (itS (var 4)) (gN 7) yesT (tupE (acons (var 7) (acons (cst (.int 1)) anil))) [7])) anil)) anil)))) (gN 7) yesT (tupE (acons (var 7) (acons (methE 0 D_Key_changed (var 3) (acons (var 7) anil)) anil))) [7])) anil)))
    (retS (cst (.bl false)))
    skipS)
def LR14 : LE → R Out := (setK 16 (valK (callE D_word_of_shifts (acons (var 4) (acons (var 8) (acons (cst (.int 12)) anil))))))
def LR15 : LE → R Out := (ifS (orT (cmpT gtD (callE lenX (acons (var 16) anil)) (callE lenX (acons (subE (var 2) (cst (.int 0))) anil))) (cmpT neD (callE D_shifted_by (acons (var 4) (acons (var 16) (acons (cst (.int 1)) anil)))) (var 8)))
    (retS (cst (.bl false)))
    skipS)
def LR16 : LE → R Out := (ifS (cmpT neD (callE D_alike_places (acons (var 4) anil)) (callE sumT (acons (lE (compF (itS (var 1)) (gN 7) yesT (opE fdivD (opE mulD (bmE "str" countD (var 4) (acons (var 7) anil)) (opE subD (bmE "str" countD (var 4) (acons (var 7) anil)) (cst (.int 1)))) (cst (.int 2))) [7])) anil)))
    (retS (cst (.bl false)))
    skipS)
def LR17 : LE → R Out := (ifS (notT (valT (fun _ => D_law_cases1 [])))
    (retS (cst (.bl false)))
    skipS)
def LR18 : LE → R Out := (ifS (cmpT neD (toldE toldL (methE 0 D_Key_changed (var 3) (acons (cst (.str [65])) anil))) (cst (.str [98, 111, 111, 107])))
    (retS (cst (.bl false)))
    skipS)
def LR19 : LE → R Out := (retS (cst (.bl true)))
def LRs19 : LE → R Out := LR19
def LRs18 : LE → R Out := seqS LR18 LRs19
def LRs17 : LE → R Out := seqS LR17 LRs18
def LRs16 : LE → R Out := seqS LR16 LRs17
def LRs15 : LE → R Out := seqS LR15 LRs16
def LRs14 : LE → R Out := seqS LR14 LRs15
def LRs13 : LE → R Out := seqS LR13 LRs14
def LRs12 : LE → R Out := seqS LR12 LRs13
def LRs11 : LE → R Out := seqS LR11 LRs12
def LRs10 : LE → R Out := seqS LR10 LRs11
def LRs9 : LE → R Out := seqS LR9 LRs10
def LRs8 : LE → R Out := seqS LR8 LRs9
def LRs7 : LE → R Out := seqS LR7 LRs8
def LRs6 : LE → R Out := seqS LR6 LRs7
def LRs5 : LE → R Out := seqS LR5 LRs6
def LRs4 : LE → R Out := seqS LR4 LRs5
def LRs3 : LE → R Out := seqS LR3 LRs4
def LRs2 : LE → R Out := seqS LR2 LRs3
def LRs1 : LE → R Out := seqS LR1 LRs2
theorem F_law_rest1_split : F_law_rest1 = LRs1 := rfl
end K09
set_option Elab.async false
set_option linter.all false
set_option maxRecDepth 100000
namespace K09
open DL PySem L2 PySem.Spec PyProof.Rows
theorem bm_wr {T : String} {gg : D → List D → R D} {f : LE → R D} {fs : LE → R (List D)} {r : LE} {x : D} {P : List D → Prop} {Q : D → Prop} (h1 : f r = .ok x) (h0 : isT T x = .ok x) (h2 : Wr (fs r) P) (h3 : ∀ ds, P ds → Wr (gg x ds) Q) : Wr (bmE T gg f fs r) Q := by
  rw [bmE_eq, h1, R.ok_bind, h0, R.ok_bind]
  exact Wr.bindS (h2.mono h3)
theorem acons1_wr {f : LE → R D} {r : LE} {P : D → Prop} (h : Wr (f r) P) : Wr (acons f anil r) (fun ds => ∃ d, ds = [d] ∧ P d) := by
  rw [acons_eq]
  exact Wr.bindS (h.mono fun d hd => Wr.ok ⟨d, rfl, hd⟩)
/-- letters drawn and joined -/
theorem join_wr {f : LE → R (List D)} {r : LE} {P : List F → Prop} (h : Wr (f r) (fun ys => ∃ l : List F, P l ∧ l.length ≤ 1000 ∧ ys = l.map sg)) : Wr (bmE "str" joinD (cst (.str [])) (acons (lE f) anil) r) (fun d => ∃ l, P l ∧ d = tx l) :=
  bm_wr (x := .str []) rfl rfl (acons1_wr (lE_wr h)) fun ds ⟨d, e1, ys, e2, l, hl, hn, e3⟩ => by
    subst e1 e2 e3
    exact Wr.eq (join_sg hn) ⟨l, hl, rfl⟩
theorem abc_at : ∀ i : Nat, i < 6 → ∃ a ∈ six, subI (.str [97, 98, 99, 120, 121, 122]) (nD i) = .ok (sg a) := fun i hi => by
  match i, hi with
  | 0, _ => exact ⟨0, by decide, by kernel_rfl⟩
  | 1, _ => exact ⟨1, by decide, by kernel_rfl⟩
  | 2, _ => exact ⟨2, by decide, by kernel_rfl⟩
  | 3, _ => exact ⟨23, by decide, by kernel_rfl⟩
  | 4, _ => exact ⟨24, by decide, by kernel_rfl⟩
  | 5, _ => exact ⟨25, by decide, by kernel_rfl⟩
theorem word_wr : Wr (D_law_word [.dice, nD 5]) (fun d => ∃ w, WordOk w ∧ d = tx w) := by
  refine runF_wr rfl ?_
  let r0 : LE := [.val .dice, .val (nD 5), .un]
  show Wr (F_law_word r0) _
  unfold F_law_word
  have hc : Wr (compF (rng1E (acons (opE addD (cst (.int 1)) (callE rollD (acons (var 0) (acons (var 1) anil)))) anil)) (gN 2) yesT (subE (cst (.str [97, 98, 99, 120, 121, 122])) (callE rollD (acons (var 0) (acons (cst (.int 6)) anil)))) [2] r0) (fun ys => (1 ≤ ys.length ∧ ys.length ≤ 5) ∧ ∀ y ∈ ys, ∃ a, a ∈ six ∧ y = sg a) := by
    refine compF_wrS (N := fun m => 1 ≤ m ∧ m ≤ 5) (rng1_wr (P := fun m => 1 ≤ m ∧ m ≤ 5) ?_) fun d => ⟨[.val .dice, .val (nD 5), .val d], rfl, subS_wr (x := .str [97, 98, 99, 120, 121, 122]) rfl (rollS (n := 6) rfl rfl (by omega) (by omega)) fun y ⟨i, hi, e⟩ => ?_⟩
    · refine opS_wr (x := nD 1) rfl (rollS (n := 5) rfl rfl (by omega) (by omega)) fun y ⟨i, hi, e⟩ => ?_
      subst e
      exact Wr.eq (addD_nat 1 i) ⟨1 + i, ⟨by omega, by omega⟩, by omega, rfl⟩
    · subst e
      obtain ⟨a, ha, e⟩ := abc_at i hi
      exact Wr.eq e ⟨a, ha, rfl⟩
  refine (retS_wr (join_wr (P := WordOk) (hc.mono fun ys ⟨⟨h1, h5⟩, q⟩ => ?_))).mono fun o ⟨d, e, l, hl, e2⟩ => ⟨d, e, l, hl, e2⟩
  obtain ⟨l, hl, el⟩ := map_of_all (e := sg) (P := fun a => a ∈ six) q
  subst el
  rw [List.length_map] at h1 h5
  exact ⟨l, ⟨h1, h5, hl⟩, by omega, rfl⟩
abbrev wsD (w1 w2 : List F) : D := .lst [tx w1, tx w2]
abbrev S1 (w1 w2 : List F) (f : Nat → Cell) : LE := [.un, .val .dice, .val (tx LET), .val (wsD w1 w2), f 4, f 5, f 6, f 7, f 8, f 9, f 10, f 11, f 12, f 13, f 14]
abbrev ST (w1 w2 : List F) (f : Nat → Cell) : LE := [.un, .val .dice, .val (tx LET), .val (wsD w1 w2), .val (keyD (kow w1)), .val (keyD (kow w2)), f 6, f 7, f 8, f 9, f 10, f 11, f 12, f 13, f 14]
theorem lw1 : Wr (LW1 (r0 15)) (fun o => ∃ r2, o = .nx r2 ∧ ∃ w1 w2, WordOk w1 ∧ WordOk w2 ∧ r2 = S1 w1 w2 fun _ => .un) := by
  unfold LW1
  have hw : Wr (callE D_law_word (acons (var 1) (acons (cst (.int 5)) anil)) (r0 15)) (fun d => ∃ w, WordOk w ∧ d = tx w) := callE_wr (xs := [.dice, nD 5]) rfl word_wr
  have hl : Wr (lE (lstE (acons (callE D_law_word (acons (var 1) (acons (cst (.int 5)) anil))) (acons (callE D_law_word (acons (var 1) (acons (cst (.int 5)) anil))) anil))) (r0 15)) (fun d => ∃ w1 w2, WordOk w1 ∧ WordOk w2 ∧ d = wsD w1 w2) := by
    have ha := aconsS_wr hw (acons1_wr hw)
    refine (lE_wr (f := lstE _) (Q := fun ys => ∃ w1 w2, WordOk w1 ∧ WordOk w2 ∧ ys = [tx w1, tx w2]) ?_).mono fun d ⟨ys, e, w1, w2, h1, h2, e2⟩ => ⟨w1, w2, h1, h2, by rw [e, e2]⟩
    rw [lstE_eq]
    refine Wr.bindS (ha.mono ?_)
    rintro xs ⟨x, ys, rfl, ⟨w1, h1, rfl⟩, ⟨d, rfl, w2, h2, rfl⟩⟩
    rw [if_pos (by simp)]
    exact Wr.ok ⟨w1, w2, h1, h2, rfl⟩
  refine asgS_wr (tup2_wr (f := cst (.str [97, 98, 99, 100, 101, 102, 103, 104, 105, 106, 107, 108, 109, 110, 111, 112, 113, 114, 115, 116, 117, 118, 119, 120, 121, 122])) (P := fun d => d = tx LET) (Wr.eq (cst_L _) rfl) hl) ?_
  rintro d ⟨x, y, rfl, rfl, w1, w2, h1, h2, rfl⟩
  exact ⟨_, rfl, w1, w2, h1, h2, rfl⟩
variable {w1 w2 t : List F}
theorem word0 {f : LE → R D} {r : LE} (h : f r = .ok (wsD w1 w2)) : subE f (cst (.int 0)) r = .ok (tx w1) := subE_k h (y := nD 0) rfl (subI_lst rfl)
theorem word1 {f : LE → R D} {r : LE} (h : f r = .ok (wsD w1 w2)) : subE f (cst (.int 1)) r = .ok (tx w2) := subE_k h (y := nD 1) rfl (subI_lst rfl)
theorem lw2 (W1 : WordOk w1) (W2 : WordOk w2) (f : Nat → Cell) : LW2 (S1 w1 w2 f) = .ok (.nx (ST w1 w2 f)) := by
  have h1 := W1.l5
  have h2 := W2.l5
  exact (asgS_ok (d := .tup [keyD (kow w1), keyD (kow w2)]) (tupE_ok (acons_ok (callE1_ok (word0 rfl) (of_word_ok (by omega))) (acons_ok (callE1_ok (word1 rfl) (of_word_ok (by omega))) (xs := []) rfl)) (by simp)) rfl).trans rfl
theorem lw3 (W1 : WordOk w1) (f : Nat → Cell) : LW3 (ST w1 w2 f) = .ok (.nx (ST w1 w2 f)) := by
  have h1 := W1.l5
  exact ifS_no (cmpT_ok (x := tx (kow w1)) (fld_key rfl) (callE1_ok (word0 rfl) (law_key_ok (by omega))) (neD_self (tx_sh _ _))) rfl
theorem lw4 (f : Nat → Cell) : Wr (LW4 (ST w1 w2 f)) (fun o => ∃ r2, o = .nx r2 ∧ ∃ t : List F, t.length ≤ 12 ∧ r2 = ST w1 w2 (up f 6 (.val (tx t)))) := by
  unfold LW4
  have hc : Wr (compF (rng1E (acons (callE rollD (acons (var 1) (acons (cst (.int 13)) anil))) anil)) (gN 7) yesT (subE (var 2) (callE rollD (acons (var 1) (acons (cst (.int 26)) anil)))) [7] (ST w1 w2 f)) (fun ys => ys.length ≤ 12 ∧ ∀ y ∈ ys, ∃ a : F, True ∧ y = sg a) := by
    refine compF_wrS (N := fun m => m ≤ 12) (rng1_wr (P := fun m => m ≤ 12) ((rollS (n := 13) rfl rfl (by omega) (by omega)).mono fun d ⟨i, hi, e⟩ => ⟨i, by omega, by omega, e⟩)) fun d => ⟨ST w1 w2 (up f 7 (.val d)), rfl, subS_wr (x := tx LET) rfl (rollS (n := 26) rfl rfl (by omega) (by omega)) fun y ⟨i, hi, e⟩ => ?_⟩
    subst e
    exact Wr.eq (LET_at ⟨i, hi⟩) ⟨_, trivial, rfl⟩
  refine (setK_wr (join_wr (P := fun l => l.length ≤ 12) (hc.mono fun ys ⟨h5, q⟩ => ?_))).mono fun o ⟨r2, e, d, ⟨l, hl, e2⟩, e3⟩ => ⟨r2, e, l, hl, ?_⟩
  · obtain ⟨l, hl, el⟩ := map_of_all (e := sg) (P := fun _ => True) q
    subst el
    rw [List.length_map] at h5
    exact ⟨l, h5, by omega, rfl⟩
  · subst e2 e3
    rfl
abbrev sent (w1 t : List F) : List F := t.map (kf (kow w1))
theorem lw5 (ht : t.length ≤ 12) (f : Nat → Cell) (h6 : f 6 = .val (tx t)) : LW5 (ST w1 w2 f) = .ok (.nx (ST w1 w2 (up f 8 (.val (tx (sent w1 t)))))) := by
  unfold LW5
  refine (setK_val (joinE (l := sent w1 t) ?_ (by rw [List.length_map]; omega))).trans rfl
  unfold sent
  rw [List.map_map]
  exact compF_mapM (e := sg) (h := sg ∘ kf (kow w1)) (l := t) (itS_tx (var_k (congrArg some h6))) (by omega) fun a ha => ⟨ST w1 w2 (up f 9 (.val (sg a))), rfl, subE_k (x := tx (kow w1)) (y := nD a.val) (fld_key rfl) (idx_L rfl rfl) (kf_sub (kow_key w1) a)⟩
theorem chg {k : List F} (hk : IsKey k) {u : List F} (hu : u.length ≤ 1000) {f g : LE → R D} {r : LE} (h1 : f r = .ok (keyD k)) (h2 : g r = .ok (tx u)) : methE 0 D_Key_changed f (acons g anil) r = .ok (tx (u.map (kf k))) :=
  meth_ok (c := 0) (fs := [tx k]) h1 (acons_ok h2 (xs := []) rfl) (changed_ok hk hu)
theorem undo {k : List F} (hk : IsKey k) {f : LE → R D} {r : LE} (h : f r = .ok (keyD k)) : meth0E 0 D_Key_undoer f r = .ok (keyD (inv k)) := meth0_ok (c := 0) (fs := [tx k]) h (undoer_ok hk)
theorem inv_kf {k : List F} (h : IsKey k) (a : F) : kf (inv k) (kf k a) = a := by
  unfold inv
  rw [kf_map, bk_kf h]
theorem lw6 (ht : t.length ≤ 12) (f : Nat → Cell) (h6 : f 6 = .val (tx t)) (h8 : f 8 = .val (tx (sent w1 t))) : LW6 (ST w1 w2 f) = .ok (.nx (ST w1 w2 f)) := by
  have hk := kow_key w1
  have e : (sent w1 t).map (kf (inv (kow w1))) = t := by
    unfold sent
    rw [List.map_map]
    have : (kf (inv (kow w1)) ∘ kf (kow w1)) = id := by
      funext a
      exact inv_kf hk a
    rw [this, List.map_id]
  refine ifS_no (orT_ff (cmpT_ok (chg hk (by omega) rfl (var_k (congrArg some h6))) (var_k (congrArg some h8)) (neD_self (tx_sh _ _))) (cmpT_ok (x := tx t) ?_ (var_k (congrArg some h6)) (neD_self (tx_sh _ _)))) rfl
  have := chg (inv_key hk) (u := sent w1 t) (by rw [List.length_map]; omega) (f := meth0E 0 D_Key_undoer (var 4)) (g := var 8) (r := ST w1 w2 f) (undo hk rfl) (var_k (congrArg some h8))
  rw [e] at this
  exact this
theorem lw7 (ht : t.length ≤ 12) (f : Nat → Cell) (h6 : f 6 = .val (tx t)) (h8 : f 8 = .val (tx (sent w1 t))) : LW7 (ST w1 w2 f) = .ok (.nx (ST w1 w2 f)) := by
  have k1 := kow_key w1
  have k2 := kow_key w2
  have hb : methE 0 D_Key_behind (var 5) (acons (var 4) anil) (ST w1 w2 f) = .ok (keyD (beh (kow w2) (kow w1))) := meth_ok (c := 0) (fs := [tx (kow w2)]) rfl (acons_ok (x := keyD (kow w1)) rfl (xs := []) rfl) (behind_ok k1 k2)
  have hi : methE 0 D_Key_behind (meth0E 0 D_Key_undoer (var 4)) (acons (var 4) anil) (ST w1 w2 f) = .ok (keyD LET) := by
    rw [← inv_beh k1]
    exact meth_ok (c := 0) (fs := [tx (inv (kow w1))]) (undo k1 rfl) (acons_ok (x := keyD (kow w1)) rfl (xs := []) rfl) (behind_ok k1 (inv_key k1))
  have e : t.map (kf (beh (kow w2) (kow w1))) = (sent w1 t).map (kf (kow w2)) := by
    unfold sent
    rw [List.map_map]
    exact List.map_congr_left fun a _ => beh_kf k1 a
  refine ifS_no (orT_ff (cmpT_ok (chg (beh_key k1 k2) (by omega) hb (var_k (congrArg some h6))) (chg k2 (by rw [List.length_map]; omega) rfl (var_k (congrArg some h8))) ?_) (cmpT_ok (fld_key hi) (y := tx LET) rfl (neD_self (tx_sh _ _)))) rfl
  rw [e]
  exact neD_self (tx_sh _ _)
theorem eqD_sg (a b : F) : eqD (sg a) (sg b) = .ok (.bl (decide (a = b))) := by
  unfold eqD
  rw [sg_sh, sg_sh, if_pos (by rw [Bool.or_eq_true]; exact .inr rfl), sg_eqb]
theorem neD_sg (a b : F) : neD (sg a) (sg b) = .ok (.bl (!decide (a = b))) := by
  unfold neD
  rw [sg_sh, sg_sh, if_pos (by rw [Bool.or_eq_true]; exact .inr rfl), sg_eqb]
theorem rng26 (g : F → Bool) : ((List.range 26).filter fun i => g (Fin.ofNat 26 i)).map (fun i => sg (Fin.ofNat 26 i)) = (LET.filter g).map sg := by
  unfold LET
  rw [List.filter_map, List.map_map]
  rfl
theorem ofNat_val {i : Nat} (h : i < 26) : (Fin.ofNat 26 i).val = i := Nat.mod_eq_of_lt h
theorem lw8 (f : Nat → Cell) : LW8 (ST w1 w2 f) = .ok (.nx (ST w1 w2 f)) := by
  have hk := kow_key w1
  let X := LET.filter fun a => decide (kf (kow w1) a = a)
  have hX : X.length ≤ 26 := by
    have : X.length ≤ LET.length := List.length_filter_le ..
    rw [LET_len] at this
    exact this
  refine ifS_no (cmpT_ok (x := tx X) (y := tx X) (meth0_ok (c := 0) (fs := [tx (kow w1)]) rfl (kept_ok hk)) (joinE (l := X) ?_ (by omega)) (neD_self (tx_sh _ _))) rfl
  have := compF_fmM (fi := rng1E (acons (cst (.int 26)) anil)) (gd := gN 7) (tt := cmpT eqD (subE (fldE fx_letters (var 4)) (var 7)) (subE (var 2) (var 7))) (te := subE (var 2) (var 7)) (vs := [7]) (r := ST w1 w2 f) (e := nD) (h := fun i => sg (Fin.ofNat 26 i)) (p := fun i => decide (kf (kow w1) (Fin.ofNat 26 i) = Fin.ofNat 26 i)) (l := List.range 26) (rng1E_ok (n := 26) rfl (by omega)) (by simp) fun i hi => by
    have hi := List.mem_range.mp hi
    have e := ofNat_val hi
    have g1 : subE (fldE fx_letters (var 4)) (var 7) (ST w1 w2 (up f 7 (.val (nD i)))) = .ok (sg (kf (kow w1) (Fin.ofNat 26 i))) := subE_k (x := tx (kow w1)) (y := nD i) (fld_key rfl) rfl (by have := kf_sub hk (Fin.ofNat 26 i); rw [e] at this; exact this)
    have g2 : subE (var 2) (var 7) (ST w1 w2 (up f 7 (.val (nD i)))) = .ok (sg (Fin.ofNat 26 i)) := subE_k (x := tx LET) (y := nD i) rfl rfl (by have := LET_at (Fin.ofNat 26 i); rw [e] at this; exact this)
    exact ⟨ST w1 w2 (up f 7 (.val (nD i))), rfl, cmpT_ok g1 g2 (eqD_sg _ _), fun _ => g2⟩
  rw [this, rng26 fun a => decide (kf (kow w1) a = a)]
abbrev rgD (w1 : List F) : D := .tup ((rnd (kow w1)).map tx)
theorem lw9 (f : Nat → Cell) : LW9 (ST w1 w2 f) = .ok (.nx (ST w1 w2 (up f 10 (.val (rgD w1))))) :=
  (setK_val (meth0_ok (c := 0) (fs := [tx (kow w1)]) rfl (rounds_ok (kow_key w1)))).trans rfl
theorem joinL_flat : ∀ R : List (List F), TL.joinL [] (R.map fun g => g.map cp) = R.flatten.map cp
  | [] => rfl
  | [g] => by
    show g.map cp = (g ++ []).map cp
    rw [List.append_nil]
  | g :: h :: R => by
    show g.map cp ++ ([] ++ TL.joinL [] ((h :: R).map fun g => g.map cp)) = _
    rw [joinL_flat (h :: R), List.flatten_cons (l := g), List.map_append, List.nil_append]
theorem join_flat {R : List (List F)} (hn : R.length ≤ 26) (hl : ∀ g ∈ R, g.length ≤ 26) : joinD (.str []) [.tup (R.map tx)] = .ok (tx R.flatten) := by
  have hs : ((R.map fun g => g.map cp).map List.length).sum ≤ R.length * 26 := by
    have : ∀ R : List (List F), (∀ g ∈ R, g.length ≤ 26) → ((R.map fun g => g.map cp).map List.length).sum ≤ R.length * 26 := fun R => by
      induction R with
      | nil => intro _; simp
      | cons g R ih =>
        intro h
        have := ih fun x hx => h x (List.mem_cons_of_mem _ hx)
        have := h g List.mem_cons_self
        rw [List.map_cons, List.map_cons, List.sum_cons, List.length_map, List.length_cons]
        omega
    exact this R hl
  show (match strsD (R.map fun g => D.str (g.map cp)) with
    | some ss => if joinOk [] ss then DL.R.ok (D.str (TL.joinL [] ss)) else DL.R.stuck
    | none => DL.R.stuck) = _
  rw [strsD_map]
  dsimp only
  rw [if_pos (by unfold joinOk; exact decide_eq_true (by show ((R.map fun g => g.map cp).map List.length).sum + (R.map fun g => g.map cp).length * 0 ≤ 16777216; omega)), joinL_flat]
  rfl
theorem hd_nth {g : List F} (h : 1 ≤ g.length) : g[0]? = some (hd g) := by
  cases g with
  | nil => cases h
  | cons a t => rfl
theorem min_tx {g : List F} (h : 1 ≤ g.length) (low : ∀ a ∈ g, (hd g).val ≤ a.val) : minS [tx g] = .ok (sg (hd g)) := by
  cases g with
  | nil => cases h
  | cons a t =>
    show R.ok (least (.str [cp a]) ((t.map cp).map fun c => .str [c])) = _
    rw [sgs]
    congr 1
    have : ∀ t : List F, (∀ b ∈ t, a.val ≤ b.val) → least (sg a) (t.map sg) = sg a := fun t => by
      induction t with
      | nil => intro _; rfl
      | cons b t ih =>
        intro hb
        show least (if (sg b).ltb (sg a) = true then sg b else sg a) (t.map sg) = _
        have hl : (sg b).ltb (sg a) = false := by
          show (D.str [cp b]).ltb (.str [cp a]) = false
          rw [ltb_str, ← lt_cps, decide_eq_false_iff_not]
          have := hb b List.mem_cons_self
          intro hlt
          rcases List.cons_lt_cons_iff.mp hlt with h | ⟨_, h⟩
          · unfold cp at h
            omega
          · cases h
        rw [hl, if_neg (by simp)]
        exact ih fun c hc => hb c (List.mem_cons_of_mem _ hc)
    exact this t fun b hb => low b (List.mem_cons_of_mem _ hb)
theorem none_f {α : Type} {l : List α} {p : α → Bool} (hp : ∀ q ∈ l, p q = false) : l.filter p = [] := by
  rw [List.filter_eq_nil_iff]
  intro q hq
  rw [hp q hq]
  simp
theorem lw10 (R : RndOk (kow w1) (rnd (kow w1))) (f : Nat → Cell) (h10 : f 10 = .val (rgD w1)) : LW10 (ST w1 w2 f) = .ok (.nx (ST w1 w2 f)) := by
  have hp : IsKey (rnd (kow w1)).flatten := ⟨R.nd, R.all⟩
  refine ifS_no (orT_ff (cmpT_ok (lE_ok (callF1_k (bmE_ok (x := .str []) (xs := [rgD w1]) rfl rfl (acons_ok (var_k (congrArg some h10)) (xs := []) rfl) (join_flat R.n26 fun g hg => (R.len g hg).2)) (sorted_key hp))) (lE_ok (callF1_k (x := tx LET) rfl list_LET)) (neD_self (sgs_sh LET))) (cmpT_ok (x := .lst []) (y := .lst []) (lE_ok ?_) rfl rfl)) rfl
  have hn := R.n26
  have := compF_fmM (fi := itB (var 10)) (gd := gN 11) (tt := cmpT neD (subE (var 11) (cst (.int 0))) (callE minS (acons (var 11) anil))) (te := var 11) (vs := [11]) (r := ST w1 w2 f) (e := tx) (h := tx) (p := fun _ => false) (l := rnd (kow w1)) (itB_t (var_k (congrArg some h10))) (by omega) fun g hg => by
    obtain ⟨g1, g26⟩ := R.len g hg
    refine ⟨ST w1 w2 (up f 11 (.val (tx g))), rfl, (cmpT_ok (subE_k (x := tx g) (y := nD 0) rfl rfl (at_tx (hd_nth g1) (by omega))) (callE1_ok (x := tx g) rfl (min_tx g1 (R.low g hg))) (neD_sg _ _)).trans (by rw [decide_eq_true rfl]; rfl), fun h => by cases h⟩
  rw [this, none_f fun _ _ => rfl]
  rfl
theorem nth_get {g : List F} {i : Nat} (h : i < g.length) : g[i]? = some (nth g i) := by
  unfold nth
  rw [List.getElem?_eq_getElem h]
  rfl
theorem lw11 (R : RndOk (kow w1) (rnd (kow w1))) (f : Nat → Cell) (h10 : f 10 = .val (rgD w1)) : ∃ c, LW11 (ST w1 w2 f) = .ok (.nx (ST w1 w2 (up f 11 c))) := by
  have hk := kow_key w1
  obtain ⟨r2, h2, c, hI⟩ := loopS_all (gd := gN 11) (body := ifS (cmpT neZ (lE (compF (rng1E (acons (callE lenX (acons (var 11) anil)) anil)) (gN 7) (cmpT neD (methE 0 D_Key_changed (var 4) (acons (subE (var 11) (var 7)) anil)) (subE (var 11) (opE modD (opE addD (var 7) (cst (.int 1))) (callE lenX (acons (var 11) anil))))) (var 7) [7])) (lE (lstE anil)))
    (retS (cst (.bl false)))
    skipS) (e := tx) (fun _ r => ∃ c, r = ST w1 w2 (up f 11 c)) (l := rnd (kow w1)) (done := []) (r := ST w1 w2 f) ⟨f 11, rfl⟩ (by
      rintro g done r hg ⟨c, rfl⟩
      obtain ⟨g1, g26⟩ := R.len g hg
      let x := ST w1 w2 (up f 11 (.val (tx g)))
      have hlen : ∀ y : LE, var 11 y = .ok (tx g) → callE lenX (acons (var 11) anil) y = .ok (nD g.length) := fun y hy => len_tx (by omega) hy
      refine ⟨x, x, rfl, ifS_no (cmpT_ok (x := .lst []) (y := .lst []) (lE_ok ?_) rfl rfl) rfl, _, rfl⟩
      have := compF_fmM (fi := rng1E (acons (callE lenX (acons (var 11) anil)) anil)) (gd := gN 7) (tt := cmpT neD (methE 0 D_Key_changed (var 4) (acons (subE (var 11) (var 7)) anil)) (subE (var 11) (opE modD (opE addD (var 7) (cst (.int 1))) (callE lenX (acons (var 11) anil))))) (te := var 7) (vs := [7]) (r := x) (e := nD) (h := nD) (p := fun _ => false) (l := List.range g.length) (rng1E_ok (hlen _ rfl) (by omega)) (by rw [List.length_range]; omega) fun i hi => by
        have hi := List.mem_range.mp hi
        let y := ST w1 w2 (up (up f 11 (.val (tx g))) 7 (.val (nD i)))
        have hm : (i + 1) % g.length < g.length := Nat.mod_lt _ (by omega)
        have a1 : methE 0 D_Key_changed (var 4) (acons (subE (var 11) (var 7)) anil) y = .ok (sg (kf (kow w1) (nth g i))) := chg hk (u := [nth g i]) (by simp) rfl (subE_k (x := tx g) (y := nD i) rfl rfl (at_tx (nth_get hi) (by omega)))
        have a2 : subE (var 11) (opE modD (opE addD (var 7) (cst (.int 1))) (callE lenX (acons (var 11) anil))) y = .ok (sg (nth g ((i + 1) % g.length))) := subE_k (x := tx g) rfl (opE_k (opE_k (x := nD i) (y := nD 1) rfl rfl (addD_nat _ _)) (hlen _ rfl) (mod_nat _ _ (by omega))) (at_tx (nth_get hm) (by omega))
        refine ⟨y, rfl, (cmpT_ok a1 a2 (neD_sg _ _)).trans (by rw [R.cyc g hg i hi, decide_eq_true rfl]; rfl), fun h => by cases h⟩
      rw [this, none_f fun _ _ => rfl]
      rfl)
  subst hI
  exact ⟨c, forS_ok (itB_t (var_k (congrArg some h10))) h2⟩
abbrev szs (w1 : List F) : List Nat := (rnd (kow w1)).map List.length
theorem lw12 (R : RndOk (kow w1) (rnd (kow w1))) (f : Nat → Cell) (h10 : f 10 = .val (rgD w1)) : LW12 (ST w1 w2 f) = .ok (.nx (ST w1 w2 (up (up f 12 (.val (nD (thome (rnd (kow w1)))))) 13 (.val (.lst ((szs w1).map nD)))))) := by
  have hn := R.n26
  have hc : compF (itB (var 10)) (gN 11) yesT (callE lenX (acons (var 11) anil)) [11] (ST w1 w2 f) = .ok ((szs w1).map nD) := by
    unfold szs
    rw [List.map_map]
    exact compF_mapM (e := tx) (h := nD ∘ List.length) (l := rnd (kow w1)) (itB_t (var_k (congrArg some h10))) (by omega) fun g hg => ⟨ST w1 w2 (up f 11 (.val (tx g))), rfl, len_tx (by have := (R.len g hg).2; omega) rfl⟩
  exact (asgS_ok (d := .tup [nD (thome (rnd (kow w1))), .lst ((szs w1).map nD)]) (tupE_ok (acons_ok (meth0_ok (c := 0) (f := var 4) (fs := [tx (kow w1)]) rfl (times_ok (kow_key w1) R.len)) (acons_ok (lE_ok hc) (xs := []) rfl)) (by simp)) rfl).trans rfl
theorem eqZ_nil {α : Type} (f : α → D) (l : List α) : eqZ (.lst (l.map f)) (.lst []) = .ok (.bl l.isEmpty) := by
  cases l with
  | nil => rfl
  | cons a l =>
    show (if ((a :: l).map f).length = ([] : List D).length then eqD (.lst ((a :: l).map f)) (.lst []) else R.ok (.bl false)) = _
    rw [if_neg (by simp)]
    rfl
theorem lw13 (R : RndOk (kow w1) (rnd (kow w1))) (f : Nat → Cell) (h12 : f 12 = .val (nD (thome (rnd (kow w1))))) (h13 : f 13 = .val (.lst ((szs w1).map nD))) : LW13 (ST w1 w2 f) = .ok (.nx (ST w1 w2 f)) := by
  have hn := R.n26
  have hs : (szs w1).length ≤ 26 := by rw [List.length_map]; exact hn
  generalize hT : thome (rnd (kow w1)) = T at h12
  have sz : ∀ s ∈ szs w1, 1 ≤ s := fun s h => by
    obtain ⟨g, hg, rfl⟩ := List.mem_map.mp h
    exact (R.len g hg).1
  refine ifS_no (orT_ff (cmpT_ok (x := .lst []) (y := .lst []) (lE_ok ?_) rfl rfl) (cmpT_ok (x := .lst []) (y := .lst []) (lE_ok ?_) rfl rfl)) rfl
  · have := compF_fmM (fi := itB (var 13)) (gd := gN 14) (tt := cmpT neD (opE modD (var 12) (var 14)) (cst (.int 0))) (te := var 14) (vs := [14]) (r := ST w1 w2 f) (e := nD) (h := nD) (p := fun s => !decide (T % s = 0)) (l := szs w1) (itB_l (var_k (congrArg some h13))) (by omega) fun s hs => ⟨ST w1 w2 (up f 14 (.val (nD s))), rfl, cmpT_ok (opE_k (x := nD T) (y := nD s) (var_k (congrArg some h12)) rfl (mod_nat _ _ (sz s hs))) (y := nD 0) rfl (neD_nat _ _), fun _ => rfl⟩
    rw [this, none_f fun s hs => by
      obtain ⟨g, hg, rfl⟩ := List.mem_map.mp hs
      rw [← hT, decide_eq_true (R.home g hg)]
      rfl]
    rfl
  · have hin : ∀ p : Nat, 1 ≤ p → p < 1000 → ∀ g : Nat → Cell, g 12 = .val (nD T) → g 13 = .val (.lst ((szs w1).map nD)) → g 7 = .val (nD p) → compF (itB (var 13)) (gN 14) (cmpT neD (opE modD (opE fdivD (var 12) (var 7)) (var 14)) (cst (.int 0))) (var 14) [14] (ST w1 w2 g) = .ok (((szs w1).filter fun s => !decide (T / p % s = 0)).map nD) := fun p p1 p2 g g12 g13 g7 =>
      compF_fmM (e := nD) (h := nD) (p := fun s => !decide (T / p % s = 0)) (l := szs w1) (itB_l (var_k (congrArg some g13))) (by omega) fun s hs => ⟨ST w1 w2 (up g 14 (.val (nD s))), rfl, cmpT_ok (opE_k (opE_k (x := nD T) (y := nD p) (var_k (congrArg some g12)) (var_k (congrArg some g7)) (fdiv_nat _ _ p1 (by omega))) (y := nD s) rfl (mod_nat _ _ (sz s hs))) (y := nD 0) rfl (neD_nat _ _), fun _ => rfl⟩
    have := compF_fmM (fi := itB (lE (lstE (acons (cst (.int 2)) (acons (cst (.int 3)) (acons (cst (.int 5)) (acons (cst (.int 7)) (acons (cst (.int 11)) (acons (cst (.int 13)) (acons (cst (.int 17)) (acons (cst (.int 19)) (acons (cst (.int 23)) anil)))))))))))) (gd := gN 7) (tt := andT (cmpT eqD (opE modD (var 12) (var 7)) (cst (.int 0))) (cmpT eqZ (lE (compF (itB (var 13)) (gN 14) (cmpT neD (opE modD (opE fdivD (var 12) (var 7)) (var 14)) (cst (.int 0))) (var 14) [14])) (lE (lstE anil)))) (te := var 7) (vs := [7]) (r := ST w1 w2 f) (e := nD) (h := nD)
      (p := fun p => decide (T % p = 0) && ((szs w1).filter fun s => !decide (T / p % s = 0)).isEmpty) (l := primes) (by kernel_rfl) (by decide) fun p hp => by
      have hp2 : 1 ≤ p ∧ p < 1000 := by
        unfold primes at hp
        simp only [List.mem_cons, List.not_mem_nil, or_false] at hp
        omega
      refine ⟨ST w1 w2 (up f 7 (.val (nD p))), rfl, andT_k (cmpT_ok (opE_k (x := nD T) (y := nD p) (var_k (congrArg some h12)) rfl (mod_nat _ _ hp2.1)) (y := nD 0) rfl (eqD_nat _ _)) (cmpT_ok (lE_ok (hin p hp2.1 hp2.2 _ h12 h13 rfl)) (y := .lst []) rfl (eqZ_nil _ _)), fun _ => rfl⟩
    rw [this, none_f fun p hp => ?_]
    · rfl
    · cases e : decide (T % p = 0) && ((szs w1).filter fun s => !decide (T / p % s = 0)).isEmpty with
      | false => rfl
      | true =>
        exfalso
        rw [Bool.and_eq_true, decide_eq_true_eq, List.isEmpty_iff] at e
        refine R.least p hp ⟨by rw [hT]; exact e.1, fun g hg => ?_⟩
        have := (List.filter_eq_nil_iff.mp e.2) g.length (List.mem_map_of_mem hg)
        rw [hT]
        simpa using this
theorem inv_own {k : List F} (h : IsKey k) : inv k = k ↔ ∀ a, kf k (kf k a) = a := by
  constructor
  · intro e a
    have := inv_kf h a
    rw [e] at this
    exact this
  · intro q
    rw [key_eq h]
    unfold inv
    refine List.map_congr_left fun a _ => ?_
    rw [← key_eq h]
    exact kf_inj h (by rw [kf_bk h, q a])
theorem lw14 (R : RndOk (kow w1) (rnd (kow w1))) (f : Nat → Cell) (h13 : f 13 = .val (.lst ((szs w1).map nD))) : LW14 (ST w1 w2 f) = .ok (.nx (ST w1 w2 f)) := by
  have hk := kow_key w1
  have hne : szs w1 ≠ [] := fun e => by
    have := R.n1
    rw [List.map_eq_nil_iff.mp e] at this
    cases this
  obtain ⟨m, h1, h2, h3⟩ := maxL_nD hne
  have e : decide (inv (kow w1) = kow w1) = decide (m < 3) := by
    rw [decide_eq_decide, inv_own hk, R.own]
    constructor
    · intro q
      obtain ⟨g, hg, rfl⟩ := List.mem_map.mp h2
      exact q g hg
    · intro q g hg
      have := h3 g.length (List.mem_map_of_mem hg)
      omega
  have hl : opE ltD (callE maxL (acons (var 13) anil)) (cst (.int 3)) (ST w1 w2 f) = .ok (.bl (decide (m < 3))) := opE_k (callE1_ok (x := .lst ((szs w1).map nD)) (var_k (congrArg some h13)) h1) (y := nD 3) rfl (ltD_nat _ _)
  refine ifS_no (cmpT_ok (meth0_ok (c := 0) (f := var 4) (fs := [tx (kow w1)]) rfl (own_ok hk)) hl ?_) rfl
  rw [e]
  exact neD_self rfl
end K09
set_option Elab.async false
set_option linter.all false
set_option maxRecDepth 100000
namespace K09
open DL PySem L2 PySem.Spec PyProof.Rows
theorem appPop_wr {i j m : Nat} {f : LE → R D} {r : LE} {es ds : List D} (h1 : r[i]? = some (.own (.lst es))) (h2 : r[j]? = some (.own (.lst ds))) (hf : Wr (f r) (fun d => ∃ k, k < ds.length ∧ d = nD k)) (he : es.length < 1000) (hd : ds.length < 1000) :
    Wr (appPopS i j f r) (fun o => ∃ r2, o = .nx r2 ∧ ∃ k y, ds[k]? = some y ∧ r2 = (r.set j (.own (.lst (ds.eraseIdx k)))).set i (.own (.lst (es ++ [y])))) := by
  unfold appPopS
  rw [h1]
  dsimp only
  rw [h2]
  dsimp only
  refine Wr.onS_ (hf.mono fun d hd => ?_)
  obtain ⟨k, hk, rfl⟩ := hd
  show Wr (match ds[k]? with
    | some y => if es.length < 16777216 ∧ k < 16777216 then R.ok (Out.nx ((r.set j (.own (.lst (ds.eraseIdx k)))).set i (.own (.lst (es ++ [y]))))) else .stuck
    | none => .stuck) _
  rw [List.getElem?_eq_getElem hk]
  dsimp only
  rw [if_pos (by omega)]
  exact Wr.ok ⟨_, rfl, k, _, List.getElem?_eq_getElem hk, rfl⟩
theorem perm_erase {α : Type} : ∀ {l : List α} {k : Nat} {y : α}, l[k]? = some y → l.Perm (y :: l.eraseIdx k)
  | [], k, y, h => by simp at h
  | a :: l, 0, y, h => by
    simp at h
    subst h
    exact .refl _
  | a :: l, k + 1, y, h => by
    have h' : l[k]? = some y := by simpa using h
    exact ((perm_erase h').cons a).trans (.swap y a _)
theorem erase_map {α β : Type} (f : α → β) : ∀ (l : List α) (k : Nat), (l.map f).eraseIdx k = (l.eraseIdx k).map f
  | [], _ => rfl
  | a :: l, 0 => rfl
  | a :: l, k + 1 => by
    show f a :: (l.map f).eraseIdx k = f a :: (l.eraseIdx k).map f
    rw [erase_map f l k]
theorem lrg1_nat (n : Nat) (h : n < 1000000) : lrg1 (nD n) = .ok ((List.range n).map nD) := by
  unfold lrg1
  dsimp only
  rw [if_pos (rgB_iff.mpr (by omega)), Int.toNat_natCast, rangeL_map]
theorem moves_wr {n : Nat} (hn : n ≤ 100) : Wr (D_law_moves [.dice, nD n]) (fun d => ∃ l : List Nat, l.Perm (List.range n) ∧ d = .tup (l.map nD)) := by
  refine runF_wr rfl ?_
  show Wr (F_law_moves [.val .dice, .val (nD n), .un, .un, .un]) _
  unfold F_law_moves
  have h1 : parK 2 3 (ownK (lrg1E (var 1))) (ownK (lstE anil)) [.val .dice, .val (nD n), .un, .un, .un] = .ok (.nx [.val .dice, .val (nD n), .own (.lst ((List.range n).map nD)), .own (.lst []), .un]) := by
    have e : lrg1E (var 1) [.val .dice, .val (nD n), .un, .un, .un] = .ok ((List.range n).map nD) := by
      unfold lrg1E
      rw [var_k (d := nD n) rfl, R.ok_bind]
      exact lrg1_nat n (by omega)
    rw [parK_eq, ownK_eq, e]
    rfl
  refine seqS_okW h1 ?_
  refine seqS_wr (P := fun r => ∃ (L M : List Nat) (c : Cell), (M ++ L).Perm (List.range n) ∧ L.length = n - n ∧ r = [.val .dice, .val (nD n), .own (.lst (L.map nD)), .own (.lst (M.map nD)), c]) (forS_wr (P := fun ds => ds = (List.range n).map nD) (Wr.eq (a := (List.range n).map nD) (rng1E_ok (f := var 1) (n := n) rfl (by omega)) rfl) ?_) ?_
  · rintro ds rfl
    have := loopS_wrL (gd := gN 4) (body := appPopS 3 2 (callE rollD (acons (var 0) (acons (callE lenX (acons (varP 2) anil)) anil)))) (e := nD) (fun k r => ∃ (L M : List Nat) (c : Cell), (M ++ L).Perm (List.range n) ∧ L.length = n - k ∧ r = [.val .dice, .val (nD n), .own (.lst (L.map nD)), .own (.lst (M.map nD)), c])
      (l := List.range n) (k := 0) (r := [.val .dice, .val (nD n), .own (.lst ((List.range n).map nD)), .own (.lst []), .un]) ⟨List.range n, [], .un, .refl _, by rw [List.length_range]; rfl, rfl⟩ (by
      rintro a ha k r hk0 hk ⟨L, M, c, hp, hL, rfl⟩
      rw [List.length_range, Nat.zero_add] at hk
      have hM : M.length ≤ n := by
        have := hp.length_eq
        rw [List.length_append, List.length_range] at this
        omega
      refine ⟨[.val .dice, .val (nD n), .own (.lst (L.map nD)), .own (.lst (M.map nD)), .val (nD a)], rfl, (appPop_wr (m := n) rfl rfl ((rollS (n := L.length) rfl ?_ (by omega) (by omega)).mono fun d ⟨i, hi, e⟩ => ⟨i, by rw [List.length_map]; exact hi, e⟩) (by rw [List.length_map]; omega) (by rw [List.length_map]; omega)).mono fun o ⟨r2, e, j, y, hy, e2⟩ => ⟨r2, e, ?_⟩⟩
      · exact callE1_ok (x := .lst (L.map nD)) rfl (by rw [lenX_lst, List.length_map])
      · subst e2
        rw [List.getElem?_map] at hy
        cases hq : L[j]? with
        | none => rw [hq] at hy; cases hy
        | some z =>
          rw [hq] at hy
          cases hy
          have hj := (List.getElem?_eq_some_iff.mp hq).1
          refine ⟨L.eraseIdx j, M ++ [z], .val (nD a), ?_, ?_, ?_⟩
          · rw [List.append_assoc]
            exact ((perm_erase hq).symm.append_left M).trans hp
          · rw [List.length_eraseIdx_of_lt hj]
            omega
          · rw [erase_map, List.map_append]
            rfl)
    rw [Nat.zero_add, List.length_range] at this
    exact this
  · rintro r ⟨L, M, c, hp, hL, rfl⟩
    have hL0 : L = [] := List.length_eq_zero_iff.mp (by omega)
    subst hL0
    rw [List.append_nil] at hp
    refine Wr.eq (a := .rt (.tup (M.map nD))) (retS_ok rfl) ⟨_, rfl, M, hp, rfl⟩
def shf (g : Nat) : List F := LET.drop g ++ LET.take g
theorem shf_eq : ∀ g : F, shf g.val = LET.map fun a => a + g := by decide
theorem add_inj : ∀ g a b : F, a + g = b + g → a = b := by decide +kernel
theorem add_sub : ∀ a b : F, a + b - b = a := by decide
theorem sub_add : ∀ a b : F, a - b + b = a := by decide
theorem shf_key (g : F) : IsKey (shf g.val) := by
  rw [shf_eq]
  exact key_of (fun a b => add_inj g a b) fun b => ⟨b - g, sub_add b g⟩
theorem shf_kf (g a : F) : kf (shf g.val) a = a + g := by rw [shf_eq, kf_map]
theorem sliceS_to {f k : LE → R D} {r : LE} {t : List F} {n : Nat} (hl : t.length ≤ 1000) (h : f r = .ok (tx t)) (h2 : k r = .ok (nD n)) : sliceE f noP (someP k) r = .ok (tx (t.take n)) := by
  rw [sliceE_eq, h, R.ok_bind, noP_eq, R.ok_bind, someP_int k r n h2, R.ok_bind]
  show (if (t.map cp).length ≤ 16777216 then R.ok (D.str (cutD (t.map cp) none (some (n : Int)))) else .stuck) = _
  rw [if_pos (by rw [List.length_map]; omega), cutD_to]
  unfold tx
  rw [List.map_take]
theorem sliceS_from {f k : LE → R D} {r : LE} {t : List F} {n : Nat} (hl : t.length ≤ 1000) (h : f r = .ok (tx t)) (h2 : k r = .ok (nD n)) : sliceE f (someP k) noP r = .ok (tx (t.drop n)) := by
  rw [sliceE_eq, h, R.ok_bind, someP_int k r n h2, R.ok_bind, noP_eq, R.ok_bind]
  show (if (t.map cp).length ≤ 16777216 then R.ok (D.str (cutD (t.map cp) (some (n : Int)) none)) else .stuck) = _
  rw [if_pos (by rw [List.length_map]; omega), cutD_from]
  unfold tx
  rw [List.map_drop]
def gF (n : Nat) : F := Fin.ofNat 26 n
theorem gF_val (n : Nat) : (gF n).val = n % 26 := rfl
theorem shift_key_ok (n : Nat) : D_shift_key [nD n] = .ok (keyD (shf (gF n).val)) := by
  refine runF_rt rfl ?_
  let r1 : LE := [.val (nD n), .val (nD (n % 26))]
  show F_shift_key [.val (nD n), .un] = _
  unfold F_shift_key
  refine seqS_go (r' := r1) (setK_val (opE_k (x := nD n) (y := nD 26) rfl rfl (mod_nat n 26 (by omega)))) ?_
  have hl : LET.length ≤ 1000 := by rw [LET_len]; decide
  refine retS_ok (callE1_ok (x := tx (shf (gF n).val)) (opE_k (sliceS_from hl (cst_L _) (n := n % 26) rfl) (sliceS_to hl (cst_L _) (n := n % 26) rfl) (add_tx ?_)) (init_ok (shf_key _)))
  rw [List.length_drop, List.length_take, LET_len]
  omega
/-- shifted by a word, there or back -/
def opF (p : Bool) (a b : F) : F := if p = true then a + b else a - b
def wayI (p : Bool) : Int := if p = true then 1 else -1
def shl (p : Bool) (t w : List F) : List F := (List.range t.length).map fun i => opF p (nth t i) (nth w (i % w.length))
theorem opF_mod : ∀ (p : Bool) (a b : F), ((a.val : Int) + wayI p * (b.val : Int)) % 26 = ((opF p a b).val : Int) := by decide +kernel
theorem shl_len (p : Bool) (t w : List F) : (shl p t w).length = t.length := by
  unfold shl
  rw [List.length_map, List.length_range]
theorem shl_nth {p : Bool} {t w : List F} {i : Nat} (h : i < t.length) : nth (shl p t w) i = opF p (nth t i) (nth w (i % w.length)) := by
  unfold shl nth
  rw [List.getElem?_map, List.getElem?_range h]
  rfl
theorem nth_ext {s t : List F} (h : s.length = t.length) (q : ∀ i, i < s.length → nth s i = nth t i) : s = t := by
  refine List.ext_getElem? fun i => ?_
  by_cases hi : i < s.length
  · rw [nth_get hi, nth_get (by omega), q i hi]
  · rw [List.getElem?_eq_none (by omega), List.getElem?_eq_none (by omega)]
theorem shl_back {t w : List F} : shl false (shl true t w) w = t := by
  refine nth_ext (by rw [shl_len, shl_len]) fun i hi => ?_
  rw [shl_len, shl_len] at hi
  rw [shl_nth (by rw [shl_len]; exact hi), shl_nth hi]
  exact add_sub _ _
theorem tx_map (t : List F) : (List.range t.length).map (nth t) = t := nth_ext (by rw [List.length_map, List.length_range]) fun i hi => by
  rw [List.length_map, List.length_range] at hi
  show ((List.range t.length).map (nth t))[i]?.getD 0 = _
  rw [List.getElem?_map, List.getElem?_range hi]
  rfl
theorem enum_tx {f : LE → R D} {r : LE} {t : List F} (h : f r = .ok (tx t)) : enumQE (acons f anil) r = .ok ((List.range t.length).map fun i => .tup [nD i, sg (nth t i)]) := by
  show (acons f anil r >>= enumQD) = _
  rw [acons_ok h (xs := []) rfl]
  show R.ok (enumL 0 ((t.map cp).map fun c => D.str [c])) = _
  rw [sgs, enumL_rng sg (nth t) t fun i hi => nth_get hi]
theorem way_in (p : Bool) : notInD (.int (wayI p)) (.tup [.int 1, .int (-1)]) = .ok (.bl false) := by
  cases p <;> kernel_rfl
theorem tx_ne {w : List F} (h : 1 ≤ w.length) : eqD (tx w) (.str []) = .ok (.bl false) := by
  unfold eqD
  rw [tx_sh, if_pos (by rw [Bool.or_eq_true]; exact .inr rfl)]
  cases w with
  | nil => cases h
  | cons a t => rfl
theorem sub_int {t : List F} {i : Int} {n : Nat} {a : F} (hi : i = (n : Int)) (h : t[n]? = some a) (hl : t.length ≤ 16777216) : subI (tx t) (.int i) = .ok (sg a) := by
  subst hi
  exact at_tx h hl
theorem mod26 (x : Int) : modD (.int x) (.int 26) = .ok (.int (x % 26)) := by
  show (if (0 : Int) < 26 then R.ok (D.int (x % 26)) else .stuck) = _
  rw [if_pos (by decide)]
theorem shifted_ok {t w : List F} (ht : t.length ≤ 100) (w1 : 1 ≤ w.length) (w2 : w.length ≤ 100) (p : Bool) : D_shifted_by [tx t, tx w, .int (wayI p)] = .ok (tx (shl p t w)) := by
  refine runF_rt rfl ?_
  let r0 : LE := [.val (tx t), .val (tx w), .val (.int (wayI p)), .un, .un, .un, .un]
  let r1 : LE := [.val (tx t), .val (tx w), .val (.int (wayI p)), .val (tx []), .un, .un, .un]
  show F_shifted_by r0 = _
  unfold F_shifted_by
  refine seqS_go (r' := r0) (check_drop rfl) (seqS_go (r' := r0) (check_drop rfl) (seqS_go (r' := r0) (ifS_no (orT_ff (cmpT_ok (x := tx w) (y := .str []) rfl rfl (tx_ne w1)) (cmpT_ok (x := .int (wayI p)) (y := .tup [.int 1, .int (-1)]) rfl rfl (way_in p))) rfl) (seqS_go (r' := r1) rfl ?_)))
  obtain ⟨r2, h2, c4, c5, c6, hI⟩ := loopS_rgM (gd := gTup_ 2 (gCons_ (gN 4) (gCons_ (gN 5) gNil_))) (body := seqS (setK 6 (valK (opE mulD (var 2) (bmE "str" sidxD (cst d_LETTERS) (acons (subE (var 1) (opE modD (var 4) (callE lenX (acons (var 1) anil)))) anil)))))
    (setK 3 (valK (opE iaddD (var 3) (subE (cst d_LETTERS) (opE modD (opE addD (bmE "str" sidxD (cst d_LETTERS) (acons (var 5) anil)) (var 6)) (cst (.int 26)))))))) (e := fun i => .tup [nD i, sg (nth t i)])
    (fun k r => ∃ c4 c5 c6, r = [.val (tx t), .val (tx w), .val (.int (wayI p)), .val (tx ((List.range k).map fun i => opF p (nth t i) (nth w (i % w.length)))), c4, c5, c6]) (n := t.length) (r := r1) ⟨_, _, _, rfl⟩ (by
      rintro k r hk ⟨c4, c5, c6, rfl⟩
      let X := (List.range k).map fun i => opF p (nth t i) (nth w (i % w.length))
      have hX : X.length = k := by simp [X]
      let b := nth w (k % w.length)
      let a := nth t k
      let ra : LE := [.val (tx t), .val (tx w), .val (.int (wayI p)), .val (tx X), .val (nD k), .val (sg a), c6]
      let rb : LE := [.val (tx t), .val (tx w), .val (.int (wayI p)), .val (tx X), .val (nD k), .val (sg a), .val (.int (wayI p * (b.val : Int)))]
      have hm : k % w.length < w.length := Nat.mod_lt _ (by omega)
      have s1 : setK 6 (valK (opE mulD (var 2) (bmE "str" sidxD (cst d_LETTERS) (acons (subE (var 1) (opE modD (var 4) (callE lenX (acons (var 1) anil)))) anil)))) ra = .ok (.nx rb) := by
        refine setK_val (opE_k (x := .int (wayI p)) rfl (idx_L (a := b) (cst_L _) (subE_k (x := tx w) rfl (opE_k (x := nD k) rfl (len_tx (by omega) rfl) (mod_nat _ _ (by omega))) (at_tx (nth_get hm) (by omega)))) ?_)
        refine if_pos (.inl ?_)
        unfold wayI
        split <;> omega
      have s2 : opE iaddD (var 3) (subE (cst d_LETTERS) (opE modD (opE addD (bmE "str" sidxD (cst d_LETTERS) (acons (var 5) anil)) (var 6)) (cst (.int 26)))) rb = .ok (tx (X ++ [opF p a b])) := by
        refine opE_k (x := tx X) (y := tx [opF p a b]) rfl (subE_k (x := tx LET) (y := .int (((a.val : Int) + wayI p * (b.val : Int)) % 26)) (cst_L _) (opE_k (opE_k (x := nD a.val) (idx_L (cst_L _) rfl) (y := .int (wayI p * (b.val : Int))) rfl rfl) (y := .int 26) rfl (mod26 _)) (sub_int (opF_mod p a b) (LET_get _) (by rw [LET_len]; decide))) (iadd_tx (by rw [hX]; simp; omega))
      refine ⟨ra, _, rfl, seqS_go s1 (setK_val s2), .val (nD k), .val (sg a), .val (.int (wayI p * (b.val : Int))), ?_⟩
      rw [List.range_succ, List.map_append]
      rfl)
  subst hI
  exact seqS_go (forS_ok (enum_tx rfl) h2) rfl
def ci (m n c : Nat) : List Nat := (List.range m).filter fun k => decide (k % n = c)
def pick (t : List F) (l : List Nat) : List F := l.map (nth t)
def colT (t : List F) (n : Nat) (σ : List Nat) : List F := σ.flatMap fun c => pick t (ci t.length n c)
theorem ci_len (m n c : Nat) : (ci m n c).length ≤ m := by
  have := List.length_filter_le (fun k => decide (k % n = c)) (List.range m)
  rw [List.length_range] at this
  exact this
theorem pick_len (t : List F) (l : List Nat) : (pick t l).length = l.length := List.length_map ..
structure Ord (n : Nat) (σ : List Nat) : Prop where
  n1 : 1 ≤ n
  n4 : n ≤ 4
  perm : σ.Perm (List.range n)
theorem Ord.len {n : Nat} {σ : List Nat} (h : Ord n σ) : σ.length = n := by rw [h.perm.length_eq, List.length_range]
theorem Ord.lt {n : Nat} {σ : List Nat} (h : Ord n σ) : ∀ c ∈ σ, c < n := fun c hc => List.mem_range.mp (h.perm.mem_iff.mp hc)
theorem rng_sort : ∀ n, n ≤ 4 → isort (ltk nD) (List.range n) = List.range n := fun n h => by
  match n, h with
  | 0, _ => rfl
  | 1, _ => kernel_rfl
  | 2, _ => kernel_rfl
  | 3, _ => kernel_rfl
  | 4, _ => kernel_rfl
theorem nD_ok : KeyOk nD := ⟨fun a => rfl, fun a b => by
  unfold D.ali
  simp only [D.toP, PySem.W.alike], (fun a h => by cases h), .inr fun a => rfl⟩
abbrev odD (σ : List Nat) : D := .tup (σ.map nD)
theorem ord_sorted {n : Nat} {σ : List Nat} (h : Ord n σ) : sortedT [odD σ] = .ok ((List.range n).map nD) := by
  have hl := h.len
  have n4 := h.n4
  show sortGD (σ.map nD) = _
  rw [sortGD_k nD_ok (by omega), srt_uniq inj_nD h.perm, rng_sort n n4]
theorem ord_no {n : Nat} {σ : List Nat} (h : Ord n σ) {r : LE} (h1 : var 1 r = .ok (odD σ)) : orT (cmpT neD (lE (callF sortedT (acons (var 1) anil))) (lE (lrg1E (callE lenX (acons (var 1) anil))))) (cmpT eqD (callE lenX (acons (var 1) anil)) (cst (.int 0))) r = .ok false := by
  have hl := h.len
  have n1 := h.n1
  have n4 := h.n4
  have hlen : callE lenX (acons (var 1) anil) r = .ok (nD n) := callE1_ok h1 ((lenX_t _).trans (by rw [List.length_map, hl]))
  have hrg : lrg1E (callE lenX (acons (var 1) anil)) r = .ok ((List.range n).map nD) := by
    unfold lrg1E
    rw [hlen, R.ok_bind]
    exact lrg1_nat n (by omega)
  refine orT_ff (cmpT_ok (lE_ok (callF1_k h1 (ord_sorted h))) (lE_ok hrg) (neD_self (nDs_sh _ 63))) ((cmpT_ok hlen (y := nD 0) rfl (eqD_nat _ _)).trans (by rw [decide_eq_false (by omega)]))
theorem join_flatL {R : List (List F)} (hn : R.length ≤ 26) (hl : ∀ g ∈ R, g.length ≤ 26) : joinD (.str []) [.lst (R.map tx)] = .ok (tx R.flatten) := by
  have := join_flat hn hl
  exact this
theorem flat_pick (t : List F) (n : Nat) (σ : List Nat) : (σ.map fun c => pick t (ci t.length n c)).flatten = colT t n σ := by
  unfold colT
  rw [List.flatMap_def]
def steps : List (Nat × Nat) := [(1, 0), (2, 0), (2, 1), (3, 0), (3, 1), (3, 2), (4, 0), (4, 1), (4, 2), (4, 3)]
def at0 (s : List Nat) (i : Nat) : Nat := s.getD i 0
theorem st_0 : (steps.map fun p => stepD [] (p.2 : Int) (p.1 : Int)) = steps.map fun p => (ci 0 p.1 p.2).map (at0 []) := by kernel_rfl
theorem st_1 (x0 : Nat) : (steps.map fun p => stepD [x0] (p.2 : Int) (p.1 : Int)) = steps.map fun p => (ci 1 p.1 p.2).map (at0 [x0]) := by kernel_rfl
theorem st_2 (x0 x1 : Nat) : (steps.map fun p => stepD [x0, x1] (p.2 : Int) (p.1 : Int)) = steps.map fun p => (ci 2 p.1 p.2).map (at0 [x0, x1]) := by kernel_rfl
theorem st_3 (x0 x1 x2 : Nat) : (steps.map fun p => stepD [x0, x1, x2] (p.2 : Int) (p.1 : Int)) = steps.map fun p => (ci 3 p.1 p.2).map (at0 [x0, x1, x2]) := by kernel_rfl
theorem st_4 (x0 x1 x2 x3 : Nat) : (steps.map fun p => stepD [x0, x1, x2, x3] (p.2 : Int) (p.1 : Int)) = steps.map fun p => (ci 4 p.1 p.2).map (at0 [x0, x1, x2, x3]) := by kernel_rfl
theorem st_5 (x0 x1 x2 x3 x4 : Nat) : (steps.map fun p => stepD [x0, x1, x2, x3, x4] (p.2 : Int) (p.1 : Int)) = steps.map fun p => (ci 5 p.1 p.2).map (at0 [x0, x1, x2, x3, x4]) := by kernel_rfl
theorem st_6 (x0 x1 x2 x3 x4 x5 : Nat) : (steps.map fun p => stepD [x0, x1, x2, x3, x4, x5] (p.2 : Int) (p.1 : Int)) = steps.map fun p => (ci 6 p.1 p.2).map (at0 [x0, x1, x2, x3, x4, x5]) := by kernel_rfl
theorem st_7 (x0 x1 x2 x3 x4 x5 x6 : Nat) : (steps.map fun p => stepD [x0, x1, x2, x3, x4, x5, x6] (p.2 : Int) (p.1 : Int)) = steps.map fun p => (ci 7 p.1 p.2).map (at0 [x0, x1, x2, x3, x4, x5, x6]) := by kernel_rfl
theorem st_8 (x0 x1 x2 x3 x4 x5 x6 x7 : Nat) : (steps.map fun p => stepD [x0, x1, x2, x3, x4, x5, x6, x7] (p.2 : Int) (p.1 : Int)) = steps.map fun p => (ci 8 p.1 p.2).map (at0 [x0, x1, x2, x3, x4, x5, x6, x7]) := by kernel_rfl
theorem st_9 (x0 x1 x2 x3 x4 x5 x6 x7 x8 : Nat) : (steps.map fun p => stepD [x0, x1, x2, x3, x4, x5, x6, x7, x8] (p.2 : Int) (p.1 : Int)) = steps.map fun p => (ci 9 p.1 p.2).map (at0 [x0, x1, x2, x3, x4, x5, x6, x7, x8]) := by kernel_rfl
theorem st_10 (x0 x1 x2 x3 x4 x5 x6 x7 x8 x9 : Nat) : (steps.map fun p => stepD [x0, x1, x2, x3, x4, x5, x6, x7, x8, x9] (p.2 : Int) (p.1 : Int)) = steps.map fun p => (ci 10 p.1 p.2).map (at0 [x0, x1, x2, x3, x4, x5, x6, x7, x8, x9]) := by kernel_rfl
theorem st_11 (x0 x1 x2 x3 x4 x5 x6 x7 x8 x9 x10 : Nat) : (steps.map fun p => stepD [x0, x1, x2, x3, x4, x5, x6, x7, x8, x9, x10] (p.2 : Int) (p.1 : Int)) = steps.map fun p => (ci 11 p.1 p.2).map (at0 [x0, x1, x2, x3, x4, x5, x6, x7, x8, x9, x10]) := by kernel_rfl
theorem st_12 (x0 x1 x2 x3 x4 x5 x6 x7 x8 x9 x10 x11 : Nat) : (steps.map fun p => stepD [x0, x1, x2, x3, x4, x5, x6, x7, x8, x9, x10, x11] (p.2 : Int) (p.1 : Int)) = steps.map fun p => (ci 12 p.1 p.2).map (at0 [x0, x1, x2, x3, x4, x5, x6, x7, x8, x9, x10, x11]) := by kernel_rfl
theorem st_all (s : List Nat) (h : s.length ≤ 12) : (steps.map fun p => stepD s (p.2 : Int) (p.1 : Int)) = steps.map fun p => (ci s.length p.1 p.2).map (at0 s) := by
  match s, h with
  | [], _ => exact st_0 
  | [x0], _ => exact st_1 x0
  | [x0, x1], _ => exact st_2 x0 x1
  | [x0, x1, x2], _ => exact st_3 x0 x1 x2
  | [x0, x1, x2, x3], _ => exact st_4 x0 x1 x2 x3
  | [x0, x1, x2, x3, x4], _ => exact st_5 x0 x1 x2 x3 x4
  | [x0, x1, x2, x3, x4, x5], _ => exact st_6 x0 x1 x2 x3 x4 x5
  | [x0, x1, x2, x3, x4, x5, x6], _ => exact st_7 x0 x1 x2 x3 x4 x5 x6
  | [x0, x1, x2, x3, x4, x5, x6, x7], _ => exact st_8 x0 x1 x2 x3 x4 x5 x6 x7
  | [x0, x1, x2, x3, x4, x5, x6, x7, x8], _ => exact st_9 x0 x1 x2 x3 x4 x5 x6 x7 x8
  | [x0, x1, x2, x3, x4, x5, x6, x7, x8, x9], _ => exact st_10 x0 x1 x2 x3 x4 x5 x6 x7 x8 x9
  | [x0, x1, x2, x3, x4, x5, x6, x7, x8, x9, x10], _ => exact st_11 x0 x1 x2 x3 x4 x5 x6 x7 x8 x9 x10
  | [x0, x1, x2, x3, x4, x5, x6, x7, x8, x9, x10, x11], _ => exact st_12 x0 x1 x2 x3 x4 x5 x6 x7 x8 x9 x10 x11
theorem steps_mem5 : ∀ n, n < 5 → ∀ c, c < n → (n, c) ∈ steps := by decide
theorem steps_mem (n : Nat) (_ : 1 ≤ n) (n4 : n ≤ 4) (c : Nat) (hc : c < n) : (n, c) ∈ steps := steps_mem5 n (by omega) c hc
theorem step_ok {t : List F} (ht : t.length ≤ 12) {n c : Nat} (n1 : 1 ≤ n) (n4 : n ≤ 4) (hc : c < n) : stepD (t.map cp) (c : Int) (n : Int) = (pick t (ci t.length n c)).map cp := by
  have := List.map_inj_left.mp (st_all (t.map cp) (by rw [List.length_map]; exact ht)) (n, c) (steps_mem n n1 n4 c hc)
  dsimp only at this
  rw [this, List.length_map]
  unfold pick
  rw [List.map_map]
  refine List.map_congr_left fun i hi => ?_
  have hi : i < t.length := List.mem_range.mp (List.mem_filter.mp hi).1
  unfold at0
  show (t.map cp).getD i 0 = cp (nth t i)
  rw [List.getD_eq_getElem?_getD, List.getElem?_map, nth_get hi]
  rfl
end K09
set_option Elab.async false
set_option linter.all false
set_option maxRecDepth 100000
namespace K09
open DL PySem L2 PySem.Spec PyProof.Rows
theorem in_ok {t : List F} (ht : t.length ≤ 12) {n : Nat} {σ : List Nat} (O : Ord n σ) : D_in_columns [tx t, odD σ] = .ok (tx (colT t n σ)) := by
  have hl := O.len
  have n4 := O.n4
  refine runF_rt rfl ?_
  let r0 : LE := [.val (tx t), .val (odD σ), .un]
  show F_in_columns r0 = _
  unfold F_in_columns
  have hc : compF (itB (var 1)) (gN 2) yesT (stepE (var 0) (var 2) (callE lenX (acons (var 1) anil))) [2] r0 = .ok ((σ.map fun c => pick t (ci t.length n c)).map tx) := by
    rw [List.map_map]
    refine compF_mapM (e := nD) (h := tx ∘ fun c => pick t (ci t.length n c)) (l := σ) (itB_t rfl) (by omega) fun c hc => ⟨[.val (tx t), .val (odD σ), .val (nD c)], rfl, ?_⟩
    have hlen : callE lenX (acons (var 1) anil) [.val (tx t), .val (odD σ), .val (nD c)] = .ok (nD n) := callE1_ok (x := odD σ) rfl ((lenX_t _).trans (by rw [List.length_map, hl]))
    unfold stepE
    rw [var_k (d := tx t) rfl, R.ok_bind, var_k (d := nD c) rfl, R.ok_bind, hlen, R.ok_bind]
    show (if (n : Int) ≠ 0 ∧ (t.map cp).length ≤ 16777216 then R.ok (D.str (stepD (t.map cp) (c : Int) (n : Int))) else .stuck) = _
    have n1 := O.n1
    rw [if_pos ⟨by omega, by rw [List.length_map]; omega⟩, step_ok ht n1 n4 (O.lt c hc)]
    rfl
  refine seqS_go (r' := r0) (ifS_no (ord_no O rfl) rfl) (retS_ok (bmE_ok (x := .str []) (xs := [.lst ((σ.map fun c => pick t (ci t.length n c)).map tx)]) rfl rfl (acons_ok (lE_ok hc) (xs := []) rfl) ?_))
  rw [join_flatL (by rw [List.length_map]; omega) (fun g hg => by
    obtain ⟨c, _, rfl⟩ := List.mem_map.mp hg
    rw [pick_len]
    have := ci_len t.length n c
    omega), flat_pick]
def sz (m n c : Nat) : Nat := m / n + if c < m % n then 1 else 0
theorem ci_fact : ∀ m, m ≤ 12 → ∀ n, 1 ≤ n → n ≤ 4 → (∀ c, c < n → (ci m n c).length = sz m n c) ∧ (∀ k, k < m → (ci m n (k % n))[k / n]? = some k) := by
  have key : ((List.range 13).all fun m => (List.range 4).all fun n => ((List.range (n + 1)).all fun c => decide ((ci m (n + 1) c).length = sz m (n + 1) c)) && (List.range m).all fun k => decide ((ci m (n + 1) (k % (n + 1)))[k / (n + 1)]? = some k)) = true := by kernel_rfl
  intro m hm n n1 n4
  have k1 := List.all_eq_true.mp key m (List.mem_range.mpr (by omega))
  have k2 := List.all_eq_true.mp k1 (n - 1) (List.mem_range.mpr (by omega))
  rw [Nat.sub_add_cancel n1, Bool.and_eq_true] at k2
  exact ⟨fun c hc => of_decide_eq_true (List.all_eq_true.mp k2.1 c (List.mem_range.mpr hc)), fun k hk => of_decide_eq_true (List.all_eq_true.mp k2.2 k (List.mem_range.mpr hk))⟩
theorem nD_keq (a b : Nat) : (nD a).keq (nD b) = decide (a = b) := by
  show ((a : Int) == (b : Int)) = _
  rw [Bool.eq_iff_iff]
  simp only [beq_iff_eq, decide_eq_true_eq]
  omega
theorem sliceS_mid {f k l : LE → R D} {r : LE} {t : List F} {a b : Nat} (hl : t.length ≤ 1000) (h : f r = .ok (tx t)) (h2 : k r = .ok (nD a)) (h3 : l r = .ok (nD b)) (hab : a ≤ b) (hb : b ≤ t.length) : sliceE f (someP k) (someP l) r = .ok (tx ((t.drop a).take (b - a))) := by
  rw [sliceE_eq, h, R.ok_bind, someP_int k r a h2, R.ok_bind, someP_int l r b h3, R.ok_bind]
  show (if (t.map cp).length ≤ 16777216 then R.ok (D.str (DL.cutD (t.map cp) (some (a : Int)) (some (b : Int)))) else .stuck) = _
  rw [if_pos (by rw [List.length_map]; omega)]
  unfold tx DL.cutD
  rw [HT.sIx_nat, HT.sIx_nat, List.length_map, Nat.min_eq_left hb, Nat.min_eq_left (by omega : a ≤ t.length), List.map_take, List.map_drop]
theorem perm_sumN {l m : List Nat} (g : Nat → Nat) (h : l.Perm m) : (l.map g).sum = (m.map g).sum := by
  induction h with
  | nil => rfl
  | cons a _ ih => rw [List.map_cons, List.map_cons, List.sum_cons, List.sum_cons, ih]
  | swap a b l => simp only [List.map_cons, List.sum_cons]; omega
  | trans _ _ ih1 ih2 => exact ih1.trans ih2
theorem sz_sum : ∀ m, m ≤ 12 → ∀ n, 1 ≤ n → n ≤ 4 → ((List.range n).map (sz m n)).sum = m := by
  have key : ((List.range 13).all fun m => (List.range 4).all fun n => decide (((List.range (n + 1)).map (sz m (n + 1))).sum = m)) = true := by kernel_rfl
  intro m hm n n1 n4
  have k1 := List.all_eq_true.mp key m (List.mem_range.mpr (by omega))
  have k2 := List.all_eq_true.mp k1 (n - 1) (List.mem_range.mpr (by omega))
  rw [Nat.sub_add_cancel n1] at k2
  exact of_decide_eq_true k2
theorem col_len {t : List F} (ht : t.length ≤ 12) {n : Nat} (n1 : 1 ≤ n) (n4 : n ≤ 4) : ∀ {σ : List Nat}, (∀ c ∈ σ, c < n) → (colT t n σ).length = (σ.map (sz t.length n)).sum
  | [], _ => rfl
  | c :: σ, h => by
    have ih := col_len ht n1 n4 (σ := σ) fun d hd => h d (List.mem_cons_of_mem _ hd)
    unfold colT at ih ⊢
    rw [List.flatMap_cons, List.length_append, ih, pick_len, (ci_fact _ ht n n1 n4).1 c (h c List.mem_cons_self), List.map_cons, List.sum_cons]
theorem out_ok {t : List F} (ht : t.length ≤ 12) {n : Nat} {σ : List Nat} (O : Ord n σ) : D_out_of_columns [tx (colT t n σ), odD σ] = .ok (tx t) := by
  have hl := O.len
  have n1 := O.n1
  have n4 := O.n4
  have hul : (colT t n σ).length = t.length := by rw [col_len ht n1 n4 O.lt, perm_sumN _ O.perm, sz_sum _ ht n n1 n4]
  have hnd : σ.Nodup := O.perm.nodup_iff.mpr List.nodup_range
  let u := colT t n σ
  let X (c : Nat) : D := tx (pick t (ci t.length n c))
  refine runF_rt rfl ?_
  let r0 : LE := [.val (tx u), .val (odD σ), .un, .un, .un, .un, .un, .un]
  let r1 : LE := [.val (tx u), .val (odD σ), .val (nD n), .un, .un, .un, .un, .un]
  let r2 : LE := [.val (tx u), .val (odD σ), .val (nD n), .own (.dic []), .val (nD 0), .un, .un, .un]
  show F_out_of_columns r0 = _
  unfold F_out_of_columns
  refine seqS_go (r' := r0) (ifS_no (ord_no O rfl) rfl) (seqS_go (r' := r1) (setK_val (callE1_ok (x := odD σ) rfl ((lenX_t _).trans (by rw [List.length_map, hl])))) (seqS_go (r' := r2) rfl ?_))
  have lenu : ∀ x : LE, var 0 x = .ok (tx u) → callE lenX (acons (var 0) anil) x = .ok (nD t.length) := fun x hx => (len_tx (by rw [hul]; omega) hx).trans (by rw [hul])
  obtain ⟨r3, h3, c5, c6, hI⟩ := loopS_pre (gd := gN 5) (body := seqS (setK 6 (valK (opE addD (opE fdivD (callE lenX (acons (var 0) anil)) (var 2)) (iteE (cmpT ltD (var 5) (opE modD (callE lenX (acons (var 0) anil)) (var 2))) (cst (.int 1)) (cst (.int 0))))))
    (seqS (stodS 3 (sliceE (var 0) (someP (var 4)) (someP (opE addD (var 4) (var 6)))) (var 5))
    (setK 4 (valK (opE iaddD (var 4) (var 6)))))) (e := nD) (l0 := σ)
    (fun done r => ∃ c5 c6, r = [.val (tx u), .val (odD σ), .val (nD n), .own (.dic (dcQ nD X done)), .val (nD (colT t n done).length), c5, c6, .un]) (l := σ) (done := []) (r := r2) rfl ⟨_, _, rfl⟩ (by
      rintro c done rest r hd ⟨c5, c6, rfl⟩
      have hc : c < n := O.lt c (by rw [← hd]; simp)
      have hcn : c ∉ done := fun hm => by
        rw [← hd] at hnd
        exact (List.nodup_append.mp hnd).2.2 c hm c List.mem_cons_self rfl
      have hdl : done.length ≤ n := by
        have := congrArg List.length hd
        rw [List.length_append, List.length_cons, hl] at this
        omega
      let p := (colT t n done).length
      have hs := (ci_fact _ ht n n1 n4).1 c hc
      have hu : u = colT t n done ++ (pick t (ci t.length n c) ++ colT t n rest) := by
        show colT t n σ = _
        rw [← hd]
        unfold colT
        rw [List.flatMap_append, List.flatMap_cons]
      have hcut : (u.drop p).take (p + sz t.length n c - p) = pick t (ci t.length n c) := by
        rw [hu, List.drop_left, Nat.add_sub_cancel_left]
        rw [show sz t.length n c = (pick t (ci t.length n c)).length by rw [pick_len, hs], List.take_left]
      have hple : p + sz t.length n c ≤ u.length := by
        have := congrArg List.length hu
        rw [List.length_append, List.length_append, pick_len, hs] at this
        omega
      let ra : LE := [.val (tx u), .val (odD σ), .val (nD n), .own (.dic (dcQ nD X done)), .val (nD p), .val (nD c), c6, .un]
      let rb : LE := [.val (tx u), .val (odD σ), .val (nD n), .own (.dic (dcQ nD X done)), .val (nD p), .val (nD c), .val (nD (sz t.length n c)), .un]
      let rc : LE := [.val (tx u), .val (odD σ), .val (nD n), .own (.dic (dcQ nD X (done ++ [c]))), .val (nD p), .val (nD c), .val (nD (sz t.length n c)), .un]
      have s1 : opE addD (opE fdivD (callE lenX (acons (var 0) anil)) (var 2)) (iteE (cmpT ltD (var 5) (opE modD (callE lenX (acons (var 0) anil)) (var 2))) (cst (.int 1)) (cst (.int 0))) ra = .ok (nD (sz t.length n c)) := by
        refine opE_k (opE_k (lenu _ rfl) (y := nD n) rfl (fdiv_nat _ _ (by omega) (by omega))) (y := nD (if c < t.length % n then 1 else 0)) ?_ (addD_nat _ _)
        have hq : cmpT ltD (var 5) (opE modD (callE lenX (acons (var 0) anil)) (var 2)) ra = .ok (decide (c < t.length % n)) := cmpT_ok (x := nD c) rfl (opE_k (lenu _ rfl) (y := nD n) rfl (mod_nat _ _ (by omega))) (ltD_nat _ _)
        by_cases q : c < t.length % n
        · rw [if_pos q]
          exact iteE_yes (hq.trans (by rw [decide_eq_true q])) rfl
        · rw [if_neg q]
          exact iteE_no (hq.trans (by rw [decide_eq_false q])) rfl
      have s2 : stodS 3 (sliceE (var 0) (someP (var 4)) (someP (opE addD (var 4) (var 6)))) (var 5) rb = .ok (.nx rc) := by
        have hsl : sliceE (var 0) (someP (var 4)) (someP (opE addD (var 4) (var 6))) rb = .ok (X c) := by
          have := sliceS_mid (f := var 0) (k := var 4) (l := opE addD (var 4) (var 6)) (r := rb) (t := u) (a := p) (b := p + sz t.length n c) (by rw [show u.length = t.length from hul]; omega) rfl rfl (opE_k (x := nD p) (y := nD (sz t.length n c)) rfl rfl (addD_nat _ _)) (by omega) hple
          rw [hcut] at this
          exact this
        refine (stodS_ok (kvs := dcQ nD X done) (d := X c) (y := nD c) rfl hsl rfl rfl (by unfold dcQ; rw [List.length_map]; omega)).trans ?_
        rw [putD_q, dcQ_put nD_keq (x' := X) rfl fun _ _ _ => rfl]
        unfold adds
        rw [if_neg hcn]
        rfl
      refine ⟨ra, _, rfl, seqS_go (r' := rb) (setK_val s1) (seqS_go s2 (setK_val (opE_k (x := nD p) (y := nD (sz t.length n c)) rfl rfl (iadd_nat _ _)))), .val (nD c), .val (nD (sz t.length n c)), ?_⟩
      have e : (colT t n (done ++ [c])).length = p + sz t.length n c := by
        unfold colT
        rw [List.flatMap_append, List.length_append, List.flatMap_cons, List.flatMap_nil, List.append_nil, pick_len, hs]
        rfl
      rw [e]
      rfl)
  rw [List.nil_append] at hI
  subst hI
  refine seqS_go (forS_ok (itB_t rfl) h3) (retS_ok (joinE (l := t) ?_ (by omega)))
  let r4 : LE := [.val (tx u), .val (odD σ), .val (nD n), .own (.dic (dcQ nD X σ)), .val (nD (colT t n σ).length), c5, c6, .un]
  have := compF_mapM (fi := rng1E (acons (callE lenX (acons (var 0) anil)) anil)) (gd := gN 7) (te := subE (subE (varP 3) (opE modD (var 7) (var 2))) (opE fdivD (var 7) (var 2))) (vs := [7]) (r := r4) (e := nD) (h := fun k => sg (nth t k)) (l := List.range t.length) (rng1E_ok (lenu _ rfl) (by omega)) (by rw [List.length_range]; omega) fun k hk => by
    have hk := List.mem_range.mp hk
    have hm : k % n < n := Nat.mod_lt _ (by omega)
    have hms : k % n ∈ σ := O.perm.mem_iff.mpr (List.mem_range.mpr hm)
    have hcl := ci_len t.length n (k % n)
    refine ⟨[.val (tx u), .val (odD σ), .val (nD n), .own (.dic (dcQ nD X σ)), .val (nD (colT t n σ).length), c5, c6, .val (nD k)], rfl, subE_k (x := X (k % n)) (y := nD (k / n)) (subE_k (x := .dic (dcQ nD X σ)) (y := nD (k % n)) rfl (opE_k (x := nD k) (y := nD n) rfl rfl (mod_nat _ _ (by omega))) ?_) (opE_k (x := nD k) (y := nD n) rfl rfl (fdiv_nat _ _ (by omega) (by omega))) (at_tx ?_ (by rw [pick_len]; omega))⟩
    · show (if (nD (k % n)).key1 = true then (match getD (dcQ nD X σ) (nD (k % n)) with | some d => R.ok d | none => .stuck) else .stuck) = _
      rw [getD_q, dcQ_in nD_keq hms]
      rfl
    · unfold pick
      rw [List.getElem?_map, (ci_fact _ ht n n1 n4).2 k hk]
      rfl
  refine this.trans ?_
  rw [show (fun k => sg (nth t k)) = sg ∘ nth t from rfl, ← List.map_map, tx_map]
theorem eqD_tx (a b : List F) : eqD (tx a) (tx b) = .ok (.bl (decide (a = b))) := by
  unfold eqD
  rw [tx_sh, tx_sh, if_pos (by rw [Bool.or_eq_true]; exact .inr rfl)]
  show R.ok (D.bl (a.map cp == b.map cp)) = _
  congr 2
  rw [Bool.eq_iff_iff, beq_iff_eq, decide_eq_true_eq]
  exact ⟨fun e => (List.map_inj_right fun a b => cp_inj).mp e, fun e => by rw [e]⟩
def shT (t : List F) (g : F) : List F := t.map fun a => a + g
theorem shift_chg {t : List F} (ht : t.length ≤ 1000) {n : Nat} {f g : LE → R D} {r : LE} (h1 : f r = .ok (nD n)) (h2 : g r = .ok (tx t)) : methE 0 D_Key_changed (callE D_shift_key (acons f anil)) (acons g anil) r = .ok (tx (shT t (gF n))) := by
  have e : t.map (kf (shf (gF n).val)) = shT t (gF n) := List.map_congr_left fun a _ => shf_kf _ a
  rw [← e]
  exact chg (shf_key (gF n)) ht (callE1_ok h1 (shift_key_ok n)) h2
def fitL (t s : List F) : List Nat := (List.range 26).filter fun g => decide (shT t (gF g) = s)
theorem fit_ok {t s : List F} (ht : t.length ≤ 1000) : D_keys_that_fit [tx t, tx s, nD 26] = .ok (.tup ((fitL t s).map nD)) := by
  refine runF_rt rfl ?_
  let r0 : LE := [.val (tx t), .val (tx s), .val (nD 26), .un]
  show F_keys_that_fit r0 = _
  unfold F_keys_that_fit
  refine retS_ok (callE1_ok (x := .lst ((fitL t s).map nD)) (lE_ok ?_) rfl)
  exact compF_fmM (e := nD) (h := nD) (p := fun g => decide (shT t (gF g) = s)) (l := List.range 26) (rng1E_ok (n := 26) (callE2_ok (x := nD 26) (y := nD 26) rfl rfl rfl) (by omega)) (by simp) fun g hg => ⟨[.val (tx t), .val (tx s), .val (nD 26), .val (nD g)], rfl, cmpT_ok (shift_chg ht rfl rfl) (y := tx s) rfl (eqD_tx _ _), fun _ => rfl⟩
theorem add_inj2 : ∀ a g h : F, a + g = a + h → g = h := by decide +kernel
theorem one_26 : ∀ G : F, (List.range 26).filter (fun i => decide (i = G.val)) = [G.val] := by decide
theorem fit_one {t : List F} (ht : t ≠ []) (n : Nat) : fitL t (shT t (gF n)) = [n % 26] := by
  unfold fitL
  rw [← gF_val n, ← one_26 (gF n)]
  refine List.filter_congr fun i hi => ?_
  have hi := List.mem_range.mp hi
  rw [decide_eq_decide]
  constructor
  · intro e
    cases t with
    | nil => exact absurd rfl ht
    | cons a t =>
      have e := (List.cons.inj e).1
      have := congrArg Fin.val (add_inj2 a _ _ e)
      rw [gF_val i, Nat.mod_eq_of_lt hi] at this
      exact this
  · intro e
    have : gF i = gF n := Fin.ext (by rw [gF_val i, Nat.mod_eq_of_lt hi]; exact e)
    rw [this]
theorem fit_all (s : List F) (hs : s = []) : fitL [] s = List.range 26 := by
  subst hs
  unfold fitL
  rw [List.filter_eq_self]
  intro i _
  exact decide_eq_true rfl
end K09
set_option Elab.async false
set_option linter.all false
set_option maxRecDepth 100000
namespace K09
open DL PySem L2 PySem.Spec PyProof.Rows
theorem zip_tx (φ : F → F) (t : List F) {f g : LE → R D} {r : LE} (h1 : f r = .ok (tx t)) (h2 : g r = .ok (tx (t.map φ))) : zipE (acons f (acons g anil)) r = .ok (t.map fun a => .tup [sg a, sg (φ a)]) := by
  show (acons f (acons g anil) r >>= zipD) = _
  rw [acons_ok h1 (acons_ok h2 (xs := []) rfl), R.ok_bind]
  show R.ok (zipL ((t.map cp).map fun c => D.str [c]) (((t.map φ).map cp).map fun c => D.str [c])) = _
  rw [sgs, sgs]
  unfold zipL
  rw [List.map_map, zip_maps', List.map_map]
  rfl
theorem get2_ok {fo fe ff : LE → R D} {r : LE} {kvs : List (D × D)} {y z : D} (h1 : fo r = .ok (.dic kvs)) (h2 : fe r = .ok y) (h3 : ff r = .ok z) (hy : y.key1 = true) : get2E fo fe ff r = .ok ((getD kvs y).getD z) := by
  unfold get2E
  rw [h1, R.ok_bind]
  dsimp only
  rw [h2, R.ok_bind, h3, R.ok_bind, if_pos hy]
def partD (φ : F → F) (l : List F) : D := .dic (dcQ sg (fun a => sg (φ a)) l)
def sF (t : List F) : List F := isort (ltk sg) (firsts t)
theorem sF_nd (t : List F) : (sF t).Nodup := (isort_perm _).nodup_iff.mpr (firsts_nodup t)
theorem sF_mem {t : List F} {a : F} : a ∈ sF t ↔ a ∈ t := by
  unfold sF
  rw [isort_mem, firsts_mem]
theorem sF_len (t : List F) : (sF t).length ≤ t.length := by
  unfold sF
  rw [isort_len]
  exact firsts_len t
theorem sort_dic {x : F → D} {t : List F} (h : t.length < 64) : sortedT [.dic (dcQ sg x (firsts t))] = .ok ((sF t).map sg) := by
  have e : (dcQ sg x (firsts t)).map (·.1) = (firsts t).map sg := by
    unfold dcQ
    rw [List.map_map]
    rfl
  show sortDs ((dcQ sg x (firsts t)).map (·.1)) = _
  rw [e]
  have := firsts_len t
  exact sortDs_str (fun a : F => [cp a]) (l := firsts t) (by omega)
theorem part_ok {φ : F → F} (hi : ∀ a b, φ a = φ b → a = b) {t : List F} (ht : t.length ≤ 12) : D_part_of_key [tx t, tx (t.map φ)] = .ok (partD φ (sF t)) := by
  let s := t.map φ
  have hsl : s.length = t.length := List.length_map ..
  have hbk : ∀ a b : F, (sg (φ a)).keq (sg (φ b)) = decide (a = b) := fun a b => by
    rw [sg_keq, decide_eq_decide]
    exact ⟨hi a b, fun e => by rw [e]⟩
  let Fd (l : List F) : D := .dic (dcQ sg (fun a => sg (φ a)) l)
  let Bd (l : List F) : D := .dic (dcQ (fun a => sg (φ a)) sg l)
  refine runF_rt rfl ?_
  let r0 : LE := [.val (tx t), .val (tx s), .un, .un, .un, .un, .un]
  let r1 : LE := [.val (tx t), .val (tx s), .own (.dic []), .own (.dic []), .un, .un, .un]
  show F_part_of_key r0 = _
  unfold F_part_of_key
  refine seqS_go (r' := r0) (check_drop rfl) (seqS_go (r' := r0) (check_drop rfl) (seqS_go (r' := r0) (ifS_no (cmpT_ok (len_tx (t := t) (by omega) rfl) (len_tx (t := s) (by omega) rfl) (by rw [hsl]; exact neD_self (nD_sh _ _))) rfl) (seqS_go (r' := r1) rfl ?_)))
  obtain ⟨r2, h2, c4, c5, hI⟩ := loopS_pre (gd := gTup_ 2 (gCons_ (gN 4) (gCons_ (gN 5) gNil_))) (body := seqS (ifS (orT (cmpT neD (get2E (varP 2) (var 4) (var 5)) (var 5)) (cmpT neD (get2E (varP 3) (var 5) (var 4)) (var 4)))
    (errS ⟨3, .non⟩)
    skipS)
    (seqS (stodS 2 (var 5) (var 4))
    (stodS 3 (var 4) (var 5)))) (e := fun a => D.tup [sg a, sg (φ a)]) (l0 := t)
    (fun done r => ∃ c4 c5, r = [.val (tx t), .val (tx s), .own (Fd (firsts done)), .own (Bd (firsts done)), c4, c5, .un]) (l := t) (done := []) (r := r1) rfl ⟨_, _, rfl⟩ (by
      rintro a done rest r hd ⟨c4, c5, rfl⟩
      have hdl : done.length ≤ 12 := by
        rw [← hd, List.length_append] at ht
        omega
      have hfl := firsts_len done
      let P := firsts done
      have hPl : P.length ≤ done.length := hfl
      let ra : LE := [.val (tx t), .val (tx s), .own (Fd P), .own (Bd P), .val (sg a), .val (sg (φ a)), .un]
      let rb : LE := [.val (tx t), .val (tx s), .own (Fd (adds P a)), .own (Bd P), .val (sg a), .val (sg (φ a)), .un]
      have g1 : get2E (varP 2) (var 4) (var 5) ra = .ok (sg (φ a)) := by
        rw [get2_ok (kvs := dcQ sg (fun a => sg (φ a)) P) (y := sg a) (z := sg (φ a)) rfl rfl rfl rfl, getD_q, dcQ_get sg_keq]
        by_cases q : a ∈ P
        · rw [if_pos q]
          rfl
        · rw [if_neg q]
          rfl
      have g2 : get2E (varP 3) (var 5) (var 4) ra = .ok (sg a) := by
        rw [get2_ok (kvs := dcQ (fun a => sg (φ a)) sg P) (y := sg (φ a)) (z := sg a) rfl rfl rfl rfl, getD_q, dcQ_get (e := fun a => sg (φ a)) hbk]
        by_cases q : a ∈ P
        · rw [if_pos q]
          rfl
        · rw [if_neg q]
          rfl
      have hlen : ∀ (e x : F → D), (dcQ e x P).length < 16777216 := fun e x => by
        unfold dcQ
        rw [List.length_map]
        omega
      have s1 : stodS 2 (var 5) (var 4) ra = .ok (.nx rb) := by
        refine (stodS_ok (kvs := dcQ sg (fun a => sg (φ a)) P) (d := sg (φ a)) (y := sg a) rfl rfl rfl rfl (hlen _ _)).trans ?_
        rw [putD_q, dcQ_put sg_keq (x' := fun a => sg (φ a)) rfl fun _ _ _ => rfl]
        rfl
      have s2 : stodS 3 (var 4) (var 5) rb = .ok (.nx [.val (tx t), .val (tx s), .own (Fd (adds P a)), .own (Bd (adds P a)), .val (sg a), .val (sg (φ a)), .un]) := by
        refine (stodS_ok (kvs := dcQ (fun a => sg (φ a)) sg P) (d := sg a) (y := sg (φ a)) rfl rfl rfl rfl (hlen _ _)).trans ?_
        rw [putD_q, dcQ_put (e := fun a => sg (φ a)) hbk (x' := sg) rfl fun _ _ _ => rfl]
        rfl
      refine ⟨ra, _, rfl, seqS_go (r' := ra) (ifS_no (orT_ff (cmpT_ok g1 (y := sg (φ a)) rfl (neD_self (sg_sh _ _))) (cmpT_ok g2 (y := sg a) rfl (neD_self (sg_sh _ _)))) rfl) (seqS_go s1 s2), .val (sg a), .val (sg (φ a)), ?_⟩
      rw [firsts_snoc])
  rw [List.nil_append] at hI
  subst hI
  refine seqS_go (forS_ok (zip_tx φ t rfl rfl) h2) ?_
  let r3 : LE := [.val (tx t), .val (tx s), .own (Fd (firsts t)), .own (Bd (firsts t)), c4, c5, .un]
  have hs := sF_len t
  refine retS_ok (callE1_ok (x := .lst ((sF t).map fun a => .tup [sg a, sg (φ a)])) (lE_ok (compF_mapM (e := sg) (h := fun a => .tup [sg a, sg (φ a)]) (l := sF t) (itB_l (lE_ok (callF1_k (x := Fd (firsts t)) rfl (sort_dic (by omega))))) (by omega) fun a ha => ⟨[.val (tx t), .val (tx s), .own (Fd (firsts t)), .own (Bd (firsts t)), c4, c5, .val (sg a)], rfl, tupE_ok (acons_ok (x := sg a) rfl (acons_ok (subE_k (x := Fd (firsts t)) (y := sg a) rfl rfl ?_) (xs := []) rfl)) (by simp)⟩)) ?_)
  · show (if (sg a).key1 = true then (match getD (dcQ sg (fun a => sg (φ a)) (firsts t)) (sg a) with | some d => R.ok d | none => .stuck) else .stuck) = _
    rw [getD_q, dcQ_in sg_keq (firsts_mem.mpr (sF_mem.mp ha))]
    rfl
  · rw [dictD_dc sg_key1 sg_keq, firsts_of_nodup (sF_nd t)]
    rfl
theorem neX_self {x : F → D} (hx : ∀ a, (x a).sh 64 = true) {l : List F} : neX (.dic (dcQ sg x l)) (.dic (dcQ sg x l)) = .ok (.bl false) := by
  have h1 : dicOk (dcQ sg x l) = true := by
    unfold dicOk dcQ
    rw [List.map_map]
    exact shs_map fun a _ => hx a
  have h2 : dicEq (dcQ sg x l) (dcQ sg x l) = true := by
    unfold dicEq
    rw [Bool.and_eq_true]
    refine ⟨beq_self_eq_true _, ?_⟩
    rw [List.all_eq_true]
    intro p hp
    obtain ⟨a, ha, rfl⟩ := List.mem_map.mp hp
    dsimp only
    rw [getD_q, dcQ_in sg_keq ha]
    exact eqb_self _ 64 (hx a)
  show (if dicOk (dcQ sg x l) && dicOk (dcQ sg x l) then R.ok (D.bl (!dicEq (dcQ sg x l) (dcQ sg x l))) else .stuck) = _
  rw [h1, h2]
  rfl
def wi (w : List F) (i : Nat) : Nat := (nth w (i % w.length)).val
theorem opF_gap : ∀ a b : F, (((opF true a b).val : Int) - (a.val : Int)) % 26 = (b.val : Int) := by decide +kernel
theorem zip_rng {s t : List F} (h : s.length = t.length) {f g : LE → R D} {r : LE} (h1 : f r = .ok (tx t)) (h2 : g r = .ok (tx s)) : zipE (acons f (acons g anil)) r = .ok ((List.range t.length).map fun i => .tup [sg (nth t i), sg (nth s i)]) := by
  show (acons f (acons g anil) r >>= zipD) = _
  rw [acons_ok h1 (acons_ok h2 (xs := []) rfl), R.ok_bind]
  show R.ok (zipL ((t.map cp).map fun c => D.str [c]) ((s.map cp).map fun c => D.str [c])) = _
  rw [sgs, sgs]
  have e1 : t.map sg = (List.range t.length).map fun i => sg (nth t i) := by
    rw [show (fun i => sg (nth t i)) = sg ∘ nth t from rfl, ← List.map_map, tx_map]
  have e2 : s.map sg = (List.range t.length).map fun i => sg (nth s i) := by
    rw [← h, show (fun i => sg (nth s i)) = sg ∘ nth s from rfl, ← List.map_map, tx_map]
  rw [e1, e2]
  unfold zipL
  rw [zip_maps', List.map_map]
  rfl
def per (n : Nat) (W : Nat → Nat) (s : Nat) : Bool := (List.range n).all fun k => decide (W k = W (k % s))
/-- the word told -/
def told (n : Nat) (w : List F) (s : Nat) : List F := (List.range s).map fun k => if k < n then nth w (k % w.length) else 0
theorem any_all {n : Nat} {p : Nat → Bool} : (if ((List.range n).any fun a => p a == false) = true then false else !false) = (List.range n).all p := by
  cases e : (List.range n).all p with
  | true =>
    rw [if_neg]
    · rfl
    · rw [List.any_eq_true]
      rintro ⟨a, ha, h⟩
      rw [List.all_eq_true.mp e a ha] at h
      cases h
  | false =>
    rw [if_pos]
    rw [List.any_eq_true]
    have := List.all_eq_false.mp e
    obtain ⟨a, ha, h⟩ := this
    refine ⟨a, ha, ?_⟩
    cases q : p a with
    | true => exact absurd q h
    | false => rfl
theorem word_shift_ok {t w : List F} (ht : t.length ≤ 12) (w1 : 1 ≤ w.length) (w5 : w.length ≤ 5) : ∃ s, 1 ≤ s ∧ s ≤ w.length ∧ per t.length (wi w) s = true ∧ D_word_of_shifts [tx t, tx (shl true t w), nD 12] = .ok (tx (told t.length w s)) := by
  let S := shl true t w
  have hSl : S.length = t.length := shl_len _ _ _
  let r0 : LE := [.val (tx t), .val (tx S), .val (nD 12), .un, .un, .un, .un, .un]
  let Gs : D := .lst ((List.range t.length).map fun i => nD (wi w i))
  let r1 : LE := [.val (tx t), .val (tx S), .val (nD 12), .val Gs, .un, .un, .un, .un]
  have hg : compF (zipE (acons (var 0) (acons (var 1) anil))) (gTup_ 2 (gCons_ (gN 4) (gCons_ (gN 5) gNil_))) yesT (opE modD (opE subD (bmE "str" sidxD (cst d_LETTERS) (acons (var 5) anil)) (bmE "str" sidxD (cst d_LETTERS) (acons (var 4) anil))) (cst (.int 26))) [4, 5] r0 = .ok ((List.range t.length).map fun i => nD (wi w i)) := by
    refine compF_mapM (e := fun i => .tup [sg (nth t i), sg (nth S i)]) (h := fun i => nD (wi w i)) (l := List.range t.length) (zip_rng hSl rfl rfl) (by rw [List.length_range]; omega) fun i hi => ⟨[.val (tx t), .val (tx S), .val (nD 12), .un, .val (sg (nth t i)), .val (sg (nth S i)), .un, .un], rfl, ?_⟩
    refine opE_k (opE_k (x := nD (nth S i).val) (y := nD (nth t i).val) (idx_L (cst_L _) rfl) (idx_L (cst_L _) rfl) rfl) (y := .int 26) rfl ((mod26 _).trans ?_)
    rw [show nth S i = opF true (nth t i) (nth w (i % w.length)) from shl_nth (List.mem_range.mp hi), opF_gap]
    rfl
  have hnD : ∀ n : Nat, n ≤ 100 → rng2 [nD 1, nD (n + 1)] = .ok ((List.range n).map fun i => nD (1 + i)) := fun n hn => by
    rw [rng2_int ((n + 1 : Nat) : Int) (by omega) (by omega) 1 (by omega)]
    have e : (((n + 1 : Nat) : Int) - ((1 : Nat) : Int)).toNat = n := by omega
    rw [e]
  have glen : ∀ x : LE, var 3 x = .ok Gs → callE lenX (acons (var 3) anil) x = .ok (nD t.length) := fun x hx => callE1_ok hx ((lenX_l _).trans (by rw [List.length_map, List.length_range]))
  have gat : ∀ (x : LE) (k : LE → R D) (i : Nat), var 3 x = .ok Gs → k x = .ok (nD i) → i < t.length → subE (var 3) k x = .ok (nD (wi w i)) := fun x k i hx hk hi => subE_k hx hk (subI_lst (by rw [List.getElem?_map, List.getElem?_range hi]; rfl))
  have key := loopS_find (gd := gN 6) (body := ifS (valT (anyE false (rng1E (acons (callE lenX (acons (var 3) anil)) anil)) (gN 7) yesT (opE eqD (subE (var 3) (var 7)) (subE (var 3) (opE modD (var 7) (var 6)))) [7]))
    (retS (bmE "str" joinD (cst (.str [])) (acons (lE (compF (rng1E (acons (var 6) anil)) (gN 7) yesT (subE (cst d_LETTERS) (iteE (cmpT ltD (var 7) (callE lenX (acons (var 3) anil))) (subE (var 3) (var 7)) (cst (.int 0)))) [7])) anil)))
    skipS) (e := fun i => nD (1 + i)) (fun r => ∃ c6, r = [.val (tx t), .val (tx S), .val (nD 12), .val Gs, .un, .un, c6, .un]) (fun i => per t.length (wi w) (1 + i)) (fun i o => o = .rt (tx (told t.length w (1 + i)))) (l := List.range 12) (r := r1) ⟨_, rfl⟩ (by
      rintro i r hi ⟨c6, rfl⟩
      have hi := List.mem_range.mp hi
      let s := 1 + i
      let ra : LE := [.val (tx t), .val (tx S), .val (nD 12), .val Gs, .un, .un, .val (nD s), .un]
      have hc : valT (anyE false (rng1E (acons (callE lenX (acons (var 3) anil)) anil)) (gN 7) yesT (opE eqD (subE (var 3) (var 7)) (subE (var 3) (opE modD (var 7) (var 6)))) [7]) ra = .ok (per t.length (wi w) s) := by
        refine valT_ok ?_
        have := anyE_valM (x := false) (fi := rng1E (acons (callE lenX (acons (var 3) anil)) anil)) (gd := gN 7) (te := opE eqD (subE (var 3) (var 7)) (subE (var 3) (opE modD (var 7) (var 6)))) (vs := [7]) (r := ra) (e := nD) (p := fun k => decide (wi w k = wi w (k % s))) (l := List.range t.length) (rng1E_ok (glen _ rfl) (by omega)) fun k hk => by
          have hk := List.mem_range.mp hk
          have hms : k % s ≤ k := Nat.mod_le _ _
          exact ⟨[.val (tx t), .val (tx S), .val (nD 12), .val Gs, .un, .un, .val (nD s), .val (nD k)], rfl, opE_k (gat _ _ k rfl rfl hk) (gat _ _ (k % s) rfl (opE_k (x := nD k) (y := nD s) rfl rfl (mod_nat _ _ (by show 0 < 1 + i; omega))) (by omega)) (eqD_nat _ _)⟩
        rw [this, any_all]
        rfl
      refine ⟨ra, rfl, fun h => ⟨ra, ifS_no (hc.trans (by rw [h])) rfl, _, rfl⟩, fun h => ⟨.rt (tx (told t.length w s)), ifS_yes (hc.trans (by rw [h])) (retS_ok (joinE (l := told t.length w s) ?_ ?_)), rfl, (fun r h => by cases h), (fun r h => by cases h), (fun r h => by cases h)⟩⟩
      · unfold told
        rw [List.map_map]
        refine compF_mapM (e := nD) (h := sg ∘ fun k => if k < t.length then nth w (k % w.length) else 0) (l := List.range s) (rng1E_ok (n := s) rfl (by show 1 + i ≤ 1000000; omega)) (by rw [List.length_range]; show 1 + i ≤ 16777216; omega) fun k hk => ?_
        let x : LE := [.val (tx t), .val (tx S), .val (nD 12), .val Gs, .un, .un, .val (nD s), .val (nD k)]
        have hq : cmpT ltD (var 7) (callE lenX (acons (var 3) anil)) x = .ok (decide (k < t.length)) := cmpT_ok (x := nD k) rfl (glen _ rfl) (ltD_nat _ _)
        refine ⟨x, rfl, ?_⟩
        show _ = R.ok (sg (if k < t.length then nth w (k % w.length) else 0))
        by_cases q : k < t.length
        · rw [if_pos q]
          exact subE_k (x := tx LET) (y := nD (nth w (k % w.length)).val) (cst_L _) (iteE_yes (hq.trans (by rw [decide_eq_true q])) (gat _ _ k rfl rfl q)) (LET_at _)
        · rw [if_neg q]
          exact subE_k (x := tx LET) (y := nD 0) (cst_L _) (iteE_no (hq.trans (by rw [decide_eq_false q])) rfl) (LET_at 0)
      · unfold told
        rw [List.length_map, List.length_range]
        show 1 + i ≤ 1000
        omega)
  have hper : per t.length (wi w) w.length = true := by
    unfold per
    rw [List.all_eq_true]
    intro k _
    refine decide_eq_true ?_
    unfold wi
    rw [Nat.mod_mod]
  have hfi : rng2E (acons (cst (.int 1)) (acons (opE addD (var 2) (cst (.int 1))) anil)) r1 = .ok ((List.range 12).map fun i => nD (1 + i)) := by
    rw [rng2E_eq, acons_ok (x := nD 1) rfl (acons_ok (opE_k (x := nD 12) (y := nD 1) rfl rfl (addD_nat 12 1)) (xs := []) rfl), R.ok_bind]
    exact hnD 12 (by omega)
  rcases key with ⟨hn, _⟩ | ⟨i, hi, o, ho, rfl⟩
  · exfalso
    have := List.find?_eq_none.mp hn (w.length - 1) (List.mem_range.mpr (by omega))
    rw [show 1 + (w.length - 1) = w.length by omega, hper] at this
    exact this rfl
  · have hp := List.find?_some hi
    refine ⟨1 + i, by omega, ?_, hp, ?_⟩
    · by_cases q : 1 + i ≤ w.length
      · exact q
      · exfalso
        have hm : i ∈ List.range 12 := List.mem_of_find?_eq_some hi
        -- the first that fits is not behind the word's own length
        obtain ⟨_, as, bs, e, hbefore⟩ := List.find?_eq_some_iff_append.mp hi
        have hlt : w.length - 1 ∈ as := by
          have h2 : as.length = i := by
            have hg : (List.range 12)[as.length]? = some i := by rw [e]; simp
            obtain ⟨h3, h4⟩ := List.getElem?_eq_some_iff.mp hg
            rw [List.getElem_range] at h4
            exact h4
          have hg : as[w.length - 1]? = some (w.length - 1) := by
            have : (List.range 12)[w.length - 1]? = some (w.length - 1) := List.getElem?_range (by have := List.mem_range.mp hm; omega)
            rw [e, List.getElem?_append_left (by omega)] at this
            exact this
          exact List.mem_of_getElem? hg
        have := hbefore _ hlt
        rw [show 1 + (w.length - 1) = w.length by omega, hper] at this
        cases this
    · refine runF_rt rfl ?_
      show F_word_of_shifts r0 = _
      unfold F_word_of_shifts
      exact seqS_go (r' := r0) (check_drop rfl) (seqS_go (r' := r0) (check_drop rfl) (seqS_go (r' := r0) (ifS_no (cmpT_ok (len_tx (t := t) (by omega) rfl) (len_tx (t := S) (by omega) rfl) (by rw [hSl]; exact neD_self (nD_sh _ _))) rfl) (seqS_go (r' := r1) (setK_val (lE_ok hg)) (seqS_rt (forS_ok hfi ho)))))
theorem told_len (n : Nat) (w : List F) (s : Nat) : (told n w s).length = s := by
  unfold told
  rw [List.length_map, List.length_range]
/-- the told word shifts as the word does -/
theorem told_shl {t w : List F} {s : Nat} (s1 : 1 ≤ s) (h : per t.length (wi w) s = true) : shl true t (told t.length w s) = shl true t w := by
  refine nth_ext (by rw [shl_len, shl_len]) fun i hi => ?_
  rw [shl_len] at hi
  rw [shl_nth hi, shl_nth hi, told_len]
  have hm : i % s ≤ i := Nat.mod_le _ _
  have hlt : i % s < s := Nat.mod_lt _ (by omega)
  have e : nth (told t.length w s) (i % s) = nth w (i % s % w.length) := by
    unfold told
    show ((List.range s).map fun k => if k < t.length then nth w (k % w.length) else 0)[i % s]?.getD 0 = _
    rw [List.getElem?_map, List.getElem?_range hlt]
    show (if i % s < t.length then nth w (i % s % w.length) else 0) = _
    rw [if_pos (by omega)]
  rw [e]
  have := of_decide_eq_true (List.all_eq_true.mp h i (List.mem_range.mpr hi))
  unfold wi at this
  rw [Fin.ext this]
def pairs (t : List F) : Nat := ((List.range t.length).map fun k => ((t.take k).countP fun a => decide (a = nth t k))).sum
def tri (c : Nat) : Nat := c * (c - 1) / 2
def cntF (t : List F) (a : F) : Nat := t.countP fun b => decide (b = a)
theorem tri_succ (c : Nat) : tri (c + 1) = tri c + c := by
  unfold tri
  rw [Nat.add_sub_cancel]
  cases c with
  | zero => rfl
  | succ c =>
    rw [Nat.add_sub_cancel]
    have : (c + 1 + 1) * (c + 1) = (c + 1) * c + 2 * (c + 1) := by
      rw [Nat.add_mul (c + 1) 1 (c + 1), Nat.mul_add (c + 1) c 1]
      omega
    rw [this]
    omega
theorem pairs_snoc (t : List F) (a : F) : pairs (t ++ [a]) = pairs t + cntF t a := by
  unfold pairs cntF
  rw [List.length_append, List.length_singleton, List.range_succ, List.map_append, List.sum_append]
  congr 1
  · congr 1
    refine List.map_congr_left fun k hk => ?_
    have hk := List.mem_range.mp hk
    have e1 : nth (t ++ [a]) k = nth t k := by
      unfold nth
      rw [List.getElem?_append_left hk]
    rw [e1, List.take_append_of_le_length (by omega)]
  · have e1 : nth (t ++ [a]) t.length = a := by
      unfold nth
      simp
    show ((t ++ [a]).take t.length).countP (fun b => decide (b = nth (t ++ [a]) t.length)) + 0 = _
    rw [e1, List.take_left, Nat.add_zero]
theorem sum_one (g : F → Nat) (a : F) (c : Nat) : ∀ l : List F, l.Nodup → a ∈ l → (l.map fun b => g b + if a = b then c else 0).sum = (l.map g).sum + c
  | [], _, h => by cases h
  | b :: l, hn, hm => by
    obtain ⟨n1, n2⟩ := List.nodup_cons.mp hn
    rw [List.map_cons, List.sum_cons, List.map_cons, List.sum_cons]
    by_cases e : a = b
    · subst e
      rw [if_pos rfl]
      have : (l.map fun b => g b + if a = b then c else 0) = l.map g := List.map_congr_left fun d hd => by
        rw [if_neg (fun (q : a = d) => n1 (q ▸ hd)), Nat.add_zero]
      rw [this]
      omega
    · rw [if_neg e, sum_one g a c l n2 ((List.mem_cons.mp hm).resolve_left e)]
      omega
theorem pairs_step {t : List F} (a : F) (ih : pairs t = (LET.map fun a => tri (cntF t a)).sum) : pairs (t ++ [a]) = (LET.map fun b => tri (cntF (t ++ [a]) b)).sum := by
  rw [pairs_snoc, ih]
  have e : (LET.map fun b => tri (cntF (t ++ [a]) b)) = LET.map fun b => tri (cntF t b) + if a = b then cntF t a else 0 := List.map_congr_left fun b _ => by
    unfold cntF
    rw [List.countP_append]
    by_cases e : a = b
    · subst e
      rw [if_pos rfl]
      have : [a].countP (fun b => decide (b = a)) = 1 := by simp
      rw [this, tri_succ]
    · rw [if_neg e]
      have : [a].countP (fun c => decide (c = b)) = 0 := by simp [e]
      rw [this]
      rfl
  rw [e, sum_one _ _ _ LET LET_nd (LET_mem a)]
theorem pairs_tri_n : ∀ (n : Nat) (t : List F), t.length = n → pairs t = (LET.map fun a => tri (cntF t a)).sum
  | 0, t, h => by
    have := List.eq_nil_of_length_eq_zero h
    subst this
    decide
  | n + 1, t, h => by
    rcases List.eq_nil_or_concat t with e | ⟨u, a, e⟩
    · subst e
      cases h
    · rw [List.concat_eq_append] at e
      subst e
      refine pairs_step a (pairs_tri_n n u ?_)
      rw [List.length_append, List.length_singleton] at h
      omega
theorem pairs_tri (t : List F) : pairs t = (LET.map fun a => tri (cntF t a)).sum := pairs_tri_n _ t rfl
theorem filter_take {t : List F} {k : Nat} (hk : k < t.length) : (((List.range k).filter fun j => decide (nth t j = nth t k)).map fun _ => 1).sum = (t.take k).countP fun a => decide (a = nth t k) := by
  have e : t.take k = (List.range k).map (nth t) := by
    refine List.ext_getElem? fun i => ?_
    by_cases hi : i < k
    · rw [List.getElem?_take_of_lt hi, nth_get (by omega), List.getElem?_map, List.getElem?_range hi]
      rfl
    · rw [List.getElem?_eq_none (by rw [List.length_take]; omega), List.getElem?_eq_none (by rw [List.length_map, List.length_range]; omega)]
  rw [e, List.countP_map, List.countP_eq_length_filter]
  have : ∀ l : List Nat, (l.map fun _ => 1).sum = l.length := fun l => by
    induction l with
    | nil => rfl
    | cons a l ih => rw [List.map_cons, List.sum_cons, ih, List.length_cons]; omega
  rw [this]
  rfl
theorem pairs_b {t : List F} (ht : t.length ≤ 12) : pairs t ≤ 144 := by
  unfold pairs
  have : ∀ l : List Nat, (∀ k ∈ l, k < t.length) → (l.map fun k => ((t.take k).countP fun a => decide (a = nth t k))).sum ≤ l.length * 12 := fun l => by
    induction l with
    | nil => intro _; simp
    | cons k l ih =>
      intro h
      have h1 := ih fun j hj => h j (List.mem_cons_of_mem _ hj)
      have h2 : ((t.take k).countP fun a => decide (a = nth t k)) ≤ (t.take k).length := List.countP_le_length
      rw [List.length_take] at h2
      rw [List.map_cons, List.sum_cons, List.length_cons]
      omega
  have := this (List.range t.length) fun k hk => List.mem_range.mp hk
  rw [List.length_range] at this
  omega
theorem alike_ok {t : List F} (ht : t.length ≤ 12) : D_alike_places [tx t] = .ok (nD (pairs t)) := by
  refine runF_rt rfl ?_
  let r0 : LE := [.val (tx t), .un, .un]
  show F_alike_places r0 = _
  unfold F_alike_places
  have e : ((List.range t.length).map fun k => (((List.range k).filter fun j => decide (nth t j = nth t k)).map fun _ => 1).sum).sum = pairs t := by
    unfold pairs
    congr 1
    exact List.map_congr_left fun k hk => filter_take (List.mem_range.mp hk)
  have hb := pairs_b ht
  refine retS_ok ?_
  rw [← e]
  refine sumE2_fmN (e := nD) (e1 := nD) (h := fun _ _ => 1) (p := fun k j => decide (nth t j = nth t k)) (l := List.range t.length) (m := fun k => List.range k) (rng1E_ok (len_tx (t := t) (by omega) rfl) (by omega)) (fun k hk => ?_) (by rw [e]; omega)
  have hk := List.mem_range.mp hk
  refine ⟨[.val (tx t), .val (nD k), .un], rfl, rng1E_ok (n := k) rfl (by omega), by rw [List.length_range]; omega, fun j hj => ?_⟩
  have hj := List.mem_range.mp hj
  exact ⟨[.val (tx t), .val (nD k), .val (nD j)], rfl, cmpT_ok (subE_k (x := tx t) (y := nD j) rfl rfl (at_tx (nth_get (by omega)) (by omega))) (subE_k (x := tx t) (y := nD k) rfl rfl (at_tx (nth_get hk) (by omega))) (eqD_sg _ _), fun _ => rfl⟩
end K09
set_option Elab.async false
set_option linter.all false
set_option maxRecDepth 100000
namespace K09
open DL PySem L2 PySem.Spec PyProof.Rows
abbrev SR (w1 w2 t : List F) (f : Nat → Cell) : LE := [.val .dice, .val (tx LET), .val (wsD w1 w2), .val (keyD (kow w1)), .val (tx t), .val (tx (sent w1 t)), f 6, f 7, f 8, f 9, f 10, f 11, f 12, f 13, f 14, f 15, f 16]
variable {w1 w2 t : List F}
theorem wr_of {P : Out → Prop} {F : LE → R Out} {x : LE} (h : GoP P F x) : Wr (F x) P := ⟨h.h⟩
theorem eqs {f g : LE → R D} {r : LE} {u : List F} (h1 : f r = .ok (tx u)) (h2 : g r = .ok (tx u)) : cmpT neD f g r = .ok false := cmpT_ok h1 h2 (neD_self (tx_sh _ _))
theorem lr1 (f : Nat → Cell) : Wr (LR1 (SR w1 w2 t f)) (fun o => ∃ r2, o = .nx r2 ∧ ∃ n : Nat, n < 60 ∧ r2 = SR w1 w2 t (up f 6 (.val (nD n)))) :=
  (setK_wr (rollS (n := 60) rfl rfl (by omega) (by omega))).mono fun o ⟨r2, e, d, ⟨i, hi, e2⟩, e3⟩ => ⟨r2, e, i, hi, by subst e2 e3; rfl⟩
theorem add_gF : ∀ (a g : F), (a + g).val = (a.val + g.val) % 26 := fun a g => rfl
theorem add_n (a : F) (n : Nat) : (a.val + n) % 26 = (a + gF n).val := by
  rw [add_gF, gF_val]
  omega
theorem lr2 (ht : t.length ≤ 12) {n : Nat} (f : Nat → Cell) (h6 : f 6 = .val (nD n)) : LR2 (SR w1 w2 t f) = .ok (.nx (SR w1 w2 t f)) := by
  refine ifS_no (eqs (u := shT t (gF n)) (shift_chg (t := t) (by omega) (var_k (congrArg some h6)) rfl) (joinE ?_ (by unfold shT; rw [List.length_map]; omega))) rfl
  unfold shT
  rw [List.map_map]
  refine compF_mapM (e := sg) (h := sg ∘ fun a => a + gF n) (l := t) (itS_tx rfl) (by omega) fun a ha => ⟨SR w1 w2 t (up f 7 (.val (sg a))), rfl, ?_⟩
  refine subE_k (x := tx LET) (y := nD ((a.val + n) % 26)) rfl (opE_k (opE_k (x := nD a.val) (y := nD n) (idx_L rfl rfl) (var_k (congrArg some h6)) (addD_nat _ _)) (y := nD 26) rfl (mod_nat _ _ (by omega))) ?_
  rw [add_n]
  exact LET_at _
abbrev shiftD (t w : List F) : D := tx (shl true t w)
theorem lr3 (ht : t.length ≤ 12) (W : WordOk w1) (f : Nat → Cell) : LR3 (SR w1 w2 t f) = .ok (.nx (SR w1 w2 t (up f 8 (.val (shiftD t w1))))) := by
  have h1 := W.l1
  have h5 := W.l5
  exact (setK_val (callE3_ok (x := tx t) (y := tx w1) (w := .int (wayI true)) rfl (word0 rfl) rfl (shifted_ok (by omega) h1 (by omega) true))).trans rfl
theorem lr4 (ht : t.length ≤ 12) (W : WordOk w1) (f : Nat → Cell) (h8 : f 8 = .val (shiftD t w1)) : LR4 (SR w1 w2 t f) = .ok (.nx (SR w1 w2 t f)) := by
  have h1 := W.l1
  have h5 := W.l5
  refine ifS_no (eqs (u := shl true t w1) (var_k (congrArg some h8)) (joinE ?_ (by rw [shl_len]; omega))) rfl
  unfold shl
  rw [List.map_map]
  refine compF_mapM (e := nD) (h := sg ∘ fun i => opF true (nth t i) (nth w1 (i % w1.length))) (l := List.range t.length) (rng1E_ok (len_tx (t := t) (by omega) rfl) (by omega)) (by rw [List.length_range]; omega) fun i hi => ?_
  have hi := List.mem_range.mp hi
  let x : LE := SR w1 w2 t (up f 9 (.val (nD i)))
  let a := nth t i
  let b := nth w1 (i % w1.length)
  have hm : i % w1.length < w1.length := Nat.mod_lt _ (by omega)
  have g1 : bmE "str" sidxD (var 1) (acons (subE (var 4) (var 9)) anil) x = .ok (nD a.val) := idx_L rfl (subE_k (x := tx t) (y := nD i) rfl rfl (at_tx (nth_get hi) (by omega)))
  have g2 : bmE "str" sidxD (var 1) (acons (subE (subE (var 2) (cst (.int 0))) (opE modD (var 9) (callE lenX (acons (subE (var 2) (cst (.int 0))) anil)))) anil) x = .ok (nD b.val) := idx_L rfl (subE_k (x := tx w1) (word0 rfl) (opE_k (x := nD i) rfl (len_tx (by omega) (word0 rfl)) (mod_nat _ _ (by omega))) (at_tx (nth_get hm) (by omega)))
  refine ⟨x, rfl, subE_k (x := tx LET) (y := nD ((a.val + b.val) % 26)) rfl (opE_k (opE_k g1 g2 (addD_nat _ _)) (y := nD 26) rfl (mod_nat _ _ (by omega))) ?_⟩
  rw [← add_gF]
  exact LET_at _
theorem lr5 (ht : t.length ≤ 12) (W : WordOk w1) (f : Nat → Cell) (h8 : f 8 = .val (shiftD t w1)) : LR5 (SR w1 w2 t f) = .ok (.nx (SR w1 w2 t f)) := by
  have h1 := W.l1
  have h5 := W.l5
  have hm : opE subD (cst (.int 0)) (cst (.int 1)) (SR w1 w2 t f) = .ok (.int (wayI false)) := by kernel_rfl
  refine ifS_no (eqs (u := t) (callE3_ok (x := shiftD t w1) (y := tx w1) (w := .int (wayI false)) (var_k (congrArg some h8)) (word0 rfl) hm ?_) rfl) rfl
  have := shifted_ok (t := shl true t w1) (w := w1) (by rw [shl_len]; omega) h1 (by omega) false
  rw [shl_back] at this
  exact this
theorem lr6 (f : Nat → Cell) : Wr (LR6 (SR w1 w2 t f)) (fun o => ∃ r2, o = .nx r2 ∧ ∃ n : Nat, (1 ≤ n ∧ n ≤ 4) ∧ r2 = SR w1 w2 t (up f 10 (.val (nD n)))) := by
  refine (setK_wr (Q := fun d => ∃ n : Nat, (1 ≤ n ∧ n ≤ 4) ∧ d = nD n) (opS_wr (x := nD 1) rfl (rollS (n := 4) rfl rfl (by omega) (by omega)) fun y ⟨i, hi, e⟩ => ?_)).mono fun o ⟨r2, e, d, ⟨n, hn, e2⟩, e3⟩ => ⟨r2, e, n, hn, by subst e2 e3; rfl⟩
  subst e
  exact Wr.eq (addD_nat 1 i) ⟨1 + i, ⟨by omega, by omega⟩, rfl⟩
theorem lr7 {n : Nat} (n1 : 1 ≤ n) (n4 : n ≤ 4) (f : Nat → Cell) (h10 : f 10 = .val (nD n)) : Wr (LR7 (SR w1 w2 t f)) (fun o => ∃ r2, o = .nx r2 ∧ ∃ σ, Ord n σ ∧ r2 = SR w1 w2 t (up f 11 (.val (odD σ)))) :=
  (setK_wr (callE_wr (xs := [.dice, nD n]) (acons_ok (x := .dice) rfl (acons_ok (var_k (congrArg some h10)) (xs := []) rfl)) (moves_wr (by omega)))).mono fun o ⟨r2, e, d, ⟨l, hl, e2⟩, e3⟩ => ⟨r2, e, l, ⟨n1, n4, hl⟩, by subst e2 e3; rfl⟩
variable {n : Nat} {σ : List Nat}
theorem lr8 (ht : t.length ≤ 12) (O : Ord n σ) (f : Nat → Cell) (h10 : f 10 = .val (nD n)) (h11 : f 11 = .val (odD σ)) : LR8 (SR w1 w2 t f) = .ok (.nx (SR w1 w2 t (up f 12 (.val (tx (colT t n σ)))))) := by
  have hl := O.len
  have n1 := O.n1
  have n4 := O.n4
  have hc : compF (itB (var 11)) (gN 13) yesT (bmE "str" joinD (cst (.str [])) (acons (lE (compF (rng1E (acons (callE lenX (acons (var 4) anil)) anil)) (gN 9) (cmpT eqD (opE modD (var 9) (var 10)) (var 13)) (subE (var 4) (var 9)) [9])) anil)) [13] (SR w1 w2 t f) = .ok ((σ.map fun c => pick t (ci t.length n c)).map tx) := by
    rw [List.map_map]
    refine compF_mapM (e := nD) (h := tx ∘ fun c => pick t (ci t.length n c)) (l := σ) (itB_t (var_k (congrArg some h11))) (by omega) fun c hc => ⟨SR w1 w2 t (up f 13 (.val (nD c))), rfl, ?_⟩
    refine joinE (l := pick t (ci t.length n c)) ?_ (by rw [pick_len]; have := ci_len t.length n c; omega)
    unfold pick ci
    rw [List.map_map]
    exact compF_fmM (e := nD) (h := sg ∘ nth t) (p := fun k => decide (k % n = c)) (l := List.range t.length) (rng1E_ok (len_tx (t := t) (by omega) rfl) (by omega)) (by rw [List.length_range]; omega) fun k hk => by
      have hk := List.mem_range.mp hk
      exact ⟨SR w1 w2 t (up (up f 13 (.val (nD c))) 9 (.val (nD k))), rfl, cmpT_ok (opE_k (x := nD k) (y := nD n) rfl (var_k (congrArg some h10)) (mod_nat _ _ (by omega))) (y := nD c) rfl (eqD_nat _ _), fun _ => subE_k (x := tx t) (y := nD k) rfl rfl (at_tx (nth_get hk) (by omega))⟩
  refine (setK_val (bmE_ok (x := .str []) (xs := [.lst ((σ.map fun c => pick t (ci t.length n c)).map tx)]) rfl rfl (acons_ok (lE_ok hc) (xs := []) rfl) (z := tx (colT t n σ)) ?_)).trans rfl
  rw [join_flatL (by rw [List.length_map]; omega) (fun g hg => by
    obtain ⟨c, _, rfl⟩ := List.mem_map.mp hg
    rw [pick_len]
    have := ci_len t.length n c
    omega), flat_pick]
theorem lr9 (ht : t.length ≤ 12) (O : Ord n σ) (f : Nat → Cell) (h11 : f 11 = .val (odD σ)) (h12 : f 12 = .val (tx (colT t n σ))) : LR9 (SR w1 w2 t f) = .ok (.nx (SR w1 w2 t f)) :=
  ifS_no (orT_ff (eqs (u := colT t n σ) (callE2_ok (x := tx t) (y := odD σ) rfl (var_k (congrArg some h11)) (in_ok ht O)) (var_k (congrArg some h12))) (eqs (u := t) (callE2_ok (x := tx (colT t n σ)) (y := odD σ) (var_k (congrArg some h12)) (var_k (congrArg some h11)) (out_ok ht O)) rfl)) rfl
abbrev fitD (t : List F) (g : Nat) : D := .tup ((fitL t (shT t (gF g))).map nD)
theorem lr10 (ht : t.length ≤ 12) {g : Nat} (f : Nat → Cell) (h6 : f 6 = .val (nD g)) : LR10 (SR w1 w2 t f) = .ok (.nx (SR w1 w2 t (up f 14 (.val (fitD t g))))) :=
  (setK_val (callE3_ok (x := tx t) (y := tx (shT t (gF g))) (w := nD 26) rfl (shift_chg (t := t) (by omega) (var_k (congrArg some h6)) rfl) rfl (fit_ok (by omega)))).trans rfl
theorem neD_tx (a b : List F) : neD (tx a) (tx b) = .ok (.bl (!decide (a = b))) := by
  unfold neD
  rw [tx_sh, tx_sh, if_pos (by rw [Bool.or_eq_true]; exact .inr rfl)]
  show R.ok (D.bl (!(a.map cp == b.map cp))) = _
  congr 3
  rw [Bool.eq_iff_iff, beq_iff_eq, decide_eq_true_eq]
  exact ⟨fun e => (List.map_inj_right fun a b => cp_inj).mp e, fun e => by rw [e]⟩
theorem lr11 {g : Nat} (f : Nat → Cell) (h6 : f 6 = .val (nD g)) (h14 : f 14 = .val (fitD t g)) : LR11 (SR w1 w2 t f) = .ok (.nx (SR w1 w2 t f)) := by
  have h1 : lE (callF listK (acons (var 14) anil)) (SR w1 w2 t f) = .ok (.lst ((fitL t (shT t (gF g))).map nD)) := lE_ok (callF1_k (var_k (congrArg some h14)) rfl)
  have hq : cmpT neD (var 4) (cst (.str [])) (SR w1 w2 t f) = .ok (!decide (t = [])) := cmpT_ok (x := tx t) (y := tx []) rfl rfl (neD_tx _ _)
  refine ifS_no (cmpT_ok h1 (y := .lst ((fitL t (shT t (gF g))).map nD)) ?_ (neD_self (nDs_sh _ 63))) rfl
  by_cases e : t = []
  · refine iteE_no (hq.trans (by rw [decide_eq_true e]; rfl)) (lE_ok ?_)
    have e2 : fitL t (shT t (gF g)) = List.range 26 := by
      subst e
      exact fit_all _ rfl
    rw [e2]
    unfold lrg1E
    exact lrg1_nat 26 (by omega)
  · refine iteE_yes (hq.trans (by rw [decide_eq_false e]; rfl)) ?_
    rw [fit_one e]
    exact lE_ok (lstE_ok (acons_ok (opE_k (x := nD g) (y := nD 26) (var_k (congrArg some h6)) rfl (mod_nat _ _ (by omega))) (xs := []) rfl) (by simp))
theorem lr12 (ht : t.length ≤ 12) (f : Nat → Cell) : LR12 (SR w1 w2 t f) = .ok (.nx (SR w1 w2 t (up f 15 (.val (partD (kf (kow w1)) (sF t)))))) :=
  (setK_val (callE2_ok (x := tx t) (y := tx (sent w1 t)) rfl rfl (part_ok (fun a b e => kf_inj (kow_key w1) e) ht))).trans rfl
theorem lr13 (ht : t.length ≤ 12) (f : Nat → Cell) (h15 : f 15 = .val (partD (kf (kow w1)) (sF t))) : LR13 (SR w1 w2 t f) = .ok (.nx (SR w1 w2 t f)) := by
  have hk := kow_key w1
  have hs := sF_len t
  have hd : callE dictD (acons (lE (compF (itS (var 4)) (gN 7) yesT (tupE (acons (var 7) (acons (cst (.int 1)) anil))) [7])) anil) (SR w1 w2 t f) = .ok (.dic (dcQ sg (fun _ => nD 1) (firsts t))) := by
    refine callE1_ok (x := .lst (t.map fun a => .tup [sg a, nD 1])) (lE_ok (compF_mapM (e := sg) (h := fun a => .tup [sg a, nD 1]) (l := t) (itS_tx rfl) (by omega) fun a ha => ⟨SR w1 w2 t (up f 7 (.val (sg a))), rfl, tupE_ok (acons_ok (x := sg a) rfl (acons_ok (x := nD 1) rfl (xs := []) rfl)) (by simp)⟩)) ?_
    rw [dictD_dc sg_key1 sg_keq]
  have h2 := compF_mapM (fi := itB (lE (callF sortedT (acons (callE dictD (acons (lE (compF (itS (var 4)) (gN 7) yesT (tupE (acons (var 7) (acons (cst (.int 1)) anil))) [7])) anil)) anil)))) (gd := gN 7) (te := tupE (acons (var 7) (acons (methE 0 D_Key_changed (var 3) (acons (var 7) anil)) anil))) (vs := [7]) (r := SR w1 w2 t f) (e := sg) (h := fun a => .tup [sg a, sg (kf (kow w1) a)]) (l := sF t) (itB_l (lE_ok (callF1_k hd (sort_dic (by omega))))) (by omega) fun a ha => ⟨SR w1 w2 t (up f 7 (.val (sg a))), rfl, tupE_ok (acons_ok (x := sg a) rfl (acons_ok (x := sg (kf (kow w1) a)) (chg hk (u := [a]) (by simp) rfl rfl) (xs := []) rfl)) (by simp)⟩
  refine ifS_no (cmpT_ok (var_k (congrArg some h15)) (callE1_ok (x := .lst ((sF t).map fun a => .tup [sg a, sg (kf (kow w1) a)])) (lE_ok h2) (z := partD (kf (kow w1)) (sF t)) ?_) (neX_self fun a => sg_sh _ _)) rfl
  rw [dictD_dc sg_key1 sg_keq, firsts_of_nodup (sF_nd t)]
  rfl
theorem lr14 (ht : t.length ≤ 12) (W : WordOk w1) (f : Nat → Cell) (h8 : f 8 = .val (shiftD t w1)) : ∃ s, 1 ≤ s ∧ s ≤ w1.length ∧ per t.length (wi w1) s = true ∧ LR14 (SR w1 w2 t f) = .ok (.nx (SR w1 w2 t (up f 16 (.val (tx (told t.length w1 s)))))) := by
  obtain ⟨s, s1, s5, hp, e⟩ := word_shift_ok ht W.l1 W.l5
  exact ⟨s, s1, s5, hp, (setK_val (callE3_ok (x := tx t) (y := shiftD t w1) (w := nD 12) rfl (var_k (congrArg some h8)) rfl e)).trans rfl⟩
theorem lr15 (ht : t.length ≤ 12) (W : WordOk w1) {s : Nat} (s1 : 1 ≤ s) (s5 : s ≤ w1.length) (hp : per t.length (wi w1) s = true) (f : Nat → Cell) (h8 : f 8 = .val (shiftD t w1)) (h16 : f 16 = .val (tx (told t.length w1 s))) : LR15 (SR w1 w2 t f) = .ok (.nx (SR w1 w2 t f)) := by
  have h5 := W.l5
  have hl : (told t.length w1 s).length = s := told_len _ _ _
  refine ifS_no (orT_ff ((cmpT_ok (len_tx (by rw [hl]; omega) (var_k (congrArg some h16))) (len_tx (by omega) (word0 rfl)) (gtD_nat _ _)).trans (by rw [decide_eq_false (by rw [hl]; omega)])) (eqs (u := shl true t w1) (callE3_ok (x := tx t) (y := tx (told t.length w1 s)) (w := .int (wayI true)) rfl (var_k (congrArg some h16)) rfl ?_) (var_k (congrArg some h8)))) rfl
  have := shifted_ok (t := t) (w := told t.length w1 s) (by omega) (by rw [hl]; exact s1) (by rw [hl]; omega) true
  rw [told_shl s1 hp] at this
  exact this
theorem count_cp (a : F) : ∀ t : List F, (t.map cp).count (cp a) = cntF t a
  | [] => rfl
  | b :: t => by
    unfold cntF at *
    rw [List.map_cons, List.count_cons, count_cp a t, List.countP_cons]
    have e : (cp b == cp a) = decide (b = a) := by
      rw [Bool.eq_iff_iff, beq_iff_eq, decide_eq_true_eq]
      exact ⟨cp_inj, fun e => by rw [e]⟩
    rw [e]
    rfl
theorem mul_int (a b : Int) (h : -1000000 < a ∧ a < 1000000) : mulD (.int a) (.int b) = .ok (.int (a * b)) := if_pos (.inl (by omega))
theorem tri_at {c : Nat} (hc : c < 1000) {f g : LE → R D} {r : LE} (h : f r = .ok (nD c)) (h2 : g r = .ok (nD c)) : opE fdivD (opE mulD f (opE subD g (cst (.int 1)))) (cst (.int 2)) r = .ok (nD (tri c)) := by
  have e : mulD (nD c) (.int ((c : Int) - 1)) = .ok (nD (c * (c - 1))) := by
    refine (mul_int (c : Int) ((c : Int) - 1) (by omega)).trans ?_
    cases c with
    | zero => rfl
    | succ c =>
      show R.ok (D.int (((c + 1 : Nat) : Int) * (((c + 1 : Nat) : Int) - 1))) = R.ok (D.int (((c + 1) * (c + 1 - 1) : Nat) : Int))
      rw [Nat.add_sub_cancel, Int.natCast_mul, show (((c + 1 : Nat) : Int) - 1) = (c : Int) by omega]
  exact opE_k (x := nD (c * (c - 1))) (y := nD 2) (opE_k (x := nD c) (y := .int ((c : Int) - 1)) h (opE_k (x := nD c) (y := nD 1) h2 rfl rfl) e) rfl (fdiv_nat _ _ (by omega) (by omega))
theorem lr16 (ht : t.length ≤ 12) (f : Nat → Cell) : LR16 (SR w1 w2 t f) = .ok (.nx (SR w1 w2 t f)) := by
  have hs : compF (itS (var 1)) (gN 7) yesT (opE fdivD (opE mulD (bmE "str" countD (var 4) (acons (var 7) anil)) (opE subD (bmE "str" countD (var 4) (acons (var 7) anil)) (cst (.int 1)))) (cst (.int 2))) [7] (SR w1 w2 t f) = .ok (LET.map fun a => nD (tri (cntF t a))) := by
    refine compF_mapM (e := sg) (h := fun a => nD (tri (cntF t a))) (l := LET) (itS_tx rfl) (by rw [LET_len]; omega) fun a ha => ⟨SR w1 w2 t (up f 7 (.val (sg a))), rfl, ?_⟩
    have hc : cntF t a ≤ t.length := List.countP_le_length
    have g : bmE "str" countD (var 4) (acons (var 7) anil) (SR w1 w2 t (up f 7 (.val (sg a)))) = .ok (nD (cntF t a)) := by
      refine bmE_ok (x := tx t) (xs := [sg a]) rfl rfl (acons_ok (x := sg a) rfl (xs := []) rfl) ?_
      show R.ok (D.int (((t.map cp).count (cp a) : Nat) : Int)) = _
      rw [count_cp]
    exact tri_at (by omega) g g
  refine ifS_no (cmpT_ok (x := nD (pairs t)) (callE1_ok (x := tx t) rfl (alike_ok ht)) (callE1_ok (lE_ok hs) (z := nD (pairs t)) ?_) (neD_self (nD_sh _ _))) rfl
  rw [pairs_tri]
  exact sumD_map (fun a => tri (cntF t a)) LET
theorem cases_ok : D_law_cases1 [] = .ok (.bl true) := by kernel_rfl
theorem lr17 (f : Nat → Cell) : LR17 (SR w1 w2 t f) = .ok (.nx (SR w1 w2 t f)) :=
  ifS_no (notT_ok (valT_ok (b := true) (by exact cases_ok))) rfl
theorem check_A : D_check_text [.str [65]] = .err ⟨3, .non⟩ := by kernel_rfl
theorem chg_A (k : List F) : D_Key_changed [keyD k, .str [65]] = .err ⟨3, .non⟩ := by
  show runF 2 3 F_Key_changed [keyD k, .str [65]] = _
  let r0 : LE := [.val (keyD k), .val (.str [65]), .un]
  have h0 : dropS (callE D_check_text (acons (var 1) anil)) r0 = .ok (.ex ⟨3, .non⟩ r0) := by
    unfold dropS
    rw [callE_err (xs := [.str [65]]) rfl check_A]
    rfl
  have h : F_Key_changed r0 = .ok (.ex ⟨3, .non⟩ r0) := by
    unfold F_Key_changed
    exact seqS_ex h0
  exact runF_ex rfl h
theorem lr18 (f : Nat → Cell) : LR18 (SR w1 w2 t f) = .ok (.nx (SR w1 w2 t f)) :=
  ifS_no (cmpT_ok (told_er (t := [98, 111, 111, 107]) (meth_err (c := 0) (f := var 3) (fs := [tx (kow w1)]) rfl (acons_ok (x := .str [65]) rfl (xs := []) rfl) (chg_A _)) rfl) rfl (neD_self (by decide))) rfl
theorem rest1_wr (W1 : WordOk w1) (ht : t.length ≤ 12) : Wr (D_law_rest1 [.dice, tx LET, wsD w1 w2, keyD (kow w1), tx t, tx (sent w1 t)]) (fun d => d = .bl true) := by
  refine runF_wr rfl ?_
  show Wr (F_law_rest1 (SR w1 w2 t fun _ => .un)) _
  rw [F_law_rest1_split]
  refine wr_of (F := LRs1) ?_
  refine GoP.wrS (S := LR1) (K := LRs2) (lr1 _) ?_
  rintro x ⟨g, hg, rfl⟩
  refine GoP.okS (S := LR2) (K := LRs3) (lr2 ht _ rfl) ?_
  refine GoP.okS (S := LR3) (K := LRs4) (lr3 ht W1 _) ?_
  refine GoP.okS (S := LR4) (K := LRs5) (lr4 ht W1 _ rfl) ?_
  refine GoP.okS (S := LR5) (K := LRs6) (lr5 ht W1 _ rfl) ?_
  refine GoP.wrS (S := LR6) (K := LRs7) (lr6 _) ?_
  rintro x ⟨n, ⟨n1, n4⟩, rfl⟩
  refine GoP.wrS (S := LR7) (K := LRs8) (lr7 n1 n4 _ rfl) ?_
  rintro x ⟨σ, O, rfl⟩
  refine GoP.okS (S := LR8) (K := LRs9) (lr8 ht O _ rfl rfl) ?_
  refine GoP.okS (S := LR9) (K := LRs10) (lr9 ht O _ rfl rfl) ?_
  refine GoP.okS (S := LR10) (K := LRs11) (lr10 ht _ rfl) ?_
  refine GoP.okS (S := LR11) (K := LRs12) (lr11 _ rfl rfl) ?_
  refine GoP.okS (S := LR12) (K := LRs13) (lr12 ht _) ?_
  refine GoP.okS (S := LR13) (K := LRs14) (lr13 ht _ rfl) ?_
  obtain ⟨s, s1, s5, hp, e⟩ := lr14 (w2 := w2) ht W1 (up (up (up (up (up (up (up (up (fun _ => .un) 6 (.val (nD g))) 8 (.val (shiftD t w1))) 10 (.val (nD n))) 11 (.val (odD σ))) 12 (.val (tx (colT t n σ)))) 14 (.val (fitD t g))) 15 (.val (partD (kf (kow w1)) (sF t)))) 0 .un) rfl
  refine GoP.okS (S := LR14) (K := LRs15) e ?_
  refine GoP.okS (S := LR15) (K := LRs16) (lr15 ht W1 s1 s5 hp _ rfl rfl) ?_
  refine GoP.okS (S := LR16) (K := LRs17) (lr16 ht _) ?_
  refine GoP.okS (S := LR17) (K := LRs18) (lr17 _) ?_
  refine GoP.okS (S := LR18) (K := LRs19) (lr18 _) ?_
  exact ⟨⟨_, rfl, rfl⟩⟩
theorem last1 (W1 : WordOk w1) (ht : t.length ≤ 12) {x : LE} (hx : acons (var 1) (acons (var 2) (acons (var 3) (acons (var 4) (acons (var 6) (acons (var 8) anil))))) x = .ok [.dice, tx LET, wsD w1 w2, keyD (kow w1), tx t, tx (sent w1 t)]) : GoP Done (ifS (notT (valT (callE D_law_rest1 (acons (var 1) (acons (var 2) (acons (var 3) (acons (var 4) (acons (var 6) (acons (var 8) anil))))))))) (retS (cst (.bl false))) skipS) x := by
  refine lastS ?_
  rw [notT_eq, valT_eq]
  exact not_wr (callE_wr hx (rest1_wr W1 ht))
theorem lw15 (W1 : WordOk w1) (ht : t.length ≤ 12) (f : Nat → Cell) (h6 : f 6 = .val (tx t)) (h8 : f 8 = .val (tx (sent w1 t))) : GoP Done LW15 (ST w1 w2 f) := by
  unfold LW15
  exact last1 W1 ht (acons_ok (x := .dice) rfl (acons_ok (x := tx LET) rfl (acons_ok (x := wsD w1 w2) rfl (acons_ok (x := keyD (kow w1)) rfl (acons_ok (var_k (congrArg some h6)) (acons_ok (var_k (congrArg some h8)) (xs := []) rfl))))))
theorem law_go : GoP Done F_law (r0 15) := by
  rw [F_law_split]
  refine GoP.wrS (S := LW1) (K := LWs2) lw1 ?_
  rintro x ⟨w1, w2, W1, W2, rfl⟩
  have R := word_rnd W1
  refine GoP.okS (S := LW2) (K := LWs3) (lw2 W1 W2 _) ?_
  refine GoP.okS (S := LW3) (K := LWs4) (lw3 W1 _) ?_
  refine GoP.wrS (S := LW4) (K := LWs5) (lw4 _) ?_
  rintro x ⟨t, ht, rfl⟩
  refine GoP.okS (S := LW5) (K := LWs6) (lw5 ht _ rfl) ?_
  refine GoP.okS (S := LW6) (K := LWs7) (lw6 ht _ rfl rfl) ?_
  refine GoP.okS (S := LW7) (K := LWs8) (lw7 ht _ rfl rfl) ?_
  refine GoP.okS (S := LW8) (K := LWs9) (lw8 _) ?_
  refine GoP.okS (S := LW9) (K := LWs10) (lw9 _) ?_
  refine GoP.okS (S := LW10) (K := LWs11) (lw10 R _ rfl) ?_
  obtain ⟨c, e⟩ := lw11 (w2 := w2) R (up (up (up (fun _ => .un) 6 (.val (tx t))) 8 (.val (tx (sent w1 t)))) 10 (.val (rgD w1))) rfl
  refine GoP.okS (S := LW11) (K := LWs12) e ?_
  refine GoP.okS (S := LW12) (K := LWs13) (lw12 R _ rfl) ?_
  refine GoP.okS (S := LW13) (K := LWs14) (lw13 R _ rfl rfl) ?_
  refine GoP.okS (S := LW14) (K := LWs15) (lw14 R _ rfl) ?_
  exact lw15 W1 ht _ rfl rfl
theorem holds : LawOk F_law 15 := .of law_go
end K09
local macro_rules | `(tactic| o_head ($f $k $a $e $t)) => `(tactic| o_head ((PySem.W.kmHook $k $a $e [333,340,164,276,281] : _)))
open PySem PySem.W PyProof.Rows in
set_option maxRecDepth 100000 in
set_option maxHeartbeats 0 in
theorem PySem.Challenge.cw_flaghall_k09_ciphers_holds : PySem.Challenge.rw_flaghall_k09_ciphers.Holds := by
  w_on; o_law; k_head; (case hw => w_witness2)
  k_fill
  refine LamX.walk_ofTs (l := PySem.Challenge.rw_flaghall_k09_ciphers) (n := 63) (k := 8) (x := "script") (CX := fun w => L2.CX PySem.Challenge.rw_flaghall_k09_ciphers.prog w) rfl (by decide) rfl ⟨rfl, by decide, by decide⟩ (fun w h Y => PySem.W.km_in_of Y) ?F (fun w H s e s' z => by obtain ⟨_, _, _, _, _, _, _, _, _, _, _, _, z⟩ := z; exact z)
  case F =>
    intro w mg fa h Y KX hN hmg
    refine' K09.all_mk KX hN hmg (PySem.W.km_tabs_of Y) K09.holds ?nk_law_dice ?lk_law_dice ?dk_law_dice ?kk_law_dice ?nk_law_roll ?lk_law_roll ?dk_law_roll ?kk_law_roll ?nk_law_rounds ?lk_law_rounds ?dk_law_rounds ?kk_law_rounds ?nk_law_told ?lk_law_told ?dk_law_told ?kk_law_told ?nk_law_word ?lk_law_word ?dk_law_word ?kk_law_word ?nk_check_text ?lk_check_text ?dk_check_text ?kk_check_text ?ck_Key ?nk_Key_init ?ik_Key_init ?lk_Key_init ?dk_Key_init ?kk_Key_init ?nk_key_of_word ?lk_key_of_word ?dk_key_of_word ?kk_key_of_word ?nk_law_key ?lk_law_key ?dk_law_key ?kk_law_key ?nk_Key_changed ?ik_Key_changed ?lk_Key_changed ?dk_Key_changed ?kk_Key_changed ?nk_Key_undoer ?ik_Key_undoer ?lk_Key_undoer ?dk_Key_undoer ?kk_Key_undoer ?nk_Key_behind ?ik_Key_behind ?lk_Key_behind ?dk_Key_behind ?kk_Key_behind ?nk_Key_kept ?ik_Key_kept ?lk_Key_kept ?dk_Key_kept ?kk_Key_kept ?nk_Key_rounds ?ik_Key_rounds ?lk_Key_rounds ?dk_Key_rounds ?kk_Key_rounds ?nk_Key_times_home ?ik_Key_times_home ?lk_Key_times_home ?dk_Key_times_home ?kk_Key_times_home ?nk_Key_is_own_undoer ?ik_Key_is_own_undoer ?lk_Key_is_own_undoer ?dk_Key_is_own_undoer ?kk_Key_is_own_undoer ?nk_shift_key ?lk_shift_key ?dk_shift_key ?kk_shift_key ?nk_shifted_by ?lk_shifted_by ?dk_shifted_by ?kk_shifted_by ?nk_law_moves ?lk_law_moves ?dk_law_moves ?kk_law_moves ?nk_in_columns ?lk_in_columns ?dk_in_columns ?kk_in_columns ?nk_out_of_columns ?lk_out_of_columns ?dk_out_of_columns ?kk_out_of_columns ?nk_keys_that_fit ?lk_keys_that_fit ?dk_keys_that_fit ?kk_keys_that_fit ?nk_part_of_key ?lk_part_of_key ?dk_part_of_key ?kk_part_of_key ?nk_word_of_shifts ?lk_word_of_shifts ?dk_word_of_shifts ?kk_word_of_shifts ?nk_alike_places ?lk_alike_places ?dk_alike_places ?kk_alike_places ?nk_law_cases1 ?lk_law_cases1 ?dk_law_cases1 ?kk_law_cases1 ?nk_law_rest1 ?lk_law_rest1 ?dk_law_rest1 ?kk_law_rest1 ?nk_law ?lk_law ?dk_law ?kk_law ?pg_Key ?hd_Key ?po_Key ?sa_Key ?mi_Key ?kc_Key ?nf_Key_letters ?xn_BadBook ?xe_BadBook ?xk_BadBook ?xs_BadBook ?xt_BadBook ?xn_NoWay ?xe_NoWay ?xk_NoWay ?xs_NoWay ?xt_NoWay ?xn_BadFlag ?xe_BadFlag ?xk_BadFlag ?xs_BadFlag ?xt_BadFlag ?xn_BadFleet ?xe_BadFleet ?xk_BadFleet ?xs_BadFleet ?xt_BadFleet ?xn_BadHoist ?xe_BadHoist ?xk_BadHoist ?xs_BadHoist ?xt_BadHoist ?xn_Foul ?xn_TooLarge ?xe_TooLarge ?xk_TooLarge ?xs_TooLarge ?xt_TooLarge ?xn_Unclear ?xn_BadText ?exq ?bz_range ?bz_any ?bz_sorted ?bz_list ?bz_tuple ?bz_min ?bz_len ?bz_max ?bz_enumerate ?bz_zip ?bz_dict ?bz_all ?bz_sum ?bz_int ?bz_abs ?cn_LETTERS ?cq_LETTERS ?zl_check_text ?zv_check_text ?zh_check_text ?zn_check_text ?zt_check_text ?zl_word_of_shifts ?zv_word_of_shifts ?zh_word_of_shifts ?zn_word_of_shifts ?zt_word_of_shifts ?zl_alike_places ?zv_alike_places ?zh_alike_places ?zn_alike_places ?zt_alike_places ?zl_law_cases1 ?zv_law_cases1 ?zh_law_cases1 ?zn_law_cases1 ?zt_law_cases1 ?zl_law_rest1 ?zv_law_rest1 ?zh_law_rest1 ?zn_law_rest1 ?zt_law_rest1 ?ne_check_text_word_of_shifts ?ne_check_text_alike_places ?ne_check_text_law_cases1 ?ne_check_text_law_rest1 ?ne_word_of_shifts_alike_places ?ne_word_of_shifts_law_cases1 ?ne_word_of_shifts_law_rest1 ?ne_alike_places_law_cases1 ?ne_alike_places_law_rest1 ?ne_law_cases1_law_rest1
    (case nk_law_dice => k_is)
    (case lk_law_dice => k_is)
    (case dk_law_dice => k_is)
    (case kk_law_dice => k_is)
    (case nk_law_roll => k_is)
    (case lk_law_roll => k_is)
    (case dk_law_roll => k_is)
    (case kk_law_roll => k_is)
    (case nk_law_rounds => k_is)
    (case lk_law_rounds => k_is)
    (case dk_law_rounds => k_is)
    (case kk_law_rounds => k_is)
    (case nk_law_told => k_is)
    (case lk_law_told => k_is)
    (case dk_law_told => k_is)
    (case kk_law_told => k_is)
    (case nk_law_word => k_is)
    (case lk_law_word => k_is)
    (case dk_law_word => k_is)
    (case kk_law_word => k_is)
    (case nk_check_text => k_is)
    (case lk_check_text => k_is)
    (case dk_check_text => k_is)
    (case kk_check_text => k_is)
    (case ck_Key => k_is)
    (case nk_Key_init => k_is)
    (case ik_Key_init => k_is)
    (case lk_Key_init => k_is)
    (case dk_Key_init => k_is)
    (case kk_Key_init => k_is)
    (case nk_key_of_word => k_is)
    (case lk_key_of_word => k_is)
    (case dk_key_of_word => k_is)
    (case kk_key_of_word => k_is)
    (case nk_law_key => k_is)
    (case lk_law_key => k_is)
    (case dk_law_key => k_is)
    (case kk_law_key => k_is)
    (case nk_Key_changed => k_is)
    (case ik_Key_changed => k_is)
    (case lk_Key_changed => k_is)
    (case dk_Key_changed => k_is)
    (case kk_Key_changed => k_is)
    (case nk_Key_undoer => k_is)
    (case ik_Key_undoer => k_is)
    (case lk_Key_undoer => k_is)
    (case dk_Key_undoer => k_is)
    (case kk_Key_undoer => k_is)
    (case nk_Key_behind => k_is)
    (case ik_Key_behind => k_is)
    (case lk_Key_behind => k_is)
    (case dk_Key_behind => k_is)
    (case kk_Key_behind => k_is)
    (case nk_Key_kept => k_is)
    (case ik_Key_kept => k_is)
    (case lk_Key_kept => k_is)
    (case dk_Key_kept => k_is)
    (case kk_Key_kept => k_is)
    (case nk_Key_rounds => k_is)
    (case ik_Key_rounds => k_is)
    (case lk_Key_rounds => k_is)
    (case dk_Key_rounds => k_is)
    (case kk_Key_rounds => k_is)
    (case nk_Key_times_home => k_is)
    (case ik_Key_times_home => k_is)
    (case lk_Key_times_home => k_is)
    (case dk_Key_times_home => k_is)
    (case kk_Key_times_home => k_is)
    (case nk_Key_is_own_undoer => k_is)
    (case ik_Key_is_own_undoer => k_is)
    (case lk_Key_is_own_undoer => k_is)
    (case dk_Key_is_own_undoer => k_is)
    (case kk_Key_is_own_undoer => k_is)
    (case nk_shift_key => k_is)
    (case lk_shift_key => k_is)
    (case dk_shift_key => k_is)
    (case kk_shift_key => k_is)
    (case nk_shifted_by => k_is)
    (case lk_shifted_by => k_is)
    (case dk_shifted_by => k_is)
    (case kk_shifted_by => k_is)
    (case nk_law_moves => k_is)
    (case lk_law_moves => k_is)
    (case dk_law_moves => k_is)
    (case kk_law_moves => k_is)
    (case nk_in_columns => k_is)
    (case lk_in_columns => k_is)
    (case dk_in_columns => k_is)
    (case kk_in_columns => k_is)
    (case nk_out_of_columns => k_is)
    (case lk_out_of_columns => k_is)
    (case dk_out_of_columns => k_is)
    (case kk_out_of_columns => k_is)
    (case nk_keys_that_fit => k_is)
    (case lk_keys_that_fit => k_is)
    (case dk_keys_that_fit => k_is)
    (case kk_keys_that_fit => k_is)
    (case nk_part_of_key => k_is)
    (case lk_part_of_key => k_is)
    (case dk_part_of_key => k_is)
    (case kk_part_of_key => k_is)
    (case nk_word_of_shifts => k_is)
    (case lk_word_of_shifts => k_is)
    (case dk_word_of_shifts => k_is)
    (case kk_word_of_shifts => k_is)
    (case nk_alike_places => k_is)
    (case lk_alike_places => k_is)
    (case dk_alike_places => k_is)
    (case kk_alike_places => k_is)
    (case nk_law_cases1 => k_is)
    (case lk_law_cases1 => k_is)
    (case dk_law_cases1 => k_is)
    (case kk_law_cases1 => k_is)
    (case nk_law_rest1 => k_is)
    (case lk_law_rest1 => k_is)
    (case dk_law_rest1 => k_is)
    (case kk_law_rest1 => k_is)
    (case nk_law => k_is)
    (case lk_law => k_is)
    (case dk_law => k_is)
    (case kk_law => k_is)
    (case pg_Key => k_is)
    (case hd_Key => k_is)
    (case po_Key => k_is)
    (case sa_Key => k_is)
    (case mi_Key => k_is)
    (case kc_Key => k_is)
    (case nf_Key_letters => k_is)
    (case xn_BadBook => k_is)
    (case xe_BadBook => k_exc)
    (case xk_BadBook => k_is)
    (case xs_BadBook => k_is)
    (case xt_BadBook => k_is)
    (case xn_NoWay => k_is)
    (case xe_NoWay => k_exc)
    (case xk_NoWay => k_is)
    (case xs_NoWay => k_is)
    (case xt_NoWay => k_is)
    (case xn_BadFlag => k_is)
    (case xe_BadFlag => k_exc)
    (case xk_BadFlag => k_is)
    (case xs_BadFlag => k_is)
    (case xt_BadFlag => k_is)
    (case xn_BadFleet => k_is)
    (case xe_BadFleet => k_exc)
    (case xk_BadFleet => k_is)
    (case xs_BadFleet => k_is)
    (case xt_BadFleet => k_is)
    (case xn_BadHoist => k_is)
    (case xe_BadHoist => k_exc)
    (case xk_BadHoist => k_is)
    (case xs_BadHoist => k_is)
    (case xt_BadHoist => k_is)
    (case xn_Foul => k_is)
    (case xn_TooLarge => k_is)
    (case xe_TooLarge => k_exc)
    (case xk_TooLarge => k_is)
    (case xs_TooLarge => k_is)
    (case xt_TooLarge => k_is)
    (case xn_Unclear => k_is)
    (case xn_BadText => k_is)
    (case exq => kernel_rfl)
    (case bz_range => k_is)
    (case bz_any => k_is)
    (case bz_sorted => k_is)
    (case bz_list => k_is)
    (case bz_tuple => k_is)
    (case bz_min => k_is)
    (case bz_len => k_is)
    (case bz_max => k_is)
    (case bz_enumerate => k_is)
    (case bz_zip => k_is)
    (case bz_dict => k_is)
    (case bz_all => k_is)
    (case bz_sum => k_is)
    (case bz_int => k_is)
    (case bz_abs => k_is)
    (case cn_LETTERS => k_is)
    (case cq_LETTERS => kernel_rfl)
    (case zl_check_text => k_is)
    (case zv_check_text => rfl)
    (case zh_check_text => kernel_rfl)
    (case zn_check_text => kernel_rfl)
    (case zt_check_text => decide)
    (case zl_word_of_shifts => k_is)
    (case zv_word_of_shifts => rfl)
    (case zh_word_of_shifts => kernel_rfl)
    (case zn_word_of_shifts => kernel_rfl)
    (case zt_word_of_shifts => decide)
    (case zl_alike_places => k_is)
    (case zv_alike_places => rfl)
    (case zh_alike_places => kernel_rfl)
    (case zn_alike_places => kernel_rfl)
    (case zt_alike_places => decide)
    (case zl_law_cases1 => k_is)
    (case zv_law_cases1 => rfl)
    (case zh_law_cases1 => kernel_rfl)
    (case zn_law_cases1 => kernel_rfl)
    (case zt_law_cases1 => decide)
    (case zl_law_rest1 => k_is)
    (case zv_law_rest1 => rfl)
    (case zh_law_rest1 => kernel_rfl)
    (case zn_law_rest1 => kernel_rfl)
    (case zt_law_rest1 => decide)
    (case ne_check_text_word_of_shifts => decide)
    (case ne_check_text_alike_places => decide)
    (case ne_check_text_law_cases1 => decide)
    (case ne_check_text_law_rest1 => decide)
    (case ne_word_of_shifts_alike_places => decide)
    (case ne_word_of_shifts_law_cases1 => decide)
    (case ne_word_of_shifts_law_rest1 => decide)
    (case ne_alike_places_law_cases1 => decide)
    (case ne_alike_places_law_rest1 => decide)
    (case ne_law_cases1_law_rest1 => decide)
