import PyProof.Rows.All
import Wide.All
import OpenK.AllK
import Wide.FinOn
import HandS.ForMost
import HandS.ForSpec
import HandS.CallSlots
import HandS.Lambda
import HandS.TryMany
import HandS.ExcInit
import HandS.TupAny
import HandS.TupLe
import HandS.Deep
import HandS.More
import HandS.WrittenGet
import HandS.ExcOwn
import KE.DataMinMax
import KE.DataCmp
import HandS.Strs
import HandS.Style
import HandS.Iter
import HandS.Sort
import HandS.Steps
import HandS.GenOver
import HandS.GenList
import KE.GoesEnumKw
import HandS.SortKw
import HandS.RevTup
import HandS.Codes
import HandS.Rev
import HandS.Replace
import HandS.RaiseMore
import PyProof.ListStr
import PyProof.CollectStr
import HandS.TupLen
import HandS.WordsDict
import KE.KDictKeyed
import HandS.StrMore
import PyProof.StrOps2
import HandS.EndTab
import KE.KNestM
import PySem.Challenge.RW_flaghall_k08_numerals
set_option Elab.async false
set_option linter.all false
set_option maxRecDepth 100000
namespace DL
open PySem L2
/-- deep values -/
inductive D where
  | non
  | bl (b : Bool)
  | int (i : Int)
  | str (s : List Nat)
  | lst (xs : List D)
  | tup (xs : List D)
  | dic (kvs : List (D × D))
  | cdic (kvs : List (List Nat × D))
  | ins (c : Nat) (fs : List D)
  | dice
  | fn (n : Nat)
  deriving Inhabited
structure Exc where
  cls : Nat
  arg : D
/-- what a computation comes to; roll m k: some number below m is drawn -/
inductive R (α : Type) where
  | ok (a : α)
  | err (e : Exc)
  | stuck
  | roll (m : Nat) (k : Nat → R α)
namespace R
variable {α β : Type}
def bind : R α → (α → R β) → R β
  | .ok a, k => k a
  | .err e, _ => .err e
  | .stuck, _ => .stuck
  | .roll m f, k => .roll m fun i => (f i).bind k
instance : Monad R where
  pure := .ok
  bind := R.bind
@[simp] theorem ok_bind (a : α) (k : α → R β) : (R.ok a >>= k) = k a := rfl
@[simp] theorem err_bind (e : Exc) (k : α → R β) : ((R.err e : R α) >>= k) = .err e := rfl
@[simp] theorem stuck_bind (k : α → R β) : ((R.stuck : R α) >>= k) = .stuck := rfl
@[simp] theorem roll_bind (m : Nat) (f : Nat → R α) (k : α → R β) : (R.roll m f >>= k) = .roll m fun i => f i >>= k := rfl
@[simp] theorem pure_eq (a : α) : (pure a : R α) = .ok a := rfl
end R
def Wp {α : Type} : R α → (α → Prop) → (Exc → Prop) → Prop
  | .ok a, Q, _ => Q a
  | .err e, _, E => E e
  | .stuck, _, _ => False
  | .roll m k, Q, E => ∀ i, i < m → Wp (k i) Q E
section
variable {α β : Type} {Q Q' : α → Prop} {E E' : Exc → Prop}
theorem Wp.mono : ∀ {m : R α}, Wp m Q E → (∀ a, Q a → Q' a) → (∀ e, E e → E' e) → Wp m Q' E'
  | .ok a, h, q, _ => q a h
  | .err e, h, _, q => q e h
  | .stuck, h, _, _ => h
  | .roll _ _, h, q, q' => fun i hi => Wp.mono (h i hi) q q'
theorem Wp.thn {m : R α} (h : Wp m Q E) (q : ∀ a, Q a → Q' a) : Wp m Q' E := h.mono q fun _ x => x
theorem Wp.bind {k : α → R β} {Qb : β → Prop} : ∀ {m : R α}, Wp (m >>= k) Qb E → Wp m (fun a => Wp (k a) Qb E) E
  | .ok _, h => h
  | .err _, h => h
  | .stuck, h => h
  | .roll _ _, h => fun i hi => Wp.bind (h i hi)
theorem Wp.of_bind {k : α → R β} {Qb : β → Prop} : ∀ {m : R α}, Wp m (fun a => Wp (k a) Qb E) E → Wp (m >>= k) Qb E
  | .ok _, h => h
  | .err _, h => h
  | .stuck, h => h
  | .roll _ _, h => fun i hi => Wp.of_bind (h i hi)
end
structure Gm where
  K : PySem.W.Frag
  w : World
  cls : Nat → Addr
  flds : Nat → List Str
  fns : Nat → Addr
  xcls : Nat → Addr
  xfld : Nat → Option Str
  tabs : List (Addr × Str)
/-- a key of a dict -/
def D.key : D → Option Key
  | .int i => some (.inl i)
  | .str s => some (.inr ⟨s.toArray⟩)
  | _ => none
mutual
def Rep (G : Gm) (dl : Addr) (S : Hp) : D → V → Prop
  | .non, v => v = .non
  | .bl b, v => v = .bl b
  | .int i, v => v = .int i
  | .str s, v => v = .str ⟨s.toArray⟩
  | .lst ds, v => ∃ a vs, v = .ref a ∧ S a = some (.lst vs) ∧ RepL G dl S ds vs
  | .tup ds, v => ∃ a vs, v = .ref a ∧ SqT G.K S a vs ∧ RepL G dl S ds vs
  | .dic kvs, v => ∃ (a : Addr) (kv : List (Key × V)), v = .ref a ∧ Rd S a (.dK kv) ∧ RepK G dl S kvs kv
  | .cdic kvs, v => ∃ a, v = .ref a ∧ RepC G dl S a kvs
  | .ins c ds, v => ∃ a dx vs, v = .ref a ∧ S a = some (.ins (G.cls c) dx ((G.flds c).zip vs)) ∧ (G.flds c).length = vs.length ∧ RepL G dl S ds vs
  | .dice, v => v = .ref dl
  | .fn n, v => v = .ref (G.fns n)
def RepL (G : Gm) (dl : Addr) (S : Hp) : List D → List V → Prop
  | [], vs => vs = []
  | d :: ds, vs => ∃ v r, vs = v :: r ∧ Rep G dl S d v ∧ RepL G dl S ds r
def RepK (G : Gm) (dl : Addr) (S : Hp) : List (D × D) → List (Key × V) → Prop
  | [], vs => vs = []
  | (k, d) :: ds, vs => ∃ x v r, vs = (x, v) :: r ∧ k.key = some x ∧ Rep G dl S d v ∧ RepK G dl S ds r
def RepC (G : Gm) (dl : Addr) (S : Hp) (a : Addr) : List (List Nat × D) → Prop
  | [] => True
  | (k, d) :: ds => (∃ v, KDct G.K G.w a ⟨k.toArray⟩ v ∧ Rep G dl S d v) ∧ RepC G dl S a ds
end
/-- all but tables of code objects stays -/
abbrev GrowS (S S' : Hp) : Prop := LamX.ExtN S S'
theorem GrowS.rd {S S' : Hp} {a : Addr} {u : HO} (g : GrowS S S') (n : ∀ ps, u ≠ .tbl ps) (h : Rd S a u) : Rd S' a u := by
  rcases h with h | ⟨o, h⟩
  · exact .inl (g a _ h n)
  · exact .inr ⟨o, g a _ h fun ps z => by cases z⟩
theorem GrowS.sqt {K : PySem.W.Frag} {S S' : Hp} {a : Addr} {xs : List V} (g : GrowS S S') (h : SqT K S a xs) : SqT K S' a xs := by
  rcases h with h | h
  · exact .inl (g.rd (fun ps z => by cases z) h)
  · exact .inr h
mutual
theorem Rep.mono {G : Gm} {dl : Addr} {S S' : Hp} (g : GrowS S S') : ∀ (d : D) {v : V}, Rep G dl S d v → Rep G dl S' d v
  | .non, v, h => by unfold Rep at *; exact h
  | .bl b, v, h => by unfold Rep at *; exact h
  | .int i, v, h => by unfold Rep at *; exact h
  | .str s, v, h => by unfold Rep at *; exact h
  | .lst ds, v, h => by
    unfold Rep at *
    obtain ⟨a, vs, e, q, r⟩ := h
    exact ⟨a, vs, e, g a _ q (fun ps z => by cases z), RepL.mono g ds r⟩
  | .tup ds, v, h => by
    unfold Rep at *
    obtain ⟨a, vs, e, q, r⟩ := h
    exact ⟨a, vs, e, g.sqt q, RepL.mono g ds r⟩
  | .dic kvs, v, h => by
    unfold Rep at *
    obtain ⟨a, kv, e, q, r⟩ := h
    exact ⟨a, kv, e, g.rd (fun ps z => by cases z) q, RepK.mono g kvs r⟩
  | .cdic kvs, v, h => by
    unfold Rep at *
    obtain ⟨a, e, r⟩ := h
    exact ⟨a, e, RepC.mono g kvs r⟩
  | .ins c ds, v, h => by
    unfold Rep at *
    obtain ⟨a, dx, vs, e, q, l, r⟩ := h
    exact ⟨a, dx, vs, e, g a _ q (fun ps z => by cases z), l, RepL.mono g ds r⟩
  | .dice, v, h => by unfold Rep at *; exact h
  | .fn n, v, h => by unfold Rep at *; exact h
theorem RepL.mono {G : Gm} {dl : Addr} {S S' : Hp} (g : GrowS S S') : ∀ (ds : List D) {vs : List V}, RepL G dl S ds vs → RepL G dl S' ds vs
  | [], vs, h => by unfold RepL at *; exact h
  | d :: ds, vs, h => by
    unfold RepL at *
    obtain ⟨v, r, e, h1, h2⟩ := h
    exact ⟨v, r, e, Rep.mono g d h1, RepL.mono g ds h2⟩
theorem RepK.mono {G : Gm} {dl : Addr} {S S' : Hp} (g : GrowS S S') : ∀ (ds : List (D × D)) {vs : List (Key × V)}, RepK G dl S ds vs → RepK G dl S' ds vs
  | [], vs, h => by unfold RepK at *; exact h
  | (k, d) :: ds, vs, h => by
    unfold RepK at *
    obtain ⟨x, v, r, e, k, h1, h2⟩ := h
    exact ⟨x, v, r, e, k, Rep.mono g d h1, RepK.mono g ds h2⟩
theorem RepC.mono {G : Gm} {dl : Addr} {S S' : Hp} (g : GrowS S S') {a : Addr} : ∀ (ds : List (List Nat × D)), RepC G dl S a ds → RepC G dl S' a ds
  | [], h => by unfold RepC at *; exact h
  | (k, d) :: ds, h => by
    unfold RepC at *
    obtain ⟨⟨v, h1, h2⟩, h3⟩ := h
    exact ⟨⟨v, h1, Rep.mono g d h2⟩, RepC.mono g ds h3⟩
end
section
variable {G : Gm} {dl : Addr} {S : Hp}
theorem RepL.length : ∀ {ds : List D} {vs : List V}, RepL G dl S ds vs → vs.length = ds.length
  | [], vs, h => by unfold RepL at h; subst h; rfl
  | d :: ds, vs, h => by
    unfold RepL at h
    obtain ⟨v, r, rfl, _, h2⟩ := h
    rw [List.length_cons, List.length_cons, RepL.length h2]
theorem RepL.nil : RepL G dl S [] [] := by unfold RepL; rfl
theorem RepL.cons {d : D} {ds : List D} {v : V} {vs : List V} (h : Rep G dl S d v) (r : RepL G dl S ds vs) : RepL G dl S (d :: ds) (v :: vs) := by
  unfold RepL; exact ⟨v, vs, rfl, h, r⟩
theorem RepL.append : ∀ {ds es : List D} {vs us : List V}, RepL G dl S ds vs → RepL G dl S es us → RepL G dl S (ds ++ es) (vs ++ us)
  | [], es, vs, us, h, q => by unfold RepL at h; subst h; exact q
  | d :: ds, es, vs, us, h, q => by
    unfold RepL at h
    obtain ⟨v, r, rfl, h1, h2⟩ := h
    exact RepL.cons h1 (RepL.append h2 q)
theorem RepL.get : ∀ (ds : List D) (vs : List V) (i : Nat) (v : V), RepL G dl S ds vs → vs[i]? = some v → ∃ d, ds[i]? = some d ∧ Rep G dl S d v
  | [], vs, i, v, h, e => by unfold RepL at h; subst h; simp at e
  | d :: ds, vs, i, v, h, e => by
    unfold RepL at h
    obtain ⟨u, r, rfl, h1, h2⟩ := h
    cases i with
    | zero => simp at e; subst e; exact ⟨d, rfl, h1⟩
    | succ i => exact RepL.get ds r i v h2 (by simpa using e)
theorem RepL.getD : ∀ (ds : List D) (vs : List V) (i : Nat) (d : D), RepL G dl S ds vs → ds[i]? = some d → ∃ v, vs[i]? = some v ∧ Rep G dl S d v
  | [], vs, i, v, h, e => by simp at e
  | d' :: ds, vs, i, d, h, e => by
    unfold RepL at h
    obtain ⟨u, r, rfl, h1, h2⟩ := h
    cases i with
    | zero => simp at e; subst e; exact ⟨u, rfl, h1⟩
    | succ i => exact RepL.getD ds r i d h2 (by simpa using e)
theorem RepL.take : ∀ {ds : List D} {vs : List V} (n : Nat), RepL G dl S ds vs → RepL G dl S (ds.take n) (vs.take n)
  | _, _, 0, _ => by simp only [List.take_zero]; exact RepL.nil
  | [], vs, n + 1, h => by unfold RepL at h; subst h; exact RepL.nil
  | d :: ds, vs, n + 1, h => by
    unfold RepL at h
    obtain ⟨u, r, rfl, h1, h2⟩ := h
    exact RepL.cons h1 (RepL.take n h2)
theorem RepL.drop : ∀ {ds : List D} {vs : List V} (n : Nat), RepL G dl S ds vs → RepL G dl S (ds.drop n) (vs.drop n)
  | _, _, 0, h => h
  | [], vs, n + 1, h => by unfold RepL at h; subst h; exact RepL.nil
  | d :: ds, vs, n + 1, h => by
    unfold RepL at h
    obtain ⟨u, r, rfl, h1, h2⟩ := h
    exact RepL.drop n h2
theorem RepL.set : ∀ {ds : List D} {vs : List V} {d : D} {v : V} (n : Nat), RepL G dl S ds vs → Rep G dl S d v → RepL G dl S (ds.set n d) (vs.set n v)
  | [], vs, d, v, n, h, _ => by unfold RepL at h; subst h; exact RepL.nil
  | d' :: ds, vs, d, v, 0, h, q => by
    unfold RepL at h
    obtain ⟨u, r, rfl, h1, h2⟩ := h
    exact RepL.cons q h2
  | d' :: ds, vs, d, v, n + 1, h, q => by
    unfold RepL at h
    obtain ⟨u, r, rfl, h1, h2⟩ := h
    exact RepL.cons h1 (RepL.set n h2 q)
end
/-- without some addresses -/
def cut (H : Hp) (Z : List Addr) : Hp := fun a => if a ∈ Z then none else H a
theorem cut_in {H : Hp} {Z : List Addr} {a : Addr} (h : a ∈ Z) : cut H Z a = none := if_pos h
theorem cut_out {H : Hp} {Z : List Addr} {a : Addr} (h : a ∉ Z) : cut H Z a = H a := if_neg h
theorem cut_some {H : Hp} {Z : List Addr} {a : Addr} {o : HO} (h : cut H Z a = some o) : a ∉ Z ∧ H a = some o := by
  unfold cut at h
  split at h
  · cases h
  · exact ⟨by assumption, h⟩
theorem cut_grow (H : Hp) (Z : List Addr) : GrowS (cut H Z) H := fun a o h _ => (cut_some h).2
theorem cut_sub {H : Hp} {Z Z' : List Addr} (h : ∀ a ∈ Z', a ∈ Z) : GrowS (cut H Z) (cut H Z') := fun a o e _ => by
  obtain ⟨h1, h2⟩ := cut_some e
  rw [cut_out fun q => h1 (h a q)]
  exact h2
def Grow (dl : Addr) (H H' : Hp) : Prop := ∀ a o, H a = some o → a ≠ dl → (∀ ps, o ≠ .tbl ps) → H' a = some o
theorem Grow.refl (dl : Addr) (H : Hp) : Grow dl H H := fun _ _ h _ _ => h
theorem Grow.trans {dl : Addr} {H H1 H2 : Hp} (a : Grow dl H H1) (b : Grow dl H1 H2) : Grow dl H H2 := fun c o h n m => b c o (a c o h n m) n m
theorem Grow.new {dl : Addr} {H : Hp} {p : Addr} {o : HO} (h : H p = none) : Grow dl H (upd H p o) := fun a u e _ _ => by
  rw [upd_ne (ne_of_none e h)]; exact e
theorem Grow.cut {dl : Addr} {H H' : Hp} {Z : List Addr} (g : Grow dl H H') (hz : dl ∈ Z) : GrowS (cut H Z) (cut H' Z) := fun a o e n => by
  obtain ⟨h1, h2⟩ := cut_some e
  rw [cut_out h1]
  exact g a o h2 (fun q => h1 (q ▸ hz)) n
def DiceOk (H : Hp) (dl : Addr) : Prop := ∃ x y z : Int, H dl = some (.lst [.int x, .int y, .int z])
structure GlOk (G : Gm) (dl : Addr) (H : Hp) : Prop where
  dice : DiceOk H dl
  tab : LamX.Tabs G.tabs H
theorem GlOk.same {G : Gm} {dl : Addr} {H H' : Hp} (g : GlOk G dl H) (e : ∀ b o, H b = some o → H' b = some o) : GlOk G dl H' := by
  obtain ⟨x, y, z, h⟩ := g.dice
  exact ⟨⟨x, y, z, e _ _ h⟩, g.tab.ext e⟩
theorem same_new {H : Hp} {p : Addr} {o : HO} (h : H p = none) : ∀ b u, H b = some u → (upd H p o) b = some u := fun b u e => by
  rw [upd_ne (ne_of_none e h)]; exact e
theorem GlOk.new {G : Gm} {dl : Addr} {H : Hp} {p : Addr} {o : HO} (g : GlOk G dl H) (h : H p = none) : GlOk G dl (upd H p o) := g.same (same_new h)
inductive Cell where
  | un
  | val (d : D)
  | own (d : D)
abbrev LE := List Cell
def OwnAt (G : Gm) (dl : Addr) (S : Hp) (d : D) (o : Option HO) : Prop := match d with
  | .lst ds => ∃ vs, o = some (.lst vs) ∧ RepL G dl S ds vs
  | .dic kvs => ∃ (kv : List (Key × V)), o = some (.dK kv) ∧ RepK G dl S kvs kv
  | .ins c ds => ∃ (dx : Addr) (vs : List V), o = some (.ins (G.cls c) dx ((G.flds c).zip vs)) ∧ vs.length ≤ (G.flds c).length ∧ RepL G dl S ds vs
  | _ => False
/-- the self of an __init__ stands in slot 0, under a mark of its own -/
def kee (i : Nat) : D → Nat
  | .ins _ _ => 1000000
  | _ => i
def keeOk (i : Nat) : D → Prop
  | .ins _ _ => i = 0
  | _ => i ≠ 1000000
def Slot (G : Gm) (dl : Addr) (Z : List Addr) (O : List (Nat × Addr)) (H : Hp) (i : Nat) (x : Option (Option V)) : Cell → Prop
  | .un => True
  | .val d => ∃ v, x = some (some v) ∧ Rep G dl (cut H Z) d v
  | .own d => ∃ a, (kee i d, a) ∈ O ∧ x = some (some (.ref a)) ∧ OwnAt G dl (cut H Z) d (H a) ∧ keeOk i d
/-- the state at hand: r the slots as data, O the addresses of owned lists and dicts, Z all that is not to be leant on -/
structure At (G : Gm) (dl : Addr) (Z : List Addr) (O : List (Nat × Addr)) (r : LE) (sg : St) (H : Hp) : Prop where
  gl : GlOk G dl H
  dz : dl ∈ Z
  live : ∀ a ∈ Z, ∃ o, H a = some o ∧ ∀ ps, o ≠ .tbl ps
  own : ∀ p ∈ O, p.2 ∈ Z ∧ p.2 ≠ dl
  inj : ∀ p ∈ O, ∀ q ∈ O, p.2 = q.2 → p = q
  len : r.length = sg.length
  slot : ∀ i c, r[i]? = some c → Slot G dl Z O H i sg[i]? c
theorem OwnAt.mono {G : Gm} {dl : Addr} {S S' : Hp} {d : D} {o : Option HO} (g : GrowS S S') (h : OwnAt G dl S d o) : OwnAt G dl S' d o := by
  unfold OwnAt at *
  split at h
  · obtain ⟨vs, e, r⟩ := h; exact ⟨vs, e, r.mono g⟩
  · obtain ⟨kv, e, r⟩ := h; exact ⟨kv, e, r.mono g⟩
  · obtain ⟨dx, vs, e, k, r⟩ := h; exact ⟨dx, vs, e, k, r.mono g⟩
  · exact h
theorem OwnAt.notTbl {G : Gm} {dl : Addr} {S : Hp} {d : D} {o : Option HO} (h : OwnAt G dl S d o) : ∃ u, o = some u ∧ ∀ ps, u ≠ .tbl ps := by
  unfold OwnAt at h
  split at h
  · obtain ⟨vs, e, r⟩ := h; exact ⟨_, e, fun ps z => by cases z⟩
  · obtain ⟨kv, e, r⟩ := h; exact ⟨_, e, fun ps z => by cases z⟩
  · obtain ⟨dx, vs, e, k, r⟩ := h; exact ⟨_, e, fun ps z => by cases z⟩
  · exact h.elim
theorem At.grow {G : Gm} {dl : Addr} {Z : List Addr} {O : List (Nat × Addr)} {r : LE} {sg : St} {H H' : Hp} (h : At G dl Z O r sg H) (g : Grow dl H H') (gl : GlOk G dl H') : At G dl Z O r sg H' := by
  refine ⟨gl, h.dz, fun a ha => ?_, h.own, h.inj, h.len, fun i c e => ?_⟩
  · by_cases q : a = dl
    · obtain ⟨x, y, z, e⟩ := gl.dice
      exact ⟨_, by rw [q]; exact e, fun ps z => by cases z⟩
    · obtain ⟨o, e, n⟩ := h.live a ha
      exact ⟨o, g a o e q n, n⟩
  · have := h.slot i c e
    cases c with
    | un => trivial
    | val d =>
      obtain ⟨v, e, q⟩ := this
      exact ⟨v, e, q.mono (g.cut h.dz)⟩
    | own d =>
      obtain ⟨a, ha, e, q, ko⟩ := this
      obtain ⟨u, hu, nt⟩ := q.notTbl
      refine ⟨a, ha, e, ?_, ko⟩
      rw [g a u hu (h.own _ ha).2 nt, ← hu]
      exact q.mono (g.cut h.dz)
/-- what of an exception is known -/
def XRep (G : Gm) (dl : Addr) (S : Hp) (e : Exc) (cls : Value) (dx : Option Addr) (H : Hp) : Prop :=
  cls = .ref (G.xcls e.cls) ∧ match G.xfld e.cls with
    | none => e.arg = .non
    | some f => ∃ d v, dx = some d ∧ H d = some (.xd [(f, v)]) ∧ Rep G dl S e.arg v
def tD (G : Gm) (W : WX) (f : LE → R D) : TE := fun sg H Q => ∃ dl Z O r, At G dl Z O r sg H ∧
  Wp (f r) (fun d => ∀ v H', Grow dl H H' → GlOk G dl H' → Rep G dl (cut H' Z) d v → Q v H')
    (fun e => ∀ cls dx H', Grow dl H H' → GlOk G dl H' → XRep G dl (cut H' Z) e cls dx H' → W cls dx sg H')
/-- a new list -/
def tF (G : Gm) (W : WX) (f : LE → R (List D)) : TE := fun sg H Q => ∃ dl Z O r, At G dl Z O r sg H ∧
  Wp (f r) (fun ds => ∀ p vs H', Grow dl H H' → GlOk G dl H' → H' p = none → RepL G dl (cut H' Z) ds vs → Q (.ref p) (upd H' p (.lst vs)))
    (fun e => ∀ cls dx H', Grow dl H H' → GlOk G dl H' → XRep G dl (cut H' Z) e cls dx H' → W cls dx sg H')
def tT (G : Gm) (W : WX) (f : LE → R Bool) : TT := fun sg H Q => ∃ dl Z O r, At G dl Z O r sg H ∧
  Wp (f r) (fun b => ∀ H', Grow dl H H' → GlOk G dl H' → Q b H')
    (fun e => ∀ cls dx H', Grow dl H H' → GlOk G dl H' → XRep G dl (cut H' Z) e cls dx H' → W cls dx sg H')
def tA (G : Gm) (W : WX) (f : LE → R (List D)) : TA := fun sg H Q => ∃ dl Z O r, At G dl Z O r sg H ∧
  Wp (f r) (fun ds => ∀ vs H', Grow dl H H' → GlOk G dl H' → RepL G dl (cut H' Z) ds vs → Q vs H')
    (fun e => ∀ cls dx H', Grow dl H H' → GlOk G dl H' → XRep G dl (cut H' Z) e cls dx H' → W cls dx sg H')
/-- an expression that may be an owned list or dict, read at once -/
def RepP (G : Gm) (dl : Addr) (H : Hp) (Z : List Addr) (d : D) (v : V) : Prop :=
  Rep G dl (cut H Z) d v ∨ ∃ a, v = .ref a ∧ a ∈ Z ∧ a ≠ dl ∧ OwnAt G dl (cut H Z) d (H a)
def tP (G : Gm) (W : WX) (f : LE → R D) : TE := fun sg H Q => ∃ dl Z O r, At G dl Z O r sg H ∧
  Wp (f r) (fun d => ∀ v H', Grow dl H H' → GlOk G dl H' → RepP G dl H' Z d v → Q v H')
    (fun e => ∀ cls dx H', Grow dl H H' → GlOk G dl H' → XRep G dl (cut H' Z) e cls dx H' → W cls dx sg H')
abbrev DE (X : Cx) (G : Gm) (W : WX) (e : Expr) (f : LE → R D) : Prop := PE X e (tD G W f)
abbrev DF (X : Cx) (G : Gm) (W : WX) (e : Expr) (f : LE → R (List D)) : Prop := PE X e (tF G W f)
abbrev DP (X : Cx) (G : Gm) (W : WX) (e : Expr) (f : LE → R D) : Prop := PE X e (tP G W f)
abbrev DT (X : Cx) (G : Gm) (W : WX) (e : Expr) (f : LE → R Bool) : Prop := PT X e (tT G W f)
abbrev DW (X : Cx) (G : Gm) (W : WX) (e : Expr) (f : LE → R Bool) : Prop := PW X e (tT G W f)
abbrev DA (X : Cx) (G : Gm) (W : WX) (es : List Expr) (f : LE → R (List D)) : Prop := PA X es (tA G W f)
theorem PE_imp {X : Cx} {e : Expr} {t t' : TE} (h : PE X e t) (i : ∀ sg H Q, t' sg H Q → t sg H Q) : PE X e t' := ⟨fun pins s sg H Q I q => h.run pins s sg H Q I (i _ _ _ q)⟩
theorem PT_imp {X : Cx} {e : Expr} {t t' : TT} (h : PT X e t) (i : ∀ sg H Q, t' sg H Q → t sg H Q) : PT X e t' := ⟨fun pins s sg H Q I q => h.run pins s sg H Q I (i _ _ _ q)⟩
theorem PW_imp {X : Cx} {e : Expr} {t t' : TT} (h : PW X e t) (i : ∀ sg H Q, t' sg H Q → t sg H Q) : PW X e t' := ⟨fun wh pins s sg H Q I q => h.run wh pins s sg H Q I (i _ _ _ q)⟩
theorem PA_imp {X : Cx} {e : List Expr} {t t' : TA} (h : PA X e t) (i : ∀ sg H Q, t' sg H Q → t sg H Q) : PA X e t' := ⟨fun pos pins s sg H Q I q => h.run pos pins s sg H Q I (i _ _ _ q)⟩
theorem PS_imp {X : Cx} {e : Stmt} {t t' : TS} (h : PS X e t) (i : ∀ De sg H, t' De sg H → t De sg H) : PS X e t' := ⟨fun pins s sg H De I q => h.run pins s sg H De I (i _ _ _ q)⟩
theorem PSs_imp {X : Cx} {e : List Stmt} {t t' : TS} (h : PSs X e t) (i : ∀ De sg H, t' De sg H → t De sg H) : PSs X e t' := ⟨fun pins s sg H De I q => h.run pins s sg H De I (i _ _ _ q)⟩
inductive Out where
  | nx (r : LE)
  | rt (d : D)
  | bk (r : LE)
  | ct (r : LE)
  | ex (e : Exc) (r : LE)
def Free (H : Hp) (a : Addr) : Prop := ∀ o, H a = some o → ∃ ps, o = .tbl ps
theorem Free.of {H : Hp} {a : Addr} (h : H a = none) : Free H a := fun o e => by rw [h] at e; cases e
structure Stp (dl : Addr) (Z : List Addr) (O : List (Nat × Addr)) (H : Hp) (Z' : List Addr) (O' : List (Nat × Addr)) (H' : Hp) : Prop where
  fr : ∀ a o, H a = some o → a ≠ dl → (∀ p ∈ O, p.2 ≠ a) → (∀ ps, o ≠ .tbl ps) → H' a = some o
  op : ∀ p ∈ O', (∃ q ∈ O, q.2 = p.2) ∨ Free H p.2
  zk : ∀ a ∈ Z, (∀ p ∈ O, p.2 ≠ a) → a ∈ Z'
  zn : ∀ a ∈ Z', a ∈ Z ∨ Free H a
  sf : ∀ a, (1000000, a) ∈ O' → (1000000, a) ∈ O
  dom : ∀ a, Free H' a → Free H a
theorem Stp.refl {dl : Addr} {Z : List Addr} {O : List (Nat × Addr)} {H : Hp} : Stp dl Z O H Z O H :=
  ⟨fun _ _ h _ _ _ => h, fun p hp => .inl ⟨p, hp, rfl⟩, fun _ h _ => h, fun _ h => .inl h, fun _ h => h, fun _ h => h⟩
theorem Grow.dom {G : Gm} {dl : Addr} {H H' : Hp} (g : Grow dl H H') (gl : GlOk G dl H') : ∀ a, Free H' a → Free H a := fun a f o q => by
  by_cases d : a = dl
  · obtain ⟨x, y, z, h⟩ := gl.dice
    obtain ⟨ps, e⟩ := f _ (d ▸ h)
    cases e
  · by_cases t : ∃ ps, o = .tbl ps
    · exact t
    · exact f o (g a o q d fun ps z => t ⟨ps, z⟩)
theorem Stp.of_grow {G : Gm} {dl : Addr} {Z : List Addr} {O : List (Nat × Addr)} {H H' : Hp} (g : Grow dl H H') (gl : GlOk G dl H') : Stp dl Z O H Z O H' :=
  ⟨fun a o h n _ t => g a o h n t, fun p hp => .inl ⟨p, hp, rfl⟩, fun _ h _ => h, fun _ h => .inl h, fun _ h => h, g.dom gl⟩
theorem Stp.trans {G : Gm} {dl : Addr} {Z Z1 Z2 : List Addr} {O O1 O2 : List (Nat × Addr)} {r : LE} {sg : St} {H H1 H2 : Hp} (hz : At G dl Z O r sg H) (a : Stp dl Z O H Z1 O1 H1) (b : Stp dl Z1 O1 H1 Z2 O2 H2) : Stp dl Z O H Z2 O2 H2 := by
  have key : ∀ c, (∃ o, H c = some o ∧ ∀ ps, o ≠ .tbl ps) → (∀ p ∈ O, p.2 ≠ c) → ∀ p ∈ O1, p.2 ≠ c := fun c ⟨o, ho, nt⟩ hn p hp e => by
    rcases a.op p hp with ⟨q, hq, eq⟩ | q
    · exact hn q hq (eq.trans e)
    · obtain ⟨ps, z⟩ := q o (e ▸ ho)
      exact nt ps z
  refine ⟨fun c o h n m t => b.fr c o (a.fr c o h n m t) n (key c ⟨o, h, t⟩ m) t, fun p hp => ?_, fun c hc m => b.zk c (a.zk c hc m) (key c (hz.live c hc) m), fun c hc => (b.zn c hc).elim (a.zn c) fun f => .inr (a.dom c f), fun c h => a.sf c (b.sf c h), fun c h => a.dom c (b.dom c h)⟩
  rcases b.op p hp with ⟨q, hq, eq⟩ | q
  · rcases a.op q hq with ⟨q', h1, h2⟩ | h1
    · exact .inl ⟨q', h1, h2.trans eq⟩
    · exact .inr (eq ▸ h1)
  · exact .inr (a.dom _ q)
theorem Stp.cut {G : Gm} {dl : Addr} {Z Z' : List Addr} {O O' : List (Nat × Addr)} {r : LE} {sg : St} {H H' : Hp} (A : At G dl Z O r sg H) (s : Stp dl Z O H Z' O' H') : GrowS (cut H Z) (cut H' Z') := fun a o e n => by
  obtain ⟨e1, e2⟩ := cut_some e
  have hz : a ∉ Z' := fun hz => by
    rcases s.zn a hz with h | h
    · exact e1 h
    · obtain ⟨ps, q⟩ := h o e2
      exact n ps q
  rw [cut_out hz]
  exact s.fr a o e2 (fun q => e1 (by rw [q]; exact A.dz)) (fun p hp q => e1 (by rw [← q]; exact (A.own p hp).1)) n
/-- what is wanted behind a statement -/
def SPost (G : Gm) (W : WX) (De : Ends) (dl : Addr) (Z : List Addr) (O : List (Nat × Addr)) (H : Hp) : Out → Prop
  | .nx r' => ∀ Z' O' sg' H', Stp dl Z O H Z' O' H' → At G dl Z' O' r' sg' H' → De.nx sg' H'
  | .bk r' => ∀ Z' O' sg' H', Stp dl Z O H Z' O' H' → At G dl Z' O' r' sg' H' → De.bk sg' H'
  | .ct r' => ∀ Z' O' sg' H', Stp dl Z O H Z' O' H' → At G dl Z' O' r' sg' H' → De.ct sg' H'
  | .rt d => ∀ Z' O' v H', Stp dl Z O H Z' O' H' → GlOk G dl H' → Rep G dl (cut H' Z') d v → De.rt v H'
  | .ex e r' => ∀ Z' O' sg' H' cls dx, Stp dl Z O H Z' O' H' → At G dl Z' O' r' sg' H' → XRep G dl (cut H' Z') e cls dx H' → W cls dx sg' H'
theorem SPost.trans {G : Gm} {W : WX} {De : Ends} {dl : Addr} {Z Z1 : List Addr} {O O1 : List (Nat × Addr)} {r : LE} {sg : St} {H H1 : Hp} (A : At G dl Z O r sg H) (st : Stp dl Z O H Z1 O1 H1) : ∀ {o : Out}, SPost G W De dl Z O H o → SPost G W De dl Z1 O1 H1 o
  | .nx r', h => fun Z' O' sg' H' s a => h Z' O' sg' H' (Stp.trans A st s) a
  | .bk r', h => fun Z' O' sg' H' s a => h Z' O' sg' H' (Stp.trans A st s) a
  | .ct r', h => fun Z' O' sg' H' s a => h Z' O' sg' H' (Stp.trans A st s) a
  | .rt d, h => fun Z' O' v H' s g a => h Z' O' v H' (Stp.trans A st s) g a
  | .ex e r', h => fun Z' O' sg' H' c d s a x => h Z' O' sg' H' c d (Stp.trans A st s) a x
/-- a statement's reading: F the state as data -/
def tS (G : Gm) (W : WX) (F : LE → R Out) : TS := fun De sg H => ∃ dl Z O r, At G dl Z O r sg H ∧ Wp (F r) (SPost G W De dl Z O H) (fun _ => False)
abbrev DS (X : Cx) (G : Gm) (W : WX) (st : Stmt) (F : LE → R Out) : Prop := PS X st (tS G W F)
abbrev DSs (X : Cx) (G : Gm) (W : WX) (sts : List Stmt) (F : LE → R Out) : Prop := PSs X sts (tS G W F)
end DL
set_option Elab.async false
set_option linter.all false
set_option maxRecDepth 100000
namespace DL
open PySem L2
section
variable {G : Gm} {dl : Addr} {Z : List Addr} {O : List (Nat × Addr)} {r : LE} {sg : St} {H H' H1 H2 : Hp} {W : WX} {d : D} {v : V}
theorem At.out (A : At G dl Z O r sg H) {p : Addr} (h : H p = none) : p ∉ Z := fun hz => by
  obtain ⟨o, e, _⟩ := A.live p hz
  rw [h] at e; cases e
theorem At.notdl (A : At G dl Z O r sg H) {p : Addr} (h : H p = none) : p ≠ dl := fun e => A.out h (e ▸ A.dz)
theorem RepP.grow (A : At G dl Z O r sg H) (g : Grow dl H H') (h : RepP G dl H Z d v) : RepP G dl H' Z d v := by
  rcases h with h | ⟨a, e, hz, hd, q⟩
  · exact .inl (h.mono (g.cut A.dz))
  · obtain ⟨u, hu, nt⟩ := q.notTbl
    refine .inr ⟨a, e, hz, hd, ?_⟩
    rw [g a u hu hd nt, ← hu]
    exact q.mono (g.cut A.dz)
theorem RepP.of (h : Rep G dl (cut H Z) d v) : RepP G dl H Z d v := .inl h
/-- a new object -/
theorem Rep.tup_new (A : At G dl Z O r sg H) {p : Addr} {ds : List D} {vs : List V} (h : H p = none) (q : RepL G dl (cut H Z) ds vs) : Rep G dl (cut (upd H p (.tup vs)) Z) (.tup ds) (.ref p) := by
  unfold Rep
  refine ⟨p, vs, rfl, SqT.of (by rw [cut_out (A.out h), upd_same]), q.mono ((Grow.new h).cut A.dz)⟩
theorem Rep.lst_new (A : At G dl Z O r sg H) {p : Addr} {ds : List D} {vs : List V} (h : H p = none) (q : RepL G dl (cut H Z) ds vs) : Rep G dl (cut (upd H p (.lst vs)) Z) (.lst ds) (.ref p) := by
  unfold Rep
  refine ⟨p, vs, rfl, by rw [cut_out (A.out h), upd_same], q.mono ((Grow.new h).cut A.dz)⟩
/-- a list read: tracked -/
theorem RepP.lst {ds : List D} (h : RepP G dl H Z (.lst ds) v) : ∃ a vs, v = .ref a ∧ H a = some (.lst vs) ∧ RepL G dl (cut H Z) ds vs := by
  rcases h with h | ⟨a, e, hz, hd, q⟩
  · unfold Rep at h
    obtain ⟨a, vs, e, q, rl⟩ := h
    exact ⟨a, vs, e, (cut_some q).2, rl⟩
  · obtain ⟨vs, e2, rl⟩ := q
    exact ⟨a, vs, e, e2, rl⟩
theorem RepP.tup {ds : List D} (h : RepP G dl H Z (.tup ds) v) : ∃ a vs, v = .ref a ∧ SqT G.K H a vs ∧ RepL G dl (cut H Z) ds vs := by
  rcases h with h | ⟨a, e, hz, hd, q⟩
  · unfold Rep at h
    obtain ⟨a, vs, e, q, rl⟩ := h
    exact ⟨a, vs, e, (cut_grow H Z).sqt q, rl⟩
  · exact q.elim
theorem RepP.str {x : List Nat} (h : RepP G dl H Z (.str x) v) : v = .str ⟨x.toArray⟩ := by
  rcases h with h | ⟨a, e, hz, hd, q⟩
  · unfold Rep at h; exact h
  · exact q.elim
theorem RepP.int {x : Int} (h : RepP G dl H Z (.int x) v) : v = .int x := by
  rcases h with h | ⟨a, e, hz, hd, q⟩
  · unfold Rep at h; exact h
  · exact q.elim
theorem RepP.bl {x : Bool} (h : RepP G dl H Z (.bl x) v) : v = .bl x := by
  rcases h with h | ⟨a, e, hz, hd, q⟩
  · unfold Rep at h; exact h
  · exact q.elim
theorem RepP.non (h : RepP G dl H Z .non v) : v = .non := by
  rcases h with h | ⟨a, e, hz, hd, q⟩
  · unfold Rep at h; exact h
  · exact q.elim
theorem Rep.int_ {S : Hp} {x : Int} : Rep G dl S (.int x) (.int x) := by unfold Rep; rfl
theorem Rep.bl_ {S : Hp} {x : Bool} : Rep G dl S (.bl x) (.bl x) := by unfold Rep; rfl
theorem Rep.non_ {S : Hp} : Rep G dl S .non .non := by unfold Rep; rfl
theorem Rep.str_ {S : Hp} {x : List Nat} : Rep G dl S (.str x) (.str ⟨x.toArray⟩) := by unfold Rep; rfl
/-- what is wanted of an error, behind a step -/
theorem epost (g1 : Grow dl H H1) {e : Exc} (h : ∀ cls dx H', Grow dl H H' → GlOk G dl H' → XRep G dl (cut H' Z) e cls dx H' → W cls dx sg H') :
    ∀ cls dx H', Grow dl H1 H' → GlOk G dl H' → XRep G dl (cut H' Z) e cls dx H' → W cls dx sg H' := fun cls dx H' g k x => h cls dx H' (g1.trans g) k x
end
def var (i : Nat) : LE → R D := fun r => match r[i]? with
  | some (.val d) => .ok d
  | _ => .stuck
def varP (i : Nat) : LE → R D := fun r => match r[i]? with
  | some (.val d) => .ok d
  | some (.own d) => .ok d
  | _ => .stuck
def cst (d : D) : LE → R D := fun _ => .ok d
section
variable {X : Cx} {G : Gm} {W : WX} {ex a b c : Expr} {es : List Expr} {f g : LE → R D} {pos p0 : Pos}
theorem DE.p (h : DE X G W ex f) : DP X G W ex f := PE_imp h fun sg H Q ⟨dl, Z, O, r, A, q⟩ => ⟨dl, Z, O, r, A, q.thn fun d h v H' g k rp => h v H' g k (.inl rp)⟩
theorem DF.e {f : LE → R (List D)} (h : DF X G W ex f) : DE X G W ex (fun r => (f r) >>= fun ds => .ok (.lst ds)) := PE_imp h fun sg H Q ⟨dl, Z, O, r, A, q⟩ => by
  refine ⟨dl, Z, O, r, A, q.bind.thn fun ds h p vs H' g k hp rl => ?_⟩
  exact h (.ref p) _ (g.trans (Grow.new hp)) (k.new hp) ((A.grow g k).gl |> fun _ => Rep.lst_new (A.grow g k) hp rl)
theorem de_var (i : Nat) {x : Str} (hN : X.N[i]? = some x := by rfl) (hv : Vis X.env.scope x := by first | exact Or.inl rfl | exact Or.inr (Or.inl rfl) | exact Or.inr (Or.inr rfl)) (hd : (x == ("__debug__" : Str)) = false := by decide)
    (hcd : (x == ("__classdict__" : Str)) = false := by decide) : DE X G W (.Name x pos) (var i) := PE_imp (pe_var hN hv hd hcd) fun sg H Q ⟨dl, Z, O, r, A, q⟩ => by
  unfold var at q
  split at q
  · rename_i d e
    obtain ⟨v, e1, rp⟩ := A.slot i _ e
    exact ⟨v, e1, q v H (.refl _ _) A.gl rp⟩
  · exact q.elim
theorem dp_var (i : Nat) {x : Str} (hN : X.N[i]? = some x := by rfl) (hv : Vis X.env.scope x := by first | exact Or.inl rfl | exact Or.inr (Or.inl rfl) | exact Or.inr (Or.inr rfl)) (hd : (x == ("__debug__" : Str)) = false := by decide)
    (hcd : (x == ("__classdict__" : Str)) = false := by decide) : DP X G W (.Name x pos) (varP i) := PE_imp (pe_var hN hv hd hcd) fun sg H Q ⟨dl, Z, O, r, A, q⟩ => by
  unfold varP at q
  split at q
  · rename_i d e
    obtain ⟨v, e1, rp⟩ := A.slot i _ e
    exact ⟨v, e1, q v H (.refl _ _) A.gl (.inl rp)⟩
  · rename_i d e
    obtain ⟨a, ha, e1, rp, _⟩ := A.slot i _ e
    exact ⟨_, e1, q _ H (.refl _ _) A.gl (.inr ⟨a, rfl, (A.own _ ha).1, (A.own _ ha).2, rp⟩)⟩
  · exact q.elim
theorem de_of {t : TE} {d : D} {v : V} (h : PE X ex (tC v)) (rp : ∀ dl S, Rep G dl S d v) : DE X G W ex (cst d) := PE_imp h fun sg H Q ⟨dl, Z, O, r, A, q⟩ => q v H (.refl _ _) A.gl (rp _ _)
theorem de_int {i j} : DE X G W (.Constant (.int i) j pos) (cst (.int i)) := de_of (t := tC .non) pe_int fun _ _ => Rep.int_
theorem de_bl {b j} : DE X G W (.Constant (.bool b) j pos) (cst (.bl b)) := de_of (t := tC .non) pe_bl fun _ _ => Rep.bl_
theorem de_str {x : Str} {j} (s : List Nat) (hx : x = ⟨s.toArray⟩ := by rfl) : DE X G W (.Constant (.str x) j pos) (cst (.str s)) := by
  subst hx; exact de_of (t := tC .non) pe_str fun _ _ => Rep.str_
theorem de_glob {x : Str} {v : V} {u : Value} {d : D} (hm : X.mg x = some u) (rv : RelV v u) (rp : ∀ dl S, Rep G dl S d v) (hg : Gl X x := by rfl) (hd : (x == ("__debug__" : Str)) = false := by decide) : DE X G W (.Name x pos) (cst d) :=
  de_of (t := tC .non) (pe_glob hg hm rv hd) rp
def OpD (X : Cx) (G : Gm) (fo : Value → Value → Sem Value) (g : D → D → R D) : Prop :=
  ∃ rr : R2, OpR X fo rr ∧ ∀ (dl : Addr) (Z : List Addr) (O : List (Nat × Addr)) (r : LE) (sg : St) (x y : D) (vx vy : V) (H : Hp) (Q : VK) (E : Exc → Prop), At G dl Z O r sg H → RepP G dl H Z x vx → RepP G dl H Z y vy →
    Wp (g x y) (fun d => ∀ v H', Grow dl H H' → GlOk G dl H' → Rep G dl (cut H' Z) d v → Q v H') E → rr vx vy H Q
theorem OpR.or {f : Value → Value → Sem Value} {r1 r2 : R2} (h1 : OpR X f r1) (h2 : OpR X f r2) : OpR X f (fun x y H Q => r1 x y H Q ∨ r2 x y H Q) := fun pins s sg H x y v u Q I rx ry h => by
  rcases h with h | h
  · exact h1 pins s sg H x y v u Q I rx ry h
  · exact h2 pins s sg H x y v u Q I rx ry h
theorem op_core {rr : R2} {gg : D → D → R D} (hop : ∀ (dl : Addr) (Z : List Addr) (O : List (Nat × Addr)) (r : LE) (sg : St) (x y : D) (vx vy : V) (H : Hp) (Q : VK) (E : Exc → Prop), At G dl Z O r sg H → RepP G dl H Z x vx → RepP G dl H Z y vy →
    Wp (gg x y) (fun d => ∀ v H', Grow dl H H' → GlOk G dl H' → Rep G dl (cut H' Z) d v → Q v H') E → rr vx vy H Q) {sg : St} {H : Hp} {Q : VK} (h : tD G W (fun r => do let x ← f r; let y ← g r; gg x y) sg H Q) : tOp rr (tP G W f) (tP G W g) sg H Q := by
  obtain ⟨dl, Z, O, r, A, q⟩ := h
  refine ⟨dl, Z, O, r, A, q.bind.thn fun x hx vx H1 g1 k1 rx => ?_⟩
  refine ⟨dl, Z, O, r, A.grow g1 k1, hx.bind.mono (fun y hy vy H2 g2 k2 ry => ?_) fun e he => epost g1 he⟩
  refine hop dl Z O r sg x y vx vy H2 Q _ ((A.grow g1 k1).grow g2 k2) (rx.grow (A.grow g1 k1) g2) ry (hy.thn fun d hd v H' g k rp => hd v H' ((g1.trans g2).trans g) k rp)
theorem de_op {op : Operator} {gg : D → D → R D} (ho : OpD X G (binaryOp op) gg) (ha : DP X G W a f) (hb : DP X G W b g) : DE X G W (.BinOp a op b pos) (fun r => do let x ← f r; let y ← g r; gg x y) := by
  obtain ⟨rr, h1, h2⟩ := ho
  exact PE_imp (pe_op h1 ha hb) fun sg H Q h => op_core h2 h
theorem de_cmp {op : CmpOp} {gg : D → D → R D} (ho : OpD X G (compareOp op) gg) (ha : DP X G W a f) (hb : DP X G W b g) (hm : behindInMarks op b = false := by first | exact nomark _ | rfl) : DE X G W (.Compare a [op] [b] pos) (fun r => do let x ← f r; let y ← g r; gg x y) := by
  obtain ⟨rr, h1, h2⟩ := ho
  exact PE_imp (pe_cmpR h1 ha hb hm) fun sg H Q h => op_core h2 h
/-- a value as a bool -/
def asB : D → R Bool
  | .bl b => .ok b
  | _ => .stuck
theorem tT_of {t : TE} {ff : LE → R D} (hd : ∀ sg H Q, tD G W ff sg H Q → t sg H Q) {sg : St} {H : Hp} {Q : Bool → Hp → Prop} (h : tT G W (fun r => ff r >>= asB) sg H Q) : t sg H (fun x H' => ∃ k, x = .bl k ∧ Q k H') := by
  obtain ⟨dl, Z, O, r, A, q⟩ := h
  refine hd _ _ _ ⟨dl, Z, O, r, A, q.bind.thn fun d h v H' g1 k1 rp => ?_⟩
  cases d <;> first | exact h.elim | skip
  rename_i k
  have := (RepP.of rp).bl
  exact ⟨k, this, h H' g1 k1⟩
theorem dt_cmp {op : CmpOp} {gg : D → D → R D} (ho : OpD X G (compareOp op) gg) (ha : DP X G W a f) (hb : DP X G W b g) (hm : behindInMarks op b = false := by first | exact nomark _ | rfl) : DT X G W (.Compare a [op] [b] pos) (fun r => (do let x ← f r; let y ← g r; gg x y) >>= asB) := by
  obtain ⟨rr, h1, h2⟩ := ho
  exact PT_imp (pt_cmpR h1 ha hb hm) fun sg H Q h => tT_of (t := tOp rr (tP G W f) (tP G W g)) (fun sg H Q h => op_core h2 h) h
/-- any other expression that gives a bool, as a test -/
theorem dt_val (h : DE X G W ex f) (he : ∀ whole, isTrue ex X.env whole = (do let v ← whole; standAt ex.pos; holding [v] (truthy v)) := by intro _; rfl) : DT X G W ex (fun r => f r >>= asB) :=
  PT_imp (pt_val h he) fun sg H Q q => tT_of (t := tD G W f) (fun _ _ _ z => z) q
end
end DL
set_option Elab.async false
set_option linter.all false
set_option maxRecDepth 100000
namespace DL
open PySem L2
mutual
def D.eqb : D → D → Bool
  | .non, .non => true
  | .bl a, .bl b => a == b
  | .bl a, .int j => (if a then 1 else 0) == j
  | .int i, .bl b => i == (if b then 1 else 0)
  | .int i, .int j => i == j
  | .str x, .str y => x == y
  | .lst xs, .lst ys => D.eqbs xs ys
  | .tup xs, .tup ys => D.eqbs xs ys
  | _, _ => false
def D.eqbs : List D → List D → Bool
  | [], [] => true
  | x :: xs, y :: ys => D.eqb x y && D.eqbs xs ys
  | _, _ => false
end
mutual
/-- plain data, at most n deep -/
def D.sh : D → Nat → Bool
  | .non, _ => true
  | .bl _, _ => true
  | .int _, _ => true
  | .str s, _ => s.all (· < 0x110000)
  | .lst xs, n => match n with
    | 0 => false
    | n + 1 => D.shs xs n
  | .tup xs, n => match n with
    | 0 => false
    | n + 1 => D.shs xs n
  | _, _ => false
def D.shs : List D → Nat → Bool
  | [], _ => true
  | x :: xs, n => D.sh x n && D.shs xs n
end
mutual
def D.toP : D → PyData
  | .bl b => .bool b
  | .int i => .int i
  | .str s => .str ⟨s.toArray⟩
  | .lst xs => .list (D.toPs xs)
  | .tup xs => .tuple (D.toPs xs)
  | _ => .none
def D.toPs : List D → List PyData
  | [] => []
  | x :: xs => D.toP x :: D.toPs xs
end
mutual
theorem sh_lay : ∀ (d : D) (n : Nat), d.sh n = true → (d.toP).canLay0 = true ∧ (d.toP).depth ≤ n
  | .non, n, h => by simp [D.toP, PyData.canLay0, PyData.depth]
  | .bl b, n, h => by simp [D.toP, PyData.canLay0, PyData.depth]
  | .int i, n, h => by simp [D.toP, PyData.canLay0, PyData.depth]
  | .str s, n, h => by
    simp only [D.sh] at h
    refine ⟨?_, by simp [D.toP, PyData.depth]⟩
    simp only [D.toP, PyData.canLay0, PyData.strOk]
    simpa using h
  | .lst xs, 0, h => by simp [D.sh] at h
  | .lst xs, n + 1, h => by
    simp only [D.sh] at h
    have := shs_lay xs n h
    simp only [D.toP, PyData.canLay0, PyData.depth]
    exact ⟨this.1, by omega⟩
  | .tup xs, 0, h => by simp [D.sh] at h
  | .tup xs, n + 1, h => by
    simp only [D.sh] at h
    have := shs_lay xs n h
    simp only [D.toP, PyData.canLay0, PyData.depth]
    exact ⟨this.1, by omega⟩
  | .dic _, n, h => by simp [D.sh] at h
  | .cdic _, n, h => by simp [D.sh] at h
  | .ins _ _, n, h => by simp [D.sh] at h
  | .dice, n, h => by simp [D.sh] at h
  | .fn _, n, h => by simp [D.sh] at h
theorem shs_lay : ∀ (ds : List D) (n : Nat), D.shs ds n = true → PyData.canLayAll0 (D.toPs ds) = true ∧ PyData.depthAll (D.toPs ds) ≤ n
  | [], n, h => by simp [D.toPs, PyData.canLayAll0, PyData.depthAll]
  | d :: ds, n, h => by
    simp only [D.shs, Bool.and_eq_true] at h
    have h1 := sh_lay d n h.1
    have h2 := shs_lay ds n h.2
    simp only [D.toPs, PyData.canLayAll0, PyData.depthAll, h1.1, h2.1, Bool.and_self, true_and]
    exact Nat.max_le.mpr ⟨h1.2, h2.2⟩
end
theorem sh_shaped {d : D} (h : d.sh 64 = true) : SeqAt.shaped d.toP = true := by
  have := sh_lay d 64 h
  unfold SeqAt.shaped
  rw [this.1, decide_eq_true this.2]; rfl
mutual
theorem eqb_eqv : ∀ (x y : D) (n m : Nat), x.sh n = true → y.sh m = true → PyData.eqv x.toP y.toP = D.eqb x y
  | .non, y, n, m, hx, hy => by cases y <;> simp_all [D.toP, D.eqb, PyData.eqv, D.sh]
  | .bl b, y, n, m, hx, hy => by cases y <;> simp_all [D.toP, D.eqb, PyData.eqv, D.sh]
  | .int i, y, n, m, hx, hy => by cases y <;> simp_all [D.toP, D.eqb, PyData.eqv, D.sh]
  | .str s, y, n, m, hx, hy => by
    cases y <;> simp_all [D.toP, D.eqb, PyData.eqv, D.sh]
    rw [Bool.eq_iff_iff]; simp
  | .lst xs, y, n, m, hx, hy => by
    cases y <;> first | (simp_all [D.toP, D.eqb, PyData.eqv, D.sh]; done) | skip
    rename_i ys
    cases n <;> first | (simp [D.sh] at hx; done) | skip
    cases m <;> first | (simp [D.sh] at hy; done) | skip
    simp only [D.sh] at hx hy
    simp only [D.toP, D.eqb, PyData.eqv]
    exact eqbs_eqv xs ys _ _ hx hy
  | .tup xs, y, n, m, hx, hy => by
    cases y <;> first | (simp_all [D.toP, D.eqb, PyData.eqv, D.sh]; done) | skip
    rename_i ys
    cases n <;> first | (simp [D.sh] at hx; done) | skip
    cases m <;> first | (simp [D.sh] at hy; done) | skip
    simp only [D.sh] at hx hy
    simp only [D.toP, D.eqb, PyData.eqv]
    exact eqbs_eqv xs ys _ _ hx hy
  | .dic _, y, n, m, hx, hy => by simp [D.sh] at hx
  | .cdic _, y, n, m, hx, hy => by simp [D.sh] at hx
  | .ins _ _, y, n, m, hx, hy => by simp [D.sh] at hx
  | .dice, y, n, m, hx, hy => by simp [D.sh] at hx
  | .fn _, y, n, m, hx, hy => by simp [D.sh] at hx
theorem eqbs_eqv : ∀ (xs ys : List D) (n m : Nat), D.shs xs n = true → D.shs ys m = true → PyData.eqvAll (D.toPs xs) (D.toPs ys) = D.eqbs xs ys
  | [], [], n, m, hx, hy => by simp [D.toPs, D.eqbs, PyData.eqvAll]
  | [], y :: ys, n, m, hx, hy => by simp [D.toPs, D.eqbs, PyData.eqvAll]
  | x :: xs, [], n, m, hx, hy => by simp [D.toPs, D.eqbs, PyData.eqvAll]
  | x :: xs, y :: ys, n, m, hx, hy => by
    simp only [D.shs, Bool.and_eq_true] at hx hy
    simp only [D.toPs, D.eqbs, PyData.eqvAll, eqb_eqv x y n m hx.1 hy.1, eqbs_eqv xs ys n m hx.2 hy.2]
end
section
variable {G : Gm} {dl : Addr} {S H : Hp} {Z : List Addr}
mutual
theorem Rep.dp (g : GrowS S H) : ∀ (d : D) (n : Nat) {v : V}, d.sh n = true → Rep G dl S d v → Dp G.K H v d.toP
  | .non, n, v, h, q => by unfold Rep at q; subst q; exact .non
  | .bl b, n, v, h, q => by unfold Rep at q; subst q; exact .bl b
  | .int i, n, v, h, q => by unfold Rep at q; subst q; exact .int i
  | .str s, n, v, h, q => by unfold Rep at q; subst q; exact .str _
  | .lst xs, 0, v, h, q => by simp [D.sh] at h
  | .lst xs, n + 1, v, h, q => by
    unfold Rep at q
    obtain ⟨a, vs, rfl, h1, h2⟩ := q
    simp only [D.sh] at h
    exact .lst (SqL.of (g a _ h1 fun ps z => by cases z)) (RepL.dp g xs n h h2)
  | .tup xs, 0, v, h, q => by simp [D.sh] at h
  | .tup xs, n + 1, v, h, q => by
    unfold Rep at q
    obtain ⟨a, vs, rfl, h1, h2⟩ := q
    simp only [D.sh] at h
    exact .tup (g.sqt h1) (RepL.dp g xs n h h2)
  | .dic _, n, v, h, q => by simp [D.sh] at h
  | .cdic _, n, v, h, q => by simp [D.sh] at h
  | .ins _ _, n, v, h, q => by simp [D.sh] at h
  | .dice, n, v, h, q => by simp [D.sh] at h
  | .fn _, n, v, h, q => by simp [D.sh] at h
theorem RepL.dp (g : GrowS S H) : ∀ (ds : List D) (n : Nat) {vs : List V}, D.shs ds n = true → RepL G dl S ds vs → DpAll G.K H vs (D.toPs ds)
  | [], n, vs, h, q => by unfold RepL at q; subst q; exact .nil
  | d :: ds, n, vs, h, q => by
    unfold RepL at q
    obtain ⟨v, r, rfl, h1, h2⟩ := q
    simp only [D.shs, Bool.and_eq_true] at h
    exact .cons (Rep.dp g d n h.1 h1) (RepL.dp g ds n h.2 h2)
end
theorem RepP.dp {d : D} {n : Nat} {v : V} (h : d.sh n = true) (q : RepP G dl H Z d v) : Dp G.K H v d.toP := by
  rcases q with q | ⟨a, rfl, hz, hd, q⟩
  · exact Rep.dp (cut_grow H Z) d n h q
  · cases d <;> first | exact q.elim | (simp [D.sh] at h; done) | skip
    rename_i xs
    obtain ⟨vs, e, rl⟩ := q
    cases n <;> first | (simp [D.sh] at h; done) | skip
    simp only [D.sh] at h
    exact .lst (SqL.of e) (RepL.dp (cut_grow H Z) xs _ h rl)
end
/-- scalars of kinds that == tells apart -/
def D.sc : D → D → Bool
  | .non, .non => true | .non, .int _ => true | .int _, .non => true | .non, .bl _ => true | .bl _, .non => true | .non, .str _ => true | .str _, .non => true
  | .int _, .int _ => true | .bl _, .bl _ => true | .str _, .str _ => true
  | .int _, .str _ => true | .str _, .int _ => true | .bl _, .str _ => true | .str _, .bl _ => true
  | _, _ => false
def eqD (x y : D) : R D := if (x.sc y || (x.sh 64 && y.sh 64)) = true then .ok (.bl (x.eqb y)) else .stuck
def neD (x y : D) : R D := if (x.sc y || (x.sh 64 && y.sh 64)) = true then .ok (.bl (!x.eqb y)) else .stuck
section
variable {X : Cx} {G : Gm}
theorem RepP.sc {dl : Addr} {H : Hp} {Z : List Addr} {x y : D} {vx vy : V} (h : x.sc y = true) (hx : RepP G dl H Z x vx) (hy : RepP G dl H Z y vy) : scal vx vy = true ∧ decide (vx = vy) = x.eqb y := by
  cases x <;> cases y <;> first | (simp [D.sc] at h; done) | skip
  all_goals first
    | (cases hx.non; cases hy.non; simp [scal, D.eqb]; done)
    | (cases hx.non; cases hy.int; simp [scal, D.eqb]; done)
    | (cases hx.non; cases hy.bl; simp [scal, D.eqb]; done)
    | (cases hx.non; cases hy.str; simp [scal, D.eqb]; done)
    | (cases hx.int; cases hy.non; simp [scal, D.eqb]; done)
    | (cases hx.int; cases hy.int; simp [scal, D.eqb, Bool.beq_eq_decide_eq]; done)
    | (cases hx.int; cases hy.str; simp [scal, D.eqb]; done)
    | (cases hx.bl; cases hy.non; simp [scal, D.eqb]; done)
    | (cases hx.bl; cases hy.bl; simp [scal, D.eqb, Bool.beq_eq_decide_eq]; done)
    | (cases hx.bl; cases hy.str; simp [scal, D.eqb]; done)
    | (cases hx.str; cases hy.non; simp [scal, D.eqb]; done)
    | (cases hx.str; cases hy.int; simp [scal, D.eqb]; done)
    | (cases hx.str; cases hy.bl; simp [scal, D.eqb]; done)
    | (cases hx.str; cases hy.str; simp only [scal, D.eqb, true_and]; rw [Bool.eq_iff_iff]; simp; done)
theorem op_eq_d (hG : G.K = X.K) (hu : X.A.units + 64 < cLine) : OpD X G (compareOp .Eq) eqD := by
  refine ⟨_, OpR.or op_eq (op_eqD hu), fun dl Z O r sg x y vx vy H Q E A hx hy h => ?_⟩
  unfold eqD at h
  split at h
  · rename_i hc
    rw [Bool.or_eq_true, Bool.and_eq_true] at hc
    rcases hc with hc | ⟨h1, h2⟩
    · obtain ⟨e1, e2⟩ := hx.sc hc hy
      refine .inl ⟨e1, ?_⟩
      rw [e2]; exact h _ H (.refl _ _) A.gl Rep.bl_
    · refine .inr ⟨x.toP, y.toP, hG ▸ hx.dp h1, hG ▸ hy.dp h2, sh_shaped h1, sh_shaped h2, ?_⟩
      rw [eqb_eqv x y _ _ h1 h2]; exact h _ H (.refl _ _) A.gl Rep.bl_
  · exact h.elim
theorem op_ne_d (hG : G.K = X.K) (hu : X.A.units + 64 < cLine) : OpD X G (compareOp .NotEq) neD := by
  refine ⟨_, OpR.or op_ne (op_neD hu), fun dl Z O r sg x y vx vy H Q E A hx hy h => ?_⟩
  unfold neD at h
  split at h
  · rename_i hc
    rw [Bool.or_eq_true, Bool.and_eq_true] at hc
    rcases hc with hc | ⟨h1, h2⟩
    · obtain ⟨e1, e2⟩ := hx.sc hc hy
      refine .inl ⟨e1, ?_⟩
      rw [e2]; exact h _ H (.refl _ _) A.gl Rep.bl_
    · refine .inr ⟨x.toP, y.toP, hG ▸ hx.dp h1, hG ▸ hy.dp h2, sh_shaped h1, sh_shaped h2, ?_⟩
      rw [eqb_eqv x y _ _ h1 h2]; exact h _ H (.refl _ _) A.gl Rep.bl_
  · exact h.elim
def subD : D → D → R D
  | .int i, .int j => .ok (.int (i - j))
  | _, _ => .stuck
def fdivD : D → D → R D
  | .int i, .int j => if 0 < j ∧ j < 1073741824 then .ok (.int (i / j)) else .stuck
  | _, _ => .stuck
def modD : D → D → R D
  | .int i, .int j => if 0 < j then .ok (.int (i % j)) else .stuck
  | _, _ => .stuck
def ltD : D → D → R D
  | .int i, .int j => .ok (.bl (decide (i < j)))
  | .str i, .str j => .ok (.bl (decide (i < j)))
  | _, _ => .stuck
def leD : D → D → R D
  | .int i, .int j => .ok (.bl (decide (i ≤ j)))
  | .str i, .str j => .ok (.bl (!decide (j < i)))
  | _, _ => .stuck
def gtD : D → D → R D
  | .int i, .int j => .ok (.bl (decide (j < i)))
  | .str i, .str j => .ok (.bl (decide (j < i)))
  | _, _ => .stuck
def geD : D → D → R D
  | .int i, .int j => .ok (.bl (decide (j ≤ i)))
  | .str i, .str j => .ok (.bl (!decide (i < j)))
  | _, _ => .stuck
theorem op_sub_d : OpD X G (binaryOp .Sub) subD := by
  refine ⟨_, op_sub, fun dl Z O r sg x y vx vy H Q E A hx hy h => ?_⟩
  unfold subD at h
  split at h
  · exact ⟨_, _, hx.int, hy.int, h _ H (.refl _ _) A.gl Rep.int_⟩
  · exact h.elim
theorem op_fdiv_d : OpD X G (binaryOp .FloorDiv) fdivD := by
  refine ⟨_, op_fdiv, fun dl Z O r sg x y vx vy H Q E A hx hy h => ?_⟩
  unfold fdivD at h
  split at h
  · split at h
    · rename_i hc
      exact ⟨_, _, hx.int, hy.int, hc, h _ H (.refl _ _) A.gl Rep.int_⟩
    · exact h.elim
  · exact h.elim
theorem op_mod_d : OpD X G (binaryOp .Mod) modD := by
  refine ⟨_, op_mod, fun dl Z O r sg x y vx vy H Q E A hx hy h => ?_⟩
  unfold modD at h
  split at h
  · split at h
    · rename_i hc
      exact ⟨_, _, hx.int, hy.int, hc, h _ H (.refl _ _) A.gl Rep.int_⟩
    · exact h.elim
  · exact h.elim
theorem op_lt_d : OpD X G (compareOp .Lt) ltD := by
  refine ⟨_, OpR.or op_lt op_lt_str, fun dl Z O r sg x y vx vy H Q E A hx hy h => ?_⟩
  unfold ltD at h
  split at h
  · exact .inl ⟨_, _, hx.int, hy.int, h _ H (.refl _ _) A.gl Rep.bl_⟩
  · exact .inr ⟨_, _, hx.str, hy.str, h _ H (.refl _ _) A.gl Rep.bl_⟩
  · exact h.elim
theorem op_le_d : OpD X G (compareOp .LtE) leD := by
  refine ⟨_, OpR.or op_le op_le_str, fun dl Z O r sg x y vx vy H Q E A hx hy h => ?_⟩
  unfold leD at h
  split at h
  · exact .inl ⟨_, _, hx.int, hy.int, h _ H (.refl _ _) A.gl Rep.bl_⟩
  · exact .inr ⟨_, _, hx.str, hy.str, h _ H (.refl _ _) A.gl Rep.bl_⟩
  · exact h.elim
theorem op_gt_d : OpD X G (compareOp .Gt) gtD := by
  refine ⟨_, OpR.or op_gt op_gt_str, fun dl Z O r sg x y vx vy H Q E A hx hy h => ?_⟩
  unfold gtD at h
  split at h
  · exact .inl ⟨_, _, hx.int, hy.int, h _ H (.refl _ _) A.gl Rep.bl_⟩
  · exact .inr ⟨_, _, hx.str, hy.str, h _ H (.refl _ _) A.gl Rep.bl_⟩
  · exact h.elim
theorem op_ge_d : OpD X G (compareOp .GtE) geD := by
  refine ⟨_, OpR.or op_ge op_ge_str, fun dl Z O r sg x y vx vy H Q E A hx hy h => ?_⟩
  unfold geD at h
  split at h
  · exact .inl ⟨_, _, hx.int, hy.int, h _ H (.refl _ _) A.gl Rep.bl_⟩
  · exact .inr ⟨_, _, hx.str, hy.str, h _ H (.refl _ _) A.gl Rep.bl_⟩
  · exact h.elim
end
def addD : D → D → R D
  | .int i, .int j => .ok (.int (i + j))
  | .str a, .str b => if a.length + b.length ≤ 16777216 then .ok (.str (a ++ b)) else .stuck
  | .lst a, .lst b => if a.length + b.length ≤ 16777216 then .ok (.lst (a ++ b)) else .stuck
  | .tup a, .tup b => if a.length + b.length ≤ 16777216 then .ok (.tup (a ++ b)) else .stuck
  | _, _ => .stuck
def mulD : D → D → R D
  | .int i, .int j => if (-(18446744073709551616) < i ∧ i < 18446744073709551616) ∨ (-(18446744073709551616) < j ∧ j < 18446744073709551616) then .ok (.int (i * j)) else .stuck
  | _, _ => .stuck
section
variable {X : Cx} {G : Gm}
theorem str_add (a b : List Nat) : (⟨a.toArray⟩ : Str) ++ ⟨b.toArray⟩ = ⟨(a ++ b).toArray⟩ := by
  show Str.mk (a.toArray ++ b.toArray) = _
  simp
theorem op_mul_d : OpD X G (binaryOp .Mult) mulD := by
  refine ⟨_, op_mul, fun dl Z O r sg x y vx vy H Q E A hx hy h => ?_⟩
  unfold mulD at h
  split at h
  · split at h
    · rename_i hc
      exact ⟨_, _, hx.int, hy.int, (by unfold CMul; omega), h _ H (.refl _ _) A.gl Rep.int_⟩
    · exact h.elim
  · exact h.elim
theorem op_add_d (hG : G.K = X.K) : OpD X G (binaryOp .Add) addD := by
  refine ⟨_, OpR.or op_add (OpR.or op_add_str (OpR.or op_cat op_catA)), fun dl Z O r sg x y vx vy H Q E A hx hy h => ?_⟩
  unfold addD at h
  split at h
  · exact .inl ⟨_, _, hx.int, hy.int, h _ H (.refl _ _) A.gl Rep.int_⟩
  · split at h
    · rename_i a b hc
      refine .inr (.inl ⟨_, _, hx.str, hy.str, by rw [sizeLine_eq]; simpa [Str.length] using hc, ?_⟩)
      rw [str_add]
      exact h _ H (.refl _ _) A.gl Rep.str_
    · exact h.elim
  · split at h
    · rename_i a b hc
      obtain ⟨p, vs, rfl, h1, r1⟩ := hx.lst
      obtain ⟨q, us, rfl, h2, r2⟩ := hy.lst
      refine .inr (.inr (.inl ⟨_, _, _, _, rfl, rfl, h1, h2, by rw [sizeLine_eq, r1.length, r2.length]; exact hc, fun l hl => ?_⟩))
      exact h _ _ (.new hl) (A.gl.new hl) (Rep.lst_new A hl (r1.append r2))
    · exact h.elim
  · split at h
    · rename_i a b hc
      obtain ⟨p, vs, rfl, h1, r1⟩ := hx.tup
      obtain ⟨q, us, rfl, h2, r2⟩ := hy.tup
      have e1 := r1.length
      have e2 := r2.length
      refine .inr (.inr (.inr ⟨_, _, _, _, rfl, rfl, hG ▸ h1, hG ▸ h2, by rw [sizeLine_eq, e1, e2]; exact hc, fun z => ?_, fun z1 z2 => ?_, fun _ _ l hl => ?_⟩))
      · subst z
        have : a = [] := List.length_eq_zero_iff.mp e1.symm
        subst this
        rcases hy with hy | ⟨_, _, _, _, hy⟩
        · exact h _ H (.refl _ _) A.gl hy
        · exact hy.elim
      · subst z2
        have : b = [] := List.length_eq_zero_iff.mp e2.symm
        subst this
        rcases hx with hx | ⟨_, _, _, _, hx⟩
        · rw [List.append_nil] at h
          exact h _ H (.refl _ _) A.gl hx
        · exact hx.elim
      · exact h _ _ (.new hl) (A.gl.new hl) (Rep.tup_new A hl (r1.append r2))
    · exact h.elim
  · exact h.elim
end
end DL
set_option Elab.async false
set_option linter.all false
set_option maxRecDepth 100000
namespace DL
open PySem L2 PySem.Spec PyProof.Rows
def andT (f g : LE → R Bool) : LE → R Bool := fun r => do if (← f r) then g r else .ok false
def orT (f g : LE → R Bool) : LE → R Bool := fun r => do if (← f r) then .ok true else g r
def notT (f : LE → R Bool) : LE → R Bool := fun r => do let b ← f r; .ok (!b)
def andV (f g : LE → R D) : LE → R D := fun r => do
  match ← f r with
  | .bl true => g r
  | .bl false => .ok (.bl false)
  | _ => .stuck
def orV (f g : LE → R D) : LE → R D := fun r => do
  match ← f r with
  | .bl true => .ok (.bl true)
  | .bl false => g r
  | _ => .stuck
def notV (f : LE → R D) : LE → R D := fun r => do
  match ← f r with
  | .bl b => .ok (.bl (!b))
  | _ => .stuck
def iteE (c : LE → R Bool) (f g : LE → R D) : LE → R D := fun r => do if (← c r) then f r else g r
section
variable {X : Cx} {G : Gm} {W : WX} {ex a b c : Expr} {rest : List Expr} {f g : LE → R D} {h k : LE → R Bool} {pos : Pos}
theorem dw_and1 (ha : DT X G W a h) : DW X G W (.BoolOp .And [a] pos) h := pw_and1 ha
theorem dw_or1 (ha : DT X G W a h) : DW X G W (.BoolOp .Or [a] pos) h := pw_or1 ha
theorem dw_and (ha : DT X G W a h) (hb : DW X G W (.BoolOp .And (b :: rest) pos) k) : DW X G W (.BoolOp .And (a :: b :: rest) pos) (andT h k) := PW_imp (pw_and ha hb) fun sg H Q ⟨dl, Z, O, r, A, q⟩ => by
  refine ⟨dl, Z, O, r, A, q.bind.thn fun b hb H1 g1 k1 => ?_⟩
  cases b with
  | true => exact ⟨dl, Z, O, r, A.grow g1 k1, hb.mono (fun b q H2 g2 k2 => q H2 (g1.trans g2) k2) fun e => epost g1⟩
  | false => exact hb H1 g1 k1
theorem dw_or (ha : DT X G W a h) (hb : DW X G W (.BoolOp .Or (b :: rest) pos) k) : DW X G W (.BoolOp .Or (a :: b :: rest) pos) (orT h k) := PW_imp (pw_or ha hb) fun sg H Q ⟨dl, Z, O, r, A, q⟩ => by
  refine ⟨dl, Z, O, r, A, q.bind.thn fun b hb H1 g1 k1 => ?_⟩
  cases b with
  | true => exact hb H1 g1 k1
  | false => exact ⟨dl, Z, O, r, A.grow g1 k1, hb.mono (fun b q H2 g2 k2 => q H2 (g1.trans g2) k2) fun e => epost g1⟩
theorem dt_w (h' : DW X G W ex h) : DT X G W ex h := h'.pt
theorem dt_not (ha : DT X G W a h) : DT X G W (.UnaryOp .Not a pos) (notT h) := PT_imp (pt_not ha) fun sg H Q ⟨dl, Z, O, r, A, q⟩ =>
  ⟨dl, Z, O, r, A, q.bind.thn fun b hb H1 g1 k1 => hb H1 g1 k1⟩
theorem de_one {op} (ha : DE X G W a f) : DE X G W (.BoolOp op [a] pos) f := pe_one ha
theorem de_and (ha : DE X G W a f) (hb : DE X G W (.BoolOp .And (b :: rest) pos) g) : DE X G W (.BoolOp .And (a :: b :: rest) pos) (andV f g) := PE_imp (pe_and ha hb) fun sg H Q ⟨dl, Z, O, r, A, q⟩ => by
  refine ⟨dl, Z, O, r, A, q.bind.thn fun d hd v H1 g1 k1 rp => ?_⟩
  split at hd
  · exact ⟨true, (RepP.of rp).bl, ⟨dl, Z, O, r, A.grow g1 k1, hd.mono (fun d q v H2 g2 k2 => q v H2 (g1.trans g2) k2) fun e => epost g1⟩⟩
  · exact ⟨false, (RepP.of rp).bl, hd _ H1 g1 k1 Rep.bl_⟩
  · exact hd.elim
theorem de_if (hc : DT X G W c h) (ha : DE X G W a f) (hb : DE X G W b g) : DE X G W (.IfExp c a b pos) (iteE h f g) := PE_imp (pe_ifExp hc ha hb) fun sg H Q ⟨dl, Z, O, r, A, q⟩ => by
  refine ⟨dl, Z, O, r, A, q.bind.thn fun b hb H1 g1 k1 => ?_⟩
  cases b with
  | true => exact ⟨dl, Z, O, r, A.grow g1 k1, hb.mono (fun d q v H2 g2 k2 => q v H2 (g1.trans g2) k2) fun e => epost g1⟩
  | false => exact ⟨dl, Z, O, r, A.grow g1 k1, hb.mono (fun d q v H2 g2 k2 => q v H2 (g1.trans g2) k2) fun e => epost g1⟩
def chainE (f1 f2 f3 : LE → R D) (g g' : D → D → R D) : LE → R D := fun r => do
  let x ← f1 r
  let y ← f2 r
  match ← g x y with
  | .bl true => do
    let w ← f3 r
    g' y w
  | .bl false => .ok (.bl false)
  | _ => .stuck
theorem chain_core {f1 f2 f3 : LE → R D} {g1 g2 : D → D → R D} {r1 r2 : R2}
    (h1 : ∀ (dl : Addr) (Z : List Addr) (O : List (Nat × Addr)) (r : LE) (sg : L2.St) (x y : D) (vx vy : V) (H : Hp) (Q : VK) (E : Exc → Prop), At G dl Z O r sg H → RepP G dl H Z x vx → RepP G dl H Z y vy →
      Wp (g1 x y) (fun d => ∀ v H', Grow dl H H' → GlOk G dl H' → Rep G dl (cut H' Z) d v → Q v H') E → r1 vx vy H Q)
    (h2 : ∀ (dl : Addr) (Z : List Addr) (O : List (Nat × Addr)) (r : LE) (sg : L2.St) (x y : D) (vx vy : V) (H : Hp) (Q : VK) (E : Exc → Prop), At G dl Z O r sg H → RepP G dl H Z x vx → RepP G dl H Z y vy →
      Wp (g2 x y) (fun d => ∀ v H', Grow dl H H' → GlOk G dl H' → Rep G dl (cut H' Z) d v → Q v H') E → r2 vx vy H Q) {sg : L2.St} {H : Hp} {Q : VK} (h : tD G W (chainE f1 f2 f3 g1 g2) sg H Q) :
    tChain r1 r2 (tP G W f1) (tP G W f2) (tP G W f3) sg H Q := by
  obtain ⟨dl, Z, O, r, A, q⟩ := h
  refine ⟨dl, Z, O, r, A, q.bind.thn fun x hx vx H1 q1 k1 rx => ?_⟩
  have A1 := A.grow q1 k1
  refine ⟨dl, Z, O, r, A1, hx.bind.mono (fun y hy vy H2 q2 k2 ry => ?_) fun e he => epost q1 he⟩
  have A2 := A1.grow q2 k2
  refine h1 dl Z O r sg x y vx vy H2 _ _ A2 (rx.grow A1 q2) ry (hy.bind.thn fun z hz v H3 q3 k3 rz => ?_)
  have A3 := A2.grow q3 k3
  split at hz
  · refine ⟨true, (RepP.of rz).bl, ?_⟩
    rw [if_pos rfl]
    refine ⟨dl, Z, O, r, A3, hz.bind.mono (fun w hw vw H4 q4 k4 rw_ => ?_) fun e he => epost ((q1.trans q2).trans q3) he⟩
    exact h2 dl Z O r sg y w vy vw H4 Q _ (A3.grow q4 k4) ((ry.grow A2 q3).grow A3 q4) rw_ (hw.thn fun d hd v H' g k rp => hd v H' ((((q1.trans q2).trans q3).trans q4).trans g) k rp)
  · refine ⟨false, (RepP.of rz).bl, ?_⟩
    rw [if_neg Bool.false_ne_true]
    exact hz _ H3 ((q1.trans q2).trans q3) k3 Rep.bl_
  · exact hz.elim
theorem dt_chain {op op' : CmpOp} {f1 f2 f3 : LE → R D} {g1 g2 : D → D → R D} (ho : OpD X G (compareOp op) g1) (ho' : OpD X G (compareOp op') g2) (ha : DP X G W a f1) (hb : DP X G W b f2) (hc : DP X G W c f3)
    (hm : lastMarks [op, op'] [b, c] = false := by with_unfolding_all rfl) : DT X G W (.Compare a [op, op'] [b, c] pos) (fun r => chainE f1 f2 f3 g1 g2 r >>= asB) := by
  obtain ⟨r1, h1, h2⟩ := ho
  obtain ⟨r2, h3, h4⟩ := ho'
  exact PT_imp (pt_chain h1 h3 ha hb hc hm) fun sg H Q h => tT_of (t := tChain r1 r2 (tP G W f1) (tP G W f2) (tP G W f3)) (fun sg H Q h => chain_core h2 h4 h) h
end
def anil : LE → R (List D) := fun _ => .ok []
def acons (f : LE → R D) (fs : LE → R (List D)) : LE → R (List D) := fun r => do
  let x ← f r
  let xs ← fs r
  .ok (x :: xs)
def tupE (fs : LE → R (List D)) : LE → R D := fun r => do
  let ds ← fs r
  if ds.length ≤ 16777216 then .ok (.tup ds) else .stuck
def lstE (fs : LE → R (List D)) : LE → R (List D) := fun r => do
  let ds ← fs r
  if ds.length ≤ 16777216 then .ok ds else .stuck
section
variable {X : Cx} {G : Gm} {W : WX} {ex a b c : Expr} {es : List Expr} {f g : LE → R D} {fs : LE → R (List D)} {pos : Pos}
theorem da_nil : DA X G W [] anil := PA_imp pa_nil fun sg H Q ⟨dl, Z, O, r, A, q⟩ => q [] H (.refl _ _) A.gl RepL.nil
theorem da_cons (ha : DE X G W a f) (hs : DA X G W es fs) (hst : starEach (a :: es) X.env = (false, eval a X.env) :: starEach es X.env := by rfl) : DA X G W (a :: es) (acons f fs) := PA_imp (pa_cons ha hs hst) fun sg H Q ⟨dl, Z, O, r, A, q⟩ => by
  refine ⟨dl, Z, O, r, A, q.bind.thn fun x hx v H1 g1 k1 rp => ?_⟩
  refine ⟨dl, Z, O, r, A.grow g1 k1, hx.bind.mono (fun xs hxs vs H2 g2 k2 rl => ?_) fun e => epost g1⟩
  exact hxs (v :: vs) H2 (g1.trans g2) k2 (RepL.cons (rp.mono (g2.cut A.dz)) rl)
theorem de_tup {x1} (h : DA X G W es fs) : DE X G W (.Tuple es x1 pos) (tupE fs) := PE_imp (pe_tup h) fun sg H Q ⟨dl, Z, O, r, A, q⟩ => by
  refine ⟨dl, Z, O, r, A, q.bind.thn fun ds hd vs H1 g1 k1 rl => ?_⟩
  split at hd
  · rename_i hc
    refine ⟨by rw [sizeLine_eq, rl.length]; exact hc, fun p hp => ?_⟩
    exact hd _ _ (g1.trans (.new hp)) (k1.new hp) (Rep.tup_new (A.grow g1 k1) hp rl)
  · exact hd.elim
theorem df_lst (h : DA X G W es fs) : DF X G W (.List es pos) (lstE fs) := PE_imp (pe_lst h) fun sg H Q ⟨dl, Z, O, r, A, q⟩ => by
  refine ⟨dl, Z, O, r, A, q.bind.thn fun ds hd vs H1 g1 k1 rl => ?_⟩
  split at hd
  · rename_i hc
    exact ⟨by rw [sizeLine_eq, rl.length]; exact hc, fun p hp => hd p vs H1 g1 k1 hp rl⟩
  · exact hd.elim
/-- the place of a field: by the class -/
def fldD (fx : Nat → Option Nat) : D → R D
  | .ins c ds => match fx c with
    | some j => match ds[j]? with
      | some d => .ok d
      | none => .stuck
    | none => .stuck
  | _ => .stuck
def ixD : D → D → R D
  | .lst xs, .int i => match atI xs i with
    | some d => .ok d
    | none => .stuck
  | .tup xs, .int i => match atI xs i with
    | some d => .ok d
    | none => .stuck
  | .str s, .int i => if s.length ≤ 16777216 then (match atI s i with
    | some c => .ok (.str [c])
    | none => .stuck) else .stuck
  | _, _ => .stuck
theorem atI_rep {G : Gm} {dl : Addr} {S : Hp} {ds : List D} {vs : List V} {i : Int} {d : D} (rl : RepL G dl S ds vs) (h : atI ds i = some d) : ∃ v, atI vs i = some v ∧ Rep G dl S d v := by
  unfold atI at *
  rw [rl.length]
  cases e : ixN ds.length i with
  | none => rw [e] at h; cases h
  | some j =>
    rw [e] at h
    exact RepL.getD ds vs j d rl h
end
end DL
set_option Elab.async false
set_option linter.all false
set_option maxRecDepth 100000
namespace DL
open PySem L2 PySem.Spec PyProof.Rows
abbrev Live (Z : List Addr) (H : Hp) : Prop := ∀ a ∈ Z, ∃ o, H a = some o ∧ ∀ ps, o ≠ .tbl ps
/-- a def's promise: it comes to g of what its arguments are -/
def spD (G : Gm) (n : Nat) (g : List D → R D) : Sp := fun vs H Q E => vs.length = n ∧ ∃ dl Z ds, GlOk G dl H ∧ dl ∈ Z ∧ Live Z H ∧ RepL G dl (cut H Z) ds vs ∧
  Wp (g ds) (fun d => ∀ v H', Grow dl H H' → GlOk G dl H' → Rep G dl (cut H' Z) d v → Q v H')
    (fun e => ∀ cls dx H', Grow dl H H' → GlOk G dl H' → XRep G dl (cut H' Z) e cls dx H' → E cls dx H')
section
variable (P : Program) (w : World) (K : PySem.W.Frag) (mg : Str → Option Value) (base : Heap)
structure FnD (G : Gm) (k : Nat) (x : Str) (f : Addr) (n : Nat) (g : List D → R D) : Prop where
  ex : ∃ (fd : FuncData) (ps : List Str), ps.length = n ∧ FnOk P w K mg base (L2.CX P w) k f fd ps (spD G n g) ∧ Binds K fd ps []
  len : ∀ ds Q E, Wp (g ds) Q E → ds.length = n
  kp : PySem.W.keepIn K (.ref f) = true
  at_ : mg x = some (.ref f)
end
section
variable {X : Cx} {G : Gm} {W : WX} {ex o : Expr} {es : List Expr} {f : LE → R D} {fs : LE → R (List D)} {g : List D → R D} {pos apos p : Pos} {x m : Str} {k n c : Nat} {fa : Addr}
theorem call_core (hl : ∀ ds Q E, Wp (g ds) Q E → ds.length = n) {sg : L2.St} {H : Hp} {Q : VK} (h : tD G W (fun r => fs r >>= g) sg H Q) : tCallS (spD G n g) (WE W) (tA G W fs) sg H Q := by
  obtain ⟨dl, Z, O, r, A, q⟩ := h
  refine ⟨dl, Z, O, r, A, q.bind.thn fun ds hd vs H1 g1 k1 rl => ?_⟩
  refine ⟨by rw [rl.length]; exact hl ds _ _ hd, dl, Z, ds, k1, A.dz, (A.grow g1 k1).live, rl, ?_⟩
  exact hd.mono (fun d q v H2 g2 k2 rp => q v H2 (g1.trans g2) k2 rp) fun e he cls dx H2 g2 k2 xr => he cls dx H2 (g1.trans g2) k2 xr
theorem de_call (F : FnD X.prog X.w X.K X.mg X.base G k x fa n g) (hr : Room k X.A) (tk : Takes X W) (ha : DA X G W (ex :: es) fs) (hg : Gl X x := by rfl)
    (hdb : (x == ("__debug__" : Str)) = false := by decide) (he : starEach (ex :: es) X.env = (false, eval ex X.env) :: starEach es X.env := by rfl) (hpl : (backTo pos (starEach es X.env)).any (·.1) = false := by rfl) :
    DE X G W (.Call (.Name x p) (ex :: es) [] pos) (fun r => fs r >>= g) := by
  obtain ⟨⟨fd, ps, hn, ok, hb⟩, hl, kp, hm⟩ := F
  exact PE_imp (pe_callS ok hr hg hm kp hb (fun sg => passAt tk sg) ha hdb he hpl) fun sg H Q h => call_core hl h
theorem de_call0 (F : FnD X.prog X.w X.K X.mg X.base G k x fa n g) (hr : Room k X.A) (tk : Takes X W) (hg : Gl X x := by rfl) (hdb : (x == ("__debug__" : Str)) = false := by decide) :
    DE X G W (.Call (.Name x p) [] [] pos) (fun _ => g []) := by
  obtain ⟨⟨fd, ps, hn, ok, hb⟩, hl, kp, hm⟩ := F
  refine ⟨fun pins s sg H Q I ⟨dl, Z, O, r, A, q⟩ => ?_⟩
  have h2 : spD G n g [] H Q (WE W sg) := ⟨hl [] _ _ q, dl, Z, [], A.gl, A.dz, A.live, RepL.nil, q⟩
  exact wpAny_Call_Name_kw (ld_glob I hg hm (PySem.W.callWith_K0 I.kIn kp (run_fnS (us := []) ok hr hb (passAt tk sg) I .nil h2)) hdb)
/-- the receiver is of the class c -/
def isC (c : Nat) : D → R D
  | .ins c' fs => if c' = c then .ok (.ins c fs) else .stuck
  | _ => .stuck
end
end DL
set_option Elab.async false
set_option linter.all false
set_option maxRecDepth 100000
namespace DL
open PySem L2 PySem.Spec PyProof.Rows
/-- an expression's result in a statement: what is raised ends it -/
def R.onS {α : Type} : R α → LE → (α → R Out) → R Out
  | .ok a, _, k => k a
  | .err e, r, _ => .ok (.ex e r)
  | .stuck, _, _ => .stuck
  | .roll m f, r, k => .roll m fun i => (f i).onS r k
section
variable {α : Type}
@[simp] theorem onS_ok (a : α) (r : LE) (k : α → R Out) : (R.ok a).onS r k = k a := rfl
@[simp] theorem onS_err (e : Exc) (r : LE) (k : α → R Out) : (R.err e : R α).onS r k = .ok (.ex e r) := rfl
@[simp] theorem onS_stuck (r : LE) (k : α → R Out) : (R.stuck : R α).onS r k = .stuck := rfl
@[simp] theorem onS_roll (m : Nat) (f : Nat → R α) (r : LE) (k : α → R Out) : (R.roll m f).onS r k = .roll m fun i => (f i).onS r k := rfl
theorem onS_wp {Q : Out → Prop} {E : Exc → Prop} {r : LE} {k : α → R Out} : ∀ {m : R α}, Wp (m.onS r k) Q E → Wp m (fun a => Wp (k a) Q E) (fun e => Q (.ex e r))
  | .ok _, h => h
  | .err _, h => h
  | .stuck, h => h
  | .roll _ _, h => fun i hi => onS_wp (h i hi)
end
def skipS : LE → R Out := fun r => .ok (.nx r)
def seqS (F K : LE → R Out) : LE → R Out := fun r => do
  match ← F r with
  | .nx r' => K r'
  | o => .ok o
def retS (f : LE → R D) : LE → R Out := fun r => (f r).onS r fun d => .ok (.rt d)
def ifS (c : LE → R Bool) (F K : LE → R Out) : LE → R Out := fun r => (c r).onS r fun b => if b then F r else K r
def frz (i : Nat) (r : LE) : LE := match r[i]? with
  | some (.own (.lst ds)) => r.set i (.val (.lst ds))
  | some (.own (.dic ds)) => r.set i (.val (.dic ds))
  | _ => r
section
variable {G : Gm} {dl : Addr} {Z : List Addr} {O : List (Nat × Addr)} {r : LE} {sg : L2.St} {H H1 : Hp} {W : WX} {d : D} {v : V} {De : Ends}
/-- an expression's error, in a statement -/
theorem spost_ex (A : At G dl Z O r sg H) {e : Exc} (h : SPost G W De dl Z O H (.ex e r)) : ∀ cls dx H', Grow dl H H' → GlOk G dl H' → XRep G dl (cut H' Z) e cls dx H' → W cls dx sg H' :=
  fun cls dx H' g k x => h Z O sg H' cls dx (Stp.of_grow g k) (A.grow g k) x
theorem set_get {α : Type} {l : List α} {i j : Nat} {a b : α} (h : (l.set i a)[j]? = some b) : (j = i ∧ b = a ∧ i < l.length) ∨ (j ≠ i ∧ l[j]? = some b) := by
  by_cases e : i = j
  · subst e
    by_cases q : i < l.length
    · rw [List.getElem?_set_self q] at h
      exact .inl ⟨rfl, (Option.some.inj h).symm, q⟩
    · rw [List.getElem?_eq_none (by simpa using q)] at h; cases h
  · rw [List.getElem?_set_ne e] at h
    exact .inr ⟨fun z => e z.symm, h⟩
theorem At.set_val (A : At G dl Z O r sg H) (i : Nat) (rp : Rep G dl (cut H Z) d v) : At G dl Z O (r.set i (.val d)) (sg.set i (some v)) H := by
  refine ⟨A.gl, A.dz, A.live, A.own, A.inj, by rw [List.length_set, List.length_set, A.len], fun j c e => ?_⟩
  rcases set_get e with ⟨rfl, rfl, hl⟩ | ⟨hn, e2⟩
  · exact ⟨v, List.getElem?_set_self (by rw [← A.len]; exact hl), rp⟩
  · rw [List.getElem?_set_ne (fun z => hn z.symm)]
    exact A.slot j c e2
theorem At.set_un (A : At G dl Z O r sg H) (i : Nat) (x : Option V) : At G dl Z O (r.set i .un) (sg.set i x) H := by
  refine ⟨A.gl, A.dz, A.live, A.own, A.inj, by rw [List.length_set, List.length_set, A.len], fun j c e => ?_⟩
  rcases set_get e with ⟨rfl, rfl, hl⟩ | ⟨hn, e2⟩
  · trivial
  · rw [List.getElem?_set_ne (fun z => hn z.symm)]
    exact A.slot j c e2
theorem cut_new {p : Addr} {o : HO} (h : H p = none) : GrowS (cut H Z) (cut (upd H p o) (p :: Z)) := fun b u e n => by
  obtain ⟨e1, e2⟩ := cut_some e
  have hb : b ≠ p := ne_of_none e2 h
  rw [cut_out (by simp only [List.mem_cons, not_or]; exact ⟨hb, e1⟩), upd_ne hb]
  exact e2
theorem At.set_own (A : At G dl Z O r sg H) (i : Nat) {p : Addr} {o : HO} (hp : H p = none) (ow : OwnAt G dl (cut H Z) d (some o)) (hk : kee i d = i ∧ keeOk i d) : At G dl (p :: Z) ((i, p) :: O) (r.set i (.own d)) (sg.set i (some (.ref p))) (upd H p o) := by
  obtain ⟨u, hu, nt⟩ := ow.notTbl
  cases hu
  refine ⟨A.gl.new hp, List.mem_cons_of_mem _ A.dz, fun a ha => ?_, fun q hq => ?_, fun q hq q' hq' e => ?_, by rw [List.length_set, List.length_set, A.len], fun j c e => ?_⟩
  · rcases List.mem_cons.mp ha with rfl | ha
    · exact ⟨o, upd_same, nt⟩
    · obtain ⟨u, e, n⟩ := A.live a ha
      exact ⟨u, by rw [upd_ne (ne_of_none e hp)]; exact e, n⟩
  · rcases List.mem_cons.mp hq with rfl | hq
    · exact ⟨List.mem_cons_self, A.notdl hp⟩
    · exact ⟨List.mem_cons_of_mem _ (A.own q hq).1, (A.own q hq).2⟩
  · have no : ∀ q ∈ O, q.2 ≠ p := fun q hq z => A.out hp (z ▸ (A.own q hq).1)
    rcases List.mem_cons.mp hq with rfl | hq
    · rcases List.mem_cons.mp hq' with rfl | hq'
      · rfl
      · exact (no _ hq' e.symm).elim
    · rcases List.mem_cons.mp hq' with rfl | hq'
      · exact (no _ hq e).elim
      · exact A.inj q hq q' hq' e
  · rcases set_get e with ⟨rfl, rfl, hl⟩ | ⟨hn, e2⟩
    · refine ⟨p, by rw [hk.1]; exact List.mem_cons_self, List.getElem?_set_self (by rw [← A.len]; exact hl), ?_, hk.2⟩
      rw [upd_same]
      exact ow.mono (cut_new hp)
    · rw [List.getElem?_set_ne (fun z => hn z.symm)]
      have := A.slot j c e2
      cases c with
      | un => trivial
      | val d =>
        obtain ⟨v, e, q⟩ := this
        exact ⟨v, e, q.mono (cut_new hp)⟩
      | own d =>
        obtain ⟨a, ha, e, q, ko⟩ := this
        refine ⟨a, List.mem_cons_of_mem _ ha, e, ?_, ko⟩
        have hap : a ≠ p := fun z => A.out hp (by rw [← z]; exact (A.own _ ha).1)
        rw [upd_ne hap]
        exact q.mono (cut_new hp)
theorem Stp.new {p : Addr} {o : HO} {i : Nat} (A : At G dl Z O r sg H) (hp : H p = none) (hi : i ≠ 1000000) : Stp dl Z O H (p :: Z) ((i, p) :: O) (upd H p o) :=
  ⟨fun a u e _ _ _ => by rw [upd_ne (ne_of_none e hp)]; exact e, fun q hq => by
    rcases List.mem_cons.mp hq with rfl | hq
    · exact .inr (Free.of hp)
    · exact .inl ⟨q, hq, rfl⟩, fun a ha _ => List.mem_cons_of_mem _ ha, fun a ha => (List.mem_cons.mp ha).elim (fun e => .inr (by rw [e]; exact Free.of hp)) .inl, fun a ha => (List.mem_cons.mp ha).elim (fun e => (hi (congrArg Prod.fst e).symm).elim) id, fun a f u e => f u (by rw [upd_ne (ne_of_none e hp)]; exact e)⟩
end
end DL
set_option Elab.async false
set_option linter.all false
set_option maxRecDepth 100000
namespace DL
open PySem L2 PySem.Spec PyProof.Rows
/-- a value for a name: read alone (val), or a new list or dict of one's own (own) -/
def tK (G : Gm) (W : WX) (f : LE → R Cell) : TE := fun sg H Q => ∃ dl Z O r, At G dl Z O r sg H ∧
  Wp (f r) (fun c => match c with
    | .val d => ∀ v H', Grow dl H H' → GlOk G dl H' → Rep G dl (cut H' Z) d v → Q v H'
    | .own d => ∀ p o H', Grow dl H H' → GlOk G dl H' → H' p = none → OwnAt G dl (cut H' Z) d (some o) → (∀ i, i ≠ 1000000 → kee i d = i ∧ keeOk i d) → Q (.ref p) (upd H' p o)
    | .un => False)
    (fun e => ∀ cls dx H', Grow dl H H' → GlOk G dl H' → XRep G dl (cut H' Z) e cls dx H' → W cls dx sg H')
abbrev DK (X : Cx) (G : Gm) (W : WX) (e : Expr) (f : LE → R Cell) : Prop := PE X e (tK G W f)
def valK (f : LE → R D) : LE → R Cell := fun r => f r >>= fun d => .ok (.val d)
def ownK (f : LE → R (List D)) : LE → R Cell := fun r => f r >>= fun ds => .ok (.own (.lst ds))
def okK : Cell → R Cell
  | .un => .stuck
  | .val d => .ok (.val d)
  | .own d => .ok (.own d)
def setK (i : Nat) (f : LE → R Cell) : LE → R Out := fun r => (f r >>= okK).onS r fun c => .ok (.nx (r.set i c))
def parK (i j : Nat) (f g : LE → R Cell) : LE → R Out := fun r => (f r >>= okK).onS r fun c => (g r >>= okK).onS r fun c' => .ok (.nx ((r.set i c).set j c'))
def tGd (G : Gm) (gd : D → LE → Option LE) (is : List Nat) : TG := fun v sg H Q => ∃ dl Z O r d, At G dl Z O r sg H ∧ Rep G dl (cut H Z) d v ∧ ∃ r', gd d r = some r' ∧
  ∀ sg', sg'.length = sg.length → (∀ j, j ∉ is → sg'[j]? = sg[j]?) → At G dl Z O r' sg' H → Q sg' H
abbrev DG (X : Cx) (G : Gm) (tg : Expr) (gd : D → LE → Option LE) (is : List Nat) : Prop := PG X tg (tGd G gd is)
def tGs (G : Gm) (gs : List D → LE → Option LE) (is : List Nat) : TGs := fun vs sg H Q => ∃ dl Z O r ds, At G dl Z O r sg H ∧ RepL G dl (cut H Z) ds vs ∧ ∃ r', gs ds r = some r' ∧
  ∀ sg', sg'.length = sg.length → (∀ j, j ∉ is → sg'[j]? = sg[j]?) → At G dl Z O r' sg' H → Q sg' H
abbrev DGs (X : Cx) (G : Gm) (tg : List Expr) (gs : List D → LE → Option LE) (is : List Nat) : Prop := PGs X tg (tGs G gs is)
def gN (i : Nat) : D → LE → Option LE := fun d r => some (r.set i (.val d))
def gNil_ : List D → LE → Option LE
  | [], r => some r
  | _, _ => none
def gCons_ (g : D → LE → Option LE) (gs : List D → LE → Option LE) : List D → LE → Option LE
  | d :: ds, r => (g d r).bind (gs ds)
  | [], _ => none
def gTup_ (n : Nat) (gs : List D → LE → Option LE) : D → LE → Option LE
  | .tup ds, r => if ds.length = n then gs ds r else none
  | _, _ => none
theorem PG_imp {X : Cx} {e : Expr} {t t' : TG} (h : PG X e t) (i : ∀ v sg H Q, t' v sg H Q → t v sg H Q) : PG X e t' := ⟨fun pins s sg H v u Q I r q => h.run pins s sg H v u Q I r (i _ _ _ _ q)⟩
theorem PGs_imp {X : Cx} {e : List Expr} {t t' : TGs} (h : PGs X e t) (i : ∀ v sg H Q, t' v sg H Q → t v sg H Q) : PGs X e t' := ⟨fun pins s sg H v u Q I r q => h.run pins s sg H v u Q I r (i _ _ _ _ q)⟩
section
variable {X : Cx} {G : Gm} {W : WX} {ex a b c : Expr} {es : List Expr} {f : LE → R D} {fk fk2 : LE → R Cell} {fs : LE → R (List D)} {h : LE → R Bool} {F K : LE → R Out} {st : Stmt} {rest : List Stmt} {pos pos' : Pos} {x y : Str} {i j : Nat}
theorem DE.k (q : DE X G W ex f) : DK X G W ex (valK f) := PE_imp q fun sg H Q ⟨dl, Z, O, r, A, q⟩ => ⟨dl, Z, O, r, A, q.bind.thn fun d z => z⟩
theorem DF.k (q : DF X G W ex fs) : DK X G W ex (ownK fs) := PE_imp q fun sg H Q ⟨dl, Z, O, r, A, q⟩ => ⟨dl, Z, O, r, A, q.bind.thn fun ds z p vs H' g k hp rl => z p (.lst vs) H' g k hp ⟨vs, rfl, rl⟩ fun i hi => ⟨rfl, hi⟩⟩
theorem dss_nil : DSs X G W [] skipS := PSs_imp pss_nil fun De sg H ⟨dl, Z, O, r, A, q⟩ => q Z O sg H Stp.refl A
theorem dss_cons (h1 : DS X G W st F) (h2 : DSs X G W rest K) : DSs X G W (st :: rest) (seqS F K) := PSs_imp (pss_cons h1 h2) fun De sg H ⟨dl, Z, O, r, A, q⟩ => by
  refine ⟨dl, Z, O, r, A, q.bind.thn fun o ho => ?_⟩
  cases o with
  | nx r' => exact fun Z' O' sg' H' s A' => ⟨dl, Z', O', r', A', ho.thn fun o z => SPost.trans A s z⟩
  | bk r' => exact ho
  | ct r' => exact ho
  | rt d => exact ho
  | ex e r' => exact ho
theorem dss_one (h1 : DS X G W st F) : DSs X G W [st] F := PSs_imp (pss_one h1) fun _ _ _ z => z
theorem ds_set (i : Nat) (he : DK X G W ex fk) (hti : i ≠ 1000000 := by decide) (hN : X.N.Nodup) (hi : X.N[i]? = some x := by rfl) (hx : Loc X.env.scope x := by first | exact Or.inl rfl | exact Or.inr rfl) (hs : swapsWith ex (some (.Name x pos')) pos.line X.env = pure false := by rfl)
    (hf : X.fn x = true ∨ X.env.scope.names.lookup x = some .local := by first | exact .inl rfl | exact .inr rfl) : DS X G W (.Assign [.Name x pos'] ex pos) (setK i fk) := PS_imp (ps_set hN hi hx he hs hf) fun De sg H ⟨dl, Z, O, r, A, q⟩ => by
  refine ⟨dl, Z, O, r, A, (onS_wp q).bind.mono (fun c hc => ?_) fun e he => spost_ex A he⟩
  cases c with
  | val d => exact fun v H1 g1 k1 rp => hc Z O _ H1 (Stp.of_grow g1 k1) ((A.grow g1 k1).set_val i rp)
  | own d => exact fun p o H1 g1 k1 hp ow hk => hc _ _ _ _ (Stp.trans A (Stp.of_grow g1 k1) (Stp.new (A.grow g1 k1) hp hti)) ((A.grow g1 k1).set_own i hp ow (hk i hti))
  | un => exact hc.elim
theorem ds_ret (he : DE X G W ex f) : DS X G W (.Return (some ex) pos) (retS f) := PS_imp (ps_ret he) fun De sg H ⟨dl, Z, O, r, A, q⟩ =>
  ⟨dl, Z, O, r, A, (onS_wp q).mono (fun d hd v H1 g1 k1 rp => hd Z O v H1 (Stp.of_grow g1 k1) k1 rp) fun e he => spost_ex A he⟩
theorem ds_if {sa sb : List Stmt} (hc : DT X G W c h) (ha : DSs X G W sa F) (hb : DSs X G W sb K) : DS X G W (.If c sa sb pos) (ifS h F K) := PS_imp (ps_if hc ha hb) fun De sg H ⟨dl, Z, O, r, A, q⟩ => by
  refine ⟨dl, Z, O, r, A, (onS_wp q).mono (fun b hb H1 g1 k1 => ?_) fun e he => spost_ex A he⟩
  cases b with
  | true => exact ⟨dl, Z, O, r, A.grow g1 k1, hb.thn fun o z => SPost.trans A (Stp.of_grow g1 k1) z⟩
  | false => exact ⟨dl, Z, O, r, A.grow g1 k1, hb.thn fun o z => SPost.trans A (Stp.of_grow g1 k1) z⟩
theorem dg_name (i : Nat) (hN : X.N.Nodup) (hi : X.N[i]? = some x := by rfl) (hx : Loc X.env.scope x := by first | exact Or.inl rfl | exact Or.inr rfl) (hf : X.fn x = true ∨ X.env.scope.names.lookup x = some .local := by first | exact .inl rfl | exact .inr rfl) :
    DG X G (.Name x pos) (gN i) [i] := PG_imp (pg_name hN hi hx hf) fun v sg H Q ⟨dl, Z, O, r, d, A, rp, r', hr, q⟩ => by
  cases hr
  exact q _ (List.length_set ..) (fun j hj => List.getElem?_set_ne (by simpa using fun e : i = j => hj (by simp [e]))) (A.set_val i rp)
theorem dgs_nil : DGs X G [] gNil_ [] := PGs_imp pgs_nil fun vs sg H Q ⟨dl, Z, O, r, ds, A, rl, r', hr, q⟩ => by
  cases ds with
  | nil =>
    cases hr
    unfold RepL at rl
    exact ⟨rl, q sg rfl (fun _ _ => rfl) A⟩
  | cons d ds => cases hr
theorem dgs_cons {g1 : D → LE → Option LE} {gs : List D → LE → Option LE} {is js : List Nat} (h1 : DG X G ex g1 is) (h2 : DGs X G es gs js)
    (hs : (assignEach (ex :: es) X.env).map (·.2) = assign ex X.env :: (assignEach es X.env).map (·.2) := by rfl) : DGs X G (ex :: es) (gCons_ g1 gs) (is ++ js) := PGs_imp (pgs_cons h1 h2 hs) fun vs sg H Q ⟨dl, Z, O, r, ds, A, rl, r', hr, q⟩ => by
  cases ds with
  | nil => cases hr
  | cons d ds =>
    unfold RepL at rl
    obtain ⟨v, us, rfl, rp, rl⟩ := rl
    change (g1 d r).bind (gs ds) = some r' at hr
    cases e : g1 d r with
    | none => rw [e] at hr; cases hr
    | some r1 =>
      rw [e] at hr
      refine ⟨v, us, rfl, dl, Z, O, r, d, A, rp, r1, e, fun sg1 l1 s1 A1 => ?_⟩
      refine ⟨dl, Z, O, r1, ds, A1, rl, r', hr, fun sg2 l2 s2 A2 => q sg2 (l2.trans l1) (fun j hj => ?_) A2⟩
      rw [List.mem_append, not_or] at hj
      rw [s2 j hj.2, s1 j hj.1]
theorem dg_tup {gs : List D → LE → Option LE} {is : List Nat} {k : Nat} {n : Nat} (hG : G.K = X.K) (hc : X.calm = true) (h : DGs X G es gs is) (hn : (assignEach es X.env).length = n := by rfl) (hst : (assignEach es X.env).findIdx? (·.1) = none := by rfl) :
    DG X G (.Tuple es k pos) (gTup_ n gs) is := PG_imp (pg_tup hc h hn hst) fun v sg H Q ⟨dl, Z, O, r, d, A, rp, r', hr, q⟩ => by
  cases d <;> first | (cases hr; done) | skip
  rename_i ds
  change (if ds.length = n then gs ds r else none) = some r' at hr
  split at hr
  · rename_i hl
    unfold Rep at rp
    obtain ⟨a, vs, rfl, e, rl⟩ := rp
    exact ⟨a, vs, rfl, hG ▸ (cut_grow H Z).sqt e, by rw [rl.length]; exact hl, dl, Z, O, r, ds, A, rl, r', hr, q⟩
  · cases hr
theorem At.aside {dl : Addr} {Z : List Addr} {O : List (Nat × Addr)} {r : LE} {sg : L2.St} {H : Hp} (A : At G dl Z O r sg H) {p : Addr} {o : HO} (hp : H p = none) (nt : ∀ ps, o ≠ .tbl ps) : At G dl (p :: Z) O r sg (upd H p o) := by
  refine ⟨A.gl.new hp, List.mem_cons_of_mem _ A.dz, fun a ha => ?_, fun q hq => ⟨List.mem_cons_of_mem _ (A.own q hq).1, (A.own q hq).2⟩, A.inj, A.len, fun j c e => ?_⟩
  · rcases List.mem_cons.mp ha with rfl | ha
    · exact ⟨o, upd_same, nt⟩
    · obtain ⟨u, e, n⟩ := A.live a ha
      exact ⟨u, by rw [upd_ne (ne_of_none e hp)]; exact e, n⟩
  · have := A.slot j c e
    cases c with
    | un => trivial
    | val d =>
      obtain ⟨v, e, q⟩ := this
      exact ⟨v, e, q.mono (cut_new hp)⟩
    | own d =>
      obtain ⟨a, ha, e, q, ko⟩ := this
      have hap : a ≠ p := fun z => A.out hp (by rw [← z]; exact (A.own _ ha).1)
      refine ⟨a, ha, e, ?_, ko⟩
      rw [upd_ne hap]
      exact q.mono (cut_new hp)
theorem XRep.mono {dl : Addr} {S S' : Hp} {e : Exc} {cls : Value} {dx : Option Addr} {H : Hp} (g : GrowS S S') (x : XRep G dl S e cls dx H) : XRep G dl S' e cls dx H := by
  unfold XRep at *
  refine ⟨x.1, ?_⟩
  have x2 := x.2
  split
  · rename_i hn; rw [hn] at x2; exact x2
  · rename_i f hf
    rw [hf] at x2
    obtain ⟨d, v, h1, h2, h3⟩ := x2
    exact ⟨d, v, h1, h2, h3.mono g⟩
theorem ds_par (i j : Nat) (hc : X.calm = true) (hN : X.N.Nodup) {px py pt pt2 : Pos} {kt k2 : Nat} (hij : i ≠ j) (hti : i ≠ 1000000) (htj : j ≠ 1000000) (ha : DK X G W a fk) (hb : DK X G W b fk2)
    (hx : X.env.scope.names.lookup x = some .local := by rfl) (hy : X.env.scope.names.lookup y = some .local := by rfl) (hi : X.N[i]? = some x := by rfl) (hj : X.N[j]? = some y := by rfl)
    (hw : swappedStores [.Tuple [.Name x px, .Name y py] kt pt] (.Tuple [a, b] k2 pt2) X.env = pure (some [x, y]) := by rfl)
    (hs : swapsWithSole [.Tuple [.Name x px, .Name y py] kt pt] (.Tuple [a, b] k2 pt2) pos.line X.env = pure false := by rfl)
    (s1 : starEach [a, b] X.env = (false, eval a X.env) :: starEach [b] X.env := by rfl) (s2 : starEach [b] X.env = (false, eval b X.env) :: starEach [] X.env := by rfl) :
    DS X G W (.Assign [.Tuple [.Name x px, .Name y py] kt pt] (.Tuple [a, b] k2 pt2) pos) (parK i j fk fk2) := PS_imp (ps_par hc hN hi hj hij hx hy (pa_cons ha (pa_cons hb pa_nil s2) s1) hw hs) fun De sg H ⟨dl, Z, O, r, A, q⟩ => by
  refine ⟨dl, Z, O, r, A, (onS_wp q).bind.mono (fun c hc => ?_) fun e he => spost_ex A he⟩
  cases c with
  | val d =>
    intro v H1 g1 k1 rp
    have A1 := A.grow g1 k1
    refine ⟨dl, Z, O, r, A1, (onS_wp hc).bind.mono (fun c' hc' => ?_) fun e he => epost g1 (spost_ex A he)⟩
    cases c' with
    | val d' =>
      intro v' H2 g2 k2 rp'
      exact ⟨v, v', rfl, hc' Z O _ H2 (Stp.of_grow (g1.trans g2) k2) (((A1.grow g2 k2).set_val i (rp.mono (g2.cut A.dz))).set_val j rp')⟩
    | own d' =>
      intro p o H2 g2 k2 hp ow hk
      have A2 := (A1.grow g2 k2).set_val i (rp.mono (g2.cut A.dz))
      exact ⟨v, _, rfl, hc' _ _ _ _ (Stp.trans A (Stp.of_grow (g1.trans g2) k2) (Stp.new A2 hp htj)) (A2.set_own j hp ow (hk j htj))⟩
    | un => exact hc'.elim
  | own d =>
    intro p o H1 g1 k1 hp ow hk
    obtain ⟨_, ho, nt⟩ := ow.notTbl
    cases ho
    have A1 := A.grow g1 k1
    have B1 := A1.aside hp nt
    have B2 := A1.set_own i hp ow (hk i hti)
    have hs1 : Stp dl Z O H (p :: Z) ((i, p) :: O) (upd H1 p o) := Stp.trans A (Stp.of_grow g1 k1) (Stp.new A1 hp hti)
    refine ⟨dl, p :: Z, O, r, B1, (onS_wp hc).bind.mono (fun c' hc' => ?_) fun e he cls dx H2 g2 k2 xr => ?_⟩
    · cases c' with
      | val d' =>
        intro v' H2 g2 k2 rp'
        exact ⟨_, v', rfl, hc' _ _ _ H2 (Stp.trans A hs1 (Stp.of_grow g2 k2)) ((B2.grow g2 k2).set_val j rp')⟩
      | own d' =>
        intro p' o' H2 g2 k2 hp' ow' hk'
        exact ⟨_, _, rfl, hc' _ _ _ _ (Stp.trans A hs1 (Stp.trans B2 (Stp.of_grow g2 k2) (Stp.new (B2.grow g2 k2) hp' htj))) ((B2.grow g2 k2).set_own j hp' ow' (hk' j htj))⟩
      | un => exact hc'.elim
    · exact spost_ex A he cls dx H2 ((g1.trans (.new hp)).trans g2) k2 (xr.mono (cut_sub fun a ha => List.mem_cons_of_mem _ ha))
  | un => exact hc.elim
end
end DL
set_option Elab.async false
set_option linter.all false
set_option maxRecDepth 100000
namespace DL
open PySem L2 PySem.Spec PyProof.Rows
/-- the iterator J hands out ds, as long as B -/
structure WalkE (G : Gm) (dl : Addr) (J : It) (ds : List D) (B : List Addr → Hp → Prop) : Prop where
  mono : ∀ Z Z' H H', GrowS (cut H Z) (cut H' Z') → Grow dl H H' → B Z H → B Z' H'
  go : ∀ i Z H, B Z H → i < ds.length → J.go i H
  stop : ∀ i Z H, B Z H → ds.length ≤ i → J.stop i H
  yld : ∀ i Z O r sg H x H', At G dl Z O r sg H → B Z H → J.yld i H x H' → ∀ d, ds[i]? = some d → Grow dl H H' ∧ GlOk G dl H' ∧ Rep G dl (cut H' Z) d x
structure WalkS (G : Gm) (dl : Addr) (J : It) (ds : List D) (B : List Addr → Hp → Prop) : Prop extends WalkE G dl J ds B where
  monoS : ∀ Z Z' H H', GrowS (cut H Z) (cut H' Z') → B Z H → B Z' H'
def tIs (G : Gm) (W : WX) (f : LE → R (List D)) : TI := fun sg H Rr => ∃ dl Z O r, At G dl Z O r sg H ∧
  Wp (f r) (fun ds => ∀ J B H', Grow dl H H' → GlOk G dl H' → WalkS G dl J ds B → B Z H' → Rr J H')
    (fun e => ∀ cls dx H', Grow dl H H' → GlOk G dl H' → XRep G dl (cut H' Z) e cls dx H' → W cls dx sg H')
def tIe (G : Gm) (W : WX) (f : LE → R (List D)) : TI := fun sg H Rr => ∃ dl Z O r, At G dl Z O r sg H ∧
  Wp (f r) (fun ds => ∀ J B H', Grow dl H H' → GlOk G dl H' → WalkE G dl J ds B → B Z H' → Rr J H')
    (fun e => ∀ cls dx H', Grow dl H H' → GlOk G dl H' → XRep G dl (cut H' Z) e cls dx H' → W cls dx sg H')
abbrev DI (X : Cx) (G : Gm) (W : WX) (tg iter : Expr) (f : LE → R (List D)) : Prop := PI X tg iter (tIs G W f)
abbrev DIe (X : Cx) (G : Gm) (W : WX) (tg iter : Expr) (f : LE → R (List D)) : Prop := PI X tg iter (tIe G W f)
theorem PI_imp {X : Cx} {tg e : Expr} {t t' : TI} (h : PI X tg e t) (i : ∀ sg H Q, t' sg H Q → t sg H Q) : PI X tg e t' := ⟨fun pins s sg H Q I q => h.run pins s sg H Q I (i _ _ _ q)⟩
theorem DI.e {X : Cx} {G : Gm} {W : WX} {tg iter : Expr} {f : LE → R (List D)} (h : DI X G W tg iter f) : DIe X G W tg iter f :=
  PI_imp h fun sg H Q ⟨dl, Z, O, r, A, q⟩ => ⟨dl, Z, O, r, A, q.thn fun ds z J B H' g k w b => z J B H' g k w.toWalkE b⟩
def lstD : D → R (List D)
  | .lst ds => .ok ds
  | _ => .stuck
def tupD : D → R (List D)
  | .tup ds => .ok ds
  | _ => .stuck
section
variable {X : Cx} {G : Gm} {W : WX} {tg iter : Expr} {f : LE → R D} {pos p : Pos}
theorem walk_list {dl a : Addr} {ds : List D} {vs : List V} : WalkS G dl (Itl G.K a) ds (fun Z H => cut H Z a = some (.lst vs) ∧ RepL G dl (cut H Z) ds vs) where
  mono := fun Z Z' H H' g _ h => ⟨g a _ h.1 (fun ps z => by cases z), h.2.mono g⟩
  monoS := fun Z Z' H H' g h => ⟨g a _ h.1 (fun ps z => by cases z), h.2.mono g⟩
  go := fun i Z H h hi => by
    have := h.2.length
    exact ⟨vs, vs[i]'(by omega), SqL.of (cut_some h.1).2, by simp⟩
  stop := fun i Z H h hi => ⟨vs, SqL.of (cut_some h.1).2, by have := h.2.length; omega⟩
  yld := fun i Z O r sg H x H' A h hy d hd => by
    obtain ⟨rfl, hy⟩ := hy
    obtain ⟨v, h1, h2⟩ := RepL.getD ds vs i d h.2 hd
    have h3 := hy vs (SqL.of (cut_some h.1).2)
    rw [h1] at h3
    cases h3
    exact ⟨.refl _ _, A.gl, h2⟩
theorem walk_listE {dl a : Addr} {ds : List D} {vs : List V} (had : a ≠ dl) : WalkE G dl (Itl G.K a) ds (fun Z H => H a = some (.lst vs) ∧ RepL G dl (cut H Z) ds vs) where
  mono := fun Z Z' H H' g g2 h => ⟨g2 a _ h.1 had (fun ps z => by cases z), h.2.mono g⟩
  go := fun i Z H h hi => by
    have := h.2.length
    exact ⟨vs, vs[i]'(by omega), SqL.of h.1, by simp⟩
  stop := fun i Z H h hi => ⟨vs, SqL.of h.1, by have := h.2.length; omega⟩
  yld := fun i Z O r sg H x H' A h hy d hd => by
    obtain ⟨rfl, hy⟩ := hy
    obtain ⟨v, h1, h2⟩ := RepL.getD ds vs i d h.2 hd
    have h3 := hy vs (SqL.of h.1)
    rw [h1] at h3
    cases h3
    exact ⟨.refl _ _, A.gl, h2⟩
theorem di_list (hG : G.K = X.K) (h : DE X G W iter f) : DI X G W tg iter (fun r => f r >>= lstD) := PI_imp (pi_list h) fun sg H Q ⟨dl, Z, O, r, A, q⟩ => by
  refine ⟨dl, Z, O, r, A, q.bind.thn fun d hd v H1 g1 k1 rp => ?_⟩
  unfold lstD at hd
  split at hd
  · unfold Rep at rp
    obtain ⟨a, vs, rfl, e, rl⟩ := rp
    refine ⟨a, rfl, ⟨vs, SqL.of (cut_some e).2⟩, ?_⟩
    rw [← hG]
    exact hd _ _ H1 g1 k1 walk_list ⟨e, rl⟩
  · exact hd.elim
theorem die_list (hG : G.K = X.K) (h : DP X G W iter f) : DIe X G W tg iter (fun r => f r >>= lstD) := PI_imp (pi_list h) fun sg H Q ⟨dl, Z, O, r, A, q⟩ => by
  refine ⟨dl, Z, O, r, A, q.bind.thn fun d hd v H1 g1 k1 rp => ?_⟩
  unfold lstD at hd
  split at hd
  · rcases rp with rp | ⟨a, rfl, haz, had, ow⟩
    · unfold Rep at rp
      obtain ⟨a, vs, rfl, e, rl⟩ := rp
      refine ⟨a, rfl, ⟨vs, SqL.of (cut_some e).2⟩, ?_⟩
      rw [← hG]
      exact hd _ _ H1 g1 k1 walk_list.toWalkE ⟨e, rl⟩
    · obtain ⟨vs, e, rl⟩ := ow
      refine ⟨a, rfl, ⟨vs, SqL.of e⟩, ?_⟩
      rw [← hG]
      exact hd _ _ H1 g1 k1 (walk_listE had) ⟨e, rl⟩
  · exact hd.elim
/-- range(..): the ints -/
def rangeL (lo : Int) (n : Nat) : List D := (List.range n).map fun (i : Nat) => D.int (lo + (i : Int))
def rng1 : List D → R (List D)
  | [.int j] => if j < 1073741824 ∧ -(1073741824) < j then .ok (rangeL 0 j.toNat) else .stuck
  | _ => .stuck
def rng2 : List D → R (List D)
  | [.int i, .int j] => if j < 1073741824 ∧ -(1073741824) < j ∧ i < 1073741824 ∧ -(1073741824) < i then .ok (rangeL i (j - i).toNat) else .stuck
  | _ => .stuck
theorem rangeL_get {lo : Int} {n i : Nat} {d : D} (h : (rangeL lo n)[i]? = some d) : d = .int (lo + (i : Int)) := by
  unfold rangeL at h
  rw [List.getElem?_map] at h
  cases e : (List.range n)[i]? with
  | none => rw [e] at h; cases h
  | some k =>
    rw [e] at h
    cases h
    obtain ⟨h1, h2⟩ := List.getElem?_eq_some_iff.mp e
    rw [List.getElem_range] at h2
    rw [h2]
theorem walk_rng {dl : Addr} {lo : Int} {n : Nat} : WalkS G dl (Itr lo n) (rangeL lo n) (fun _ _ => True) where
  mono := fun _ _ _ _ _ _ _ => trivial
  monoS := fun _ _ _ _ _ _ => trivial
  go := fun i Z H h hi => by
    show i < n
    unfold rangeL at hi; simpa using hi
  stop := fun i Z H h hi => by
    show n ≤ i
    unfold rangeL at hi; simpa using hi
  yld := fun i Z O r sg H x H' A h hy d hd => by
    obtain ⟨rfl, rfl⟩ := hy
    rw [rangeL_get hd]
    exact ⟨.refl _ _, A.gl, Rep.int_⟩
theorem RepL.one_int {dl : Addr} {S : Hp} {j : Int} {vs : List V} (h : RepL G dl S [.int j] vs) : vs = [.int j] := by
  unfold RepL at h
  obtain ⟨v, r, rfl, h1, h2⟩ := h
  unfold Rep at h1
  unfold RepL at h2
  rw [h1, h2]
theorem di_rng1 {a : Expr} {fs : LE → R (List D)} (hg : Gl X "range") (hm : X.mg "range" = none) (ha : DA X G W [a] fs) (hs : starEach [a] X.env = [(false, eval a X.env)] := by rfl) : DI X G W tg (.Call (.Name "range" p) [a] [] pos) (fun r => fs r >>= rng1) :=
  PI_imp (pi_range1 hg hm ha hs) fun sg H Q ⟨dl, Z, O, r, A, q⟩ => by
    refine ⟨dl, Z, O, r, A, q.bind.thn fun ds hd vs H1 g1 k1 rl => ?_⟩
    unfold rng1 at hd
    split at hd
    · split at hd
      · rename_i j hj
        exact ⟨j, rl.one_int, by omega, by omega, hd _ _ H1 g1 k1 walk_rng trivial⟩
      · exact hd.elim
    · exact hd.elim
theorem di_rng2 {a b : Expr} {fs : LE → R (List D)} (hg : Gl X "range") (hm : X.mg "range" = none) (ha : DA X G W [a, b] fs) (hs : starEach [a, b] X.env = [(false, eval a X.env), (false, eval b X.env)] := by rfl) (hs2 : starEach [b] X.env = [(false, eval b X.env)] := by rfl) :
    DI X G W tg (.Call (.Name "range" p) [a, b] [] pos) (fun r => fs r >>= rng2) :=
  PI_imp (pi_range2 hg hm ha hs hs2) fun sg H Q ⟨dl, Z, O, r, A, q⟩ => by
    refine ⟨dl, Z, O, r, A, q.bind.thn fun ds hd vs H1 g1 k1 rl => ?_⟩
    unfold rng2 at hd
    split at hd
    · split at hd
      · rename_i i j hj
        unfold RepL at rl
        obtain ⟨v, us, rfl, h1, rl⟩ := rl
        have := rl.one_int
        subst this
        unfold Rep at h1
        subst h1
        exact ⟨i, j, rfl, ⟨by omega, by omega, by omega, by omega⟩, hd _ _ H1 g1 k1 walk_rng trivial⟩
      · exact hd.elim
    · exact hd.elim
end
def loopS (gd : D → LE → Option LE) (body : LE → R Out) : List D → LE → R Out
  | [], r => .ok (.nx r)
  | d :: ds, r => match gd d r with
    | none => .stuck
    | some r' => do
      match ← body r' with
      | .nx r2 => loopS gd body ds r2
      | .ct r2 => loopS gd body ds r2
      | .bk r2 => .ok (.nx r2)
      | .rt d => .ok (.rt d)
      | .ex e r2 => .ok (.ex e r2)
def forS (fi : LE → R (List D)) (gd : D → LE → Option LE) (body : LE → R Out) : LE → R Out := fun r => (fi r).onS r fun ds => loopS gd body ds r
section
variable {X : Cx} {G : Gm} {W : WX} {tg iter : Expr} {fi : LE → R (List D)} {gd : D → LE → Option LE} {is : List Nat} {F : LE → R Out} {body : List Stmt} {pos : Pos}
theorem ds_for (hp : PassesOwn (model X.prog X.w) X.A X.env X.xe) (hc : X.calm = true) (hi : DI X G W tg iter fi) (hg : DG X G tg gd is) (hb : DSs X G W body F)
    (hs : ∀ x, foldedSetIterable iter X.env x = pure x := by intro _; rfl) : DS X G W (.For tg iter body [] pos) (forS fi gd F) := PS_imp (ps_for hp hc hi hg hb hs) fun De sg H ⟨dl, Z, O, r, A, q⟩ => by
  refine ⟨dl, Z, O, r, A, (onS_wp q).mono (fun ds hds J B H1 g1 k1 wk hB => ?_) fun e he => spost_ex A he⟩
  have A1 := A.grow g1 k1
  have s1 : Stp dl Z O H Z O H1 := Stp.of_grow g1 k1
  refine ⟨fun i m sg' H' => m = ds.length - i ∧ i ≤ ds.length ∧ ∃ Z' O' r', At G dl Z' O' r' sg' H' ∧ Stp dl Z O H Z' O' H' ∧ B Z' H' ∧ Wp (loopS gd F (ds.drop i) r') (SPost G W De dl Z O H) (fun _ => False),
    ⟨ds.length, by simp, Nat.zero_le _, Z, O, r, A1, s1, hB, by simpa using hds⟩, ?_⟩
  rintro i m sg' H' ⟨rfl, hi', Z', O', r', A', s', hB', hw⟩
  by_cases hlt : i < ds.length
  · have hdrop : ds.drop i = ds[i] :: ds.drop (i + 1) := List.drop_eq_getElem_cons hlt
    rw [hdrop] at hw
    refine .inr ⟨wk.go i Z' H' hB' hlt, fun sg2 H2 => i + 1 ≤ ds.length ∧ ∃ Z' O' r', At G dl Z' O' r' sg2 H2 ∧ Stp dl Z O H Z' O' H2 ∧ B Z' H2 ∧ Wp (loopS gd F (ds.drop (i + 1)) r') (SPost G W De dl Z O H) (fun _ => False), fun sg2 H2 h2 => ⟨ds.length - (i + 1), by omega, rfl, h2⟩, fun x H2 hy => ?_⟩
    obtain ⟨g2, k2, rp⟩ := wk.yld i Z' O' r' sg' H' x H2 A' hB' hy ds[i] (by simp)
    have A2 := A'.grow g2 k2
    have s2 : Stp dl Z O H Z' O' H2 := Stp.trans A s' (Stp.of_grow g2 k2)
    have hB2 : B Z' H2 := wk.mono _ _ _ _ (g2.cut A'.dz) g2 hB'
    unfold loopS at hw
    cases hgd : gd ds[i] r' with
    | none => rw [hgd] at hw; exact hw.elim
    | some r2 =>
      rw [hgd] at hw
      refine ⟨dl, Z', O', r', ds[i], A2, rp, r2, hgd, fun sg3 _ _ A3 => ⟨dl, Z', O', r2, A3, hw.bind.thn fun o ho => ?_⟩⟩
      have step : ∀ {r3 : LE}, Wp (loopS gd F (ds.drop (i + 1)) r3) (SPost G W De dl Z O H) (fun _ => False) → ∀ Z4 O4 sg4 H4, Stp dl Z' O' H2 Z4 O4 H4 → At G dl Z4 O4 r3 sg4 H4 →
          i + 1 ≤ ds.length ∧ ∃ Z' O' r', At G dl Z' O' r' sg4 H4 ∧ Stp dl Z O H Z' O' H4 ∧ B Z' H4 ∧ Wp (loopS gd F (ds.drop (i + 1)) r') (SPost G W De dl Z O H) (fun _ => False) := fun hw4 Z4 O4 sg4 H4 s4 A4 =>
        ⟨hlt, Z4, O4, _, A4, Stp.trans A s2 s4, wk.monoS _ _ _ _ (Stp.cut A3 s4) hB2, hw4⟩
      cases o with
      | nx r3 => exact step ho
      | ct r3 => exact step ho
      | bk r3 => exact fun Z4 O4 sg4 H4 s4 A4 => ho Z4 O4 sg4 H4 (Stp.trans A s2 s4) A4
      | rt d => exact SPost.trans A s2 ho
      | ex e r3 => exact SPost.trans A s2 ho
  · have e : i = ds.length := by omega
    subst e
    rw [List.drop_length] at hw
    exact .inl ⟨wk.stop _ Z' H' hB' (Nat.le_refl _), hw Z' O' sg' H' s' A'⟩
end
end DL
set_option Elab.async false
set_option linter.all false
set_option maxRecDepth 100000
namespace DL
open PySem L2 PySem.Spec PyProof.Rows
/-- what is raised is not served here -/
def R.calm {α : Type} : R α → R α
  | .ok a => .ok a
  | .err _ => .stuck
  | .stuck => .stuck
  | .roll m f => .roll m fun i => (f i).calm
@[simp] theorem calm_ok {α : Type} (a : α) : (R.ok a).calm = .ok a := rfl
@[simp] theorem calm_roll {α : Type} (m : Nat) (f : Nat → R α) : (R.roll m f).calm = .roll m fun i => (f i).calm := rfl
theorem calm_wp {α : Type} {Q : α → Prop} {E E' : Exc → Prop} : ∀ {m : R α}, Wp m.calm Q E → Wp m Q E'
  | .ok _, h => h
  | .err _, h => h.elim
  | .stuck, h => h.elim
  | .roll _ _, h => fun i hi => calm_wp (h i hi)
/-- the comprehension's own names forgotten -/
def wipeL (r : LE) : List Nat → LE
  | [] => r
  | v :: vs => (wipeL r vs).set v .un
def W0 : WX := fun _ _ _ _ => False
def loopC (gd : D → LE → Option LE) (tt : LE → R Bool) (te : LE → R D) (r : LE) : List D → R (List D)
  | [] => .ok []
  | d :: ds => match gd d r with
    | none => .stuck
    | some r' => do
      if (← (tt r').calm) then do
        let y ← (te r').calm
        let ys ← loopC gd tt te r ds
        .ok (y :: ys)
      else loopC gd tt te r ds
def compF (fi : LE → R (List D)) (gd : D → LE → Option LE) (tt : LE → R Bool) (te : LE → R D) (vs : List Nat) : LE → R (List D) := fun r => do
  let ds ← fi r
  if ds.length ≤ 16777216 then loopC gd tt te (wipeL r vs) ds else .stuck
def yesT : LE → R Bool := fun _ => .ok true
section
variable {G : Gm} {dl : Addr} {Z : List Addr} {O : List (Nat × Addr)} {r : LE} {sg : L2.St} {H : Hp}
theorem At.wipe (A : At G dl Z O r sg H) : ∀ vs : List Nat, At G dl Z O (wipeL r vs) (wipe sg vs) H
  | [] => A
  | v :: vs => (At.wipe A vs).set_un v none
theorem wipe_get {sg : L2.St} {j : Nat} : ∀ {vs : List Nat}, j ∉ vs → (wipe sg vs)[j]? = sg[j]?
  | [], _ => rfl
  | v :: vs, h => by
    rw [List.mem_cons, not_or] at h
    unfold wipe
    rw [List.getElem?_set_ne fun e => h.1 e.symm]
    exact wipe_get h.2
theorem wipe_at {sg : L2.St} {j : Nat} : ∀ {vs : List Nat}, j ∈ vs → j < sg.length → (wipe sg vs)[j]? = some none
  | [], h, _ => by cases h
  | v :: vs, h, hl => by
    unfold wipe
    by_cases e : v = j
    · subst e
      rw [List.getElem?_set_self (by rw [wipe_length]; exact hl)]
    · rw [List.getElem?_set_ne e]
      rcases List.mem_cons.mp h with h | h
      · exact (e h.symm).elim
      · exact wipe_at h hl
theorem wipe_same {sg sg' : L2.St} {vs : List Nat} (hl : sg'.length = sg.length) (h : ∀ j, j ∉ vs → sg'[j]? = sg[j]?) : L2.wipe sg' vs = L2.wipe sg vs := by
  refine List.ext_getElem? fun j => ?_
  by_cases e : j ∈ vs
  · by_cases q : j < sg.length
    · rw [wipe_at e q, wipe_at e (by omega)]
    · rw [List.getElem?_eq_none (by rw [wipe_length]; omega), List.getElem?_eq_none (by rw [wipe_length]; omega)]
  · rw [wipe_get e, wipe_get e, h j e]
theorem wipe_wipe {sg : L2.St} (vs : List Nat) : L2.wipe (L2.wipe sg vs) vs = L2.wipe sg vs := wipe_same (wipe_length ..) fun j h => wipe_get h
/-- H without p -/
theorem upd_cut {H : Hp} {p : Addr} {o : HO} (h : H p = some o) : upd (cut H [p]) p o = H := by
  funext b
  unfold upd cut
  by_cases e : b = p
  · subst e; simp [h]
  · simp [e]
end
section
variable {X : Cx} {G : Gm} {W : WX} {tg iter : Expr} {fi : LE → R (List D)} {gd : D → LE → Option LE} {is vs : List Nat} {tt : LE → R Bool} {te : LE → R D}
theorem lc_core_d (hsub : ∀ j ∈ is, j ∈ vs) {sg : L2.St} {H : Hp} {Q : VK} (h : tF G W (compF fi gd tt te vs) sg H Q) : tLc (tIe G W fi) (tGd G gd is) (tT G W0 tt) (tD G W0 te) vs sg H Q := by
  obtain ⟨dl, Z, O, r, A, q⟩ := h
  refine ⟨dl, Z, O, r, A, q.bind.thn fun ds hds J B H1 g1 k1 wk hB D hD => ?_⟩
  have A1 := A.grow g1 k1
  split at hds
  case isFalse => exact hds.elim
  rename_i hlen
  have nt : ∀ (xs : List V) ps, HO.lst xs ≠ HO.tbl ps := fun _ _ z => by cases z
  have B1 : At G dl (D :: Z) O r sg (upd H1 D (.lst [])) := A1.aside hD (nt _)
  have hDZ := A1.out hD
  have hDd := A1.notdl hD
  have hB1 : B (D :: Z) (upd H1 D (.lst [])) := wk.mono _ _ _ _ (cut_new hD) (.new hD) hB
  -- the state between turns
  let St : Nat → Hp → Prop := fun i H' => i ≤ ds.length ∧ ∃ acc us, At G dl (D :: Z) O r sg H' ∧ Grow dl H1 H' ∧ B (D :: Z) H' ∧ H' D = some (.lst us) ∧ RepL G dl (cut H' (D :: Z)) acc us ∧ acc.length ≤ i ∧
    Wp (loopC gd tt te (wipeL r vs) (ds.drop i)) (fun ys => ∀ p us H2, Grow dl H H2 → GlOk G dl H2 → H2 p = none → RepL G dl (cut H2 Z) (acc ++ ys) us → Q (.ref p) (upd H2 p (.lst us))) (fun e => ∀ cls dx H', Grow dl H H' → GlOk G dl H' → XRep G dl (cut H' Z) e cls dx H' → W cls dx sg H')
  refine ⟨fun i m H' => m = ds.length - i ∧ St i H', ⟨ds.length, by simp, Nat.zero_le _, [], [], B1, .new hD, hB1, upd_same, RepL.nil, Nat.le_refl _, by simpa using hds⟩, ?_⟩
  rintro i m H' ⟨rfl, hi', acc, us, A', gH, hB', hDu, rl, hal, hw⟩
  by_cases hlt : i < ds.length
  · have hdrop : ds.drop i = ds[i] :: ds.drop (i + 1) := List.drop_eq_getElem_cons hlt
    rw [hdrop] at hw
    refine .inr ⟨wk.go i _ H' hB' hlt, St (i + 1), fun H2 h2 => ⟨ds.length - (i + 1), by omega, rfl, h2⟩, fun x H2 hy => ?_⟩
    obtain ⟨g2, k2, rp⟩ := wk.yld i _ O r sg H' x H2 A' hB' hy ds[i] (by simp)
    have A2 := A'.grow g2 k2
    unfold loopC at hw
    cases hgd : gd ds[i] (wipeL r vs) with
    | none => rw [hgd] at hw; exact hw.elim
    | some r2 =>
      rw [hgd] at hw
      refine ⟨dl, D :: Z, O, wipeL r vs, ds[i], A2.wipe vs, rp, r2, hgd, fun sg3 hl3 hs3 A3 => ⟨?_, ?_⟩⟩
      · exact (wipe_same hl3 fun j hj => hs3 j fun z => hj (hsub j z)).trans (wipe_wipe vs)
      refine ⟨dl, D :: Z, O, r2, A3, (calm_wp hw.bind).mono (fun b hb H3 g3 k3 => ?_) fun e he => he⟩
      have A3' := A3.grow g3 k3
      have D3 : H2 D = some (.lst us) := g2 D _ hDu hDd (nt _)
      have D3' : H3 D = some (.lst us) := g3 D _ D3 hDd (nt _)
      have C3 : At G dl (D :: Z) O r sg H3 := A2.grow g3 k3
      cases b with
      | false =>
        refine ⟨hlt, acc, us, C3, (gH.trans g2).trans g3, wk.mono _ _ _ _ (g3.cut A2.dz) g3 (wk.mono _ _ _ _ (g2.cut A'.dz) g2 hB'), D3', rl.mono ((g2.trans g3).cut A'.dz), by omega, hb⟩
      | true =>
        refine ⟨dl, D :: Z, O, r2, A3', (calm_wp hb.bind).mono (fun y hy2 v H4 g4 k4 rp4 => ?_) fun e he => he⟩
        have D4 : H4 D = some (.lst us) := g4 D _ D3' hDd (nt _)
        have C4 : At G dl (D :: Z) O r sg H4 := C3.grow g4 k4
        have hz : us.length < sizeLine := by rw [sizeLine_eq, rl.length]; omega
        have gall : Grow dl H1 H4 := ((gH.trans g2).trans g3).trans g4
        have gcutD : ∀ xs, GrowS (cut H4 (D :: Z)) (cut (upd H4 D (.lst xs)) (D :: Z)) := fun xs b o e n => by
          obtain ⟨e1, e2⟩ := cut_some e
          have hbD : b ≠ D := fun z => e1 (by rw [z]; exact List.mem_cons_self)
          rw [cut_out e1, upd_ne hbD]; exact e2
        have gD : Grow dl H1 (upd H4 D (.lst (us ++ [v]))) := fun b o e n nt' => by
          rw [upd_ne (ne_of_none e hD)]; exact gall b o e n nt'
        have gl5 : GlOk G dl (upd H4 D (.lst (us ++ [v]))) := by
          obtain ⟨x1, y1, z1, hd1⟩ := k4.dice
          refine ⟨⟨x1, y1, z1, by rw [upd_ne fun e => hDd e.symm]; exact hd1⟩, fun p hp => ?_⟩
          obtain ⟨ps, h1, h2, h3⟩ := k4.tab p hp
          have hpD : p.1 ≠ D := fun e => by rw [e, D4] at h1; cases h1
          refine ⟨ps, by rw [upd_ne hpD]; exact h1, h2, fun pos cv hc => ?_⟩
          obtain ⟨c, e1, e2⟩ := h3 pos cv hc
          have hcD : c ≠ D := fun e => by
            rw [e, D4] at e2
            have e3 := Option.some.inj e2
            cases e3
          exact ⟨c, e1, by rw [upd_ne hcD]; exact e2⟩
        have A5 : At G dl (D :: Z) O r sg (upd H4 D (.lst (us ++ [v]))) := by
          refine ⟨gl5, C4.dz, fun b hb => ?_, C4.own, C4.inj, C4.len, fun j c e => ?_⟩
          · by_cases e : b = D
            · rw [e]; exact ⟨_, upd_same, nt _⟩
            · obtain ⟨u, h1, h2⟩ := C4.live b hb
              exact ⟨u, by rw [upd_ne e]; exact h1, h2⟩
          · have := C4.slot j c e
            cases c with
            | un => trivial
            | val d =>
              obtain ⟨v, e, q⟩ := this
              exact ⟨v, e, q.mono (gcutD _)⟩
            | own d =>
              obtain ⟨a, ha, e, q, ko⟩ := this
              have haD : a ≠ D := fun z => hDZ (by rw [← z]; exact (A.own _ ha).1)
              refine ⟨a, ha, e, ?_, ko⟩
              rw [upd_ne haD]; exact q.mono (gcutD _)
        refine ⟨us, D4, hz, hlt, acc ++ [y], us ++ [v], A5, gD, wk.mono _ _ _ _ (fun b o e n => ?_) gD hB, upd_same, ?_, by rw [List.length_append]; simp; omega, ?_⟩
        · obtain ⟨e1, e2⟩ := cut_some e
          have hbD : b ≠ D := ne_of_none e2 hD
          have hbl : b ≠ dl := fun z => e1 (by rw [z]; exact A.dz)
          rw [cut_out (by rw [List.mem_cons, not_or]; exact ⟨hbD, e1⟩)]
          exact gD b o e2 hbl n
        · exact RepL.append (rl.mono ((((g2.trans g3).trans g4).cut A'.dz).trans (gcutD _))) (RepL.cons (rp4.mono (gcutD _)) RepL.nil)
        · exact hy2.bind.thn fun ys hys => by rw [List.append_assoc]; exact hys
  · have e : i = ds.length := by omega
    subst e
    rw [List.drop_length] at hw
    refine .inl ⟨wk.stop _ _ H' hB' (Nat.le_refl _), ?_⟩
    have hw2 : ∀ p us H2, Grow dl H H2 → GlOk G dl H2 → H2 p = none → RepL G dl (cut H2 Z) (acc ++ []) us → Q (.ref p) (upd H2 p (.lst us)) := hw
    rw [List.append_nil] at hw2
    have := hw2 D us (cut H' [D]) (fun b o e n nt' => ?_) ?_ (cut_in (by simp)) ?_
    · rw [upd_cut hDu] at this; exact this
    · have e1 := g1 b o e n nt'
      rw [cut_out (by simpa using ne_of_none e1 hD)]
      exact gH b o e1 n nt'
    · obtain ⟨x1, y1, z1, hd1⟩ := A'.gl.dice
      refine ⟨⟨x1, y1, z1, by rw [cut_out (by simpa using fun e : dl = D => hDd e.symm)]; exact hd1⟩, fun p hp => ?_⟩
      obtain ⟨ps, h1, h2, h3⟩ := A'.gl.tab p hp
      have hpD : p.1 ≠ D := fun e => by rw [e, hDu] at h1; cases h1
      refine ⟨ps, by rw [cut_out (by simpa using hpD)]; exact h1, h2, fun pos cv hc => ?_⟩
      obtain ⟨c, e1, e2⟩ := h3 pos cv hc
      have hcD : c ≠ D := fun e => by
        rw [e, hDu] at e2
        have e3 := Option.some.inj e2
        cases e3
      exact ⟨c, e1, by rw [cut_out (by simpa using hcD)]; exact e2⟩
    · refine rl.mono fun b o e n => ?_
      obtain ⟨e1, e2⟩ := cut_some e
      rw [List.mem_cons, not_or] at e1
      rw [cut_out e1.2, cut_out (by simpa using e1.1)]
      exact e2
abbrev DTs (X : Cx) (G : Gm) (W : WX) (ifs : List Expr) (f : LE → R Bool) : Prop := PTs X ifs (tT G W f)
theorem dts_nil : DTs X G W [] yesT := ⟨fun pins s sg H Q I ⟨dl, Z, O, r, A, q⟩ => pts_nil.run pins s sg H Q I (q H (.refl _ _) A.gl)⟩
theorem dts_one {c : Expr} (h : DT X G W c tt) : DTs X G W [c] tt := pts_one h
/-- [elt for tg in iter if ..] -/
theorem df_comp {elt : Expr} {ifs : List Expr} {scope : Scope} {own : List (Str × Nat)} {pos : Pos} (hc : X.calm = true) (hN : X.N.Nodup) (hi : DIe X G W tg iter fi) (ok : BlkOk X.N X.env.scope scope own)
    (hg : ∀ (s : Shared) (H : Hp) (C : Addr) (cl : List (Str × Addr)) (fp : List Addr), DG (X.blk s H scope (compEnvC scope cl C X.env) fp) G tg gd is)
    (ht : ∀ (s : Shared) (H : Hp) (C : Addr) (cl : List (Str × Addr)) (fp : List Addr), DTs (X.blk s H scope (compEnvC scope cl C X.env) fp) G W0 ifs tt)
    (he : ∀ (s : Shared) (H : Hp) (C : Addr) (cl : List (Str × Addr)) (fp : List Addr), DE (X.blk s H scope (compEnvC scope cl C X.env) fp) G W0 elt te)
    (hsub : ∀ j ∈ is, j ∈ own.map (·.2)) (hs : ∀ x, foldedSetIterable iter X.env x = pure x := by intro _; rfl) :
    DF X G W (.ListComp elt [⟨tg, iter, ifs, 0⟩] scope pos) (compF fi gd tt te (own.map (·.2))) := PE_imp (pe_lc hc hN hi ok hg ht he hs) fun sg H Q h => lc_core_d hsub h
/-- y = [elt for tg in iter if ..], y a plain local, on one line: y one's own -/
theorem ds_setcomp (i : Nat) {y : Str} {py : Pos} {elt : Expr} {ifs : List Expr} {scope : Scope} {own : List (Str × Nat)} {pos spos : Pos} (hc : X.calm = true) (hN : X.N.Nodup) (hi : DIe X G W tg iter fi) (ok : BlkOk X.N X.env.scope scope own)
    (hg : ∀ (s : Shared) (H : Hp) (C : Addr) (cl : List (Str × Addr)) (fp : List Addr), DG (X.blk s H scope (compEnvC scope cl C X.env) fp) G tg gd is)
    (ht : ∀ (s : Shared) (H : Hp) (C : Addr) (cl : List (Str × Addr)) (fp : List Addr), DTs (X.blk s H scope (compEnvC scope cl C X.env) fp) G W0 ifs tt)
    (he : ∀ (s : Shared) (H : Hp) (C : Addr) (cl : List (Str × Addr)) (fp : List Addr), DE (X.blk s H scope (compEnvC scope cl C X.env) fp) G W0 elt te)
    (hsub : ∀ j ∈ is, j ∈ own.map (·.2)) (hti : i ≠ 1000000) (hsw : swapsWith (.ListComp elt [⟨tg, iter, ifs, 0⟩] scope pos) (some (.Name y py)) spos.line X.env = pure true)
    (hy : X.N[i]? = some y := by rfl) (hyl : X.env.scope.names.lookup y = some .local := by rfl) (hs : ∀ x, foldedSetIterable iter X.env x = pure x := by intro _; rfl) :
    DS X G W (.Assign [.Name y py] (.ListComp elt [⟨tg, iter, ifs, 0⟩] scope pos) spos) (setK i (ownK (compF fi gd tt te (own.map (·.2))))) := PS_imp (ps_setLc hc hN hy hyl hsw hi ok hg ht he hs) fun De sg H ⟨dl, Z, O, r, A, q⟩ => by
  refine lc_core_d (W := W) hsub ⟨dl, Z, O, r, A, (onS_wp q).bind.bind.mono (fun ds hd p us H1 g1 k1 hp rl => ?_) fun e he => spost_ex A he⟩
  exact hd _ _ _ _ (Stp.trans A (Stp.of_grow g1 k1) (Stp.new (A.grow g1 k1) hp hti)) ((A.grow g1 k1).set_own i hp ⟨us, rfl, rl⟩ ⟨rfl, hti⟩)
end
end DL
set_option Elab.async false
set_option linter.all false
set_option maxRecDepth 100000
namespace DL
open PySem L2 PySem.Spec PyProof.Rows
section
variable {X : Cx} {G : Gm} {W : WX} {ex ek : Expr} {f k : LE → R D} {pos apos p p1 p2 : Pos} {x m : Str}
def errS (e : Exc) : LE → R Out := fun r => .ok (.ex e r)
theorem ds_raise {bmB : List Value} {B newId initId : String} {C : Addr} {s : Str} {j : Nat} (c : Nat) (tk : Takes X W) (hc : X.calm = true) (F : PySem.ExcBaseFacts B newId initId bmB) (hC : G.xcls c = C) (hx : G.xfld c = none) (hq : PySem.W.excIn X.K C bmB newId = true) (gC : X.mg x = some (.ref C)) (kC : PySem.W.keepIn X.K (.ref C) = true) (rs : Raises X (.ref C))
    (hg : Gl X x := by rfl) (hdb : (x == ("__debug__" : Str)) = false := by decide) : DS X G W (.Raise (some (.Call (.Name x p) [.Constant (.str s) j p2] [] p1)) none pos) (errS ⟨c, .non⟩) :=
  PS_imp (ps_raise hc tk (pmk_own F hq gC kC rs hg hdb)) fun De sg H ⟨dl, Z, O, r, A, q⟩ => by
    subst hC
    exact q Z O sg H _ none Stp.refl A ⟨rfl, by rw [hx]⟩
end
end DL
set_option Elab.async false
set_option linter.all false
set_option maxRecDepth 100000
namespace DL
open PySem L2 PySem.Spec PyProof.Rows
/-- a def of n arguments and m names, by its body -/
def runF (n m : Nat) (F : LE → R Out) (ds : List D) : R D := if ds.length = n then (do
  match ← (F (ds.map Cell.val ++ List.replicate (m - n) Cell.un)).calm with
  | .nx _ => .ok .non
  | .rt d => .ok d
  | .ex e _ => .err e
  | _ => .stuck) else .stuck
theorem runF_len {n m : Nat} {F : LE → R Out} : ∀ ds Q E, Wp (runF n m F ds) Q E → ds.length = n := fun ds Q E h => by
  unfold runF at h
  split at h
  · assumption
  · exact h.elim
/-- the wish of a def's body -/
abbrev WD (E : XK) : WX := fun cls d _ H' => E cls d H'
section
variable {P : Program} {w : World} {K : PySem.W.Frag} {mg : Str → Option Value} {base : Heap} {G : Gm} {x qual : Str} {st : Stmt} {f : Addr} {fd : FuncData} {N ps : List Str} {k n m c nf : Nat} {F : LE → R Out}
abbrev cxD (P : Program) (w : World) (K : PySem.W.Frag) (mg : Str → Option Value) (base : Heap) (N : List Str) (qual : Str) (st : Stmt) (f : Addr) (cdv : Value) (A : Around) (outer : List Env) (s : Shared) (H : Hp) (E : XK) : Cx :=
  cxOf (L2.CX P w) P w K mg base N qual (defScope st) f cdv A outer s H E
theorem takes_cxD {cdv A outer s H E} : Takes (cxD P w K mg base N qual st f cdv A outer s H E) (WD E) := takes_of rfl rfl rfl rfl
theorem owns_cxD {cdv A outer s H E} : PassesOwn (model P w) (cxD P w K mg base N qual st f cdv A outer s H E).A (cxD P w K mg base N qual st f cdv A outer s H E).env (cxD P w K mg base N qual st f cdv A outer s H E).xe := passes_of rfl
theorem start_get {vs : List V} {ds : List D} {dl : Addr} {Z : List Addr} {H : Hp} (rl : RepL G dl (cut H Z) ds vs) (hl : vs.length = n) (hN : N.length = m) {O : List (Nat × Addr)} : ∀ i c, (ds.map Cell.val ++ List.replicate (m - n) Cell.un)[i]? = some c → Slot G dl Z O H i (L2.start N vs)[i]? c := fun i c e => by
  have hl2 := rl.length
  by_cases hi : i < ds.length
  · rw [List.getElem?_append_left (by simpa using hi), List.getElem?_map, List.getElem?_eq_getElem hi] at e
    cases e
    obtain ⟨v, h1, h2⟩ := RepL.getD ds vs i ds[i] rl (by simp)
    refine ⟨v, ?_, h2⟩
    unfold L2.start
    rw [List.getElem?_append_left (by rw [List.length_map]; omega), List.getElem?_map, h1]
    rfl
  · rw [List.getElem?_append_right (by simpa using hi), List.getElem?_replicate] at e
    split at e
    · cases e; trivial
    · cases e
theorem fnOk_of (Fn : Fun K x qual st f fd) (S : FnScope N ps (defScope st)) (hn : ps.length = n) (hm : N.length = m)
    (hb : ∀ cdv A outer s H E, Room k (A.deeper (envOfC qual (defScope st) s.heap.objs.size f cdv)) → DSs (cxD P w K mg base N qual st f cdv A outer s H E) G (WD E) (defBody st) F) :
    FnOk P w K mg base (L2.CX P w) (k + 1) f fd ps (spD G n (runF n m F)) := by
  refine Fn.okX S (fun vs H Q E h => by rw [hn]; exact h.1) fun cdv A outer s H vs Q E hr h => ⟨_, hb cdv A outer s H E hr, ?_⟩
  obtain ⟨hl, dl, Z, ds, gl, dz, live, rl, hw⟩ := h
  unfold runF at hw
  split at hw
  case isFalse => exact hw.elim
  rename_i hdl
  have hpl : ps.length ≤ N.length := by have := congrArg List.length S.pre; rw [List.length_take] at this; omega
  have A0 : At G dl Z [] (ds.map Cell.val ++ List.replicate (m - n) Cell.un) (L2.start N vs) H := by
    refine ⟨gl, dz, live, fun p hp => (by cases hp), fun p hp => (by cases hp), ?_, start_get rl hl hm⟩
    unfold L2.start
    rw [List.length_append, List.length_map, List.length_replicate, List.length_append, List.length_map, List.length_replicate]
    omega
  have gr : ∀ {Z' O' H'}, Stp dl Z [] H Z' O' H' → Grow dl H H' := fun s a o e n nt => s.fr a o e n (fun p hp => (by cases hp)) nt
  have gz : ∀ {Z' O' H'}, Stp dl Z [] H Z' O' H' → GrowS (cut H' Z') (cut H' Z) := fun s => cut_sub fun a ha => s.zk a ha fun p hp => (by cases hp)
  refine ⟨dl, Z, [], _, A0, (calm_wp hw.bind).thn fun o ho => ?_⟩
  cases o with
  | nx r => exact fun Z' O' sg' H' s A' => ho _ _ (gr s) A'.gl Rep.non_
  | rt d => exact fun Z' O' v H' s g rp => ho _ _ (gr s) g (rp.mono (gz s))
  | ex e r => exact fun Z' O' sg' H' cls dx s A' xr => ho cls dx H' (gr s) A'.gl (xr.mono (gz s))
  | bk r => exact ho.elim
  | ct r => exact ho.elim
theorem fnD_of (Fn : Fun K x qual st f fd) (S : FnScope N ps (defScope st)) (bd : Binds K fd ps []) (hx : mg x = some (.ref f)) (hn : ps.length = n) (hm : N.length = m)
    (hb : ∀ cdv A outer s H E, Room k (A.deeper (envOfC qual (defScope st) s.heap.objs.size f cdv)) → DSs (cxD P w K mg base N qual st f cdv A outer s H E) G (WD E) (defBody st) F) :
    FnD P w K mg base G (k + 1) x f n (runF n m F) := ⟨⟨fd, ps, hn, fnOk_of Fn S hn hm hb, bd⟩, runF_len, Fn.kp, hx⟩
end
end DL
set_option Elab.async false
set_option linter.all false
set_option maxRecDepth 100000
namespace DL
open PySem L2 LamX PySem.Spec PyProof.Rows
/-- what the clauses give back, one after the other -/
def wSel (K : PySem.W.Frag) (Q : VK) : List (Addr × Str) → Value → Hp → Prop
  | [], _, _ => False
  | (C, s) :: r, cls, H => ∃ b, PySem.W.exmOne K cls (.ref C) = some b ∧ (b = true → Q (.str s) H) ∧ (b = false → wSel K Q r cls H)
def TTm (K : PySem.W.Frag) (l : List (Addr × Str)) : (XK → Hp → VK → Prop) → Hp → VK → Prop := fun tl H Q => tl (fun cls _ H' => wSel K Q l cls H') H Q
def hdl (l : List (Addr × Str)) : List (Value × (Addr → Value → Option Addr → TS)) := l.map fun p => (.ref p.1, fun _ _ _ => tRet (tC (.str p.2)))
theorem wSel_many {K : PySem.W.Frag} {Q : VK} {De : Ends} (hq : ∀ v H, Q v H → De.rt v H) : ∀ {l : List (Addr × Str)} {cls : Value} {d : Option Addr} {sg : L2.St} {H : Hp}, wSel K Q l cls H → wMany K (fun _ _ _ _ => False) De (hdl l) cls d sg H
  | [], _, _, _, _, h => h
  | (C, s) :: r, cls, d, sg, H, ⟨b, e, h1, h2⟩ => ⟨b, e, fun hb a _ => hq _ _ (h1 hb), fun hb => wSel_many hq (h2 hb)⟩
inductive HdT (X : Cx) (sg : Scope) : List ExceptHandler → List (Addr × Str) → Prop
  | nil : HdT X sg [] []
  | cons {e : Str} {C : Addr} {s : Str} {j : Nat} {p4 p5 p6 p7 : Pos} {hds : List ExceptHandler} {l : List (Addr × Str)} (h1 : sg.names.lookup e = some .globalImplicit) (h2 : X.mg e = some (.ref C)) (h3 : (e == ("__debug__" : Str)) = false) (t : HdT X sg hds l) :
      HdT X sg (.ExceptHandler (some (.Name e p4)) none [.Return (some (.Constant (.str s) j p5)) p6] p7 :: hds) ((C, s) :: l)
section
variable {X : Cx}
theorem told_many {Ng : List Str} {x a q : Str} {sg : Scope} {g : Addr} {cdg : Value} {p1 p2 p3 p8 : Pos} {h₀ : ExceptHandler} {hds : List ExceptHandler} {l : List (Addr × Str)} (hh : HdT X sg (h₀ :: hds) l) (h0 : ∀ f : Addr, (L2.start Ng [V.ref f])[0]? = some (some (V.ref f))) :
    GivesTo X Ng x sg g cdg [.Try [.Return (some (.Call (.Name a p1) [] [] p2)) p3] (h₀ :: hds) [] [] p8] a q (TTm X.K l) := by
  intro f c' s H Q tl act hc h
  have hk : ∀ {hs : List ExceptHandler} {l : List (Addr × Str)}, HdT X sg hs l → HdsOk (cxOf C8.CX0 X.prog X.w X.K X.mg X.base Ng x sg g cdg X.A X.stack s H C8.E0).nox hs (hdl l) := fun {hs l} hh => by
    induction hh with
    | nil => exact .nil
    | cons h1 h2 h3 t ih => exact .cons ⟨h1, h3, .inl h2⟩ (fun a oe cls d pn _ _ => pss_one (ps_ret pe_str)) ih
  refine ⟨_, pss_one (ps_try_many (X := (cxOf C8.CX0 X.prog X.w X.K X.mg X.base Ng x sg g cdg X.A X.stack s H C8.E0).nox)
      (tb := fun W De sg' H' => ∃ Ech : XK, (∀ cls d s2 H2, Ech cls d H2 → W cls d s2 H2) ∧ sg'[0]? = some (some (.ref f)) ∧ H' c' = some (CodeO c' q) ∧ tl Ech H' De.rt)
      rfl rfl LamX.takes0 (fun W pn xe tk _ => ?_) (hk hh)), ?_⟩
  · refine ⟨fun pins s' sg' H' De I ⟨Ech, hW, h1, h2, h3⟩ => ?_⟩
    exact (pss_one (ps_ret (pos := p3) (act W pn xe Ech p1 p2 tk hW))).run pins s' sg' H' De I ⟨h1, h2, h3⟩
  · exact ⟨fun cls _ H' => wSel X.K Q l cls H', fun cls d s2 H2 hw => wSel_many (fun _ _ z => z) hw, h0 f, hc, h⟩
/-- an error told by its word -/
def toldD (l : List (Nat × List Nat)) : R D → R D
  | .ok d => .ok d
  | .err e => match l.lookup e.cls with
    | some s => .ok (.str s)
    | none => .stuck
  | .stuck => .stuck
  | .roll m f => .roll m fun i => toldD l (f i)
@[simp] theorem toldD_ok (l : List (Nat × List Nat)) (d : D) : toldD l (.ok d) = .ok d := rfl
theorem toldD_wp {l : List (Nat × List Nat)} {Q : D → Prop} {E : Exc → Prop} : ∀ {m : R D}, Wp (toldD l m) Q E → Wp m Q (fun e => ∃ s, l.lookup e.cls = some s ∧ Q (.str s))
  | .ok _, h => h
  | .err e, h => by
    unfold toldD at h
    split at h
    · rename_i s hs; exact ⟨s, hs, h⟩
    · exact h.elim
  | .stuck, h => h
  | .roll _ _, h => fun i hi => toldD_wp (h i hi)
/-- the clauses part the classes -/
def ExmOk (K : PySem.W.Frag) (G : Gm) (ks : List Nat) : Prop := ∀ i ∈ ks, ∀ j ∈ ks, PySem.W.exmOne K (.ref (G.xcls i)) (.ref (G.xcls j)) = some (i == j)
theorem wSel_of {K : PySem.W.Frag} {G : Gm} {Q : VK} {H : Hp} {i : Nat} {s : List Nat} : ∀ {l : List (Nat × List Nat)} (ks : List Nat), ExmOk K G ks → i ∈ ks → (∀ j ∈ l.map (·.1), j ∈ ks) → l.lookup i = some s → Q (.str ⟨s.toArray⟩) H → wSel K Q (l.map fun p => (G.xcls p.1, (⟨p.2.toArray⟩ : Str))) (.ref (G.xcls i)) H
  | [], ks, _, _, _, h, _ => by cases h
  | (j, t) :: l, ks, hx, hi, hl, h, q => by
    refine ⟨i == j, hx i hi j (hl j (by simp)), fun hb => ?_, fun hb => ?_⟩
    · rw [List.lookup_cons, hb] at h
      cases h
      exact q
    · rw [List.lookup_cons, hb] at h
      exact wSel_of ks hx hi (fun j hj => hl j (List.mem_cons_of_mem _ hj)) h q
theorem lookup_mem {i : Nat} {s : List Nat} : ∀ {l : List (Nat × List Nat)}, l.lookup i = some s → i ∈ l.map (·.1)
  | [], h => by cases h
  | p :: l, h => by
    rw [List.lookup_cons] at h
    split at h
    · rename_i hh
      exact List.mem_map.mpr ⟨p, List.mem_cons_self, (beq_iff_eq.mp hh).symm⟩
    · exact List.mem_cons_of_mem _ (lookup_mem h)
theorem takes_lam {A outer s H E scope f c'} : Takes (lamCx X A outer s H E scope f c') (WD E) := takes_of rfl rfl rfl rfl
theorem Grow.ofExt {dl : Addr} {H H' : Hp} (e : ExtN H H') : Grow dl H H' := fun a o h _ nt => e a o h nt
theorem GlOk.ofExt {G : Gm} {dl : Addr} {H H' : Hp} (k : GlOk G dl H) (e : ExtN H H') (t : Tabs G.tabs H') : GlOk G dl H' := by
  obtain ⟨x, y, z, h⟩ := k.dice
  exact ⟨⟨x, y, z, e _ _ h fun ps z => by cases z⟩, t⟩
/-- x(lambda: body), x a def that tells -/
theorem de_told {G : Gm} {W : WX} {l : List (Nat × List Nat)} {x a : Str} {g c P : Addr} {k : Nat} {pg : Arguments} {bg : List Stmt} {sg : Scope} {dV kV doc pm cdv ct oc : Value} {an od : Option Addr} {osl : Array (Option Value)} {Ng : List Str}
    {params : Arguments} {body : Expr} {scope : Scope} {fb : LE → R D} {p lpos pos : Pos} (hm : X.mg x = some (.ref g)) (hk : PySem.W.keepIn X.K (.ref g) = true)
    (lk : X.K.lookup g = some ⟨oc, od, .func (PySem.W.fnOf x x pg bg sg dV kV doc pm an cdv ct), osl⟩) (hcg : PySem.W.codeIn X.K cdv x = true) (hb : L2.Binds X.K (PySem.W.fnOf x x pg bg sg dV kV doc pm an cdv ct) [a] []) (Sg : FnScope Ng [a] sg) (hNg : Ng[0]? = some a) (hva : Vis sg a)
    (hG : GivesTo X Ng x sg g cdv bg a (X.env.qual ++ "<lambda>") (TTm X.K (l.map fun p => (G.xcls p.1, (⟨p.2.toArray⟩ : Str)))))
    (hx : ExmOk X.K G (l.map (·.1))) (TB : TabB X.base X.mg c P) (hcode : X.env.code = .ref c) (hmT : (P, X.env.qual ++ "<lambda>") ∈ G.tabs) (hu : ∀ p ∈ G.tabs, p.1 = P → p.2 = X.env.qual ++ "<lambda>") (hr : Room (k + 2) X.A) (L : LamS X.env.scope scope)
    (hbody : ∀ (A : Around) (outer : List Env) (s : Shared) (H : Hp) (E : XK) (f c' : Addr), Room k (A.deeper (lamEnv X scope s.heap.objs.size f c')) → DE (lamCx X A outer s H E scope f c') G (WD E) body fb)
    (hg : Gl X x := by rfl) (hdef : defaultsOf params X.env = ([], []) := by rfl)
    (hbind : ∀ (q : Str) (cl : List (Str × Addr)) (pm cv ctv : Value), bindArgs (PySem.W.kla_fn "<lambda>" q params body scope cl pm cv ctv) ⟨[], []⟩ = pure [] := by intro _ _ _ _ _; rfl)
    (hdb : (x == ("__debug__" : Str)) = false := by decide) (hd : (a == ("__debug__" : Str)) = false := by decide) (hcd : (a == ("__classdict__" : Str)) = false := by decide) :
    DE X G W (.Call (.Name x p) [.Lambda params body scope lpos] [] pos) (fun r => toldD l (fb r)) := by
  refine PE_imp (pe_lamcall (T := G.tabs) (t := fun E => tD G (WD E) fb) hg hm hk lk hcg hb Sg hNg hva hG TB hcode hmT hu hr L hdef hbind hbody hdb hd hcd) fun sg H Q ⟨dl, Z, O, r, A, q⟩ => ⟨A.gl.tab, fun H1 e1 t1 => ?_⟩
  have g1 : Grow dl H H1 := Grow.ofExt e1
  have k1 := A.gl.ofExt e1 t1
  refine ⟨dl, Z, O, r, A.grow g1 k1, (toldD_wp q).mono (fun d hd v H2 g2 k2 rp => hd v H2 (g1.trans g2) k2 rp) fun e ⟨s, hs, hq⟩ cls dx H2 g2 k2 xr => ?_⟩
  obtain ⟨rfl, _⟩ := xr
  have hmem : e.cls ∈ l.map (·.1) := lookup_mem hs
  exact wSel_of _ hx hmem (fun j hj => hj) hs (hq _ H2 (g1.trans g2) k2 Rep.str_)
end
end DL
set_option Elab.async false
set_option linter.all false
set_option maxRecDepth 100000
namespace DL
open PySem L2 PySem.Spec PyProof.Rows
def RepPL (G : Gm) (dl : Addr) (H : Hp) (Z : List Addr) : List D → List V → Prop
  | [], vs => vs = []
  | d :: ds, vs => ∃ v r, vs = v :: r ∧ RepP G dl H Z d v ∧ RepPL G dl H Z ds r
theorem RepPL.grow {G : Gm} {dl : Addr} {Z : List Addr} {O : List (Nat × Addr)} {r : LE} {sg : L2.St} {H H' : Hp} (A : At G dl Z O r sg H) (g : Grow dl H H') : ∀ {ds : List D} {vs : List V}, RepPL G dl H Z ds vs → RepPL G dl H' Z ds vs
  | [], _, h => h
  | d :: ds, vs, ⟨v, r, e, h1, h2⟩ => ⟨v, r, e, h1.grow A g, RepPL.grow A g h2⟩
def tAp (G : Gm) (W : WX) (f : LE → R (List D)) : TA := fun sg H Q => ∃ dl Z O r, At G dl Z O r sg H ∧
  Wp (f r) (fun ds => ∀ vs H', Grow dl H H' → GlOk G dl H' → RepPL G dl H' Z ds vs → Q vs H')
    (fun e => ∀ cls dx H', Grow dl H H' → GlOk G dl H' → XRep G dl (cut H' Z) e cls dx H' → W cls dx sg H')
abbrev DAp (X : Cx) (G : Gm) (W : WX) (es : List Expr) (f : LE → R (List D)) : Prop := PA X es (tAp G W f)
/-- a call of a built-in by values -/
def CallD (X : Cx) (G : Gm) (fv : Value) (g : List D → R D) : Prop := ∃ rr : List V → Hp → VK → Prop, CallR X fv rr ∧
  ∀ (dl : Addr) (Z : List Addr) (O : List (Nat × Addr)) (r : LE) (sg : L2.St) (ds : List D) (vs : List V) (H : Hp) (Q : VK) (E : Exc → Prop), At G dl Z O r sg H → RepPL G dl H Z ds vs →
    Wp (g ds) (fun d => ∀ v H', Grow dl H H' → GlOk G dl H' → Rep G dl (cut H' Z) d v → Q v H') E → rr vs H Q
section
variable {X : Cx} {G : Gm} {W : WX} {ex a b : Expr} {es : List Expr} {f : LE → R D} {fs : LE → R (List D)} {g : List D → R D} {gl : List D → R (List D)} {pos p : Pos} {x : Str} {id T : String}
theorem dap_nil : DAp X G W [] anil := PA_imp pa_nil fun sg H Q ⟨dl, Z, O, r, A, q⟩ => q [] H (.refl _ _) A.gl rfl
theorem dap_cons (ha : DP X G W a f) (hs : DAp X G W es fs) (hst : starEach (a :: es) X.env = (false, eval a X.env) :: starEach es X.env := by rfl) : DAp X G W (a :: es) (acons f fs) := PA_imp (pa_cons ha hs hst) fun sg H Q ⟨dl, Z, O, r, A, q⟩ => by
  refine ⟨dl, Z, O, r, A, q.bind.thn fun x hx v H1 g1 k1 rp => ?_⟩
  refine ⟨dl, Z, O, r, A.grow g1 k1, hx.bind.mono (fun xs hxs vs H2 g2 k2 rl => ?_) fun e => epost g1⟩
  exact hxs (v :: vs) H2 (g1.trans g2) k2 ⟨v, vs, rfl, rp.grow (A.grow g1 k1) g2, rl⟩
theorem de_callB (hc : CallD X G (.builtin id) g) (hm : X.mg x = none) (hv : bootBuiltins x = some (.builtin id)) (ha : DAp X G W (ex :: es) fs) (hg : Gl X x := by rfl) (hn : x ≠ "__name__" := by decide) (hdb : (x == ("__debug__" : Str)) = false := by decide)
    (he : starEach (ex :: es) X.env = (false, eval ex X.env) :: starEach es X.env := by rfl) (hpl : (backTo pos (starEach es X.env)).any (·.1) = false := by rfl) : DE X G W (.Call (.Name x p) (ex :: es) [] pos) (fun r => fs r >>= g) := by
  obtain ⟨rr, h1, h2⟩ := hc
  refine PE_imp (pe_callB h1 hg hm hv ha hn hdb he hpl) fun sg H Q ⟨dl, Z, O, r, A, q⟩ => ⟨dl, Z, O, r, A, q.bind.thn fun ds hd vs H1 g1 k1 rl => ?_⟩
  exact h2 dl Z O r sg ds vs H1 Q _ (A.grow g1 k1) rl (hd.thn fun d h v H' g' k' rp => h v H' (g1.trans g') k' rp)
theorem de_callT (hc : CallD X G (.type T) g) (hm : X.mg x = none) (hv : bootBuiltins x = some (.type T)) (ha : DAp X G W (ex :: es) fs) (hg : Gl X x := by rfl) (hn : x ≠ "__name__" := by decide) (hdb : (x == ("__debug__" : Str)) = false := by decide)
    (he : starEach (ex :: es) X.env = (false, eval ex X.env) :: starEach es X.env := by rfl) (hpl : (backTo pos (starEach es X.env)).any (·.1) = false := by rfl) : DE X G W (.Call (.Name x p) (ex :: es) [] pos) (fun r => fs r >>= g) := by
  obtain ⟨rr, h1, h2⟩ := hc
  refine PE_imp (pe_callTy h1 hg hm hv ha hn hdb he hpl) fun sg H Q ⟨dl, Z, O, r, A, q⟩ => ⟨dl, Z, O, r, A, q.bind.thn fun ds hd vs H1 g1 k1 rl => ?_⟩
  exact h2 dl Z O r sg ds vs H1 Q _ (A.grow g1 k1) rl (hd.thn fun d h v H' g' k' rp => h v H' (g1.trans g') k' rp)
def lenD : List D → R D
  | [.str s] => if s.length ≤ 16777216 then .ok (.int s.length) else .stuck
  | [.lst xs] => .ok (.int xs.length)
  | [.tup xs] => .ok (.int xs.length)
  | _ => .stuck
theorem RepPL.one {dl : Addr} {H : Hp} {Z : List Addr} {d : D} {vs : List V} (h : RepPL G dl H Z [d] vs) : ∃ v, vs = [v] ∧ RepP G dl H Z d v := by
  obtain ⟨v, r, rfl, h1, h2⟩ := h
  cases (show r = [] from h2)
  exact ⟨v, rfl, h1⟩
theorem RepPL.two {dl : Addr} {H : Hp} {Z : List Addr} {d e : D} {vs : List V} (h : RepPL G dl H Z [d, e] vs) : ∃ v u, vs = [v, u] ∧ RepP G dl H Z d v ∧ RepP G dl H Z e u := by
  obtain ⟨v, r, rfl, h1, h2⟩ := h
  obtain ⟨u, rfl, h3⟩ := RepPL.one h2
  exact ⟨v, u, rfl, h1, h3⟩
theorem cd_len (hG : G.K = X.K) : CallD X G (.builtin "len") lenD := by
  refine ⟨_, call_len, fun dl Z O r sg ds vs H Q E A rl h => ?_⟩
  unfold lenD at h
  split at h
  · split at h
    · rename_i s hs
      obtain ⟨v, rfl, rp⟩ := rl.one
      refine ⟨v, s.length, rfl, ?_, h _ H (.refl _ _) A.gl Rep.int_⟩
      rw [rp.str]
      exact ⟨by rw [sizeLine_eq]; simpa [Str.length] using hs, by simp [Str.length]⟩
    · exact h.elim
  · obtain ⟨v, rfl, rp⟩ := rl.one
    obtain ⟨a, us, rfl, e, rl'⟩ := rp.lst
    refine ⟨_, us.length, rfl, .inl ⟨us, SqL.of e, rfl⟩, ?_⟩
    rw [rl'.length]
    exact h _ H (.refl _ _) A.gl Rep.int_
  · obtain ⟨v, rfl, rp⟩ := rl.one
    obtain ⟨a, us, rfl, e, rl'⟩ := rp.tup
    refine ⟨_, us.length, rfl, .inr ⟨us, hG ▸ e, rfl⟩, ?_⟩
    rw [rl'.length]
    exact h _ H (.refl _ _) A.gl Rep.int_
  · exact h.elim
def D.ltb (x y : D) : Bool := PySem.W.dataLt x.toP y.toP
def D.ali (x y : D) : Bool := PySem.W.alike x.toP y.toP
/-- all can be compared with one another -/
def alis (ds : List D) : Bool := ds.all fun x => x.sh 50 && (match x with | .non => false | _ => true) && ds.all fun y => x.ali y
def least (d : D) (ds : List D) : D := ds.foldl (fun a y => if y.ltb a then y else a) d
theorem ReadsAll_get {h : Heap} : ∀ {us : List Value} {ds : List PyData} {as : List Addr} {i : Nat} {u : Value}, ReadsAll h us ds as → us[i]? = some u → ∃ d bs, ds[i]? = some d ∧ Reads h u d bs
  | _, _, _, i, u, .nil, e => by simp at e
  | _, _, _, 0, u, .cons r rs, e => by
    have e := Option.some.inj (show some _ = some u from e)
    subst e
    exact ⟨_, _, rfl, r⟩
  | _, _, _, i + 1, u, .cons r rs, e => by
    obtain ⟨d, bs, h1, h2⟩ := ReadsAll_get rs (i := i) (by simpa using e)
    exact ⟨d, bs, by simpa using h1, h2⟩
theorem Vals_back {xs : List V} {us : List Value} {i : Nat} {u : Value} (r : Vals xs us) (e : us[i]? = some u) : ∃ x, xs[i]? = some x ∧ RelV x u := by
  have hl := r.length
  obtain ⟨h1, h2⟩ := List.getElem?_eq_some_iff.mp e
  have hx : xs[i]? = some (xs[i]'(by omega)) := by simp
  obtain ⟨u', h3, h4⟩ := r.get hx
  rw [e] at h3
  cases h3
  exact ⟨_, hx, h4⟩
theorem minD_mem (x : PyData) (xs : List PyData) : PySem.W.minD x xs ∈ x :: xs := by
  unfold PySem.W.minD
  have : ∀ (ys : List PyData) (a : PyData), ys.foldl (fun a y => if PySem.W.dataLt y a then y else a) a = a ∨ ys.foldl (fun a y => if PySem.W.dataLt y a then y else a) a ∈ ys := by
    intro ys
    induction ys with
    | nil => intro a; exact .inl rfl
    | cons y ys ih =>
      intro a
      rw [List.foldl_cons]
      rcases ih (if PySem.W.dataLt y a then y else a) with e | e
      · rw [e]
        split
        · exact .inr List.mem_cons_self
        · exact .inl rfl
      · exact .inr (List.mem_cons_of_mem _ e)
  rcases this xs x with e | e
  · rw [e]; exact List.mem_cons_self
  · exact List.mem_cons_of_mem _ e
/-- a list or a tuple of data, one item of which comes back -/
def rPick (K : PySem.W.Frag) (pk : PyData → List PyData → PyData) : List V → Hp → VK → Prop := fun vs H Q => ∃ (a : Addr) (us : List V) (x : PyData) (xs : List PyData), vs = [.ref a] ∧ (SqL K H a us ∨ SqT K H a us) ∧ DpAll K H us (x :: xs) ∧ PySem.W.AlikeAll (x :: xs) ∧
  PyData.depthAll (x :: xs) ≤ 64 ∧ ∀ (i : Nat) v, us[i]? = some v → (x :: xs)[i]? = some (pk x xs) → Q v H
theorem pick_core {pins : List (Addr × Obj)} {s : Shared} {sg : L2.St} {H : Hp} {Q : VK} {us : List V} {x pd : PyData} {xs : List PyData} {its : List Value} {as : List Addr} (I : Inv X pins sg H s) (rv : Vals us its) (hr : ReadsAll s.heap its (x :: xs) as) (ha : PySem.W.AlikeAll (x :: xs)) (hmem : pd ∈ x :: xs)
    (q : ∀ (i : Nat) v, us[i]? = some v → (x :: xs)[i]? = some pd → Q v H) (i : Nat) (u : Value) (h' : Heap) (tk : Nat) (bs : List Addr) (hi : its.toArray[i]? = some u) (hr' : Reads h' u pd bs) (hk : ∀ b o, s.heap.get? b = some o → h'.get? b = some o) : EP X pins sg Q u { s with heap := h', toks := tk } := by
  have hi' : its[i]? = some u := by simpa using hi
  obtain ⟨v, hv, rvu⟩ := Vals_back rv hi'
  obtain ⟨d, cs, hd, hrd⟩ := ReadsAll_get hr hi'
  have hdm : d ∈ x :: xs := List.mem_of_getElem? hd
  have e : d = pd := PySem.W.alike_unique d _ u _ _ (ha.1 d hdm _ hmem) (PySem.W.reads_keeps hk hrd) hr'
  subst e
  exact ⟨v, H, I.kept hk, rvu, q i v hv hd⟩
theorem cr_minP (hc : X.calm = true) (hu : X.A.units + 70 < cLine) : CallR X (.builtin "min") (rPick X.K PySem.W.minD) := by
  intro pins s sg H vs us0 Q I r ⟨a, us, x, xs, ev, hsq, hdp, ha, hdep, q⟩
  subst ev
  rw [Vals.ref1 r]
  rcases hsq with h | h
  · obtain ⟨its, rv, pl, _⟩ := I.list h
    obtain ⟨as, hr⟩ := Dp.readsAll I (x :: xs) us its hdp rv
    exact PySem.W.min_list_data (I.ok.hd hc) pl.isList hr ha (by omega) (pick_core I rv hr ha (minD_mem x xs) q)
  · obtain ⟨its, rv, pl, _⟩ := I.tuple h
    obtain ⟨as, hr⟩ := Dp.readsAll I (x :: xs) us its hdp rv
    exact PySem.W.min_tuple_data (I.ok.hd hc) pl hr ha (by omega) (pick_core I rv hr ha (minD_mem x xs) q)
mutual
theorem toP_inj : ∀ (x y : D) (n m : Nat), x.sh n = true → y.sh m = true → x.toP = y.toP → x = y
  | .non, y, n, m, hx, hy, e => by cases y <;> simp_all [D.toP, D.sh]
  | .bl b, y, n, m, hx, hy, e => by cases y <;> simp_all [D.toP, D.sh]
  | .int i, y, n, m, hx, hy, e => by cases y <;> simp_all [D.toP, D.sh]
  | .str s, y, n, m, hx, hy, e => by cases y <;> simp_all [D.toP, D.sh]
  | .lst xs, y, n, m, hx, hy, e => by
    cases y <;> first | (simp [D.toP] at e; done) | skip
    rename_i ys
    cases n <;> first | (simp [D.sh] at hx; done) | skip
    cases m <;> first | (simp [D.sh] at hy; done) | skip
    simp only [D.sh] at hx hy
    simp only [D.toP, PyData.list.injEq] at e
    rw [toPs_inj xs ys _ _ hx hy e]
  | .tup xs, y, n, m, hx, hy, e => by
    cases y <;> first | (simp [D.toP] at e; done) | skip
    rename_i ys
    cases n <;> first | (simp [D.sh] at hx; done) | skip
    cases m <;> first | (simp [D.sh] at hy; done) | skip
    simp only [D.sh] at hx hy
    simp only [D.toP, PyData.tuple.injEq] at e
    rw [toPs_inj xs ys _ _ hx hy e]
  | .dic _, y, n, m, hx, hy, e => by simp [D.sh] at hx
  | .cdic _, y, n, m, hx, hy, e => by simp [D.sh] at hx
  | .ins _ _, y, n, m, hx, hy, e => by simp [D.sh] at hx
  | .dice, y, n, m, hx, hy, e => by simp [D.sh] at hx
  | .fn _, y, n, m, hx, hy, e => by simp [D.sh] at hx
theorem toPs_inj : ∀ (xs ys : List D) (n m : Nat), D.shs xs n = true → D.shs ys m = true → D.toPs xs = D.toPs ys → xs = ys
  | [], [], n, m, hx, hy, e => rfl
  | [], y :: ys, n, m, hx, hy, e => by simp [D.toPs] at e
  | x :: xs, [], n, m, hx, hy, e => by simp [D.toPs] at e
  | x :: xs, y :: ys, n, m, hx, hy, e => by
    simp only [D.shs, Bool.and_eq_true] at hx hy
    simp only [D.toPs, List.cons.injEq] at e
    rw [toP_inj x y n m hx.1 hy.1 e.1, toPs_inj xs ys n m hx.2 hy.2 e.2]
end
theorem toPs_map (ds : List D) : D.toPs ds = ds.map D.toP := by
  induction ds with
  | nil => rfl
  | cons d ds ih => simp only [D.toPs, List.map_cons, ih]
theorem shs_of {ds : List D} {n : Nat} (h : ∀ d ∈ ds, d.sh n = true) : D.shs ds n = true := by
  induction ds with
  | nil => rfl
  | cons d ds ih =>
    simp only [D.shs, h d List.mem_cons_self, Bool.true_and]
    exact ih fun e he => h e (List.mem_cons_of_mem _ he)
theorem alis_sh {ds : List D} (h : alis ds = true) : ∀ d ∈ ds, d.sh 50 = true := fun d hd => by
  have := List.all_eq_true.mp h d hd
  simp only [Bool.and_eq_true] at this
  exact this.1.1
theorem alis_alike {ds : List D} (h : alis ds = true) : PySem.W.AlikeAll (D.toPs ds) := by
  rw [toPs_map]
  refine ⟨fun x hx y hy => ?_, fun x hx => ?_⟩
  · obtain ⟨d, hd, rfl⟩ := List.mem_map.mp hx
    obtain ⟨e, he, rfl⟩ := List.mem_map.mp hy
    have := List.all_eq_true.mp h d hd
    simp only [Bool.and_eq_true, List.all_eq_true] at this
    exact this.2 e he
  · obtain ⟨d, hd, rfl⟩ := List.mem_map.mp hx
    have := List.all_eq_true.mp h d hd
    simp only [Bool.and_eq_true] at this
    intro e
    cases d <;> simp_all [D.toP, D.sh]
theorem least_toP (d : D) (ds : List D) : (least d ds).toP = PySem.W.minD d.toP (D.toPs ds) := by
  unfold least PySem.W.minD
  rw [toPs_map, List.foldl_map]
  induction ds generalizing d with
  | nil => rfl
  | cons e ds ih =>
    rw [List.foldl_cons, List.foldl_cons, ih]
    congr 1
    show (if e.ltb d then e else d).toP = if PySem.W.dataLt e.toP d.toP then e.toP else d.toP
    unfold D.ltb
    split <;> rfl
theorem fold_mem {pk : D → D → D} (hp : ∀ a b, pk a b = a ∨ pk a b = b) : ∀ (ds : List D) (d : D), ds.foldl pk d ∈ d :: ds
  | [], d => List.mem_cons_self
  | e :: ds, d => by
    rw [List.foldl_cons]
    rcases hp d e with q | q
    · rw [q]
      rcases List.mem_cons.mp (fold_mem hp ds d) with z | z
      · rw [z]; exact List.mem_cons_self
      · exact List.mem_cons_of_mem _ (List.mem_cons_of_mem _ z)
    · rw [q]
      exact List.mem_cons_of_mem _ (fold_mem hp ds e)
theorem least_mem (d : D) (ds : List D) : least d ds ∈ d :: ds := fold_mem (fun a b => by split <;> simp) ds d
def minL : List D → R D
  | [.int i, .int j] => .ok (.int (if j < i then j else i))
  | [.lst (d :: ds)] => if alis (d :: ds) then .ok (least d ds) else .stuck
  | [.tup (d :: ds)] => if alis (d :: ds) then .ok (least d ds) else .stuck
  | _ => .stuck
theorem CallR.or {f : Value} {r1 r2 : List V → Hp → VK → Prop} (h1 : CallR X f r1) (h2 : CallR X f r2) : CallR X f (fun vs H Q => r1 vs H Q ∨ r2 vs H Q) := fun pins s sg H xs us Q I r h => by
  rcases h with h | h
  · exact h1 pins s sg H xs us Q I r h
  · exact h2 pins s sg H xs us Q I r h
theorem pick_of {pk : D → List D → D} {pp : PyData → List PyData → PyData} (htp : ∀ d ds, (pk d ds).toP = pp d.toP (D.toPs ds)) (hmem : ∀ d ds, pk d ds ∈ d :: ds) {dl : Addr} {Z : List Addr} {O : List (Nat × Addr)} {r : LE} {sg : L2.St} {H : Hp} {Q : VK} (hG : G.K = X.K) (A : At G dl Z O r sg H) {d : D} {ds : List D} {us : List V} {a : Addr}
    (hsq : SqL X.K H a us ∨ SqT X.K H a us) (rl : RepL G dl (cut H Z) (d :: ds) us) (hal : alis (d :: ds) = true) (h : ∀ v H', Grow dl H H' → GlOk G dl H' → Rep G dl (cut H' Z) (pk d ds) v → Q v H') : rPick X.K pp [.ref a] H Q := by
  have hs := alis_sh hal
  have hss := shs_of hs
  refine ⟨a, us, d.toP, D.toPs ds, rfl, hsq, ?_, ?_, ?_, fun i v hv hi => ?_⟩
  · have := RepL.dp (cut_grow H Z) (d :: ds) 50 hss rl
    rw [hG] at this
    exact this
  · exact alis_alike hal
  · exact Nat.le_trans (shs_lay (d :: ds) 50 hss).2 (by decide)
  · obtain ⟨e, he, rp⟩ := RepL.get (d :: ds) us i v rl hv
    have h1 : (D.toPs (d :: ds))[i]? = some (pp d.toP (D.toPs ds)) := hi
    rw [toPs_map, List.getElem?_map, he] at h1
    have h2 : e.toP = (pk d ds).toP := by rw [htp]; exact Option.some.inj h1
    have h3 := toP_inj e _ 50 50 (hs e (List.mem_of_getElem? he)) (hs _ (hmem d ds)) h2
    rw [← h3] at h
    exact h v H (.refl _ _) A.gl rp
theorem cd_min (hG : G.K = X.K) (hc : X.calm = true) (hu : X.A.units + 70 < cLine) : CallD X G (.builtin "min") minL := by
  refine ⟨_, CallR.or (call_min2 hc) (cr_minP hc hu), fun dl Z O r sg ds vs H Q E A rl h => ?_⟩
  unfold minL at h
  split at h
  · obtain ⟨v, u, rfl, r1, r2⟩ := rl.two
    exact .inl ⟨_, _, by rw [r1.int, r2.int], h _ H (.refl _ _) A.gl Rep.int_⟩
  · split at h
    · rename_i d ds hal
      obtain ⟨v, rfl, rp⟩ := rl.one
      obtain ⟨a, us, rfl, e, rl'⟩ := rp.lst
      exact .inr (pick_of least_toP least_mem hG A (.inl (SqL.of e)) rl' hal h)
    · exact h.elim
  · split at h
    · rename_i d ds hal
      obtain ⟨v, rfl, rp⟩ := rl.one
      obtain ⟨a, us, rfl, e, rl'⟩ := rp.tup
      exact .inr (pick_of least_toP least_mem hG A (.inr (hG ▸ e)) rl' hal h)
    · exact h.elim
  · exact h.elim
end
end DL
set_option Elab.async false
set_option linter.all false
set_option maxRecDepth 100000
namespace DL
open PySem L2 PySem.Spec PyProof.Rows
def D.key1 : D → Bool
  | .int _ => true
  | .str _ => true
  | _ => false
def D.keq : D → D → Bool
  | .int i, .int j => i == j
  | .str s, .str t => s == t
  | _, _ => false
theorem keq_key {a b : D} {x y : Key} (h1 : a.key = some x) (h2 : b.key = some y) : a.keq b = decide (x = y) := by
  cases a <;> simp [D.key] at h1 <;> subst h1 <;> cases b <;> simp [D.key] at h2 <;> subst h2 <;> rw [Bool.eq_iff_iff] <;> simp [D.keq]
def getD (kvs : List (D × D)) (k : D) : Option D := (kvs.find? fun p => p.1.keq k).map (·.2)
def putD (kvs : List (D × D)) (k d : D) : List (D × D) := if (kvs.any fun p => p.1.keq k) = true then kvs.map (fun p => if p.1.keq k then (p.1, d) else p) else kvs ++ [(k, d)]
/-- x in y -/
def inB (x : D) : D → R Bool
  | .lst ys => if x.sh 62 && D.shs ys 62 then .ok (ys.any fun z => z.eqb x) else .stuck
  | .tup ys => if x.sh 62 && D.shs ys 62 then .ok (ys.any fun z => z.eqb x) else .stuck
  | .str t => match x with
    | .str [c] => .ok (decide (c ∈ t))
    | _ => .stuck
  | .dic kvs => if x.key1 then .ok ((getD kvs x).isSome) else .stuck
  | _ => .stuck
def inD (x y : D) : R D := inB x y >>= fun b => .ok (.bl b)
def notInD (x y : D) : R D := inB x y >>= fun b => .ok (.bl (!b))
theorem toPs_any {x : D} {n : Nat} (hx : x.sh n = true) : ∀ {ys : List D} {m : Nat}, D.shs ys m = true → ((D.toPs ys).any fun z => PyData.eqv z x.toP) = ys.any fun z => z.eqb x
  | [], m, h => rfl
  | y :: ys, m, h => by
    simp only [D.shs, Bool.and_eq_true] at h
    simp only [D.toPs, List.any_cons, toPs_any hx h.2, eqb_eqv y x m n h.1 hx]
mutual
theorem sh_mono : ∀ (d : D) (n m : Nat), n ≤ m → d.sh n = true → d.sh m = true
  | .non, _, _, _, _ => rfl
  | .bl _, _, _, _, _ => rfl
  | .int _, _, _, _, _ => rfl
  | .str s, n, m, _, h => by simpa [D.sh] using h
  | .lst xs, n, m, h1, h2 => by
    cases n <;> first | (simp [D.sh] at h2; done) | skip
    cases m <;> first | omega | skip
    simp only [D.sh] at h2 ⊢
    exact shs_mono xs _ _ (by omega) h2
  | .tup xs, n, m, h1, h2 => by
    cases n <;> first | (simp [D.sh] at h2; done) | skip
    cases m <;> first | omega | skip
    simp only [D.sh] at h2 ⊢
    exact shs_mono xs _ _ (by omega) h2
  | .dic _, n, m, _, h => by simp [D.sh] at h
  | .cdic _, n, m, _, h => by simp [D.sh] at h
  | .ins _ _, n, m, _, h => by simp [D.sh] at h
  | .dice, n, m, _, h => by simp [D.sh] at h
  | .fn _, n, m, _, h => by simp [D.sh] at h
theorem shs_mono : ∀ (ds : List D) (n m : Nat), n ≤ m → D.shs ds n = true → D.shs ds m = true
  | [], _, _, _, _ => rfl
  | d :: ds, n, m, h1, h2 => by
    simp only [D.shs, Bool.and_eq_true] at h2 ⊢
    exact ⟨sh_mono d n m h1 h2.1, shs_mono ds n m h1 h2.2⟩
end
section
variable {X : Cx} {G : Gm} {W : WX}
/-- x in a tuple of data -/
def rInTD (K : PySem.W.Frag) (neg : Bool) : R2 := fun x y H Q => ∃ d ds, Dp K H x d ∧ Dp K H y (.tuple ds) ∧ SeqAt.shaped d = true ∧ SeqAt.shaped (.tuple ds) = true ∧ Q (.bl (if neg then !ds.any fun z => PyData.eqv z d else ds.any fun z => PyData.eqv z d)) H
theorem room_tup {A : Around} {ds : List PyData} {d : PyData} (sd : SeqAt.shaped d = true) (hu : A.units + 66 < cLine) : A.units + 1 + min (PyData.depthAll ds) d.depth < cLine := by
  have := SeqAt.depth_of_shaped sd
  omega
theorem op_inTD (hu : X.A.units + 66 < cLine) : OpR X (compareOp .In) (rInTD X.K false) := by
  intro pins s sg H x y v u Q I rx ry ⟨d, ds, hd, he, sd, se, q⟩
  obtain ⟨as, r1⟩ := Dp.reads I d x v hd rx
  obtain ⟨bs, r2⟩ := Dp.reads I (.tuple ds) y u he ry
  exact SeqAt.in_tuple_reads r2 r1 (SeqAt.canLay_of_shaped se) (SeqAt.canLay_of_shaped sd) (room_tup sd hu) ⟨.bl _, H, I, rfl, q⟩
theorem op_notInTD (hu : X.A.units + 66 < cLine) : OpR X (compareOp .NotIn) (rInTD X.K true) := by
  intro pins s sg H x y v u Q I rx ry ⟨d, ds, hd, he, sd, se, q⟩
  obtain ⟨as, r1⟩ := Dp.reads I d x v hd rx
  obtain ⟨bs, r2⟩ := Dp.reads I (.tuple ds) y u he ry
  exact SeqAt.notIn_tuple_reads r2 r1 (SeqAt.canLay_of_shaped se) (SeqAt.canLay_of_shaped sd) (room_tup sd hu) ⟨.bl _, H, I, rfl, q⟩
def rInDc (neg : Bool) : R2 := fun x y H Q => ∃ a o, y = .ref a ∧ DGet H a x o ∧ Q (.bl (if neg then !o.isSome else o.isSome)) H
theorem op_inDc (hu : X.A.units + 66 < cLine) : OpR X (compareOp .In) (rInDc false) := by
  intro pins s sg H x y v u Q I rx ry ⟨a, o, ey, g, q⟩
  subst ey
  obtain rfl : u = Value.ref a := ry
  exact d_in (by omega) I g rx fun s3 I3 => ⟨.bl o.isSome, H, I3, rfl, q⟩
theorem op_notInDc (hu : X.A.units + 66 < cLine) : OpR X (compareOp .NotIn) (rInDc true) := by
  intro pins s sg H x y v u Q I rx ry ⟨a, o, ey, g, q⟩
  subst ey
  obtain rfl : u = Value.ref a := ry
  exact d_notIn (by omega) I g rx fun s3 I3 => ⟨.bl (!o.isSome), H, I3, rfl, q⟩
theorem key_kV {d : D} {x : Key} {dl : Addr} {H : Hp} {Z : List Addr} {v : V} (h : d.key = some x) (rp : RepP G dl H Z d v) : v = kV x := by
  cases d <;> simp [D.key] at h <;> subst h
  · rw [rp.int]; rfl
  · rw [rp.str]; rfl
theorem key1_key {d : D} (h : d.key1 = true) : ∃ x, d.key = some x := by
  cases d <;> simp [D.key1] at h
  · exact ⟨_, rfl⟩
  · exact ⟨_, rfl⟩
theorem RepP.dic {dl : Addr} {H : Hp} {Z : List Addr} {v : V} {kvs : List (D × D)} (h : RepP G dl H Z (.dic kvs) v) : ∃ a kv, v = .ref a ∧ Rd H a (.dK kv) ∧ RepK G dl (cut H Z) kvs kv := by
  rcases h with h | ⟨a, e, hz, hd, q⟩
  · unfold Rep at h
    obtain ⟨a, kv, e, q, rl⟩ := h
    exact ⟨a, kv, e, (cut_grow H Z).rd (fun ps z => by cases z) q, rl⟩
  · obtain ⟨kv, e2, rl⟩ := q
    exact ⟨a, kv, e, .inl e2, rl⟩
theorem getD_of {dl : Addr} {S : Hp} {k : D} {x : Key} (hk : k.key = some x) : ∀ {kvs : List (D × D)} {kv : List (Key × V)}, RepK G dl S kvs kv → (getD kvs k = none ∧ valV kv x = none) ∨ ∃ d v, getD kvs k = some d ∧ valV kv x = some v ∧ Rep G dl S d v
  | [], kv, h => by
    unfold RepK at h
    subst h
    exact .inl ⟨rfl, rfl⟩
  | (k', d) :: kvs, kv, h => by
    unfold RepK at h
    obtain ⟨y, v, r, rfl, hk', rp, h2⟩ := h
    have e := keq_key hk' hk
    by_cases q : y = x
    · refine .inr ⟨d, v, ?_, valV_pos q, rp⟩
      unfold getD
      rw [List.find?_cons, show k'.keq k = true by rw [e]; exact decide_eq_true q]
      rfl
    · have e2 : k'.keq k = false := by rw [e]; exact decide_eq_false q
      have h3 : getD ((k', d) :: kvs) k = getD kvs k := by
        unfold getD
        rw [List.find?_cons, e2]
      rw [h3, valV_neg q]
      exact getD_of hk h2
theorem in_core {neg : Bool} {rr : R2} (hG : G.K = X.K)
    (hL : ∀ {x y : V} {H : Hp} {Q : VK} {d : PyData} {ds : List PyData}, Dp X.K H x d → Dp X.K H y (.list ds) → SeqAt.shaped d = true → SeqAt.shaped (.list ds) = true → Q (.bl (if neg then !ds.any fun z => PyData.eqv z d else ds.any fun z => PyData.eqv z d)) H → rr x y H Q)
    (hT : ∀ {x y : V} {H : Hp} {Q : VK}, rInTD X.K neg x y H Q → rr x y H Q) (hS : ∀ {c : Nat} {z : Str} {H : Hp} {Q : VK}, Q (.bl (if neg then !decide (c ∈ z.cps.toList) else decide (c ∈ z.cps.toList))) H → rr (.str ⟨#[c]⟩) (.str z) H Q) (hD : ∀ {x y : V} {H : Hp} {Q : VK}, rInDc neg x y H Q → rr x y H Q)
    (dl : Addr) (Z : List Addr) (O : List (Nat × Addr)) (r : LE) (sg : L2.St) (x y : D) (vx vy : V) (H : Hp) (Q : VK) (E : Exc → Prop) (A : At G dl Z O r sg H) (hx : RepP G dl H Z x vx) (hy : RepP G dl H Z y vy)
    (h : Wp (inB x y >>= fun b => R.ok (D.bl (if neg then !b else b))) (fun d => ∀ v H', Grow dl H H' → GlOk G dl H' → Rep G dl (cut H' Z) d v → Q v H') E) : rr vx vy H Q := by
  unfold inB at h
  split at h
  · split at h
    · rename_i ys hc
      rw [Bool.and_eq_true] at hc
      have e := toPs_any hc.1 hc.2
      refine hL (d := x.toP) (ds := D.toPs ys) (hG ▸ hx.dp hc.1) (hG ▸ (RepP.dp (n := 63) (by simpa [D.sh] using hc.2) hy)) (sh_shaped (sh_mono _ _ _ (by decide) hc.1)) (sh_shaped (d := .lst ys) (by simpa [D.sh] using shs_mono _ _ 63 (by decide) hc.2)) ?_
      rw [e]
      exact h _ H (.refl _ _) A.gl Rep.bl_
    · exact h.elim
  · split at h
    · rename_i ys hc
      rw [Bool.and_eq_true] at hc
      have e := toPs_any hc.1 hc.2
      refine hT ⟨x.toP, D.toPs ys, hG ▸ hx.dp hc.1, hG ▸ (RepP.dp (n := 63) (by simpa [D.sh] using hc.2) hy), sh_shaped (sh_mono _ _ _ (by decide) hc.1), sh_shaped (d := .tup ys) (by simpa [D.sh] using shs_mono _ _ 63 (by decide) hc.2), ?_⟩
      rw [e]
      exact h _ H (.refl _ _) A.gl Rep.bl_
    · exact h.elim
  · split at h
    · rename_i t _ c
      rw [hx.str, hy.str]
      refine hS ?_
      have := h (.bl (if neg then !decide (c ∈ t) else decide (c ∈ t))) H (.refl _ _) A.gl Rep.bl_
      simpa using this
    · exact h.elim
  · split at h
    · rename_i kvs hk1
      obtain ⟨k, hk⟩ := key1_key hk1
      obtain ⟨a, kv, rfl, hrd, rk⟩ := hy.dic
      refine hD ⟨a, valV kv k, rfl, .inl ⟨kv, k, hrd, key_kV hk hx, rfl⟩, ?_⟩
      have hsome : (valV kv k).isSome = (getD kvs x).isSome := by
        rcases getD_of hk rk with ⟨e1, e2⟩ | ⟨d, v, e1, e2, _⟩ <;> simp [e1, e2]
      rw [hsome]
      exact h _ H (.refl _ _) A.gl Rep.bl_
    · exact h.elim
  · exact h.elim
theorem op_in_d (hG : G.K = X.K) (hu : X.A.units + 70 < cLine) : OpD X G (compareOp .In) inD := by
  refine ⟨_, OpR.or (op_inD (by omega)) (OpR.or (op_inTD (by omega)) (OpR.or op_in_sign (op_inDc (by omega)))), ?_⟩
  exact in_core (neg := false) hG (fun h1 h2 h3 h4 q => .inl ⟨_, _, h1, h2, h3, h4, q⟩) (fun h => .inr (.inl h)) (fun q => .inr (.inr (.inl ⟨_, _, rfl, rfl, q⟩))) (fun h => .inr (.inr (.inr h)))
theorem op_notin_d (hG : G.K = X.K) (hu : X.A.units + 70 < cLine) : OpD X G (compareOp .NotIn) notInD := by
  refine ⟨_, OpR.or (op_notInD (by omega)) (OpR.or (op_notInTD (by omega)) (OpR.or op_notIn_sign (op_notInDc (by omega)))), ?_⟩
  exact in_core (neg := true) hG (fun h1 h2 h3 h4 q => .inl ⟨_, _, h1, h2, h3, h4, q⟩) (fun h => .inr (.inl h)) (fun q => .inr (.inr (.inl ⟨_, _, rfl, rfl, q⟩))) (fun h => .inr (.inr (.inr h)))
end
end DL
set_option Elab.async false
set_option linter.all false
set_option maxRecDepth 100000
namespace DL
open PySem L2 PySem.Spec PyProof.Rows
def getC (kvs : List (List Nat × D)) (k : List Nat) : Option D := (kvs.find? fun p => p.1 == k).map (·.2)
def subI (x y : D) : R D := match x with
  | .dic kvs => if y.key1 then (match getD kvs y with
    | some d => .ok d
    | none => .stuck) else .stuck
  | .cdic kvs => match y with
    | .str s => match getC kvs s with
      | some d => .ok d
      | none => .stuck
    | _ => .stuck
  | x => ixD x y
section
variable {X : Cx} {G : Gm} {W : WX} {ex a b : Expr} {es : List Expr} {f g : LE → R D} {fs : LE → R (List D)} {pos p : Pos} {dl : Addr} {S H : Hp} {Z : List Addr}
def rIxDK : R2 := fun x y H Q => ∃ a v, x = .ref a ∧ DGet H a y (some v) ∧ Q v H
theorem ix_dict (hu : X.A.units + 1 < cLine) : IxR X rIxDK := by
  intro value slice pins s sg H x y v u Q I rx ry h hs
  obtain ⟨p, r, rfl, g, q⟩ := h
  obtain rfl : v = Value.ref p := rx
  exact tail_any (dict_typeIs I g) PySem.F.slot_dict_getitem.lookup (d_getItem hu I g ry fun w' s3 I3 rw' => ⟨r, H, I3, rw', q⟩) hs
theorem RepP.cdic {v : V} {kvs : List (List Nat × D)} (h : RepP G dl H Z (.cdic kvs) v) : ∃ a, v = .ref a ∧ RepC G dl (cut H Z) a kvs := by
  rcases h with h | ⟨a, e, hz, hd, q⟩
  · unfold Rep at h
    exact h
  · exact q.elim
theorem getC_of {a : Addr} {k : List Nat} {d : D} : ∀ {kvs : List (List Nat × D)}, RepC G dl S a kvs → getC kvs k = some d → ∃ v, KDct G.K G.w a ⟨k.toArray⟩ v ∧ Rep G dl S d v
  | [], h, e => by simp [getC] at e
  | (k', d') :: kvs, h, e => by
    unfold RepC at h
    unfold getC at e
    rw [List.find?_cons] at e
    by_cases q : k' = k
    · subst q
      simp at e
      subst e
      exact h.1
    · rw [show (k' == k) = false from beq_eq_false_iff_ne.mpr q] at e
      exact getC_of h.2 e
theorem de_sub (hG : G.K = X.K) (hw : G.w = X.w) (hu : X.A.units + 70 < cLine) (ha : DP X G W a f) (hb : DP X G W b g) (hs : PlainIx b) : DE X G W (.Subscript a b pos) (fun r => do let x ← f r; let y ← g r; subI x y) := by
  refine PE_imp (pe_ix (IxR.or (ix_dict (by omega)) (IxR.or ix_kdict ix_seq)) ha hb hs) fun sg H Q h => ?_
  refine op_core (fun dl Z O r sg x y vx vy H Q E A hx hy h => ?_) h
  cases x with
  | dic kvs =>
    unfold subI at h
    dsimp only at h
    split at h
    · rename_i hk1
      obtain ⟨kk, hk⟩ := key1_key hk1
      obtain ⟨a, kv, rfl, hrd, rk⟩ := hx.dic
      split at h
      · rename_i d hd
        rcases getD_of hk rk with ⟨e1, e2⟩ | ⟨d', v, e1, e2, rp⟩
        · rw [e1] at hd; cases hd
        · rw [e1] at hd
          cases hd
          exact .inl ⟨a, v, rfl, .inl ⟨kv, kk, hrd, key_kV hk hy, e2.symm⟩, h v H (.refl _ _) A.gl rp⟩
      · exact h.elim
    · exact h.elim
  | cdic kvs =>
    cases y <;> first | exact h.elim | skip
    rename_i s
    unfold subI at h
    dsimp only at h
    split at h
    · rename_i d hd
      obtain ⟨a, rfl, rc⟩ := hx.cdic
      obtain ⟨v, kd, rp⟩ := getC_of rc hd
      exact .inr (.inl ⟨a, ⟨s.toArray⟩, v, rfl, hy.str, hG ▸ hw ▸ kd, h v H (.refl _ _) A.gl rp⟩)
    · exact h.elim
  | lst xs =>
    cases y <;> first | exact h.elim | skip
    rename_i i
    unfold subI ixD at h
    dsimp only at h
    split at h
    · rename_i d hd
      obtain ⟨p, vs, rfl, h1, rl⟩ := hx.lst
      obtain ⟨v, h2, rp⟩ := atI_rep rl hd
      exact .inr (.inr (.inl ⟨p, vs, i, v, rfl, hy.int, SqL.of h1, h2, h v H (.refl _ _) A.gl rp⟩))
    · exact h.elim
  | tup xs =>
    cases y <;> first | exact h.elim | skip
    rename_i i
    unfold subI ixD at h
    dsimp only at h
    split at h
    · rename_i d hd
      obtain ⟨p, vs, rfl, h1, rl⟩ := hx.tup
      obtain ⟨v, h2, rp⟩ := atI_rep rl hd
      exact .inr (.inr (.inr (.inl ⟨p, vs, i, v, rfl, hy.int, hG ▸ h1, h2, h v H (.refl _ _) A.gl rp⟩)))
    · exact h.elim
  | str s =>
    cases y <;> first | exact h.elim | skip
    rename_i i
    unfold subI ixD at h
    dsimp only at h
    split at h
    · rename_i hz
      split at h
      · rename_i c hc
        refine .inr (.inr (.inr (.inr ⟨_, i, c, hx.str, hy.int, by rw [sizeLine_eq]; simpa [Str.length] using hz, hc, ?_⟩)))
        exact h _ H (.refl _ _) A.gl (Rep.str_ (x := [c]))
      · exact h.elim
    · exact h.elim
  | non => cases y <;> exact h.elim
  | bl b => cases y <;> exact h.elim
  | int b => cases y <;> exact h.elim
  | ins c b => cases y <;> exact h.elim
  | dice => cases y <;> exact h.elim
  | fn b => cases y <;> exact h.elim
def negD : D → R D
  | .int i => .ok (.int (-i))
  | _ => .stuck
theorem de_neg (ha : DP X G W a f) : DE X G W (.UnaryOp .USub a pos) (fun r => do let x ← f r; negD x) := by
  refine PE_imp (pe_un un_neg ha) fun sg H Q ⟨dl, Z, O, r, A, q⟩ => ?_
  refine ⟨dl, Z, O, r, A, q.bind.thn fun d hd v H1 g1 k1 rp => ?_⟩
  unfold negD at hd
  split at hd
  · rename_i i
    exact ⟨i, rp.int, hd _ H1 g1 k1 Rep.int_⟩
  · exact hd.elim
def isT (T : String) : D → R D
  | .str s => if T = "str" then .ok (.str s) else .stuck
  | .lst xs => if T = "list" then .ok (.lst xs) else .stuck
  | .dic xs => if T = "dict" then .ok (.dic xs) else .stuck
  | _ => .stuck
def TyW (K : PySem.W.Frag) (T : String) (x : V) (H : Hp) : Prop := tyV K T x H ∨ (T = "dict" ∧ ∃ p kvs, x = .ref p ∧ Rd H p (.dK kvs))
theorem tyW_is {pins : List (Addr × Obj)} {sg : L2.St} {H : Hp} {s : Shared} {T : String} {x : V} {v : Value} (I : Inv X pins sg H s) (r : RelV x v) (ty : TyW X.K T x H) :
    s.TypeIs v T ∧ ∀ a, v = .ref a → ∃ ob, s.heap.get? a = some ob ∧ ob.dict = none := by
  rcases ty with ty | ⟨rfl, p, kvs, rfl, hd⟩
  · exact tyV_is I r ty
  · cases r
    obtain ⟨_, _, vs, _, dd⟩ := dk_rd I.hok hd
    refine ⟨dd.typeIs, fun b q => ?_⟩
    cases q
    obtain ⟨ob, _, _, h1, h2, _⟩ := dd
    exact ⟨ob, h1, h2.2.1⟩
theorem isT_wp {T : String} {d : D} {Q : D → Prop} {E : Exc → Prop} (h : Wp (isT T d) Q E) : Q d ∧ ∀ (hG : G.K = X.K) {v : V}, RepP G dl H Z d v → TyW X.K T v H := by
  unfold isT at h
  split at h
  all_goals first | exact h.elim | skip
  all_goals split at h
  all_goals first | exact h.elim | skip
  all_goals rename_i e
  all_goals subst e
  all_goals refine ⟨h, fun hG v rp => ?_⟩
  · rw [rp.str]; exact .inl rfl
  · obtain ⟨a, vs, rfl, h1, _⟩ := rp.lst
    exact .inl (.inl ⟨rfl, vs, SqL.of h1⟩)
  · obtain ⟨a, kv, rfl, h1, _⟩ := rp.dic
    exact .inr ⟨rfl, a, kv, rfl, h1⟩
def tBMW (K : PySem.W.Frag) (T : String) (r : V → List V → Hp → VK → Prop) (to : TE) (t : TA) : TE := fun sg H Q => to sg H fun x H1 => TyW K T x H1 ∧ t sg H1 fun xs H2 => r x xs H2 Q
variable {o e : Expr} {to : TE} {t : TA} {name : Str} {apos cpos : Pos} {T id : String} {r : V → List V → Hp → VK → Prop}
theorem pe_bmw (pa : PlainAttrs T) (slot : PySem.Slot T name id) (hty : typeOf (.builtin id) = pure (.type "method_descriptor")) (hm : MtR X id r) (ho : PE X o to) (ha : PA X (e :: es) t)
    (hbase : attributeBase o name X.env (eval o X.env) = eval o X.env)
    (hfew : ((backTo cpos (starEach (e :: es) X.env)).all (fun x => !x.1) && (backToKw cpos (keywordEach [] X.env)).all (fun x => x.1.isSome)
      && decide ((e :: es).length + ([] : List Keyword).length + (if ([] : List Keyword).isEmpty then 0 else 1) < 30)) = true)
    (hline : (apos.endLine == cpos.line) = true) (hs : starEach (e :: es) X.env = (false, eval e X.env) :: starEach es X.env) (hplain : (backTo cpos (starEach es X.env)).any (·.1) = false) :
    PE X (.Call (.Attribute o name apos) (e :: es) [] cpos) (tBMW X.K T r to t) := by
  refine ⟨fun pins s sg H Q I h => ?_⟩
  refine wpAny_Call_method_late hbase hfew hline rfl (thn (ho.run pins s sg H _ I h) fun v s1 ⟨x, H1, I1, r1, ty, q1⟩ => ?_)
  obtain ⟨h1, h2⟩ := tyW_is I1 r1 ty
  refine ⟨T, id, pa, slot, hty, h1, h2, ?_⟩
  have hA := ha.run cpos pins s1 sg H1 _ I1 q1
  rw [hs] at hA ⊢
  refine Calls.callWith_builtin (by show (false || (backTo cpos (starEach es X.env)).any (·.1)) = false; rw [hplain] <;> rfl) (Calls.evalArgs_plain ?_)
  exact thn hA fun us s2 ⟨vs, H2, I2, r2, q2⟩ => hm pins s2 sg H2 x vs v us Q I2 r1 r2 q2
/-- a method of a built-in type -/
structure BmD (X : Cx) (G : Gm) (T : String) (m : Str) (g : D → List D → R D) : Prop where
  ex : ∃ (id : String) (rr : V → List V → Hp → VK → Prop), PySem.Slot T m id ∧ typeOf (.builtin id) = pure (.type "method_descriptor") ∧ MtR X id rr ∧
    ∀ (dl : Addr) (Z : List Addr) (O : List (Nat × Addr)) (r : LE) (sg : L2.St) (x : D) (vx : V) (ds : List D) (vs : List V) (H : Hp) (Q : VK) (E : Exc → Prop), At G dl Z O r sg H → RepP G dl H Z x vx → RepPL G dl H Z ds vs →
      Wp (g x ds) (fun d => ∀ v H', Grow dl H H' → GlOk G dl H' → Rep G dl (cut H' Z) d v → Q v H') E → rr vx vs H Q
  pa : PlainAttrs T
theorem de_bm {gg : D → List D → R D} (B : BmD X G T name gg) (hG : G.K = X.K) (ho : DP X G W o f) (ha : DAp X G W (e :: es) fs) (hbase : attributeBase o name X.env (eval o X.env) = eval o X.env := by rfl)
    (hfew : ((backTo cpos (starEach (e :: es) X.env)).all (fun x => !x.1) && (backToKw cpos (keywordEach [] X.env)).all (fun x => x.1.isSome)
      && decide ((e :: es).length + ([] : List Keyword).length + (if ([] : List Keyword).isEmpty then 0 else 1) < 30)) = true := by rfl)
    (hline : (apos.endLine == cpos.line) = true := by rfl) (hs : starEach (e :: es) X.env = (false, eval e X.env) :: starEach es X.env := by rfl) (hplain : (backTo cpos (starEach es X.env)).any (·.1) = false := by rfl) :
    DE X G W (.Call (.Attribute o name apos) (e :: es) [] cpos) (fun r => do let x ← f r; let x ← isT T x; let ds ← fs r; gg x ds) := by
  obtain ⟨⟨id, rr, slot, hty, hm, hc⟩, pa⟩ := B
  refine PE_imp (pe_bmw pa slot hty hm ho ha hbase hfew hline hs hplain) fun sg H Q ⟨dl, Z, O, r, A, q⟩ => ?_
  refine ⟨dl, Z, O, r, A, q.bind.thn fun x hx v H1 g1 k1 rp => ?_⟩
  obtain ⟨hx, ht⟩ := isT_wp (G := G) (X := X) (dl := dl) (H := H1) (Z := Z) hx.bind
  have A1 := A.grow g1 k1
  refine ⟨ht hG rp, dl, Z, O, r, A1, hx.bind.mono (fun ds hd vs H2 g2 k2 rl => ?_) fun e => epost g1⟩
  exact hc dl Z O r sg x v ds vs H2 Q _ (A1.grow g2 k2) (rp.grow A1 g2) rl (hd.thn fun d h w H' g' k' rp => h w H' ((g1.trans g2).trans g') k' rp)
def idxL (xs : List D) (y : D) : Option Nat := xs.findIdx? fun z => z.eqb y
def idxLs : D → List D → R D
  | .lst xs, [y] => if y.sh 62 && D.shs xs 62 then (match idxL xs y with
    | some j => .ok (.int (j : Nat))
    | none => .stuck) else .stuck
  | _, _ => .stuck
theorem idxL_some {xs : List D} {y : D} {j : Nat} (h : idxL xs y = some j) : ∃ z, xs[j]? = some z ∧ z.eqb y = true ∧ ∀ m z', m < j → xs[m]? = some z' → z'.eqb y = false := by
  unfold idxL at h
  rw [List.findIdx?_eq_some_iff_getElem] at h
  obtain ⟨hj, h1, h2⟩ := h
  refine ⟨xs[j], List.getElem?_eq_getElem hj, h1, fun m z' hm e => ?_⟩
  obtain ⟨hm', e2⟩ := List.getElem?_eq_some_iff.mp e
  have := h2 m hm
  rw [e2] at this
  simpa using this
theorem shs_get : ∀ {xs : List D} {n j : Nat} {z : D}, D.shs xs n = true → xs[j]? = some z → z.sh n = true
  | [], n, j, z, _, e => by simp at e
  | x :: xs, n, 0, z, h, e => by
    simp only [D.shs, Bool.and_eq_true] at h
    simp at e
    exact e ▸ h.1
  | x :: xs, n, j + 1, z, h, e => by
    simp only [D.shs, Bool.and_eq_true] at h
    exact shs_get h.2 (by simpa using e)
theorem bm_index_list (hG : G.K = X.K) (hu : X.A.units + 70 < cLine) : BmD X G "list" "index" idxLs := by
  refine ⟨⟨_, _, PySem.F.slot_list_index, PySem.F.type_list_index, mt_indexD (by omega), ?_⟩, PySem.F.plainAttrs_list⟩
  intro dl Z O r sg x vx ds vs H Q E A hx hds h
  unfold idxLs at h
  split at h
  · split at h
    · rename_i xs y hc
      rw [Bool.and_eq_true] at hc
      split at h
      · rename_i j hj
        obtain ⟨z, h1, h2, h3⟩ := idxL_some hj
        obtain ⟨v, rfl, hy⟩ := hds.one
        obtain ⟨a, us, rfl, hl, rl⟩ := hx.lst
        have hz := shs_get hc.2 h1
        have dd : Dp X.K H (.ref a) (PyData.list (D.toPs xs)) := hG ▸ (RepP.dp (d := .lst xs) (n := 63) (by simpa [D.sh] using hc.2) hx)
        refine ⟨a, v, y.toP, D.toPs xs, j, z.toP, rfl, rfl, dd, hG ▸ hy.dp hc.1, sh_shaped (d := .lst xs) (by simpa [D.sh] using shs_mono _ _ 63 (by decide) hc.2), sh_shaped (sh_mono _ _ _ (by decide) hc.1), by rw [toPs_map, List.getElem?_map, h1]; rfl, by rw [eqb_eqv z y 62 62 hz hc.1]; exact h2, fun m z' hm e => ?_, h _ H (.refl _ _) A.gl Rep.int_⟩
        rw [toPs_map, List.getElem?_map] at e
        cases e2 : xs[m]? with
        | none => rw [e2] at e; cases e
        | some w =>
          rw [e2] at e
          cases e
          rw [eqb_eqv w y 62 62 (shs_get hc.2 e2) hc.1]
          exact h3 m w hm e2
      · exact h.elim
    · exact h.elim
  · exact h.elim
end
end DL
set_option Elab.async false
set_option linter.all false
set_option maxRecDepth 100000
namespace DL
open PySem L2 PySem.Spec PyProof.Rows
section
variable {X : Cx} {G : Gm} {W : WX} {ex a b o e : Expr} {es : List Expr} {f g : LE → R D} {fs : LE → R (List D)} {pos p apos cpos : Pos} {dl : Addr} {S H : Hp} {Z : List Addr} {name x : Str}
theorem key_inj {a b : D} {x y : Key} (h1 : a.key = some x) (h2 : b.key = some y) : a.keq b = true ↔ x = y := by
  rw [keq_key h1 h2]; simp
theorem RepK.any : ∀ {kvs : List (D × D)} {kv : List (Key × V)} {k : D} {x : Key}, RepK G dl S kvs kv → k.key = some x → (kvs.any fun p => p.1.keq k) = (kv.any fun p => decide (p.1 = x))
  | [], kv, k, x, h, hk => by unfold RepK at h; subst h; rfl
  | (k', d) :: kvs, kv, k, x, h, hk => by
    unfold RepK at h
    obtain ⟨y, v, r, rfl, hk', rp, h2⟩ := h
    rw [List.any_cons, List.any_cons, keq_key hk' hk, RepK.any h2 hk]
theorem RepK.map : ∀ {kvs : List (D × D)} {kv : List (Key × V)} {k d : D} {x : Key} {v : V}, RepK G dl S kvs kv → k.key = some x → Rep G dl S d v →
    RepK G dl S (kvs.map fun p => if p.1.keq k then (p.1, d) else p) (kv.map fun p => if p.1 = x then (p.1, v) else p)
  | [], kv, k, d, x, v, h, hk, rv => by unfold RepK at h; subst h; unfold RepK; rfl
  | (k', d') :: kvs, kv, k, d, x, v, h, hk, rv => by
    unfold RepK at h
    obtain ⟨y, u, r, rfl, hk', rp, h2⟩ := h
    have q := RepK.map (v := v) (d := d) h2 hk rv
    rw [List.map_cons, List.map_cons]
    by_cases e : y = x
    · rw [if_pos ((key_inj hk' hk).mpr e), if_pos e]
      unfold RepK
      exact ⟨y, v, _, rfl, hk', rv, q⟩
    · rw [if_neg fun z => e ((key_inj hk' hk).mp z), if_neg e]
      unfold RepK
      exact ⟨y, u, _, rfl, hk', rp, q⟩
theorem RepK.app : ∀ {kvs : List (D × D)} {kv : List (Key × V)} {k d : D} {x : Key} {v : V}, RepK G dl S kvs kv → k.key = some x → Rep G dl S d v → RepK G dl S (kvs ++ [(k, d)]) (kv ++ [(x, v)])
  | [], kv, k, d, x, v, h, hk, rv => by
    unfold RepK at h
    subst h
    unfold RepK
    exact ⟨x, v, [], rfl, hk, rv, by unfold RepK; rfl⟩
  | (k', d') :: kvs, kv, k, d, x, v, h, hk, rv => by
    unfold RepK at h
    obtain ⟨y, u, r, rfl, hk', rp, h2⟩ := h
    rw [List.cons_append]
    unfold RepK
    exact ⟨y, u, r ++ [(x, v)], rfl, hk', rp, RepK.app h2 hk rv⟩
theorem RepK.put {kvs : List (D × D)} {kv : List (Key × V)} {k d : D} {x : Key} {v : V} (h : RepK G dl S kvs kv) (hk : k.key = some x) (rv : Rep G dl S d v) : RepK G dl S (putD kvs k d) (putK kv x v) := by
  unfold putD putK
  rw [RepK.any h hk]
  by_cases c : (kv.any fun p => decide (p.1 = x)) = true
  · rw [if_pos c, if_pos c]
    exact h.map hk rv
  · rw [if_neg c, if_neg c]
    exact h.app hk rv
theorem RepK.length : ∀ {kvs : List (D × D)} {kv : List (Key × V)}, RepK G dl S kvs kv → kv.length = kvs.length
  | [], kv, h => by unfold RepK at h; subst h; rfl
  | (k', d') :: kvs, kv, h => by
    unfold RepK at h
    obtain ⟨y, u, r, rfl, _, _, h2⟩ := h
    rw [List.length_cons, List.length_cons, RepK.length h2]
/-- the pairs of a display -/
inductive DPs (X : Cx) (G : Gm) (W : WX) (pos : Pos) : List (Option Expr) → List Expr → List ((LE → R D) × (LE → R D)) → Prop
  | nil : DPs X G W pos [] [] []
  | cons {k v : Expr} {ks : List (Option Expr)} {vs : List Expr} {f g : LE → R D} {fs : List ((LE → R D) × (LE → R D))} (hk : DE X G W k f) (hv : DE X G W v g) (h : DPs X G W pos ks vs fs) : DPs X G W pos (some k :: ks) (v :: vs) ((f, g) :: fs)
def prs : List ((LE → R D) × (LE → R D)) → LE → R (List (D × D))
  | [], _ => .ok []
  | (f, g) :: fs, r => do
    let k ← f r
    let v ← g r
    let t ← prs fs r
    if k.key1 then .ok ((k, v) :: t) else .stuck
def mergeD (kvs more : List (D × D)) : List (D × D) := more.foldl (fun acc p => putD acc p.1 p.2) kvs
theorem RepK_merge : ∀ (more : List (D × D)) {mv : List (Key × V)} {kvs : List (D × D)} {kv : List (Key × V)}, RepK G dl S more mv → RepK G dl S kvs kv → RepK G dl S (mergeD kvs more) (mergeK kv mv)
  | [], mv, kvs, kv, h, h2 => by unfold RepK at h; subst h; exact h2
  | (k, d) :: more, mv, kvs, kv, h, h2 => by
    unfold RepK at h
    obtain ⟨y, u, r, rfl, hk, rp, h3⟩ := h
    have z := RepK_merge more h3 (h2.put hk rp)
    exact z
theorem DPs.len {ks : List (Option Expr)} {vs : List Expr} {fs : List ((LE → R D) × (LE → R D))} (h : DPs X G W pos ks vs fs) : fs.length = ks.length := by
  induction h with
  | nil => rfl
  | cons _ _ _ ih => rw [List.length_cons, List.length_cons, ih]
end
end DL
set_option Elab.async false
set_option linter.all false
set_option maxRecDepth 100000
namespace DL
open PySem L2 PySem.Spec PyProof.Rows
/-- _law_roll -/
def rollD : List D → R D
  | [.dice, .int m] => if 0 < m ∧ m < 1000000000 then .roll m.toNat (fun i => .ok (.int (i : Nat))) else .stuck
  | _ => .stuck
theorem rollD_len : ∀ ds Q E, Wp (rollD ds) Q E → ds.length = 2 := fun ds Q E h => by
  unfold rollD at h
  split at h
  · rfl
  · exact h.elim
/-- what a roll is asked: any number below m may come -/
theorem roll_of {G : Gm} {dl : Addr} {Z : List Addr} {ds : List D} {vs : List V} {H : Hp} {Q : VK} {E : XK} (gl : GlOk G dl H) (dz : dl ∈ Z) (rl : RepL G dl (cut H Z) ds vs)
    (h : Wp (rollD ds) (fun d => ∀ v H', Grow dl H H' → GlOk G dl H' → Rep G dl (cut H' Z) d v → Q v H') (fun e => ∀ cls dx H', Grow dl H H' → GlOk G dl H' → XRep G dl (cut H' Z) e cls dx H' → E cls dx H')) :
    ∃ (m x y z : Int), vs = [.ref dl, .int m] ∧ 0 < m ∧ m < 1000000000 ∧ H dl = some (.lst [.int x, .int y, .int z]) ∧ ∀ (r : Int) (H' : Hp), 0 ≤ r → r < m → (∃ a b c : Int, H' = upd H dl (.lst [.int a, .int b, .int c])) → Q (.int r) H' := by
  unfold rollD at h
  split at h
  · rename_i m
    split at h
    · rename_i hm
      obtain ⟨x, y, z, hd⟩ := gl.dice
      unfold RepL at rl
      obtain ⟨v1, r1, rfl, h1, rl⟩ := rl
      unfold RepL at rl
      obtain ⟨v2, r2, rfl, h2, rl⟩ := rl
      unfold RepL at rl
      subst rl
      unfold Rep at h1 h2
      subst h1 h2
      refine ⟨m, x, y, z, rfl, hm.1, hm.2, hd, fun r H' h0 h1 ⟨a, b, c, e⟩ => ?_⟩
      subst e
      have e : r = ((r.toNat : Nat) : Int) := by omega
      rw [e]
      refine h r.toNat (by omega) _ _ (fun p o hp n nt => by rw [upd_ne n]; exact hp) ⟨⟨a, b, c, upd_same⟩, fun q hq => ?_⟩ Rep.int_
      obtain ⟨ps, h1, h2, h3⟩ := gl.tab q hq
      refine ⟨ps, ?_, h2, fun pos cv hc => ?_⟩
      · rw [upd_ne fun e => by rw [e, hd] at h1; cases h1]; exact h1
      · obtain ⟨c, e1, e2⟩ := h3 pos cv hc
        exact ⟨c, e1, by rw [upd_ne fun e => by rw [e, hd] at e2; cases e2]; exact e2⟩
    · exact h.elim
  · exact h.elim
/-- a new dice -/
def spDice : Sp := fun vs H Q _ => ∃ c : Int, vs = [.int c] ∧ ∀ p (x y z : Int), H p = none → Q (.ref p) (upd H p (.lst [.int x, .int y, .int z]))
/-- one round's dice -/
def spRounds (K : PySem.W.Frag) : Sp := fun vs H Q _ => ∃ (a : Addr) (ns : List Int), vs = [.ref a, .int 1] ∧ SqL K H a (ns.map V.int) ∧
  ∀ (H' : Hp) (l d : Addr) (x y z : Int), (∀ b o, H b = some o → H' b = some o) → l ≠ d → H' l = some (.lst [.ref d]) → H' d = some (.lst [.int x, .int y, .int z]) → Q (.ref l) H'
/-- what is asked of the law -/
def spLaw (K : PySem.W.Frag) (T : List (Addr × Str)) : Sp := fun vs H Q _ => ∃ (a : Addr) (ns : List Int), vs = [.ref a] ∧ SqL K H a (ns.map V.int) ∧ (∀ p ∈ T, H p.1 = some (.tbl #[])) ∧ ∀ H', Q (.bl true) H'
/-- the slots when the round begins -/
def r0 (m : Nat) : LE := .un :: .val .dice :: List.replicate (m - 2) .un
theorem law_core {G : Gm} {W : WX} {N : List Str} {F : LE → R Out} {m : Nat} {a : Addr} {ns : List Int} {H : Hp} {Q : VK} {E : L2.St → XK} {nx0 : L2.St → Hp → Prop} (hm : N.length = m) (h2 : 2 ≤ m) (hS : SqL G.K H a (ns.map V.int)) (hT : ∀ p ∈ G.tabs, H p.1 = some (.tbl #[])) (k : ∀ H', Q (.bl true) H')
    (hF : Wp (F (r0 m)) (fun o => ∃ r, o = .nx r ∨ o = .ct r) (fun _ => False)) :
    tSeq (tFor (iList G.K (tCallS (spRounds G.K) E (tCons (tVar 0) (tCons (tC (.int 1)) tNil)))) (gName 1) (tS G W F)) (tRet (tC (.bl true))) { nx := nx0, rt := Q } (L2.start N [.ref a]) H := by
  obtain ⟨b0, b1, N', rfl⟩ : ∃ b0 b1 N', N = b0 :: b1 :: N' := by
    match N, hm with
    | b0 :: b1 :: N', _ => exact ⟨b0, b1, N', rfl⟩
    | [_], hm => simp at hm; omega
    | [], hm => simp at hm; omega
  refine ⟨_, rfl, a, ns, rfl, hS, fun H1 l d x y z e1 nld hl hd => ⟨l, rfl, ⟨_, SqL.of hl⟩, ?_⟩⟩
  refine for_list (K := G.K) (a := l) (xs := [V.ref d]) (fun i sg H' => H' l = some (.lst [.ref d]) ∧ (i = 0 → sg = L2.start (b0 :: b1 :: N') [.ref a] ∧ H' = H1)) ⟨hl, fun _ => ⟨rfl, rfl⟩⟩ (fun i sg H' _ p => SqL.of p.1) (fun i v sg H' hi p => ?_) (fun sg H' p => k _)
  obtain ⟨p1, p2⟩ := p
  cases i with
  | succ i => simp at hi
  | zero =>
    cases hi
    obtain ⟨rfl, rfl⟩ := p2 rfl
    refine ⟨d, [d], [], r0 m, ?_, hF.mono (fun o ho => ?_) fun _ z => z⟩
    · refine ⟨⟨⟨x, y, z, hd⟩, fun p hp => LamX.TabS.nil (e1 _ _ (hT p hp))⟩, List.mem_singleton.mpr rfl, fun b hb => ?_, fun p hp => (by cases hp), fun p hp => (by cases hp), ?_, fun j c e => ?_⟩
      · rw [List.mem_singleton] at hb
        subst hb
        exact ⟨_, hd, fun ps z => by cases z⟩
      · simp [r0, L2.start] at hm ⊢
        omega
      · match j, e with
        | 0, e => cases e; trivial
        | 1, e =>
          cases e
          exact ⟨.ref d, rfl, by unfold Rep; rfl⟩
        | j + 2, e =>
          have e' : (List.replicate (m - 2) Cell.un)[j]? = some c := e
          rw [List.getElem?_replicate] at e'
          split at e'
          · cases e'; trivial
          · cases e'
    · have keep : ∀ {Z' O' H2}, Stp d [d] [] H' Z' O' H2 → H2 l = some (.lst [.ref d]) := fun s => s.fr l _ p1 nld (fun p hp => by cases hp) fun ps z => by cases z
      obtain ⟨r, rfl | rfl⟩ := ho
      · exact fun Z' O' sg' H2 s A => ⟨keep s, fun h => by cases h⟩
      · exact fun Z' O' sg' H2 s A => ⟨keep s, fun h => by cases h⟩
end DL
set_option Elab.async false
set_option linter.all false
set_option maxRecDepth 100000
namespace DL
open PySem L2 LamX PySem.Spec PyProof.Rows
section
variable {P : Program} {w : World} {K : PySem.W.Frag} {mg : Str → Option Value} {base : Heap} {G : Gm} {x qual : Str} {st : Stmt} {f : Addr} {fd : FuncData} {N ps : List Str} {k n m c nf : Nat} {F : LE → R Out}
structure FunE (K : PySem.W.Frag) (x qual : Str) (st : Stmt) (f : Addr) (ps : List Str) : Prop where
  ex : ∃ fd : FuncData, L2.Fun K x qual st f fd ∧ L2.Binds K fd ps []
/-- its code object stands at c -/
structure FunC (K : PySem.W.Frag) (x qual : Str) (st : Stmt) (f c : Addr) (ps : List Str) : Prop where
  ex : ∃ (oc : Value) (od : Option Addr) (kV doc pm : Value) (an : Option Addr) (ct : Value) (osl : Array (Option Value)),
    K.lookup f = some ⟨oc, od, .func (PySem.W.fnOf x qual (defArgs st) (defBody st) (defScope st) .none kV doc pm an (.ref c) ct), osl⟩ ∧
    ∀ us : List Value, us.length = ps.length → bindArgs (PySem.W.fnOf x qual (defArgs st) (defBody st) (defScope st) .none kV doc pm an (.ref c) ct) ⟨us, []⟩ = pure (ps.zip us)
  cd : PySem.W.codeIn K (.ref c) qual = true
  kp : PySem.W.keepIn K (.ref f) = true
theorem funE_of {oc : Value} {od an : Option Addr} {osl : Array (Option Value)} {kV doc pm cdv ct : Value} (l : K.lookup f = some ⟨oc, od, .func (PySem.W.fnOf x qual (defArgs st) (defBody st) (defScope st) .none kV doc pm an cdv ct), osl⟩) (c : PySem.W.codeIn K cdv qual = true) (kp : PySem.W.keepIn K (.ref f) = true)
    (h : ∀ us : List Value, us.length = ps.length → bindArgs (PySem.W.fnOf x qual (defArgs st) (defBody st) (defScope st) .none kV doc pm an cdv ct) ⟨us, []⟩ = pure (ps.zip us)) : FunE K x qual st f ps := ⟨_, L2.fun_mk l c kp, .all h⟩
theorem funC_of {c : Addr} {oc : Value} {od an : Option Addr} {osl : Array (Option Value)} {kV doc pm ct : Value} (l : K.lookup f = some ⟨oc, od, .func (PySem.W.fnOf x qual (defArgs st) (defBody st) (defScope st) .none kV doc pm an (.ref c) ct), osl⟩) (cd : PySem.W.codeIn K (.ref c) qual = true) (kp : PySem.W.keepIn K (.ref f) = true)
    (h : ∀ us : List Value, us.length = ps.length → bindArgs (PySem.W.fnOf x qual (defArgs st) (defBody st) (defScope st) .none kV doc pm an (.ref c) ct) ⟨us, []⟩ = pure (ps.zip us)) : FunC K x qual st f c ps := ⟨⟨oc, od, kV, doc, pm, an, ct, osl, l, h⟩, cd, kp⟩
theorem fn_read (S : FnScope N ps (defScope st)) (hn : ps.length = n) (hm : N.length = m) {vs : List V} {H : Hp} {Q : VK} {E : XK} (h : spD G n (runF n m F) vs H Q E) :
    tS G (WD E) F { nx := fun _ H' => Q .non H', rt := Q } (L2.start N vs) H := by
  obtain ⟨hl, dl, Z, ds, gl, dz, live, rl, hw⟩ := h
  unfold runF at hw
  split at hw
  case isFalse => exact hw.elim
  rename_i hdl
  have hpl : ps.length ≤ N.length := by have := congrArg List.length S.pre; rw [List.length_take] at this; omega
  have A0 : At G dl Z [] (ds.map Cell.val ++ List.replicate (m - n) Cell.un) (L2.start N vs) H := by
    refine ⟨gl, dz, live, fun p hp => (by cases hp), fun p hp => (by cases hp), ?_, start_get rl hl hm⟩
    unfold L2.start
    rw [List.length_append, List.length_map, List.length_replicate, List.length_append, List.length_map, List.length_replicate]
    omega
  have gr : ∀ {Z' O' H'}, Stp dl Z [] H Z' O' H' → Grow dl H H' := fun s a o e n nt => s.fr a o e n (fun p hp => (by cases hp)) nt
  have gz : ∀ {Z' O' H'}, Stp dl Z [] H Z' O' H' → GrowS (cut H' Z') (cut H' Z) := fun s => cut_sub fun a ha => s.zk a ha fun p hp => (by cases hp)
  refine ⟨dl, Z, [], _, A0, (calm_wp hw.bind).thn fun o ho => ?_⟩
  cases o with
  | nx r => exact fun Z' O' sg' H' s A' => ho _ _ (gr s) A'.gl Rep.non_
  | rt d => exact fun Z' O' v H' s g rp => ho _ _ (gr s) g (rp.mono (gz s))
  | ex e r => exact fun Z' O' sg' H' cls dx s A' xr => ho cls dx H' (gr s) A'.gl (xr.mono (gz s))
  | bk r => exact ho.elim
  | ct r => exact ho.elim
theorem fnD_E (Fn : FunE K x qual st f ps) (S : FnScope N ps (defScope st)) (hx : mg x = some (.ref f)) (hn : ps.length = n) (hm : N.length = m)
    (hb : ∀ cdv A outer s H E, Room k (A.deeper (envOfC qual (defScope st) s.heap.objs.size f cdv)) → DSs (cxD P w K mg base N qual st f cdv A outer s H E) G (WD E) (defBody st) F) :
    FnD P w K mg base G (k + 1) x f n (runF n m F) := by
  obtain ⟨fd, Fn, bd⟩ := Fn
  exact fnD_of Fn S bd hx hn hm hb
theorem fnD_C {c : Addr} (Fn : FunC K x qual st f c ps) (S : FnScope N ps (defScope st)) (hx : mg x = some (.ref f)) (hn : ps.length = n) (hm : N.length = m)
    (hb : ∀ A outer s H E, Room k (A.deeper (envOfC qual (defScope st) s.heap.objs.size f (.ref c))) → DSs (cxD P w K mg base N qual st f (.ref c) A outer s H E) G (WD E) (defBody st) F) :
    FnD P w K mg base G (k + 1) x f n (runF n m F) := by
  obtain ⟨⟨oc, od, kV, doc, pm, an, ct, osl, lk, bd⟩, cd, kp⟩ := Fn
  exact ⟨⟨_, ps, hn, fn_of lk cd S (fun vs H Q E h => by rw [hn]; exact h.1) fun A outer s H vs Q E hr h => ⟨_, hb A outer s H E hr, fn_read S hn hm h⟩, .all bd⟩, runF_len, kp, hx⟩
def exmB (K : PySem.W.Frag) (xc : Nat → Addr) (ks : List Nat) : Bool := ks.all fun i => ks.all fun j => PySem.W.exmOne K (.ref (xc i)) (.ref (xc j)) == some (i == j)
theorem exm_by {ks : List Nat} (h : exmB K G.xcls ks = true) : ExmOk K G ks := fun i hi j hj => by
  unfold exmB at h
  rw [List.all_eq_true] at h
  have h2 := h i hi
  rw [List.all_eq_true] at h2
  exact beq_iff_eq.mp (h2 j hj)
end
end DL
set_option Elab.async false
set_option linter.all false
set_option maxRecDepth 100000
namespace DL
open PySem L2 PySem.Spec PyProof.Rows
def opE (g : D → D → R D) (f k : LE → R D) : LE → R D := fun r => do let x ← f r; let y ← k r; g x y
def cmpT (g : D → D → R D) (f k : LE → R D) : LE → R Bool := fun r => (do let x ← f r; let y ← k r; g x y) >>= asB
def valT (f : LE → R D) : LE → R Bool := fun r => f r >>= asB
def chainT (f1 f2 f3 : LE → R D) (g g' : D → D → R D) : LE → R Bool := fun r => chainE f1 f2 f3 g g' r >>= asB
def callE (g : List D → R D) (fs : LE → R (List D)) : LE → R D := fun r => fs r >>= g
def methE (c : Nat) (g : List D → R D) (f : LE → R D) (fs : LE → R (List D)) : LE → R D := fun r => do let x ← f r; let x ← isC c x; let ds ← fs r; g (x :: ds)
def meth0E (c : Nat) (g : List D → R D) (f : LE → R D) : LE → R D := fun r => do let x ← f r; let x ← isC c x; g [x]
def fldE (fx : Nat → Option Nat) (f : LE → R D) : LE → R D := fun r => f r >>= fldD fx
def subE (f k : LE → R D) : LE → R D := fun r => do let x ← f r; let y ← k r; subI x y
def negE (f : LE → R D) : LE → R D := fun r => do let x ← f r; negD x
def bmE (T : String) (gg : D → List D → R D) (f : LE → R D) (fs : LE → R (List D)) : LE → R D := fun r => do let x ← f r; let x ← isT T x; let ds ← fs r; gg x ds
def kbmE (d : D) (gg : D → List D → R D) (fs : LE → R (List D)) : LE → R D := fun r => do let ds ← fs r; gg d ds
def toldE (l : List (Nat × List Nat)) (f : LE → R D) : LE → R D := fun r => toldD l (f r)
def lE (f : LE → R (List D)) : LE → R D := fun r => (f r) >>= fun ds => .ok (.lst ds)
def itL (f : LE → R D) : LE → R (List D) := fun r => f r >>= lstD
def itT (f : LE → R D) : LE → R (List D) := fun r => f r >>= tupD
def rng1E (fs : LE → R (List D)) : LE → R (List D) := fun r => fs r >>= rng1
def rng2E (fs : LE → R (List D)) : LE → R (List D) := fun r => fs r >>= rng2
def frzS (i : Nat) (F : LE → R Out) : LE → R Out := fun r => F (frz i r)
def par3S (i j l : Nat) (f g h : LE → R D) : LE → R Out := fun r => (f r).onS r fun a => (g r).onS r fun b => (h r).onS r fun c => .ok (.nx (((r.set i (.val a)).set j (.val b)).set l (.val c)))
theorem huD {k : Nat} {A : Around} (hr : Room k A) : A.units + 70 < cLine := by have := hr.un; omega
theorem huD64 {k : Nat} {A : Around} (hr : Room k A) : A.units + 64 < cLine := by have := hr.un; omega
theorem takes0D {X : Cx} : Takes X W0 := L2.takes0
end DL
set_option Elab.async false
set_option linter.all false
set_option maxRecDepth 100000
namespace DL
open PySem L2 PySem.Spec PyProof.Rows
mutual
def isD (K : PySem.W.Frag) : D → Value → Bool
  | .non, u => match u with
    | .none => true
    | _ => false
  | .bl b, u => match u with
    | .bool c => b == c
    | _ => false
  | .int i, u => match u with
    | .int j _ => i == j
    | _ => false
  | .str s, u => match u with
    | .str z _ => z == ⟨s.toArray⟩
    | _ => false
  | .tup ds, u => match u with
    | .ref a => match K.lookup a with
      | some ⟨.type T, _, .seq its _, _⟩ => T == "tuple" && decide (its.size ≤ 16777216) && isDs K ds its.toList
      | _ => false
    | _ => false
  | _, _ => false
def isDs (K : PySem.W.Frag) : List D → List Value → Bool
  | [], us => match us with
    | [] => true
    | _ => false
  | d :: ds, us => match us with
    | u :: us => isD K d u && isDs K ds us
    | [] => false
end
section
variable {G : Gm} {K : PySem.W.Frag}
mutual
theorem isD_rep (hG : G.K = K) : ∀ (d : D) (u : Value), isD K d u = true → ∃ v, RelV v u ∧ ∀ dl S, Rep G dl S d v
  | .non, u, h => by
    unfold isD at h
    split at h
    · exact ⟨.non, rfl, fun _ _ => Rep.non_⟩
    · cases h
  | .bl b, u, h => by
    unfold isD at h
    split at h
    · rw [beq_iff_eq] at h; subst h; exact ⟨.bl _, rfl, fun _ _ => Rep.bl_⟩
    · cases h
  | .int i, u, h => by
    unfold isD at h
    split at h
    · rw [beq_iff_eq] at h; subst h; exact ⟨.int _, ⟨_, rfl⟩, fun _ _ => Rep.int_⟩
    · cases h
  | .str s, u, h => by
    unfold isD at h
    split at h
    · rw [beq_iff_eq] at h; subst h; exact ⟨.str _, ⟨_, rfl⟩, fun _ _ => Rep.str_⟩
    · cases h
  | .tup ds, u, h => by
    unfold isD at h
    split at h
    · rename_i a
      split at h
      · rename_i T dd its n sl hk
        rw [Bool.and_eq_true, Bool.and_eq_true, beq_iff_eq, decide_eq_true_eq] at h
        obtain ⟨⟨rfl, hz⟩, h⟩ := h
        obtain ⟨vs, r, q⟩ := isDs_rep hG ds _ h
        refine ⟨.ref a, rfl, fun dl S => ?_⟩
        unfold Rep
        exact ⟨a, vs, rfl, .inr ⟨_, its, n, hG ▸ hk, rfl, rfl, by rw [sizeLine_eq]; exact hz, r⟩, q dl S⟩
      · cases h
    · cases h
  | .lst _, _, h => by unfold isD at h; cases h
  | .dic _, _, h => by unfold isD at h; cases h
  | .cdic _, _, h => by unfold isD at h; cases h
  | .ins _ _, _, h => by unfold isD at h; cases h
  | .dice, _, h => by unfold isD at h; cases h
  | .fn _, _, h => by unfold isD at h; cases h
theorem isDs_rep (hG : G.K = K) : ∀ (ds : List D) (us : List Value), isDs K ds us = true → ∃ vs, Vals vs us ∧ ∀ dl S, RepL G dl S ds vs
  | [], us, h => by
    unfold isDs at h
    split at h
    · exact ⟨[], .nil, fun _ _ => RepL.nil⟩
    · cases h
  | d :: ds, us, h => by
    unfold isDs at h
    split at h
    · rename_i u us
      rw [Bool.and_eq_true] at h
      obtain ⟨v, r1, q1⟩ := isD_rep hG d u h.1
      obtain ⟨vs, r2, q2⟩ := isDs_rep hG ds us h.2
      exact ⟨v :: vs, .cons r1 r2, fun dl S => RepL.cons (q1 dl S) (q2 dl S)⟩
    · cases h
end
/-- a name of the top, written data -/
structure GlD (G : Gm) (mg : Str → Option Value) (x : Str) (d : D) : Prop where
  ex : ∃ (u : Value) (v : V), mg x = some u ∧ RelV v u ∧ ∀ dl S, Rep G dl S d v
theorem glD_of {mg : Str → Option Value} {x : Str} {d : D} {u : Value} (hG : G.K = K) (hm : mg x = some u) (h : isD K d u = true) : GlD G mg x d := by
  obtain ⟨v, r, q⟩ := isD_rep hG d u h
  exact ⟨u, v, hm, r, q⟩
end
section
variable {X : Cx} {G : Gm} {W : WX}
theorem de_gl {x : Str} {pos : Pos} {d : D} (h : GlD G X.mg x d) (hg : Gl X x := by rfl) (hd : (x == ("__debug__" : Str)) = false := by decide) : DE X G W (.Name x pos) (cst d) := by
  obtain ⟨u, v, hm, rv, rp⟩ := h
  exact de_glob hm rv rp hg hd
end
end DL
set_option Elab.async false
set_option linter.all false
set_option maxRecDepth 100000
namespace DL
theorem var_eq (i : Nat) (r : LE) : var i r = match r[i]? with
  | some (.val d) => .ok d
  | _ => .stuck := rfl
@[simp] theorem cst_eq (d : D) (r : LE) : cst d r = .ok d := rfl
@[simp] theorem opE_eq (g : D → D → R D) (f k : LE → R D) (r : LE) : opE g f k r = f r >>= fun x => k r >>= fun y => g x y := rfl
@[simp] theorem cmpT_eq (g : D → D → R D) (f k : LE → R D) (r : LE) : cmpT g f k r = (f r >>= fun x => k r >>= fun y => g x y) >>= asB := rfl
@[simp] theorem valT_eq (f : LE → R D) (r : LE) : valT f r = f r >>= asB := rfl
@[simp] theorem callE_eq (g : List D → R D) (fs : LE → R (List D)) (r : LE) : callE g fs r = fs r >>= g := rfl
@[simp] theorem methE_eq (c : Nat) (g : List D → R D) (f : LE → R D) (fs : LE → R (List D)) (r : LE) : methE c g f fs r = f r >>= fun x => isC c x >>= fun x => fs r >>= fun ds => g (x :: ds) := rfl
@[simp] theorem meth0E_eq (c : Nat) (g : List D → R D) (f : LE → R D) (r : LE) : meth0E c g f r = f r >>= fun x => isC c x >>= fun x => g [x] := rfl
@[simp] theorem fldE_eq (fx : Nat → Option Nat) (f : LE → R D) (r : LE) : fldE fx f r = f r >>= fldD fx := rfl
@[simp] theorem subE_eq (f k : LE → R D) (r : LE) : subE f k r = f r >>= fun x => k r >>= fun y => subI x y := rfl
@[simp] theorem negE_eq (f : LE → R D) (r : LE) : negE f r = f r >>= negD := rfl
@[simp] theorem negD_int (i : Int) : negD (.int i) = .ok (.int (-i)) := rfl
@[simp] theorem bmE_eq (T : String) (gg : D → List D → R D) (f : LE → R D) (fs : LE → R (List D)) (r : LE) : bmE T gg f fs r = f r >>= fun x => isT T x >>= fun x => fs r >>= fun ds => gg x ds := rfl
@[simp] theorem kbmE_eq (d : D) (gg : D → List D → R D) (fs : LE → R (List D)) (r : LE) : kbmE d gg fs r = fs r >>= fun ds => gg d ds := rfl
@[simp] theorem toldE_eq (l : List (Nat × List Nat)) (f : LE → R D) (r : LE) : toldE l f r = toldD l (f r) := rfl
@[simp] theorem lE_eq (f : LE → R (List D)) (r : LE) : lE f r = f r >>= fun ds => .ok (.lst ds) := rfl
@[simp] theorem itL_eq (f : LE → R D) (r : LE) : itL f r = f r >>= lstD := rfl
@[simp] theorem itT_eq (f : LE → R D) (r : LE) : itT f r = f r >>= tupD := rfl
@[simp] theorem lstD_eq (ds : List D) : lstD (.lst ds) = .ok ds := rfl
@[simp] theorem tupD_eq (ds : List D) : tupD (.tup ds) = .ok ds := rfl
@[simp] theorem rng1E_eq (fs : LE → R (List D)) (r : LE) : rng1E fs r = fs r >>= rng1 := rfl
@[simp] theorem frzS_eq (i : Nat) (F : LE → R Out) (r : LE) : frzS i F r = F (frz i r) := rfl
@[simp] theorem anil_eq (r : LE) : anil r = .ok [] := rfl
@[simp] theorem acons_eq (f : LE → R D) (fs : LE → R (List D)) (r : LE) : acons f fs r = f r >>= fun x => fs r >>= fun xs => .ok (x :: xs) := rfl
@[simp] theorem tupE_eq (fs : LE → R (List D)) (r : LE) : tupE fs r = fs r >>= fun ds => if ds.length ≤ 16777216 then .ok (.tup ds) else .stuck := rfl
@[simp] theorem lstE_eq (fs : LE → R (List D)) (r : LE) : lstE fs r = fs r >>= fun ds => if ds.length ≤ 16777216 then .ok ds else .stuck := rfl
@[simp] theorem iteE_eq (c : LE → R Bool) (f g : LE → R D) (r : LE) : iteE c f g r = c r >>= fun b => if b = true then f r else g r := rfl
@[simp] theorem andT_eq (f g : LE → R Bool) (r : LE) : andT f g r = f r >>= fun b => if b = true then g r else .ok false := rfl
@[simp] theorem orT_eq (f g : LE → R Bool) (r : LE) : orT f g r = f r >>= fun b => if b = true then .ok true else g r := rfl
@[simp] theorem notT_eq (f : LE → R Bool) (r : LE) : notT f r = f r >>= fun b => .ok (!b) := rfl
@[simp] theorem asB_bl (b : Bool) : asB (.bl b) = .ok b := rfl
def andK (x : D) (k : R D) : R D := match x with
  | .bl true => k
  | .bl false => .ok (.bl false)
  | _ => .stuck
def orK (x : D) (k : R D) : R D := match x with
  | .bl true => .ok (.bl true)
  | .bl false => k
  | _ => .stuck
@[simp] theorem andK_bl (b : Bool) (k : R D) : andK (.bl b) k = if b = true then k else .ok (.bl false) := by cases b <;> rfl
@[simp] theorem orK_bl (b : Bool) (k : R D) : orK (.bl b) k = if b = true then .ok (.bl true) else k := by cases b <;> rfl
@[simp] theorem andV_eq (f g : LE → R D) (r : LE) : andV f g r = f r >>= fun x => andK x (g r) := by
  unfold andV
  congr 1
@[simp] theorem orV_eq (f g : LE → R D) (r : LE) : orV f g r = f r >>= fun x => orK x (g r) := by
  unfold orV
  congr 1
@[simp] theorem notV_bl (f : LE → R D) (r : LE) (b : Bool) (h : f r = .ok (.bl b)) : notV f r = .ok (.bl (!b)) := by
  unfold notV
  rw [h]
  rfl
@[simp] theorem seqS_eq (F K : LE → R Out) (r : LE) : seqS F K r = F r >>= fun o => match o with
  | .nx r' => K r'
  | o => .ok o := rfl
@[simp] theorem skipS_eq (r : LE) : skipS r = .ok (.nx r) := rfl
@[simp] theorem retS_eq (f : LE → R D) (r : LE) : retS f r = (f r).onS r fun d => .ok (.rt d) := rfl
@[simp] theorem ifS_eq (c : LE → R Bool) (F K : LE → R Out) (r : LE) : ifS c F K r = (c r).onS r fun b => if b = true then F r else K r := by
  unfold ifS
  congr 1
@[simp] theorem valK_eq (f : LE → R D) (r : LE) : valK f r = f r >>= fun d => .ok (.val d) := rfl
@[simp] theorem ownK_eq (f : LE → R (List D)) (r : LE) : ownK f r = f r >>= fun d => .ok (.own (.lst d)) := rfl
@[simp] theorem okK_val (d : D) : okK (.val d) = .ok (.val d) := rfl
@[simp] theorem okK_own (d : D) : okK (.own d) = .ok (.own d) := rfl
@[simp] theorem setK_eq (i : Nat) (f : LE → R Cell) (r : LE) : setK i f r = (f r >>= okK).onS r fun c => .ok (.nx (r.set i c)) := rfl
@[simp] theorem parK_eq (i j : Nat) (f g : LE → R Cell) (r : LE) : parK i j f g r = (f r >>= okK).onS r fun c => (g r >>= okK).onS r fun c' => .ok (.nx ((r.set i c).set j c')) := rfl
@[simp] theorem par3S_eq (i j l : Nat) (f g h : LE → R D) (r : LE) : par3S i j l f g h r = (f r).onS r fun a => (g r).onS r fun b => (h r).onS r fun c => .ok (.nx (((r.set i (.val a)).set j (.val b)).set l (.val c))) := rfl
@[simp] theorem errS_eq (e : Exc) (r : LE) : errS e r = .ok (.ex e r) := rfl
@[simp] theorem forS_eq (fi : LE → R (List D)) (gd : D → LE → Option LE) (body : LE → R Out) (r : LE) : forS fi gd body r = (fi r).onS r fun ds => loopS gd body ds r := rfl
@[simp] theorem ite_onS {α : Type} (c : Prop) [Decidable c] (a b : R α) (r : LE) (k : α → R Out) : (if c then a else b).onS r k = if c then a.onS r k else b.onS r k := by split <;> rfl
@[simp] theorem ite_bind {α β : Type} (c : Prop) [Decidable c] (a b : R α) (k : α → R β) : (if c then a else b) >>= k = if c then a >>= k else b >>= k := by split <;> rfl
@[simp] theorem ite_calm {α : Type} (c : Prop) [Decidable c] (a b : R α) : (if c then a else b).calm = if c then a.calm else b.calm := by split <;> rfl
@[simp] theorem calm_err {α : Type} (e : Exc) : (R.err e : R α).calm = .stuck := rfl
@[simp] theorem calm_stuck {α : Type} : (R.stuck : R α).calm = .stuck := rfl
/-- what a body's end is to the caller -/
def fin : Out → R D
  | .nx _ => .ok .non
  | .rt d => .ok d
  | .ex e _ => .err e
  | _ => .stuck
@[simp] theorem fin_nx (r : LE) : fin (.nx r) = .ok .non := rfl
@[simp] theorem fin_rt (d : D) : fin (.rt d) = .ok d := rfl
@[simp] theorem fin_ex (e : Exc) (r : LE) : fin (.ex e r) = .err e := rfl
@[simp] theorem isC_eq (c : Nat) (fs : List D) : isC c (.ins c fs) = .ok (.ins c fs) := by simp [isC]
@[simp] theorem addD_int (i j : Int) : addD (.int i) (.int j) = .ok (.int (i + j)) := rfl
@[simp] theorem subD_int (i j : Int) : subD (.int i) (.int j) = .ok (.int (i - j)) := rfl
@[simp] theorem ltD_int (i j : Int) : ltD (.int i) (.int j) = .ok (.bl (decide (i < j))) := rfl
@[simp] theorem leD_int (i j : Int) : leD (.int i) (.int j) = .ok (.bl (decide (i ≤ j))) := rfl
@[simp] theorem gtD_int (i j : Int) : gtD (.int i) (.int j) = .ok (.bl (decide (j < i))) := rfl
@[simp] theorem geD_int (i j : Int) : geD (.int i) (.int j) = .ok (.bl (decide (j ≤ i))) := rfl
@[simp] theorem eqD_int (i j : Int) : eqD (.int i) (.int j) = .ok (.bl (i == j)) := by simp [eqD, D.sc, D.eqb]
@[simp] theorem neD_int (i j : Int) : neD (.int i) (.int j) = .ok (.bl (!(i == j))) := by simp [neD, D.sc, D.eqb]
@[simp] theorem eqD_bl (i j : Bool) : eqD (.bl i) (.bl j) = .ok (.bl (i == j)) := by simp [eqD, D.sc, D.eqb]
@[simp] theorem neD_bl (i j : Bool) : neD (.bl i) (.bl j) = .ok (.bl (!(i == j))) := by simp [neD, D.sc, D.eqb]
@[simp] theorem eqD_str (i j : List Nat) : eqD (.str i) (.str j) = .ok (.bl (i == j)) := by simp [eqD, D.sc, D.eqb]
@[simp] theorem neD_str (i j : List Nat) : neD (.str i) (.str j) = .ok (.bl (!(i == j))) := by simp [neD, D.sc, D.eqb]
@[simp] theorem eqD_tup2 (a b c d : Int) : eqD (.tup [.int a, .int b]) (.tup [.int c, .int d]) = .ok (.bl (a == c && b == d)) := by simp [eqD, D.sc, D.sh, D.shs, D.eqb, D.eqbs]
@[simp] theorem neD_tup2 (a b c d : Int) : neD (.tup [.int a, .int b]) (.tup [.int c, .int d]) = .ok (.bl (!(a == c && b == d))) := by simp [neD, D.sc, D.sh, D.shs, D.eqb, D.eqbs]
@[simp] theorem compF_eq (fi : LE → R (List D)) (gd : D → LE → Option LE) (tt : LE → R Bool) (te : LE → R D) (vs : List Nat) (r : LE) : compF fi gd tt te vs r = fi r >>= fun ds => if ds.length ≤ 16777216 then loopC gd tt te (wipeL r vs) ds else .stuck := rfl
@[simp] theorem yesT_eq (r : LE) : yesT r = .ok true := rfl
@[simp] theorem loopC_nil (gd : D → LE → Option LE) (tt : LE → R Bool) (te : LE → R D) (r : LE) : loopC gd tt te r [] = .ok [] := rfl
@[simp] theorem gN_eq (i : Nat) (d : D) (r : LE) : gN i d r = some (r.set i (.val d)) := rfl
@[simp] theorem subl2_0 (a b : D) : subI (.lst [a, b]) (.int 0) = .ok a := rfl
@[simp] theorem subl2_1 (a b : D) : subI (.lst [a, b]) (.int 1) = .ok b := rfl
@[simp] theorem sub2_0 (a b : D) : subI (.tup [a, b]) (.int 0) = .ok a := rfl
@[simp] theorem sub2_1 (a b : D) : subI (.tup [a, b]) (.int 1) = .ok b := rfl
@[simp] theorem Wp_ok {α : Type} (a : α) (Q : α → Prop) (E : Exc → Prop) : Wp (.ok a) Q E = Q a := rfl
@[simp] theorem Wp_err {α : Type} (e : Exc) (Q : α → Prop) (E : Exc → Prop) : Wp (.err e : R α) Q E = E e := rfl
@[simp] theorem Wp_stuck {α : Type} (Q : α → Prop) (E : Exc → Prop) : Wp (.stuck : R α) Q E = False := rfl
@[simp] theorem Wp_roll {α : Type} (m : Nat) (k : Nat → R α) (Q : α → Prop) (E : Exc → Prop) : Wp (.roll m k) Q E = ∀ i, i < m → Wp (k i) Q E := rfl
end DL
set_option Elab.async false
set_option linter.all false
set_option maxRecDepth 100000
namespace DL
open PySem L2 PySem.Spec PyProof.Rows
def whileS : Nat → (LE → R Bool) → (LE → R Out) → LE → R Out
  | 0, _, _, _ => .stuck
  | n + 1, c, F, r => (c r).onS r fun b => if b then (do
      match ← F r with
      | .nx r2 => whileS n c F r2
      | .ct r2 => whileS n c F r2
      | .bk r2 => .ok (.nx r2)
      | .rt d => .ok (.rt d)
      | .ex e r2 => .ok (.ex e r2)) else .ok (.nx r)
section
variable {X : Cx} {G : Gm} {W : WX} {c : Expr} {h : LE → R Bool} {F : LE → R Out} {body : List Stmt} {pos : Pos}
theorem ds_while (n : Nat) (hp : PassesOwn (model X.prog X.w) X.A X.env X.xe) (hc : DT X G W c h) (hb : DSs X G W body F) : DS X G W (.While c body [] pos) (whileS n h F) := PS_imp (ps_while hp hc hb) fun De sg H ⟨dl, Z, O, r, A, q⟩ => by
  refine ⟨fun m sg' H' => ∃ Z' O' r', At G dl Z' O' r' sg' H' ∧ Stp dl Z O H Z' O' H' ∧ Wp (whileS m h F r') (SPost G W De dl Z O H) (fun _ => False), ⟨n, Z, O, r, A, Stp.refl, q⟩, ?_⟩
  rintro m sg' H' ⟨Z', O', r', A', s', hw⟩
  cases m with
  | zero => exact hw.elim
  | succ m =>
    unfold whileS at hw
    refine ⟨dl, Z', O', r', A', (onS_wp hw).mono (fun b hb H1 g1 k1 => ?_) fun e he => spost_ex A' (SPost.trans A s' he)⟩
    have A1 := A'.grow g1 k1
    have s1 : Stp dl Z O H Z' O' H1 := Stp.trans A s' (Stp.of_grow g1 k1)
    cases b with
    | false =>
      show if false = true then _ else De.nx sg' H1
      rw [if_neg (by decide)]
      exact hb Z' O' sg' H1 s1 A1
    | true =>
      show if true = true then _ else De.nx sg' H1
      rw [if_pos rfl]
      refine ⟨fun sg2 H2 => ∃ Z' O' r', At G dl Z' O' r' sg2 H2 ∧ Stp dl Z O H Z' O' H2 ∧ Wp (whileS m h F r') (SPost G W De dl Z O H) (fun _ => False), fun sg2 H2 h2 => ⟨m, Nat.lt_succ_self m, h2⟩, ?_⟩
      rw [if_pos rfl] at hb
      refine ⟨dl, Z', O', r', A1, hb.bind.thn fun o ho => ?_⟩
      cases o with
      | nx r3 => exact fun Z4 O4 sg4 H4 s4 A4 => ⟨Z4, O4, r3, A4, Stp.trans A s1 s4, ho⟩
      | ct r3 => exact fun Z4 O4 sg4 H4 s4 A4 => ⟨Z4, O4, r3, A4, Stp.trans A s1 s4, ho⟩
      | bk r3 => exact fun Z4 O4 sg4 H4 s4 A4 => ho Z4 O4 sg4 H4 (Stp.trans A s1 s4) A4
      | rt d => exact SPost.trans A s1 ho
      | ex e r3 => exact SPost.trans A s1 ho
end
end DL
set_option Elab.async false
set_option linter.all false
set_option maxRecDepth 100000
namespace DL
open PySem L2 PySem.Spec PyProof.Rows
end DL
set_option Elab.async false
set_option linter.all false
set_option maxRecDepth 100000
namespace DL
open PySem L2 PySem.Spec PyProof.Rows
def ints? : List D → Option (List Int)
  | [] => some []
  | .int s :: r => (ints? r).map (s :: ·)
  | _ => none
theorem ints_eq : ∀ {xs : List D} {ss : List Int}, ints? xs = some ss → xs = ss.map D.int
  | [], ss, h => by cases h; rfl
  | x :: r, ss, h => by
    cases x <;> first | (simp [ints?] at h; done) | skip
    rename_i s
    cases e : ints? r with
    | none => simp [ints?, e] at h
    | some t =>
      simp [ints?, e] at h
      subst h
      rw [ints_eq e]; rfl
section
variable {X : Cx} {G : Gm} {W : WX} {dl : Addr} {S : Hp}
theorem RepL.are_ints : ∀ {ss : List Int} {vs : List V}, RepL G dl S (ss.map D.int) vs → vs = ss.map V.int
  | [], vs, h => by unfold RepL at h; exact h
  | s :: r, vs, h => by
    rw [List.map_cons] at h
    unfold RepL at h
    obtain ⟨v, t, rfl, h1, h2⟩ := h
    unfold Rep at h1
    rw [h1, RepL.are_ints h2]; rfl
theorem CallR.or_ {f : Value} {r1 r2 : List V → Hp → VK → Prop} (h1 : CallR X f r1) (h2 : CallR X f r2) : CallR X f (fun vs H Q => r1 vs H Q ∨ r2 vs H Q) := fun pins s sg H vs us Q I r q => q.elim (h1 pins s sg H vs us Q I r) (h2 pins s sg H vs us Q I r)
variable {ex : Expr} {es : List Expr} {fs : LE → R (List D)} {gl : List D → R (List D)} {pos p : Pos} {x : Str} {id : String}
end
end DL
set_option Elab.async false
set_option linter.all false
set_option maxRecDepth 100000
namespace DL
open PySem L2 PySem.Spec PyProof.Rows
theorem DpAll.at_ {K : PySem.W.Frag} {H : Hp} : ∀ {us : List V} {ds : List PyData} {j : Nat} {x : V} {z : PyData}, DpAll K H us ds → us[j]? = some x → ds[j]? = some z → Dp K H x z
  | _, _, j, x, z, .nil, e, _ => by simp at e
  | _, _, 0, x, z, .cons h _, e, e2 => by
    cases (show some _ = some x from e)
    cases (show some _ = some z from e2)
    exact h
  | _, _, j + 1, x, z, .cons _ h, e, e2 => DpAll.at_ (j := j) h (by simpa using e) (by simpa using e2)
end DL
set_option Elab.async false
set_option linter.all false
set_option maxRecDepth 100000
namespace DL
open PySem L2 PySem.Spec PyProof.Rows
end DL
set_option Elab.async false
set_option linter.all false
set_option maxRecDepth 100000
namespace DL
open PySem L2 PySem.Spec PyProof.Rows
/-- all stays, but dicts may be locked or unlocked -/
structure Lk (S S' : Hp) : Prop where
  l1 : ∀ a o, S a = some o → (∀ ps, o ≠ .tbl ps) → (∀ kv, o ≠ .dK kv) → (∀ ob kv, o ≠ .frz ob (.dK kv)) → S' a = some o
  l2 : ∀ a kv, Rd S a (.dK kv) → Rd S' a (.dK kv)
theorem Lk.sqt {K : PySem.W.Frag} {S S' : Hp} {a : Addr} {xs : List V} (g : Lk S S') (h : SqT K S a xs) : SqT K S' a xs := by
  rcases h with (h | ⟨o, h⟩) | h
  · exact .inl (.inl (g.l1 _ _ h (fun _ z => by cases z) (fun _ z => by cases z) (fun _ _ z => by cases z)))
  · exact .inl (.inr ⟨o, g.l1 _ _ h (fun _ z => by cases z) (fun _ z => by cases z) (fun _ _ z => by cases z)⟩)
  · exact .inr h
def Mild {α : Type} (m : R α) : Prop := ∀ (Q : α → Prop) (E E' : Exc → Prop), Wp m Q E → Wp m Q E'
theorem Mild.ok {α : Type} (a : α) : Mild (R.ok a) := fun _ _ _ h => h
theorem Mild.stuck {α : Type} : Mild (R.stuck : R α) := fun _ _ _ h => h
theorem Mild.calm {α : Type} : ∀ (m : R α), Mild m.calm
  | .ok _ => fun _ _ _ h => h
  | .err _ => fun _ _ _ h => h
  | .stuck => fun _ _ _ h => h
  | .roll n k => fun Q E E' h i hi => Mild.calm (k i) Q E E' (h i hi)
theorem Mild.bind {α β : Type} {m : R α} {k : α → R β} (h : Mild m) (q : ∀ a, Mild (k a)) : Mild (m >>= k) := fun Q E E' w =>
  Wp.of_bind (h _ E E' (w.bind.thn fun a z => q a Q E E' z))
end DL
set_option Elab.async false
set_option linter.all false
set_option maxRecDepth 100000
namespace DL
open PySem L2 PySem.Spec PyProof.Rows
end DL
set_option Elab.async false
set_option linter.all false
set_option maxRecDepth 100000
namespace DL
open PySem
end DL
set_option Elab.async false
set_option linter.all false
set_option maxRecDepth 100000
namespace DL
open PySem L2 PySem.Spec PyProof.Rows
def lenX : List D → R D
  | [.dic kvs] => .ok (.int kvs.length)
  | ds => lenD ds
section
variable {X : Cx} {G : Gm} {W : WX}
theorem cr_lenK : CallR X (.builtin "len") (fun xs H Q => ∃ (a : Addr) (kvs : List (Key × V)), xs = [.ref a] ∧ Rd H a (.dK kvs) ∧ Q (.int kvs.length) H) := by
  intro pins s sg H xs us Q I r h
  obtain ⟨a, kvs, rfl, e, q⟩ := h
  obtain ⟨u, rfl, ru⟩ := vals1 r
  obtain rfl : u = Value.ref a := ru
  exact d_len I e fun t s' I' => ⟨.int _, H, I', ⟨t, rfl⟩, q⟩
theorem cd_lenX (hG : G.K = X.K) : CallD X G (.builtin "len") lenX := by
  obtain ⟨rr, h1, h2⟩ := cd_len (X := X) (G := G) hG
  refine ⟨_, CallR.or cr_lenK h1, fun dl Z O r sg ds vs H Q E A rl h => ?_⟩
  unfold lenX at h
  split at h
  · obtain ⟨v, rfl, rp⟩ := rl.one
    obtain ⟨a, kv, rfl, hrd, rk⟩ := rp.dic
    refine .inl ⟨a, kv, rfl, hrd, ?_⟩
    rw [rk.length]
    exact h _ H (.refl _ _) A.gl Rep.int_
  · exact .inr (h2 dl Z O r sg ds vs H Q E A rl h)
end
end DL
set_option Elab.async false
set_option linter.all false
set_option maxRecDepth 100000
namespace DL
theorem Wp_onS {α : Type} {Q : Out → Prop} {r : LE} {k : α → R Out} : ∀ {m : R α}, Wp m (fun a => Wp (k a) Q (fun _ => False)) (fun e => Q (.ex e r)) → Wp (m.onS r k) Q (fun _ => False)
  | .ok _, h => h
  | .err _, h => h
  | .stuck, h => h
  | .roll _ _, h => fun i hi => Wp_onS (h i hi)
theorem Wp_seq {F K : LE → R Out} {r : LE} {Q : Out → Prop} : Wp (F r) (fun o => match o with
    | .nx r' => Wp (K r') Q (fun _ => False)
    | o => Q o) (fun _ => False) → Wp (seqS F K r) Q (fun _ => False) := fun h => by
  rw [seqS_eq]
  refine Wp.of_bind (h.thn fun o ho => ?_)
  cases o <;> exact ho
theorem Wp_setK {i : Nat} {f : LE → R D} {r : LE} {Q : Out → Prop} (h : Wp (f r) (fun d => Q (.nx (r.set i (.val d)))) (fun e => Q (.ex e r))) : Wp (setK i (valK f) r) Q (fun _ => False) := by
  rw [setK_eq, valK_eq]
  refine Wp_onS ?_
  refine Wp.of_bind (Wp.of_bind (h.thn fun d hd => ?_))
  exact hd
/-- the ends of a body: ways P lets through -/
structure Go (P : Out → Prop) (F : LE → R Out) (r : LE) : Prop where
  h : Wp (F r) P (fun _ => False)
theorem Go.cons {P : Out → Prop} {S F K : LE → R Out} {r r2 : LE} (e : S = seqS F K) (h : F r = .ok (.nx r2)) (k : Go P K r2) : Go P S r := by
  subst e
  refine ⟨Wp_seq ?_⟩
  rw [h]
  exact k.h
abbrev Done (o : Out) : Prop := ∃ r, o = .nx r ∨ o = .ct r
end DL
set_option Elab.async false
set_option linter.all false
set_option maxRecDepth 100000
namespace DL
open PySem L2 PySem.Spec PyProof.Rows
def cutD {α : Type} (xs : List α) (lo hi : Option Int) : List α := (xs.drop (HT.sIx xs.length 0 lo)).take (HT.sIx xs.length xs.length hi - HT.sIx xs.length 0 lo)
def slI (x : D) (lo hi : Option Int) : R D := match x with
  | .str s => if s.length ≤ 16777216 then .ok (.str (cutD s lo hi)) else .stuck
  | .tup xs => .ok (.tup (cutD xs lo hi))
  | .lst xs => .ok (.lst (cutD xs lo hi))
  | _ => .stuck
def tO (G : Gm) (W : WX) (p : LE → R (Option Int)) : TO := fun sg H Q => ∃ dl Z O r, At G dl Z O r sg H ∧
  Wp (p r) (fun o => ∀ H', Grow dl H H' → GlOk G dl H' → Q o H') (fun e => ∀ cls dx H', Grow dl H H' → GlOk G dl H' → XRep G dl (cut H' Z) e cls dx H' → W cls dx sg H')
abbrev DO (X : Cx) (G : Gm) (W : WX) (e : Option Expr) (p : LE → R (Option Int)) : Prop := PO X e (tO G W p)
def noP : LE → R (Option Int) := fun _ => .ok none
def someP (f : LE → R D) : LE → R (Option Int) := fun r => f r >>= fun d => match d with
  | .int i => .ok (some i)
  | _ => .stuck
def sliceE (f : LE → R D) (l h : LE → R (Option Int)) : LE → R D := fun r => do let x ← f r; let a ← l r; let b ← h r; slI x a b
section
variable {X : Cx} {G : Gm} {W : WX} {a b : Expr} {f : LE → R D} {lo hi : Option Expr} {l h : LE → R (Option Int)} {pos p2 : Pos}
theorem PO_imp {e : Option Expr} {t t' : TO} (h : PO X e t) (i : ∀ sg H Q, t' sg H Q → t sg H Q) : PO X e t' := ⟨fun pins s sg H Q I q => h.run pins s sg H Q I (i _ _ _ q)⟩
theorem do_none : DO X G W none noP := PO_imp po_none fun sg H Q ⟨dl, Z, O, r, A, q⟩ => q H (.refl _ _) A.gl
theorem do_some (ha : DP X G W a f) : DO X G W (some a) (someP f) := PO_imp (po_some ha) fun sg H Q ⟨dl, Z, O, r, A, q⟩ => by
  refine ⟨dl, Z, O, r, A, q.bind.thn fun d hd v H1 g1 k1 rp => ?_⟩
  cases d <;> first | exact hd.elim | skip
  rename_i i
  exact ⟨i, rp.int, hd H1 g1 k1⟩
theorem RepL.cut_ {dl : Addr} {S : Hp} {ds : List D} {vs : List V} (rl : RepL G dl S ds vs) (lo hi : Option Int) : RepL G dl S (cutD ds lo hi) (cutV vs lo hi) := by
  unfold cutD cutV
  rw [rl.length]
  exact RepL.take _ (RepL.drop _ rl)
theorem cutS_of (s : List Nat) (lo hi : Option Int) : cutS ⟨s.toArray⟩ lo hi = ⟨(cutD s lo hi).toArray⟩ := by
  unfold cutS cutD
  simp [Str.length]
theorem cut_whole {α : Type} (xs : List α) (lo hi : Option Int) (h : HT.sIx xs.length 0 lo = 0 ∧ HT.sIx xs.length xs.length hi = xs.length) : cutD xs lo hi = xs := by
  unfold cutD
  rw [h.1, h.2]
  simp
theorem de_slice (hG : G.K = X.K) (ha : DP X G W a f) (hl : DO X G W lo l) (hh : DO X G W hi h) : DE X G W (.Subscript a (.Slice lo hi none p2) pos) (sliceE f l h) := by
  refine PE_imp (pe_slice (SlR.or (SlR.or sl_str sl_tupA) sl_list) ha hl hh) fun sg H Q ⟨dl, Z, O, r, A, q⟩ => ?_
  refine ⟨dl, Z, O, r, A, q.bind.thn fun x hx v H1 g1 k1 rp => ?_⟩
  have A1 := A.grow g1 k1
  refine ⟨dl, Z, O, r, A1, hx.bind.mono (fun o1 ho1 H2 g2 k2 => ?_) fun e => epost g1⟩
  have A2 := A1.grow g2 k2
  refine ⟨dl, Z, O, r, A2, ho1.bind.mono (fun o2 ho2 H3 g3 k3 => ?_) fun e => epost (g1.trans g2)⟩
  have A3 := A2.grow g3 k3
  have rp3 := rp.grow A1 (g2.trans g3)
  have g := (g1.trans g2).trans g3
  cases x <;> first | exact ho2.elim | skip
  · rename_i s
    change Wp (if s.length ≤ 16777216 then R.ok (D.str (cutD s o1 o2)) else R.stuck) _ _ at ho2
    split at ho2
    case isFalse => exact ho2.elim
    rename_i hz
    refine .inl (.inl ⟨⟨s.toArray⟩, rp3.str, by rw [sizeLine_eq]; simpa [Str.length] using hz, ?_⟩)
    rw [cutS_of]
    exact ho2 _ H3 g k3 Rep.str_
  · rename_i xs
    obtain ⟨p, us, rfl, hl, rl⟩ := rp3.lst
    refine .inr ⟨p, us, rfl, SqL.of hl, fun p' hp => ?_⟩
    exact ho2 _ _ (g.trans (.new hp)) (k3.new hp) (Rep.lst_new A3 hp (rl.cut_ o1 o2))
  · rename_i xs
    obtain ⟨p, us, rfl, hl, rl⟩ := rp3.tup
    have hlen := rl.length
    refine .inl (.inr ⟨p, us, rfl, hG ▸ hl, fun hw => ?_, fun hw p' hp => ?_⟩)
    · rw [hlen] at hw
      have e := cut_whole xs o1 o2 hw
      change Wp (R.ok (D.tup (cutD xs o1 o2))) _ _ at ho2
      rw [e] at ho2
      rcases rp3 with rp3 | ⟨_, _, _, _, own⟩
      · exact ho2 _ H3 g k3 rp3
      · exact own.elim
    · exact ho2 _ _ (g.trans (.new hp)) (k3.new hp) (Rep.tup_new A3 hp (rl.cut_ o1 o2))
end
end DL
set_option Elab.async false
set_option linter.all false
set_option maxRecDepth 100000
namespace DL
open PySem L2 PySem.Spec PyProof.Rows
def iaddD : D → D → R D
  | .int i, .int j => .ok (.int (i + j))
  | .str a, .str b => if a.length + b.length ≤ 16777216 then .ok (.str (a ++ b)) else .stuck
  | _, _ => .stuck
section
variable {X : Cx} {G : Gm} {W : WX} {a b : Expr} {f g : LE → R D} {pos pos' p : Pos} {x : Str}
theorem oi_add : OpD X G (inplaceOp .Add) iaddD := by
  refine ⟨_, OpR.or (opI0 (g := fun i j => i + j) fun _ _ _ _ _ _ _ q => iadd_int q) (in_addS : OpR X (inplaceOp .Add) rAddS), fun dl Z O r sg x y vx vy H Q E A hx hy h => ?_⟩
  unfold iaddD at h
  split at h
  · exact .inl ⟨_, _, hx.int, hy.int, h _ H (.refl _ _) A.gl Rep.int_⟩
  · split at h
    · rename_i a b hc
      refine .inr ⟨_, _, hx.str, hy.str, by rw [sizeLine_eq]; simpa [Str.length] using hc, ?_⟩
      rw [str_add]
      exact h _ H (.refl _ _) A.gl Rep.str_
    · exact h.elim
  · exact h.elim
theorem ds_aug (i : Nat) {op : Operator} {gg : D → D → R D} (ho : OpD X G (inplaceOp op) gg) (hN : X.N.Nodup) (he : DE X G W a f) (hi : X.N[i]? = some x := by rfl) (hx : Loc X.env.scope x := by first | exact Or.inl rfl | exact Or.inr rfl)
    (hf : X.fn x = true ∨ X.env.scope.names.lookup x = some .local := by first | exact .inl rfl | exact .inr rfl) : DS X G W (.AugAssign (.Name x pos') op a pos) (setK i (valK (opE gg (var i) f))) := by
  obtain ⟨rr, h1, h2⟩ := ho
  refine PS_imp (ps_aug hN hi hx he (ti := rr) h1 hf) fun De sg H ⟨dl, Z, O, r, A, q⟩ => ?_
  have q1 := (onS_wp q).bind.bind
  have hv : ∃ d, r[i]? = some (.val d) := by
    cases hc : r[i]? with
    | none => rw [show opE gg (var i) f r = (var i r >>= fun x => f r >>= fun y => gg x y) from rfl, var_eq, hc] at q1; exact q1.elim
    | some c =>
      cases c with
      | val d => exact ⟨d, rfl⟩
      | un => rw [show opE gg (var i) f r = (var i r >>= fun x => f r >>= fun y => gg x y) from rfl, var_eq, hc] at q1; exact q1.elim
      | own d => rw [show opE gg (var i) f r = (var i r >>= fun x => f r >>= fun y => gg x y) from rfl, var_eq, hc] at q1; exact q1.elim
  obtain ⟨d, hd⟩ := hv
  obtain ⟨v, hs, rp⟩ := A.slot i _ hd
  rw [show opE gg (var i) f r = (var i r >>= fun x => f r >>= fun y => gg x y) from rfl, var_eq, hd] at q1
  refine ⟨v, hs, dl, Z, O, r, A, (show Wp (f r >>= fun y => gg d y) _ _ from q1).bind.mono (fun y hy u H1 g1 k1 ru => ?_) fun e he => spost_ex A he⟩
  have A1 := A.grow g1 k1
  refine h2 dl Z O r sg d y v u H1 _ (fun e => SPost G W De dl Z O H (.ex e r)) A1 (.of (rp.mono (g1.cut A.dz))) (.of ru) (hy.thn fun z hz w H2 g2 k2 rw_ => ?_)
  exact hz Z O _ H2 (Stp.of_grow (g1.trans g2) k2) ((A1.grow g2 k2).set_val i rw_)
def sumD : List D → R D
  | [.lst xs] => (match ints? xs with
    | some is => .ok (.int is.sum)
    | none => .stuck)
  | _ => .stuck
theorem cd_sum (hG : G.K = X.K) (hc : X.calm = true) : CallD X G (.builtin "sum") sumD := by
  refine ⟨_, cr_sum hc, fun dl Z O r sg ds vs H Q E A rl h => ?_⟩
  unfold sumD at h
  split at h
  · obtain ⟨v, rfl, rp⟩ := rl.one
    obtain ⟨a, us, rfl, e, rl'⟩ := rp.lst
    split at h
    · rename_i is his
      have := ints_eq his
      subst this
      have := rl'.are_ints
      subst this
      exact ⟨a, is, rfl, SqL.of e, h _ H (.refl _ _) A.gl Rep.int_⟩
    · exact h.elim
  · exact h.elim
end
end DL
set_option Elab.async false
set_option linter.all false
set_option maxRecDepth 100000
set_option maxHeartbeats 1000000
namespace DL
open PySem L2 PySem.Spec PyProof.Rows GenW
/-- the context of a generator expression's frame, run over A; s, H: ahead of the frame; fp: the iterator's records -/
abbrev genCx (X : Cx) (A : Around) (s : Shared) (H : Hp) (env : Env) (fp : List Addr) : Cx :=
  { X with A := A, s_0 := s, H_0 := H, env := env, outer := X.stack, stack := env :: X.stack, ex := fp, fn := fun _ => false, calm := true, pn := [], xe := fun _ _ => False }
/-- its names -/
structure GenOk (scope : Scope) : Prop where
  co : scope.isCoroutine = false
  dot : scope.names.lookup (".0" : Str) = some NameKind.local
  cell : ∀ y ∈ scope.names, y.2 ≠ .cell
def genOkC (scope : Scope) : Bool := !scope.isCoroutine && decide (scope.names.lookup (".0" : Str) = some NameKind.local) && scope.names.all fun y => !decide (y.2 = .cell)
theorem genOk_by {scope : Scope} (h : genOkC scope = true) : GenOk scope := by
  unfold genOkC at h
  simp only [Bool.and_eq_true, Bool.not_eq_true', decide_eq_true_eq, decide_eq_false_iff_not, List.all_eq_true] at h
  obtain ⟨⟨h1, h2⟩, h3⟩ := h
  exact ⟨h1, h2, h3⟩
section
variable {X : Cx} {pins : List (Addr × Obj)} {σ : L2.St} {H : Hp} {s : Shared}
theorem inv_gens {G : Array GenState} (I : Inv X pins σ H s) (hg : AllBare G) : Inv X pins σ H { s with gens := G } :=
  ⟨I.ok, I.os, hg, I.base, I.loc, I.cell, I.free, I.freeC, I.pin, I.hok, I.len⟩
theorem gen_start {A : Around} {scope : Scope} {own : List (Str × Nat)} {fp : List Addr} {code : Value} {h5 : Heap} {G : Array GenState} {tk : Nat} {m5 : Str → Option Value} (I : Inv X pins σ H s) (ok : BlkOk X.N X.env.scope scope own) (gk : GenOk scope) (hN : X.N.Nodup)
    (hfp : ∀ b ∈ fp, FpOk X pins H b ∧ b < s.heap.objs.size) (hh : A.handled = none) (hfr : A.frames = some (genEnv scope (cloFrom X.env.cells scope.names []) s.heap.objs.size code builtinsNs X.env :: X.stack))
    (kp : ∀ b o, s.heap.get? b = some o → h5.get? b = some o) (hns : h5.Ns s.heap.objs.size m5) (hG : AllBare G) :
    Inv (genCx X A s H (genEnv scope (cloFrom X.env.cells scope.names []) s.heap.objs.size code builtinsNs X.env) fp) [] (wipe σ (own.map (·.2))) H { s with gens := G, toks := tk, heap := h5 } := by
  have hfree : ∀ y ∈ scope.names, y.2 = .free → ∃ c, X.env.cells.lookup y.1 = some c := fun y hy e => by
    rcases ok.free y hy e with k | k
    · exact I.ok.has _ (.inl k)
    · exact I.ok.has _ (.inr k)
  have cm : ∀ {y c}, (cloFrom X.env.cells scope.names []).lookup y = some c → X.env.cells.lookup y = some c := fun {y c} e => by
    rcases cloFrom_mem (PySem.mem_of_lookup e) with hm | ⟨h1, h2⟩
    · cases hm
    · obtain ⟨c1, hc⟩ := hfree _ h1 rfl
      have hc : X.env.cells.lookup y = some c1 := hc
      have e2 : c = c1 := by
        rw [h2, hc] <;> rfl
      rw [e2]
      exact hc
  have look : ∀ {y}, scope.names.lookup y = some .free → ∃ c, (cloFrom X.env.cells scope.names []).lookup y = some c := fun {y} hl => by
    have hy : (y, NameKind.free) ∈ scope.names := PySem.mem_of_lookup hl
    exact mem_lookup (cloFrom_has (cells := X.env.cells) (acc := []) hy)
  have cellK : ∀ {c : Addr} {v : Option Value}, s.heap.IsCell c v → h5.IsCell c v := fun {c v} ⟨o, ho, hd⟩ => ⟨o, kp _ _ ho, hd⟩
  have clt : ∀ {y c}, X.env.cells.lookup y = some c → c < s.heap.objs.size := fun {y c} e => by
    obtain ⟨w, z⟩ := I.cell _ _ e
    exact z.lt
  refine ⟨⟨I.ok.mod, ok.kind, I.ok.glob, rfl, Nat.le_refl _, fun y z c e1 e2 => I.ok.inj y z c (cm e1) (cm e2), fun y hy => ?_, fun y c z _ => ?_, fun _ => hh, hfr, .inr ⟨rfl, rfl⟩, fun b hb => ⟨?_, fun y c e z => ?_⟩, I.bs, Nat.le_trans I.ok.bsz I.sz, fun b o e hb => ?_, fun b hb z => ?_, I.stack, I.stkFree⟩,
    rfl, hG, Un.kept kp, ⟨_, hns, fun i y av e1 e2 e3 => ?_⟩, fun y c e => ?_, I.hok.fresh (Nat.le_refl _), fun y c e => I.freeC y c (cm e), fun q hq => absurd (show q ∈ ([] : List (Addr × Obj)) ++ [] from hq) (by simp), I.hok.kept kp, by rw [wipe_length]; exact I.len⟩
  · have hy : scope.names.lookup y = some .cell ∨ scope.names.lookup y = some .free := hy
    rcases hy with hy | hy
    · exact absurd rfl (gk.cell _ (PySem.mem_of_lookup hy))
    · exact look hy
  · have z : false = true := z
    cases z
  · exact Nat.ne_of_lt (hfp b hb).2
  · exact (hfp b hb).1.2.2.2.2.1 y c (cm e) z
  · rcases (hfp b hb).1.2.2.2.1 with z | z
    · exact I.ok.noex b o e z
    · exact absurd (Nat.lt_of_lt_of_le (Heap.lt_size e) (Nat.le_trans I.ok.bsz z)) (Nat.lt_irrefl _)
  · rcases List.mem_cons.mp (I.stkSub b z) with z | z
    · exact (hfp b hb).1.2.1 z
    · exact (hfp b hb).1.2.2.1 z
  · obtain ⟨e2, hne⟩ := wipe_some e2
    have hfr : scope.names.lookup y = some .free := by
      have no : ¬ (scope.names.lookup y = some .local ∨ scope.names.lookup y = some .cell) := fun hh => by
        have hm : (y, NameKind.local) ∈ scope.names ∨ (y, NameKind.cell) ∈ scope.names := hh.elim (fun z => .inl (PySem.mem_of_lookup z)) fun z => .inr (PySem.mem_of_lookup z)
        have e' : y ∈ own.map (·.1) ∨ y ∉ X.N := hm.elim (fun z => ok.own _ z (.inl rfl)) fun z => ok.own _ z (.inr rfl)
        rcases e' with e' | e'
        · obtain ⟨p, hp, hpy⟩ := List.mem_map.mp e'
          have e3 := ok.ix p hp
          have : p.1 = y := hpy
          rw [this] at e3
          exact hne (List.mem_map.mpr ⟨p, hp, nodup_ix hN e3 e1⟩)
        · exact e' (List.mem_of_getElem? e1)
      have e3 : Vis scope y := e3
      rcases e3 with e3 | e3 | e3
      · exact (no (.inl e3)).elim
      · exact (no (.inr e3)).elim
      · exact e3
    obtain ⟨m, hn, hl⟩ := I.loc
    have hvis : Vis X.env.scope y := (ok.free _ (PySem.mem_of_lookup hfr) rfl).elim (fun k => .inr (.inl k)) (fun k => .inr (.inr k))
    obtain ⟨w, r, q⟩ := hl i y av e1 e2 hvis
    obtain ⟨c2, h2⟩ := look hfr
    refine ⟨w, r, .inr ⟨.inr hfr, c2, h2, ?_⟩⟩
    have c1 := cm h2
    rcases q with ⟨k, _⟩ | ⟨_, c', e', z⟩
    · have k : X.env.scope.names.lookup y = some .local := k
      rcases ok.free _ (PySem.mem_of_lookup hfr) rfl with k' | k' <;> rw [show X.env.scope.names.lookup y = _ from k'] at k <;> cases k
    · rw [c1] at e'
      cases e'
      exact cellK z
  · obtain ⟨w, z⟩ := I.cell y c (cm e)
    exact ⟨w, cellK z⟩
end
end DL
set_option Elab.async false
set_option linter.all false
set_option maxRecDepth 100000
set_option maxHeartbeats 1000000
namespace DL
open PySem L2 PySem.Spec PyProof.Rows GenW
/-- the consumer's turn while the generator sleeps: only its own records at S change -/
structure Slp (S : List Addr) (s s' : Shared) : Prop where
  os : s'.os = s.os
  bare : AllBare s'.gens
  keep : ∀ b o, b ∉ S → s.heap.get? b = some o → s'.heap.get? b = some o
/-- the consumer's records as they stand -/
structure Held (S : List Addr) (ps : List (Addr × Obj)) (s : Shared) : Prop where
  at_ : ps.map (·.1) = S
  ok : ∀ p ∈ ps, s.heap.get? p.1 = some p.2 ∧ ∀ v, p.2.data ≠ .cell v
/-- the generator's own things: Xg its context, pa its object (pinned), S the consumer's records, the iterator -/
structure Ge where
  Xg : Cx
  pa : Addr × Obj
  S : List Addr
  σ0 : L2.St
  fp : List Addr
  it : Addr
  tn : Nat → Heap → Prop
  J : It
  vs : List Nat
/-- between two turns -/
structure GInv (g : Ge) (i : Nat) (ps : List (Addr × Obj)) (H : Hp) (s : Shared) : Prop where
  at_ : ps.map (·.1) = g.S
  inv : Inv g.Xg (g.pa :: ps) g.σ0 H s
  tn : g.tn i s.heap
  fp : ∀ b ∈ g.fp, H b = none
/-- at the end -/
structure GEnd (g : Ge) (ps : List (Addr × Obj)) (H : Hp) (s : Shared) : Prop where
  at_ : ps.map (·.1) = g.S
  inv : Inv g.Xg (g.pa :: ps) g.σ0 H s
  fp : ∀ b ∈ g.fp, H b = none
theorem GInv.end {g : Ge} {i : Nat} {ps : List (Addr × Obj)} {H : Hp} {s : Shared} (h : GInv g i ps H s) : GEnd g ps H s := ⟨h.at_, h.inv, h.fp⟩
theorem GEnd.held {g : Ge} {ps : List (Addr × Obj)} {H : Hp} {s : Shared} (h : GEnd g ps H s) : Held g.S ps s := ⟨h.at_, fun p hp =>
  let z := h.inv.pin p (List.mem_append_right _ (List.mem_cons_of_mem _ hp)); ⟨z.1, z.2.2.2.2⟩⟩
structure GeOk (g : Ge) (tg : Expr) : Prop where
  pn : g.Xg.pn = []
  ex : g.Xg.ex = g.fp
  calm : g.Xg.calm = true
  xe : g.Xg.xe = fun _ _ => False
  turn : Turn g.Xg.prog g.Xg.w g.Xg.K tg g.J g.fp g.it g.tn
  apart : ∀ b ∈ g.S, g.Xg.s_0.heap.objs.size ≤ b ∧ b ≠ g.Xg.env.locals ∧ b ≠ g.pa.1 ∧ b ∉ g.fp ∧ ∀ x c, g.Xg.env.cells.lookup x = some c → c ≠ b
  gen : g.pa.1 ∉ g.fp
section
variable {g : Ge} {tg : Expr} {i : Nat} {H : Hp} {s s' : Shared} {ps ps' : List (Addr × Obj)}
theorem GeOk.fpok (k : GeOk g tg) {σ' : L2.St} {ps : List (Addr × Obj)} (hps : ps.map (·.1) = g.S) (I : Inv g.Xg (g.pa :: ps) σ' H s) (hn : ∀ b ∈ g.fp, H b = none) : ∀ b ∈ g.fp, FpOk g.Xg (g.pa :: ps) H b := fun b hb => by
  have hx : b ∈ g.Xg.ex := by rw [k.ex]; exact hb
  refine ⟨hn b hb, (I.ok.exf b hx).1, I.ok.exfs b hx, .inl hx, fun x c e => (I.ok.exf b hx).2 x c e, fun p hp => ?_⟩
  rw [k.pn, List.nil_append] at hp
  rcases List.mem_cons.mp hp with z | z
  · rw [z]
    exact fun e => k.gen (by rw [e]; exact hb)
  · have hm : p.1 ∈ g.S := by rw [← hps]; exact List.mem_map.mpr ⟨p, z, rfl⟩
    exact fun e => (k.apart p.1 hm).2.2.2.1 (by rw [e]; exact hb)
/-- behind the consumer's turn -/
theorem GInv.slept (k : GeOk g tg) (h : GInv g i ps H s) (z : Slp g.S s s') (hd : Held g.S ps' s') : GInv g i ps' H s' := by
  obtain ⟨hps, I, st, hn⟩ := h
  have pinS : ∀ b ∈ g.S, ∃ o, s.heap.get? b = some o ∧ H b = none ∧ b ≠ g.Xg.env.locals ∧ b ∉ g.Xg.fs := fun b hb => by
    rw [← hps] at hb
    obtain ⟨p, hp, e⟩ := List.mem_map.mp hb
    obtain ⟨h1, h2, h3, h4, _⟩ := I.pin p (List.mem_append_right _ (List.mem_cons_of_mem _ hp))
    rw [← e]
    exact ⟨_, h1, h2, h3, h4⟩
  have pinA := I.pin g.pa (List.mem_append_right _ List.mem_cons_self)
  have I0 : Inv g.Xg [g.pa] g.σ0 H s := I.pins_of fun p hp => by
    rw [List.mem_singleton.mp hp]
    exact pinA
  have nt : ∀ b u, H b = some u → b ∉ g.S := fun b u q hb => by
    obtain ⟨_, _, h2, _⟩ := pinS b hb
    rw [h2] at q; cases q
  have hz := z
  obtain ⟨z1, z2, z3⟩ := z
  obtain ⟨hh, G, d, t, o⟩ := s'
  have ho : o = s.os := z1
  subst ho
  have J : Inv g.Xg [g.pa] g.σ0 H { s with heap := hh, gens := G, drawn := d, toks := t } := by
    refine I0.step (g' := G) (t' := t) (d' := d) (ch := g.S) (fun b hb => ?_)
      (fun b ob _ _ hc q _ => z3 b ob hc q) (fun b ob _ _ hc q _ => ⟨ob.slots, z3 b ob hc q⟩) (fun _ _ _ _ n => n) (fun b ob hc q => ⟨ob, z3 b ob hc q⟩)
      (fun _ _ q => q) (fun _ _ _ q => q) (fun b ps q => ⟨#[], by rw [q]; simp⟩) (fun m hm => ?_) (fun b u q => ?_) z2
    · obtain ⟨a1, a2, a3, a4, a5⟩ := k.apart b hb
      refine ⟨.inr a1, a2, a5, fun p hp => ?_⟩
      rw [k.pn, List.nil_append] at hp
      rw [List.mem_singleton.mp hp]
      exact fun e => a3 e.symm
    · obtain ⟨ob, es, ep, ho, r⟩ := hm
      exact ⟨ob, es, ep, z3 _ ob (fun hb => (k.apart _ hb).2.1 rfl) ho, r⟩
    · refine (I0.hok b u q).stay (fun c v hc y => z3 c v ?_ y) (fun _ y => y) fun _ _ y => y
      rcases hc with y | y
      · rw [y]; exact nt b u q
      · exact nt c _ y
  have hp' : ∀ p ∈ ps', hh.get? p.1 = some p.2 ∧ H p.1 = none ∧ p.1 ≠ g.Xg.env.locals ∧ p.1 ∉ g.Xg.fs ∧ ∀ v, p.2.data ≠ .cell v := fun p hp => by
    obtain ⟨q1, q2⟩ := hd.ok p hp
    obtain ⟨_, _, h2, h3, h4⟩ := pinS p.1 (by rw [← hd.at_]; exact List.mem_map.mpr ⟨p, hp, rfl⟩)
    exact ⟨q1, h2, h3, h4, q2⟩
  refine ⟨hd.at_, J.pins_of fun p hp => ?_, k.turn.keep _ _ _ st fun b hb o e => z3 b o (fun hb2 => (k.apart b hb2).2.2.2.1 hb) e, hn⟩
  rcases List.mem_cons.mp hp with z | z
  · rw [z]
    exact J.pin g.pa (List.mem_append_right _ List.mem_cons_self)
  · exact hp' p z
/-- what is told at a yield, at the end -/
def GYld (g : Ge) (N : Nat) (Rest : Nat → List (Addr × Obj) → Hp → Prop) (Yl : Nat → List (Addr × Obj) → V → Hp → Prop) : Protocol := fun n s₀ v s kap =>
  ∃ i x H ps, N ≤ n + (i + 1) ∧ RelV x v ∧ GInv g (i + 1) ps H s ∧ Held g.S ps s₀ ∧ Yl i ps x H ∧ ∀ s' ps', Slp g.S s s' → Held g.S ps' s' → Rest (i + 1) ps' H → kap (.send .none) s'
abbrev GDn (g : Ge) (Dn : List (Addr × Obj) → Hp → Prop) : GenEnd := fun n s₀ r s => r = .ok .next ∧ ∃ H ps, GEnd g ps H s ∧ Held g.S ps s₀ ∧ Dn ps H
theorem compTurn_ge (elt target iter : Expr) (ifs : List Expr) (scope : Scope) (pos : Pos) (it acc : Value) (env : Env) :
    compTurn (.GeneratorExp elt [⟨target, iter, ifs, 0⟩] scope pos) 0 it acc env = (do
      standAt iter.pos
      match ← pyNext it with
      | none => pure (.done .next)
      | some v =>
        letOwnedTupleGo target it v
        assign target env v
        let ok ← forIn ifs true fun c r => if r = true then do let ok ← isTrue c env (eval c env); pure (ForInStep.yield ok) else pure (ForInStep.yield r)
        if ok then
          (do let v ← eval elt env; standAt elt.pos; let _ ← yieldOut env v)
        again (.compLoop (.GeneratorExp elt [⟨target, iter, ifs, 0⟩] scope pos) 0 it acc env)) := by rfl
theorem seg_ge {A : Around} {elt iter : Expr} {ifs : List Expr} {scope : Scope} {pos : Pos} {gd : TG} {tt : TT} {te : TE} {N : Nat} {Rest : Nat → List (Addr × Obj) → Hp → Prop} {Dn : List (Addr × Obj) → Hp → Prop} {Yl : Nat → List (Addr × Obj) → V → Hp → Prop} (k : GeOk g tg)
    (hA : A.over (.compLoop (.GeneratorExp elt [⟨tg, iter, ifs, 0⟩] scope pos) 0 (.ref g.it) .none g.Xg.env) [] = g.Xg.A) (hco : g.Xg.env.scope.isCoroutine = false)
    (hg : PG g.Xg tg gd) (ht : PTs g.Xg ifs tt) (he : PE g.Xg elt te) (hw0 : wipe g.σ0 g.vs = g.σ0)
    (turn : ∀ i ps H, ps.map (·.1) = g.S → Rest i ps H → (g.J.stop i H ∧ Dn ps H) ∨ (i < N ∧ g.J.go i H ∧ ∀ x H', g.J.yld i H x H' → gd x g.σ0 H' fun σ2 H2 => wipe σ2 g.vs = g.σ0 ∧ tt σ2 H2 fun b H3 => if b = true then te σ2 H3 fun y H4 => Yl i ps y H4 else Rest (i + 1) ps H3)) :
    ∀ (m i n : Nat) (s₀ s : Shared) (H : Hp) (ps : List (Addr × Obj)), N - i = m → m ≤ n → GInv g i ps H s → Held g.S ps s₀ → Rest i ps H →
      Seg (model g.Xg.prog g.Xg.w) A (GDn g Dn) (GYld g N Rest Yl) n s₀ (.compLoop (.GeneratorExp elt [⟨tg, iter, ifs, 0⟩] scope pos) 0 (.ref g.it) .none g.Xg.env)
        ((model g.Xg.prog g.Xg.w).den (.compLoop (.GeneratorExp elt [⟨tg, iter, ifs, 0⟩] scope pos) 0 (.ref g.it) .none g.Xg.env)) [] s := by
  have noE : ∀ {α : Type} {Kx : Value → Shared → Prop} {t : Sem α} {Q : α → Shared → Prop} {s : Shared}, wpAny (model g.Xg.prog g.Xg.w) g.Xg.A t Q g.Xg.xe s → wpAny (model g.Xg.prog g.Xg.w) g.Xg.A t Q Kx s := fun h => by
    rw [k.xe] at h
    exact wpAny_mono h (fun _ _ e => e) fun _ _ e => e.elim
  have stop_ : ∀ (i n : Nat) (s₀ s : Shared) (H : Hp) (ps : List (Addr × Obj)), GInv g i ps H s → Held g.S ps s₀ → g.J.stop i H → Dn ps H →
      Seg (model g.Xg.prog g.Xg.w) A (GDn g Dn) (GYld g N Rest Yl) n s₀ (.compLoop (.GeneratorExp elt [⟨tg, iter, ifs, 0⟩] scope pos) 0 (.ref g.it) .none g.Xg.env)
        ((model g.Xg.prog g.Xg.w).den (.compLoop (.GeneratorExp elt [⟨tg, iter, ifs, 0⟩] scope pos) 0 (.ref g.it) .none g.Xg.env)) [] s := by
    intro i n s₀ s H ps hI h0 stop hd
    obtain ⟨hps, I, st, hnn⟩ := hI
    show Seg _ A _ _ _ s₀ _ ((compTurn (.GeneratorExp elt [⟨tg, iter, ifs, 0⟩] scope pos) 0 (.ref g.it) .none g.Xg.env).onRaise (leaving g.Xg.env)) [] s
    rw [compTurn_ge, Sem.onRaise_eq_wrap]
    refine seg_bind_wrap (wpAny_standAt ?_)
    refine seg_bind_wrap ?_
    rw [hA]
    refine thn (k.turn.done g.Xg rfl rfl rfl k.calm i _ s _ H _ I (k.fpok hps I hnn) st stop) fun r s1 ⟨hr, I1⟩ => ?_
    subst hr
    exact seg_end (.ok .next) ⟨rfl, H, ps, ⟨hps, I1, hnn⟩, h0, hd⟩
  intro m
  induction m with
  | zero =>
    intro i n s₀ s H ps hm hn hI h0 hR
    rcases turn i ps H hI.at_ hR with ⟨stop, hd⟩ | ⟨hlt, _⟩
    · exact stop_ i n s₀ s H ps hI h0 stop hd
    · omega
  | succ m ih =>
    intro i n s₀ s H ps hm hn hI h0 hR
    rcases turn i ps H hI.at_ hR with ⟨stop, hd⟩ | ⟨hlt, go, step⟩
    · exact stop_ i n s₀ s H ps hI h0 stop hd
    obtain ⟨hps, I, st, hnn⟩ := hI
    obtain ⟨n, rfl⟩ : ∃ n', n = n' + 1 := ⟨n - 1, by omega⟩
    show Seg _ A _ _ _ s₀ _ ((compTurn (.GeneratorExp elt [⟨tg, iter, ifs, 0⟩] scope pos) 0 (.ref g.it) .none g.Xg.env).onRaise (leaving g.Xg.env)) [] s
    rw [compTurn_ge, Sem.onRaise_eq_wrap]
    refine seg_bind_wrap (wpAny_standAt ?_)
    refine seg_bind_wrap ?_
    rw [hA]
    refine thn (k.turn.item g.Xg rfl rfl rfl k.calm i _ s _ H _ I (k.fpok hps I hnn) st go) fun r s1 ⟨u, hr, h1⟩ => ?_
    subst hr
    refine seg_bind_wrap ?_
    rw [hA]
    refine thn h1 fun _ s2 ⟨x, H2, I2, r2, y2, st2, n2⟩ => ?_
    have I2' := I2.pinned (k.fpok hps I2 n2) (k.turn.obj _ _ st2)
    refine seg_bind_wrap ?_
    rw [hA]
    refine noE (thn (hg.run _ s2 _ H2 x u _ I2' r2 (step x H2 y2)) fun _ s3 ⟨σ3, H3, I3, hw3, q3⟩ => ?_)
    refine seg_bind_wrap ?_
    rw [hA]
    refine noE (thn (ht.run _ s3 σ3 H3 _ I3 q3) fun b s4 ⟨H4, I4, q4⟩ => ?_)
    -- the turn's end
    have fin : ∀ {s' : Shared} {H' : Hp}, Inv g.Xg (g.pa :: ps ++ pinsAt g.fp s2.heap) σ3 H' s' → GInv g (i + 1) ps H' s' := fun {s' H'} I' => by
      have pin' : ∀ b ∈ g.fp, ∀ o, s2.heap.get? b = some o → s'.heap.get? b = some o ∧ H' b = none := fun b hb o e =>
        let z := I'.pin (b, o) (List.mem_append_right _ (List.mem_append_right _ (mem_pinsAt hb e)))
        ⟨z.1, z.2.1⟩
      have hl : g.σ0.length = σ3.length := by rw [← hw3, wipe_length]
      refine ⟨hps, (I'.unpinned (pins := g.pa :: ps)).weak hl (fun j v e => ?_), k.turn.keep _ _ _ st2 fun b hb o e => (pin' b hb o e).1, fun b hb => ?_⟩
      · rw [← hw3] at e
        exact (wipe_some e).1
      · obtain ⟨o, e, _⟩ := k.turn.obj _ _ st2 b hb
        exact (pin' b hb o e).2
    cases b with
    | false =>
      simp only [Bool.false_eq_true, if_false] at q4 ⊢
      exact seg_again rfl (ih (i + 1) (n + 1) s₀ s4 H4 ps (by omega) (by omega) (fin I4) h0 q4)
    | true =>
      simp only [if_true] at q4 ⊢
      have hy : ∀ v, yieldOut g.Xg.env v = yieldValue v := fun v => by simp only [yieldOut, hco, Bool.false_eq_true, if_false]
      simp only [hy]
      rw [Sem.bind_eq_wrap', Sem.bind_eq_wrap', Sem.wrap_wrap, Sem.wrap_wrap]
      refine seg_wrap ?_
      rw [hA]
      refine noE (thn (he.run _ s4 σ3 H4 _ I4 q4) fun z s5 ⟨yv, H5, I5, r5, q5⟩ => ?_)
      refine seg_at (seg_yield rfl rfl rfl ⟨i, yv, H5, ps, by omega, r5, fin I5, h0, q5, fun s'' ps' hz hd' hR' => ?_⟩)
      exact seg_again rfl (ih (i + 1) n s'' s'' H5 ps' (by omega) (by omega) ((fin I5).slept k hz hd') hd' hR')
theorem seg_ge0 {A : Around} {elt iter : Expr} {ifs : List Expr} {scope : Scope} {pos : Pos} {N n : Nat} {Rest : Nat → List (Addr × Obj) → Hp → Prop} {Dn : List (Addr × Obj) → Hp → Prop} {Yl : Nat → List (Addr × Obj) → V → Hp → Prop} {s₀ : Shared} (k : GeOk g tg)
    (hI : GInv g 0 ps H s)
    (loop : Seg (model g.Xg.prog g.Xg.w) A (GDn g Dn) (GYld g N Rest Yl) n s₀ (.compLoop (.GeneratorExp elt [⟨tg, iter, ifs, 0⟩] scope pos) 0 (.ref g.it) .none g.Xg.env)
        ((model g.Xg.prog g.Xg.w).den (.compLoop (.GeneratorExp elt [⟨tg, iter, ifs, 0⟩] scope pos) 0 (.ref g.it) .none g.Xg.env)) [] s) :
    Seg (model g.Xg.prog g.Xg.w) A (GDn g Dn) (GYld g N Rest Yl) n s₀ (.compStart (.GeneratorExp elt [⟨tg, iter, ifs, 0⟩] scope pos) 0 (.ref g.it) .none g.Xg.env)
        ((model g.Xg.prog g.Xg.w).den (.compStart (.GeneratorExp elt [⟨tg, iter, ifs, 0⟩] scope pos) 0 (.ref g.it) .none g.Xg.env)) [] s := by
  obtain ⟨hps, I, st, hnn⟩ := hI
  show Seg _ A _ _ _ s₀ _ ((compStart (.GeneratorExp elt [⟨tg, iter, ifs, 0⟩] scope pos) 0 (.ref g.it) .none g.Xg.env).onRaise (leaving g.Xg.env)) [] s
  unfold compStart
  rw [Sem.onRaise_eq_wrap]
  show Seg _ A _ _ _ s₀ _ ((ask >>= _).wrap _ _ _ _) [] s
  refine seg_bind_wrap (wpAny_askSetting ?_)
  split
  · exact seg_again rfl loop
  · first
      | exact seg_bind_wrap (wpAny_rule (seg_bind_wrap (wpAny_standAt (seg_bind_wrap (k.turn.self _ 0 s _ _ st (seg_again rfl loop))))))
      | (refine seg_bind_wrap (wpAny_rule ?_); show Seg _ A _ _ _ s₀ _ ((standAt iter.pos >>= _).wrap _ _ _ _) [] s; exact seg_bind_wrap (wpAny_standAt (seg_bind_wrap (k.turn.self _ 0 s _ _ st (seg_again rfl loop)))))
/-- ready to be woken, n times at most -/
def GAt (g : Ge) (N : Nat) (Rest : Nat → List (Addr × Obj) → Hp → Prop) (Dn : List (Addr × Obj) → Hp → Prop) (Yl : Nat → List (Addr × Obj) → V → Hp → Prop) (gi : Nat) (A : Around) (n i : Nat) (ps : List (Addr × Obj)) (H : Hp) (s : Shared) : Prop :=
  GInv g i ps H s ∧ ∃ gs, s.gens[gi]? = some gs ∧ ∀ s' ps', Slp g.S s s' → Held g.S ps' s' → Rest i ps' H → gs.Goes (model g.Xg.prog g.Xg.w) A (GDn g Dn) (GYld g N Rest Yl) n (.send .none) s'
theorem GInv.obj (h : GInv g i ps H s) : s.heap.get? g.pa.1 = some g.pa.2 := (h.inv.pin g.pa (List.mem_append_right _ List.mem_cons_self)).1
theorem Slp.gens {S : List Addr} {G : Array GenState} (hG : AllBare G) : Slp S s { s with gens := G } := ⟨rfl, hG, fun _ _ _ e => e⟩
theorem GAt.slept {N n : Nat} {Rest : Nat → List (Addr × Obj) → Hp → Prop} {Dn : List (Addr × Obj) → Hp → Prop} {Yl : Nat → List (Addr × Obj) → V → Hp → Prop} {gi : Nat} {A : Around} (k : GeOk g tg) (h : GAt g N Rest Dn Yl gi A n i ps H s) (z : Slp g.S s s') (hd : Held g.S ps' s') (hg : s'.gens[gi]? = s.gens[gi]?) : GAt g N Rest Dn Yl gi A n i ps' H s' := by
  obtain ⟨h1, gs, h2, h4⟩ := h
  exact ⟨h1.slept k z hd, gs, by rw [hg]; exact h2, fun s'' ps'' z' => h4 s'' ps'' ⟨z'.os.trans z.os, z'.bare, fun b o hb e => z'.keep b o hb (z.keep b o hb e)⟩⟩
theorem held_inj {S : List Addr} (h : Held S ps s) (h' : Held S ps' s) : ps = ps' := by
  obtain ⟨a, b⟩ := h
  obtain ⟨a', b'⟩ := h'
  refine List.ext_getElem? fun j => ?_
  have e : (ps.map (·.1))[j]? = (ps'.map (·.1))[j]? := by rw [a, a']
  rw [List.getElem?_map, List.getElem?_map] at e
  cases h1 : ps[j]? with
  | none =>
    cases h2 : ps'[j]? with
    | none => rfl
    | some q => rw [h1, h2] at e; cases e
  | some p =>
    cases h2 : ps'[j]? with
    | none => rw [h1, h2] at e; cases e
    | some q =>
      rw [h1, h2] at e
      have e1 : p.1 = q.1 := Option.some.inj e
      have e2 := (b p (List.mem_of_getElem? h1)).1
      have e3 := (b' q (List.mem_of_getElem? h2)).1
      rw [e1, e3] at e2
      have e4 : q.2 = p.2 := Option.some.inj e2
      rw [show p = q from Prod.ext e1 e4.symm]
theorem ge_next {A : Around} {N n : Nat} {Rest : Nat → List (Addr × Obj) → Hp → Prop} {Dn : List (Addr × Obj) → Hp → Prop} {Yl : Nat → List (Addr × Obj) → V → Hp → Prop} {gi : Nat} {Q : Option Value → Shared → Prop} {E : Value → Shared → Prop} (k : GeOk g tg) (hgen : ∀ h : Heap, h.get? g.pa.1 = some g.pa.2 → h.IsGen g.pa.1 gi)
    (hh : A.handled = none) (hroom : A.depth < recursionLimit) (h : GAt g N Rest Dn Yl gi A.in1 n i ps H s) (hR : Rest i ps H)
    (hY : ∀ j x v H' s', RelV x v → Yl j ps x H' → GInv g (j + 1) ps H' s' → (∀ s'' ps', Slp g.S s' s'' → Held g.S ps' s'' → s''.gens[gi]? = s'.gens[gi]? → Rest (j + 1) ps' H' → ∃ n', n = n' + 1 ∧ GAt g N Rest Dn Yl gi A.in1 n' (j + 1) ps' H' s'') → Q (some v) s')
    (hD : ∀ H' s', GEnd g ps H' s' → Dn ps H' → Q none s') : wpAny (model g.Xg.prog g.Xg.w) A (pyNext (.ref g.pa.1)) Q E s := by
  obtain ⟨hI, gs, hgs, hgo⟩ := h
  have hlt : gi < s.gens.size := by
    rcases Nat.lt_or_ge gi s.gens.size with h' | h'
    · exact h'
    · rw [Array.getElem?_eq_none h'] at hgs; cases hgs
  have hh0 : Held g.S ps (s.setGen gi .running) := ⟨hI.end.held.at_, hI.end.held.ok⟩
  refine wpAny_gsz (n := gi + 1) hlt ?_
  refine wpAny_pyNext_genexpQ (P := fun _ s₀ s₁ => ∃ H ps, GEnd g ps H s₁ ∧ Held g.S ps s₀ ∧ Dn ps H) (Y := GYld g N Rest Yl) hh hI.inv.nolimit hroom (hgen _ hI.obj) hgs (hgo _ ps (Slp.gens (allBare_setGen hI.inv.bare rfl)) hh0 hR) (fun v s₁ gs' hb hv => ?_) (fun s₁ hp h' hk => ?_)
  · obtain ⟨j, x, H', ps1, hn', rv, hI', hs0, hy, hkap⟩ := hv
    obtain rfl := held_inj hs0 hh0
    intro hsz
    have hsz' : gi < s₁.gens.size := by
      have := setGen_size s₁ gi gs'
      omega
    have slp : Slp g.S s₁ (s₁.setGen gi gs') := Slp.gens (allBare_setGen hI'.inv.bare hb)
    have hI2 : GInv g (j + 1) ps1 H' (s₁.setGen gi gs') := hI'.slept k slp ⟨hI'.end.held.at_, hI'.end.held.ok⟩
    refine hY j x v H' _ rv hy hI2 fun s'' ps' hz hd hg hR => ?_
    have hz1 : Slp g.S s₁ s'' := ⟨hz.os, hz.bare, fun b o hb e => hz.keep b o hb e⟩
    cases n with
    | zero => exact (hkap s'' ps' hz1 hd hR).elim
    | succ n =>
      refine ⟨n, rfl, hI2.slept k hz hd, gs', by rw [hg]; simp [Shared.setGen, hsz'], fun s3 ps3 hz3 hd3 hR3 => ?_⟩
      exact hkap s3 ps3 ⟨hz3.os.trans hz1.os, hz3.bare, fun b o hb e => hz3.keep b o hb (hz1.keep b o hb e)⟩ hd3 hR3
  · obtain ⟨H', ps1, ⟨hps, I, hnn⟩, hs0, hd⟩ := hp
    obtain rfl := held_inj hs0 hh0
    intro _
    exact hD H' _ ⟨hps, (inv_gens I (allBare_setGen I.bare rfl)).kept (t' := s₁.toks) hk, hnn⟩ hd
end
end DL
set_option Elab.async false
set_option linter.all false
set_option maxRecDepth 100000
set_option maxHeartbeats 1000000
namespace DL
open PySem L2 PySem.Spec PyProof.Rows GenW
/-- a generator has been made: s4 the state ahead of its frame -/
structure GNew (X : Cx) (pins : List (Addr × Obj)) (σ : L2.St) (elt tg iter : Expr) (ifs : List Expr) (scope : Scope) (gpos : Pos) (H4 : Hp) (J : It) (a : Addr) (s5 : Shared) : Prop where
  ex : ∃ (s4 : Shared) (it : Addr) (fp : List Addr) (tn : Nat → Heap → Prop) (code : Value) (gs : GenState) (tk : Nat) (h5 : Heap) (m5 : Str → Option Value) (ob : Obj),
    Inv X pins σ H4 s4 ∧ Turn X.prog X.w X.K tg J fp it tn ∧ tn 0 s4.heap ∧ (∀ b ∈ fp, FpOk X pins H4 b ∧ b < s4.heap.objs.size) ∧
    gs = .fresh (.compStart (.GeneratorExp elt [⟨tg, iter, ifs, 0⟩] scope gpos) 0 (.ref it) .none (genEnv scope (cloFrom X.env.cells scope.names []) s4.heap.objs.size code builtinsNs X.env)) ∧
    s5 = { s4 with gens := s4.gens.push gs, toks := tk, heap := h5 } ∧ (∀ b o, s4.heap.get? b = some o → h5.get? b = some o) ∧ h5.Ns s4.heap.objs.size m5 ∧ s4.heap.objs.size < a ∧ h5.get? a = some ob ∧
    (∀ h : Heap, h.get? a = some ob → h.IsGen a s4.gens.size) ∧ ∀ v, ob.data ≠ .cell v
section
variable {X : Cx} {pins : List (Addr × Obj)} {σ : L2.St} {H : Hp} {s : Shared}
theorem ge_make {T : List (Addr × Str)} {c P : Addr} {elt tg iter : Expr} {ifs : List Expr} {scope : Scope} {gpos : Pos} {own : List (Str × Nat)} {wi : TI} {Q : Value → Shared → Prop} {k : Nat}
    (I : Inv X pins σ H s) (hr : Room k X.A) (TB : LamX.TabB X.base X.mg c P) (hcode : X.env.code = .ref c) (hmT : (P, X.env.qual ++ "<genexpr>") ∈ T) (hu : ∀ p ∈ T, p.1 = P → p.2 = X.env.qual ++ "<genexpr>")
    (hi : PI X tg iter wi) (ok : BlkOk X.N X.env.scope scope own) (gk : GenOk scope) (hs : ∀ v, genFold iter X.env v = pure v)
    {Rr : It → Hp → Prop} (h : wi σ H Rr) (hRr : ∀ J H1, Rr J H1 → LamX.Tabs T H1 ∧ ∀ H2, LamX.ExtN H1 H2 → LamX.Tabs T H2 → ∀ a s5, GNew X pins σ elt tg iter ifs scope gpos H2 J a s5 → Q (.ref a) s5) :
    wpAny (model X.prog X.w) X.A (eval (.GeneratorExp elt [⟨tg, iter, ifs, 0⟩] scope gpos) X.env) Q X.xe s := by
  have hfree : ∀ y ∈ scope.names, y.2 = .free → ∃ c, X.env.cells.lookup y.1 = some c := fun y hy e => by
    rcases ok.free y hy e with k | k
    · exact I.ok.has _ (.inl k)
    · exact I.ok.has _ (.inr k)
  refine wpAny_GeneratorExp_make gk.co (closure_ok hfree) gk.cell gk.dot ok.kind hr.depth (thn (hi.run pins s σ H _ I h) fun xv s1 hx => thn hx fun itv s2 h2 => ?_) hs
  obtain ⟨it, fp, tn, J, H2, e, I2, Tu, st2, f2, hRj⟩ := h2
  obtain ⟨hT, q⟩ := hRr J H2 hRj
  subst e
  refine ⟨I2.nolimit, ?_⟩
  obtain ⟨ps, hP, ht, ha⟩ := hT _ hmT
  have hP' : s2.heap.get? P = some { cls := .none, data := .fields ps } := I2.hok P _ hP
  have cd : PySem.W.CodeHd s2.heap c P := TB.code.keeps I2.bk
  have sz : ∀ b ∈ fp, b < s2.heap.objs.size := fun b hb => by
    obtain ⟨o, e, _⟩ := Tu.obj _ _ st2 b hb
    exact Heap.lt_size e
  -- behind the code
  have cont : ∀ (code : Value) (s4 : Shared) (H4 : Hp), Inv X pins σ H4 s4 → LamX.ExtN H2 H4 → LamX.Tabs T H4 → s4.gens = s2.gens → (∀ b o, b ≠ P → s2.heap.get? b = some o → s4.heap.get? b = some o) → (∀ b ∈ fp, H4 b = none) → s2.heap.objs.size ≤ s4.heap.objs.size →
      wpAny (model X.prog X.w) X.A (builtinsFor X.env.globals X.env.builtins) (fun bi s₄ =>
        ∀ h', h'.Ns s₄.heap.objs.size (fun y => if y = ".0" then some (.ref it) else none) → Heap.SameBut s₄.heap.objs.size (s₄.heap.push { cls := .type "frame", data := .dict #[] }) h' →
          Q (.ref h'.objs.size) { s₄ with
            gens := s₄.gens.push (.fresh (.compStart (.GeneratorExp elt [⟨tg, iter, ifs, 0⟩] scope gpos) 0 (.ref it) .none (genEnv scope (cloFrom X.env.cells scope.names []) s₄.heap.objs.size code bi X.env))),
            toks := s₄.toks + 1 + 1 + 1,
            heap := h'.push { cls := .type "generator", data := .fields #[.int s₄.gens.size 0, .str "<genexpr>" (s₄.toks + 1), .str (X.env.qual ++ "<genexpr>") (s₄.toks + 1 + 1)] } }) X.xe s4 := by
    intro code s4 H4 I4 e4 t4 g4 k4 n4 z4
    obtain ⟨bm, ob, e1, e2, e3, e4', e5, e6, e7, e8⟩ := TB.bm
    refine wpAny_builtinsFor (m := X.mg) (by rw [I4.ok.glob]; exact I4.mod.glob.keeps I4.bk) e1 e2 (I4.bk _ _ e5) e6 e7 e8 ?_
    intro h' hn' hs'
    have hsz : h'.objs.size = s4.heap.objs.size + 1 := by rw [hs'.1, Heap.size_push]
    have keep' : ∀ b o, s4.heap.get? b = some o → h'.get? b = some o := fun b o e => hs'.extBut b o (Nat.ne_of_lt (Heap.lt_size e)) (Heap.get?_push_of_some _ e)
    refine q H4 e4 t4 h'.objs.size _ ⟨⟨s4, it, fp, tn, code, _, _, _, _, { cls := .type "generator", data := .fields #[.int s4.gens.size 0, .str "<genexpr>" (s4.toks + 1), .str (X.env.qual ++ "<genexpr>") (s4.toks + 1 + 1)] }, I4, Tu, ?_, fun b hb => ?_, rfl, rfl, fun b o e => Heap.get?_push_of_some _ (keep' b o e), hn'.push _, by omega, Heap.get?_push_size _ rfl, fun h hh => ⟨_, _, _, hh, rfl, rfl, rfl⟩, fun v e => by cases e⟩⟩
    · refine Tu.keep _ _ _ st2 fun b hb o e => k4 b o (fun z => ?_) e
      have := (f2 b hb).1
      rw [z, hP] at this
      cases this
    · exact ⟨⟨n4 b hb, (f2 b hb).2⟩, Nat.lt_of_lt_of_le (sz b hb) z4⟩
  cases hc : codeAmong gpos ps.toList with
  | none =>
    refine wpAny_genexprCodeX hcode (cd.code hP' ht) (cd.tab hP') hc fun c' h' tk hx hge hlt hco hrec htab _ => ?_
    obtain ⟨c2, oc, vs, t, e2, hoc, hd, hv⟩ := hrec
    cases e2
    have hszz : s2.heap.objs.size ≤ h'.objs.size := Nat.le_trans hge (Nat.le_of_lt hlt)
    have nC : H2 c' = none := I2.hok.fresh hge
    have I3 := LamX.inv_table (t' := tk) (more := #[rawInt gpos.line, rawInt gpos.col, .ref c']) (h' := h') I2 hP hx htab.2 hge ⟨oc, vs, t, hoc, hd, hv⟩
    have hE : LamX.ExtN H2 (upd (upd H2 P (.tbl (ps ++ #[rawInt gpos.line, rawInt gpos.col, .ref c']))) c' (LamX.CodeO c' (X.env.qual ++ "<genexpr>"))) := fun b o e n => by
      rw [upd_ne (ne_of_none e nC), upd_ne (fun z => n ps (Option.some.inj (e.symm.trans (by rw [z]; exact hP))))]
      exact e
    have eL : (ps ++ #[rawInt gpos.line, rawInt gpos.col, .ref c']).toList = ps.toList ++ [rawInt gpos.line, rawInt gpos.col, .ref c'] := by simp
    refine cont _ _ _ I3 hE (fun p hp => ?_) rfl hx (fun b hb => ?_) hszz
    · by_cases hb : p.1 = P
      · rw [hu p hp hb, hb]
        refine ⟨_, by rw [upd_ne (ne_of_none hP nC), upd_same], by rw [eL]; exact PySem.TriplesOk_snoc _ _ _ _ ht, fun p' cv hcv => ?_⟩
        rw [eL] at hcv
        rcases LamX.among_app _ ht hcv with z | z
        · obtain ⟨c0, e1, e2⟩ := ha p' cv z
          exact ⟨c0, e1, hE _ _ e2 LamX.codeO_ne⟩
        · exact ⟨c', z, upd_same⟩
      · obtain ⟨ps', a1, a2, a3⟩ := hT p hp
        refine ⟨ps', by rw [upd_ne (ne_of_none a1 nC), upd_ne hb]; exact a1, a2, fun p' cv hcv => ?_⟩
        obtain ⟨c0, e1, e2⟩ := a3 p' cv hcv
        exact ⟨c0, e1, hE _ _ e2 LamX.codeO_ne⟩
    · have n1 : b ≠ c' := fun z => Nat.lt_irrefl _ (Nat.lt_of_lt_of_le (sz b hb) (by rw [z]; exact hge))
      have n2 : b ≠ P := fun z => by
        have := (f2 b hb).1
        rw [z, hP] at this
        cases this
      rw [upd_ne n1, upd_ne n2]
      exact (f2 b hb).1
  | some cv =>
    refine wpAny_genexprCode_hit hcode (cd.code hP' ht) hc ?_
    exact cont cv s2 H2 I2 (LamX.ExtN.refl H2) hT rfl (fun b o _ e => e) (fun b hb => (f2 b hb).1) (Nat.le_refl _)
/-- the around of the element: over the consumer's loop -/
abbrev genA (X : Cx) (elt tg iter : Expr) (ifs : List Expr) (scope : Scope) (gpos : Pos) (it : Addr) (env : Env) : Around := X.A.in1.in1.over (.compLoop (.GeneratorExp elt [⟨tg, iter, ifs, 0⟩] scope gpos) 0 (.ref it) .none env) []
theorem genA_room {k : Nat} {elt tg iter : Expr} {ifs : List Expr} {scope : Scope} {gpos : Pos} {it : Addr} {env : Env} (hr : Room (k + 1) X.A) : Room k (genA X elt tg iter ifs scope gpos it env) :=
  ⟨hr.hd, by have := hr.dp; show X.A.depth + 1 + 3 * k + 5 < _; omega, by have := hr.un; show X.A.units + 5 + 16 * k + 200 < _; omega⟩
theorem genA_frames {elt tg iter : Expr} {ifs : List Expr} {scope : Scope} {gpos : Pos} {it : Addr} {env : Env} {st : List Env} (h : X.A.frames = some st) : (genA X elt tg iter ifs scope gpos it env).frames = some (env :: st) := by
  show pushEnvs [env] X.A.frames = _
  rw [h]
  rfl
theorem ge_ready {k N : Nat} {elt tg iter : Expr} {ifs : List Expr} {scope : Scope} {gpos : Pos} {own : List (Str × Nat)} {H4 : Hp} {J : It} {a : Addr} {s5 s6 : Shared} {gd : TG} {tt : TT} {te : TE} {Rest : Nat → List (Addr × Obj) → Hp → Prop} {Dn : List (Addr × Obj) → Hp → Prop} {Yl : Nat → List (Addr × Obj) → V → Hp → Prop}
    (hr : Room (k + 1) X.A) (hN : X.N.Nodup) (ok : BlkOk X.N X.env.scope scope own) (gk : GenOk scope) (hnew : GNew X pins σ elt tg iter ifs scope gpos H4 J a s5)
    (hg : ∀ (A : Around) (s : Shared) (H : Hp) (C : Addr) (cl : List (Str × Addr)) (code : Value) (fp : List Addr), Room k A → PG (genCx X A s H (genEnv scope cl C code builtinsNs X.env) fp) tg gd)
    (ht : ∀ (A : Around) (s : Shared) (H : Hp) (C : Addr) (cl : List (Str × Addr)) (code : Value) (fp : List Addr), Room k A → PTs (genCx X A s H (genEnv scope cl C code builtinsNs X.env) fp) ifs tt)
    (he : ∀ (A : Around) (s : Shared) (H : Hp) (C : Addr) (cl : List (Str × Addr)) (code : Value) (fp : List Addr), Room k A → PE (genCx X A s H (genEnv scope cl C code builtinsNs X.env) fp) elt te)
    {S : List Addr} {ps : List (Addr × Obj)} (turn : ∀ i ps H, ps.map (·.1) = S → Rest i ps H → (J.stop i H ∧ Dn ps H) ∨ (i < N ∧ J.go i H ∧ ∀ x H', J.yld i H x H' → gd x (wipe σ (own.map (·.2))) H' fun σ2 H2 => wipe σ2 (own.map (·.2)) = wipe σ (own.map (·.2)) ∧ tt σ2 H2 fun b H3 => if b = true then te σ2 H3 fun y H4 => Yl i ps y H4 else Rest (i + 1) ps H3))
    (hS : ∀ b ∈ S, s5.heap.objs.size ≤ b) (hps : Held S ps s6) (kp : ∀ b o, s5.heap.get? b = some o → s6.heap.get? b = some o) (e6 : ∃ h6 t6, s6 = { s5 with heap := h6, toks := t6 }) :
    ∃ g : Ge, g.pa.1 = a ∧ g.S = S ∧ g.Xg.prog = X.prog ∧ g.Xg.w = X.w ∧ GeOk g tg ∧ (∃ gi, (∀ h : Heap, h.get? g.pa.1 = some g.pa.2 → h.IsGen g.pa.1 gi) ∧ GAt g N Rest Dn Yl gi X.A.in1.in1 N 0 ps H4 s6) ∧ ∀ ps H' s', GEnd g ps H' s' → Inv X pins σ H' s' := by
  obtain ⟨s4, it, fp, tn, code, gs, tk, h5, m5, ob, I4, Tu, st4, f4, rfl, rfl, k5, n5, ha, hob, hgen, hnc⟩ := hnew.ex
  obtain ⟨h6, t6, rfl⟩ := e6
  generalize hgv : genEnv scope (cloFrom X.env.cells scope.names []) s4.heap.objs.size code builtinsNs X.env = gv
  have hC : gv.locals = s4.heap.objs.size := by rw [← hgv]; rfl
  have hG : AllBare (s4.gens.push (.fresh (.compStart (.GeneratorExp elt [⟨tg, iter, ifs, 0⟩] scope gpos) 0 (.ref it) .none gv))) := I4.bare.push rfl
  have I5 := gen_start (A := genA X elt tg iter ifs scope gpos it gv) (code := code) (tk := tk) I4 ok gk hN f4 hr.hd (by rw [hgv]; exact genA_frames I4.ok.frames) k5 n5 hG
  rw [hgv] at I5
  have I6 : Inv (genCx X (genA X elt tg iter ifs scope gpos it gv) s4 H4 gv fp) [] (wipe σ (own.map (·.2))) H4 { s4 with gens := s4.gens.push (.fresh (.compStart (.GeneratorExp elt [⟨tg, iter, ifs, 0⟩] scope gpos) 0 (.ref it) .none gv)), toks := t6, heap := h6 } := I5.kept (t' := t6) (h' := h6) kp
  have hz5 : s4.heap.objs.size < h5.objs.size := Nat.lt_trans ha (Heap.lt_size hob)
  have young : ∀ b, s4.heap.objs.size ≤ b → H4 b = none ∧ b ∉ frs X.stack := fun b hb => ⟨I4.hok.fresh hb, fun z => by
    rcases List.mem_cons.mp (I4.stkSub b z) with z | z
    · exact absurd (Nat.lt_of_lt_of_le I4.lt hb) (by rw [z]; exact Nat.lt_irrefl _)
    · exact I4.nofs hb z⟩
  have bigS : ∀ b ∈ S, s4.heap.objs.size ≤ b ∧ a < b := fun b hb => by
    have h1 : h5.objs.size ≤ b := hS b hb
    exact ⟨Nat.le_trans (Nat.le_of_lt hz5) h1, Nat.lt_of_lt_of_le (Heap.lt_size hob) h1⟩
  have I7 : Inv (genCx X (genA X elt tg iter ifs scope gpos it gv) s4 H4 gv fp) ((a, ob) :: ps) (wipe σ (own.map (·.2))) H4 { s4 with gens := s4.gens.push (.fresh (.compStart (.GeneratorExp elt [⟨tg, iter, ifs, 0⟩] scope gpos) 0 (.ref it) .none gv)), toks := t6, heap := h6 } := I6.pins_of fun p hp => by
    rcases List.mem_cons.mp hp with z | z
    · rw [z]
      obtain ⟨y1, y2⟩ := young a (Nat.le_of_lt ha)
      exact ⟨kp _ _ hob, y1, by show a ≠ gv.locals; rw [hC]; exact Nat.ne_of_gt ha, y2, hnc⟩
    · obtain ⟨q2, q3⟩ := hps.ok p z
      have q1 : p.1 ∈ S := by rw [← hps.at_]; exact List.mem_map.mpr ⟨p, z, rfl⟩
      obtain ⟨y1, y2⟩ := young p.1 (bigS _ q1).1
      exact ⟨q2, y1, by show p.1 ≠ gv.locals; rw [hC]; exact Nat.ne_of_gt (Nat.lt_trans ha (bigS _ q1).2), y2, q3⟩
  have nfp : ∀ b ∈ fp, H4 b = none := fun b hb => (f4 b hb).1.1
  have st6 : tn 0 h6 := Tu.keep _ _ _ st4 fun b _ o e => kp b o (k5 b o e)
  let g : Ge := { Xg := genCx X (genA X elt tg iter ifs scope gpos it gv) s4 H4 gv fp, pa := (a, ob), S := S, σ0 := wipe σ (own.map (·.2)), fp := fp, it := it, tn := tn, J := J, vs := own.map (·.2) }
  have gok : GeOk g tg := by
    refine ⟨rfl, rfl, rfl, rfl, Tu, fun b hb => ⟨(bigS b hb).1, ?_, Nat.ne_of_gt (bigS b hb).2, fun z => ?_, fun x c e z => ?_⟩, fun z => ?_⟩
    · show b ≠ gv.locals
      rw [hC]
      exact Nat.ne_of_gt (Nat.lt_trans ha (bigS b hb).2)
    · exact absurd (Nat.lt_of_lt_of_le (f4 b z).2 (bigS b hb).1) (Nat.lt_irrefl _)
    · obtain ⟨v, zc⟩ := I5.cell x c e
      have h1 : c < h5.objs.size := zc.lt
      have h2 : h5.objs.size ≤ b := hS b hb
      rw [z] at h1
      exact absurd (Nat.lt_of_lt_of_le h1 h2) (Nat.lt_irrefl _)
    · exact absurd (Nat.lt_trans (f4 a z).2 ha) (Nat.lt_irrefl _)
  have hI : GInv g 0 ps H4 { s4 with gens := s4.gens.push (.fresh (.compStart (.GeneratorExp elt [⟨tg, iter, ifs, 0⟩] scope gpos) 0 (.ref it) .none gv)), toks := t6, heap := h6 } := ⟨hps.at_, I7, st6, nfp⟩
  have room := genA_room (elt := elt) (tg := tg) (iter := iter) (ifs := ifs) (scope := scope) (gpos := gpos) (it := it) (env := gv) hr
  refine ⟨g, rfl, rfl, rfl, rfl, gok, ⟨s4.gens.size, hgen, hI, _, Array.getElem?_push_size .., fun s' ps' hz hd hR => ⟨rfl, ?_⟩⟩, fun ps H' s' ⟨_, I', hn'⟩ => ?_⟩
  · have hI' := hI.slept gok hz hd
    refine seg_ge0 gok hI' (seg_ge gok rfl ?_ ?_ ?_ ?_ ?_ turn N 0 N s' s' H4 ps' (Nat.sub_zero _) (Nat.le_refl _) hI' hd hR)
    · show gv.scope.isCoroutine = false
      rw [← hgv]; exact gk.co
    · have := hg (genA X elt tg iter ifs scope gpos it gv) s4 H4 s4.heap.objs.size (cloFrom X.env.cells scope.names []) code fp room
      rw [hgv] at this; exact this
    · have := ht (genA X elt tg iter ifs scope gpos it gv) s4 H4 s4.heap.objs.size (cloFrom X.env.cells scope.names []) code fp room
      rw [hgv] at this; exact this
    · have := he (genA X elt tg iter ifs scope gpos it gv) s4 H4 s4.heap.objs.size (cloFrom X.env.cells scope.names []) code fp room
      rw [hgv] at this; exact this
    · exact wipe_wipe _
  · exact I4.call' (ch := fp) I'.os I'.base I'.hok I'.bare fun b hb => ⟨(f4 b hb).1.2.2.2.1, (f4 b hb).1.2.1, (f4 b hb).1.2.2.2.2.1, (f4 b hb).1.2.2.2.2.2⟩
def YlB (Qx : Hp → Prop) (Rest : Nat → List (Addr × Obj) → Hp → Prop) (x : Bool) (i : Nat) (ps : List (Addr × Obj)) (y : V) (H : Hp) : Prop := ∃ c, y = .bl c ∧ if c = x then Qx H else Rest (i + 1) ps H
theorem any_loop {g : Ge} {tg : Expr} {N gi : Nat} {A : Around} {Rest : Nat → List (Addr × Obj) → Hp → Prop} {Qx Dn : Hp → Prop} {R : Result → Shared → Prop} (k : GeOk g tg) (hS : g.S = []) (hgen : ∀ h : Heap, h.get? g.pa.1 = some g.pa.2 → h.IsGen g.pa.1 gi) (hh : A.handled = none) (hroom : A.depth < recursionLimit)
    (hx : ∀ ps H' s', GEnd g ps H' s' → Qx H' → R (.ok (.ret (.bool true))) s') (hd : ∀ ps H' s', GEnd g ps H' s' → Dn H' → R (.ok (.ret (.bool false))) s') : ∀ (n i : Nat) (ps : List (Addr × Obj)) (H : Hp) (s : Shared),
    GAt g N Rest (fun _ => Dn) (YlB Qx Rest true) gi A.in1.in1 n i ps H s → Rest i ps H → codeAny (model g.Xg.prog g.Xg.w) A (.builtin "any.loop" ⟨[.ref g.pa.1], []⟩) R s := by
  intro n
  induction n using Nat.strongRecOn with
  | ind n ih =>
    intro i ps H s hG hR
    refine codeAny_builtin F.entry_any_loop ?_
    rw [Around.under_plainId F.plain_any_loop _]
    show wpAny _ A.in1 (pyNext (.ref g.pa.1) >>= _) _ _ s
    refine wpAny_bind (ge_next (A := A.in1) k hgen hh hroom hG hR (fun j x v H' s' rv hy hI next => ?_) fun H' s' hE hD => ?_)
    · obtain ⟨c, rfl, hc⟩ := hy
      obtain rfl : v = Value.bool c := rv
      refine wpAny_bind (wpAny_holding (wpAny_truthy_bool ?_))
      refine wpAny_bind (wpAny_letGo ?_)
      cases c with
      | false =>
        simp only [Bool.false_eq_true, if_false] at hc ⊢
        obtain ⟨n', hn', hG'⟩ := next s' ps ⟨rfl, hI.inv.bare, fun _ _ _ e => e⟩ hI.end.held rfl hc
        exact wpAny_pure ⟨plainId_quiet F.plain_any_loop _, ih n' (by omega) (j + 1) ps H' s' hG' hc⟩
      | true =>
        simp only [if_true] at hc ⊢
        exact wpAny_bind (wpAny_rule (wpAny_pure (hx ps H' s' hI.end hc)))
    · exact wpAny_bind (wpAny_rule (wpAny_pure (hd ps H' s' hE hD)))
theorem all_loop {g : Ge} {tg : Expr} {N gi : Nat} {A : Around} {Rest : Nat → List (Addr × Obj) → Hp → Prop} {Qx Dn : Hp → Prop} {R : Result → Shared → Prop} (k : GeOk g tg) (hS : g.S = []) (hgen : ∀ h : Heap, h.get? g.pa.1 = some g.pa.2 → h.IsGen g.pa.1 gi) (hh : A.handled = none) (hroom : A.depth < recursionLimit)
    (hx : ∀ ps H' s', GEnd g ps H' s' → Qx H' → R (.ok (.ret (.bool false))) s') (hd : ∀ ps H' s', GEnd g ps H' s' → Dn H' → R (.ok (.ret (.bool true))) s') : ∀ (n i : Nat) (ps : List (Addr × Obj)) (H : Hp) (s : Shared),
    GAt g N Rest (fun _ => Dn) (YlB Qx Rest false) gi A.in1.in1 n i ps H s → Rest i ps H → codeAny (model g.Xg.prog g.Xg.w) A (.builtin "all.loop" ⟨[.ref g.pa.1], []⟩) R s := by
  intro n
  induction n using Nat.strongRecOn with
  | ind n ih =>
    intro i ps H s hG hR
    refine codeAny_builtin F.entry_all_loop ?_
    rw [Around.under_plainId F.plain_all_loop _]
    show wpAny _ A.in1 (pyNext (.ref g.pa.1) >>= _) _ _ s
    refine wpAny_bind (ge_next (A := A.in1) k hgen hh hroom hG hR (fun j x v H' s' rv hy hI next => ?_) fun H' s' hE hD => ?_)
    · obtain ⟨c, rfl, hc⟩ := hy
      obtain rfl : v = Value.bool c := rv
      refine wpAny_bind (wpAny_holding (wpAny_truthy_bool ?_))
      refine wpAny_bind (wpAny_letGo ?_)
      cases c with
      | true =>
        simp only [Bool.true_eq_false, if_false, if_true] at hc ⊢
        obtain ⟨n', hn', hG'⟩ := next s' ps ⟨rfl, hI.inv.bare, fun _ _ _ e => e⟩ hI.end.held rfl hc
        exact wpAny_pure ⟨plainId_quiet F.plain_all_loop _, ih n' (by omega) (j + 1) ps H' s' hG' hc⟩
      | false =>
        simp only [if_true, Bool.false_eq_true, if_false] at hc ⊢
        exact wpAny_bind (wpAny_rule (wpAny_pure (hx ps H' s' hI.end hc)))
    · exact wpAny_bind (wpAny_rule (wpAny_pure (hd ps H' s' hE hD)))
/-- any(elt for tg in iter if ..), all(..): x the value that ends it -/
def tAnyE (T : List (Addr × Str)) (x : Bool) (wi : TI) (gd : TG) (tt : TT) (te : TE) (vs : List Nat) : TE := fun σ H Q => wi σ H fun J H1 => LamX.Tabs T H1 ∧ ∀ H2, LamX.ExtN H1 H2 → LamX.Tabs T H2 → ∃ (N : Nat) (Rest : Nat → Hp → Prop), Rest 0 H2 ∧
  ∀ i H, Rest i H → (J.stop i H ∧ Q (.bl (!x)) H) ∨ (i < N ∧ J.go i H ∧ ∀ v H', J.yld i H v H' → gd v (wipe σ vs) H' fun σ2 H3 => wipe σ2 vs = wipe σ vs ∧ tt σ2 H3 fun b H4 => if b = true then te σ2 H4 fun y H5 => ∃ c, y = .bl c ∧ (if c = x then Q (.bl x) H5 else Rest (i + 1) H5) else Rest (i + 1) H4)
theorem pe_anyE {T : List (Addr × Str)} {c P : Addr} {elt tg iter : Expr} {ifs : List Expr} {scope : Scope} {gpos p pos : Pos} {own : List (Str × Nat)} {wi : TI} {gd : TG} {tt : TT} {te : TE} {k : Nat}
    (hr : Room (k + 1) X.A) (hgl : Gl X "any") (hm : X.mg "any" = none) (TB : LamX.TabB X.base X.mg c P) (hcode : X.env.code = .ref c) (hmT : (P, X.env.qual ++ "<genexpr>") ∈ T) (hu : ∀ p ∈ T, p.1 = P → p.2 = X.env.qual ++ "<genexpr>") (hN : X.N.Nodup)
    (hi : PI X tg iter wi) (ok : BlkOk X.N X.env.scope scope own) (gk : GenOk scope)
    (hg : ∀ (A : Around) (s : Shared) (H : Hp) (C : Addr) (cl : List (Str × Addr)) (code : Value) (fp : List Addr), Room k A → PG (genCx X A s H (genEnv scope cl C code builtinsNs X.env) fp) tg gd)
    (ht : ∀ (A : Around) (s : Shared) (H : Hp) (C : Addr) (cl : List (Str × Addr)) (code : Value) (fp : List Addr), Room k A → PTs (genCx X A s H (genEnv scope cl C code builtinsNs X.env) fp) ifs tt)
    (he : ∀ (A : Around) (s : Shared) (H : Hp) (C : Addr) (cl : List (Str × Addr)) (code : Value) (fp : List Addr), Room k A → PE (genCx X A s H (genEnv scope cl C code builtinsNs X.env) fp) elt te)
    (hs : ∀ v, genFold iter X.env v = pure v)
    (hse : starEach [.GeneratorExp elt [⟨tg, iter, ifs, 0⟩] scope gpos] X.env = (false, eval (.GeneratorExp elt [⟨tg, iter, ifs, 0⟩] scope gpos) X.env) :: starEach [] X.env := by rfl) :
    PE X (.Call (.Name "any" p) [.GeneratorExp elt [⟨tg, iter, ifs, 0⟩] scope gpos] [] pos) (tAnyE T true wi gd tt te (own.map (·.2))) := by
  refine ⟨fun pins s σ H Q I h => ?_⟩
  refine wpAny_Call_Name_kw (ld_blt I hgl hm boot_any ?_)
  refine PyProof.Rows.callWith_builtin1 ?_ hse (by rfl)
  rw [hse]
  show wpAny _ _ (spliced ((false, eval (.GeneratorExp elt [⟨tg, iter, ifs, 0⟩] scope gpos) X.env) :: backTo pos (starEach [] X.env))) _ _ s
  refine Calls.spliced_cons (ge_make I hr TB hcode hmT hu hi ok gk hs h fun J H1 h1 => ⟨h1.1, fun H2 x2 t2 a s5 hnew => ?_⟩)
  refine Calls.spliced_nil ?_
  obtain ⟨N, Rest, hR0, turn⟩ := h1.2 H2 x2 t2
  obtain ⟨g, ea, eS, ep, ew, gok, ⟨gi, hgen, hG⟩, back⟩ := ge_ready (N := N) (Rest := fun i _ H => Rest i H) (Dn := fun _ H => Q (.bl false) H) (Yl := YlB (Q (.bl true)) (fun i _ H => Rest i H) true) (S := []) (ps := []) hr hN ok gk hnew hg ht he
    (fun i ps H _ hR => turn i H hR) (fun b hb => by cases hb) ⟨rfl, fun p hp => by cases hp⟩ (fun _ _ e => e) ⟨s5.heap, s5.toks, rfl⟩
  refine call_function_tree F.kind_any F.plain_any F.entry_any (F.args_any1 _) ?_
  unfold Builtin.«any»
  refine wpAny_bind (m := oneArg "any" _) (wpAny_pure ?_)
  rw [← ea, ← ep, ← ew]
  refine wpAny_bind (wpAny_pyIter_gen (hgen _ hG.1.obj) ?_)
  exact wpAny_pure ⟨plainId_quiet F.plain_any_loop _, any_loop gok eS hgen hr.hd hr.depth (fun ps H' s' hE q => ⟨.bl true, H', back ps H' s' hE, rfl, q⟩) (fun ps H' s' hE q => ⟨.bl false, H', back ps H' s' hE, rfl, q⟩) N 0 [] H2 s5 hG hR0⟩
theorem pe_allE {T : List (Addr × Str)} {c P : Addr} {elt tg iter : Expr} {ifs : List Expr} {scope : Scope} {gpos p pos : Pos} {own : List (Str × Nat)} {wi : TI} {gd : TG} {tt : TT} {te : TE} {k : Nat}
    (hr : Room (k + 1) X.A) (hgl : Gl X "all") (hm : X.mg "all" = none) (hb : bootBuiltins "all" = some (.builtin "all")) (TB : LamX.TabB X.base X.mg c P) (hcode : X.env.code = .ref c) (hmT : (P, X.env.qual ++ "<genexpr>") ∈ T) (hu : ∀ p ∈ T, p.1 = P → p.2 = X.env.qual ++ "<genexpr>") (hN : X.N.Nodup)
    (hi : PI X tg iter wi) (ok : BlkOk X.N X.env.scope scope own) (gk : GenOk scope)
    (hg : ∀ (A : Around) (s : Shared) (H : Hp) (C : Addr) (cl : List (Str × Addr)) (code : Value) (fp : List Addr), Room k A → PG (genCx X A s H (genEnv scope cl C code builtinsNs X.env) fp) tg gd)
    (ht : ∀ (A : Around) (s : Shared) (H : Hp) (C : Addr) (cl : List (Str × Addr)) (code : Value) (fp : List Addr), Room k A → PTs (genCx X A s H (genEnv scope cl C code builtinsNs X.env) fp) ifs tt)
    (he : ∀ (A : Around) (s : Shared) (H : Hp) (C : Addr) (cl : List (Str × Addr)) (code : Value) (fp : List Addr), Room k A → PE (genCx X A s H (genEnv scope cl C code builtinsNs X.env) fp) elt te)
    (hs : ∀ v, genFold iter X.env v = pure v)
    (hse : starEach [.GeneratorExp elt [⟨tg, iter, ifs, 0⟩] scope gpos] X.env = (false, eval (.GeneratorExp elt [⟨tg, iter, ifs, 0⟩] scope gpos) X.env) :: starEach [] X.env := by rfl) :
    PE X (.Call (.Name "all" p) [.GeneratorExp elt [⟨tg, iter, ifs, 0⟩] scope gpos] [] pos) (tAnyE T false wi gd tt te (own.map (·.2))) := by
  refine ⟨fun pins s σ H Q I h => ?_⟩
  refine wpAny_Call_Name_kw (ld_blt I hgl hm hb ?_)
  refine PyProof.Rows.callWith_builtin1 ?_ hse (by rfl)
  rw [hse]
  show wpAny _ _ (spliced ((false, eval (.GeneratorExp elt [⟨tg, iter, ifs, 0⟩] scope gpos) X.env) :: backTo pos (starEach [] X.env))) _ _ s
  refine Calls.spliced_cons (ge_make I hr TB hcode hmT hu hi ok gk hs h fun J H1 h1 => ⟨h1.1, fun H2 x2 t2 a s5 hnew => ?_⟩)
  refine Calls.spliced_nil ?_
  obtain ⟨N, Rest, hR0, turn⟩ := h1.2 H2 x2 t2
  obtain ⟨g, ea, eS, ep, ew, gok, ⟨gi, hgen, hG⟩, back⟩ := ge_ready (N := N) (Rest := fun i _ H => Rest i H) (Dn := fun _ H => Q (.bl true) H) (Yl := YlB (Q (.bl false)) (fun i _ H => Rest i H) false) (S := []) (ps := []) hr hN ok gk hnew hg ht he
    (fun i ps H _ hR => turn i H hR) (fun b hb => by cases hb) ⟨rfl, fun p hp => by cases hp⟩ (fun _ _ e => e) ⟨s5.heap, s5.toks, rfl⟩
  refine call_function_tree F.kind_all F.plain_all F.entry_all (F.args_all1 _) ?_
  unfold Builtin.«all»
  refine wpAny_bind (m := oneArg "all" _) (wpAny_pure ?_)
  rw [← ea, ← ep, ← ew]
  refine wpAny_bind (wpAny_pyIter_gen (hgen _ hG.1.obj) ?_)
  exact wpAny_pure ⟨plainId_quiet F.plain_all_loop _, all_loop gok eS hgen hr.hd hr.depth (fun ps H' s' hE q => ⟨.bl false, H', back ps H' s' hE, rfl, q⟩) (fun ps H' s' hE q => ⟨.bl true, H', back ps H' s' hE, rfl, q⟩) N 0 [] H2 s5 hG hR0⟩
end
end DL
set_option Elab.async false
set_option linter.all false
set_option maxRecDepth 100000
set_option maxHeartbeats 1000000
namespace DL
open PySem L2 PySem.Spec PyProof.Rows GenW
def anyC (x : Bool) (gd : D → LE → Option LE) (tt : LE → R Bool) (te : LE → R D) (r : LE) : List D → R Bool
  | [] => .ok (!x)
  | d :: ds => match gd d r with
    | none => .stuck
    | some r' => do
      if (← (tt r').calm) then do
        match ← (te r').calm with
        | .bl c => if c = x then .ok x else anyC x gd tt te r ds
        | _ => .stuck
      else anyC x gd tt te r ds
def anyE (x : Bool) (fi : LE → R (List D)) (gd : D → LE → Option LE) (tt : LE → R Bool) (te : LE → R D) (vs : List Nat) : LE → R D := fun r => do
  let ds ← fi r
  let b ← anyC x gd tt te (wipeL r vs) ds
  .ok (.bl b)
theorem ext_grow {dl : Addr} {H H' : Hp} (e : LamX.ExtN H H') : Grow dl H H' := fun a o h _ n => e a o h n
section
variable {X : Cx} {G : Gm} {W : WX} {tg iter : Expr} {fi : LE → R (List D)} {gd : D → LE → Option LE} {is vs : List Nat} {tt : LE → R Bool} {te : LE → R D}
theorem any_core_d {T : List (Addr × Str)} (hT : T = G.tabs) (x : Bool) (hsub : ∀ j ∈ is, j ∈ vs) {sg : L2.St} {H : Hp} {Q : VK} (h : tD G W (anyE x fi gd tt te vs) sg H Q) : tAnyE T x (tIe G W fi) (tGd G gd is) (tT G W0 tt) (tD G W0 te) vs sg H Q := by
  subst hT
  obtain ⟨dl, Z, O, r, A, q⟩ := h
  refine ⟨dl, Z, O, r, A, q.bind.thn fun ds hds J B H1 g1 k1 wk hB => ⟨k1.tab, fun H2 x2 t2 => ?_⟩⟩
  have k2 : GlOk G dl H2 := k1.ofExt x2 t2
  have A1 := A.grow g1 k1
  have g2 : Grow dl H1 H2 := ext_grow x2
  have A2 := A1.grow g2 k2
  have hds := hds.bind
  refine ⟨ds.length, fun i H' => i ≤ ds.length ∧ At G dl Z O r sg H' ∧ Grow dl H H' ∧ B Z H' ∧
    Wp (anyC x gd tt te (wipeL r vs) (ds.drop i)) (fun b => ∀ v H2, Grow dl H H2 → GlOk G dl H2 → Rep G dl (cut H2 Z) (.bl b) v → Q v H2) (fun e => ∀ cls dx H', Grow dl H H' → GlOk G dl H' → XRep G dl (cut H' Z) e cls dx H' → W cls dx sg H'),
    ⟨Nat.zero_le _, A2, g1.trans g2, wk.mono _ _ _ _ (g2.cut A.dz) g2 hB, by simpa using hds⟩, ?_⟩
  rintro i H' ⟨hi', A', gH, hB', hw⟩
  by_cases hlt : i < ds.length
  · have hdrop : ds.drop i = ds[i] :: ds.drop (i + 1) := List.drop_eq_getElem_cons hlt
    rw [hdrop] at hw
    refine .inr ⟨hlt, wk.go i Z H' hB' hlt, fun v H3 hy => ?_⟩
    obtain ⟨g3, k3, rp⟩ := wk.yld i Z O r sg H' v H3 A' hB' hy ds[i] (by simp)
    have A3 := A'.grow g3 k3
    unfold anyC at hw
    cases hgd : gd ds[i] (wipeL r vs) with
    | none => rw [hgd] at hw; exact hw.elim
    | some r2 =>
      rw [hgd] at hw
      refine ⟨dl, Z, O, wipeL r vs, ds[i], A3.wipe vs, rp, r2, hgd, fun sg3 hl3 hs3 A4 => ⟨?_, ?_⟩⟩
      · exact (wipe_same hl3 fun j hj => hs3 j fun z => hj (hsub j z)).trans (wipe_wipe vs)
      refine ⟨dl, Z, O, r2, A4, (calm_wp hw.bind).mono (fun b hb H4 g4 k4 => ?_) fun e he => he⟩
      have A5 := A4.grow g4 k4
      have C4 : At G dl Z O r sg H4 := A3.grow g4 k4
      have gg : Grow dl H H4 := (gH.trans g3).trans g4
      have hB4 : B Z H4 := wk.mono _ _ _ _ (g4.cut A.dz) g4 (wk.mono _ _ _ _ (g3.cut A.dz) g3 hB')
      cases b with
      | false => exact ⟨hlt, C4, gg, hB4, hb⟩
      | true =>
        refine ⟨dl, Z, O, r2, A5, (calm_wp hb.bind).mono (fun y hy2 w H5 g5 k5 rp5 => ?_) fun e he => he⟩
        have C5 : At G dl Z O r sg H5 := C4.grow g5 k5
        have hB5 : B Z H5 := wk.mono _ _ _ _ (g5.cut A.dz) g5 hB4
        cases y with
        | bl c =>
          unfold Rep at rp5
          refine ⟨c, rp5, ?_⟩
          by_cases hc : c = x
          · rw [if_pos hc]
            have hy3 : Wp (if c = x then R.ok x else anyC x gd tt te (wipeL r vs) (ds.drop (i + 1))) _ _ := hy2
            rw [if_pos hc] at hy3
            exact hy3 (.bl x) H5 (gg.trans g5) k5 (by unfold Rep; rfl)
          · rw [if_neg hc]
            have hy3 : Wp (if c = x then R.ok x else anyC x gd tt te (wipeL r vs) (ds.drop (i + 1))) _ _ := hy2
            rw [if_neg hc] at hy3
            exact ⟨hlt, C5, gg.trans g5, hB5, hy3⟩
        | _ => exact hy2.elim
  · have e : i = ds.length := by omega
    subst e
    rw [List.drop_length] at hw
    exact .inl ⟨wk.stop _ _ H' hB' (Nat.le_refl _), hw (.bl (!x)) H' gH A'.gl (by unfold Rep; rfl)⟩
abbrev GenC (X : Cx) (k : Nat) (scope : Scope) (P : Cx → Prop) : Prop := ∀ (A : Around) (s : Shared) (H : Hp) (C : Addr) (cl : List (Str × Addr)) (code : Value) (fp : List Addr), Room k A → P (genCx X A s H (genEnv scope cl C code builtinsNs X.env) fp)
theorem de_any {c P : Addr} {elt : Expr} {ifs : List Expr} {scope : Scope} {gpos p pos : Pos} {own : List (Str × Nat)} {k : Nat}
    (hr : Room (k + 1) X.A) (hgl : Gl X "any") (hm : X.mg "any" = none) (TB : LamX.TabB X.base X.mg c P) (hcode : X.env.code = .ref c) (hmT : (P, X.env.qual ++ "<genexpr>") ∈ G.tabs) (hu : ∀ p ∈ G.tabs, p.1 = P → p.2 = X.env.qual ++ "<genexpr>") (hN : X.N.Nodup)
    (hi : DIe X G W tg iter fi) (ok : BlkOk X.N X.env.scope scope own) (gk : GenOk scope)
    (hg : GenC X k scope fun Y => DG Y G tg gd is) (ht : GenC X k scope fun Y => DTs Y G W0 ifs tt) (he : GenC X k scope fun Y => DE Y G W0 elt te)
    (hsub : ∀ j ∈ is, j ∈ own.map (·.2)) (hs : ∀ v, genFold iter X.env v = pure v := by intro _; rfl)
    (hse : starEach [.GeneratorExp elt [⟨tg, iter, ifs, 0⟩] scope gpos] X.env = (false, eval (.GeneratorExp elt [⟨tg, iter, ifs, 0⟩] scope gpos) X.env) :: starEach [] X.env := by rfl) :
    DE X G W (.Call (.Name "any" p) [.GeneratorExp elt [⟨tg, iter, ifs, 0⟩] scope gpos] [] pos) (anyE true fi gd tt te (own.map (·.2))) :=
  PE_imp (pe_anyE (T := G.tabs) hr hgl hm TB hcode hmT hu hN hi ok gk hg ht he hs hse) fun sg H Q h => any_core_d rfl true hsub h
theorem de_all {c P : Addr} {elt : Expr} {ifs : List Expr} {scope : Scope} {gpos p pos : Pos} {own : List (Str × Nat)} {k : Nat}
    (hr : Room (k + 1) X.A) (hgl : Gl X "all") (hm : X.mg "all" = none) (TB : LamX.TabB X.base X.mg c P) (hcode : X.env.code = .ref c) (hmT : (P, X.env.qual ++ "<genexpr>") ∈ G.tabs) (hu : ∀ p ∈ G.tabs, p.1 = P → p.2 = X.env.qual ++ "<genexpr>") (hN : X.N.Nodup)
    (hi : DIe X G W tg iter fi) (ok : BlkOk X.N X.env.scope scope own) (gk : GenOk scope)
    (hg : GenC X k scope fun Y => DG Y G tg gd is) (ht : GenC X k scope fun Y => DTs Y G W0 ifs tt) (he : GenC X k scope fun Y => DE Y G W0 elt te)
    (hsub : ∀ j ∈ is, j ∈ own.map (·.2)) (hs : ∀ v, genFold iter X.env v = pure v := by intro _; rfl) (hb : bootBuiltins "all" = some (.builtin "all") := by rfl)
    (hse : starEach [.GeneratorExp elt [⟨tg, iter, ifs, 0⟩] scope gpos] X.env = (false, eval (.GeneratorExp elt [⟨tg, iter, ifs, 0⟩] scope gpos) X.env) :: starEach [] X.env := by rfl) :
    DE X G W (.Call (.Name "all" p) [.GeneratorExp elt [⟨tg, iter, ifs, 0⟩] scope gpos] [] pos) (anyE false fi gd tt te (own.map (·.2))) :=
  PE_imp (pe_allE (T := G.tabs) hr hgl hm hb TB hcode hmT hu hN hi ok gk hg ht he hs hse) fun sg H Q h => any_core_d rfl false hsub h
end
end DL
set_option Elab.async false
set_option linter.all false
set_option maxRecDepth 100000
set_option maxHeartbeats 1000000
namespace DL
open PySem L2 PySem.Spec PyProof.Rows GenW
abbrev sumObj (acc : Int) (tA : Tok) (c : Nat) : Obj := { cls := .type "list", dict := none, data := .seq #[.int acc tA] c, slots := #[] }
def RestS (S : Addr) (RestA : Int → Nat → Hp → Prop) (i : Nat) (ps : List (Addr × Obj)) (H : Hp) : Prop := ∃ acc tA c, ps = [(S, sumObj acc tA c)] ∧ RestA acc i H
def DnS (S : Addr) (Qd : Int → Hp → Prop) (ps : List (Addr × Obj)) (H : Hp) : Prop := ∃ acc tA c, ps = [(S, sumObj acc tA c)] ∧ Qd acc H
def YlS (S : Addr) (RestA : Int → Nat → Hp → Prop) (i : Nat) (ps : List (Addr × Obj)) (y : V) (H : Hp) : Prop := ∃ acc tA c v, ps = [(S, sumObj acc tA c)] ∧ y = .int v ∧ InLong v ∧ InLong (acc + v) ∧ RestA (acc + v) (i + 1) H
theorem one_inj {S : Addr} {a b : Int} {t u : Tok} {c d : Nat} (h : ([(S, sumObj a t c)] : List (Addr × Obj)) = [(S, sumObj b u d)]) : a = b ∧ t = u ∧ c = d := by
  injection h with h _
  injection h with _ h
  injection h with _ _ h _
  injection h with h1 h2
  injection h1 with h1
  injection h1 with h1 _
  injection h1 with h1 h3
  exact ⟨h1, h3, h2⟩
theorem sum_loop {g : Ge} {tg : Expr} {N gi : Nat} {S : Addr} {A : Around} {RestA : Int → Nat → Hp → Prop} {Qd : Int → Hp → Prop} {R : Result → Shared → Prop} (k : GeOk g tg) (hS : g.S = [S]) (hgen : ∀ h : Heap, h.get? g.pa.1 = some g.pa.2 → h.IsGen g.pa.1 gi) (hh : A.handled = none) (hroom : A.depth < recursionLimit)
    (hd : ∀ ps H' s' acc t, GEnd g ps H' s' → Qd acc H' → R (.ok (.ret (.int acc t))) s') : ∀ (n i : Nat) (acc : Int) (tA : Tok) (c : Nat) (H : Hp) (s : Shared),
    GAt g N (RestS S RestA) (DnS S Qd) (YlS S RestA) gi A.in1.in1 n i [(S, sumObj acc tA c)] H s → RestA acc i H → codeAny (model g.Xg.prog g.Xg.w) A (.builtin "sum.loop" ⟨[.ref g.pa.1, .ref S, rawInt 0, rawInt 0], []⟩) R s := by
  intro n
  induction n using Nat.strongRecOn with
  | ind n ih =>
    intro i acc tA c H s hG hR
    have hSs : s.heap.get? S = some (sumObj acc tA c) := (hG.1.end.held.ok _ List.mem_cons_self).1
    refine codeAny_builtin F.entry_sum_loop ?_
    rw [Around.under_plainId F.plain_sum_loop _]
    show wpAny _ A.in1 (seqItems? (.ref S) >>= _) _ _ s
    refine wpAny_bind (wpAny_seqItems hSs rfl ?_)
    show wpAny _ A.in1 (tryCatch (pyNext (.ref g.pa.1)) _ >>= _) _ _ s
    refine wpAny_bind (wpAny_tryCatch (ge_next (A := A.in1) k hgen hh hroom hG ⟨acc, tA, c, rfl, hR⟩ (fun j x v H' s' rv hy hI next => ?_) fun H' s' hE hD => ?_))
    · obtain ⟨acc', tA', c', w, hps, rfl, ⟨f1, f2⟩, ⟨f3, f4⟩, hR'⟩ := hy
      obtain ⟨rfl, rfl, rfl⟩ := one_inj hps
      obtain ⟨t, rfl⟩ : ∃ t, v = Value.int w t := rv
      have hS' : s'.heap.get? S = some (sumObj acc tA c) := (hI.end.held.ok _ List.mem_cons_self).1
      have hc : ((decide (-(2 ^ 63) ≤ w) && decide (w < 2 ^ 63)) && (decide (-(2 ^ 63) ≤ acc + w) && decide (acc + w < 2 ^ 63))) = true := by
        simp only [Bool.and_eq_true, decide_eq_true_eq]
        exact ⟨⟨f1, f2⟩, f3, f4⟩
      show wpAny _ A.in1 (if (_ : Bool) = true then (mkInt (acc + w) >>= _) else _) _ _ _
      split
      · refine wpAny_bind (wpAny_mkInt ?_)
        show wpAny _ A.in1 (updateSeq S (fun _ => #[.int (acc + w) s'.toks]) >>= _) _ _ _
        refine wpAny_bind ?_
        refine wpAny_updateSeq hS' rfl (wpAny_pure ?_)
        have hu := Heap.get?_update_self (h := s'.heap) (Obj.mapSeq (fun _ => (#[.int (acc + w) s'.toks] : Array Value))) hS' rfl
        obtain ⟨n', hn', hG'⟩ := next { s' with toks := s'.toks + 1, heap := s'.heap.update S (Obj.mapSeq (fun _ => (#[.int (acc + w) s'.toks] : Array Value))) } [(S, sumObj (acc + w) s'.toks _)] ⟨rfl, hI.inv.bare, fun b o hb e => (Heap.get?_update_other _ _ (fun h : S = b => hb (by rw [hS, h]; exact List.mem_cons_self))).trans e⟩
          ⟨by rw [hS]; rfl, fun p hp => by rw [List.mem_singleton.mp hp]; exact ⟨hu, fun v e => by cases e⟩⟩ rfl ⟨acc + w, s'.toks, _, rfl, hR'⟩
        exact ⟨plainId_quiet F.plain_sum_loop _, ih n' (by omega) (j + 1) (acc + w) s'.toks _ H' _ hG' hR'⟩
      · rename_i hneg
        exact absurd hc hneg
    · obtain ⟨acc', tA', c', hps, hq⟩ := hD
      obtain ⟨rfl, rfl, rfl⟩ := one_inj hps
      exact wpAny_pure (hd _ H' s' acc tA hE hq)
/-- sum(elt for tg in iter if ..) -/
def tSumE (T : List (Addr × Str)) (wi : TI) (gd : TG) (tt : TT) (te : TE) (vs : List Nat) : TE := fun σ H Q => wi σ H fun J H1 => LamX.Tabs T H1 ∧ ∀ H2, LamX.ExtN H1 H2 → LamX.Tabs T H2 → ∃ (N : Nat) (Rest : Int → Nat → Hp → Prop), Rest 0 0 H2 ∧
  ∀ acc i H, Rest acc i H → (J.stop i H ∧ Q (.int acc) H) ∨ (i < N ∧ J.go i H ∧ ∀ v H', J.yld i H v H' → gd v (wipe σ vs) H' fun σ2 H3 => wipe σ2 vs = wipe σ vs ∧ tt σ2 H3 fun b H4 => if b = true then te σ2 H4 fun y H5 => ∃ v, y = .int v ∧ InLong v ∧ InLong (acc + v) ∧ Rest (acc + v) (i + 1) H5 else Rest acc (i + 1) H4)
section
variable {X : Cx}
theorem pe_sumE {T : List (Addr × Str)} {c P : Addr} {elt tg iter : Expr} {ifs : List Expr} {scope : Scope} {gpos p pos : Pos} {own : List (Str × Nat)} {wi : TI} {gd : TG} {tt : TT} {te : TE} {k : Nat}
    (mg_ : ∀ v σ H (Q Q' : L2.St → Hp → Prop), (∀ σ H, Q σ H → Q' σ H) → gd v σ H Q → gd v σ H Q') (mt : ∀ σ H (Q Q' : Bool → Hp → Prop), (∀ b H, Q b H → Q' b H) → tt σ H Q → tt σ H Q') (me : ∀ σ H (Q Q' : VK), (∀ v H, Q v H → Q' v H) → te σ H Q → te σ H Q')
    (hr : Room (k + 1) X.A) (hgl : Gl X "sum") (hm : X.mg "sum" = none) (hb : bootBuiltins "sum" = some (.builtin "sum")) (TB : LamX.TabB X.base X.mg c P) (hcode : X.env.code = .ref c) (hmT : (P, X.env.qual ++ "<genexpr>") ∈ T) (hu : ∀ p ∈ T, p.1 = P → p.2 = X.env.qual ++ "<genexpr>") (hN : X.N.Nodup)
    (hi : PI X tg iter wi) (ok : BlkOk X.N X.env.scope scope own) (gk : GenOk scope)
    (hg : ∀ (A : Around) (s : Shared) (H : Hp) (C : Addr) (cl : List (Str × Addr)) (code : Value) (fp : List Addr), Room k A → PG (genCx X A s H (genEnv scope cl C code builtinsNs X.env) fp) tg gd)
    (ht : ∀ (A : Around) (s : Shared) (H : Hp) (C : Addr) (cl : List (Str × Addr)) (code : Value) (fp : List Addr), Room k A → PTs (genCx X A s H (genEnv scope cl C code builtinsNs X.env) fp) ifs tt)
    (he : ∀ (A : Around) (s : Shared) (H : Hp) (C : Addr) (cl : List (Str × Addr)) (code : Value) (fp : List Addr), Room k A → PE (genCx X A s H (genEnv scope cl C code builtinsNs X.env) fp) elt te)
    (hs : ∀ v, genFold iter X.env v = pure v)
    (hse : starEach [.GeneratorExp elt [⟨tg, iter, ifs, 0⟩] scope gpos] X.env = (false, eval (.GeneratorExp elt [⟨tg, iter, ifs, 0⟩] scope gpos) X.env) :: starEach [] X.env := by rfl) :
    PE X (.Call (.Name "sum" p) [.GeneratorExp elt [⟨tg, iter, ifs, 0⟩] scope gpos] [] pos) (tSumE T wi gd tt te (own.map (·.2))) := by
  refine ⟨fun pins s σ H Q I h => ?_⟩
  refine wpAny_Call_Name_kw (ld_blt I hgl hm hb ?_)
  refine PyProof.Rows.callWith_builtin1 ?_ hse (by rfl)
  rw [hse]
  show wpAny _ _ (spliced ((false, eval (.GeneratorExp elt [⟨tg, iter, ifs, 0⟩] scope gpos) X.env) :: backTo pos (starEach [] X.env))) _ _ s
  refine Calls.spliced_cons (ge_make I hr TB hcode hmT hu hi ok gk hs h fun J H1 h1 => ⟨h1.1, fun H2 x2 t2 a s5 hnew => ?_⟩)
  refine Calls.spliced_nil ?_
  obtain ⟨N, Rest, hR0, turn⟩ := h1.2 H2 x2 t2
  have hgen0 : ∃ gi, s5.heap.IsGen a gi := by
    obtain ⟨s4, it, fp, tn, code, gs, tk, h5, m5, ob, I4, Tu, st4, f4, _, rfl, k5, n5, ha, hob, hgen, hnc⟩ := hnew.ex
    exact ⟨_, hgen _ hob⟩
  obtain ⟨gi0, hgen0⟩ := hgen0
  refine call_function_tree F.kind_sum F.plain_sum F.entry_sum (F.args_sum1 _) ?_
  unfold Builtin.«sum»
  simp only [List.length_cons, List.length_nil]
  rw [if_neg (by decide)]
  refine wpAny_bind (wpAny_of_eq (show Builtin.Builtins.bindParams "sum" ["start"] 0 { } = pure [none] from rfl) ?_)
  refine wpAny_bind (wpAny_pyIter_gen hgen0 ?_)
  refine wpAny_bind (wpAny_mkInt ?_)
  refine wpAny_bind (wpAny_pure ?_)
  simp only [List.forIn_cons, List.forIn_nil]
  refine wpAny_bind (wpAny_bind (wpAny_bind (wpAny_isInstance (T := "int") (b := false) (typeIs_int _ _ _) PySem.sub_int_str ?_)))
  simp only [Bool.false_eq_true, if_false]
  refine wpAny_pure (wpAny_bind (wpAny_bind (wpAny_isInstance (T := "int") (b := false) (typeIs_int _ _ _) PySem.sub_int_bytes ?_)))
  simp only [Bool.false_eq_true, if_false]
  refine wpAny_pure (wpAny_bind (wpAny_bind (wpAny_isInstance (T := "int") (b := false) (typeIs_int _ _ _) PySem.sub_int_bytearray ?_)))
  simp only [Bool.false_eq_true, if_false]
  refine wpAny_pure (wpAny_pure ?_)
  refine wpAny_bind (wpAny_newObj_type ?_)
  obtain ⟨g, ea, eS, ep, ew, gok, ⟨gi, hgen, hG⟩, back⟩ := ge_ready (N := N) (Rest := RestS s5.heap.objs.size Rest) (Dn := DnS s5.heap.objs.size fun acc => Q (.int acc)) (Yl := YlS s5.heap.objs.size Rest) (S := [s5.heap.objs.size]) (ps := [(s5.heap.objs.size, sumObj 0 s5.toks 0)]) (s6 := { s5 with toks := s5.toks + 1, heap := s5.heap.push { cls := .type "list", data := .seq #[.int 0 s5.toks] } }) hr hN ok gk hnew hg ht he
    (fun i ps H _ hR => by
      obtain ⟨acc, tA, c, rfl, hR⟩ := hR
      rcases turn acc i H hR with ⟨h1, h2⟩ | ⟨h1, h2, h3⟩
      · exact .inl ⟨h1, acc, tA, c, rfl, h2⟩
      · refine .inr ⟨h1, h2, fun x H' hy => mg_ _ _ _ _ _ (fun σ2 H2 ⟨q1, q2⟩ => ⟨q1, mt _ _ _ _ (fun b H3 q3 => ?_) q2⟩) (h3 x H' hy)⟩
        cases b with
        | false => exact ⟨acc, tA, c, rfl, q3⟩
        | true => exact me _ _ _ _ (fun v H4 ⟨w, e1, e2, e3, e4⟩ => ⟨acc, tA, c, w, rfl, e1, e2, e3, e4⟩) q3)
    (fun b hb => by rw [List.mem_singleton.mp hb]; exact Nat.le_refl _) ⟨rfl, fun p hp => by rw [List.mem_singleton.mp hp]; exact ⟨Heap.get?_push_size _ rfl, fun v e => by cases e⟩⟩ (fun _ _ e => Heap.get?_push_of_some _ e) ⟨_, _, rfl⟩
  rw [← ea, ← ep, ← ew]
  exact wpAny_pure ⟨plainId_quiet F.plain_sum_loop _, sum_loop (RestA := Rest) (Qd := fun acc => Q (.int acc)) gok eS hgen hr.hd hr.depth (fun ps H' s' acc t hE q => ⟨.int acc, H', back ps H' s' hE, ⟨t, rfl⟩, q⟩) N 0 0 s5.toks 0 H2 _ hG hR0⟩
end
end DL
set_option Elab.async false
set_option linter.all false
set_option maxRecDepth 100000
set_option maxHeartbeats 1000000
namespace DL
open PySem L2 PySem.Spec PyProof.Rows GenW
def smallI (v : Int) : Prop := v < 1152921504606846976 ∧ -1152921504606846976 < v
instance (v : Int) : Decidable (smallI v) := by unfold smallI; exact inferInstance
def sumG (gd : D → LE → Option LE) (tt : LE → R Bool) (te : LE → R D) (r : LE) : Int → List D → R Int
  | acc, [] => .ok acc
  | acc, d :: ds => match gd d r with
    | none => .stuck
    | some r' => do
      if (← (tt r').calm) then do
        match ← (te r').calm with
        | .int v => if smallI v ∧ smallI (acc + v) then sumG gd tt te r (acc + v) ds else .stuck
        | _ => .stuck
      else sumG gd tt te r acc ds
def sumE (fi : LE → R (List D)) (gd : D → LE → Option LE) (tt : LE → R Bool) (te : LE → R D) (vs : List Nat) : LE → R D := fun r => do
  let ds ← fi r
  let b ← sumG gd tt te (wipeL r vs) 0 ds
  .ok (.int b)
theorem smallI.long {v : Int} (h : smallI v) : InLong v := by
  unfold smallI at h
  exact ⟨by omega, by omega⟩
section
variable {X : Cx} {G : Gm} {W : WX} {tg iter : Expr} {fi : LE → R (List D)} {gd : D → LE → Option LE} {is vs : List Nat} {tt : LE → R Bool} {te : LE → R D}
theorem sum_core_d {T : List (Addr × Str)} (hT : T = G.tabs) (hsub : ∀ j ∈ is, j ∈ vs) {sg : L2.St} {H : Hp} {Q : VK} (h : tD G W (sumE fi gd tt te vs) sg H Q) : tSumE T (tIe G W fi) (tGd G gd is) (tT G W0 tt) (tD G W0 te) vs sg H Q := by
  subst hT
  obtain ⟨dl, Z, O, r, A, q⟩ := h
  refine ⟨dl, Z, O, r, A, q.bind.thn fun ds hds J B H1 g1 k1 wk hB => ⟨k1.tab, fun H2 x2 t2 => ?_⟩⟩
  have k2 : GlOk G dl H2 := k1.ofExt x2 t2
  have A1 := A.grow g1 k1
  have g2 : Grow dl H1 H2 := ext_grow x2
  have A2 := A1.grow g2 k2
  have hds := hds.bind
  refine ⟨ds.length, fun acc i H' => i ≤ ds.length ∧ At G dl Z O r sg H' ∧ Grow dl H H' ∧ B Z H' ∧
    Wp (sumG gd tt te (wipeL r vs) acc (ds.drop i)) (fun b => ∀ v H2, Grow dl H H2 → GlOk G dl H2 → Rep G dl (cut H2 Z) (.int b) v → Q v H2) (fun e => ∀ cls dx H', Grow dl H H' → GlOk G dl H' → XRep G dl (cut H' Z) e cls dx H' → W cls dx sg H'),
    ⟨Nat.zero_le _, A2, g1.trans g2, wk.mono _ _ _ _ (g2.cut A.dz) g2 hB, by simpa using hds⟩, ?_⟩
  rintro acc i H' ⟨hi', A', gH, hB', hw⟩
  by_cases hlt : i < ds.length
  · have hdrop : ds.drop i = ds[i] :: ds.drop (i + 1) := List.drop_eq_getElem_cons hlt
    rw [hdrop] at hw
    refine .inr ⟨hlt, wk.go i Z H' hB' hlt, fun v H3 hy => ?_⟩
    obtain ⟨g3, k3, rp⟩ := wk.yld i Z O r sg H' v H3 A' hB' hy ds[i] (by simp)
    have A3 := A'.grow g3 k3
    unfold sumG at hw
    cases hgd : gd ds[i] (wipeL r vs) with
    | none => rw [hgd] at hw; exact hw.elim
    | some r2 =>
      rw [hgd] at hw
      refine ⟨dl, Z, O, wipeL r vs, ds[i], A3.wipe vs, rp, r2, hgd, fun sg3 hl3 hs3 A4 => ⟨?_, ?_⟩⟩
      · exact (wipe_same hl3 fun j hj => hs3 j fun z => hj (hsub j z)).trans (wipe_wipe vs)
      refine ⟨dl, Z, O, r2, A4, (calm_wp hw.bind).mono (fun b hb H4 g4 k4 => ?_) fun e he => he⟩
      have A5 := A4.grow g4 k4
      have C4 : At G dl Z O r sg H4 := A3.grow g4 k4
      have gg : Grow dl H H4 := (gH.trans g3).trans g4
      have hB4 : B Z H4 := wk.mono _ _ _ _ (g4.cut A.dz) g4 (wk.mono _ _ _ _ (g3.cut A.dz) g3 hB')
      cases b with
      | false => exact ⟨hlt, C4, gg, hB4, hb⟩
      | true =>
        refine ⟨dl, Z, O, r2, A5, (calm_wp hb.bind).mono (fun y hy2 w H5 g5 k5 rp5 => ?_) fun e he => he⟩
        have C5 : At G dl Z O r sg H5 := C4.grow g5 k5
        have hB5 : B Z H5 := wk.mono _ _ _ _ (g5.cut A.dz) g5 hB4
        cases y with
        | int z =>
          unfold Rep at rp5
          have hy3 : Wp (if smallI z ∧ smallI (acc + z) then sumG gd tt te (wipeL r vs) (acc + z) (ds.drop (i + 1)) else R.stuck) _ _ := hy2
          split at hy3
          · rename_i hsm
            exact ⟨z, rp5, hsm.1.long, hsm.2.long, hlt, C5, gg.trans g5, hB5, hy3⟩
          · exact hy3.elim
        | _ => exact hy2.elim
  · have e : i = ds.length := by omega
    subst e
    rw [List.drop_length] at hw
    exact .inl ⟨wk.stop _ _ H' hB' (Nat.le_refl _), hw (.int acc) H' gH A'.gl (by unfold Rep; rfl)⟩
theorem de_sum {c P : Addr} {elt : Expr} {ifs : List Expr} {scope : Scope} {gpos p pos : Pos} {own : List (Str × Nat)} {k : Nat}
    (hr : Room (k + 1) X.A) (hgl : Gl X "sum") (hm : X.mg "sum" = none) (TB : LamX.TabB X.base X.mg c P) (hcode : X.env.code = .ref c) (hmT : (P, X.env.qual ++ "<genexpr>") ∈ G.tabs) (hu : ∀ p ∈ G.tabs, p.1 = P → p.2 = X.env.qual ++ "<genexpr>") (hN : X.N.Nodup)
    (hi : DIe X G W tg iter fi) (ok : BlkOk X.N X.env.scope scope own) (gk : GenOk scope)
    (hg : GenC X k scope fun Y => DG Y G tg gd is) (ht : GenC X k scope fun Y => DTs Y G W0 ifs tt) (he : GenC X k scope fun Y => DE Y G W0 elt te)
    (hsub : ∀ j ∈ is, j ∈ own.map (·.2)) (hs : ∀ v, genFold iter X.env v = pure v := by intro _; rfl) (hb : bootBuiltins "sum" = some (.builtin "sum") := by rfl)
    (hse : starEach [.GeneratorExp elt [⟨tg, iter, ifs, 0⟩] scope gpos] X.env = (false, eval (.GeneratorExp elt [⟨tg, iter, ifs, 0⟩] scope gpos) X.env) :: starEach [] X.env := by rfl) :
    DE X G W (.Call (.Name "sum" p) [.GeneratorExp elt [⟨tg, iter, ifs, 0⟩] scope gpos] [] pos) (sumE fi gd tt te (own.map (·.2))) :=
  PE_imp (pe_sumE (T := G.tabs) (fun v σ H Q Q' h ⟨dl, Z, O, r, d, A, rp, r', hr', q⟩ => ⟨dl, Z, O, r, d, A, rp, r', hr', fun sg' h1 h2 h3 => h _ _ (q sg' h1 h2 h3)⟩) (fun σ H Q Q' h ⟨dl, Z, O, r, A, q⟩ => ⟨dl, Z, O, r, A, q.thn fun b q H' g k => h _ _ (q H' g k)⟩) (fun σ H Q Q' h ⟨dl, Z, O, r, A, q⟩ => ⟨dl, Z, O, r, A, q.thn fun d q v H' g k rp => h _ _ (q v H' g k rp)⟩)
    hr hgl hm hb TB hcode hmT hu hN hi ok gk hg ht he hs hse) fun sg H Q h => sum_core_d rfl hsub h
end
end DL
set_option Elab.async false
set_option linter.all false
set_option maxRecDepth 100000
namespace DL
open PySem L2 LamX PySem.Spec PyProof.Rows
section
variable {P : Program} {w : World} {K : PySem.W.Frag} {mg : Str → Option Value} {base : Heap} {G : Gm} {x qual : Str} {st : Stmt} {f : Addr} {fd : FuncData} {N ps : List Str} {k n m c nf : Nat} {F : LE → R Out}
/-- the law's own def -/
theorem law_V {cdv : Value} {m : Nat} {oc : Value} {od : Option Addr} {kV doc pm : Value} {an : Option Addr} {ct : Value} {osl : Array (Option Value)} (lk : K.lookup f = some ⟨oc, od, .func (PySem.W.fnOf "law" "law" (defArgs st) (defBody st) (defScope st) .none kV doc pm an cdv ct), osl⟩)
    (cd : PySem.W.codeIn K cdv "law" = true) (S : FnScope N ["script"] (defScope st)) (hm : N.length = m) (h2 : 2 ≤ m) (hG : G.K = K) (hF : Wp (F (r0 m)) (fun o => ∃ r, o = .nx r ∨ o = .ct r) (fun _ => False))
    (hb : ∀ A outer s H E, Room k (A.deeper (envOfC "law" (defScope st) s.heap.objs.size f cdv)) → ∃ E', PSs (cxD P w K mg base N "law" st f cdv A outer s H E) (defBody st) (tSeq (tFor (iList G.K (tCallS (spRounds G.K) E' (tCons (tVar 0) (tCons (tC (.int 1)) tNil)))) (gName 1) (tS G (WD E) F)) (tRet (tC (.bl true))))) :
    FnOk P w K mg base (L2.CX P w) (k + 1) f (PySem.W.fnOf "law" "law" (defArgs st) (defBody st) (defScope st) .none kV doc pm an cdv ct) ["script"] (spLaw K G.tabs) := by
  refine fn_of lk cd S (fun vs H Q E h => by obtain ⟨a, ns, rfl, _⟩ := h; rfl) fun A outer s H vs Q E hr h => ?_
  obtain ⟨E', hp⟩ := hb A outer s H E hr
  obtain ⟨a, ns, rfl, hS, hT, kq⟩ := h
  exact ⟨_, hp, law_core hm h2 (hG.symm ▸ hS) hT kq hF⟩
end
end DL
set_option Elab.async false
set_option linter.all false
set_option maxRecDepth 100000
set_option maxHeartbeats 1000000
namespace DL
open PySem L2 PySem.Spec PyProof.Rows
def strD : D → R (List D)
  | .str s => .ok (s.map fun c => .str [c])
  | _ => .stuck
theorem signs_get {s : List Nat} {i : Nat} {d : D} (h : (s.map fun c => D.str [c])[i]? = some d) : ∃ c, s[i]? = some c ∧ d = .str [c] := by
  rw [List.getElem?_map] at h
  cases e : s[i]? with
  | none => rw [e] at h; cases h
  | some c => rw [e] at h; cases h; exact ⟨c, rfl, rfl⟩
section
variable {X : Cx} {G : Gm} {W : WX} {tg iter : Expr} {f : LE → R D} {pos p : Pos}
theorem walk_str {dl : Addr} {s : List Nat} : WalkS G dl (Its ⟨s.toArray⟩) (s.map fun c => D.str [c]) (fun _ _ => True) where
  mono := fun _ _ _ _ _ _ _ => trivial
  monoS := fun _ _ _ _ _ _ => trivial
  go := fun i Z H h hi => by
    show i < s.toArray.size
    simpa using hi
  stop := fun i Z H h hi => by
    show s.toArray.size ≤ i
    simpa using hi
  yld := fun i Z O r sg H x H' A h hy d hd => by
    obtain ⟨rfl, c, hc, rfl⟩ := hy
    obtain ⟨c', hc', rfl⟩ := signs_get hd
    have hc2 : s.toArray[i]? = some c := hc
    rw [List.getElem?_toArray, hc'] at hc2
    cases hc2
    exact ⟨.refl _ _, A.gl, Rep.str_⟩
theorem di_str (h : DE X G W iter f) : DI X G W tg iter (fun r => f r >>= strD) := PI_imp (pi_str h) fun sg H Q ⟨dl, Z, O, r, A, q⟩ => by
  refine ⟨dl, Z, O, r, A, q.bind.thn fun d hd v H1 g1 k1 rp => ?_⟩
  unfold strD at hd
  split at hd
  · rename_i s
    unfold Rep at rp
    subst rp
    exact ⟨_, rfl, hd _ _ H1 g1 k1 walk_str trivial⟩
  · exact hd.elim
/-- pairs counted from k, the items as they are fixed from the start -/
def Itq (k : Int) (xs : List V) : It := ⟨fun i _ => i < xs.length, fun i H v H' => ∃ T x, v = .ref T ∧ H T = none ∧ H' = upd H T (.tup [.int (k + (i : Nat)), x]) ∧ xs[i]? = some x, fun i _ => xs.length ≤ i⟩
def enumL (k : Int) (ds : List D) : List D := ds.mapIdx fun i d => .tup [.int (k + (i : Nat)), d]
theorem enumL_get {k : Int} {ds : List D} {i : Nat} {e : D} (h : (enumL k ds)[i]? = some e) : ∃ d, ds[i]? = some d ∧ e = .tup [.int (k + (i : Nat)), d] := by
  unfold enumL at h
  rw [List.getElem?_mapIdx] at h
  cases q : ds[i]? with
  | none => rw [q] at h; cases h
  | some d => rw [q] at h; cases h; exact ⟨d, rfl, rfl⟩
theorem enumL_len {k : Int} {ds : List D} : (enumL k ds).length = ds.length := by unfold enumL; simp
theorem walk_enumq {dl : Addr} {k : Int} {ds : List D} {vs : List V} {Z0 : List Addr} {H0 : Hp} (rl : RepL G dl (cut H0 Z0) ds vs) :
    WalkS G dl (Itq k vs) (enumL k ds) (fun Z H => GrowS (cut H0 Z0) (cut H Z)) where
  mono := fun _ _ _ _ g _ h => LamX.ExtN.trans h g
  monoS := fun _ _ _ _ g h => LamX.ExtN.trans h g
  go := fun i Z H h hi => by
    show i < vs.length
    rw [rl.length]; rw [enumL_len] at hi; exact hi
  stop := fun i Z H h hi => by
    show vs.length ≤ i
    rw [rl.length]; rw [enumL_len] at hi; exact hi
  yld := fun i Z O r sg H x H' A h hy e he => by
    obtain ⟨d, hd, rfl⟩ := enumL_get he
    obtain ⟨T, u, rfl, hT, rfl, hu⟩ := hy
    obtain ⟨u', hu', rp⟩ := RepL.getD ds vs i d rl hd
    rw [hu] at hu'; cases hu'
    have hTZ : T ∉ Z := A.out hT
    have gN : GrowS (cut H Z) (cut (upd H T (.tup [.int (k + (i : Nat)), u])) Z) := fun b o e n => by
      obtain ⟨e1, e2⟩ := cut_some e
      rw [cut_out e1, upd_ne (ne_of_none e2 hT)]; exact e2
    refine ⟨.new hT, A.gl.new hT, ?_⟩
    unfold Rep
    refine ⟨T, _, rfl, SqT.of (by rw [cut_out hTZ, upd_same]), RepL.cons Rep.int_ (RepL.cons ((rp.mono h).mono gN) RepL.nil)⟩
/-- over a text -/
theorem turn_enumT {P : Program} {w : World} {K : PySem.W.Frag} {elts : List Expr} {kk : Nat} {tpos : Pos} (k : Int) (x : Str) (t : Tok) (e it : Addr) :
    Turn P w K (.Tuple elts kk tpos) (Itq k (x.cps.toList.map fun c => V.str ⟨#[c]⟩)) [e, it] e (fun i h => (∃ old, IsEnum h e it (k + ((i : Nat) : Int)) old) ∧ h.IsStrIter it (strIterType x) x t i ∧ e ≠ it ∧ i ≤ x.cps.size) where
  mem := by simp
  obj := fun i h st b hb => by
    obtain ⟨⟨old, he⟩, ⟨o, ho, hc, hd⟩, _⟩ := st
    have e' : b = e ∨ b = it := by simpa using hb
    rcases e' with z | z
    · rw [z]; exact ⟨_, he, fun v q => nomatch q⟩
    · rw [z]; exact ⟨o, ho, fun v q => by rw [hd] at q; cases q⟩
  keep := fun i h h' st kk => let ⟨⟨old, he⟩, ⟨o, ho, r⟩, hne⟩ := st; ⟨⟨old, kk e (by simp) _ he⟩, ⟨o, kk it (by simp) o ho, r⟩, hne⟩
  item := by
    intro X hP hw hK hc i pins s σ H E I hf st hg
    subst hP hw hK
    obtain ⟨⟨old, he⟩, hit, hne, _⟩ := st
    have hi : i < x.cps.size := by
      have : i < (x.cps.toList.map fun c => V.str ⟨#[c]⟩).length := hg
      simpa using this
    have hel : e < s.heap.objs.size := Heap.lt_size he
    have hil : it < s.heap.objs.size := by obtain ⟨_, q, _⟩ := hit; exact Heap.lt_size q
    refine wpAny_pyNext_enum_itemC (Draws.text (A := X.A.in1) (I.ok.hd hc) it x t) he hit hi hne (by simpa using hne) fun u h' tk hu ho hit' hT hsz hk => ?_
    obtain ⟨c, tc, hcx, rfl⟩ := hu
    refine ⟨_, rfl, wpAny_letOwnedTupleGo_enum (s := { s with heap := h', toks := tk + 1 }) ho fun h'' he' sb => ?_⟩
    have hT2 : h''.get? s.heap.objs.size = some { cls := .type "tuple", data := .seq #[.int (k + ((i : Nat) : Int)) tk, .str ⟨#[c]⟩ tc] } := (sb.2 _ (Nat.ne_of_gt hel)).trans hT
    have new : ObjOk X.prog X.w (upd H s.heap.objs.size (.tup [.int (k + (i : Nat)), .str ⟨#[c]⟩])) h'' s.heap.objs.size (.tup [.int (k + (i : Nat)), .str ⟨#[c]⟩]) :=
      ⟨by show 2 ≤ sizeLine; decide, [.int (k + ((i : Nat) : Int)) tk, .str ⟨#[c]⟩ tc], .cons ⟨_, rfl⟩ (.cons ⟨_, rfl⟩ .nil), ⟨_, hT2, rfl, _, rfl⟩⟩
    have I1 : Inv X pins σ (upd H s.heap.objs.size (.tup [.int (k + (i : Nat)), .str ⟨#[c]⟩])) { s with heap := h'', toks := tk + 1 } :=
      I.turnedNew (ch := [e, it]) (fun b ob hb q => (sb.2 b (fun z => hb (by simp [z]))).trans (hk b ob (fun z => hb (by simp [z])) (fun z => hb (by simp [z])) q)) hf (Nat.le_refl _) new
    obtain ⟨oi, hoi, ri⟩ := id hit'
    refine ⟨.ref s.heap.objs.size, _, I1, rfl, ⟨_, .str ⟨#[c]⟩, rfl, I.hok.fresh (Nat.le_refl _), rfl, ?_⟩, ⟨⟨.str ⟨#[c]⟩ tc, ?_⟩, ⟨oi, (sb.2 it (Ne.symm hne)).trans hoi, ri⟩, hne, hi⟩, fun b hb => ?_⟩
    · rw [List.getElem?_map, Array.getElem?_toList, hcx]
      rfl
    · have e1 : k + ((i + 1 : Nat) : Int) = k + ((i : Nat) : Int) + 1 := by omega
      rw [e1]; exact he'
    · have hb' : b < s.heap.objs.size := by
        have e' : b = e ∨ b = it := by simpa using hb
        rcases e' with z | z
        · rw [z]; exact hel
        · rw [z]; exact hil
      rw [upd_ne (Nat.ne_of_lt hb')]
      exact (hf b hb).1
  done := by
    intro X hP hw hK hc i pins s σ H E I hf st hg
    subst hP hw hK
    obtain ⟨⟨old, he⟩, hit, hne, hle⟩ := st
    have hx : x.cps.size ≤ i := by
      have : (x.cps.toList.map fun c => V.str ⟨#[c]⟩).length ≤ i := hg
      simpa using this
    obtain ⟨f0, f1, f2, f3, f4, f5⟩ := hf it (by simp)
    obtain rfl : i = x.cps.size := by omega
    refine wpAny_pyNext_enum_endD (Draws.text (A := X.A.in1) (I.ok.hd hc) it x t) he hit fun h' eb => ⟨rfl, I.turned (t' := s.toks) (fun b o hb q => eb b o hb q) f0 f1 f3 f4 f5⟩
  self := fun A i s Q E st h => let ⟨⟨_, he⟩, _⟩ := st; wpAny_pyIter_enum he h
end
end DL
set_option Elab.async false
set_option linter.all false
set_option maxRecDepth 100000
set_option maxHeartbeats 1000000
namespace DL
open PySem L2 PySem.Spec PyProof.Rows
section
variable {X : Cx} {G : Gm} {W : WX} {e : Expr} {f : LE → R D} {te : TE} {p pos tpos kpos : Pos} {elts : List Expr} {kk : Nat}
def signsV (x : Str) : List V := x.cps.toList.map fun c => V.str ⟨#[c]⟩
def iEnumT (k : Int) (ta : TA) : TI := fun σ H R => ta σ H fun vs H1 => ∃ x, vs = [.str x] ∧ R (Itq k (signsV x)) H1
theorem enumT_at {pins : List (Addr × Obj)} {σ : L2.St} {H1 : Hp} {s1 : Shared} {x : Str} {t : Tok} {k : Int} {Rr : It → Hp → Prop} {h' : Heap} (I1 : Inv X pins σ H1 s1) (q : Rr (Itq k (signsV x)) H1)
    (he : IsEnum h' (s1.heap.objs.size + 1) s1.heap.objs.size k .none) (hit : h'.IsStrIter s1.heap.objs.size (strIterType x) x t 0) (hk : ∀ b o, s1.heap.get? b = some o → h'.get? b = some o) :
    PIE X pins σ (.Tuple elts kk tpos) Rr (.ref (s1.heap.objs.size + 1)) { s1 with heap := h' } := by
  have I2 : Inv X pins σ H1 { s1 with heap := h' } := I1.kept (t' := s1.toks) hk
  refine ⟨s1.heap.objs.size + 1, [s1.heap.objs.size + 1, s1.heap.objs.size], _, _, H1, rfl, I2, turn_enumT k x t (s1.heap.objs.size + 1) s1.heap.objs.size, ⟨⟨.none, by simpa using he⟩, hit, Nat.succ_ne_self _, Nat.zero_le _⟩, fun b hb => ?_, q⟩
  have e' : b = s1.heap.objs.size + 1 ∨ b = s1.heap.objs.size := by simpa using hb
  have hle : s1.heap.objs.size ≤ b := by
    rcases e' with z | z
    · rw [z]; exact Nat.le_add_right _ _
    · rw [z]; exact Nat.le_refl _
  exact I1.fpOk hle (I1.hok.fresh hle)
theorem pi_enumT {ta : TA} (hg : Gl X "enumerate") (hm : X.mg "enumerate" = none) (ha : PA X [e] ta) (hs : starEach [e] X.env = [(false, eval e X.env)] := by rfl) :
    PI X (.Tuple elts kk tpos) (.Call (.Name "enumerate" p) [e] [] pos) (iEnumT 0 ta) := by
  refine ⟨fun pins s σ H R I h => ?_⟩
  refine Call_ (ld_blt I hg hm boot_enumerate (PyProof.Rows.callWith_type1 (thn (ha.run pos pins s σ H _ I h) fun us s1 ⟨vs, H1, I1, r1, q1⟩ => ?_) hs rfl))
  obtain ⟨x, ex, q⟩ := q1
  subst ex
  cases r1 with
  | cons r rr =>
    cases rr
    obtain ⟨t, rfl⟩ := r
    exact call_enumerate_str fun h' he hit hsz hk => wpAny_pyIter_enum he (enumT_at I1 q he hit hk)
def enumTD (k : Int) : List D → R (List D)
  | [.str s] => .ok (enumL k (s.map fun c => .str [c]))
  | _ => .stuck
theorem signs_rep {G : Gm} {dl : Addr} {S : Hp} : ∀ {s : List Nat}, RepL G dl S (s.map fun c => D.str [c]) (s.map fun c => V.str ⟨#[c]⟩)
  | [] => RepL.nil
  | c :: s => RepL.cons Rep.str_ signs_rep
theorem enumT_core {k : Int} {fs : LE → R (List D)} {sg : L2.St} {H : Hp} {Rr : It → Hp → Prop} (h : tIs G W (fun r => fs r >>= enumTD k) sg H Rr) : iEnumT k (tA G W fs) sg H Rr := by
  obtain ⟨dl, Z, O, r, A, q⟩ := h
  refine ⟨dl, Z, O, r, A, q.bind.thn fun ds hd vs H1 g1 k1 rl => ?_⟩
  unfold enumTD at hd
  split at hd
  · rename_i s
    unfold RepL at rl
    obtain ⟨v, us, rfl, h1, h2⟩ := rl
    unfold Rep at h1
    unfold RepL at h2
    subst h1 h2
    refine ⟨_, rfl, hd _ _ H1 g1 k1 (walk_enumq (Z0 := Z) (H0 := H1) signs_rep) (LamX.ExtN.refl _)⟩
  · exact hd.elim
theorem di_enumT {fs : LE → R (List D)} (hg : Gl X "enumerate") (hm : X.mg "enumerate" = none) (ha : DA X G W [e] fs) (hs : starEach [e] X.env = [(false, eval e X.env)] := by rfl) :
    DI X G W (.Tuple elts kk tpos) (.Call (.Name "enumerate" p) [e] [] pos) (fun r => fs r >>= enumTD 0) := PI_imp (pi_enumT hg hm ha hs) fun sg H Q h => enumT_core h
end
end DL
set_option Elab.async false
set_option linter.all false
set_option maxRecDepth 100000
set_option maxHeartbeats 1000000
namespace DL
open PySem L2 PySem.Spec PyProof.Rows
def strsD : List D → Option (List (List Nat))
  | [] => some []
  | .str s :: ds => (strsD ds).map (s :: ·)
  | _ :: _ => none
theorem strsD_rep {G : Gm} {dl : Addr} {S : Hp} : ∀ {ds : List D} {ss : List (List Nat)} {vs : List V}, strsD ds = some ss → RepL G dl S ds vs → vs = (ss.map fun s => (⟨s.toArray⟩ : Str)).map V.str
  | [], ss, vs, h, rl => by
    cases h
    unfold RepL at rl
    exact rl
  | d :: ds, ss, vs, h, rl => by
    unfold RepL at rl
    obtain ⟨v, r, rfl, h1, h2⟩ := rl
    cases d with
    | str s =>
      unfold strsD at h
      cases e : strsD ds with
      | none => rw [e] at h; cases h
      | some ss' =>
        rw [e] at h
        cases h
        unfold Rep at h1
        rw [h1, strsD_rep e h2]
        rfl
    | _ => cases h
def joinOk (a : List Nat) (ss : List (List Nat)) : Bool := decide ((ss.map List.length).sum + ss.length * a.length ≤ 16777216)
def joinD : D → List D → R D
  | .str a, [.lst ds] => (match strsD ds with
    | some ss => if joinOk a ss then .ok (.str (TL.joinL a ss)) else .stuck
    | none => .stuck)
  | .str a, [.tup ds] => (match strsD ds with
    | some ss => if joinOk a ss then .ok (.str (TL.joinL a ss)) else .stuck
    | none => .stuck)
  | _, _ => .stuck
theorem join_fit {a : List Nat} {ss : List (List Nat)} (h : joinOk a ss = true) : ((ss.map fun s => (⟨s.toArray⟩ : Str)).map (·.length)).sum + (ss.map fun s => (⟨s.toArray⟩ : Str)).length * (⟨a.toArray⟩ : Str).length ≤ 16777216 := by
  unfold joinOk at h
  have h := of_decide_eq_true h
  have e : (ss.map fun s => (⟨s.toArray⟩ : Str)).map (·.length) = ss.map List.length := by
    rw [List.map_map]
    exact List.map_congr_left fun s _ => by simp [Str.length]
  rw [e, List.length_map]
  simpa [Str.length] using h
section
variable {X : Cx} {G : Gm}
theorem bm_join (hG : G.K = X.K) : BmD X G "str" "join" joinD := by
  refine ⟨⟨_, _, PySem.F.slot_str_join, PySem.F.type_str_join, mt_join, ?_⟩, PySem.F.plainAttrs_str⟩
  intro dl Z O r sg x vx ds vs H Q E A hx hds h
  unfold joinD at h
  split at h
  · rename_i a ds
    split at h
    · rename_i ss hss
      split at h
      · rename_i hf
        obtain ⟨v, rfl, hv⟩ := hds.one
        obtain ⟨p, us, rfl, hp, rl⟩ := hv.lst
        have := strsD_rep hss rl
        subst this
        refine ⟨_, p, _, hx.str, rfl, .inl (SqL.of hp), join_fit hf, ?_⟩
        rw [show Txt.join ⟨a.toArray⟩ (ss.map fun s => (⟨s.toArray⟩ : Str)) = ⟨(TL.joinL a ss).toArray⟩ from SX.join_S a ss]
        exact h _ H (.refl _ _) A.gl Rep.str_
      · exact h.elim
    · exact h.elim
  · rename_i a ds
    split at h
    · rename_i ss hss
      split at h
      · rename_i hf
        obtain ⟨v, rfl, hv⟩ := hds.one
        obtain ⟨p, us, rfl, hp, rl⟩ := hv.tup
        have := strsD_rep hss rl
        subst this
        refine ⟨_, p, _, hx.str, rfl, .inr (hG ▸ hp), join_fit hf, ?_⟩
        rw [show Txt.join ⟨a.toArray⟩ (ss.map fun s => (⟨s.toArray⟩ : Str)) = ⟨(TL.joinL a ss).toArray⟩ from SX.join_S a ss]
        exact h _ H (.refl _ _) A.gl Rep.str_
      · exact h.elim
    · exact h.elim
  · exact h.elim
/-- how often a sign stands in a text -/
def countD : D → List D → R D
  | .str s, [.str [c]] => .ok (.int (s.count c))
  | _, _ => .stuck
theorem cnt_count (c : Nat) : ∀ l : List Nat, cnt c l = (l.count c : Int)
  | [] => rfl
  | n :: r => by
    rw [cnt_cons, cnt_count c r, List.count_cons]
    by_cases h : n = c
    · subst h; simp; omega
    · simp [h]
theorem bm_count : BmD X G "str" "count" countD := by
  refine ⟨⟨_, _, PySem.F.slot_str_count, PySem.F.type_str_count, mt_count, ?_⟩, PySem.F.plainAttrs_str⟩
  intro dl Z O r sg x vx ds vs H Q E A hx hds h
  unfold countD at h
  split at h
  · rename_i s c
    obtain ⟨v, rfl, hv⟩ := hds.one
    refine ⟨_, _, hx.str, by rw [hv.str], ?_⟩
    have e : Txt.count ⟨s.toArray⟩ ⟨[c].toArray⟩ = (s.count c : Int) := by
      rw [show (⟨[c].toArray⟩ : Str) = ⟨#[c]⟩ from rfl, count_is]
      exact cnt_count c s
    rw [e]
    exact h _ H (.refl _ _) A.gl Rep.int_
  · exact h.elim
end
end DL
set_option Elab.async false
set_option linter.all false
set_option maxRecDepth 100000
set_option maxHeartbeats 2000000
namespace DLR
open PySem PySem.Spec PyProof.Rows
theorem norev_str : typeLookup (.type "str") "__reversed__" = pure none := by rw [typeLookup_type, builtinLookup_eq_fast]; kernel_rfl
theorem get_str : typeLookup (.type "str") "__getitem__" = pure (some (.builtin "str.__getitem__")) := by rw [typeLookup_type, builtinLookup_eq_fast]; kernel_rfl
theorem nolen_rt : typeLookup (.type "reversed") "__len__" = pure none := by rw [typeLookup_type, builtinLookup_eq_fast]; kernel_rfl
theorem hint_rt : typeLookup (.type "reversed") "__length_hint__" = pure (some (.builtin "reversed.__length_hint__")) := by rw [typeLookup_type, builtinLookup_eq_fast]; kernel_rfl
def rsObj (x : Str) (t : Tok) (i : Int) : Obj := { cls := .type "reversed", data := .fields #[.str x t, rawInt i] }
def IsRs (h : Heap) (a : Addr) (x : Str) (t : Tok) (i : Int) : Prop := ∃ o, h.get? a = some o ∧ o.cls = .type "reversed" ∧ o.data = .fields #[.str x t, rawInt i]
theorem IsRs.at {h h' : Heap} {a : Addr} {x : Str} {t : Tok} {i : Int} (q : IsRs h a x t i) (e : ∀ o, h.get? a = some o → h'.get? a = some o) : IsRs h' a x t i := let ⟨o, ho, r⟩ := q; ⟨o, e _ ho, r⟩
section
variable {prog : Program} {w : World} {A : Around} {E : Value → Shared → Prop} {s : Shared} {x : Str} {t : Tok}
theorem IsRs.typeIs {a : Addr} {i : Int} (q : IsRs s.heap a x t i) : s.TypeIs (.ref a) "reversed" := let ⟨o, ho, hc, _⟩ := q; ⟨o, ho, hc⟩
theorem code_reversed_str {Q₁ : Value → Shared → Prop} (hz : x.length ≤ sizeLine)
    (h : Q₁ (.ref s.heap.objs.size) { s with heap := s.heap.push (rsObj x t ((x.length : Int) - 1)), toks := s.toks + 1 + 1 }) :
    codeAny (model prog w) A (.call (.builtin "reversed.__new__") ⟨[.type "reversed", .str x t], []⟩) (wants Q₁ E) s := by
  have hT : s.TypeIs (.str x t) "str" := rfl
  have hfit : ¬ (x.length : Int) ≥ 2 ^ 63 := by rw [sizeLine_eq] at hz; omega
  refine codeAny_of_tree ?_
  show wpAny _ A.in1 (do checkBuiltinCall "reversed.__new__" ⟨[.type "reversed", .str x t], []⟩; again (.builtin "reversed.__new__" ⟨[.type "reversed", .str x t], []⟩)) _ _ s
  refine wpAny_bind (wpAny_of_eq (F.newCall_reversed_1 _) (wpAny_pure ⟨plainId_quiet F.plain_reversed_new _, codeAny_builtin F.entry_reversed_new ?_⟩))
  rw [Around.under_plainId F.plain_reversed_new _]
  unfold Builtin.«reversed.__new__»
  refine wpAny_bind (wpAny_of_eq (newClass_reversed _) ?_)
  try dsimp only
  refine wpAny_bind (wpAny_of_eq (a := ()) (by first | rfl | kernel_rfl) ?_)
  try dsimp only
  refine wpAny_bind (wpAny_of_eq (a := ()) (by first | rfl | kernel_rfl) ?_)
  try dsimp only
  refine wpAny_bind (wpAny_specialOf hT norev_str ?_)
  try dsimp only
  refine wpAny_bind ?_
  wp_delta
  refine wpAny_bind (wpAny_isInstance (T := "str") (U := "dict") (b := false) hT (by rw [isSubtype_type]; kernel_rfl) ?_)
  try dsimp only
  try rw [if_neg Bool.false_ne_true]
  try dsimp only
  refine wpAny_bind (wpAny_specialOf hT get_str ?_)
  try dsimp only
  try rw [if_pos (by decide +kernel)]
  refine wpAny_pure ?_
  try dsimp only
  try rw [if_neg (by decide)]
  try dsimp only
  refine wpAny_bind (PySem.P.len_str hfit ?_)
  refine wpAny_bind (wpAny_of_eq (a := some ((x.length : Nat) : Int)) rfl ?_)
  try dsimp only
  refine wpAny_bind ?_
  show wpAny _ _ (newObj (.type "reversed") (.fields #[.str x t, rawInt ((x.length : Int) - 1)])) _ _ _
  refine wpAny_newObj_type ?_
  exact wpAny_pure h
theorem call_reversed_str {Q : Value → Shared → Prop} (hz : x.length ≤ sizeLine)
    (h : Q (.ref s.heap.objs.size) { s with heap := s.heap.push (rsObj x t ((x.length : Int) - 1)), toks := s.toks + 1 + 1 }) : wpAny (model prog w) A (call (.type "reversed") [.str x t]) Q E s := by
  refine callType_codes (Q₁ := fun obj s₁ => s₁.TypeIs obj "reversed" ∧ Q obj s₁) RT.called_rt (F.typeCall_reversed_1 _) F.entry_object_init
    (code_reversed_str (A := A.in1) hz ⟨⟨_, Heap.get?_push_size _ rfl, rfl⟩, h⟩) fun obj s₁ h₁ => ?_
  exact ⟨h₁.1, F.args_object_init_2 obj _, object_init_meets RT.called_rt.init.lookup RT.called_rt.made (by decide) prog w A.in1 _ s₁ ⟨h₁.1, rfl, h₁.2⟩⟩
theorem next_rs_item {it : Addr} {i c : Nat} {Q : Option Value → Shared → Prop} (hit : IsRs s.heap it x t (i : Int)) (hx : x.cps[i]? = some c) (hsz : x.length ≤ sizeLine)
    (hQ : ∀ h' tk tc, IsRs h' it x t ((i : Int) - 1) → Heap.SameBut it s.heap h' → Q (some (.str ⟨#[c]⟩ tc)) { s with heap := h', toks := tk }) : wpAny (model prog w) A (pyNext (.ref it)) Q E s := by
  obtain ⟨o, ho, hc, hd⟩ := id hit
  have hi : i < x.length := (Array.getElem?_eq_some_iff.mp hx).1
  have hT : s.TypeIs (.str x t) "str" := rfl
  rw [sizeLine_eq] at hsz
  unfold pyNext
  refine wpAny_bind (wpAny_attempt (wpAny_callSpecial?_slot (name := Str.ofString "__next__") hit.typeIs RT.slot_rt_next
    (wpAny_call_entry RT.slot_rt_next hit.typeIs RT.entry_rt_next ?_ (RT.args_rt_next _))))
  unfold Builtin.«reversed.__next__»
  refine wpAny_bind (wpAny_of_eq (a := (Value.ref it, [])) rfl ?_)
  try dsimp only
  refine wpAny_bind (wpAny_field ho hd (x := .str x t) rfl ?_)
  try dsimp only
  refine wpAny_bind (wpAny_field ho hd (x := rawInt (i : Int)) rfl ?_)
  show wpAny _ _ (if (i : Int) < 0 then _ else _) _ _ s
  rw [if_neg (by omega)]
  try dsimp only
  refine wpAny_bind (wpAny_specialOf hT get_str ?_)
  try dsimp only
  try rw [if_neg (by decide)]
  try dsimp only
  refine wpAny_bind (wpAny_mkInt ?_)
  refine wpAny_bind (wpAny_attempt ?_)
  have fin : seqIndex? (i : Int) x.length = some i := seqIndex_of (by omega) (by omega)
  refine PyProof.Rows.getItem_str (s := { s with toks := s.toks + 1 }) (by simp only [Bool.or_eq_false_iff, decide_eq_false_iff_not]; omega) (by rw [fin]; exact hx) ?_
  try dsimp only
  refine wpAny_bind (wpAny_field (s := { s with toks := s.toks + 1 + 1 }) ho hd (x := rawInt (i : Int)) rfl ?_)
  try dsimp only
  refine wpAny_bind (wpAny_setField (s := { s with toks := s.toks + 1 + 1 }) ho hd (by simp) ?_)
  first
  | refine wpAny_pure ⟨_, rfl, wpAny_pure (hQ _ _ _ ?_ (Heap.SameBut.update ..))⟩
  | refine wpAny_bind (wpAny_pure (wpAny_pure ⟨_, rfl, wpAny_pure (hQ _ _ _ ?_ (Heap.SameBut.update ..))⟩))
  · exact ⟨_, Heap.get?_update_self _ ho (Obj.isFreed_of_fields (Obj.data_mapFields hd _)), (Obj.cls_mapFields ..).trans hc, by
      rw [Obj.data_mapFields hd]; simp⟩
theorem next_rs_end {it : Addr} {Q : Option Value → Shared → Prop} (hh : A.handled = none) (hit : IsRs s.heap it x t (-1))
    (hQ : ∀ h', Heap.ExtBut it s.heap h' → Q none { s with heap := h' }) : wpAny (model prog w) A (pyNext (.ref it)) Q E s := by
  obtain ⟨o, ho, hc, hd⟩ := id hit
  unfold pyNext
  refine wpAny_bind (wpAny_attempt (wpAny_callSpecial?_slot (name := Str.ofString "__next__") hit.typeIs RT.slot_rt_next
    (wpAny_call_entry RT.slot_rt_next hit.typeIs RT.entry_rt_next ?_ (RT.args_rt_next _))))
  unfold Builtin.«reversed.__next__»
  refine wpAny_bind (wpAny_of_eq (a := (Value.ref it, [])) rfl ?_)
  try dsimp only
  refine wpAny_bind (wpAny_field ho hd (x := .str x t) rfl ?_)
  try dsimp only
  refine wpAny_bind (wpAny_field ho hd (x := rawInt (-1)) rfl ?_)
  show wpAny _ _ (if (-1 : Int) < 0 then _ else _) _ _ s
  rw [if_pos (by decide)]
  try dsimp only
  refine wpAny_bind (wpAny_rule ?_)
  refine wpAny_bind ?_
  wp_delta
  refine wpAny_bind (wpAny_setField ho hd (by simp) ?_)
  have ho2 := Heap.get?_update_self (Obj.mapFields (·.setIfInBounds 1 (rawInt (-1)))) ho (Obj.isFreed_of_fields (Obj.data_mapFields hd _))
  refine wpAny_setField (s := { s with heap := s.heap.update it (Obj.mapFields (·.setIfInBounds 1 (rawInt (-1)))) }) ho2 (Obj.data_mapFields hd _) (by simp) ?_
  try dsimp only
  first
  | show wpAny _ _ (newExc (.type "StopIteration") [] >>= _) _ _ _
  | (refine wpAny_bind ?_; show wpAny _ _ (newExc (.type "StopIteration") [] >>= _) _ _ _)
  | (refine wpAny_bind ?_; wp_delta; show wpAny _ _ (newExc (.type "StopIteration") [] >>= _) _ _ _)
  refine wpAny_bind ?_
  simp only [newExc, newTuple]
  refine wpAny_bind (wpAny_newObj_type ?_ (by size_fits))
  refine wpAny_bind (m := firstArgMember _ _) (wpAny_of_eq (a := Value.none) (by first | rfl | (simp only [firstArgMember]; rfl)) ?_)
  refine wpAny_newObj_type ?_ (by size_fits)
  simp only [raiseNew]
  refine wpAny_bind (wpAny_handled ?_)
  first | rw [show A.in1.handled = none from hh] | rw [hh]
  refine wpAny_bind (wpAny_pure (wpAny_throw ?_))
  refine wpAny_bind (wpAny_isInstance (T := "StopIteration") (b := true) ⟨_, Heap.get?_push_size _ rfl, rfl⟩ isSubtype_stop ?_)
  refine wpAny_pure (hQ _ ?_)
  refine ((?_ : Heap.ExtBut it s.heap _).push _).push _
  exact fun b ob hb e => (Heap.get?_update_other _ _ (Ne.symm hb)).trans ((Heap.get?_update_other _ _ (Ne.symm hb)).trans e)
theorem iter_rs {it : Addr} {i : Int} {Q : Value → Shared → Prop} (hit : IsRs s.heap it x t i) (h : Q (.ref it) s) : wpAny (model prog w) A (pyIter (.ref it)) Q E s := by
  refine wpAny_pyIter_slot hit.typeIs RT.slot_rt_iter (wpAny_call_entry RT.slot_rt_iter hit.typeIs RT.entry_rt_iter ?_ (RT.args_rt_iter _))
  show wpAny _ _ (ret (.ref it)) _ _ s
  exact wpAny_pure ⟨_, rfl, "reversed", _, hit.typeIs, RT.slot_rt_next.lookup, h⟩
theorem Walks.rs (hh : A.handled = none) (it : Addr) (hz : x.length ≤ sizeLine) :
    Walks prog w A it [it] [it] x.cps.size (fun i v => ∃ c u, x.cps[x.cps.size - 1 - i]? = some c ∧ v = .str ⟨#[c]⟩ u) (fun i h => i ≤ x.cps.size ∧ IsRs h it x t ((x.cps.size : Int) - 1 - (i : Nat))) where
  sub := fun _ h => h
  frame := fun i h h' st k => ⟨st.1, st.2.at fun o e => k it (by simp) o e⟩
  item := fun i s Q E hi st hQ => by
    obtain ⟨_, st⟩ := st
    have e1 : (x.cps.size : Int) - 1 - ((i : Nat) : Int) = ((x.cps.size - 1 - i : Nat) : Int) := by omega
    rw [e1] at st
    have hlt : x.cps.size - 1 - i < x.cps.size := by omega
    refine next_rs_item st (c := x.cps[x.cps.size - 1 - i]) (by simp [hlt]) hz fun h' tk tc st' sb => ?_
    have e2 : ((x.cps.size - 1 - i : Nat) : Int) - 1 = (x.cps.size : Int) - 1 - ((i + 1 : Nat) : Int) := by omega
    rw [e2] at st'
    exact hQ _ h' tk ⟨_, tc, by simp [hlt], rfl⟩ ⟨hi, st'⟩ fun b o hb e => (sb.2 b (fun z => hb (by simp [z]))).trans e
  done := fun s Q E st hQ => by
    obtain ⟨_, st⟩ := st
    have e1 : (x.cps.size : Int) - 1 - ((x.cps.size : Nat) : Int) = -1 := by omega
    rw [e1] at st
    exact next_rs_end hh st fun h' eb => hQ h' s.toks fun b o hb e => eb b o (fun z => hb (by simp [z])) e
  self := fun i s Q E st h => iter_rs st.2 h
theorem slot_hint : Slot "reversed" "__length_hint__" "reversed.__length_hint__" :=
  .of (owner := "reversed") (n := "__length_hint__") (by rw [typeLookup_type, builtinLookup_eq_fast]; kernel_rfl) (by decide +kernel) (by decide +kernel) (by decide +kernel)
    (by first | exact .inl (by decide +kernel) | exact .inr (by decide +kernel)) (by rw [isSubtype_type]; kernel_rfl)
theorem entry_hint : entryFor table "reversed.__length_hint__" = some Builtin.«reversed.__length_hint__» := entryFor_of_tree (by kernel_rfl)
theorem args_hint (a : Value) : argsOk "reversed.__length_hint__" ⟨[a], []⟩ := by
  unfold argsOk; rw [signature?_of (id := "reversed.__length_hint__") (n := "__length_hint__".toList.reverse) (o := ['d', 'e', 's', 'r', 'e', 'v', 'e', 'r']) (by kernel_rfl) RT.owner_rt]; kernel_rfl
theorem hint_rs {it : Addr} {Q : Bool → Shared → Prop} (hz : x.length ≤ sizeLine) (hit : IsRs s.heap it x t ((x.length : Int) - 1)) (hQ : ∀ b tk, Q b { s with toks := tk }) : wpAny (model prog w) A (Builtin.List.listLengthHint (.ref it)) Q E s := by
  obtain ⟨o, ho, hc, hd⟩ := id hit
  have hT : s.TypeIs (.ref it) "reversed" := hit.typeIs
  rw [sizeLine_eq] at hz
  unfold Builtin.List.listLengthHint
  refine wpAny_bind (wpAny_specialOf hT nolen_rt ?_)
  show wpAny _ _ (specialOf (Value.ref it) (Str.ofString "__length_hint__") >>= _) _ _ _
  refine wpAny_bind (wpAny_specialOf hT hint_rt ?_)
  generalize hid : ("reversed.__length_hint__" : String) = id0
  wp_delta
  rw [show splitId id0 = some ("reversed", "__length_hint__") from by subst hid; decide +kernel]
  subst hid
  refine wpAny_bind (wpAny_isInstance (b := true) hT (by rw [isSubtype_type]; kernel_rfl) ?_)
  rw [if_neg (by decide)]
  wp_delta
  rw [if_neg (by decide +kernel)]
  refine wpAny_bind (wpAny_rule ?_)
  refine wpAny_bind (wpAny_of_eq (slot_hint.bind _) ?_)
  try dsimp only
  refine wpAny_bind (wpAny_attempt (wpAny_call_entry slot_hint hT entry_hint ?_ (args_hint _)))
  unfold Builtin.«reversed.__length_hint__»
  refine wpAny_bind (wpAny_of_eq (a := Value.ref it) rfl ?_)
  try dsimp only
  refine wpAny_bind (wpAny_field ho hd (x := .str x t) rfl ?_)
  try dsimp only
  rw [if_neg (show ¬ ((Value.str x t == Value.none) = true) from Bool.false_ne_true)]
  refine wpAny_bind (PySem.P.len_str (by omega) ?_)
  refine wpAny_bind (wpAny_of_eq (a := some ((x.length : Nat) : Int)) rfl ?_)
  try dsimp only
  refine wpAny_bind (wpAny_field (s := { s with toks := s.toks + 1 + 1 }) ho hd (x := rawInt ((x.length : Int) - 1)) rfl ?_)
  show wpAny _ _ (if ((x.length : Nat) : Int) < (x.length : Int) - 1 + 1 then _ else _) _ _ _
  rw [if_neg (by omega)]
  show wpAny _ _ (mkInt ((x.length : Int) - 1 + 1) >>= _) _ _ _
  refine wpAny_bind (wpAny_mkInt (wpAny_pure ⟨_, rfl, ?_⟩))
  try dsimp only
  refine wpAny_bind (wpAny_of_eq (a := some ((x.length : Int) - 1 + 1)) rfl ?_)
  try dsimp only
  have f1 : Builtin.List.listFitsIndex ((x.length : Int) - 1 + 1) = true := by
    unfold Builtin.List.listFitsIndex
    simp only [Bool.and_eq_true, decide_eq_true_eq]
    omega
  have f2 : Builtin.List.listTooLong ((x.length : Int) - 1 + 1).toNat = false := by
    unfold Builtin.List.listTooLong
    rw [sizeLine_eq]
    simp only [gt_iff_lt, decide_eq_false_iff_not]
    omega
  rw [f1]
  simp only [Bool.not_true, Bool.false_eq_true, if_false]
  rw [if_neg (by omega), f2]
  simp only [Bool.false_eq_true, if_false]
  exact wpAny_pure (hQ _ _)
/-- list(r), r = reversed(text) -/
theorem call_list_rs {it : Addr} {Q : Value → Shared → Prop} (hh : A.handled = none) (hz : x.length ≤ sizeLine) (hit : IsRs s.heap it x t ((x.length : Int) - 1))
    (hQ : ∀ h' tk acc' c', (∀ b o, b ≠ it → s.heap.get? b = some o → h'.get? b = some o) →
      h'.get? s.heap.objs.size = some { cls := .type "list", dict := none, data := .seq acc' c', slots := #[] } → ItemsOf (fun i v => ∃ c u, x.cps[x.cps.size - 1 - i]? = some c ∧ v = .str ⟨#[c]⟩ u) acc' x.cps.size → Q (.ref s.heap.objs.size) { s with heap := h', toks := tk }) :
    wpAny (model prog w) A (call (.type "list") [.ref it]) Q E s := by
  have itlt : it < s.heap.objs.size := by obtain ⟨o, e, _⟩ := hit; exact Heap.lt_size e
  have hSI : s.heap.objs.size ≠ it := Nat.ne_of_gt itlt
  have hSf : s.heap.objs.size ∉ [it] := fun hm => hSI (List.mem_singleton.mp hm)
  refine callType_codes (Q₁ := fun obj s₁ => obj = .ref s.heap.objs.size ∧ s₁ = { s with heap := s.heap.push { cls := .type "list", data := .seq #[] } }) F.called_list (F.typeCall_list_1 _) F.entry_list_init
    (code_list_new _ ⟨rfl, rfl⟩) fun obj s₁ h₁ => ?_
  obtain ⟨rfl, rfl⟩ := h₁
  have hS : (s.heap.push { cls := .type "list", data := .seq #[] }).get? s.heap.objs.size = some { cls := .type "list", data := .seq #[] } := Heap.get?_push_size _ rfl
  refine ⟨⟨_, hS, rfl⟩, F.args_list_init_2 _ _, ?_⟩
  show wpAny _ A.in1.in1 (do let old ← Builtin.List.listItems (.ref s.heap.objs.size); Builtin.List.listUpdate (.ref s.heap.objs.size) (fun _ => #[]); letGo old.toList.reverse; Builtin.List.listExtendWith (.ref s.heap.objs.size) (.ref it) .none) _ _ _
  refine wpAny_bind ?_
  unfold Builtin.List.listItems
  refine wpAny_bind (wpAny_seqItems hS rfl (wpAny_pure ?_))
  show wpAny _ A.in1.in1 (updateSeq s.heap.objs.size (fun _ => #[]) >>= fun _ => letGo (#[] : Array Value).toList.reverse >>= fun _ => Builtin.List.listExtendWith (.ref s.heap.objs.size) (.ref it) .none) _ _ _
  refine wpAny_bind (wpAny_updateSeq hS rfl ?_)
  have hS2 := Heap.get?_update_self (Obj.mapSeq (fun _ => (#[] : Array Value))) hS rfl
  refine wpAny_bind (wpAny_letGo ?_)
  have old : ∀ b o, s.heap.get? b = some o → ((s.heap.push { cls := .type "list", data := .seq #[] }).update s.heap.objs.size (Obj.mapSeq (fun _ => (#[] : Array Value)))).get? b = some o := fun b o e =>
    (Heap.get?_update_other _ _ (Ne.symm (Nat.ne_of_lt (Heap.lt_size e)))).trans (Heap.get?_push_of_some _ e)
  have hit2 : IsRs ((s.heap.push { cls := .type "list", data := .seq #[] }).update s.heap.objs.size (Obj.mapSeq (fun _ => (#[] : Array Value)))) it x t ((x.length : Int) - 1) := hit.at fun o e => old _ o e
  have hT : ({ s with heap := (s.heap.push { cls := .type "list", data := .seq #[] }).update s.heap.objs.size (Obj.mapSeq (fun _ => (#[] : Array Value))) } : Shared).TypeIs (.ref it) "reversed" := IsRs.typeIs (s := { s with heap := _ }) hit2
  have h1 : Builtin.List.listSameRef (.ref s.heap.objs.size) (.ref it) = false := by simp [Builtin.List.listSameRef, hSI]
  unfold Builtin.List.listExtendWith
  refine wpAny_bind (wpAny_typeOf hT ?_)
  rw [if_neg (by rw [h1]; decide)]
  refine wpAny_bind (iter_rs (s := { s with heap := _ }) hit2 ?_)
  refine wpAny_bind (wpAny_holding ?_)
  have e0 : ((x.length : Nat) : Int) - 1 = (x.cps.size : Int) - 1 - ((0 : Nat) : Int) := by show (x.cps.size : Int) - 1 = _; omega
  have fin : ∀ (h2 : Heap) (tk c : Nat), (∀ b o, s.heap.get? b = some o → h2.get? b = some o) → h2.get? s.heap.objs.size = some { cls := .type "list", dict := none, data := .seq #[] c, slots := #[] } →
      codeAny (model prog w) A.in1 (.builtin "list.extend.loop" ⟨[.ref s.heap.objs.size, .ref it, .none], []⟩) (wants (fun r s₂ => r = Value.none ∧ Q (Value.ref s.heap.objs.size) s₂) E) { s with heap := h2, toks := tk } := fun h2 tk c k2 hS3 => by
    have hit3 : IsRs h2 it x t ((x.length : Int) - 1) := hit.at fun o e => k2 _ o e
    rw [e0] at hit3
    refine codeAny_extend_loopS (Walks.rs (A := A.in1.in1) hh it hz).toS hz _ hSf _ x.cps.size 0 _ _ _ rfl (Nat.zero_le _) ⟨Nat.zero_le _, hit3⟩ hS3 (ItemsOf.nil _) fun s' acc' c' hm hS' hacc => ?_
    rw [Moved.eq_with hm]
    refine ⟨rfl, hQ s'.heap s'.toks acc' c' (fun b ob hb e => hm.heap b ob (fun hmem => ?_) (k2 b ob e)) hS' hacc⟩
    rcases List.mem_cons.mp hmem with e' | hmem
    · exact absurd (Heap.lt_size e) (by rw [e']; exact Nat.lt_irrefl _)
    · exact hb (List.mem_singleton.mp hmem)
  refine hint_rs (s := { s with heap := _ }) hz hit2 fun b tk => ?_
  cases b with
  | false =>
    rw [if_neg (by decide)]
    exact wpAny_pure ⟨plainId_quiet F.plain_extend_loop _, fin _ tk _ old hS2⟩
  | true =>
    refine wpAny_bind (wpAny_rule ?_)
    refine wpAny_bind ?_
    show wpAny _ _ (updateSeq s.heap.objs.size (·.push .none) >>= fun _ => updateSeq s.heap.objs.size (·.pop)) _ _ _
    refine wpAny_bind (wpAny_updateSeq hS2 rfl ?_)
    have hS3 := Heap.get?_update_self (Obj.mapSeq (·.push Value.none)) hS2 rfl
    refine wpAny_updateSeq (hz := by seq_fits) hS3 rfl ?_
    have hS4 := Heap.get?_update_self (Obj.mapSeq (·.pop)) hS3 rfl
    refine wpAny_pure ⟨plainId_quiet F.plain_extend_loop _, fin _ tk _ (fun b o e => ?_) hS4⟩
    have nb : s.heap.objs.size ≠ b := Ne.symm (Nat.ne_of_lt (Heap.lt_size e))
    exact (Heap.get?_update_other _ _ nb).trans ((Heap.get?_update_other _ _ nb).trans (old b o e))
end
end DLR
set_option Elab.async false
set_option linter.all false
set_option maxRecDepth 100000
set_option maxHeartbeats 2000000
namespace DL
open PySem L2 PySem.Spec PyProof.Rows
theorem vals_of_get : ∀ {xs : List V} {us : List Value}, xs.length = us.length → (∀ (j : Nat) (x : V) (u : Value), xs[j]? = some x → us[j]? = some u → RelV x u) → Vals xs us
  | [], [], _, _ => .nil
  | [], _ :: _, h, _ => by cases h
  | _ :: _, [], h, _ => by cases h
  | x :: xs, u :: us, h, r => .cons (r 0 x u rfl rfl) (vals_of_get (by simpa using h) fun j y w e1 e2 => r (j + 1) y w (by simpa using e1) (by simpa using e2))
def revSigns (x : Str) : List V := x.cps.toList.reverse.map fun c => V.str ⟨#[c]⟩
def tListRev (te : TE) : TE := fun σ H Q => te σ H fun v H1 => ∃ x : Str, v = .str x ∧ x.length ≤ sizeLine ∧ ∀ q, H1 q = none → Q (.ref q) (upd H1 q (.lst (revSigns x)))
section
variable {X : Cx}
theorem pe_listRevS {e : Expr} {te : TE} {p p2 pos pos2 : Pos} (hc : X.calm = true) (hg : Gl X "list") (hm : X.mg "list" = none) (hv : bootBuiltins "list" = some (.type "list")) (hg2 : Gl X "reversed") (hm2 : X.mg "reversed" = none) (he : PE X e te)
    (hs : starEach [e] X.env = (false, eval e X.env) :: starEach [] X.env := by rfl)
    (hs2 : starEach [.Call (.Name "reversed" p2) [e] [] pos2] X.env = (false, eval (.Call (.Name "reversed" p2) [e] [] pos2) X.env) :: starEach [] X.env := by rfl) :
    PE X (.Call (.Name "list" p) [.Call (.Name "reversed" p2) [e] [] pos2] [] pos) (tListRev te) := by
  refine ⟨fun pins s σ H Q I h => ?_⟩
  refine Call_ (ld_blt I hg hm hv (PyProof.Rows.callWith_type1 (args_cons (Call_ (ld_blt I hg2 hm2 PyProof.Rows.boot_reversed (PyProof.Rows.callWith_type1 (args_cons (thn (he.run pins s σ H _ I h) fun u s1 ⟨v, H1, I1, r1, q1⟩ => args_nil ?_) hs) hs rfl))) hs2) hs2 rfl))
  obtain ⟨x, ev, hz, q⟩ := q1
  subst ev
  obtain ⟨t, rfl⟩ := r1
  refine DLR.call_reversed_str hz (args_nil ?_)
  have k0 : ∀ b o, s1.heap.get? b = some o → (s1.heap.push (DLR.rsObj x t ((x.length : Int) - 1))).get? b = some o := fun b o e => Heap.get?_push_of_some _ e
  have I2 : Inv X pins σ H1 { s1 with heap := s1.heap.push (DLR.rsObj x t ((x.length : Int) - 1)), toks := s1.toks + 1 + 1 } := I1.kept (t' := s1.toks + 1 + 1) k0
  refine DLR.call_list_rs (s := { s1 with heap := s1.heap.push (DLR.rsObj x t ((x.length : Int) - 1)), toks := s1.toks + 1 + 1 }) (it := s1.heap.objs.size) (I1.ok.hd hc) hz ⟨_, Heap.get?_push_size _ rfl, rfl, rfl⟩ fun h' tk acc c hk hS hi => ?_
  have hv : Vals (revSigns x) acc.toList := by
    have hl : acc.toList.length = x.cps.size := by rw [Array.length_toList, hi.1]
    refine vals_of_get (by unfold revSigns; rw [List.length_map, List.length_reverse, hl]; simp) fun j y u e1 e2 => ?_
    obtain ⟨cc, tu, h1, rfl⟩ := hi.2 j u (by rw [← Array.getElem?_toList]; exact e2)
    unfold revSigns at e1
    rw [List.getElem?_map] at e1
    have hj : j < x.cps.toList.length := by
      obtain ⟨hj, _⟩ := List.getElem?_eq_some_iff.mp e2
      rw [hl] at hj
      simpa using hj
    rw [List.getElem?_reverse hj] at e1
    have e3 : x.cps.toList[x.cps.toList.length - 1 - j]? = some cc := by
      rw [Array.getElem?_toList]
      simpa using h1
    rw [e3] at e1
    cases e1
    exact ⟨tu, rfl⟩
  have sz1 : (s1.heap.push (DLR.rsObj x t ((x.length : Int) - 1))).objs.size = s1.heap.objs.size + 1 := Heap.size_push ..
  have fp := I1.fpOk (H' := H1) (b := s1.heap.objs.size) (Nat.le_refl _) (I1.hok.fresh (Nat.le_refl _))
  have J := I2.turnedNew (ch := [s1.heap.objs.size]) (ob := .lst (revSigns x)) (h' := h') (t' := tk) (fun b ob hb e => hk b ob (fun z => hb (by simp [z])) e) (fun b hb => by rw [List.mem_singleton.mp hb]; exact fp) (Nat.le_refl _)
    (show ObjOk X.prog X.w _ _ _ (.lst (revSigns x)) from ⟨by unfold revSigns; rw [List.length_map, List.length_reverse]; exact hz, acc.toList, c, hv, by rw [Array.toArray_toList]; exact hS⟩)
  exact ⟨.ref _, _, J, rfl, q _ (I2.hok.fresh (Nat.le_refl _))⟩
end
def revD : D → R (List D)
  | .str s => if s.length ≤ 16777216 then .ok (s.reverse.map fun c => .str [c]) else .stuck
  | _ => .stuck
def revE (f : LE → R D) : LE → R (List D) := fun r => f r >>= revD
section
variable {X : Cx} {G : Gm} {W : WX} {e : Expr} {f : LE → R D} {p p2 pos pos2 : Pos}
theorem df_listRevS (hc : X.calm = true) (hg : Gl X "list") (hm : X.mg "list" = none) (hg2 : Gl X "reversed") (hm2 : X.mg "reversed" = none) (he : DE X G W e f) (hv : bootBuiltins "list" = some (.type "list") := by rfl)
    (hs : starEach [e] X.env = (false, eval e X.env) :: starEach [] X.env := by rfl)
    (hs2 : starEach [.Call (.Name "reversed" p2) [e] [] pos2] X.env = (false, eval (.Call (.Name "reversed" p2) [e] [] pos2) X.env) :: starEach [] X.env := by rfl) :
    DF X G W (.Call (.Name "list" p) [.Call (.Name "reversed" p2) [e] [] pos2] [] pos) (revE f) := by
  refine PE_imp (pe_listRevS hc hg hm hv hg2 hm2 he hs hs2) fun sg H Q ⟨dl, Z, O, r, A, q⟩ => ?_
  refine ⟨dl, Z, O, r, A, q.bind.thn fun d hd v H1 g1 k1 rp => ?_⟩
  unfold revD at hd
  split at hd
  · rename_i s
    split at hd
    · rename_i hz
      unfold Rep at rp
      subst rp
      refine ⟨_, rfl, by rw [sizeLine_eq]; simpa [Str.length] using hz, fun p hp => ?_⟩
      have := hd p (revSigns ⟨s.toArray⟩) H1 g1 k1 hp (by
        unfold revSigns
        exact signs_rep (s := s.reverse))
      exact this
    · exact hd.elim
  · exact hd.elim
end
end DL
set_option Elab.async false
set_option linter.all false
set_option maxRecDepth 100000
set_option maxHeartbeats 1000000
namespace DL
open PySem L2 PySem.Spec PyProof.Rows
section
variable {G : Gm} {dl D : Addr} {Z : List Addr} {O : List (Nat × Addr)} {r : LE} {sg : L2.St} {H : Hp} {us xs : List V}
theorem app_cut (hD : H D = some (.lst us)) : GrowS (cut H (D :: Z)) (cut (upd H D (.lst xs)) (D :: Z)) := fun b o e n => by
  obtain ⟨e1, e2⟩ := cut_some e
  have hbD : b ≠ D := fun z => e1 (by rw [z]; exact List.mem_cons_self)
  rw [cut_out e1, upd_ne hbD]; exact e2
theorem GlOk.app (k4 : GlOk G dl H) (D4 : H D = some (.lst us)) (hDd : D ≠ dl) : GlOk G dl (upd H D (.lst xs)) := by
  obtain ⟨x1, y1, z1, hd1⟩ := k4.dice
  refine ⟨⟨x1, y1, z1, by rw [upd_ne fun e => hDd e.symm]; exact hd1⟩, fun p hp => ?_⟩
  obtain ⟨ps, h1, h2, h3⟩ := k4.tab p hp
  have hpD : p.1 ≠ D := fun e => by rw [e, D4] at h1; cases h1
  refine ⟨ps, by rw [upd_ne hpD]; exact h1, h2, fun pos cv hc => ?_⟩
  obtain ⟨c, e1, e2⟩ := h3 pos cv hc
  have hcD : c ≠ D := fun e => by
    rw [e, D4] at e2
    have e3 := Option.some.inj e2
    cases e3
  exact ⟨c, e1, by rw [upd_ne hcD]; exact e2⟩
theorem At.app (C4 : At G dl (D :: Z) O r sg H) (D4 : H D = some (.lst us)) (hDd : D ≠ dl) (hO : ∀ q ∈ O, q.2 ≠ D) : At G dl (D :: Z) O r sg (upd H D (.lst xs)) := by
  have nt : ∀ (xs : List V) ps, HO.lst xs ≠ HO.tbl ps := fun _ _ z => by cases z
  refine ⟨C4.gl.app D4 hDd, C4.dz, fun b hb => ?_, C4.own, C4.inj, C4.len, fun j c e => ?_⟩
  · by_cases e : b = D
    · rw [e]; exact ⟨_, upd_same, nt _⟩
    · obtain ⟨u, h1, h2⟩ := C4.live b hb
      exact ⟨u, by rw [upd_ne e]; exact h1, h2⟩
  · have := C4.slot j c e
    cases c with
    | un => trivial
    | val d =>
      obtain ⟨v, e, q⟩ := this
      exact ⟨v, e, q.mono (app_cut D4)⟩
    | own d =>
      obtain ⟨a, ha, e, q, ko⟩ := this
      refine ⟨a, ha, e, ?_, ko⟩
      rw [upd_ne (hO _ ha)]; exact q.mono (app_cut D4)
end
end DL
set_option Elab.async false
set_option linter.all false
set_option maxRecDepth 100000
set_option maxHeartbeats 1000000
namespace DL
open PySem L2 PySem.Spec PyProof.Rows
def sidxD : D → List D → R D
  | .str s, [.str [c]] => (match s.findIdx? (· == c) with
    | some i => .ok (.int i)
    | none => .stuck)
  | _, _ => .stuck
theorem occ_sign {s : List Nat} {c i : Nat} (h : s.findIdx? (· == c) = some i) : ∃ rest, Builtin.Str.occurrences ⟨s.toArray⟩ ⟨#[c]⟩ 0 (⟨s.toArray⟩ : Str).length 1 = i :: rest := by
  obtain ⟨hi, h1, h2⟩ := List.findIdx?_eq_some_iff_getElem.mp h
  have hat : ∀ k, StrLaws.At ⟨s.toArray⟩ ⟨#[c]⟩ (⟨s.toArray⟩ : Str).length k ↔ s[k]? = some c := fun k => StrLaws.subAt_one ⟨s.toArray⟩ c k
  have hc : s[i]? = some c := by rw [List.getElem?_eq_getElem hi]; simpa using h1
  rcases StrLaws.occ_head ⟨s.toArray⟩ ⟨#[c]⟩ 1 (Nat.le_refl _) with ⟨_, hn⟩ | ⟨j, r, e, hj, hk⟩
  · exact (hn i ((hat i).mpr hc)).elim
  · have hj' := (hat j).mp hj
    have : j = i := by
      rcases Nat.lt_trichotomy j i with q | q | q
      · have := h2 j q
        rw [List.getElem?_eq_getElem (by omega)] at hj'
        simp at this hj'
        exact (this hj').elim
      · exact q
      · exact (hk i q ((hat i).mpr hc)).elim
    subst this
    exact ⟨r, e⟩
def pairsD : List D → Option (List (D × D))
  | [] => some []
  | .tup [k, v] :: ds => if k.key1 = true then (pairsD ds).map ((k, v) :: ·) else none
  | _ :: _ => none
section
variable {X : Cx} {G : Gm} {W : WX} {dl : Addr} {H : Hp} {Z : List Addr}
theorem bm_sindex : BmD X G "str" "index" sidxD := by
  refine ⟨⟨_, _, PySem.F.slot_str_index, PySem.F.type_str_index, mt_sindex, ?_⟩, PySem.F.plainAttrs_str⟩
  intro dl Z O r sg x vx ds vs H Q E A hx hds h
  unfold sidxD at h
  split at h
  · rename_i s c
    split at h
    · rename_i i hi
      obtain ⟨v, rfl, hv⟩ := hds.one
      obtain ⟨rest, ho⟩ := occ_sign hi
      exact ⟨_, _, i, rest, hx.str, by rw [hv.str], ho, h _ H (.refl _ _) A.gl Rep.int_⟩
    · exact h.elim
  · exact h.elim
theorem pairsD_rep : ∀ {ds : List D} {ps : List (D × D)} {vs : List V}, pairsD ds = some ps → RepL G dl (cut H Z) ds vs → ∃ (as : List Addr) (kv : List (Key × V)), vs = as.map V.ref ∧ Paired (fun p kv => SqT G.K H p [kV kv.1, kv.2]) as kv ∧ RepK G dl (cut H Z) ps kv
  | [], ps, vs, h, rl => by
    cases h
    unfold RepL at rl
    exact ⟨[], [], rl, .nil, by unfold RepK; rfl⟩
  | d :: ds, ps, vs, h, rl => by
    unfold RepL at rl
    obtain ⟨v, r, rfl, h1, h2⟩ := rl
    match d, h, h1 with
    | .tup [k, w], h, h1 =>
      unfold pairsD at h
      split at h
      case isFalse => cases h
      rename_i hk
      cases hp : pairsD ds with
      | none => rw [hp] at h; cases h
      | some ps' =>
        rw [hp] at h
        cases h
        obtain ⟨as, kv, e3, h3, h4⟩ := pairsD_rep hp h2
        unfold Rep at h1
        obtain ⟨a, vs2, e5, hs, rl2⟩ := h1
        subst e5
        obtain ⟨x, hx⟩ := key1_key hk
        unfold RepL at rl2
        obtain ⟨v1, r1, e6, r1', rl3⟩ := rl2
        unfold RepL at rl3
        obtain ⟨v2, r2, e7, r2', rl4⟩ := rl3
        unfold RepL at rl4
        subst rl4
        subst e7
        subst e6
        have := key_kV hx (RepP.of r1')
        subst this
        refine ⟨a :: as, (x, v2) :: kv, by rw [e3]; rfl, .cons ((cut_grow H Z).sqt hs) h3, ?_⟩
        unfold RepK
        exact ⟨x, v2, kv, rfl, hx, r2', h4⟩
end
end DL
set_option Elab.async false
set_option linter.all false
set_option maxRecDepth 100000
namespace DL
open PySem L2 PySem.Spec PyProof.Rows
def itS (f : LE → R D) : LE → R (List D) := fun r => f r >>= strD
def enumTE (k : Int) (fs : LE → R (List D)) : LE → R (List D) := fun r => fs r >>= enumTD k
/-- the law's round keeps the law, whatever is rolled -/
structure LawOk (F : LE → R Out) (m : Nat) : Prop where
  out : Wp (F (r0 m)) (fun o => ∃ r, o = .nx r ∨ o = .ct r) (fun _ => False)
section
variable {P : Program} {w : World} {K : PySem.W.Frag} {mg : Str → Option Value} {base : Heap} {G : Gm} {x qual : Str} {st : Stmt} {f : Addr} {fd : FuncData} {N ps : List Str} {k n m c nf : Nat} {F : LE → R Out}
theorem law_W {cdv : Value} {m : Nat} {oc : Value} {od : Option Addr} {kV doc pm : Value} {an : Option Addr} {ct : Value} {osl : Array (Option Value)} (lk : K.lookup f = some ⟨oc, od, .func (PySem.W.fnOf "law" "law" (defArgs st) (defBody st) (defScope st) .none kV doc pm an cdv ct), osl⟩)
    (cd : PySem.W.codeIn K cdv "law" = true) (S : FnScope N ["script"] (defScope st)) (hm : N.length = m) (h2 : 2 ≤ m) (hG : G.K = K) (hF : LawOk F m)
    (hb : ∀ A outer s H E, Room k (A.deeper (envOfC "law" (defScope st) s.heap.objs.size f cdv)) → ∃ E', PSs (cxD P w K mg base N "law" st f cdv A outer s H E) (defBody st) (tSeq (tFor (iList G.K (tCallS (spRounds G.K) E' (tCons (tVar 0) (tCons (tC (.int 1)) tNil)))) (gName 1) (tS G (WD E) F)) (tRet (tC (.bl true))))) :
    FnOk P w K mg base (L2.CX P w) (k + 1) f (PySem.W.fnOf "law" "law" (defArgs st) (defBody st) (defScope st) .none kV doc pm an cdv ct) ["script"] (spLaw K G.tabs) := by
  exact law_V lk cd S hm h2 hG hF.out hb
end
end DL
set_option Elab.async false
set_option linter.all false
set_option maxRecDepth 100000
namespace DL
open PySem L2 PySem.Spec PyProof.Rows
/-- every roll tried -/
def ckR {α : Type} : R α → (α → Bool) → Bool
  | .ok a, p => p a
  | .err _, _ => false
  | .stuck, _ => false
  | .roll m f, p => (List.range m).all fun i => ckR (f i) p
theorem ckR_wp {α : Type} : ∀ (m : R α) (p : α → Bool), ckR m p = true → Wp m (fun a => p a = true) (fun _ => False)
  | .ok a, p, h => h
  | .err _, p, h => by cases h
  | .stuck, p, h => by cases h
  | .roll m f, p, h => fun i hi => by
    have h : ((List.range m).all fun i => ckR (f i) p) = true := h
    rw [List.all_eq_true] at h
    exact ckR_wp (f i) p (h i (List.mem_range.mpr hi))
/-- (hidden from the unifier) -/
structure Ck {α : Type} (m : R α) (p : α → Bool) : Prop where
  h : ckR m p = true
theorem Ck.wp {α : Type} {m : R α} {p : α → Bool} (h : Ck m p) : Wp m (fun a => p a = true) (fun _ => False) := ckR_wp m p h.h
/-- statements in a row -/
def seqAll : List (LE → R Out) → (LE → R Out) → LE → R Out
  | [], K => K
  | S :: Ss, K => seqS S (seqAll Ss K)
/-- .. run to their end: the state behind them -/
def runAll : List (LE → R Out) → LE → R LE
  | [], r => .ok r
  | S :: Ss, r => S r >>= fun o => match o with
    | .nx r' => runAll Ss r'
    | _ => .stuck
structure GoP (P : Out → Prop) (F : LE → R Out) (r : LE) : Prop where
  h : Wp (F r) P (fun _ => False)
theorem runAll_wp {P : Out → Prop} {K : LE → R Out} {Q : LE → Prop} : ∀ (Ss : List (LE → R Out)) (r : LE), Wp (runAll Ss r) Q (fun _ => False) → (∀ r', Q r' → GoP P K r') → Wp (seqAll Ss K r) P (fun _ => False)
  | [], r, h, k => (k r h).h
  | S :: Ss, r, h, k => by
    show Wp (S r >>= fun o => match o with
      | .nx r' => seqAll Ss K r'
      | o => .ok o) _ _
    refine Wp.of_bind ((show Wp (S r >>= _) _ _ from h).bind.mono (fun o ho => ?_) fun _ z => z)
    cases o with
    | nx r' => exact runAll_wp Ss r' ho k
    | rt _ => exact ho.elim
    | ex _ _ => exact ho.elim
    | bk _ => exact ho.elim
    | ct _ => exact ho.elim
structure Wr {α : Type} (m : R α) (Q : α → Prop) : Prop where
  h : Wp m Q (fun _ => False)
theorem GoP.one {P : Out → Prop} {S F K : LE → R Out} {r : LE} {Q : LE → Prop} (e : F = seqS S K) (h : Wr (runAll [S] r) Q) (k : ∀ r', Q r' → GoP P K r') : GoP P F r := by
  subst e
  exact ⟨runAll_wp [S] r h.h k⟩
theorem Wr.run1 {i : Nat} {f : LE → R D} {r : LE} {Q : LE → Prop} (h : Wr (f r) (fun d => Q (r.set i (.val d)))) : Wr (runAll [setK i (valK f)] r) Q := by
  refine ⟨Wp.of_bind ((Wp_setK (h.h.mono (fun d hd => ?_) fun _ z => z.elim) : Wp (setK i (valK f) r) (fun o => ∃ r', o = .nx r' ∧ Q r') _).mono (fun o ho => ?_) fun _ z => z)⟩
  · exact ⟨_, rfl, hd⟩
  · obtain ⟨r', rfl, hq⟩ := ho
    exact hq
theorem LawOk.of {F : LE → R Out} {m : Nat} (g : GoP (fun o => ∃ r, o = .nx r ∨ o = .ct r) F (r0 m)) : LawOk F m := ⟨g.h⟩
/-- all texts of n of the signs S -/
def allT (S : List Nat) : Nat → (List Nat → Bool) → Bool
  | 0, p => p []
  | n + 1, p => S.all fun c => allT S n fun s => p (c :: s)
theorem allT_at {S : List Nat} : ∀ {n : Nat} {p : List Nat → Bool}, allT S n p = true → ∀ s : List Nat, s.length = n → (∀ c ∈ s, c ∈ S) → p s = true
  | 0, p, h, [], _, _ => h
  | n + 1, p, h, c :: s, hl, hs => by
    have h : (S.all fun c => allT S n fun s => p (c :: s)) = true := h
    rw [List.all_eq_true] at h
    exact allT_at (h c (hs c List.mem_cons_self)) s (by simpa using hl) fun d hd => hs d (List.mem_cons_of_mem _ hd)
end DL
set_option Elab.async false
set_option linter.all false
set_option maxRecDepth 100000
namespace DL
open PySem L2 PySem.Spec PyProof.Rows
theorem joinL_signs : ∀ s : List Nat, TL.joinL [] (s.map fun c => [c]) = s
  | [] => rfl
  | [c] => rfl
  | c :: d :: s => by
    have := joinL_signs (d :: s)
    rw [List.map_cons, List.map_cons] at *
    unfold TL.joinL
    rw [this]
    rfl
theorem strsD_signs : ∀ s : List Nat, strsD (s.map fun c => D.str [c]) = some (s.map fun c => [c])
  | [] => rfl
  | c :: s => by
    rw [List.map_cons]
    unfold strsD
    rw [strsD_signs s]
    rfl
theorem joinD_signs (s : List Nat) (h : s.length ≤ 1000) : joinD (.str []) [.lst (s.map fun c => D.str [c])] = .ok (.str s) := by
  show (match strsD (s.map fun c => D.str [c]) with
    | some ss => if joinOk [] ss then R.ok (D.str (TL.joinL [] ss)) else .stuck
    | none => .stuck) = _
  rw [strsD_signs]
  have e : ∀ l : List Nat, (l.map fun c => ([c] : List Nat).length).sum = l.length := fun l => by
    induction l with
    | nil => rfl
    | cons a l ih => rw [List.map_cons, List.sum_cons, ih, List.length_cons, List.length_nil, List.length_cons]; omega
  have hk : joinOk [] (s.map fun c => [c]) = true := by
    unfold joinOk
    rw [List.map_map]
    have := e s
    refine decide_eq_true ?_
    show ((s.map fun c => ([c] : List Nat).length)).sum + _ * 0 ≤ _
    rw [this]; omega
  dsimp only
  rw [if_pos hk, joinL_signs]
theorem all_signs {S : List Nat} : ∀ ys : List D, (∀ d ∈ ys, ∃ c, c ∈ S ∧ d = .str [c]) → ∃ s : List Nat, ys = s.map (fun c => D.str [c]) ∧ s.length = ys.length ∧ ∀ c ∈ s, c ∈ S
  | [], _ => ⟨[], rfl, rfl, fun _ h => by cases h⟩
  | y :: ys, h => by
    obtain ⟨c, hc, rfl⟩ := h y List.mem_cons_self
    obtain ⟨s, rfl, h2, h3⟩ := all_signs ys fun d hd => h d (List.mem_cons_of_mem _ hd)
    exact ⟨c :: s, rfl, by simp, fun d hd => by
      rcases List.mem_cons.mp hd with rfl | hd
      · exact hc
      · exact h3 d hd⟩
end DL
set_option Elab.async false
set_option linter.all false
set_option maxRecDepth 100000
namespace DL
open PySem L2 PySem.Spec PyProof.Rows
def figF : Nat → Nat → List Nat → List Nat
  | 0, _, acc => acc
  | f + 1, n, acc => if n < 10 then (48 + n) :: acc else figF f (n / 10) ((48 + n % 10) :: acc)
theorem figF_is : ∀ (f n : Nat) (acc : List Nat), n < 10 ^ f → 0 < f → figF f n acc = TL.numL n ++ acc
  | 0, n, acc, _, h => absurd h (by omega)
  | f + 1, n, acc, h, _ => by
    unfold figF
    split
    · rename_i hn
      rw [TL.numL_lt hn]
      rfl
    · rename_i hn
      rw [TL.numL_step (by omega)]
      cases f with
      | zero => omega
      | succ f =>
        rw [figF_is (f + 1) (n / 10) _ (by rw [Nat.pow_succ] at h; omega) (by omega)]
        simp
def strOf : List D → R D
  | [.int i] => if 0 ≤ i ∧ i < 1000000000000000000 then .ok (.str (figF 18 i.toNat [])) else .stuck
  | [.str s] => .ok (.str s)
  | _ => .stuck
section
variable {X : Cx} {G : Gm}
theorem cd_str : CallD X G (.type "str") strOf := by
  refine ⟨_, CallR.or_ call_str_int SkE.call_str_str, fun dl Z O r sg ds vs H Q E A rl h => ?_⟩
  unfold strOf at h
  split at h
  · rename_i i
    split at h
    case isFalse => exact h.elim
    rename_i hi
    obtain ⟨v, rfl, rp⟩ := rl.one
    refine .inl ⟨i, by rw [rp.int], ?_, ?_⟩
    · by_cases hz : i.natAbs = 0
      · rw [hz]; decide
      · have : i.natAbs.log2 < 60 := (Nat.log2_lt hz).mpr (by omega)
        omega
    · have e : (toString i : Str) = ⟨(figF 18 i.toNat []).toArray⟩ := by
        rw [figF_is 18 i.toNat [] (by omega) (by omega), List.append_nil]
        obtain ⟨n, rfl⟩ := Int.eq_ofNat_of_zero_le hi.1
        exact SX.num_S n
      rw [e]
      exact h _ H (.refl _ _) A.gl Rep.str_
  · rename_i s
    obtain ⟨v, rfl, rp⟩ := rl.one
    exact .inr ⟨_, by rw [rp.str], h _ H (.refl _ _) A.gl Rep.str_⟩
  · exact h.elim
end
end DL
set_option Elab.async false
set_option linter.all false
set_option maxRecDepth 100000
set_option maxHeartbeats 1000000
namespace L2
open PySem PySem.Spec PyProof.Rows
end L2
namespace DL
open PySem L2 PySem.Spec PyProof.Rows
end DL
set_option Elab.async false
set_option linter.all false
set_option maxRecDepth 100000
set_option maxHeartbeats 1000000
namespace L2
open PySem PySem.Spec PyProof.Rows
/-- a dict of n entries -/
def DN (p : Addr) (n : Nat) : HO := .ext fun h => (p == sysModules) = false ∧ ∃ (o : Obj) (es : Array DictEntry) (ep : Nat), h.get? p = some o ∧ o.ExactDict ∧ o.data = .dict es ep ∧ es.size = n
def addKey (ks : List (List Key)) (k : List Key) : List (List Key) := if (ks.any fun x => decide (x = k)) = true then ks else ks ++ [k]
theorem any_key {ks : List (List Key)} {k : List Key} : (ks.any fun x => decide (x = k)) = true ↔ k ∈ ks := by
  rw [List.any_eq_true]
  exact ⟨fun ⟨x, hx, e⟩ => of_decide_eq_true e ▸ hx, fun h => ⟨k, h, decide_eq_true rfl⟩⟩
def ndKeys (ks : List (List Key)) : List (List Key) := ks.foldl addKey []
theorem atKey_some {xs : List (List Key × Addr × Value)} {k : List Key} : (atKey xs k).isSome = true ↔ k ∈ xs.map (·.1) := by
  unfold atKey
  rw [Option.isSome_map, List.find?_isSome]
  constructor
  · rintro ⟨x, hx, e⟩
    exact List.mem_map.mpr ⟨x, hx, of_decide_eq_true e⟩
  · intro h
    obtain ⟨x, hx, e⟩ := List.mem_map.mp h
    exact ⟨x, hx, decide_eq_true e⟩
theorem keys_storedH (xs : List (List Key × Addr × Value)) (k : List Key) (a : Addr) (v : Value) : (storedH xs k a v).map (·.1) = addKey (xs.map (·.1)) k := by
  unfold storedH addKey
  by_cases h : k ∈ xs.map (·.1)
  · rw [if_pos (any_key.mpr h), if_pos (atKey_some.mpr h), List.map_map]
    refine List.map_congr_left fun x _ => ?_
    show (putAt k v x).1 = x.1
    unfold putAt
    split <;> rfl
  · rw [if_neg (fun z => h (any_key.mp z)), if_neg (fun z => h (atKey_some.mp z)), List.map_append]
    rfl
theorem keys_storedAll : ∀ (ps xs : List (List Key × Addr × Value)), (storedAllH xs ps).map (·.1) = (ps.map (·.1)).foldl addKey (xs.map (·.1))
  | [], xs => rfl
  | p :: ps, xs => by
    show (storedAllH (storedH xs p.1 p.2.1 p.2.2) ps).map (·.1) = _
    rw [keys_storedAll ps, keys_storedH]
    rfl
section
variable {X : Cx}
theorem tup_pairs {pins : List (Addr × Obj)} {σ : L2.St} {H : Hp} {s : Shared} (I : Inv X pins σ H s) : ∀ {ps : List Addr} {kvs : List (List Key × V)}, Paired (fun (p : Addr) (kv : List Key × V) => ∃ b, SqT X.K H p [.ref b, kv.2] ∧ SqT X.K H b (kv.1.map kV)) ps kvs →
    ∃ prs : List (List Key × Addr × Value), prs.map (·.1) = kvs.map (·.1) ∧ prs.length = ps.length ∧ ∀ (j : Nat) (q : List Key × Addr × Value), prs[j]? = some q → ∃ (b : Addr), ps[j]? = some b ∧ IsTup s.heap b #[.ref q.2.1, q.2.2] ∧ (tupleKind (mixKind X.prog X.w)).is s.heap q.1 q.2.1
  | _, _, .nil => ⟨[], rfl, rfl, fun j q e => by simp at e⟩
  | _, _, .cons (a := p) (b := kv) h t => by
    obtain ⟨prs, hk, hl, hp⟩ := tup_pairs I t
    obtain ⟨b, h1, h2⟩ := h
    obtain ⟨its, rv, ht, _⟩ := I.tuple h1
    obtain ⟨u, y, ei, ru, ry⟩ := vals2 rv
    subst ei
    cases ru
    obtain ⟨its2, rv2, ⟨o, e1, e2, n, e3⟩, _⟩ := I.tuple h2
    refine ⟨(kv.1, b, y) :: prs, by rw [List.map_cons, List.map_cons, hk], by rw [List.length_cons, List.length_cons, hl], fun j q e => ?_⟩
    cases j with
    | zero =>
      have e' : (kv.1, b, y) = q := Option.some.inj e
      subst e'
      exact ⟨p, rfl, ht, o, its2.toArray, n, e1, e2, e3, by simpa using items_are rv2⟩
    | succ j =>
      obtain ⟨b, e1, e2, e3⟩ := hp j q (by simpa using e)
      exact ⟨b, by simpa using e1, e2, e3⟩
def rDictN (K : PySem.W.Frag) : List V → Hp → VK → Prop := fun xs H Q => ∃ (a : Addr) (ps : List Addr) (kvs : List (List Key × V)), xs = [.ref a] ∧ SqL K H a (ps.map V.ref) ∧ Paired (fun (p : Addr) (kv : List Key × V) => ∃ b, SqT K H p [.ref b, kv.2] ∧ SqT K H b (kv.1.map kV)) ps kvs ∧
    ∀ p, H p = none → Q (.ref p) (upd H p (DN p (ndKeys (kvs.map (·.1))).length))
theorem call_dictN (hcalm : X.calm = true) (hu : X.A.units + 3 < cLine) : CallR X (.type "dict") (rDictN X.K) := by
  intro pins s σ H xs us Q I r q
  obtain ⟨a, ps, kvs, ex, hq, hp, q⟩ := q
  subst ex
  obtain ⟨u, eu, rx⟩ := vals1 r
  subst eu
  cases rx
  obtain ⟨its, rv, pl, hz⟩ := I.list hq
  have ei := refs_at rv
  subst ei
  rw [List.length_map] at hz
  obtain ⟨prs, hk, hl, hpr⟩ := tup_pairs I hp
  obtain ⟨o, n, ho, hc, hd, hdat⟩ := pl
  have prsAt : ∀ {j : Nat} {k v : Value}, (prs.map fun q => ((Value.ref q.2.1 : Value), q.2.2))[j]? = some (k, v) → ∃ q, prs[j]? = some q ∧ k = .ref q.2.1 ∧ v = q.2.2 := fun {j k v} e => by
    rw [List.getElem?_map] at e
    obtain ⟨q, hq, e2⟩ := Option.map_eq_some_iff.mp e
    cases e2
    exact ⟨q, hq, rfl, rfl⟩
  refine call_dict_pairsH (knd := tupleKind (mixKind X.prog X.w)) (ps := prs) (PairArg.list a (ps.map Value.ref).toArray (fun j => ps.getD j 0) (prs.map fun q => ((Value.ref q.2.1 : Value), q.2.2))) (I.ok.hd hcalm) (by show X.A.in1.in1.units < cLine; simp only [units_in1]; omega) ⟨⟨o, n, ho, hc, hd, hdat⟩, by simp [hl], fun j k v e => ?_⟩ ⟨by simp, fun i key v e => ?_⟩ (fun h' kk x hx => ?_) (by rw [List.length_map, hl]; exact hz) fun h' tk hd' k => ?_
  · obtain ⟨q, hq2, rfl, rfl⟩ := prsAt e
    obtain ⟨b, e1, e2, e3⟩ := hpr j q hq2
    refine ⟨by simp [e1, List.getD_eq_getElem?_getD], .inl ?_⟩
    have : ps.getD j 0 = b := by rw [List.getD_eq_getElem?_getD, e1]; rfl
    show s.heap.IsTuple (ps.getD j 0) _
    rw [this]
    exact e2
  · obtain ⟨q, hq2, rfl, rfl⟩ := prsAt e
    exact ⟨q.1, q.2.1, hq2, rfl⟩
  · obtain ⟨j, hj⟩ := List.mem_iff_getElem?.mp hx
    obtain ⟨b, e1, e2, o3, it3, n3, e3, e4, e5, e6⟩ := hpr j x hj
    exact ⟨o3, it3, n3, kk _ _ (Nat.ne_of_lt (Heap.lt_size e3)) (by simp) e3, e4, e5, e6⟩
  · have hlen := hd'
    obtain ⟨od, es, ep, f1, f2, f3, f4, f5, f6⟩ := hd'
    refine ⟨.ref s.heap.objs.size, upd H s.heap.objs.size (DN s.heap.objs.size (ndKeys (kvs.map (·.1))).length), I.laid (t' := tk) (fun b ob e => k b ob (by simp) e) (Nat.le_refl _) ⟨⟨beq_eq_false_iff_ne.mpr (Nat.ne_of_gt I.big), od, es, ep, f1, f2, f3, ?_⟩, ⟨od, f1⟩, fun h1 h2 ⟨g0, o1, es1, ep1, g1, g2, g3, g4⟩ st => ⟨g0, o1, es1, ep1, st _ g1, g2, g3, g4⟩⟩, rfl, q _ (I.hok.fresh (Nat.le_refl _))⟩
    have e1 := keys_storedAll prs []
    rw [hk] at e1
    have e2 := congrArg List.length f4
    have e3 := congrArg List.length e1
    simp only [List.length_map, Array.length_toList] at e2 e3
    rw [e2, e3]
    rfl
def rLenN : List V → Hp → VK → Prop := fun xs H Q => ∃ (p : Addr) (n : Nat), xs = [.ref p] ∧ H p = some (DN p n) ∧ n ≤ 16777216 ∧ Q (.int (n : Nat)) H
theorem call_len_N : CallR X (.builtin "len") rLenN := by
  intro pins s σ H xs us Q I r h
  obtain ⟨p, n, rfl, hp, hn, q⟩ := h
  obtain ⟨u, rfl, rx⟩ := vals1 r
  obtain rfl : u = .ref p := rx
  obtain ⟨⟨hsys, o, es, ep, f1, f2, f3, f4⟩, _, _⟩ := I.hok p _ hp
  have hr : s.heap.DictRaw p es ep := ⟨o, f1, f2, f3⟩
  refine Calls.call_function_entry kind_len plain_len entry_len (args_len1 _) ?_
  unfold Builtin.«len»
  refine wpAny_bind (m := oneArg "len" _) (wpAny_pure ?_)
  refine wpAny_bind (m := callSpecial? (.ref p) (Str.ofString "__len__")) (wpAny_callSpecial?_slot (name := Str.ofString "__len__") hr.typeIs PySem.F.slot_dict_len
    (call_len_raw hsys hr ?_))
  show wpAny _ _ _ _ _ { s with toks := s.toks + 1 }
  refine wpAny_bind (wpAny_holding (wpAny_pure ?_))
  refine wpAny_bind (wpAny_letGo ?_)
  show wpAny _ _ (if ((es.size : Nat) : Int) < 0 then _ else _) _ _ _
  rw [if_neg (by omega)]
  show wpAny _ _ (if ((es.size : Nat) : Int) ≥ 2 ^ 63 then _ else _) _ _ _
  rw [if_neg (by omega)]
  refine wpAny_bind (wpAny_mkInt (wpAny_pure ⟨_, rfl, ?_⟩))
  rw [f4]
  exact ⟨.int (n : Nat), H, I.tok _, ⟨_, rfl⟩, q⟩
end
end L2
namespace DL
open PySem L2 PySem.Spec PyProof.Rows
def keysD : List D → Option (List D)
  | [] => some []
  | .int i :: r => (keysD r).map (.int i :: ·)
  | .str s :: r => (keysD r).map (.str s :: ·)
  | _ :: _ => none
def keqsD : List D → List D → Bool
  | [], [] => true
  | a :: r, b :: t => a.keq b && keqsD r t
  | _, _ => false
/-- the keys of pairs whose keys are tuples -/
def tkeysD : List D → Option (List (List D))
  | [] => some []
  | .tup [.tup ks, _] :: ds => (match keysD ks, tkeysD ds with
    | some k, some r => some (k :: r)
    | _, _ => none)
  | _ :: _ => none
def addD_ (acc : List (List D)) (k : List D) : List (List D) := if (acc.any fun x => keqsD x k) = true then acc else acc ++ [k]
def lenDD : D → R D
  | .lst ds => (match pairsD ds with
    | some ps => .ok (.int ((mergeD [] ps).length : Nat))
    | none => match tkeysD ds with
      | some ks => if ds.length ≤ 16777216 then .ok (.int ((ks.foldl addD_ []).length : Nat)) else .stuck
      | none => .stuck)
  | _ => .stuck
def lenDictE (f : LE → R D) : LE → R D := fun r => f r >>= lenDD
def D.keyOf : D → Key
  | .int i => .inl i
  | .str s => .inr ⟨s.toArray⟩
  | _ => .inl 0
section
variable {X : Cx} {G : Gm} {W : WX} {dl : Addr} {S : Hp} {f : LE → R D} {e : Expr} {p p2 pos pos2 : Pos}
theorem keysD_rep : ∀ {ks k : List D} {vs : List V}, keysD ks = some k → RepL G dl S ks vs → k = ks ∧ vs = (k.map D.keyOf).map kV
  | [], k, vs, h, rl => by
    cases h
    unfold RepL at rl
    exact ⟨rfl, rl⟩
  | d :: ks, k, vs, h, rl => by
    unfold RepL at rl
    obtain ⟨v, r, rfl, h1, h2⟩ := rl
    cases d <;> first | (simp [keysD] at h; done) | skip
    all_goals
      unfold keysD at h
      cases e : keysD ks with
      | none => rw [e] at h; cases h
      | some t =>
        rw [e] at h
        cases h
        obtain ⟨e1, e2⟩ := keysD_rep e h2
        unfold Rep at h1
        rw [h1, e2, e1]
        exact ⟨rfl, rfl⟩
theorem keysD_plain : ∀ {ks k : List D}, keysD ks = some k → keysD k = some k
  | [], k, h => by cases h; rfl
  | d :: ks, k, h => by
    cases d <;> first | (simp [keysD] at h; done) | skip
    all_goals
      unfold keysD at h
      cases e : keysD ks with
      | none => rw [e] at h; cases h
      | some t =>
        rw [e] at h
        cases h
        unfold keysD
        rw [keysD_plain e]
        rfl
theorem keqs_key : ∀ {a b : List D}, keysD a = some a → keysD b = some b → keqsD a b = decide (a.map D.keyOf = b.map D.keyOf)
  | [], [], _, _ => by simp [keqsD]
  | [], y :: b, _, _ => by simp [keqsD]
  | x :: a, [], _, _ => by simp [keqsD]
  | x :: a, y :: b, h1, h2 => by
    have k1 : x.key = some x.keyOf ∧ keysD a = some a := by
      cases x <;> first | (simp [keysD] at h1; done) | skip
      all_goals
        unfold keysD at h1
        cases e : keysD a with
        | none => rw [e] at h1; cases h1
        | some t => rw [e] at h1; have := Option.some.inj h1; exact ⟨rfl, by rw [(List.cons.inj this).2]⟩
    have k2 : y.key = some y.keyOf ∧ keysD b = some b := by
      cases y <;> first | (simp [keysD] at h2; done) | skip
      all_goals
        unfold keysD at h2
        cases e : keysD b with
        | none => rw [e] at h2; cases h2
        | some t => rw [e] at h2; have := Option.some.inj h2; exact ⟨rfl, by rw [(List.cons.inj this).2]⟩
    unfold keqsD
    rw [keq_key k1.1 k2.1, keqs_key k1.2 k2.2, Bool.eq_iff_iff]
    simp
theorem add_keys : ∀ (ks acc : List (List D)), (∀ k ∈ ks, keysD k = some k) → (∀ k ∈ acc, keysD k = some k) →
    (ks.foldl addD_ acc).map (fun k => k.map D.keyOf) = (ks.map fun k => k.map D.keyOf).foldl addKey (acc.map fun k => k.map D.keyOf)
  | [], acc, _, _ => rfl
  | k :: ks, acc, h1, h2 => by
    rw [List.foldl_cons, List.map_cons, List.foldl_cons]
    have hk := h1 k List.mem_cons_self
    have e : (addD_ acc k).map (fun k => k.map D.keyOf) = addKey (acc.map fun k => k.map D.keyOf) (k.map D.keyOf) := by
      unfold addD_ addKey
      have : (acc.any fun x => keqsD x k) = ((acc.map fun k => k.map D.keyOf).any fun x => decide (x = k.map D.keyOf)) := by
        rw [List.any_map]
        have : ∀ l : List (List D), (∀ x ∈ l, keysD x = some x) → (l.any fun x => keqsD x k) = l.any ((fun x => decide (x = k.map D.keyOf)) ∘ fun k => k.map D.keyOf) := fun l => by
          induction l with
          | nil => intro _; rfl
          | cons x l ih =>
            intro h
            rw [List.any_cons, List.any_cons, ih fun y hy => h y (List.mem_cons_of_mem _ hy), keqs_key (h x List.mem_cons_self) hk]
            rfl
        exact this acc h2
      rw [this]
      split
      · rfl
      · rw [List.map_append]; rfl
    rw [← e]
    refine add_keys ks _ (fun k hk => h1 k (List.mem_cons_of_mem _ hk)) fun x hx => ?_
    unfold addD_ at hx
    split at hx
    · exact h2 x hx
    · rcases List.mem_append.mp hx with hx | hx
      · exact h2 x hx
      · rw [List.mem_singleton.mp hx]; exact hk
theorem tkeys_rep : ∀ {ds : List D} {ks : List (List D)} {vs : List V}, tkeysD ds = some ks → RepL G dl S ds vs →
    (∀ k ∈ ks, keysD k = some k) ∧ ∃ (ps : List Addr) (kvs : List (List Key × V)), vs = ps.map V.ref ∧ kvs.map (·.1) = ks.map (fun k => k.map D.keyOf) ∧ Paired (fun (p : Addr) (kv : List Key × V) => ∃ b, SqT G.K S p [.ref b, kv.2] ∧ SqT G.K S b (kv.1.map kV)) ps kvs
  | [], ks, vs, h, rl => by
    cases h
    unfold RepL at rl
    exact ⟨(fun k hk => by cases hk), [], [], rl, rfl, Paired.nil⟩
  | d :: ds, ks, vs, h, rl => by
    unfold RepL at rl
    obtain ⟨v, r, rfl, h1, h2⟩ := rl
    unfold tkeysD at h
    split at h
    · cases ‹_ = []›
    · rename_i kk x ds' heq
      injection heq with q1 q2
      subst q1 q2
      split at h
      · rename_i k t hk ht
        cases h
        obtain ⟨z, ps, kvs, e1, e2, e3⟩ := tkeys_rep ht h2
        unfold Rep at h1
        obtain ⟨a, us, rfl, hs, hl⟩ := h1
        unfold RepL at hl
        obtain ⟨u1, r1, rfl, g1, g2⟩ := hl
        unfold RepL at g2
        obtain ⟨u2, r2, rfl, g3, g4⟩ := g2
        unfold RepL at g4
        subst g4
        unfold Rep at g1
        obtain ⟨b, ws, rfl, hs2, hl2⟩ := g1
        obtain ⟨e4, e5⟩ := keysD_rep hk hl2
        refine ⟨(fun y hy => ?_), a :: ps, (k.map D.keyOf, u2) :: kvs, by rw [e1]; rfl, by rw [List.map_cons, List.map_cons, e2], .cons ⟨b, hs, by rw [← e5]; exact hs2⟩ e3⟩
        rcases List.mem_cons.mp hy with rfl | hy
        · exact keysD_plain hk
        · exact z y hy
      · cases h
    · cases h
theorem paired_mono {K : PySem.W.Frag} {S S' : Hp} (g : GrowS S S') {ps : List Addr} {kvs : List (List Key × V)} (h : Paired (fun (p : Addr) (kv : List Key × V) => ∃ b, SqT K S p [.ref b, kv.2] ∧ SqT K S b (kv.1.map kV)) ps kvs) :
    Paired (fun (p : Addr) (kv : List Key × V) => ∃ b, SqT K S' p [.ref b, kv.2] ∧ SqT K S' b (kv.1.map kV)) ps kvs := Paired.mapP h fun _ _ ⟨b, h1, h2⟩ => ⟨b, g.sqt h1, g.sqt h2⟩
theorem de_lenDict (hG : G.K = X.K) (hc : X.calm = true) (hu : X.A.units + 70 < cLine) (hgl : Gl X "len") (hml : X.mg "len" = none) (hgd : Gl X "dict") (hmd : X.mg "dict" = none) (he : DE X G W e f)
    (hse : starEach [e] X.env = (false, eval e X.env) :: starEach [] X.env := by rfl)
    (hsl : starEach [.Call (.Name "dict" p2) [e] [] pos2] X.env = (false, eval (.Call (.Name "dict" p2) [e] [] pos2) X.env) :: starEach [] X.env := by rfl) :
    DE X G W (.Call (.Name "len" p) [.Call (.Name "dict" p2) [e] [] pos2] [] pos) (lenDictE f) := by
  refine PE_imp (pe_callB (CallR.or_ (call_lenD (X := X)) call_len_N) hgl hml rfl (pa_cons (pe_callTy (CallR.or_ (call_dictP hc) (call_dictN hc (by omega))) hgd hmd rfl (pa_cons he pa_nil hse) (he := hse)) pa_nil hsl) (by decide) (by decide) hsl rfl) fun sg H Q ⟨dl, Z, O, r, A, q⟩ => ?_
  refine ⟨dl, Z, O, r, A, (Wp.bind q).thn fun d hd v H1 g1 k1 rp => ?_⟩
  have A1 := A.grow g1 k1
  unfold lenDD at hd
  split at hd
  · rename_i ds
    unfold Rep at rp
    obtain ⟨a, us, rfl, hs, rl⟩ := rp
    split at hd
    · rename_i ps hps
      obtain ⟨as, kv, rfl, h3, h4⟩ := pairsD_rep hps rl
      refine .inl ⟨a, as, kv, rfl, SqL.of (cut_some hs).2, hG ▸ h3, fun p hp => .inl ⟨p, mergeK [] kv, rfl, upd_same, ?_⟩⟩
      have hR := RepK_merge (G := G) (dl := dl) (S := cut H1 Z) ps h4 (by unfold RepK; rfl : RepK G dl (cut H1 Z) [] [])
      have : (mergeK [] kv).length = (mergeD [] ps).length := by
        have : ∀ {kvs : List (D × D)} {kv : List (Key × V)}, RepK G dl (cut H1 Z) kvs kv → kv.length = kvs.length := fun {kvs} => by
          induction kvs with
          | nil => intro kv h; unfold RepK at h; subst h; rfl
          | cons x kvs ih =>
            intro kv h
            obtain ⟨k, d⟩ := x
            unfold RepK at h
            obtain ⟨_, _, r, rfl, _, _, h2⟩ := h
            rw [List.length_cons, List.length_cons, ih h2]
        exact this hR
      rw [this]
      exact hd _ _ (g1.trans (.new hp)) (A1.gl.new hp) Rep.int_
    · split at hd
      · rename_i ks hks
        split at hd
        case isFalse => exact hd.elim
        rename_i hz
        obtain ⟨z, ps, kvs, rfl, e2, h3⟩ := tkeys_rep hks rl
        have hlen : (ndKeys (kvs.map (·.1))).length = (ks.foldl addD_ []).length := by
          have := congrArg List.length (add_keys ks [] z fun k hk => by cases hk)
          rw [List.length_map] at this
          unfold ndKeys
          rw [e2, this]
          rfl
        have hb : (ks.foldl addD_ []).length ≤ 16777216 := by
          have h1 : ∀ (l acc : List (List D)), (l.foldl addD_ acc).length ≤ acc.length + l.length := fun l => by
            induction l with
            | nil => intro acc; exact Nat.le_refl _
            | cons x l ih =>
              intro acc
              refine Nat.le_trans (ih _) ?_
              have : (addD_ acc x).length ≤ acc.length + 1 := by
                unfold addD_
                split
                · omega
                · simp
              rw [List.length_cons]
              omega
          have h2 := h1 ks []
          have h3 : ks.length = ds.length := by
            have : ∀ {ds : List D} {ks : List (List D)}, tkeysD ds = some ks → ks.length = ds.length := fun {ds} => by
              induction ds with
              | nil => intro ks h; cases h; rfl
              | cons d ds ih =>
                intro ks h
                unfold tkeysD at h
                split at h
                · cases ‹_ = []›
                · rename_i heq
                  injection heq with q1 q2
                  subst q1 q2
                  split at h
                  · rename_i k t hk ht
                    cases h
                    rw [List.length_cons, List.length_cons, ih ht]
                  · cases h
                · cases h
            exact this hks
          rw [List.length_nil] at h2
          omega
        refine .inr ⟨a, ps, kvs, rfl, SqL.of (cut_some hs).2, hG ▸ paired_mono (cut_grow H1 Z) h3, fun p hp => .inr ⟨p, _, rfl, upd_same, by rw [hlen]; exact hb, ?_⟩⟩
        rw [hlen]
        exact hd _ _ (g1.trans (.new hp)) (A1.gl.new hp) Rep.int_
      · exact hd.elim
  · exact hd.elim
end
end DL
set_option Elab.async false
set_option linter.all false
set_option maxRecDepth 100000
set_option maxHeartbeats 2000000
namespace DLR
open PySem PySem.Spec PyProof.Rows
section
variable {prog : Program} {w : World} {A : Around} {E : Value → Shared → Prop} {s : Shared} {x : Str} {t : Tok}
theorem nextOf_rs_item {it : Addr} {i c : Nat} {Q : Value → Shared → Prop} (hit : IsRs s.heap it x t (i : Int)) (hx : x.cps[i]? = some c) (hsz : x.length ≤ sizeLine)
    (hQ : ∀ h' tk tc, IsRs h' it x t ((i : Int) - 1) → Heap.SameBut it s.heap h' → Q (.str ⟨#[c]⟩ tc) { s with heap := h', toks := tk }) : wpAny (model prog w) A (Builtin.SmallTypes.nextOf (.ref it)) Q E s := by
  obtain ⟨o, ho, hc, hd⟩ := id hit
  have hi : i < x.length := (Array.getElem?_eq_some_iff.mp hx).1
  have hT : s.TypeIs (.str x t) "str" := rfl
  rw [sizeLine_eq] at hsz
  unfold Builtin.SmallTypes.nextOf
  refine wpAny_bind (wpAny_callSpecial?_slot (name := Str.ofString "__next__") hit.typeIs RT.slot_rt_next
    (wpAny_call_entry RT.slot_rt_next hit.typeIs RT.entry_rt_next ?_ (RT.args_rt_next _)))
  unfold Builtin.«reversed.__next__»
  refine wpAny_bind (wpAny_of_eq (a := (Value.ref it, [])) rfl ?_)
  try dsimp only
  refine wpAny_bind (wpAny_field ho hd (x := .str x t) rfl ?_)
  try dsimp only
  refine wpAny_bind (wpAny_field ho hd (x := rawInt (i : Int)) rfl ?_)
  show wpAny _ _ (if (i : Int) < 0 then _ else _) _ _ s
  rw [if_neg (by omega)]
  try dsimp only
  refine wpAny_bind (wpAny_specialOf hT get_str ?_)
  try dsimp only
  try rw [if_neg (by decide)]
  try dsimp only
  refine wpAny_bind (wpAny_mkInt ?_)
  refine wpAny_bind (wpAny_attempt ?_)
  have fin : seqIndex? (i : Int) x.length = some i := seqIndex_of (by omega) (by omega)
  refine PyProof.Rows.getItem_str (s := { s with toks := s.toks + 1 }) (by simp only [Bool.or_eq_false_iff, decide_eq_false_iff_not]; omega) (by rw [fin]; exact hx) ?_
  try dsimp only
  refine wpAny_bind (wpAny_field (s := { s with toks := s.toks + 1 + 1 }) ho hd (x := rawInt (i : Int)) rfl ?_)
  try dsimp only
  refine wpAny_bind (wpAny_setField (s := { s with toks := s.toks + 1 + 1 }) ho hd (by simp) ?_)
  first
  | refine wpAny_pure ⟨_, rfl, wpAny_pure (hQ _ _ _ ?_ (Heap.SameBut.update ..))⟩
  | refine wpAny_bind (wpAny_pure (wpAny_pure ⟨_, rfl, wpAny_pure (hQ _ _ _ ?_ (Heap.SameBut.update ..))⟩))
  · exact ⟨_, Heap.get?_update_self _ ho (Obj.isFreed_of_fields (Obj.data_mapFields hd _)), (Obj.cls_mapFields ..).trans hc, by
      rw [Obj.data_mapFields hd]; simp⟩
theorem nextOf_rs_end {it : Addr} {Q : Value → Shared → Prop} (hh : A.handled = none) (hit : IsRs s.heap it x t (-1))
    (hQ : ∀ h' e, Heap.ExtBut it s.heap h' → (∃ o, h'.get? e = some o ∧ o.cls = .type "StopIteration") → E (.ref e) { s with heap := h' }) : wpAny (model prog w) A (Builtin.SmallTypes.nextOf (.ref it)) Q E s := by
  obtain ⟨o, ho, hc, hd⟩ := id hit
  unfold Builtin.SmallTypes.nextOf
  refine wpAny_bind (wpAny_callSpecial?_slot (name := Str.ofString "__next__") hit.typeIs RT.slot_rt_next
    (wpAny_call_entry RT.slot_rt_next hit.typeIs RT.entry_rt_next ?_ (RT.args_rt_next _)))
  unfold Builtin.«reversed.__next__»
  refine wpAny_bind (wpAny_of_eq (a := (Value.ref it, [])) rfl ?_)
  try dsimp only
  refine wpAny_bind (wpAny_field ho hd (x := .str x t) rfl ?_)
  try dsimp only
  refine wpAny_bind (wpAny_field ho hd (x := rawInt (-1)) rfl ?_)
  show wpAny _ _ (if (-1 : Int) < 0 then _ else _) _ _ s
  rw [if_pos (by decide)]
  try dsimp only
  refine wpAny_bind (wpAny_rule ?_)
  refine wpAny_bind ?_
  wp_delta
  refine wpAny_bind (wpAny_setField ho hd (by simp) ?_)
  have ho2 := Heap.get?_update_self (Obj.mapFields (·.setIfInBounds 1 (rawInt (-1)))) ho (Obj.isFreed_of_fields (Obj.data_mapFields hd _))
  refine wpAny_setField (s := { s with heap := s.heap.update it (Obj.mapFields (·.setIfInBounds 1 (rawInt (-1)))) }) ho2 (Obj.data_mapFields hd _) (by simp) ?_
  try dsimp only
  first
  | show wpAny _ _ (newExc (.type "StopIteration") [] >>= _) _ _ _
  | (refine wpAny_bind ?_; show wpAny _ _ (newExc (.type "StopIteration") [] >>= _) _ _ _)
  | (refine wpAny_bind ?_; wp_delta; show wpAny _ _ (newExc (.type "StopIteration") [] >>= _) _ _ _)
  refine wpAny_bind ?_
  simp only [newExc, newTuple]
  refine wpAny_bind (wpAny_newObj_type ?_ (by size_fits))
  refine wpAny_bind (m := firstArgMember _ _) (wpAny_of_eq (a := Value.none) (by first | rfl | (simp only [firstArgMember]; rfl)) ?_)
  refine wpAny_newObj_type ?_ (by size_fits)
  simp only [raiseNew]
  refine wpAny_bind (wpAny_handled ?_)
  first | rw [show A.in1.handled = none from hh] | rw [hh]
  refine wpAny_bind (wpAny_pure (wpAny_throw ?_))
  refine hQ _ _ ?_ ⟨_, Heap.get?_push_size _ rfl, rfl⟩
  refine ((?_ : Heap.ExtBut it s.heap _).push _).push _
  exact fun b ob hb e => (Heap.get?_update_other _ _ (Ne.symm hb)).trans ((Heap.get?_update_other _ _ (Ne.symm hb)).trans e)
theorem drawsRs (hh : A.handled = none) (it : Addr) (hz : x.length ≤ sizeLine) :
    Draws prog w A it [it] x.cps.size (fun i v => ∃ c u, x.cps[x.cps.size - 1 - i]? = some c ∧ v = .str ⟨#[c]⟩ u) (fun i h => i ≤ x.cps.size ∧ IsRs h it x t ((x.cps.size : Int) - 1 - (i : Nat))) where
  live := fun i h st => let ⟨_, o, e, _⟩ := st; ⟨o, e⟩
  frame := fun i h h' st k => ⟨st.1, st.2.at fun o e => k it (by simp) o e⟩
  item := fun i s Q E hi st hQ => by
    obtain ⟨_, st⟩ := st
    have e1 : (x.cps.size : Int) - 1 - ((i : Nat) : Int) = ((x.cps.size - 1 - i : Nat) : Int) := by omega
    rw [e1] at st
    have hlt : x.cps.size - 1 - i < x.cps.size := by omega
    refine nextOf_rs_item st (c := x.cps[x.cps.size - 1 - i]) (by simp [hlt]) hz fun h' tk tc st' sb => ?_
    have e2 : ((x.cps.size - 1 - i : Nat) : Int) - 1 = (x.cps.size : Int) - 1 - ((i + 1 : Nat) : Int) := by omega
    rw [e2] at st'
    exact hQ _ h' tk ⟨_, tc, by simp [hlt], rfl⟩ ⟨hi, st'⟩ sb
  done := fun s Q E st hQ => by
    obtain ⟨_, st⟩ := st
    have e1 : (x.cps.size : Int) - 1 - ((x.cps.size : Nat) : Int) = -1 := by omega
    rw [e1] at st
    exact nextOf_rs_end hh st hQ
theorem meets_enumerate_newR (it : Addr) (x : Str) (t : Tok) (i : Int) :
    Meets (Builtin.«enumerate.__new__» ⟨[.type "enumerate", .ref it], []⟩) (fun _ R s => IsRs s.heap it x t i ∧
      R (.ok (.ret (.ref s.heap.objs.size))) { s with heap := s.heap.push { cls := .type "enumerate", data := .fields #[.none, .bool false, .ref it, rawInt 0, .none, .none] } }) :=
  .of_wp fun prog w A R s h => by
    obtain ⟨hp, g, d, tk, os⟩ := s; obtain ⟨h1, h⟩ := h
    have hsub := sub_enumerate
    have q1 : ∀ {A' : Around} {E : Value → Shared → Prop} {Q : Value → Shared → Prop}, Q (.ref it) ⟨hp, g, d, tk, os⟩ → wpAny (model prog w) A' (pyIter (.ref it)) Q E ⟨hp, g, d, tk, os⟩ :=
      fun q => iter_rs (s := ⟨hp, g, d, tk, os⟩) h1 q
    wp_walk using q1
    refine wpAny_stack_any fun st => wpAny_pure ?_
    split
    · rename_i c _ _ _ _ _
      cases (c == Value.type "enumerate")
      · wp_walk using q1
        exact ⟨_, rfl, h⟩
      · wp_walk using q1
        exact ⟨_, rfl, h⟩
    · wp_walk using q1
      exact ⟨_, rfl, h⟩
theorem call_enumerate_rs {it : Addr} {i : Int} {Q : Value → Shared → Prop} (hit : IsRs s.heap it x t i)
    (h : ∀ h', IsEnum h' s.heap.objs.size it 0 .none → h'.objs.size = s.heap.objs.size + 1 →
      (∀ b o, s.heap.get? b = some o → h'.get? b = some o) → Q (.ref s.heap.objs.size) { s with heap := h' }) :
    wpAny (model prog w) A (call (.type "enumerate") [.ref it]) Q E s := by
  refine callType_new F.called_enumerate (by decide) (F.typeCall_enumerate_1 _) (F.newCall_enumerate_1 _) (fun obj => F.args_object_init_2 obj _) F.entry_enumerate_new
    (meets_enumerate_newR it x t i) ⟨hit, ?_⟩
  have he : IsEnum (s.heap.push { cls := .type "enumerate", data := .fields #[.none, .bool false, .ref it, rawInt 0, .none, .none] }) s.heap.objs.size it 0 .none := Heap.get?_push_size _ rfl
  exact ⟨⟨_, he, rfl⟩, h _ he (Heap.size_push ..) fun b o y => Heap.get?_push_of_some _ y⟩
end
end DLR
set_option Elab.async false
set_option linter.all false
set_option maxRecDepth 100000
set_option maxHeartbeats 2000000
namespace DL
open PySem L2 PySem.Spec PyProof.Rows
theorem turn_enumRs {P : Program} {w : World} {K : PySem.W.Frag} {elts : List Expr} {kk : Nat} {tpos : Pos} (k : Int) (x : Str) (t : Tok) (hz : x.length ≤ sizeLine) (e it : Addr) :
    Turn P w K (.Tuple elts kk tpos) (Itq k (revSigns x)) [e, it] e (fun i h => (∃ old, IsEnum h e it (k + ((i : Nat) : Int)) old) ∧ (i ≤ x.cps.size ∧ DLR.IsRs h it x t ((x.cps.size : Int) - 1 - (i : Nat))) ∧ e ≠ it) where
  mem := by simp
  obj := fun i h st b hb => by
    obtain ⟨⟨old, he⟩, ⟨_, o, ho, hc, hd⟩, _⟩ := st
    have e' : b = e ∨ b = it := by simpa using hb
    rcases e' with z | z
    · rw [z]; exact ⟨_, he, fun v q => nomatch q⟩
    · rw [z]; exact ⟨o, ho, fun v q => by rw [hd] at q; cases q⟩
  keep := fun i h h' st kk => let ⟨⟨old, he⟩, ⟨hi, o, ho, r⟩, hne⟩ := st; ⟨⟨old, kk e (by simp) _ he⟩, ⟨hi, o, kk it (by simp) o ho, r⟩, hne⟩
  item := by
    intro X hP hw hK hc i pins s σ H E I hf st hg
    subst hP hw hK
    obtain ⟨⟨old, he⟩, hit, hne⟩ := st
    have hi : i < x.cps.size := by
      have : i < (revSigns x).length := hg
      unfold revSigns at this
      rw [List.length_map, List.length_reverse, Array.length_toList] at this
      exact this
    have hel : e < s.heap.objs.size := Heap.lt_size he
    have hil : it < s.heap.objs.size := by obtain ⟨_, _, q, _⟩ := hit; exact Heap.lt_size q
    refine wpAny_pyNext_enum_itemC (DLR.drawsRs (A := X.A.in1) (I.ok.hd hc) it hz) he hit hi hne (by simpa using hne) fun u h' tk hu ho hit' hT hsz hk => ?_
    obtain ⟨c, tc, hcx, rfl⟩ := hu
    refine ⟨_, rfl, wpAny_letOwnedTupleGo_enum (s := { s with heap := h', toks := tk + 1 }) ho fun h'' he' sb => ?_⟩
    have hT2 : h''.get? s.heap.objs.size = some { cls := .type "tuple", data := .seq #[.int (k + ((i : Nat) : Int)) tk, .str ⟨#[c]⟩ tc] } := (sb.2 _ (Nat.ne_of_gt hel)).trans hT
    have new : ObjOk X.prog X.w (upd H s.heap.objs.size (.tup [.int (k + (i : Nat)), .str ⟨#[c]⟩])) h'' s.heap.objs.size (.tup [.int (k + (i : Nat)), .str ⟨#[c]⟩]) :=
      ⟨by show 2 ≤ sizeLine; decide, [.int (k + ((i : Nat) : Int)) tk, .str ⟨#[c]⟩ tc], .cons ⟨_, rfl⟩ (.cons ⟨_, rfl⟩ .nil), ⟨_, hT2, rfl, _, rfl⟩⟩
    have I1 : Inv X pins σ (upd H s.heap.objs.size (.tup [.int (k + (i : Nat)), .str ⟨#[c]⟩])) { s with heap := h'', toks := tk + 1 } :=
      I.turnedNew (ch := [e, it]) (fun b ob hb q => (sb.2 b (fun z => hb (by simp [z]))).trans (hk b ob (fun z => hb (by simp [z])) (fun z => hb (by simp [z])) q)) hf (Nat.le_refl _) new
    obtain ⟨hi2, oi, hoi, ri⟩ := id hit'
    refine ⟨.ref s.heap.objs.size, _, I1, rfl, ⟨_, .str ⟨#[c]⟩, rfl, I.hok.fresh (Nat.le_refl _), rfl, ?_⟩, ⟨⟨.str ⟨#[c]⟩ tc, ?_⟩, ⟨hi2, oi, (sb.2 it (Ne.symm hne)).trans hoi, ri⟩, hne⟩, fun b hb => ?_⟩
    · unfold revSigns
      rw [List.getElem?_map, List.getElem?_reverse (by simpa using hi), Array.getElem?_toList, Array.length_toList, hcx]
      rfl
    · have e1 : k + ((i + 1 : Nat) : Int) = k + ((i : Nat) : Int) + 1 := by omega
      rw [e1]; exact he'
    · have hb' : b < s.heap.objs.size := by
        have e' : b = e ∨ b = it := by simpa using hb
        rcases e' with z | z
        · rw [z]; exact hel
        · rw [z]; exact hil
      rw [upd_ne (Nat.ne_of_lt hb')]
      exact (hf b hb).1
  done := by
    intro X hP hw hK hc i pins s σ H E I hf st hg
    subst hP hw hK
    obtain ⟨⟨old, he⟩, hit, hne⟩ := st
    have hx : x.cps.size ≤ i := by
      have : (revSigns x).length ≤ i := hg
      unfold revSigns at this
      rw [List.length_map, List.length_reverse, Array.length_toList] at this
      exact this
    obtain ⟨f0, f1, f2, f3, f4, f5⟩ := hf it (by simp)
    obtain rfl : i = x.cps.size := Nat.le_antisymm hit.1 hx
    refine wpAny_pyNext_enum_endD (DLR.drawsRs (A := X.A.in1) (I.ok.hd hc) it hz) he hit fun h' eb => ⟨rfl, I.turned (t' := s.toks) (fun b o hb q => eb b o hb q) f0 f1 f3 f4 f5⟩
  self := fun A i s Q E st h => let ⟨⟨_, he⟩, _⟩ := st; wpAny_pyIter_enum he h
section
variable {X : Cx} {G : Gm} {W : WX} {e : Expr} {f : LE → R D} {p p2 pos pos2 tpos : Pos} {elts : List Expr} {kk : Nat} {tg : Expr}
def iEnumR (te : TE) : TI := fun σ H R => te σ H fun v H1 => ∃ x : Str, v = .str x ∧ x.length ≤ sizeLine ∧ R (Itq 0 (revSigns x)) H1
theorem pi_enumR {te : TE} (hg : Gl X "enumerate") (hm : X.mg "enumerate" = none) (hg2 : Gl X "reversed") (hm2 : X.mg "reversed" = none) (he : PE X e te)
    (hs : starEach [e] X.env = (false, eval e X.env) :: starEach [] X.env := by rfl)
    (hs2 : starEach [.Call (.Name "reversed" p2) [e] [] pos2] X.env = (false, eval (.Call (.Name "reversed" p2) [e] [] pos2) X.env) :: starEach [] X.env := by rfl) :
    PI X (.Tuple elts kk tpos) (.Call (.Name "enumerate" p) [.Call (.Name "reversed" p2) [e] [] pos2] [] pos) (iEnumR te) := by
  refine ⟨fun pins s σ H R I h => ?_⟩
  refine Call_ (ld_blt I hg hm boot_enumerate (PyProof.Rows.callWith_type1 (args_cons (Call_ (ld_blt I hg2 hm2 PyProof.Rows.boot_reversed (PyProof.Rows.callWith_type1 (args_cons (thn (he.run pins s σ H _ I h) fun u s1 ⟨v, H1, I1, r1, q1⟩ => args_nil ?_) hs) hs rfl))) hs2) hs2 rfl))
  obtain ⟨x, ev, hz, q⟩ := q1
  subst ev
  obtain ⟨t, rfl⟩ := r1
  refine DLR.call_reversed_str hz (args_nil ?_)
  have k0 : ∀ b o, s1.heap.get? b = some o → (s1.heap.push (DLR.rsObj x t ((x.length : Int) - 1))).get? b = some o := fun b o e => Heap.get?_push_of_some _ e
  have sz1 : (s1.heap.push (DLR.rsObj x t ((x.length : Int) - 1))).objs.size = s1.heap.objs.size + 1 := Heap.size_push ..
  have hit0 : DLR.IsRs (s1.heap.push (DLR.rsObj x t ((x.length : Int) - 1))) s1.heap.objs.size x t ((x.length : Int) - 1) := ⟨_, Heap.get?_push_size _ rfl, rfl, rfl⟩
  refine DLR.call_enumerate_rs (s := { s1 with heap := s1.heap.push (DLR.rsObj x t ((x.length : Int) - 1)), toks := s1.toks + 1 + 1 }) (it := s1.heap.objs.size) hit0 fun h' hen hsz hk => wpAny_pyIter_enum hen ?_
  replace hen : IsEnum h' (s1.heap.objs.size + 1) s1.heap.objs.size 0 .none := by rw [← sz1]; exact hen
  show PIE X pins σ (.Tuple elts kk tpos) R (.ref (s1.heap.push (DLR.rsObj x t ((x.length : Int) - 1))).objs.size) { s1 with heap := h', toks := s1.toks + 1 + 1 }
  rw [sz1]
  have I2 : Inv X pins σ H1 { s1 with heap := h', toks := s1.toks + 1 + 1 } := I1.kept (t' := s1.toks + 1 + 1) fun b o e => hk b o (k0 b o e)
  refine ⟨s1.heap.objs.size + 1, [s1.heap.objs.size + 1, s1.heap.objs.size], _, _, H1, rfl, I2, turn_enumRs 0 x t hz (s1.heap.objs.size + 1) s1.heap.objs.size, ⟨⟨.none, by simpa using hen⟩, ⟨Nat.zero_le _, ?_⟩, Nat.succ_ne_self _⟩, fun b hb => ?_, q⟩
  · have h1 := hit0.at fun o e => hk _ o e
    simpa [Str.length] using h1
  · have e' : b = s1.heap.objs.size + 1 ∨ b = s1.heap.objs.size := by simpa using hb
    have hle : s1.heap.objs.size ≤ b := by
      rcases e' with z | z
      · rw [z]; exact Nat.le_add_right _ _
      · rw [z]; exact Nat.le_refl _
    exact I1.fpOk hle (I1.hok.fresh hle)
def enumRD : D → R (List D)
  | .str s => if s.length ≤ 16777216 then .ok (enumL 0 (s.reverse.map fun c => .str [c])) else .stuck
  | _ => .stuck
def enumRE (f : LE → R D) : LE → R (List D) := fun r => f r >>= enumRD
theorem di_enumR (hg : Gl X "enumerate") (hm : X.mg "enumerate" = none) (hg2 : Gl X "reversed") (hm2 : X.mg "reversed" = none) (he : DE X G W e f)
    (hs : starEach [e] X.env = (false, eval e X.env) :: starEach [] X.env := by rfl)
    (hs2 : starEach [.Call (.Name "reversed" p2) [e] [] pos2] X.env = (false, eval (.Call (.Name "reversed" p2) [e] [] pos2) X.env) :: starEach [] X.env := by rfl) :
    DI X G W (.Tuple elts kk tpos) (.Call (.Name "enumerate" p) [.Call (.Name "reversed" p2) [e] [] pos2] [] pos) (enumRE f) := PI_imp (pi_enumR hg hm hg2 hm2 he hs hs2) fun sg H Q ⟨dl, Z, O, r, A, q⟩ => by
  refine ⟨dl, Z, O, r, A, q.bind.thn fun d hd v H1 g1 k1 rp => ?_⟩
  unfold enumRD at hd
  split at hd
  · rename_i s
    split at hd
    · rename_i hz
      unfold Rep at rp
      subst rp
      refine ⟨_, rfl, by rw [sizeLine_eq]; simpa [Str.length] using hz, ?_⟩
      refine hd _ _ H1 g1 k1 (walk_enumq (Z0 := Z) (H0 := H1) ?_) (LamX.ExtN.refl _)
      unfold revSigns
      exact signs_rep (s := s.reverse)
    · exact hd.elim
  · exact hd.elim
theorem walk_rev {dl a : Addr} {ds : List D} {vs : List V} : WalkS G dl (Itv G.K a vs.length) ds.reverse (fun Z H => cut H Z a = some (.lst vs) ∧ RepL G dl (cut H Z) ds vs) where
  mono := fun Z Z' H H' g _ h => ⟨g a _ h.1 (fun ps z => by cases z), h.2.mono g⟩
  monoS := fun Z Z' H H' g h => ⟨g a _ h.1 (fun ps z => by cases z), h.2.mono g⟩
  go := fun i Z H h hi => by
    have hl := h.2.length
    rw [List.length_reverse] at hi
    exact ⟨by omega, vs, vs[vs.length - 1 - i]'(by omega), SqL.of (cut_some h.1).2, by simp⟩
  stop := fun i Z H h hi => by
    have hl := h.2.length
    rw [List.length_reverse] at hi
    show vs.length ≤ i
    omega
  yld := fun i Z O r sg H x H' A h hy d hd => by
    obtain ⟨rfl, hy⟩ := hy
    have hl := h.2.length
    have hi : i < ds.length := by
      have := (List.getElem?_eq_some_iff.mp hd).1
      simpa using this
    rw [List.getElem?_reverse hi] at hd
    obtain ⟨v, h1, h2⟩ := RepL.getD ds vs _ d h.2 hd
    have h3 := hy vs (SqL.of (cut_some h.1).2)
    rw [hl, h1] at h3
    cases h3
    exact ⟨.refl _ _, A.gl, h2⟩
def revLD : List D → R (List D)
  | [.lst ds] => .ok ds.reverse
  | _ => .stuck
def revLE (fs : LE → R (List D)) : LE → R (List D) := fun r => fs r >>= revLD
theorem di_revL {fs : LE → R (List D)} (hG : G.K = X.K) (hg : Gl X "reversed") (hm : X.mg "reversed" = none) (ha : DA X G W [e] fs) (hs : starEach [e] X.env = [(false, eval e X.env)] := by rfl) :
    DI X G W tg (.Call (.Name "reversed" p) [e] [] pos) (revLE fs) := PI_imp (pi_reversed hg hm ha hs) fun sg H Q ⟨dl, Z, O, r, A, q⟩ => by
  refine ⟨dl, Z, O, r, A, q.bind.thn fun d hd vs1 H1 g1 k1 rl => ?_⟩
  unfold revLD at hd
  split at hd
  · rename_i ds
    unfold RepL at rl
    obtain ⟨v, us, rfl, h1, h2⟩ := rl
    unfold RepL at h2
    subst h2
    unfold Rep at h1
    obtain ⟨a, vs, rfl, e, rl⟩ := h1
    refine ⟨a, vs, rfl, SqL.of (cut_some e).2, ?_⟩
    rw [← hG]
    exact hd _ _ H1 g1 k1 walk_rev ⟨e, rl⟩
  · exact hd.elim
theorem oi_fdiv : OpD X G (inplaceOp .FloorDiv) fdivD := by
  refine ⟨_, iop_fdiv, fun dl Z O r sg x y vx vy H Q E A hx hy h => ?_⟩
  unfold fdivD at h
  split at h
  · split at h
    · rename_i hc
      exact ⟨_, _, hx.int, hy.int, hc, h _ H (.refl _ _) A.gl Rep.int_⟩
    · exact h.elim
  · exact h.elim
theorem drop_takeWhile {α : Type} (p : α → Bool) : ∀ l : List α, l.drop (l.takeWhile p).length = l.dropWhile p
  | [] => rfl
  | a :: l => by
    by_cases h : p a
    · simp [List.takeWhile_cons, List.dropWhile_cons, h, drop_takeWhile p l]
    · simp [List.takeWhile_cons, List.dropWhile_cons, h]
def lstripD : D → List D → R D
  | .str s, [.str [c]] => if s.length ≤ 16777216 then .ok (.str (s.dropWhile (· == c))) else .stuck
  | _, _ => .stuck
end
end DL
set_option Elab.async false
set_option linter.all false
set_option maxRecDepth 100000
set_option maxHeartbeats 2000000
namespace DL
open PySem L2 PySem.Spec PyProof.Rows
theorem lstrip_is (s : List Nat) (c : Nat) : Txt.lstripChars ⟨s.toArray⟩ ⟨[c].toArray⟩ = ⟨(s.dropWhile (· == c)).toArray⟩ := by
  have hg : ((⟨[c].toArray⟩ : Str).cps.contains) = (· == c) := by
    funext n
    simp [Array.contains, eq_comm]
  unfold Txt.lstripChars Txt.stripBy
  rw [hg]
  have e2 : stripped (· == c) true false ⟨s.toArray⟩ = ⟨(s.dropWhile (· == c)).toArray⟩ := by
    unfold stripped Builtin.Str.strSub stripHi stripLo
    simp only [if_true, Bool.false_eq_true, if_false]
    congr 1
    show s.toArray.extract _ s.toArray.size = _
    apply Array.toList_inj.mp
    simp [← drop_takeWhile]
    exact List.take_of_length_le (by simp)
  by_cases h : stripSame (· == c) true false ⟨s.toArray⟩ = true
  · rw [if_pos h]
    rw [← e2]
    unfold stripSame at h
    simp only [Bool.and_eq_true, beq_iff_eq] at h
    unfold stripped Builtin.Str.strSub
    have h2 := h.2
    rw [h.1] at h2
    rw [h.1, h2]
    simp [Str.length]
  · rw [if_neg h]; exact e2
section
variable {X : Cx} {G : Gm}
theorem bm_lstrip : BmD X G "str" "lstrip" lstripD := by
  refine ⟨⟨_, _, PySem.F.slot_str_lstrip, PySem.F.type_str_lstrip, mt_lstripChars, ?_⟩, PySem.F.plainAttrs_str⟩
  intro dl Z O r sg x vx ds vs H Q E A hx hds h
  unfold lstripD at h
  split at h
  · rename_i s c
    split at h
    · rename_i hz
      obtain ⟨v, rfl, hv⟩ := hds.one
      refine ⟨_, _, hx.str, by rw [hv.str], by rw [sizeLine_eq]; simpa [Str.length] using hz, ?_⟩
      rw [lstrip_is]
      exact h _ H (.refl _ _) A.gl Rep.str_
    · exact h.elim
  · exact h.elim
end
end DL
set_option Elab.async false
set_option linter.all false
set_option maxRecDepth 100000
set_option maxHeartbeats 2000000
namespace DL
open PySem L2 PySem.Spec PyProof.Rows
theorem foldl_sign (c : Nat) : ∀ (m : Nat) (acc : List Nat), (List.replicate m (#[c] : Array Nat)).foldl (· ++ ·) acc.toArray = (acc ++ List.replicate m c).toArray
  | 0, acc => by simp
  | m + 1, acc => by
    rw [List.replicate_succ, List.foldl_cons]
    have := foldl_sign c m (acc ++ [c])
    rw [show (acc.toArray ++ (#[c] : Array Nat)) = (acc ++ [c]).toArray by simp, this, List.replicate_succ]
    simp
def mulXD : D → D → R D
  | .int i, .int j => mulD (.int i) (.int j)
  | .str [c], .int k => if 2 ≤ k ∧ k ≤ 1000 then .ok (.str (List.replicate k.toNat c)) else .stuck
  | _, _ => .stuck
section
variable {X : Cx} {G : Gm}
theorem op_mulS : OpR X (binaryOp .Mult) (fun x y H Q => ∃ c k, x = .str ⟨#[c]⟩ ∧ y = .int k ∧ 2 ≤ k ∧ k ≤ 1000 ∧ Q (.str ⟨(List.replicate k.toNat c).toArray⟩) H) := by
  intro pins s σ H x y v u Q I rx ry h
  obtain ⟨c, k, rfl, rfl, h2, h3, q⟩ := h
  obtain ⟨t, rfl⟩ := rx
  obtain ⟨t', rfl⟩ := ry
  have hx : (⟨#[c]⟩ : Str).length = 1 := rfl
  refine P.mul_str (by rw [decide_eq_false (by omega), decide_eq_false (by omega)] <;> rfl) (fun _ _ => ?_) (fun _ _ => ?_) ?_
  · rw [hx]
    have : (1 : Int) ≤ (2 ^ 63 - 1) / k := (Int.le_ediv_iff_mul_le (by omega)).mpr (by omega)
    show ¬ ((1 : Nat) : Int) > _
    omega
  · rw [hx, Nat.one_mul]
    unfold Builtin.Str.tooLong
    rw [decide_eq_false_iff_not, sizeLine_eq]
    have : k.toNat ≤ 1000 := by omega
    omega
  · rw [if_neg (by omega), hx, if_neg (by simp; omega)]
    have e := foldl_sign c k.toNat []
    rw [List.nil_append] at e
    have e : (List.replicate k.toNat (⟨#[c]⟩ : Str).cps).foldl (· ++ ·) #[] = (List.replicate k.toNat c).toArray := e
    rw [e]
    exact ⟨by rw [sizeLine_eq]; show (List.replicate k.toNat c).toArray.size ≤ _; simp; omega, .str _, H, I.tok _, ⟨_, rfl⟩, q⟩
theorem op_mulX_d : OpD X G (binaryOp .Mult) mulXD := by
  refine ⟨_, OpR.or op_mul op_mulS, fun dl Z O r sg x y vx vy H Q E A hx hy h => ?_⟩
  unfold mulXD at h
  split at h
  · unfold mulD at h
    simp only at h
    split at h
    · exact .inl ⟨_, _, hx.int, hy.int, (by unfold CMul; omega), h _ H (.refl _ _) A.gl Rep.int_⟩
    · exact h.elim
  · split at h
    · rename_i hc
      exact .inr ⟨_, _, hx.str, hy.int, hc.1, hc.2, h _ H (.refl _ _) A.gl Rep.str_⟩
    · exact h.elim
  · exact h.elim
end
end DL
set_option Elab.async false
set_option linter.all false
set_option maxRecDepth 100000
namespace K08
open PySem L2 DL LamX PySem.Spec PyProof.Rows
def top (i : Nat) : Stmt := PySem.Challenge.pw_flaghall_k08_numerals.main.body.getD i (.Pass ⟨0, 0, 0, 0⟩)
abbrev s_law_dice : Stmt := top 27
abbrev s_law_roll : Stmt := top 28
abbrev s_law_rounds : Stmt := top 29
abbrev s_law_told : Stmt := top 30
abbrev s_law_figures : Stmt := top 31
abbrev s_pennants : Stmt := top 13
abbrev s_read_pennants : Stmt := top 14
abbrev s_sum_of_figures : Stmt := top 24
abbrev s_turned_number : Stmt := top 25
abbrev s_by_substitutes : Stmt := top 15
abbrev s_without_substitutes : Stmt := top 16
abbrev s_check_flag : Stmt := top 17
abbrev s_with_check : Stmt := top 18
abbrev s_law_sum : Stmt := top 32
abbrev s_is_checked : Stmt := top 19
abbrev s_exchanged : Stmt := top 21
abbrev s_hidden_figure : Stmt := top 20
abbrev s_ups_and_downs : Stmt := top 22
abbrev s_fewest_pennants : Stmt := top 23
abbrev s_law_cases1 : Stmt := top 33
abbrev s_law_rest1 : Stmt := top 34
abbrev s_law : Stmt := top 35
structure Adr where
  f_law_dice : Addr
  f_law_roll : Addr
  f_law_rounds : Addr
  f_law_told : Addr
  f_law_figures : Addr
  f_pennants : Addr
  f_read_pennants : Addr
  f_sum_of_figures : Addr
  f_turned_number : Addr
  f_by_substitutes : Addr
  f_without_substitutes : Addr
  f_check_flag : Addr
  f_with_check : Addr
  f_law_sum : Addr
  f_is_checked : Addr
  f_exchanged : Addr
  f_hidden_figure : Addr
  f_ups_and_downs : Addr
  f_fewest_pennants : Addr
  f_law_cases1 : Addr
  f_law_rest1 : Addr
  f_law : Addr
  x_BadBook : Addr
  x_BadHoist : Addr
  x_BadFlag : Addr
  x_BadFleet : Addr
  x_Foul : Addr
  x_NoWay : Addr
  x_TooLarge : Addr
  x_Unclear : Addr
  x_BadText : Addr
  k_read_pennants : Addr
  t_read_pennants : Addr
  k_sum_of_figures : Addr
  t_sum_of_figures : Addr
  k_check_flag : Addr
  t_check_flag : Addr
  k_with_check : Addr
  t_with_check : Addr
  k_is_checked : Addr
  t_is_checked : Addr
  k_law_cases1 : Addr
  t_law_cases1 : Addr
  k_law_rest1 : Addr
  t_law_rest1 : Addr
  k_law : Addr
  t_law : Addr
def flds : Nat → List Str
  | _ => []
def clsA (a : Adr) : Nat → Addr
  | _ => 0
def excA (a : Adr) : Nat → Addr
  | 3 => a.x_BadBook
  | 2 => a.x_BadHoist
  | 1 => a.x_BadFlag
  | 4 => a.x_BadFleet
  | 5 => a.x_Foul
  | 7 => a.x_NoWay
  | 8 => a.x_TooLarge
  | 6 => a.x_Unclear
  | 9 => a.x_BadText
  | _ => 0
def excF : Nat → Option Str
  | 5 => some "step"
  | 6 => some "many"
  | 9 => some "row"
  | _ => none
def tabsA (a : Adr) : List (Addr × Str) := [(a.t_read_pennants, ("read_pennants" : Str) ++ ".<locals>." ++ "<genexpr>"), (a.t_sum_of_figures, ("sum_of_figures" : Str) ++ ".<locals>." ++ "<genexpr>"), (a.t_check_flag, ("check_flag" : Str) ++ ".<locals>." ++ "<genexpr>"), (a.t_with_check, ("with_check" : Str) ++ ".<locals>." ++ "<genexpr>"), (a.t_is_checked, ("is_checked" : Str) ++ ".<locals>." ++ "<genexpr>"), (a.t_law_cases1, ("_law_cases1" : Str) ++ ".<locals>." ++ "<lambda>"), (a.t_law_rest1, ("_law_rest1" : Str) ++ ".<locals>." ++ "<lambda>"), (a.t_law, ("law" : Str) ++ ".<locals>." ++ "<lambda>")]
abbrev gm (K : PySem.W.Frag) (w : World) (a : Adr) : Gm := { K := K, w := w, cls := clsA a, flds := flds, fns := fun _ => 0, xcls := excA a, xfld := excF, tabs := tabsA a }
def d_FIGURES : D := .str [48, 49, 50, 51, 52, 53, 54, 55, 56, 57]
def toldL : List (Nat × List Nat) := [(3, [98, 111, 111, 107]), (1, [102, 108, 97, 103]), (4, [102, 108, 101, 101, 116]), (2, [104, 111, 105, 115, 116]), (5, [102, 111, 117, 108]), (7, [110, 111, 32, 119, 97, 121]), (8, [108, 97, 114, 103, 101]), (6, [117, 110, 99, 108, 101, 97, 114]), (9, [116, 101, 120, 116])]
def FunL (K : PySem.W.Frag) (x : Str) (st : Stmt) (f : Addr) (ps : List Str) : Prop := ∃ (oc : Value) (od : Option Addr) (kV doc pm : Value) (an : Option Addr) (cdv ct : Value) (osl : Array (Option Value)),
  K.lookup f = some ⟨oc, od, .func (PySem.W.fnOf x x (defArgs st) (defBody st) (defScope st) .none kV doc pm an cdv ct), osl⟩ ∧ PySem.W.codeIn K cdv x = true ∧ PySem.W.keepIn K (.ref f) = true ∧ L2.Binds K (PySem.W.fnOf x x (defArgs st) (defBody st) (defScope st) .none kV doc pm an cdv ct) ps []
/-- what the head knows -/
structure Txt (w : World) (K : PySem.W.Frag) (mg : Str → Option Value) (base : Heap) (a : Adr) : Prop where
  b_str : mg "str" = none
  b_any : mg "any" = none
  b_len : mg "len" = none
  b_sum : mg "sum" = none
  b_reversed : mg "reversed" = none
  b_list : mg "list" = none
  b_range : mg "range" = none
  b_dict : mg "dict" = none
  b_enumerate : mg "enumerate" = none
  b_all : mg "all" = none
  b_min : mg "min" = none
  b_int : mg "int" = none
  b_abs : mg "abs" = none
  g_law_dice : mg "_law_dice" = some (.ref a.f_law_dice)
  e_law_dice : FunE K "_law_dice" "_law_dice" s_law_dice a.f_law_dice ["cell"]
  g_law_roll : mg "_law_roll" = some (.ref a.f_law_roll)
  e_law_roll : FunE K "_law_roll" "_law_roll" s_law_roll a.f_law_roll ["dice", "many"]
  g_law_rounds : mg "_law_rounds" = some (.ref a.f_law_rounds)
  e_law_rounds : FunE K "_law_rounds" "_law_rounds" s_law_rounds a.f_law_rounds ["script", "most"]
  g_law_told : mg "_law_told" = some (.ref a.f_law_told)
  l_told : FunL K "_law_told" s_law_told a.f_law_told ["what"]
  g_law_figures : mg "_law_figures" = some (.ref a.f_law_figures)
  e_law_figures : FunE K "_law_figures" "_law_figures" s_law_figures a.f_law_figures ["number", "base"]
  g_pennants : mg "pennants" = some (.ref a.f_pennants)
  e_pennants : FunE K "pennants" "pennants" s_pennants a.f_pennants ["number", "base"]
  g_read_pennants : mg "read_pennants" = some (.ref a.f_read_pennants)
  e_read_pennants : FunC K "read_pennants" "read_pennants" s_read_pennants a.f_read_pennants a.k_read_pennants ["text", "base"]
  g_sum_of_figures : mg "sum_of_figures" = some (.ref a.f_sum_of_figures)
  e_sum_of_figures : FunC K "sum_of_figures" "sum_of_figures" s_sum_of_figures a.f_sum_of_figures a.k_sum_of_figures ["number", "base"]
  g_turned_number : mg "turned_number" = some (.ref a.f_turned_number)
  e_turned_number : FunE K "turned_number" "turned_number" s_turned_number a.f_turned_number ["number", "base"]
  g_by_substitutes : mg "by_substitutes" = some (.ref a.f_by_substitutes)
  e_by_substitutes : FunE K "by_substitutes" "by_substitutes" s_by_substitutes a.f_by_substitutes ["text"]
  g_without_substitutes : mg "without_substitutes" = some (.ref a.f_without_substitutes)
  e_without_substitutes : FunE K "without_substitutes" "without_substitutes" s_without_substitutes a.f_without_substitutes ["text"]
  g_check_flag : mg "check_flag" = some (.ref a.f_check_flag)
  e_check_flag : FunC K "check_flag" "check_flag" s_check_flag a.f_check_flag a.k_check_flag ["text"]
  g_with_check : mg "with_check" = some (.ref a.f_with_check)
  e_with_check : FunC K "with_check" "with_check" s_with_check a.f_with_check a.k_with_check ["text"]
  g_law_sum : mg "_law_sum" = some (.ref a.f_law_sum)
  e_law_sum : FunE K "_law_sum" "_law_sum" s_law_sum a.f_law_sum ["text"]
  g_is_checked : mg "is_checked" = some (.ref a.f_is_checked)
  e_is_checked : FunC K "is_checked" "is_checked" s_is_checked a.f_is_checked a.k_is_checked ["text"]
  g_exchanged : mg "exchanged" = some (.ref a.f_exchanged)
  e_exchanged : FunE K "exchanged" "exchanged" s_exchanged a.f_exchanged ["text", "place"]
  g_hidden_figure : mg "hidden_figure" = some (.ref a.f_hidden_figure)
  e_hidden_figure : FunE K "hidden_figure" "hidden_figure" s_hidden_figure a.f_hidden_figure ["text"]
  g_ups_and_downs : mg "ups_and_downs" = some (.ref a.f_ups_and_downs)
  e_ups_and_downs : FunE K "ups_and_downs" "ups_and_downs" s_ups_and_downs a.f_ups_and_downs ["numbers"]
  g_fewest_pennants : mg "fewest_pennants" = some (.ref a.f_fewest_pennants)
  e_fewest_pennants : FunE K "fewest_pennants" "fewest_pennants" s_fewest_pennants a.f_fewest_pennants ["most"]
  g_law_cases1 : mg "_law_cases1" = some (.ref a.f_law_cases1)
  e_law_cases1 : FunC K "_law_cases1" "_law_cases1" s_law_cases1 a.f_law_cases1 a.k_law_cases1 []
  g_law_rest1 : mg "_law_rest1" = some (.ref a.f_law_rest1)
  e_law_rest1 : FunC K "_law_rest1" "_law_rest1" s_law_rest1 a.f_law_rest1 a.k_law_rest1 ["dice"]
  g_law : mg "law" = some (.ref a.f_law)
  e_law : FunC K "law" "law" s_law a.f_law a.k_law ["script"]
  x_BadBook : PySem.W.excIn K a.x_BadBook [.type "ValueError", .type "Exception", .type "BaseException", .type "object"] "ValueError.__new__" = true ∧ mg "BadBook" = some (.ref a.x_BadBook) ∧ PySem.W.keepIn K (.ref a.x_BadBook) = true ∧ PySem.W.subIn K (.ref a.x_BadBook) (.type "BaseException") = some true ∧ PySem.W.typeIn K (.ref a.x_BadBook) = some (.type "type")
  x_BadHoist : PySem.W.excIn K a.x_BadHoist [.type "ValueError", .type "Exception", .type "BaseException", .type "object"] "ValueError.__new__" = true ∧ mg "BadHoist" = some (.ref a.x_BadHoist) ∧ PySem.W.keepIn K (.ref a.x_BadHoist) = true ∧ PySem.W.subIn K (.ref a.x_BadHoist) (.type "BaseException") = some true ∧ PySem.W.typeIn K (.ref a.x_BadHoist) = some (.type "type")
  x_BadFlag : PySem.W.excIn K a.x_BadFlag [.type "ValueError", .type "Exception", .type "BaseException", .type "object"] "ValueError.__new__" = true ∧ mg "BadFlag" = some (.ref a.x_BadFlag) ∧ PySem.W.keepIn K (.ref a.x_BadFlag) = true ∧ PySem.W.subIn K (.ref a.x_BadFlag) (.type "BaseException") = some true ∧ PySem.W.typeIn K (.ref a.x_BadFlag) = some (.type "type")
  x_BadFleet : PySem.W.excIn K a.x_BadFleet [.type "ValueError", .type "Exception", .type "BaseException", .type "object"] "ValueError.__new__" = true ∧ mg "BadFleet" = some (.ref a.x_BadFleet) ∧ PySem.W.keepIn K (.ref a.x_BadFleet) = true ∧ PySem.W.subIn K (.ref a.x_BadFleet) (.type "BaseException") = some true ∧ PySem.W.typeIn K (.ref a.x_BadFleet) = some (.type "type")
  x_Foul : mg "Foul" = some (.ref a.x_Foul)
  x_NoWay : PySem.W.excIn K a.x_NoWay [.type "ValueError", .type "Exception", .type "BaseException", .type "object"] "ValueError.__new__" = true ∧ mg "NoWay" = some (.ref a.x_NoWay) ∧ PySem.W.keepIn K (.ref a.x_NoWay) = true ∧ PySem.W.subIn K (.ref a.x_NoWay) (.type "BaseException") = some true ∧ PySem.W.typeIn K (.ref a.x_NoWay) = some (.type "type")
  x_TooLarge : PySem.W.excIn K a.x_TooLarge [.type "ValueError", .type "Exception", .type "BaseException", .type "object"] "ValueError.__new__" = true ∧ mg "TooLarge" = some (.ref a.x_TooLarge) ∧ PySem.W.keepIn K (.ref a.x_TooLarge) = true ∧ PySem.W.subIn K (.ref a.x_TooLarge) (.type "BaseException") = some true ∧ PySem.W.typeIn K (.ref a.x_TooLarge) = some (.type "type")
  x_Unclear : mg "Unclear" = some (.ref a.x_Unclear)
  x_BadText : mg "BadText" = some (.ref a.x_BadText)
  exm : ExmOk K (gm K w a) (toldL.map (·.1))
  v_FIGURES : GlD (gm K w a) mg "FIGURES" d_FIGURES
  tb_read_pennants : TabB base mg a.k_read_pennants a.t_read_pennants
  tb_sum_of_figures : TabB base mg a.k_sum_of_figures a.t_sum_of_figures
  tb_check_flag : TabB base mg a.k_check_flag a.t_check_flag
  tb_with_check : TabB base mg a.k_with_check a.t_with_check
  tb_is_checked : TabB base mg a.k_is_checked a.t_is_checked
  tb_law_cases1 : TabB base mg a.k_law_cases1 a.t_law_cases1
  tb_law_rest1 : TabB base mg a.k_law_rest1 a.t_law_rest1
  tb_law : TabB base mg a.k_law a.t_law
  ne_read_pennants_sum_of_figures : a.t_read_pennants ≠ a.t_sum_of_figures
  ne_read_pennants_check_flag : a.t_read_pennants ≠ a.t_check_flag
  ne_read_pennants_with_check : a.t_read_pennants ≠ a.t_with_check
  ne_read_pennants_is_checked : a.t_read_pennants ≠ a.t_is_checked
  ne_read_pennants_law_cases1 : a.t_read_pennants ≠ a.t_law_cases1
  ne_read_pennants_law_rest1 : a.t_read_pennants ≠ a.t_law_rest1
  ne_read_pennants_law : a.t_read_pennants ≠ a.t_law
  ne_sum_of_figures_check_flag : a.t_sum_of_figures ≠ a.t_check_flag
  ne_sum_of_figures_with_check : a.t_sum_of_figures ≠ a.t_with_check
  ne_sum_of_figures_is_checked : a.t_sum_of_figures ≠ a.t_is_checked
  ne_sum_of_figures_law_cases1 : a.t_sum_of_figures ≠ a.t_law_cases1
  ne_sum_of_figures_law_rest1 : a.t_sum_of_figures ≠ a.t_law_rest1
  ne_sum_of_figures_law : a.t_sum_of_figures ≠ a.t_law
  ne_check_flag_with_check : a.t_check_flag ≠ a.t_with_check
  ne_check_flag_is_checked : a.t_check_flag ≠ a.t_is_checked
  ne_check_flag_law_cases1 : a.t_check_flag ≠ a.t_law_cases1
  ne_check_flag_law_rest1 : a.t_check_flag ≠ a.t_law_rest1
  ne_check_flag_law : a.t_check_flag ≠ a.t_law
  ne_with_check_is_checked : a.t_with_check ≠ a.t_is_checked
  ne_with_check_law_cases1 : a.t_with_check ≠ a.t_law_cases1
  ne_with_check_law_rest1 : a.t_with_check ≠ a.t_law_rest1
  ne_with_check_law : a.t_with_check ≠ a.t_law
  ne_is_checked_law_cases1 : a.t_is_checked ≠ a.t_law_cases1
  ne_is_checked_law_rest1 : a.t_is_checked ≠ a.t_law_rest1
  ne_is_checked_law : a.t_is_checked ≠ a.t_law
  ne_law_cases1_law_rest1 : a.t_law_cases1 ≠ a.t_law_rest1
  ne_law_cases1_law : a.t_law_cases1 ≠ a.t_law
  ne_law_rest1_law : a.t_law_rest1 ≠ a.t_law
theorem sc_law_dice : FnScope ["cell"] ["cell"] (defScope s_law_dice) := ⟨rfl, rfl, rfl, by decide +kernel, rfl, by decide +kernel, by decide +kernel⟩
theorem sc_law_roll : FnScope ["dice", "many", "found"] ["dice", "many"] (defScope s_law_roll) := ⟨rfl, rfl, rfl, by decide +kernel, rfl, by decide +kernel, by decide +kernel⟩
theorem sc_law_rounds : FnScope ["script", "most", "cells", "cell"] ["script", "most"] (defScope s_law_rounds) := ⟨rfl, rfl, rfl, by decide +kernel, rfl, by decide +kernel, by decide +kernel⟩
theorem sc_law_told : FnScope ["what"] ["what"] (defScope s_law_told) := ⟨rfl, rfl, rfl, by decide +kernel, rfl, by decide +kernel, by decide +kernel⟩
theorem sc_law_figures : FnScope ["number", "base", "found"] ["number", "base"] (defScope s_law_figures) := ⟨rfl, rfl, rfl, by decide +kernel, rfl, by decide +kernel, by decide +kernel⟩
theorem sc_pennants : FnScope ["number", "base", "found"] ["number", "base"] (defScope s_pennants) := ⟨rfl, rfl, rfl, by decide +kernel, rfl, by decide +kernel, by decide +kernel⟩
theorem sc_read_pennants : FnScope ["text", "base", "sign", "found"] ["text", "base"] (defScope s_read_pennants) := ⟨rfl, rfl, rfl, by decide +kernel, rfl, by decide +kernel, by decide +kernel⟩
theorem sc_sum_of_figures : FnScope ["number", "base", "sign"] ["number", "base"] (defScope s_sum_of_figures) := ⟨rfl, rfl, rfl, by decide +kernel, rfl, by decide +kernel, by decide +kernel⟩
theorem sc_turned_number : FnScope ["number", "base", "text"] ["number", "base"] (defScope s_turned_number) := ⟨rfl, rfl, rfl, by decide +kernel, rfl, by decide +kernel, by decide +kernel⟩
theorem sc_by_substitutes : FnScope ["text", "found", "k", "sign", "place"] ["text"] (defScope s_by_substitutes) := ⟨rfl, rfl, rfl, by decide +kernel, rfl, by decide +kernel, by decide +kernel⟩
theorem sc_without_substitutes : FnScope ["text", "found", "k", "sign", "place"] ["text"] (defScope s_without_substitutes) := ⟨rfl, rfl, rfl, by decide +kernel, rfl, by decide +kernel, by decide +kernel⟩
theorem sc_check_flag : FnScope ["text", "whole", "k", "sign"] ["text"] (defScope s_check_flag) := ⟨rfl, rfl, rfl, by decide +kernel, rfl, by decide +kernel, by decide +kernel⟩
theorem sc_with_check : FnScope ["text", "sign"] ["text"] (defScope s_with_check) := ⟨rfl, rfl, rfl, by decide +kernel, rfl, by decide +kernel, by decide +kernel⟩
theorem sc_law_sum : FnScope ["text", "size", "k"] ["text"] (defScope s_law_sum) := ⟨rfl, rfl, rfl, by decide +kernel, rfl, by decide +kernel, by decide +kernel⟩
theorem sc_is_checked : FnScope ["text", "sign"] ["text"] (defScope s_is_checked) := ⟨rfl, rfl, rfl, by decide +kernel, rfl, by decide +kernel, by decide +kernel⟩
theorem sc_exchanged : FnScope ["text", "place"] ["text", "place"] (defScope s_exchanged) := ⟨rfl, rfl, rfl, by decide +kernel, rfl, by decide +kernel, by decide +kernel⟩
theorem sc_hidden_figure : FnScope ["text", "place", "signs", "found", "sign", "good", "row"] ["text"] (defScope s_hidden_figure) := ⟨rfl, rfl, rfl, by decide +kernel, rfl, by decide +kernel, by decide +kernel⟩
theorem sc_ups_and_downs : FnScope ["numbers", "k"] ["numbers"] (defScope s_ups_and_downs) := ⟨rfl, rfl, rfl, by decide +kernel, rfl, by decide +kernel, by decide +kernel⟩
theorem sc_fewest_pennants : FnScope ["most", "found", "base"] ["most"] (defScope s_fewest_pennants) := ⟨rfl, rfl, rfl, by decide +kernel, rfl, by decide +kernel, by decide +kernel⟩
theorem sc_law_cases1 : FnScope [] [] (defScope s_law_cases1) := ⟨rfl, rfl, rfl, by decide +kernel, rfl, by decide +kernel, by decide +kernel⟩
theorem sc_law_rest1 : FnScope ["dice", "plain", "k", "full", "place", "figure", "other", "swap", "crossed", "hidden", "numbers", "marks", "most", "costs", "one", "wrong"] ["dice"] (defScope s_law_rest1) := ⟨rfl, rfl, rfl, by decide +kernel, rfl, by decide +kernel, by decide +kernel⟩
theorem sc_law : FnScope ["script", "dice", "number", "base", "figures", "text", "figure", "back", "row", "k", "firsts", "due", "twice", "sign", "told"] ["script"] (defScope s_law) := ⟨rfl, rfl, rfl, by decide +kernel, rfl, by decide +kernel, by decide +kernel⟩
section
variable {P : Program} {w : World} {K : PySem.W.Frag} {mg : Str → Option Value} {base : Heap} {G : Gm} {a : Adr}
theorem ok_roll {f : Addr} {fd : FuncData} (F : Fun K "_law_roll" "_law_roll" s_law_roll f fd) (mi : mg "int" = none) : FnOk P w K mg base (L2.CX P w) 1 f fd ["dice", "many"] (spD G 2 rollD) := by
  refine F.okX sc_law_roll (fun vs H Q E h => h.1) (fun cdv A outer s H vs Q E hr h => ?_)
  obtain ⟨hl, dl, Z, ds, gl, dz, live, rl, hw⟩ := h
  obtain ⟨m, x, y, z, rfl, m0, m1, hd, k⟩ := roll_of gl dz rl hw
  refine ⟨_, pss_cons (ps_if (pw_or (pt_cmpR op_eq (pe_ix ix_list (pv 0) pe_int fun _ _ => rfl) pe_int (nomark _)) (pw_or1 (pw_and (pt_cmpR op_eq (pe_ix ix_list (pv 0) pe_int fun _ _ => rfl) pe_int (nomark _)) (pw_and1 (pt_cmpR op_gt (pe_ix ix_list (pv 0) pe_int fun _ _ => rfl) pe_int (nomark _)))).pt)).pt
      (pss_cons (ps_set (i := 2) sc_law_roll.nd rfl (Or.inl rfl) (pe_op op_mod (pe_callTy call_int1 rfl mi rfl (pa_cons (pe_ix ix_list (pv 0) pe_int fun _ _ => rfl) pa_nil)) (pv 1)))
        (pss_cons (ps_asg (pe_op op_fdiv (pe_ix ix_list (pv 0) pe_int fun _ _ => rfl) (pv 1)) (pg_sub (pv 0) pe_int set_list))
          (pss_one (ps_ret (pv 2))))) pss_nil)
    (pss_cons (ps_asg pe_int (pg_sub (pv 0) pe_int set_list))
      (pss_cons (ps_asg (pe_op op_mod (pe_callTy call_int1 rfl mi rfl (pa_cons (pe_op op_add (pe_op op_add (pe_op op_mul (pe_ix ix_list (pv 0) pe_int fun _ _ => rfl) pe_int) (pe_op op_mul (pe_ix ix_list (pv 0) pe_int fun _ _ => rfl) pe_int)) pe_int) pa_nil)) pe_int) (pg_sub (pv 0) pe_int set_list))
        (pss_cons (ps_asg (pe_op op_add (pe_ix ix_list (pv 0) pe_int fun _ _ => rfl) pe_int) (pg_sub (pv 0) pe_int set_list))
          (pss_one (ps_ret (pe_op op_mod (pe_callTy call_int1 rfl mi rfl (pa_cons (pe_op op_add (pe_op op_fdiv (pe_ix ix_list (pv 0) pe_int fun _ _ => rfl) pe_int) (pe_ix ix_list (pv 0) pe_int fun _ _ => rfl)) pa_nil)) (pv 1))))))), ?_⟩
  have hm1 : m < 1073741824 := by omega
  have r0 : 0 ≤ x % m := Int.emod_nonneg _ (by omega)
  have r1 : x % m < m := Int.emod_lt_of_pos _ m0
  refine ⟨_, rfl, dl, _, _, _, rfl, rfl, SqL.of hd, rfl, rfl, _, rfl, ?_⟩
  refine ite2 (fun _ => ite2 (fun _ => ?y1) (fun h => absurd rfl h)) (fun _ => ⟨_, rfl, dl, _, _, _, rfl, rfl, SqL.of hd, rfl, rfl, _, rfl, ite2 (fun _ => ⟨_, rfl, dl, _, _, _, rfl, rfl, SqL.of hd, rfl, _, _, rfl, rfl, _, rfl, ite2 (fun _ => ?y2) (fun _ => ?n1)⟩) (fun _ => ite2 (fun h => nomatch h) (fun _ => ?n2))⟩)
  case y1 =>
    refine ⟨_, rfl, dl, _, _, _, rfl, rfl, SqL.of hd, rfl, .inl ⟨_, rfl, _, rfl, _, _, rfl, rfl, m0, ?_⟩⟩
    refine ⟨_, rfl, dl, _, _, _, rfl, rfl, SqL.of hd, rfl, _, rfl, _, _, rfl, rfl, ⟨m0, hm1⟩, _, rfl, dl, _, _, _, rfl, rfl, hd, rfl, _, rfl, ?_⟩
    exact k _ _ r0 r1 ⟨_, _, _, rfl⟩
  case y2 =>
    refine ⟨_, rfl, dl, _, _, _, rfl, rfl, SqL.of hd, rfl, .inl ⟨_, rfl, _, rfl, _, _, rfl, rfl, m0, ?_⟩⟩
    refine ⟨_, rfl, dl, _, _, _, rfl, rfl, SqL.of hd, rfl, _, rfl, _, _, rfl, rfl, ⟨m0, hm1⟩, _, rfl, dl, _, _, _, rfl, rfl, hd, rfl, _, rfl, ?_⟩
    exact k _ _ r0 r1 ⟨_, _, _, rfl⟩
  all_goals
    refine ⟨_, rfl, dl, _, _, _, rfl, rfl, hd, rfl, ?_⟩
    have h2 : (upd H dl (.lst [V.int x, V.int y, V.int 0])) dl = some (.lst [V.int x, V.int y, V.int 0]) := upd_same
    refine ⟨_, rfl, dl, _, _, _, rfl, rfl, SqL.of h2, rfl, _, _, rfl, rfl, .inr ⟨by decide, by decide⟩, _, rfl, dl, _, _, _, rfl, rfl, SqL.of h2, rfl, _, _, rfl, rfl, .inr ⟨by decide, by decide⟩, _, _, rfl, rfl, _, _, rfl, rfl, .inl ⟨_, rfl, _, _, rfl, rfl, (by show (0 : Int) < 2147483647; decide), _, rfl, dl, _, _, _, rfl, rfl, h2, rfl, ?_⟩⟩
    refine ⟨_, rfl, dl, _, _, _, rfl, rfl, SqL.of upd_same, rfl, _, _, rfl, rfl, _, rfl, dl, _, _, _, rfl, rfl, upd_same, rfl, ?_⟩
    refine ⟨_, rfl, dl, _, _, _, rfl, rfl, SqL.of upd_same, rfl, _, _, rfl, rfl, ⟨(by show (0 : Int) < 7; decide), (by show (7 : Int) < 1073741824; decide)⟩, _, rfl, dl, _, _, _, rfl, rfl, SqL.of upd_same, rfl, _, _, rfl, rfl, .inl ⟨_, rfl, _, rfl, _, _, rfl, rfl, m0, ?_⟩⟩
    refine k _ _ (Int.emod_nonneg _ (by omega)) (Int.emod_lt_of_pos _ m0) ⟨(x * 48271 + y * 69621 + 11) % 2147483647, y + 1, 0, ?_⟩
    rw [upd_upd, upd_upd]
    rfl
theorem ok_dice {f : Addr} {fd : FuncData} (F : Fun K "_law_dice" "_law_dice" s_law_dice f fd) (mi : mg "int" = none) (ma : mg "abs" = none) : FnOk P w K mg base (L2.CX P w) 1 f fd ["cell"] spDice := by
  refine F.okX sc_law_dice (fun vs H Q E h => by obtain ⟨c, rfl, _⟩ := h; rfl) (fun cdv A outer s H vs Q E hr h => ?_)
  obtain ⟨c, rfl, k⟩ := h
  refine ⟨_, pss_cons (ps_if (pt_chain op_lt op_lt (pe_op op_sub pe_int pe_int) (pv 0) pe_int) (pss_one (ps_ret (pe_lst (pa_cons (pe_callB call_abs rfl ma rfl (pa_cons (pv 0) pa_nil)) (pa_cons pe_int (pa_cons pe_int pa_nil)))))) pss_nil)
    (pss_one (ps_ret (pe_lst (pa_cons (pv 0) (pa_cons (pe_op op_add pe_int (pe_op op_mod (pe_callTy call_int1 rfl mi rfl (pa_cons (pv 0) pa_nil)) pe_int)) (pa_cons (pe_callTy call_int1 rfl mi rfl (pa_cons (pe_cmpR op_ge (pv 0) (pe_op op_pow pe_int pe_int) (nomark _)) pa_nil)) pa_nil)))))), ?_⟩
  have kk : ∀ a : Int, [V.int a, V.int 0, V.int 2].length ≤ sizeLine ∧ ∀ p, H p = none → Q (.ref p) (upd H p (.lst [V.int a, V.int 0, V.int 2])) := fun a => ⟨by rw [sizeLine_eq]; exact Nat.le_of_ble_eq_true rfl, fun p hp => k p a 0 2 hp⟩
  have kn : ∀ b : Bool, [V.int c, V.int (1 + c % 1009), V.int (if b = true then 1 else 0)].length ≤ sizeLine ∧ ∀ p, H p = none → Q (.ref p) (upd H p (.lst [V.int c, V.int (1 + c % 1009), V.int (if b = true then 1 else 0)])) := fun b => ⟨by rw [sizeLine_eq]; exact Nat.le_of_ble_eq_true rfl, fun p hp => k p c _ _ hp⟩
  have no : tRet
      (tLst
        (tCons (tVar 0)
          (tCons
            (tOp (rI0 fun i j => V.int (i + j)) (tC (V.int 1))
              (tOp (rI (fun x j => 0 < j) fun i j => V.int (i % j))
                (tCB
                  (fun xs H Q =>
                    (∃ i, xs = [V.int i] ∧ Q (V.int i) H) ∨
                      ∃ k, xs = [V.bl k] ∧ Q (V.int (if k = true then 1 else 0)) H)
                  (tCons (tVar 0) tNil))
                (tC (V.int 1009))))
            (tCons
              (tCB
                (fun xs H Q =>
                  (∃ i, xs = [V.int i] ∧ Q (V.int i) H) ∨ ∃ k, xs = [V.bl k] ∧ Q (V.int (if k = true then 1 else 0)) H)
                (tCons
                  (tOp (rI0 fun i j => V.bl (decide (j ≤ i))) (tVar 0)
                    (tOp (rI CPow fun i j => V.int (i ^ j.toNat)) (tC (V.int 10)) (tC (V.int 18))))
                  tNil))
              tNil)))) { nx := fun x H' => Q V.non H', rt := Q } (L2.start [Str.ofString "cell"] [V.int c]) H := by
    exact ⟨_, rfl, _, rfl, .inl ⟨_, rfl, _, _, rfl, rfl, (by show (0 : Int) < 1009; decide), _, _, rfl, rfl, _, rfl, _, _, rfl, rfl, ⟨by decide, by decide, by decide⟩, _, _, rfl, rfl, .inr ⟨_, rfl, kn _⟩⟩⟩
  refine ⟨_, _, rfl, rfl, _, rfl, _, _, rfl, rfl, _, rfl, ite2 (fun _ => ⟨_, _, rfl, rfl, _, rfl, ite2 (fun _ => ⟨_, rfl, _, rfl, kk _⟩) (fun _ => no)⟩) (fun _ => ⟨_, rfl, ite2 (fun h => nomatch h) (fun _ => no)⟩)⟩
theorem ok_rounds {f fD : Addr} {fd fdD : FuncData} (F : Fun K "_law_rounds" "_law_rounds" s_law_rounds f fd) (D : FnOk P w K mg base (L2.CX P w) 1 fD fdD ["cell"] spDice) (kD : PySem.W.keepIn K (.ref fD) = true) (bD : Binds K fdD ["cell"] []) (mD : mg "_law_dice" = some (.ref fD)) : FnOk P w K mg base (L2.CX P w) 2 f fd ["script", "most"] (spRounds K) := by
  refine F.okX sc_law_rounds (fun vs H Q E h => by obtain ⟨a, ns, rfl, _⟩ := h; rfl) (fun cdv A outer s H vs Q E hr h => ?_)
  obtain ⟨a, ns, rfl, hS, k⟩ := h
  have hu : (A.deeper (PyProof.Rows.envOfC "_law_rounds" (defScope s_law_rounds) s.heap.objs.size f cdv)).units + 64 < cLine := by have := hr.un; omega
  refine ⟨_, pss_cons (ps_set (i := 2) sc_law_rounds.nd rfl (Or.inl rfl) (pe_slice sl_list (pv 0) po_none (po_some (pv 1))))
    (pss_cons (ps_if (pt_cmpR (op_eqD hu) (pv 2) (pe_lst pa_nil) (nomark _)) (pss_one (ps_set (i := 2) sc_law_rounds.nd rfl (Or.inl rfl) (pe_lst (pa_cons pe_int pa_nil)))) pss_nil)
      (pss_one (ps_ret (pe_lc (own := [("cell", 3)]) (g := gName 3) (tt := tYes) rfl sc_law_rounds.nd (pi_list (pv 2)) (blkOk_by (N := ["script", "most", "cells", "cell"]) (sc := defScope s_law_rounds) (by decide +kernel)) (fun _ _ _ _ _ => pg_name (i := 3) sc_law_rounds.nd rfl (Or.inl rfl)) (fun _ _ _ _ _ => pts_nil)
        (fun _ _ _ _ _ => pe_callS D hr rfl mD kD bD (fun sg => passAt takes0D sg) (pa_cons (pv 3) pa_nil)))))), ?_⟩
  have fin : ∀ (H1 : Hp) (l : Addr) (c : Int), (∀ b o, H b = some o → H1 b = some o) → H1 l = some (.lst [.int c]) →
      (tRet (tLc (iList K (tVar 2)) (gName 3) tYes (tCallS spDice (WE W0) (tCons (tVar 3) tNil)) [3])) { nx := fun x H' => Q V.non H', rt := Q } [some (.ref a), some (.int 1), some (.ref l), none] H1 := fun H1 l c e1 hl => by
    refine ⟨_, rfl, l, rfl, ⟨_, SqL.of hl⟩, fun D hD => ?_⟩
    have hlD : l ≠ D := ne_of_none hl hD
    refine lc_list (xs := [V.int c]) (fun i H' => (∀ b o, H1 b = some o → H' b = some o) ∧ ((i = 0 ∧ H' D = some (.lst [])) ∨ (i = 1 ∧ ∃ (d : Addr) (x y z : Int), D ≠ d ∧ H' D = some (.lst [.ref d]) ∧ H' d = some (.lst [.int x, .int y, .int z])))) ⟨fun b o e => by rw [upd_ne (ne_of_none e hD)]; exact e, .inl ⟨rfl, upd_same⟩⟩
      (fun i H' _ p => SqL.of (p.1 _ _ hl)) (fun i x H' hx p => ?_) fun H' p => ?_
    · obtain ⟨p1, p2⟩ := p
      cases i with
      | succ i => simp at hx
      | zero =>
        cases hx
        rcases p2 with ⟨_, hDl⟩ | ⟨h, _⟩
        case inr => cases h
        refine ⟨rfl, _, rfl, c, rfl, fun d x y z hd => ?_⟩
        have hDd : D ≠ d := ne_of_none hDl hd
        refine ⟨[], by rw [upd_ne hDd]; exact hDl, by rw [sizeLine_eq]; decide, fun b o e => ?_, .inr ⟨rfl, d, x, y, z, hDd, upd_same, by rw [upd_ne hDd.symm]; exact upd_same⟩⟩
        rw [upd_ne (ne_of_none e hD), upd_ne (ne_of_none (p1 b o e) hd)]
        exact p1 b o e
    · obtain ⟨p1, p2⟩ := p
      rcases p2 with ⟨h, _⟩ | ⟨_, d, x, y, z, n, h1, h2⟩
      · cases h
      · exact k H' D d x y z (fun b o e => p1 b o (e1 b o e)) n h1 h2
  refine ⟨_, rfl, _, rfl, _, rfl, a, _, rfl, hS, fun l hl => ?_⟩
  have dnil : ∀ {H2 : Hp} {q : Addr}, H2 q = some (.lst []) → Dp K H2 (.ref q) (.list []) := fun h => .lst (SqL.of h) .nil
  cases ns with
  | nil =>
    refine ⟨_, rfl, Nat.zero_le _, fun l2 hl2 => ⟨.list [], .list [], dnil ?_, dnil upd_same, by decide, by decide, _, rfl, ite2 (fun _ => ⟨by rw [sizeLine_eq]; decide, fun l3 hl3 => fin _ l3 0 (fun b o e => ?_) upd_same⟩) (fun h => absurd rfl h)⟩⟩
    · have n : l ≠ l2 := fun e => by rw [← e, upd_same] at hl2; cases hl2
      rw [upd_ne n]; exact upd_same
    · have e1 := (upd_ne (o := .lst (cutV ([].map V.int) none (some 1))) (ne_of_none e hl)).trans e
      have e2 := (upd_ne (o := .lst []) (ne_of_none e1 hl2)).trans e1
      exact (upd_ne (o := .lst [V.int 0]) (ne_of_none e2 hl3)).trans e2
  | cons c r =>
    have cv : cutV ((c :: r).map V.int) none (some 1) = [V.int c] := by
      show (List.take (HT.sIx _ _ (some ((1 : Nat) : Int)) - 0) _) = _
      rw [HT.sIx_nat, HT.sIx_none]
      simp
    rw [cv] at *
    refine ⟨_, rfl, Nat.zero_le _, fun l2 hl2 => ⟨.list [.int c], .list [], .lst (xs := [V.int c]) (SqL.of ?_) (.cons (.int c) .nil), dnil upd_same, rfl, by decide, _, rfl, ite2 (fun h => nomatch h) (fun _ => fin _ l c (fun b o e => ?_) ?_)⟩⟩
    · have n : l ≠ l2 := fun e => by rw [← e, upd_same] at hl2; cases hl2
      rw [upd_ne n]; exact upd_same
    · have e1 := (upd_ne (o := .lst [V.int c]) (ne_of_none e hl)).trans e
      exact (upd_ne (o := .lst []) (ne_of_none e1 hl2)).trans e1
    · have n : l ≠ l2 := fun e => by rw [← e, upd_same] at hl2; cases hl2
      rw [upd_ne n]; exact upd_same
theorem tm_read_pennants : (a.t_read_pennants, ("read_pennants" : Str) ++ ".<locals>." ++ "<genexpr>") ∈ tabsA a := by unfold tabsA; simp
theorem tu_read_pennants (T : Txt w K mg base a) : ∀ p ∈ tabsA a, p.1 = a.t_read_pennants → p.2 = ("read_pennants" : Str) ++ ".<locals>." ++ "<genexpr>" := fun p hp e => by
  unfold tabsA at hp
  simp only [List.mem_cons, List.not_mem_nil, or_false] at hp
  rcases hp with rfl | rfl | rfl | rfl | rfl | rfl | rfl | rfl
  · rfl
  · exact (T.ne_read_pennants_sum_of_figures e.symm).elim
  · exact (T.ne_read_pennants_check_flag e.symm).elim
  · exact (T.ne_read_pennants_with_check e.symm).elim
  · exact (T.ne_read_pennants_is_checked e.symm).elim
  · exact (T.ne_read_pennants_law_cases1 e.symm).elim
  · exact (T.ne_read_pennants_law_rest1 e.symm).elim
  · exact (T.ne_read_pennants_law e.symm).elim
theorem tm_sum_of_figures : (a.t_sum_of_figures, ("sum_of_figures" : Str) ++ ".<locals>." ++ "<genexpr>") ∈ tabsA a := by unfold tabsA; simp
theorem tu_sum_of_figures (T : Txt w K mg base a) : ∀ p ∈ tabsA a, p.1 = a.t_sum_of_figures → p.2 = ("sum_of_figures" : Str) ++ ".<locals>." ++ "<genexpr>" := fun p hp e => by
  unfold tabsA at hp
  simp only [List.mem_cons, List.not_mem_nil, or_false] at hp
  rcases hp with rfl | rfl | rfl | rfl | rfl | rfl | rfl | rfl
  · exact (T.ne_read_pennants_sum_of_figures e).elim
  · rfl
  · exact (T.ne_sum_of_figures_check_flag e.symm).elim
  · exact (T.ne_sum_of_figures_with_check e.symm).elim
  · exact (T.ne_sum_of_figures_is_checked e.symm).elim
  · exact (T.ne_sum_of_figures_law_cases1 e.symm).elim
  · exact (T.ne_sum_of_figures_law_rest1 e.symm).elim
  · exact (T.ne_sum_of_figures_law e.symm).elim
theorem tm_check_flag : (a.t_check_flag, ("check_flag" : Str) ++ ".<locals>." ++ "<genexpr>") ∈ tabsA a := by unfold tabsA; simp
theorem tu_check_flag (T : Txt w K mg base a) : ∀ p ∈ tabsA a, p.1 = a.t_check_flag → p.2 = ("check_flag" : Str) ++ ".<locals>." ++ "<genexpr>" := fun p hp e => by
  unfold tabsA at hp
  simp only [List.mem_cons, List.not_mem_nil, or_false] at hp
  rcases hp with rfl | rfl | rfl | rfl | rfl | rfl | rfl | rfl
  · exact (T.ne_read_pennants_check_flag e).elim
  · exact (T.ne_sum_of_figures_check_flag e).elim
  · rfl
  · exact (T.ne_check_flag_with_check e.symm).elim
  · exact (T.ne_check_flag_is_checked e.symm).elim
  · exact (T.ne_check_flag_law_cases1 e.symm).elim
  · exact (T.ne_check_flag_law_rest1 e.symm).elim
  · exact (T.ne_check_flag_law e.symm).elim
theorem tm_with_check : (a.t_with_check, ("with_check" : Str) ++ ".<locals>." ++ "<genexpr>") ∈ tabsA a := by unfold tabsA; simp
theorem tu_with_check (T : Txt w K mg base a) : ∀ p ∈ tabsA a, p.1 = a.t_with_check → p.2 = ("with_check" : Str) ++ ".<locals>." ++ "<genexpr>" := fun p hp e => by
  unfold tabsA at hp
  simp only [List.mem_cons, List.not_mem_nil, or_false] at hp
  rcases hp with rfl | rfl | rfl | rfl | rfl | rfl | rfl | rfl
  · exact (T.ne_read_pennants_with_check e).elim
  · exact (T.ne_sum_of_figures_with_check e).elim
  · exact (T.ne_check_flag_with_check e).elim
  · rfl
  · exact (T.ne_with_check_is_checked e.symm).elim
  · exact (T.ne_with_check_law_cases1 e.symm).elim
  · exact (T.ne_with_check_law_rest1 e.symm).elim
  · exact (T.ne_with_check_law e.symm).elim
theorem tm_is_checked : (a.t_is_checked, ("is_checked" : Str) ++ ".<locals>." ++ "<genexpr>") ∈ tabsA a := by unfold tabsA; simp
theorem tu_is_checked (T : Txt w K mg base a) : ∀ p ∈ tabsA a, p.1 = a.t_is_checked → p.2 = ("is_checked" : Str) ++ ".<locals>." ++ "<genexpr>" := fun p hp e => by
  unfold tabsA at hp
  simp only [List.mem_cons, List.not_mem_nil, or_false] at hp
  rcases hp with rfl | rfl | rfl | rfl | rfl | rfl | rfl | rfl
  · exact (T.ne_read_pennants_is_checked e).elim
  · exact (T.ne_sum_of_figures_is_checked e).elim
  · exact (T.ne_check_flag_is_checked e).elim
  · exact (T.ne_with_check_is_checked e).elim
  · rfl
  · exact (T.ne_is_checked_law_cases1 e.symm).elim
  · exact (T.ne_is_checked_law_rest1 e.symm).elim
  · exact (T.ne_is_checked_law e.symm).elim
theorem tm_law_cases1 : (a.t_law_cases1, ("_law_cases1" : Str) ++ ".<locals>." ++ "<lambda>") ∈ tabsA a := by unfold tabsA; simp
theorem tu_law_cases1 (T : Txt w K mg base a) : ∀ p ∈ tabsA a, p.1 = a.t_law_cases1 → p.2 = ("_law_cases1" : Str) ++ ".<locals>." ++ "<lambda>" := fun p hp e => by
  unfold tabsA at hp
  simp only [List.mem_cons, List.not_mem_nil, or_false] at hp
  rcases hp with rfl | rfl | rfl | rfl | rfl | rfl | rfl | rfl
  · exact (T.ne_read_pennants_law_cases1 e).elim
  · exact (T.ne_sum_of_figures_law_cases1 e).elim
  · exact (T.ne_check_flag_law_cases1 e).elim
  · exact (T.ne_with_check_law_cases1 e).elim
  · exact (T.ne_is_checked_law_cases1 e).elim
  · rfl
  · exact (T.ne_law_cases1_law_rest1 e.symm).elim
  · exact (T.ne_law_cases1_law e.symm).elim
theorem tm_law_rest1 : (a.t_law_rest1, ("_law_rest1" : Str) ++ ".<locals>." ++ "<lambda>") ∈ tabsA a := by unfold tabsA; simp
theorem tu_law_rest1 (T : Txt w K mg base a) : ∀ p ∈ tabsA a, p.1 = a.t_law_rest1 → p.2 = ("_law_rest1" : Str) ++ ".<locals>." ++ "<lambda>" := fun p hp e => by
  unfold tabsA at hp
  simp only [List.mem_cons, List.not_mem_nil, or_false] at hp
  rcases hp with rfl | rfl | rfl | rfl | rfl | rfl | rfl | rfl
  · exact (T.ne_read_pennants_law_rest1 e).elim
  · exact (T.ne_sum_of_figures_law_rest1 e).elim
  · exact (T.ne_check_flag_law_rest1 e).elim
  · exact (T.ne_with_check_law_rest1 e).elim
  · exact (T.ne_is_checked_law_rest1 e).elim
  · exact (T.ne_law_cases1_law_rest1 e).elim
  · rfl
  · exact (T.ne_law_rest1_law e.symm).elim
theorem tm_law : (a.t_law, ("law" : Str) ++ ".<locals>." ++ "<lambda>") ∈ tabsA a := by unfold tabsA; simp
theorem tu_law (T : Txt w K mg base a) : ∀ p ∈ tabsA a, p.1 = a.t_law → p.2 = ("law" : Str) ++ ".<locals>." ++ "<lambda>" := fun p hp e => by
  unfold tabsA at hp
  simp only [List.mem_cons, List.not_mem_nil, or_false] at hp
  rcases hp with rfl | rfl | rfl | rfl | rfl | rfl | rfl | rfl
  · exact (T.ne_read_pennants_law e).elim
  · exact (T.ne_sum_of_figures_law e).elim
  · exact (T.ne_check_flag_law e).elim
  · exact (T.ne_with_check_law e).elim
  · exact (T.ne_is_checked_law e).elim
  · exact (T.ne_law_cases1_law e).elim
  · exact (T.ne_law_rest1_law e).elim
  · rfl
theorem gives_told {X : Cx} {cdg : Value} {g : Addr} {q : Str} (T : Txt w K mg base a) (hK : X.K = K) (hm : X.mg = mg) : GivesTo X ["what"] "_law_told" (defScope s_law_told) g cdg (defBody s_law_told) "what" q (TTm X.K (toldL.map fun p => ((gm K w a).xcls p.1, (⟨p.2.toArray⟩ : Str)))) := by
  subst hm
  exact told_many (X := X) (.cons (by rfl) T.x_BadBook.2.1 (by decide) (.cons (by rfl) T.x_BadFlag.2.1 (by decide) (.cons (by rfl) T.x_BadFleet.2.1 (by decide) (.cons (by rfl) T.x_BadHoist.2.1 (by decide) (.cons (by rfl) T.x_Foul (by decide) (.cons (by rfl) T.x_NoWay.2.1 (by decide) (.cons (by rfl) T.x_TooLarge.2.1 (by decide) (.cons (by rfl) T.x_Unclear (by decide) (.cons (by rfl) T.x_BadText (by decide) .nil))))))))) (fun _ => rfl)
theorem k_law_roll (T : Txt w K mg base a) : FnD P w K mg base (gm K w a) 1 "_law_roll" a.f_law_roll 2 rollD := by
  obtain ⟨fd, F, bd⟩ := T.e_law_roll
  exact ⟨⟨fd, _, rfl, ok_roll F T.b_int, bd⟩, rollD_len, F.kp, T.g_law_roll⟩
def F_law_figures : LE → R Out :=
    (seqS (setK 2 (valK (lE (lstE (acons (opE modD (var 0) (var 1)) anil)))))
    (seqS (whileS 100 (cmpT geD (var 0) (var 1))
    (seqS (setK 0 (valK (opE fdivD (var 0) (var 1))))
    (setK 2 (valK (opE addD (lE (lstE (acons (opE modD (var 0) (var 1)) anil))) (var 2))))))
    (retS (var 2))))
def D_law_figures : List D → R D := runF 2 3 F_law_figures
theorem k_law_figures (T : Txt w K mg base a) : FnD P w K mg base (gm K w a) 1 "_law_figures" a.f_law_figures 2 D_law_figures := by
  exact fnD_E T.e_law_figures sc_law_figures T.g_law_figures rfl rfl fun cdv A outer s H E hr =>
    (dss_cons (ds_set 2 (DE.k (DF.e (df_lst (da_cons (de_op (op_mod_d) (DE.p (de_var 0)) (DE.p (de_var 1))) da_nil)))) (by decide) sc_law_figures.nd)
    (dss_cons (ds_while 100 owns_cxD (dt_cmp (op_ge_d) (DE.p (de_var 0)) (DE.p (de_var 1)))
    (dss_cons (ds_set 0 (DE.k (de_op (op_fdiv_d) (DE.p (de_var 0)) (DE.p (de_var 1)))) (by decide) sc_law_figures.nd)
    (dss_one (ds_set 2 (DE.k (de_op (op_add_d rfl) (DE.p (DF.e (df_lst (da_cons (de_op (op_mod_d) (DE.p (de_var 0)) (DE.p (de_var 1))) da_nil)))) (DE.p (de_var 2)))) (by decide) sc_law_figures.nd))))
    (dss_one (ds_ret (de_var 2)))))
def F_pennants : LE → R Out :=
    (seqS (ifS (orT (notT (chainT (cst (.int 2)) (var 1) (cst (.int 10)) leD leD)) (cmpT ltD (var 0) (cst (.int 0))))
    (errS ⟨3, .non⟩)
    skipS)
    (seqS (setK 2 (valK (subE (cst d_FIGURES) (opE modD (var 0) (var 1)))))
    (seqS (setK 0 (valK (opE fdivD (var 0) (var 1))))
    (seqS (whileS 100 (cmpT gtD (var 0) (cst (.int 0)))
    (parK 2 0 (valK (opE addD (subE (cst d_FIGURES) (opE modD (var 0) (var 1))) (var 2))) (valK (opE fdivD (var 0) (var 1)))))
    (retS (var 2))))))
def D_pennants : List D → R D := runF 2 3 F_pennants
theorem k_pennants (T : Txt w K mg base a) : FnD P w K mg base (gm K w a) 1 "pennants" a.f_pennants 2 D_pennants := by
  exact fnD_E T.e_pennants sc_pennants T.g_pennants rfl rfl fun cdv A outer s H E hr =>
    (dss_cons (ds_if (dt_w (dw_or (dt_not (dt_chain (op_le_d) (op_le_d) (DE.p de_int) (DE.p (de_var 1)) (DE.p de_int))) (dw_or1 (dt_cmp (op_lt_d) (DE.p (de_var 0)) (DE.p de_int)))))
    (dss_one (ds_raise 3 takes_cxD rfl PySem.F.excBase_ValueError rfl rfl T.x_BadBook.1 T.x_BadBook.2.1 T.x_BadBook.2.2.1 (raises_own T.x_BadBook.2.2.2.1 T.x_BadBook.2.2.2.2)))
    dss_nil)
    (dss_cons (ds_set 2 (DE.k (de_sub rfl rfl (huD hr) (DE.p (de_gl T.v_FIGURES)) (DE.p (de_op (op_mod_d) (DE.p (de_var 0)) (DE.p (de_var 1)))) fun _ _ => rfl)) (by decide) sc_pennants.nd)
    (dss_cons (ds_aug 0 oi_fdiv sc_pennants.nd (de_var 1))
    (dss_cons (ds_while 100 owns_cxD (dt_cmp (op_gt_d) (DE.p (de_var 0)) (DE.p de_int))
    (dss_one (ds_par 2 0 rfl sc_pennants.nd (by decide) (by decide) (by decide) (DE.k (de_op (op_add_d rfl) (DE.p (de_sub rfl rfl (huD hr) (DE.p (de_gl T.v_FIGURES)) (DE.p (de_op (op_mod_d) (DE.p (de_var 0)) (DE.p (de_var 1)))) fun _ _ => rfl)) (DE.p (de_var 2)))) (DE.k (de_op (op_fdiv_d) (DE.p (de_var 0)) (DE.p (de_var 1)))))))
    (dss_one (ds_ret (de_var 2)))))))
def F_read_pennants : LE → R Out :=
    (seqS (ifS (notT (chainT (cst (.int 2)) (var 1) (cst (.int 10)) leD leD))
    (errS ⟨3, .non⟩)
    skipS)
    (seqS (ifS (orT (cmpT eqD (var 0) (cst (.str []))) (orT (valT (anyE true (itS (var 0)) (gN 2) yesT (opE notInD (var 2) (sliceE (cst d_FIGURES) noP (someP (var 1)))) [2])) (andT (cmpT gtD (callE lenX (acons (var 0) anil)) (cst (.int 1))) (cmpT eqD (subE (var 0) (cst (.int 0))) (cst (.str [48]))))))
    (errS ⟨2, .non⟩)
    skipS)
    (seqS (setK 3 (valK (cst (.int 0))))
    (seqS (forS (itS (var 0)) (gN 2)
    (setK 3 (valK (opE addD (opE mulD (var 3) (var 1)) (bmE "str" sidxD (cst d_FIGURES) (acons (var 2) anil))))))
    (retS (var 3))))))
def D_read_pennants : List D → R D := runF 2 4 F_read_pennants
theorem k_read_pennants (T : Txt w K mg base a) : FnD P w K mg base (gm K w a) 2 "read_pennants" a.f_read_pennants 2 D_read_pennants := by
  obtain ⟨oc0, od0, kV0, doc0, pm0, an0, cdv0, ct0, osl0, lk0, cd0, kp0, bd0⟩ := T.l_told
  exact fnD_C T.e_read_pennants sc_read_pennants T.g_read_pennants rfl rfl fun A outer s H E hr =>
    (dss_cons (ds_if (dt_not (dt_chain (op_le_d) (op_le_d) (DE.p de_int) (DE.p (de_var 1)) (DE.p de_int)))
    (dss_one (ds_raise 3 takes_cxD rfl PySem.F.excBase_ValueError rfl rfl T.x_BadBook.1 T.x_BadBook.2.1 T.x_BadBook.2.2.1 (raises_own T.x_BadBook.2.2.2.1 T.x_BadBook.2.2.2.2)))
    dss_nil)
    (dss_cons (ds_if (dt_w (dw_or (dt_cmp (op_eq_d rfl (huD64 hr)) (DE.p (de_var 0)) (DE.p (de_str []))) (dw_or (dt_val (de_any (k := 0) (own := [("sign", 2)]) (hr.mono (by decide)) rfl T.b_any T.tb_read_pennants rfl tm_read_pennants (tu_read_pennants T) sc_read_pennants.nd (DI.e (di_str (de_var 0))) (blkOk_by (N := ["text", "base", "sign", "found"]) (sc := defScope s_read_pennants) (by decide +kernel)) (genOk_by (by decide +kernel)) (fun _ _ _ _ _ _ _ hrg => (dg_name 2 sc_read_pennants.nd)) (fun _ _ _ _ _ _ _ hrg => dts_nil) (fun _ _ _ _ _ _ _ hrg => (de_cmp (op_notin_d rfl (huD hrg)) (DE.p (de_var 2)) (DE.p (de_slice rfl (DE.p (de_gl T.v_FIGURES)) do_none (do_some (DE.p (de_var 1))))))) (by decide))) (dw_or1 (dt_w (dw_and (dt_cmp (op_gt_d) (DE.p (de_callB (cd_lenX rfl) T.b_len rfl (dap_cons (DE.p (de_var 0)) dap_nil))) (DE.p de_int)) (dw_and1 (dt_cmp (op_eq_d rfl (huD64 hr)) (DE.p (de_sub rfl rfl (huD hr) (DE.p (de_var 0)) (DE.p de_int) fun _ _ => rfl)) (DE.p (de_str [48]))))))))))
    (dss_one (ds_raise 2 takes_cxD rfl PySem.F.excBase_ValueError rfl rfl T.x_BadHoist.1 T.x_BadHoist.2.1 T.x_BadHoist.2.2.1 (raises_own T.x_BadHoist.2.2.2.1 T.x_BadHoist.2.2.2.2)))
    dss_nil)
    (dss_cons (ds_set 3 (DE.k de_int) (by decide) sc_read_pennants.nd)
    (dss_cons (ds_for owns_cxD rfl (di_str (de_var 0)) (dg_name 2 sc_read_pennants.nd)
    (dss_one (ds_set 3 (DE.k (de_op (op_add_d rfl) (DE.p (de_op (op_mul_d) (DE.p (de_var 3)) (DE.p (de_var 1)))) (DE.p (de_bm (bm_sindex) rfl (DE.p (de_gl T.v_FIGURES)) (dap_cons (DE.p (de_var 2)) dap_nil))))) (by decide) sc_read_pennants.nd)))
    (dss_one (ds_ret (de_var 3)))))))
def F_sum_of_figures : LE → R Out :=
    (retS (sumE (itS (callE D_pennants (acons (var 0) (acons (var 1) anil)))) (gN 2) yesT (bmE "str" sidxD (cst d_FIGURES) (acons (var 2) anil)) [2]))
def D_sum_of_figures : List D → R D := runF 2 3 F_sum_of_figures
theorem k_sum_of_figures (T : Txt w K mg base a) : FnD P w K mg base (gm K w a) 2 "sum_of_figures" a.f_sum_of_figures 2 D_sum_of_figures := by
  obtain ⟨oc0, od0, kV0, doc0, pm0, an0, cdv0, ct0, osl0, lk0, cd0, kp0, bd0⟩ := T.l_told
  exact fnD_C T.e_sum_of_figures sc_sum_of_figures T.g_sum_of_figures rfl rfl fun A outer s H E hr =>
    (dss_one (ds_ret (de_sum (k := 0) (own := [("sign", 2)]) (hr.mono (by decide)) rfl T.b_sum T.tb_sum_of_figures rfl tm_sum_of_figures (tu_sum_of_figures T) sc_sum_of_figures.nd (DI.e (di_str (de_call (k_pennants T) (hr.mono (by decide)) takes_cxD (da_cons (de_var 0) (da_cons (de_var 1) da_nil))))) (blkOk_by (N := ["number", "base", "sign"]) (sc := defScope s_sum_of_figures) (by decide +kernel)) (genOk_by (by decide +kernel)) (fun _ _ _ _ _ _ _ hrg => (dg_name 2 sc_sum_of_figures.nd)) (fun _ _ _ _ _ _ _ hrg => dts_nil) (fun _ _ _ _ _ _ _ hrg => (de_bm (bm_sindex) rfl (DE.p (de_gl T.v_FIGURES)) (dap_cons (DE.p (de_var 2)) dap_nil))) (by decide))))
def F_turned_number : LE → R Out :=
    (seqS (setK 2 (valK (bmE "str" lstripD (bmE "str" joinD (cst (.str [])) (acons (lE (revE (callE D_pennants (acons (var 0) (acons (var 1) anil))))) anil)) (acons (cst (.str [48])) anil))))
    (retS (iteE (cmpT eqD (var 2) (cst (.str []))) (cst (.int 0)) (callE D_read_pennants (acons (var 2) (acons (var 1) anil))))))
def D_turned_number : List D → R D := runF 2 3 F_turned_number
theorem k_turned_number (T : Txt w K mg base a) : FnD P w K mg base (gm K w a) 3 "turned_number" a.f_turned_number 2 D_turned_number := by
  exact fnD_E T.e_turned_number sc_turned_number T.g_turned_number rfl rfl fun cdv A outer s H E hr =>
    (dss_cons (ds_set 2 (DE.k (de_bm (bm_lstrip) rfl (DE.p (de_bm (bm_join rfl) rfl (DE.p (de_str [])) (dap_cons (DE.p (DF.e (df_listRevS rfl rfl T.b_list rfl T.b_reversed (de_call (k_pennants T) (hr.mono (by decide)) takes_cxD (da_cons (de_var 0) (da_cons (de_var 1) da_nil)))))) dap_nil))) (dap_cons (DE.p (de_str [48])) dap_nil))) (by decide) sc_turned_number.nd)
    (dss_one (ds_ret (de_if (dt_cmp (op_eq_d rfl (huD64 hr)) (DE.p (de_var 2)) (DE.p (de_str []))) de_int (de_call (k_read_pennants T) (hr.mono (by decide)) takes_cxD (da_cons (de_var 2) (da_cons (de_var 1) da_nil)))))))
def F_by_substitutes : LE → R Out :=
    (seqS (setK 1 (valK (cst (.str []))))
    (seqS (forS (enumTE 0 (acons (var 0) anil)) (gTup_ 2 (gCons_ (gN 2) (gCons_ (gN 3) gNil_)))
    (seqS (setK 4 (valK (bmE "str" sidxD (var 0) (acons (var 3) anil))))
    (ifS (cmpT eqD (var 4) (var 2))
    (setK 1 (valK (opE iaddD (var 1) (var 3))))
    (seqS (ifS (orT (cmpT gtD (var 4) (cst (.int 2))) (cmpT inD (subE (cst (.str [120, 121, 122])) (var 4)) (var 1)))
    (errS ⟨2, .non⟩)
    skipS)
    (setK 1 (valK (opE iaddD (var 1) (subE (cst (.str [120, 121, 122])) (var 4)))))))))
    (retS (var 1))))
def D_by_substitutes : List D → R D := runF 1 5 F_by_substitutes
theorem k_by_substitutes (T : Txt w K mg base a) : FnD P w K mg base (gm K w a) 1 "by_substitutes" a.f_by_substitutes 1 D_by_substitutes := by
  exact fnD_E T.e_by_substitutes sc_by_substitutes T.g_by_substitutes rfl rfl fun cdv A outer s H E hr =>
    (dss_cons (ds_set 1 (DE.k (de_str [])) (by decide) sc_by_substitutes.nd)
    (dss_cons (ds_for owns_cxD rfl (di_enumT rfl T.b_enumerate (da_cons (de_var 0) da_nil)) (dg_tup rfl rfl (dgs_cons (dg_name 2 sc_by_substitutes.nd) (dgs_cons (dg_name 3 sc_by_substitutes.nd) dgs_nil)))
    (dss_cons (ds_set 4 (DE.k (de_bm (bm_sindex) rfl (DE.p (de_var 0)) (dap_cons (DE.p (de_var 3)) dap_nil))) (by decide) sc_by_substitutes.nd)
    (dss_one (ds_if (dt_cmp (op_eq_d rfl (huD64 hr)) (DE.p (de_var 4)) (DE.p (de_var 2)))
    (dss_one (ds_aug 1 oi_add sc_by_substitutes.nd (de_var 3)))
    (dss_cons (ds_if (dt_w (dw_or (dt_cmp (op_gt_d) (DE.p (de_var 4)) (DE.p de_int)) (dw_or1 (dt_cmp (op_in_d rfl (huD hr)) (DE.p (de_sub rfl rfl (huD hr) (DE.p (de_str [120, 121, 122])) (DE.p (de_var 4)) fun _ _ => rfl)) (DE.p (de_var 1))))))
    (dss_one (ds_raise 2 takes_cxD rfl PySem.F.excBase_ValueError rfl rfl T.x_BadHoist.1 T.x_BadHoist.2.1 T.x_BadHoist.2.2.1 (raises_own T.x_BadHoist.2.2.2.1 T.x_BadHoist.2.2.2.2)))
    dss_nil)
    (dss_one (ds_aug 1 oi_add sc_by_substitutes.nd (de_sub rfl rfl (huD hr) (DE.p (de_str [120, 121, 122])) (DE.p (de_var 4)) fun _ _ => rfl))))))))
    (dss_one (ds_ret (de_var 1)))))
def F_without_substitutes : LE → R Out :=
    (seqS (setK 1 (valK (cst (.str []))))
    (seqS (forS (enumTE 0 (acons (var 0) anil)) (gTup_ 2 (gCons_ (gN 2) (gCons_ (gN 3) gNil_)))
    (ifS (cmpT inD (var 3) (cst (.str [120, 121, 122])))
    (seqS (setK 4 (valK (bmE "str" sidxD (cst (.str [120, 121, 122])) (acons (var 3) anil))))
    (seqS (ifS (cmpT geD (var 4) (var 2))
    (errS ⟨2, .non⟩)
    skipS)
    (setK 1 (valK (opE iaddD (var 1) (subE (var 1) (var 4)))))))
    (ifS (andT (cmpT inD (var 3) (cst d_FIGURES)) (cmpT notInD (var 3) (sliceE (var 0) noP (someP (var 2)))))
    (setK 1 (valK (opE iaddD (var 1) (var 3))))
    (errS ⟨2, .non⟩))))
    (retS (var 1))))
def D_without_substitutes : List D → R D := runF 1 5 F_without_substitutes
theorem k_without_substitutes (T : Txt w K mg base a) : FnD P w K mg base (gm K w a) 1 "without_substitutes" a.f_without_substitutes 1 D_without_substitutes := by
  exact fnD_E T.e_without_substitutes sc_without_substitutes T.g_without_substitutes rfl rfl fun cdv A outer s H E hr =>
    (dss_cons (ds_set 1 (DE.k (de_str [])) (by decide) sc_without_substitutes.nd)
    (dss_cons (ds_for owns_cxD rfl (di_enumT rfl T.b_enumerate (da_cons (de_var 0) da_nil)) (dg_tup rfl rfl (dgs_cons (dg_name 2 sc_without_substitutes.nd) (dgs_cons (dg_name 3 sc_without_substitutes.nd) dgs_nil)))
    (dss_one (ds_if (dt_cmp (op_in_d rfl (huD hr)) (DE.p (de_var 3)) (DE.p (de_str [120, 121, 122])))
    (dss_cons (ds_set 4 (DE.k (de_bm (bm_sindex) rfl (DE.p (de_str [120, 121, 122])) (dap_cons (DE.p (de_var 3)) dap_nil))) (by decide) sc_without_substitutes.nd)
    (dss_cons (ds_if (dt_cmp (op_ge_d) (DE.p (de_var 4)) (DE.p (de_var 2)))
    (dss_one (ds_raise 2 takes_cxD rfl PySem.F.excBase_ValueError rfl rfl T.x_BadHoist.1 T.x_BadHoist.2.1 T.x_BadHoist.2.2.1 (raises_own T.x_BadHoist.2.2.2.1 T.x_BadHoist.2.2.2.2)))
    dss_nil)
    (dss_one (ds_aug 1 oi_add sc_without_substitutes.nd (de_sub rfl rfl (huD hr) (DE.p (de_var 1)) (DE.p (de_var 4)) fun _ _ => rfl)))))
    (dss_one (ds_if (dt_w (dw_and (dt_cmp (op_in_d rfl (huD hr)) (DE.p (de_var 3)) (DE.p (de_gl T.v_FIGURES))) (dw_and1 (dt_cmp (op_notin_d rfl (huD hr)) (DE.p (de_var 3)) (DE.p (de_slice rfl (DE.p (de_var 0)) do_none (do_some (DE.p (de_var 2)))))))))
    (dss_one (ds_aug 1 oi_add sc_without_substitutes.nd (de_var 3)))
    (dss_one (ds_raise 2 takes_cxD rfl PySem.F.excBase_ValueError rfl rfl T.x_BadHoist.1 T.x_BadHoist.2.1 T.x_BadHoist.2.2.1 (raises_own T.x_BadHoist.2.2.2.1 T.x_BadHoist.2.2.2.2))))))))
    (dss_one (ds_ret (de_var 1)))))
def F_check_flag : LE → R Out :=
    (seqS (setK 1 (valK (sumE (enumRE (var 0)) (gTup_ 2 (gCons_ (gN 2) (gCons_ (gN 3) gNil_))) yesT (opE mulD (opE addD (var 2) (cst (.int 2))) (bmE "str" sidxD (cst d_FIGURES) (acons (var 3) anil))) [2, 3])))
    (retS (subE (cst (.str [48, 49, 50, 51, 52, 53, 54, 55, 56, 57, 120])) (opE modD (opE subD (cst (.int 0)) (var 1)) (cst (.int 11))))))
def D_check_flag : List D → R D := runF 1 4 F_check_flag
theorem k_check_flag (T : Txt w K mg base a) : FnD P w K mg base (gm K w a) 2 "check_flag" a.f_check_flag 1 D_check_flag := by
  obtain ⟨oc0, od0, kV0, doc0, pm0, an0, cdv0, ct0, osl0, lk0, cd0, kp0, bd0⟩ := T.l_told
  exact fnD_C T.e_check_flag sc_check_flag T.g_check_flag rfl rfl fun A outer s H E hr =>
    (dss_cons (ds_set 1 (DE.k (de_sum (k := 0) (own := [("k", 2), ("sign", 3)]) (hr.mono (by decide)) rfl T.b_sum T.tb_check_flag rfl tm_check_flag (tu_check_flag T) sc_check_flag.nd (DI.e (di_enumR rfl T.b_enumerate rfl T.b_reversed (de_var 0))) (blkOk_by (N := ["text", "whole", "k", "sign"]) (sc := defScope s_check_flag) (by decide +kernel)) (genOk_by (by decide +kernel)) (fun _ _ _ _ _ _ _ hrg => (dg_tup rfl rfl (dgs_cons (dg_name 2 sc_check_flag.nd) (dgs_cons (dg_name 3 sc_check_flag.nd) dgs_nil)))) (fun _ _ _ _ _ _ _ hrg => dts_nil) (fun _ _ _ _ _ _ _ hrg => (de_op (op_mul_d) (DE.p (de_op (op_add_d rfl) (DE.p (de_var 2)) (DE.p de_int))) (DE.p (de_bm (bm_sindex) rfl (DE.p (de_gl T.v_FIGURES)) (dap_cons (DE.p (de_var 3)) dap_nil))))) (by decide))) (by decide) sc_check_flag.nd)
    (dss_one (ds_ret (de_sub rfl rfl (huD hr) (DE.p (de_str [48, 49, 50, 51, 52, 53, 54, 55, 56, 57, 120])) (DE.p (de_op (op_mod_d) (DE.p (de_op (op_sub_d) (DE.p de_int) (DE.p (de_var 1)))) (DE.p de_int))) fun _ _ => rfl))))
def F_with_check : LE → R Out :=
    (seqS (ifS (orT (notT (chainT (cst (.int 1)) (callE lenX (acons (var 0) anil)) (cst (.int 9)) leD leD)) (valT (anyE true (itS (var 0)) (gN 1) yesT (opE notInD (var 1) (cst d_FIGURES)) [1])))
    (errS ⟨2, .non⟩)
    skipS)
    (retS (opE addD (var 0) (callE D_check_flag (acons (var 0) anil)))))
def D_with_check : List D → R D := runF 1 2 F_with_check
theorem k_with_check (T : Txt w K mg base a) : FnD P w K mg base (gm K w a) 3 "with_check" a.f_with_check 1 D_with_check := by
  obtain ⟨oc0, od0, kV0, doc0, pm0, an0, cdv0, ct0, osl0, lk0, cd0, kp0, bd0⟩ := T.l_told
  exact fnD_C T.e_with_check sc_with_check T.g_with_check rfl rfl fun A outer s H E hr =>
    (dss_cons (ds_if (dt_w (dw_or (dt_not (dt_chain (op_le_d) (op_le_d) (DE.p de_int) (DE.p (de_callB (cd_lenX rfl) T.b_len rfl (dap_cons (DE.p (de_var 0)) dap_nil))) (DE.p de_int))) (dw_or1 (dt_val (de_any (k := 0) (own := [("sign", 1)]) (hr.mono (by decide)) rfl T.b_any T.tb_with_check rfl tm_with_check (tu_with_check T) sc_with_check.nd (DI.e (di_str (de_var 0))) (blkOk_by (N := ["text", "sign"]) (sc := defScope s_with_check) (by decide +kernel)) (genOk_by (by decide +kernel)) (fun _ _ _ _ _ _ _ hrg => (dg_name 1 sc_with_check.nd)) (fun _ _ _ _ _ _ _ hrg => dts_nil) (fun _ _ _ _ _ _ _ hrg => (de_cmp (op_notin_d rfl (huD hrg)) (DE.p (de_var 1)) (DE.p (de_gl T.v_FIGURES)))) (by decide))))))
    (dss_one (ds_raise 2 takes_cxD rfl PySem.F.excBase_ValueError rfl rfl T.x_BadHoist.1 T.x_BadHoist.2.1 T.x_BadHoist.2.2.1 (raises_own T.x_BadHoist.2.2.2.1 T.x_BadHoist.2.2.2.2)))
    dss_nil)
    (dss_one (ds_ret (de_op (op_add_d rfl) (DE.p (de_var 0)) (DE.p (de_call (k_check_flag T) (hr.mono (by decide)) takes_cxD (da_cons (de_var 0) da_nil)))))))
def F_law_sum : LE → R Out :=
    (seqS (setK 1 (valK (callE lenX (acons (var 0) anil))))
    (retS (callE sumD (acons (lE (compF (rng1E (acons (var 1) anil)) (gN 2) yesT (opE mulD (opE subD (var 1) (var 2)) (bmE "str" sidxD (cst (.str [48, 49, 50, 51, 52, 53, 54, 55, 56, 57, 120])) (acons (subE (var 0) (var 2)) anil))) [2])) anil))))
def D_law_sum : List D → R D := runF 1 3 F_law_sum
theorem k_law_sum (T : Txt w K mg base a) : FnD P w K mg base (gm K w a) 1 "_law_sum" a.f_law_sum 1 D_law_sum := by
  exact fnD_E T.e_law_sum sc_law_sum T.g_law_sum rfl rfl fun cdv A outer s H E hr =>
    (dss_cons (ds_set 1 (DE.k (de_callB (cd_lenX rfl) T.b_len rfl (dap_cons (DE.p (de_var 0)) dap_nil))) (by decide) sc_law_sum.nd)
    (dss_one (ds_ret (de_callB (cd_sum rfl rfl) T.b_sum rfl (dap_cons (DE.p (DF.e (df_comp (own := [("k", 2)]) rfl sc_law_sum.nd (DI.e (di_rng1 rfl T.b_range (da_cons (de_var 1) da_nil))) (blkOk_by (N := ["text", "size", "k"]) (sc := defScope s_law_sum) (by decide +kernel)) (fun _ _ _ _ _ => (dg_name 2 sc_law_sum.nd)) (fun _ _ _ _ _ => dts_nil) (fun _ _ _ _ _ => (de_op (op_mul_d) (DE.p (de_op (op_sub_d) (DE.p (de_var 1)) (DE.p (de_var 2)))) (DE.p (de_bm (bm_sindex) rfl (DE.p (de_str [48, 49, 50, 51, 52, 53, 54, 55, 56, 57, 120])) (dap_cons (DE.p (de_sub rfl rfl (huD hr) (DE.p (de_var 0)) (DE.p (de_var 2)) fun _ _ => rfl)) dap_nil))))) (by decide)))) dap_nil)))))
def F_is_checked : LE → R Out :=
    (retS (andV (opE gtD (callE lenX (acons (var 0) anil)) (cst (.int 1))) (andV (anyE false (itS (sliceE (var 0) noP (someP (negE (cst (.int 1)))))) (gN 1) yesT (opE inD (var 1) (cst d_FIGURES)) [1]) (opE eqD (callE D_check_flag (acons (sliceE (var 0) noP (someP (negE (cst (.int 1))))) anil)) (subE (var 0) (negE (cst (.int 1))))))))
def D_is_checked : List D → R D := runF 1 2 F_is_checked
theorem k_is_checked (T : Txt w K mg base a) : FnD P w K mg base (gm K w a) 3 "is_checked" a.f_is_checked 1 D_is_checked := by
  obtain ⟨oc0, od0, kV0, doc0, pm0, an0, cdv0, ct0, osl0, lk0, cd0, kp0, bd0⟩ := T.l_told
  exact fnD_C T.e_is_checked sc_is_checked T.g_is_checked rfl rfl fun A outer s H E hr =>
    (dss_one (ds_ret (de_and (de_cmp (op_gt_d) (DE.p (de_callB (cd_lenX rfl) T.b_len rfl (dap_cons (DE.p (de_var 0)) dap_nil))) (DE.p de_int)) (de_and (de_all (k := 0) (own := [("sign", 1)]) (hr.mono (by decide)) rfl T.b_all T.tb_is_checked rfl tm_is_checked (tu_is_checked T) sc_is_checked.nd (DI.e (di_str (de_slice rfl (DE.p (de_var 0)) do_none (do_some (DE.p (de_neg (DE.p de_int))))))) (blkOk_by (N := ["text", "sign"]) (sc := defScope s_is_checked) (by decide +kernel)) (genOk_by (by decide +kernel)) (fun _ _ _ _ _ _ _ hrg => (dg_name 1 sc_is_checked.nd)) (fun _ _ _ _ _ _ _ hrg => dts_nil) (fun _ _ _ _ _ _ _ hrg => (de_cmp (op_in_d rfl (huD hrg)) (DE.p (de_var 1)) (DE.p (de_gl T.v_FIGURES)))) (by decide)) (de_one (de_cmp (op_eq_d rfl (huD64 hr)) (DE.p (de_call (k_check_flag T) (hr.mono (by decide)) takes_cxD (da_cons (de_slice rfl (DE.p (de_var 0)) do_none (do_some (DE.p (de_neg (DE.p de_int))))) da_nil))) (DE.p (de_sub rfl rfl (huD hr) (DE.p (de_var 0)) (DE.p (de_neg (DE.p de_int))) fun _ _ => rfl))))))))
def F_exchanged : LE → R Out :=
    (seqS (ifS (notT (chainT (cst (.int 0)) (var 1) (opE subD (callE lenX (acons (var 0) anil)) (cst (.int 1))) leD ltD))
    (errS ⟨2, .non⟩)
    skipS)
    (retS (opE addD (opE addD (opE addD (sliceE (var 0) noP (someP (var 1))) (subE (var 0) (opE addD (var 1) (cst (.int 1))))) (subE (var 0) (var 1))) (sliceE (var 0) (someP (opE addD (var 1) (cst (.int 2)))) noP))))
def D_exchanged : List D → R D := runF 2 2 F_exchanged
theorem k_exchanged (T : Txt w K mg base a) : FnD P w K mg base (gm K w a) 1 "exchanged" a.f_exchanged 2 D_exchanged := by
  exact fnD_E T.e_exchanged sc_exchanged T.g_exchanged rfl rfl fun cdv A outer s H E hr =>
    (dss_cons (ds_if (dt_not (dt_chain (op_le_d) (op_lt_d) (DE.p de_int) (DE.p (de_var 1)) (DE.p (de_op (op_sub_d) (DE.p (de_callB (cd_lenX rfl) T.b_len rfl (dap_cons (DE.p (de_var 0)) dap_nil))) (DE.p de_int)))))
    (dss_one (ds_raise 2 takes_cxD rfl PySem.F.excBase_ValueError rfl rfl T.x_BadHoist.1 T.x_BadHoist.2.1 T.x_BadHoist.2.2.1 (raises_own T.x_BadHoist.2.2.2.1 T.x_BadHoist.2.2.2.2)))
    dss_nil)
    (dss_one (ds_ret (de_op (op_add_d rfl) (DE.p (de_op (op_add_d rfl) (DE.p (de_op (op_add_d rfl) (DE.p (de_slice rfl (DE.p (de_var 0)) do_none (do_some (DE.p (de_var 1))))) (DE.p (de_sub rfl rfl (huD hr) (DE.p (de_var 0)) (DE.p (de_op (op_add_d rfl) (DE.p (de_var 1)) (DE.p de_int))) fun _ _ => rfl)))) (DE.p (de_sub rfl rfl (huD hr) (DE.p (de_var 0)) (DE.p (de_var 1)) fun _ _ => rfl)))) (DE.p (de_slice rfl (DE.p (de_var 0)) (do_some (DE.p (de_op (op_add_d rfl) (DE.p (de_var 1)) (DE.p de_int)))) do_none))))))
def F_hidden_figure : LE → R Out :=
    (seqS (ifS (orT (cmpT neD (bmE "str" countD (var 0) (acons (cst (.str [63])) anil)) (cst (.int 1))) (cmpT ltD (callE lenX (acons (var 0) anil)) (cst (.int 2))))
    (errS ⟨2, .non⟩)
    skipS)
    (seqS (setK 1 (valK (bmE "str" sidxD (var 0) (acons (cst (.str [63])) anil))))
    (seqS (setK 2 (valK (iteE (cmpT eqD (var 1) (opE subD (callE lenX (acons (var 0) anil)) (cst (.int 1)))) (cst (.str [48, 49, 50, 51, 52, 53, 54, 55, 56, 57, 120])) (cst d_FIGURES))))
    (seqS (setK 3 (ownK (compF (itS (var 2)) (gN 4) yesT (opE addD (opE addD (sliceE (var 0) noP (someP (var 1))) (var 4)) (sliceE (var 0) (someP (opE addD (var 1) (cst (.int 1)))) noP)) [4])))
    (seqS (setK 5 (ownK (compF (itL (varP 3)) (gN 6) (valT (callE D_is_checked (acons (var 6) anil))) (var 6) [6])))
    (seqS (ifS (cmpT neD (callE lenX (acons (varP 5) anil)) (cst (.int 1)))
    (errS ⟨2, .non⟩)
    skipS)
    (retS (subE (varP 5) (cst (.int 0))))))))))
def D_hidden_figure : List D → R D := runF 1 7 F_hidden_figure
theorem k_hidden_figure (T : Txt w K mg base a) : FnD P w K mg base (gm K w a) 4 "hidden_figure" a.f_hidden_figure 1 D_hidden_figure := by
  exact fnD_E T.e_hidden_figure sc_hidden_figure T.g_hidden_figure rfl rfl fun cdv A outer s H E hr =>
    (dss_cons (ds_if (dt_w (dw_or (dt_cmp (op_ne_d rfl (huD64 hr)) (DE.p (de_bm (bm_count) rfl (DE.p (de_var 0)) (dap_cons (DE.p (de_str [63])) dap_nil))) (DE.p de_int)) (dw_or1 (dt_cmp (op_lt_d) (DE.p (de_callB (cd_lenX rfl) T.b_len rfl (dap_cons (DE.p (de_var 0)) dap_nil))) (DE.p de_int)))))
    (dss_one (ds_raise 2 takes_cxD rfl PySem.F.excBase_ValueError rfl rfl T.x_BadHoist.1 T.x_BadHoist.2.1 T.x_BadHoist.2.2.1 (raises_own T.x_BadHoist.2.2.2.1 T.x_BadHoist.2.2.2.2)))
    dss_nil)
    (dss_cons (ds_set 1 (DE.k (de_bm (bm_sindex) rfl (DE.p (de_var 0)) (dap_cons (DE.p (de_str [63])) dap_nil))) (by decide) sc_hidden_figure.nd)
    (dss_cons (ds_set 2 (DE.k (de_if (dt_cmp (op_eq_d rfl (huD64 hr)) (DE.p (de_var 1)) (DE.p (de_op (op_sub_d) (DE.p (de_callB (cd_lenX rfl) T.b_len rfl (dap_cons (DE.p (de_var 0)) dap_nil))) (DE.p de_int)))) (de_str [48, 49, 50, 51, 52, 53, 54, 55, 56, 57, 120]) (de_gl T.v_FIGURES))) (by decide) sc_hidden_figure.nd)
    (dss_cons (ds_setcomp 3 (own := [("sign", 4)]) rfl sc_hidden_figure.nd (DI.e (di_str (de_var 2))) (blkOk_by (N := ["text", "place", "signs", "found", "sign", "good", "row"]) (sc := defScope s_hidden_figure) (by decide +kernel)) (fun _ _ _ _ _ => (dg_name 4 sc_hidden_figure.nd)) (fun _ _ _ _ _ => dts_nil) (fun _ _ _ _ _ => (de_op (op_add_d rfl) (DE.p (de_op (op_add_d rfl) (DE.p (de_slice rfl (DE.p (de_var 0)) do_none (do_some (DE.p (de_var 1))))) (DE.p (de_var 4)))) (DE.p (de_slice rfl (DE.p (de_var 0)) (do_some (DE.p (de_op (op_add_d rfl) (DE.p (de_var 1)) (DE.p de_int)))) do_none)))) (by decide) (by decide) (sw_true rfl rfl rfl (by decide +kernel)))
    (dss_cons (ds_setcomp 5 (own := [("row", 6)]) rfl sc_hidden_figure.nd (die_list rfl (dp_var 3)) (blkOk_by (N := ["text", "place", "signs", "found", "sign", "good", "row"]) (sc := defScope s_hidden_figure) (by decide +kernel)) (fun _ _ _ _ _ => (dg_name 6 sc_hidden_figure.nd)) (fun _ _ _ _ _ => (dts_one (dt_val (de_call (k_is_checked T) (hr.mono (by decide)) takes0D (da_cons (de_var 6) da_nil))))) (fun _ _ _ _ _ => (de_var 6)) (by decide) (by decide) (sw_true rfl rfl rfl (by decide +kernel)))
    (dss_cons (ds_if (dt_cmp (op_ne_d rfl (huD64 hr)) (DE.p (de_callB (cd_lenX rfl) T.b_len rfl (dap_cons (dp_var 5) dap_nil))) (DE.p de_int))
    (dss_one (ds_raise 2 takes_cxD rfl PySem.F.excBase_ValueError rfl rfl T.x_BadHoist.1 T.x_BadHoist.2.1 T.x_BadHoist.2.2.1 (raises_own T.x_BadHoist.2.2.2.1 T.x_BadHoist.2.2.2.2)))
    dss_nil)
    (dss_one (ds_ret (de_sub rfl rfl (huD hr) (dp_var 5) (DE.p de_int) fun _ _ => rfl)))))))))
def F_ups_and_downs : LE → R Out :=
    (retS (bmE "str" joinD (cst (.str [])) (acons (lE (compF (rng2E (acons (cst (.int 1)) (acons (callE lenX (acons (var 0) anil)) anil))) (gN 1) yesT (iteE (cmpT gtD (subE (var 0) (var 1)) (subE (var 0) (opE subD (var 1) (cst (.int 1))))) (cst (.str [117])) (iteE (cmpT ltD (subE (var 0) (var 1)) (subE (var 0) (opE subD (var 1) (cst (.int 1))))) (cst (.str [100])) (cst (.str [115])))) [1])) anil)))
def D_ups_and_downs : List D → R D := runF 1 2 F_ups_and_downs
theorem k_ups_and_downs (T : Txt w K mg base a) : FnD P w K mg base (gm K w a) 1 "ups_and_downs" a.f_ups_and_downs 1 D_ups_and_downs := by
  exact fnD_E T.e_ups_and_downs sc_ups_and_downs T.g_ups_and_downs rfl rfl fun cdv A outer s H E hr =>
    (dss_one (ds_ret (de_bm (bm_join rfl) rfl (DE.p (de_str [])) (dap_cons (DE.p (DF.e (df_comp (own := [("k", 1)]) rfl sc_ups_and_downs.nd (DI.e (di_rng2 rfl T.b_range (da_cons de_int (da_cons (de_callB (cd_lenX rfl) T.b_len rfl (dap_cons (DE.p (de_var 0)) dap_nil)) da_nil)))) (blkOk_by (N := ["numbers", "k"]) (sc := defScope s_ups_and_downs) (by decide +kernel)) (fun _ _ _ _ _ => (dg_name 1 sc_ups_and_downs.nd)) (fun _ _ _ _ _ => dts_nil) (fun _ _ _ _ _ => (de_if (dt_cmp (op_gt_d) (DE.p (de_sub rfl rfl (huD hr) (DE.p (de_var 0)) (DE.p (de_var 1)) fun _ _ => rfl)) (DE.p (de_sub rfl rfl (huD hr) (DE.p (de_var 0)) (DE.p (de_op (op_sub_d) (DE.p (de_var 1)) (DE.p de_int))) fun _ _ => rfl))) (de_str [117]) (de_if (dt_cmp (op_lt_d) (DE.p (de_sub rfl rfl (huD hr) (DE.p (de_var 0)) (DE.p (de_var 1)) fun _ _ => rfl)) (DE.p (de_sub rfl rfl (huD hr) (DE.p (de_var 0)) (DE.p (de_op (op_sub_d) (DE.p (de_var 1)) (DE.p de_int))) fun _ _ => rfl))) (de_str [100]) (de_str [115])))) (by decide)))) dap_nil))))
def F_fewest_pennants : LE → R Out :=
    (seqS (ifS (cmpT ltD (var 0) (cst (.int 1)))
    (errS ⟨3, .non⟩)
    skipS)
    (seqS (setK 1 (ownK (compF (rng2E (acons (cst (.int 2)) (acons (cst (.int 11)) anil))) (gN 2) yesT (tupE (acons (opE mulD (var 2) (callE lenX (acons (callE D_pennants (acons (var 0) (acons (var 2) anil))) anil))) (acons (var 2) anil))) [2])))
    (retS (subE (callE minL (acons (varP 1) anil)) (cst (.int 1))))))
def D_fewest_pennants : List D → R D := runF 1 3 F_fewest_pennants
theorem k_fewest_pennants (T : Txt w K mg base a) : FnD P w K mg base (gm K w a) 2 "fewest_pennants" a.f_fewest_pennants 1 D_fewest_pennants := by
  exact fnD_E T.e_fewest_pennants sc_fewest_pennants T.g_fewest_pennants rfl rfl fun cdv A outer s H E hr =>
    (dss_cons (ds_if (dt_cmp (op_lt_d) (DE.p (de_var 0)) (DE.p de_int))
    (dss_one (ds_raise 3 takes_cxD rfl PySem.F.excBase_ValueError rfl rfl T.x_BadBook.1 T.x_BadBook.2.1 T.x_BadBook.2.2.1 (raises_own T.x_BadBook.2.2.2.1 T.x_BadBook.2.2.2.2)))
    dss_nil)
    (dss_cons (ds_setcomp 1 (own := [("base", 2)]) rfl sc_fewest_pennants.nd (DI.e (di_rng2 rfl T.b_range (da_cons de_int (da_cons de_int da_nil)))) (blkOk_by (N := ["most", "found", "base"]) (sc := defScope s_fewest_pennants) (by decide +kernel)) (fun _ _ _ _ _ => (dg_name 2 sc_fewest_pennants.nd)) (fun _ _ _ _ _ => dts_nil) (fun _ _ _ _ _ => (de_tup (da_cons (de_op (op_mul_d) (DE.p (de_var 2)) (DE.p (de_callB (cd_lenX rfl) T.b_len rfl (dap_cons (DE.p (de_call (k_pennants T) (hr.mono (by decide)) takes0D (da_cons (de_var 0) (da_cons (de_var 2) da_nil)))) dap_nil)))) (da_cons (de_var 2) da_nil)))) (by decide) (by decide) (sw_true rfl rfl rfl (by decide +kernel)))
    (dss_one (ds_ret (de_sub rfl rfl (huD hr) (DE.p (de_callB (cd_min rfl rfl (huD hr)) T.b_min rfl (dap_cons (dp_var 1) dap_nil))) (DE.p de_int) fun _ _ => rfl)))))
def F_law_cases1 : LE → R Out :=
    (seqS (ifS (cmpT neD (toldE toldL (callE D_read_pennants (acons (cst (.str [50])) (acons (cst (.int 2)) anil)))) (cst (.str [104, 111, 105, 115, 116])))
    (retS (cst (.bl false)))
    skipS)
    (seqS (ifS (cmpT neD (toldE toldL (callE D_pennants (acons (cst (.int 1)) (acons (cst (.int 1)) anil)))) (cst (.str [98, 111, 111, 107])))
    (retS (cst (.bl false)))
    skipS)
    (seqS (ifS (cmpT neD (toldE toldL (callE D_without_substitutes (acons (cst (.str [120])) anil))) (cst (.str [104, 111, 105, 115, 116])))
    (retS (cst (.bl false)))
    skipS)
    (seqS (ifS (cmpT neD (toldE toldL (callE D_without_substitutes (acons (cst (.str [49, 49])) anil))) (cst (.str [104, 111, 105, 115, 116])))
    (retS (cst (.bl false)))
    skipS)
    (seqS (ifS (cmpT neD (toldE toldL (callE D_with_check (acons (cst (.str [])) anil))) (cst (.str [104, 111, 105, 115, 116])))
    (retS (cst (.bl false)))
    skipS)
    (seqS (ifS (cmpT neD (toldE toldL (callE D_with_check (acons (opE mulXD (cst (.str [49])) (cst (.int 10))) anil))) (cst (.str [104, 111, 105, 115, 116])))
    (retS (cst (.bl false)))
    skipS)
    (seqS (ifS (cmpT neD (toldE toldL (callE D_hidden_figure (acons (cst (.str [49, 63, 50, 63])) anil))) (cst (.str [104, 111, 105, 115, 116])))
    (retS (cst (.bl false)))
    skipS)
    (seqS (ifS (cmpT neD (toldE toldL (callE D_exchanged (acons (cst (.str [49, 50])) (acons (cst (.int 1)) anil)))) (cst (.str [104, 111, 105, 115, 116])))
    (retS (cst (.bl false)))
    skipS)
    (seqS (ifS (cmpT neD (toldE toldL (callE D_fewest_pennants (acons (cst (.int 0)) anil))) (cst (.str [98, 111, 111, 107])))
    (retS (cst (.bl false)))
    skipS)
    (seqS (ifS (cmpT neD (toldE toldL (callE D_read_pennants (acons (cst (.str [49])) (acons (cst (.int 11)) anil)))) (cst (.str [98, 111, 111, 107])))
    (retS (cst (.bl false)))
    skipS)
    (retS (cst (.bl true)))))))))))))
def D_law_cases1 : List D → R D := runF 0 0 F_law_cases1
theorem k_law_cases1 (T : Txt w K mg base a) : FnD P w K mg base (gm K w a) 7 "_law_cases1" a.f_law_cases1 0 D_law_cases1 := by
  obtain ⟨oc0, od0, kV0, doc0, pm0, an0, cdv0, ct0, osl0, lk0, cd0, kp0, bd0⟩ := T.l_told
  exact fnD_C T.e_law_cases1 sc_law_cases1 T.g_law_cases1 rfl rfl fun A outer s H E hr =>
    (dss_cons (ds_if (dt_cmp (op_ne_d rfl (huD64 hr)) (DE.p (de_told (k := 2) (l := toldL) T.g_law_told kp0 lk0 cd0 bd0 sc_law_told rfl (Or.inl rfl) (gives_told T rfl rfl) T.exm T.tb_law_cases1 rfl tm_law_cases1 (tu_law_cases1 T) (hr.mono (by decide)) (lamS_by (sc := defScope s_law_cases1) (by decide +kernel)) (fun _ _ _ _ _ _ _ hr' => (de_call (k_read_pennants T) (hr'.mono (by decide)) takes_lam (da_cons (de_str [50]) (da_cons de_int da_nil)))))) (DE.p (de_str [104, 111, 105, 115, 116])))
    (dss_one (ds_ret de_bl))
    dss_nil)
    (dss_cons (ds_if (dt_cmp (op_ne_d rfl (huD64 hr)) (DE.p (de_told (k := 1) (l := toldL) T.g_law_told kp0 lk0 cd0 bd0 sc_law_told rfl (Or.inl rfl) (gives_told T rfl rfl) T.exm T.tb_law_cases1 rfl tm_law_cases1 (tu_law_cases1 T) (hr.mono (by decide)) (lamS_by (sc := defScope s_law_cases1) (by decide +kernel)) (fun _ _ _ _ _ _ _ hr' => (de_call (k_pennants T) (hr'.mono (by decide)) takes_lam (da_cons de_int (da_cons de_int da_nil)))))) (DE.p (de_str [98, 111, 111, 107])))
    (dss_one (ds_ret de_bl))
    dss_nil)
    (dss_cons (ds_if (dt_cmp (op_ne_d rfl (huD64 hr)) (DE.p (de_told (k := 1) (l := toldL) T.g_law_told kp0 lk0 cd0 bd0 sc_law_told rfl (Or.inl rfl) (gives_told T rfl rfl) T.exm T.tb_law_cases1 rfl tm_law_cases1 (tu_law_cases1 T) (hr.mono (by decide)) (lamS_by (sc := defScope s_law_cases1) (by decide +kernel)) (fun _ _ _ _ _ _ _ hr' => (de_call (k_without_substitutes T) (hr'.mono (by decide)) takes_lam (da_cons (de_str [120]) da_nil))))) (DE.p (de_str [104, 111, 105, 115, 116])))
    (dss_one (ds_ret de_bl))
    dss_nil)
    (dss_cons (ds_if (dt_cmp (op_ne_d rfl (huD64 hr)) (DE.p (de_told (k := 1) (l := toldL) T.g_law_told kp0 lk0 cd0 bd0 sc_law_told rfl (Or.inl rfl) (gives_told T rfl rfl) T.exm T.tb_law_cases1 rfl tm_law_cases1 (tu_law_cases1 T) (hr.mono (by decide)) (lamS_by (sc := defScope s_law_cases1) (by decide +kernel)) (fun _ _ _ _ _ _ _ hr' => (de_call (k_without_substitutes T) (hr'.mono (by decide)) takes_lam (da_cons (de_str [49, 49]) da_nil))))) (DE.p (de_str [104, 111, 105, 115, 116])))
    (dss_one (ds_ret de_bl))
    dss_nil)
    (dss_cons (ds_if (dt_cmp (op_ne_d rfl (huD64 hr)) (DE.p (de_told (k := 3) (l := toldL) T.g_law_told kp0 lk0 cd0 bd0 sc_law_told rfl (Or.inl rfl) (gives_told T rfl rfl) T.exm T.tb_law_cases1 rfl tm_law_cases1 (tu_law_cases1 T) (hr.mono (by decide)) (lamS_by (sc := defScope s_law_cases1) (by decide +kernel)) (fun _ _ _ _ _ _ _ hr' => (de_call (k_with_check T) (hr'.mono (by decide)) takes_lam (da_cons (de_str []) da_nil))))) (DE.p (de_str [104, 111, 105, 115, 116])))
    (dss_one (ds_ret de_bl))
    dss_nil)
    (dss_cons (ds_if (dt_cmp (op_ne_d rfl (huD64 hr)) (DE.p (de_told (k := 3) (l := toldL) T.g_law_told kp0 lk0 cd0 bd0 sc_law_told rfl (Or.inl rfl) (gives_told T rfl rfl) T.exm T.tb_law_cases1 rfl tm_law_cases1 (tu_law_cases1 T) (hr.mono (by decide)) (lamS_by (sc := defScope s_law_cases1) (by decide +kernel)) (fun _ _ _ _ _ _ _ hr' => (de_call (k_with_check T) (hr'.mono (by decide)) takes_lam (da_cons (de_op (op_mulX_d) (DE.p (de_str [49])) (DE.p de_int)) da_nil))))) (DE.p (de_str [104, 111, 105, 115, 116])))
    (dss_one (ds_ret de_bl))
    dss_nil)
    (dss_cons (ds_if (dt_cmp (op_ne_d rfl (huD64 hr)) (DE.p (de_told (k := 4) (l := toldL) T.g_law_told kp0 lk0 cd0 bd0 sc_law_told rfl (Or.inl rfl) (gives_told T rfl rfl) T.exm T.tb_law_cases1 rfl tm_law_cases1 (tu_law_cases1 T) (hr.mono (by decide)) (lamS_by (sc := defScope s_law_cases1) (by decide +kernel)) (fun _ _ _ _ _ _ _ hr' => (de_call (k_hidden_figure T) (hr'.mono (by decide)) takes_lam (da_cons (de_str [49, 63, 50, 63]) da_nil))))) (DE.p (de_str [104, 111, 105, 115, 116])))
    (dss_one (ds_ret de_bl))
    dss_nil)
    (dss_cons (ds_if (dt_cmp (op_ne_d rfl (huD64 hr)) (DE.p (de_told (k := 1) (l := toldL) T.g_law_told kp0 lk0 cd0 bd0 sc_law_told rfl (Or.inl rfl) (gives_told T rfl rfl) T.exm T.tb_law_cases1 rfl tm_law_cases1 (tu_law_cases1 T) (hr.mono (by decide)) (lamS_by (sc := defScope s_law_cases1) (by decide +kernel)) (fun _ _ _ _ _ _ _ hr' => (de_call (k_exchanged T) (hr'.mono (by decide)) takes_lam (da_cons (de_str [49, 50]) (da_cons de_int da_nil)))))) (DE.p (de_str [104, 111, 105, 115, 116])))
    (dss_one (ds_ret de_bl))
    dss_nil)
    (dss_cons (ds_if (dt_cmp (op_ne_d rfl (huD64 hr)) (DE.p (de_told (k := 2) (l := toldL) T.g_law_told kp0 lk0 cd0 bd0 sc_law_told rfl (Or.inl rfl) (gives_told T rfl rfl) T.exm T.tb_law_cases1 rfl tm_law_cases1 (tu_law_cases1 T) (hr.mono (by decide)) (lamS_by (sc := defScope s_law_cases1) (by decide +kernel)) (fun _ _ _ _ _ _ _ hr' => (de_call (k_fewest_pennants T) (hr'.mono (by decide)) takes_lam (da_cons de_int da_nil))))) (DE.p (de_str [98, 111, 111, 107])))
    (dss_one (ds_ret de_bl))
    dss_nil)
    (dss_cons (ds_if (dt_cmp (op_ne_d rfl (huD64 hr)) (DE.p (de_told (k := 2) (l := toldL) T.g_law_told kp0 lk0 cd0 bd0 sc_law_told rfl (Or.inl rfl) (gives_told T rfl rfl) T.exm T.tb_law_cases1 rfl tm_law_cases1 (tu_law_cases1 T) (hr.mono (by decide)) (lamS_by (sc := defScope s_law_cases1) (by decide +kernel)) (fun _ _ _ _ _ _ _ hr' => (de_call (k_read_pennants T) (hr'.mono (by decide)) takes_lam (da_cons (de_str [49]) (da_cons de_int da_nil)))))) (DE.p (de_str [98, 111, 111, 107])))
    (dss_one (ds_ret de_bl))
    dss_nil)
    (dss_one (ds_ret de_bl))))))))))))
def F_law_rest1 : LE → R Out :=
    (seqS (setK 1 (valK (bmE "str" joinD (cst (.str [])) (acons (lE (compF (rng1E (acons (opE addD (cst (.int 1)) (callE rollD (acons (var 0) (acons (cst (.int 9)) anil)))) anil)) (gN 2) yesT (subE (cst (.str [48, 49, 50, 51, 52, 53, 54, 55, 56, 57])) (callE rollD (acons (var 0) (acons (cst (.int 10)) anil)))) [2])) anil))))
    (seqS (setK 3 (valK (callE D_with_check (acons (var 1) anil))))
    (seqS (ifS (orT (cmpT neD (sliceE (var 3) noP (someP (callE lenX (acons (var 1) anil)))) (var 1)) (orT (cmpT neD (opE modD (callE D_law_sum (acons (var 3) anil)) (cst (.int 11))) (cst (.int 0))) (notT (valT (callE D_is_checked (acons (var 3) anil))))))
    (retS (cst (.bl false)))
    skipS)
    (seqS (ifS (cmpT neD (callE D_check_flag (acons (var 1) anil)) (subE (var 3) (callE lenX (acons (var 1) anil))))
    (retS (cst (.bl false)))
    skipS)
    (seqS (parK 4 5 (valK (callE rollD (acons (var 0) (acons (callE lenX (acons (var 1) anil)) anil)))) (valK (subE (cst (.str [48, 49, 50, 51, 52, 53, 54, 55, 56, 57])) (callE rollD (acons (var 0) (acons (cst (.int 10)) anil))))))
    (seqS (setK 6 (valK (opE addD (opE addD (sliceE (var 3) noP (someP (var 4))) (var 5)) (sliceE (var 3) (someP (opE addD (var 4) (cst (.int 1)))) noP))))
    (seqS (ifS (cmpT neD (callE D_is_checked (acons (var 6) anil)) (opE eqD (var 5) (subE (var 3) (var 4))))
    (retS (cst (.bl false)))
    skipS)
    (seqS (setK 7 (valK (callE rollD (acons (var 0) (acons (callE lenX (acons (var 1) anil)) anil)))))
    (seqS (setK 8 (valK (callE D_exchanged (acons (var 3) (acons (var 7) anil)))))
    (seqS (ifS (orT (cmpT neD (callE D_exchanged (acons (var 8) (acons (var 7) anil))) (var 3)) (andT (cmpT notInD (cst (.str [120])) (sliceE (var 8) noP (someP (callE lenX (acons (var 1) anil))))) (cmpT neD (callE D_is_checked (acons (var 8) anil)) (opE eqD (var 8) (var 3)))))
    (retS (cst (.bl false)))
    skipS)
    (seqS (setK 9 (valK (opE addD (opE addD (sliceE (var 3) noP (someP (var 4))) (cst (.str [63]))) (sliceE (var 3) (someP (opE addD (var 4) (cst (.int 1)))) noP))))
    (seqS (ifS (orT (cmpT neD (callE D_hidden_figure (acons (var 9) anil)) (var 3)) (cmpT neD (callE D_hidden_figure (acons (opE addD (var 1) (cst (.str [63]))) anil)) (var 3)))
    (retS (cst (.bl false)))
    skipS)
    (seqS (setK 10 (valK (lE (compF (rng1E (acons (callE rollD (acons (var 0) (acons (cst (.int 6)) anil))) anil)) (gN 2) yesT (callE rollD (acons (var 0) (acons (cst (.int 5)) anil))) [2]))))
    (seqS (setK 11 (ownK (compF (rng2E (acons (cst (.int 1)) (acons (callE lenX (acons (var 10) anil)) anil))) (gN 2) yesT (iteE (cmpT gtD (subE (var 10) (var 2)) (subE (var 10) (opE subD (var 2) (cst (.int 1))))) (cst (.str [117])) (iteE (cmpT ltD (subE (var 10) (var 2)) (subE (var 10) (opE subD (var 2) (cst (.int 1))))) (cst (.str [100])) (cst (.str [115])))) [2])))
    (seqS (ifS (cmpT neD (callE D_ups_and_downs (acons (var 10) anil)) (bmE "str" joinD (cst (.str [])) (acons (varP 11) anil)))
    (retS (cst (.bl false)))
    skipS)
    (seqS (setK 12 (valK (opE addD (cst (.int 1)) (callE rollD (acons (var 0) (acons (cst (.int 9999)) anil))))))
    (seqS (setK 13 (ownK (compF (rng2E (acons (cst (.int 2)) (acons (cst (.int 11)) anil))) (gN 14) yesT (opE mulD (callE lenX (acons (callE D_law_figures (acons (var 12) (acons (var 14) anil))) anil)) (var 14)) [14])))
    (seqS (ifS (cmpT neD (callE D_fewest_pennants (acons (var 12) anil)) (opE addD (cst (.int 2)) (bmE "list" idxLs (varP 13) (acons (callE minL (acons (varP 13) anil)) anil))))
    (retS (cst (.bl false)))
    skipS)
    (seqS (forS (itL (lE (lstE (acons (cst (.str [])) (acons (cst (.str [48, 49])) (acons (cst (.str [57, 120])) anil)))))) (gN 15)
    (ifS (cmpT neD (toldE toldL (callE D_read_pennants (acons (var 15) (acons (cst (.int 10)) anil)))) (cst (.str [104, 111, 105, 115, 116])))
    (retS (cst (.bl false)))
    skipS))
    (seqS (ifS (notT (valT (fun _ => D_law_cases1 [])))
    (retS (cst (.bl false)))
    skipS)
    (retS (cst (.bl true)))))))))))))))))))))))
def D_law_rest1 : List D → R D := runF 1 16 F_law_rest1
theorem k_law_rest1 (T : Txt w K mg base a) : FnD P w K mg base (gm K w a) 8 "_law_rest1" a.f_law_rest1 1 D_law_rest1 := by
  obtain ⟨oc0, od0, kV0, doc0, pm0, an0, cdv0, ct0, osl0, lk0, cd0, kp0, bd0⟩ := T.l_told
  exact fnD_C T.e_law_rest1 sc_law_rest1 T.g_law_rest1 rfl rfl fun A outer s H E hr =>
    (dss_cons (ds_set 1 (DE.k (de_bm (bm_join rfl) rfl (DE.p (de_str [])) (dap_cons (DE.p (DF.e (df_comp (own := [("k", 2)]) rfl sc_law_rest1.nd (DI.e (di_rng1 rfl T.b_range (da_cons (de_op (op_add_d rfl) (DE.p de_int) (DE.p (de_call (k_law_roll T) (hr.mono (by decide)) takes_cxD (da_cons (de_var 0) (da_cons de_int da_nil))))) da_nil))) (blkOk_by (N := ["dice", "plain", "k", "full", "place", "figure", "other", "swap", "crossed", "hidden", "numbers", "marks", "most", "costs", "one", "wrong"]) (sc := defScope s_law_rest1) (by decide +kernel)) (fun _ _ _ _ _ => (dg_name 2 sc_law_rest1.nd)) (fun _ _ _ _ _ => dts_nil) (fun _ _ _ _ _ => (de_sub rfl rfl (huD hr) (DE.p (de_str [48, 49, 50, 51, 52, 53, 54, 55, 56, 57])) (DE.p (de_call (k_law_roll T) (hr.mono (by decide)) takes0D (da_cons (de_var 0) (da_cons de_int da_nil)))) fun _ _ => rfl)) (by decide)))) dap_nil))) (by decide) sc_law_rest1.nd)
    (dss_cons (ds_set 3 (DE.k (de_call (k_with_check T) (hr.mono (by decide)) takes_cxD (da_cons (de_var 1) da_nil))) (by decide) sc_law_rest1.nd)
    (dss_cons (ds_if (dt_w (dw_or (dt_cmp (op_ne_d rfl (huD64 hr)) (DE.p (de_slice rfl (DE.p (de_var 3)) do_none (do_some (DE.p (de_callB (cd_lenX rfl) T.b_len rfl (dap_cons (DE.p (de_var 1)) dap_nil)))))) (DE.p (de_var 1))) (dw_or (dt_cmp (op_ne_d rfl (huD64 hr)) (DE.p (de_op (op_mod_d) (DE.p (de_call (k_law_sum T) (hr.mono (by decide)) takes_cxD (da_cons (de_var 3) da_nil))) (DE.p de_int))) (DE.p de_int)) (dw_or1 (dt_not (dt_val (de_call (k_is_checked T) (hr.mono (by decide)) takes_cxD (da_cons (de_var 3) da_nil))))))))
    (dss_one (ds_ret de_bl))
    dss_nil)
    (dss_cons (ds_if (dt_cmp (op_ne_d rfl (huD64 hr)) (DE.p (de_call (k_check_flag T) (hr.mono (by decide)) takes_cxD (da_cons (de_var 1) da_nil))) (DE.p (de_sub rfl rfl (huD hr) (DE.p (de_var 3)) (DE.p (de_callB (cd_lenX rfl) T.b_len rfl (dap_cons (DE.p (de_var 1)) dap_nil))) fun _ _ => rfl)))
    (dss_one (ds_ret de_bl))
    dss_nil)
    (dss_cons (ds_par 4 5 rfl sc_law_rest1.nd (by decide) (by decide) (by decide) (DE.k (de_call (k_law_roll T) (hr.mono (by decide)) takes_cxD (da_cons (de_var 0) (da_cons (de_callB (cd_lenX rfl) T.b_len rfl (dap_cons (DE.p (de_var 1)) dap_nil)) da_nil)))) (DE.k (de_sub rfl rfl (huD hr) (DE.p (de_str [48, 49, 50, 51, 52, 53, 54, 55, 56, 57])) (DE.p (de_call (k_law_roll T) (hr.mono (by decide)) takes_cxD (da_cons (de_var 0) (da_cons de_int da_nil)))) fun _ _ => rfl)))
    (dss_cons (ds_set 6 (DE.k (de_op (op_add_d rfl) (DE.p (de_op (op_add_d rfl) (DE.p (de_slice rfl (DE.p (de_var 3)) do_none (do_some (DE.p (de_var 4))))) (DE.p (de_var 5)))) (DE.p (de_slice rfl (DE.p (de_var 3)) (do_some (DE.p (de_op (op_add_d rfl) (DE.p (de_var 4)) (DE.p de_int)))) do_none)))) (by decide) sc_law_rest1.nd)
    (dss_cons (ds_if (dt_cmp (op_ne_d rfl (huD64 hr)) (DE.p (de_call (k_is_checked T) (hr.mono (by decide)) takes_cxD (da_cons (de_var 6) da_nil))) (DE.p (de_cmp (op_eq_d rfl (huD64 hr)) (DE.p (de_var 5)) (DE.p (de_sub rfl rfl (huD hr) (DE.p (de_var 3)) (DE.p (de_var 4)) fun _ _ => rfl)))))
    (dss_one (ds_ret de_bl))
    dss_nil)
    (dss_cons (ds_set 7 (DE.k (de_call (k_law_roll T) (hr.mono (by decide)) takes_cxD (da_cons (de_var 0) (da_cons (de_callB (cd_lenX rfl) T.b_len rfl (dap_cons (DE.p (de_var 1)) dap_nil)) da_nil)))) (by decide) sc_law_rest1.nd)
    (dss_cons (ds_set 8 (DE.k (de_call (k_exchanged T) (hr.mono (by decide)) takes_cxD (da_cons (de_var 3) (da_cons (de_var 7) da_nil)))) (by decide) sc_law_rest1.nd)
    (dss_cons (ds_if (dt_w (dw_or (dt_cmp (op_ne_d rfl (huD64 hr)) (DE.p (de_call (k_exchanged T) (hr.mono (by decide)) takes_cxD (da_cons (de_var 8) (da_cons (de_var 7) da_nil)))) (DE.p (de_var 3))) (dw_or1 (dt_w (dw_and (dt_cmp (op_notin_d rfl (huD hr)) (DE.p (de_str [120])) (DE.p (de_slice rfl (DE.p (de_var 8)) do_none (do_some (DE.p (de_callB (cd_lenX rfl) T.b_len rfl (dap_cons (DE.p (de_var 1)) dap_nil))))))) (dw_and1 (dt_cmp (op_ne_d rfl (huD64 hr)) (DE.p (de_call (k_is_checked T) (hr.mono (by decide)) takes_cxD (da_cons (de_var 8) da_nil))) (DE.p (de_cmp (op_eq_d rfl (huD64 hr)) (DE.p (de_var 8)) (DE.p (de_var 3)))))))))))
    (dss_one (ds_ret de_bl))
    dss_nil)
    (dss_cons (ds_set 9 (DE.k (de_op (op_add_d rfl) (DE.p (de_op (op_add_d rfl) (DE.p (de_slice rfl (DE.p (de_var 3)) do_none (do_some (DE.p (de_var 4))))) (DE.p (de_str [63])))) (DE.p (de_slice rfl (DE.p (de_var 3)) (do_some (DE.p (de_op (op_add_d rfl) (DE.p (de_var 4)) (DE.p de_int)))) do_none)))) (by decide) sc_law_rest1.nd)
    (dss_cons (ds_if (dt_w (dw_or (dt_cmp (op_ne_d rfl (huD64 hr)) (DE.p (de_call (k_hidden_figure T) (hr.mono (by decide)) takes_cxD (da_cons (de_var 9) da_nil))) (DE.p (de_var 3))) (dw_or1 (dt_cmp (op_ne_d rfl (huD64 hr)) (DE.p (de_call (k_hidden_figure T) (hr.mono (by decide)) takes_cxD (da_cons (de_op (op_add_d rfl) (DE.p (de_var 1)) (DE.p (de_str [63]))) da_nil))) (DE.p (de_var 3))))))
    (dss_one (ds_ret de_bl))
    dss_nil)
    (dss_cons (ds_set 10 (DE.k (DF.e (df_comp (own := [("k", 2)]) rfl sc_law_rest1.nd (DI.e (di_rng1 rfl T.b_range (da_cons (de_call (k_law_roll T) (hr.mono (by decide)) takes_cxD (da_cons (de_var 0) (da_cons de_int da_nil))) da_nil))) (blkOk_by (N := ["dice", "plain", "k", "full", "place", "figure", "other", "swap", "crossed", "hidden", "numbers", "marks", "most", "costs", "one", "wrong"]) (sc := defScope s_law_rest1) (by decide +kernel)) (fun _ _ _ _ _ => (dg_name 2 sc_law_rest1.nd)) (fun _ _ _ _ _ => dts_nil) (fun _ _ _ _ _ => (de_call (k_law_roll T) (hr.mono (by decide)) takes0D (da_cons (de_var 0) (da_cons de_int da_nil)))) (by decide)))) (by decide) sc_law_rest1.nd)
    (dss_cons (ds_setcomp 11 (own := [("k", 2)]) rfl sc_law_rest1.nd (DI.e (di_rng2 rfl T.b_range (da_cons de_int (da_cons (de_callB (cd_lenX rfl) T.b_len rfl (dap_cons (DE.p (de_var 10)) dap_nil)) da_nil)))) (blkOk_by (N := ["dice", "plain", "k", "full", "place", "figure", "other", "swap", "crossed", "hidden", "numbers", "marks", "most", "costs", "one", "wrong"]) (sc := defScope s_law_rest1) (by decide +kernel)) (fun _ _ _ _ _ => (dg_name 2 sc_law_rest1.nd)) (fun _ _ _ _ _ => dts_nil) (fun _ _ _ _ _ => (de_if (dt_cmp (op_gt_d) (DE.p (de_sub rfl rfl (huD hr) (DE.p (de_var 10)) (DE.p (de_var 2)) fun _ _ => rfl)) (DE.p (de_sub rfl rfl (huD hr) (DE.p (de_var 10)) (DE.p (de_op (op_sub_d) (DE.p (de_var 2)) (DE.p de_int))) fun _ _ => rfl))) (de_str [117]) (de_if (dt_cmp (op_lt_d) (DE.p (de_sub rfl rfl (huD hr) (DE.p (de_var 10)) (DE.p (de_var 2)) fun _ _ => rfl)) (DE.p (de_sub rfl rfl (huD hr) (DE.p (de_var 10)) (DE.p (de_op (op_sub_d) (DE.p (de_var 2)) (DE.p de_int))) fun _ _ => rfl))) (de_str [100]) (de_str [115])))) (by decide) (by decide) (sw_true rfl rfl rfl (by decide +kernel)))
    (dss_cons (ds_if (dt_cmp (op_ne_d rfl (huD64 hr)) (DE.p (de_call (k_ups_and_downs T) (hr.mono (by decide)) takes_cxD (da_cons (de_var 10) da_nil))) (DE.p (de_bm (bm_join rfl) rfl (DE.p (de_str [])) (dap_cons (dp_var 11) dap_nil))))
    (dss_one (ds_ret de_bl))
    dss_nil)
    (dss_cons (ds_set 12 (DE.k (de_op (op_add_d rfl) (DE.p de_int) (DE.p (de_call (k_law_roll T) (hr.mono (by decide)) takes_cxD (da_cons (de_var 0) (da_cons de_int da_nil)))))) (by decide) sc_law_rest1.nd)
    (dss_cons (ds_setcomp 13 (own := [("one", 14)]) rfl sc_law_rest1.nd (DI.e (di_rng2 rfl T.b_range (da_cons de_int (da_cons de_int da_nil)))) (blkOk_by (N := ["dice", "plain", "k", "full", "place", "figure", "other", "swap", "crossed", "hidden", "numbers", "marks", "most", "costs", "one", "wrong"]) (sc := defScope s_law_rest1) (by decide +kernel)) (fun _ _ _ _ _ => (dg_name 14 sc_law_rest1.nd)) (fun _ _ _ _ _ => dts_nil) (fun _ _ _ _ _ => (de_op (op_mul_d) (DE.p (de_callB (cd_lenX rfl) T.b_len rfl (dap_cons (DE.p (de_call (k_law_figures T) (hr.mono (by decide)) takes0D (da_cons (de_var 12) (da_cons (de_var 14) da_nil)))) dap_nil))) (DE.p (de_var 14)))) (by decide) (by decide) (sw_true rfl rfl rfl (by decide +kernel)))
    (dss_cons (ds_if (dt_cmp (op_ne_d rfl (huD64 hr)) (DE.p (de_call (k_fewest_pennants T) (hr.mono (by decide)) takes_cxD (da_cons (de_var 12) da_nil))) (DE.p (de_op (op_add_d rfl) (DE.p de_int) (DE.p (de_bm (bm_index_list rfl (huD hr)) rfl (dp_var 13) (dap_cons (DE.p (de_callB (cd_min rfl rfl (huD hr)) T.b_min rfl (dap_cons (dp_var 13) dap_nil))) dap_nil))))))
    (dss_one (ds_ret de_bl))
    dss_nil)
    (dss_cons (ds_for owns_cxD rfl (di_list rfl (DF.e (df_lst (da_cons (de_str []) (da_cons (de_str [48, 49]) (da_cons (de_str [57, 120]) da_nil)))))) (dg_name 15 sc_law_rest1.nd)
    (dss_one (ds_if (dt_cmp (op_ne_d rfl (huD64 hr)) (DE.p (de_told (k := 2) (l := toldL) T.g_law_told kp0 lk0 cd0 bd0 sc_law_told rfl (Or.inl rfl) (gives_told T rfl rfl) T.exm T.tb_law_rest1 rfl tm_law_rest1 (tu_law_rest1 T) (hr.mono (by decide)) (lamS_by (sc := defScope s_law_rest1) (by decide +kernel)) (fun _ _ _ _ _ _ _ hr' => (de_call (k_read_pennants T) (hr'.mono (by decide)) takes_lam (da_cons (de_var 15) (da_cons de_int da_nil)))))) (DE.p (de_str [104, 111, 105, 115, 116])))
    (dss_one (ds_ret de_bl))
    dss_nil)))
    (dss_cons (ds_if (dt_not (dt_val (de_call0 (k_law_cases1 T) (hr.mono (by decide)) takes_cxD)))
    (dss_one (ds_ret de_bl))
    dss_nil)
    (dss_one (ds_ret de_bl))))))))))))))))))))))
def F_law : LE → R Out :=
    (seqS (parK 2 3 (valK (callE rollD (acons (var 1) (acons (cst (.int 10000)) anil)))) (valK (opE addD (cst (.int 2)) (callE rollD (acons (var 1) (acons (cst (.int 9)) anil))))))
    (seqS (setK 4 (valK (callE D_law_figures (acons (var 2) (acons (var 3) anil)))))
    (seqS (setK 5 (valK (bmE "str" joinD (cst (.str [])) (acons (lE (compF (itL (var 4)) (gN 6) yesT (callE strOf (acons (var 6) anil)) [6])) anil))))
    (seqS (ifS (orT (cmpT neD (callE D_pennants (acons (var 2) (acons (var 3) anil))) (var 5)) (orT (cmpT neD (callE D_read_pennants (acons (var 5) (acons (var 3) anil))) (var 2)) (cmpT neD (callE D_sum_of_figures (acons (var 2) (acons (var 3) anil))) (callE sumD (acons (var 4) anil)))))
    (retS (cst (.bl false)))
    skipS)
    (seqS (setK 7 (valK (cst (.int 0))))
    (seqS (forS (revLE (acons (var 4) anil)) (gN 6)
    (setK 7 (valK (opE addD (opE mulD (var 7) (var 3)) (var 6)))))
    (seqS (ifS (cmpT neD (callE D_turned_number (acons (var 2) (acons (var 3) anil))) (var 7))
    (retS (cst (.bl false)))
    skipS)
    (seqS (setK 8 (valK (bmE "str" joinD (cst (.str [])) (acons (lE (compF (rng1E (acons (opE addD (cst (.int 1)) (callE rollD (acons (var 1) (acons (cst (.int 4)) anil)))) anil)) (gN 9) yesT (subE (cst (.str [48, 49, 50, 51, 52])) (callE rollD (acons (var 1) (acons (cst (.int 5)) anil)))) [9])) anil))))
    (seqS (setK 10 (valK (lE (compF (rng1E (acons (callE lenX (acons (var 8) anil)) anil)) (gN 9) yesT (bmE "str" sidxD (var 8) (acons (subE (var 8) (var 9)) anil)) [9]))))
    (seqS (setK 11 (valK (bmE "str" joinD (cst (.str [])) (acons (lE (compF (rng1E (acons (callE lenX (acons (var 8) anil)) anil)) (gN 9) yesT (iteE (cmpT eqD (subE (var 10) (var 9)) (var 9)) (subE (var 8) (var 9)) (subE (cst (.str [120, 121, 122])) (subE (var 10) (var 9)))) [9])) anil))))
    (seqS (setK 12 (valK (opE ltD (lenDictE (lE (compF (itS (var 11)) (gN 13) yesT (tupE (acons (var 13) (acons (cst (.int 1)) anil))) [13]))) (callE lenX (acons (var 11) anil)))))
    (seqS (setK 14 (valK (toldE toldL (callE D_by_substitutes (acons (var 8) anil)))))
    (seqS (ifS (orT (cmpT neD (var 14) (iteE (valT (var 12)) (cst (.str [104, 111, 105, 115, 116])) (var 11))) (andT (cmpT neD (var 14) (cst (.str [104, 111, 105, 115, 116]))) (cmpT neD (callE D_without_substitutes (acons (var 14) anil)) (var 8))))
    (retS (cst (.bl false)))
    skipS)
    (ifS (notT (valT (callE D_law_rest1 (acons (var 1) anil))))
    (retS (cst (.bl false)))
    skipS))))))))))))))
theorem ok_law (T : Txt w K mg base a) {oc : Value} {od : Option Addr} {kV doc pm : Value} {an : Option Addr} {ct : Value} {osl : Array (Option Value)} (lk : K.lookup a.f_law = some ⟨oc, od, .func (PySem.W.fnOf "law" "law" (defArgs s_law) (defBody s_law) (defScope s_law) .none kV doc pm an (.ref a.k_law) ct), osl⟩)
    (cd : PySem.W.codeIn K (.ref a.k_law) "law" = true) (hF : LawOk F_law 15) :
    FnOk P w K mg base (L2.CX P w) 9 a.f_law (PySem.W.fnOf "law" "law" (defArgs s_law) (defBody s_law) (defScope s_law) .none kV doc pm an (.ref a.k_law) ct) ["script"] (spLaw K (gm K w a).tabs) := by
  obtain ⟨oc0, od0, kV0, doc0, pm0, an0, cdv0, ct0, osl0, lk0, cd0, kp0, bd0⟩ := T.l_told
  obtain ⟨fdD, FD, bD⟩ := T.e_law_dice
  obtain ⟨fdR, FR, bR⟩ := T.e_law_rounds
  have hD := ok_dice (P := P) (w := w) (base := base) FD T.b_int T.b_abs
  have hR := ok_rounds (P := P) (w := w) (base := base) FR hD FD.kp bD T.g_law_dice
  exact law_W (G := gm K w a) (F := F_law) lk cd sc_law rfl (by decide) rfl hF fun A outer s H E hr => ⟨_, pss_cons (ps_for owns_cxD rfl (pi_list (pe_callS hR (hr.mono (by decide)) rfl T.g_law_rounds FR.kp bR (fun sg => passAt (takes_cxD (N := ["script", "dice", "number", "base", "figures", "text", "figure", "back", "row", "k", "firsts", "due", "twice", "sign", "told"]) (st := s_law) (f := a.f_law)) sg) (pa_cons (pv 0) (pa_cons pe_int pa_nil)))) (pg_name (i := 1) sc_law.nd rfl (Or.inr rfl))
    (dss_cons (ds_par 2 3 rfl sc_law.nd (by decide) (by decide) (by decide) (DE.k (de_call (k_law_roll T) (hr.mono (by decide)) takes_cxD (da_cons (de_var 1) (da_cons de_int da_nil)))) (DE.k (de_op (op_add_d rfl) (DE.p de_int) (DE.p (de_call (k_law_roll T) (hr.mono (by decide)) takes_cxD (da_cons (de_var 1) (da_cons de_int da_nil)))))))
    (dss_cons (ds_set 4 (DE.k (de_call (k_law_figures T) (hr.mono (by decide)) takes_cxD (da_cons (de_var 2) (da_cons (de_var 3) da_nil)))) (by decide) sc_law.nd)
    (dss_cons (ds_set 5 (DE.k (de_bm (bm_join rfl) rfl (DE.p (de_str [])) (dap_cons (DE.p (DF.e (df_comp (own := [("figure", 6)]) rfl sc_law.nd (die_list rfl (DE.p (de_var 4))) (blkOk_by (N := ["script", "dice", "number", "base", "figures", "text", "figure", "back", "row", "k", "firsts", "due", "twice", "sign", "told"]) (sc := defScope s_law) (by decide +kernel)) (fun _ _ _ _ _ => (dg_name 6 sc_law.nd)) (fun _ _ _ _ _ => dts_nil) (fun _ _ _ _ _ => (de_callT (cd_str) T.b_str rfl (dap_cons (DE.p (de_var 6)) dap_nil))) (by decide)))) dap_nil))) (by decide) sc_law.nd)
    (dss_cons (ds_if (dt_w (dw_or (dt_cmp (op_ne_d rfl (huD64 hr)) (DE.p (de_call (k_pennants T) (hr.mono (by decide)) takes_cxD (da_cons (de_var 2) (da_cons (de_var 3) da_nil)))) (DE.p (de_var 5))) (dw_or (dt_cmp (op_ne_d rfl (huD64 hr)) (DE.p (de_call (k_read_pennants T) (hr.mono (by decide)) takes_cxD (da_cons (de_var 5) (da_cons (de_var 3) da_nil)))) (DE.p (de_var 2))) (dw_or1 (dt_cmp (op_ne_d rfl (huD64 hr)) (DE.p (de_call (k_sum_of_figures T) (hr.mono (by decide)) takes_cxD (da_cons (de_var 2) (da_cons (de_var 3) da_nil)))) (DE.p (de_callB (cd_sum rfl rfl) T.b_sum rfl (dap_cons (DE.p (de_var 4)) dap_nil))))))))
    (dss_one (ds_ret de_bl))
    dss_nil)
    (dss_cons (ds_set 7 (DE.k de_int) (by decide) sc_law.nd)
    (dss_cons (ds_for owns_cxD rfl (di_revL rfl rfl T.b_reversed (da_cons (de_var 4) da_nil)) (dg_name 6 sc_law.nd)
    (dss_one (ds_set 7 (DE.k (de_op (op_add_d rfl) (DE.p (de_op (op_mul_d) (DE.p (de_var 7)) (DE.p (de_var 3)))) (DE.p (de_var 6)))) (by decide) sc_law.nd)))
    (dss_cons (ds_if (dt_cmp (op_ne_d rfl (huD64 hr)) (DE.p (de_call (k_turned_number T) (hr.mono (by decide)) takes_cxD (da_cons (de_var 2) (da_cons (de_var 3) da_nil)))) (DE.p (de_var 7)))
    (dss_one (ds_ret de_bl))
    dss_nil)
    (dss_cons (ds_set 8 (DE.k (de_bm (bm_join rfl) rfl (DE.p (de_str [])) (dap_cons (DE.p (DF.e (df_comp (own := [("k", 9)]) rfl sc_law.nd (DI.e (di_rng1 rfl T.b_range (da_cons (de_op (op_add_d rfl) (DE.p de_int) (DE.p (de_call (k_law_roll T) (hr.mono (by decide)) takes_cxD (da_cons (de_var 1) (da_cons de_int da_nil))))) da_nil))) (blkOk_by (N := ["script", "dice", "number", "base", "figures", "text", "figure", "back", "row", "k", "firsts", "due", "twice", "sign", "told"]) (sc := defScope s_law) (by decide +kernel)) (fun _ _ _ _ _ => (dg_name 9 sc_law.nd)) (fun _ _ _ _ _ => dts_nil) (fun _ _ _ _ _ => (de_sub rfl rfl (huD hr) (DE.p (de_str [48, 49, 50, 51, 52])) (DE.p (de_call (k_law_roll T) (hr.mono (by decide)) takes0D (da_cons (de_var 1) (da_cons de_int da_nil)))) fun _ _ => rfl)) (by decide)))) dap_nil))) (by decide) sc_law.nd)
    (dss_cons (ds_set 10 (DE.k (DF.e (df_comp (own := [("k", 9)]) rfl sc_law.nd (DI.e (di_rng1 rfl T.b_range (da_cons (de_callB (cd_lenX rfl) T.b_len rfl (dap_cons (DE.p (de_var 8)) dap_nil)) da_nil))) (blkOk_by (N := ["script", "dice", "number", "base", "figures", "text", "figure", "back", "row", "k", "firsts", "due", "twice", "sign", "told"]) (sc := defScope s_law) (by decide +kernel)) (fun _ _ _ _ _ => (dg_name 9 sc_law.nd)) (fun _ _ _ _ _ => dts_nil) (fun _ _ _ _ _ => (de_bm (bm_sindex) rfl (DE.p (de_var 8)) (dap_cons (DE.p (de_sub rfl rfl (huD hr) (DE.p (de_var 8)) (DE.p (de_var 9)) fun _ _ => rfl)) dap_nil))) (by decide)))) (by decide) sc_law.nd)
    (dss_cons (ds_set 11 (DE.k (de_bm (bm_join rfl) rfl (DE.p (de_str [])) (dap_cons (DE.p (DF.e (df_comp (own := [("k", 9)]) rfl sc_law.nd (DI.e (di_rng1 rfl T.b_range (da_cons (de_callB (cd_lenX rfl) T.b_len rfl (dap_cons (DE.p (de_var 8)) dap_nil)) da_nil))) (blkOk_by (N := ["script", "dice", "number", "base", "figures", "text", "figure", "back", "row", "k", "firsts", "due", "twice", "sign", "told"]) (sc := defScope s_law) (by decide +kernel)) (fun _ _ _ _ _ => (dg_name 9 sc_law.nd)) (fun _ _ _ _ _ => dts_nil) (fun _ _ _ _ _ => (de_if (dt_cmp (op_eq_d rfl (huD64 hr)) (DE.p (de_sub rfl rfl (huD hr) (DE.p (de_var 10)) (DE.p (de_var 9)) fun _ _ => rfl)) (DE.p (de_var 9))) (de_sub rfl rfl (huD hr) (DE.p (de_var 8)) (DE.p (de_var 9)) fun _ _ => rfl) (de_sub rfl rfl (huD hr) (DE.p (de_str [120, 121, 122])) (DE.p (de_sub rfl rfl (huD hr) (DE.p (de_var 10)) (DE.p (de_var 9)) fun _ _ => rfl)) fun _ _ => rfl))) (by decide)))) dap_nil))) (by decide) sc_law.nd)
    (dss_cons (ds_set 12 (DE.k (de_cmp (op_lt_d) (DE.p (de_lenDict rfl rfl (huD hr) rfl T.b_len rfl T.b_dict (DF.e (df_comp (own := [("sign", 13)]) rfl sc_law.nd (DI.e (di_str (de_var 11))) (blkOk_by (N := ["script", "dice", "number", "base", "figures", "text", "figure", "back", "row", "k", "firsts", "due", "twice", "sign", "told"]) (sc := defScope s_law) (by decide +kernel)) (fun _ _ _ _ _ => (dg_name 13 sc_law.nd)) (fun _ _ _ _ _ => dts_nil) (fun _ _ _ _ _ => (de_tup (da_cons (de_var 13) (da_cons de_int da_nil)))) (by decide))))) (DE.p (de_callB (cd_lenX rfl) T.b_len rfl (dap_cons (DE.p (de_var 11)) dap_nil))))) (by decide) sc_law.nd)
    (dss_cons (ds_set 14 (DE.k (de_told (k := 1) (l := toldL) T.g_law_told kp0 lk0 cd0 bd0 sc_law_told rfl (Or.inl rfl) (gives_told T rfl rfl) T.exm T.tb_law rfl tm_law (tu_law T) (hr.mono (by decide)) (lamS_by (sc := defScope s_law) (by decide +kernel)) (fun _ _ _ _ _ _ _ hr' => (de_call (k_by_substitutes T) (hr'.mono (by decide)) takes_lam (da_cons (de_var 8) da_nil))))) (by decide) sc_law.nd)
    (dss_cons (ds_if (dt_w (dw_or (dt_cmp (op_ne_d rfl (huD64 hr)) (DE.p (de_var 14)) (DE.p (de_if (dt_val (de_var 12)) (de_str [104, 111, 105, 115, 116]) (de_var 11)))) (dw_or1 (dt_w (dw_and (dt_cmp (op_ne_d rfl (huD64 hr)) (DE.p (de_var 14)) (DE.p (de_str [104, 111, 105, 115, 116]))) (dw_and1 (dt_cmp (op_ne_d rfl (huD64 hr)) (DE.p (de_call (k_without_substitutes T) (hr.mono (by decide)) takes_cxD (da_cons (de_var 14) da_nil))) (DE.p (de_var 8)))))))))
    (dss_one (ds_ret de_bl))
    dss_nil)
    (dss_one (ds_if (dt_not (dt_val (de_call (k_law_rest1 T) (hr.mono (by decide)) takes_cxD (da_cons (de_var 1) da_nil))))
    (dss_one (ds_ret de_bl))
    dss_nil))))))))))))))))
    (pss_one (ps_ret pe_bl))⟩
end
theorem all_mk {l : PySem.W.OpenLaw} {w : World} {K : PySem.W.Frag} {h : Heap} {mg : Str → Option Value} {fa : Addr} {ts : List Addr} (X : K.In h) (hN : h.Ns mainGlobals mg) (hfa : mg "law" = some (.ref fa)) (hTS : ∀ P ∈ ts, h.get? P = some { cls := .none, data := .fields #[] })
    (hF : LawOk F_law 15)
    {f_law_dice f_law_roll f_law_rounds f_law_told f_law_figures f_pennants f_read_pennants f_sum_of_figures f_turned_number f_by_substitutes f_without_substitutes f_check_flag f_with_check f_law_sum f_is_checked f_exchanged f_hidden_figure f_ups_and_downs f_fewest_pennants f_law_cases1 f_law_rest1 f_law x_BadBook x_BadHoist x_BadFlag x_BadFleet x_Foul x_NoWay x_TooLarge x_Unclear x_BadText k_read_pennants t_read_pennants k_sum_of_figures t_sum_of_figures k_check_flag t_check_flag k_with_check t_with_check k_is_checked t_is_checked k_law_cases1 t_law_cases1 k_law_rest1 t_law_rest1 k_law t_law : Addr} {oc_law_dice kV_law_dice dc_law_dice pm_law_dice ct_law_dice cd_law_dice : Value} {od_law_dice an_law_dice : Option Addr} {sl_law_dice : Array (Option Value)} {oc_law_roll kV_law_roll dc_law_roll pm_law_roll ct_law_roll cd_law_roll : Value} {od_law_roll an_law_roll : Option Addr} {sl_law_roll : Array (Option Value)} {oc_law_rounds kV_law_rounds dc_law_rounds pm_law_rounds ct_law_rounds cd_law_rounds : Value} {od_law_rounds an_law_rounds : Option Addr} {sl_law_rounds : Array (Option Value)} {oc_law_told kV_law_told dc_law_told pm_law_told ct_law_told cd_law_told : Value} {od_law_told an_law_told : Option Addr} {sl_law_told : Array (Option Value)} {oc_law_figures kV_law_figures dc_law_figures pm_law_figures ct_law_figures cd_law_figures : Value} {od_law_figures an_law_figures : Option Addr} {sl_law_figures : Array (Option Value)} {oc_pennants kV_pennants dc_pennants pm_pennants ct_pennants cd_pennants : Value} {od_pennants an_pennants : Option Addr} {sl_pennants : Array (Option Value)} {oc_read_pennants kV_read_pennants dc_read_pennants pm_read_pennants ct_read_pennants : Value} {od_read_pennants an_read_pennants : Option Addr} {sl_read_pennants : Array (Option Value)} {oc_sum_of_figures kV_sum_of_figures dc_sum_of_figures pm_sum_of_figures ct_sum_of_figures : Value} {od_sum_of_figures an_sum_of_figures : Option Addr} {sl_sum_of_figures : Array (Option Value)} {oc_turned_number kV_turned_number dc_turned_number pm_turned_number ct_turned_number cd_turned_number : Value} {od_turned_number an_turned_number : Option Addr} {sl_turned_number : Array (Option Value)} {oc_by_substitutes kV_by_substitutes dc_by_substitutes pm_by_substitutes ct_by_substitutes cd_by_substitutes : Value} {od_by_substitutes an_by_substitutes : Option Addr} {sl_by_substitutes : Array (Option Value)} {oc_without_substitutes kV_without_substitutes dc_without_substitutes pm_without_substitutes ct_without_substitutes cd_without_substitutes : Value} {od_without_substitutes an_without_substitutes : Option Addr} {sl_without_substitutes : Array (Option Value)} {oc_check_flag kV_check_flag dc_check_flag pm_check_flag ct_check_flag : Value} {od_check_flag an_check_flag : Option Addr} {sl_check_flag : Array (Option Value)} {oc_with_check kV_with_check dc_with_check pm_with_check ct_with_check : Value} {od_with_check an_with_check : Option Addr} {sl_with_check : Array (Option Value)} {oc_law_sum kV_law_sum dc_law_sum pm_law_sum ct_law_sum cd_law_sum : Value} {od_law_sum an_law_sum : Option Addr} {sl_law_sum : Array (Option Value)} {oc_is_checked kV_is_checked dc_is_checked pm_is_checked ct_is_checked : Value} {od_is_checked an_is_checked : Option Addr} {sl_is_checked : Array (Option Value)} {oc_exchanged kV_exchanged dc_exchanged pm_exchanged ct_exchanged cd_exchanged : Value} {od_exchanged an_exchanged : Option Addr} {sl_exchanged : Array (Option Value)} {oc_hidden_figure kV_hidden_figure dc_hidden_figure pm_hidden_figure ct_hidden_figure cd_hidden_figure : Value} {od_hidden_figure an_hidden_figure : Option Addr} {sl_hidden_figure : Array (Option Value)} {oc_ups_and_downs kV_ups_and_downs dc_ups_and_downs pm_ups_and_downs ct_ups_and_downs cd_ups_and_downs : Value} {od_ups_and_downs an_ups_and_downs : Option Addr} {sl_ups_and_downs : Array (Option Value)} {oc_fewest_pennants kV_fewest_pennants dc_fewest_pennants pm_fewest_pennants ct_fewest_pennants cd_fewest_pennants : Value} {od_fewest_pennants an_fewest_pennants : Option Addr} {sl_fewest_pennants : Array (Option Value)} {oc_law_cases1 kV_law_cases1 dc_law_cases1 pm_law_cases1 ct_law_cases1 : Value} {od_law_cases1 an_law_cases1 : Option Addr} {sl_law_cases1 : Array (Option Value)} {oc_law_rest1 kV_law_rest1 dc_law_rest1 pm_law_rest1 ct_law_rest1 : Value} {od_law_rest1 an_law_rest1 : Option Addr} {sl_law_rest1 : Array (Option Value)} {oc_law kV_law dc_law pm_law ct_law : Value} {od_law an_law : Option Addr} {sl_law : Array (Option Value)} {u_FIGURES : Value} {vs_read_pennants : Array Value} {zo_read_pennants : Option Addr} {zs_read_pennants : Array (Option Value)} {vs_sum_of_figures : Array Value} {zo_sum_of_figures : Option Addr} {zs_sum_of_figures : Array (Option Value)} {vs_check_flag : Array Value} {zo_check_flag : Option Addr} {zs_check_flag : Array (Option Value)} {vs_with_check : Array Value} {zo_with_check : Option Addr} {zs_with_check : Array (Option Value)} {vs_is_checked : Array Value} {zo_is_checked : Option Addr} {zs_is_checked : Array (Option Value)} {vs_law_cases1 : Array Value} {zo_law_cases1 : Option Addr} {zs_law_cases1 : Array (Option Value)} {vs_law_rest1 : Array Value} {zo_law_rest1 : Option Addr} {zs_law_rest1 : Array (Option Value)} {vs_law : Array Value} {zo_law : Option Addr} {zs_law : Array (Option Value)}
    (nk_law_dice : PySem.W.nsIn K mainGlobals "_law_dice" = some (some (.ref f_law_dice)))
    (lk_law_dice : K.lookup f_law_dice = some ⟨oc_law_dice, od_law_dice, .func (PySem.W.fnOf "_law_dice" "_law_dice" (defArgs s_law_dice) (defBody s_law_dice) (defScope s_law_dice) .none kV_law_dice dc_law_dice pm_law_dice an_law_dice cd_law_dice ct_law_dice), sl_law_dice⟩)
    (dk_law_dice : PySem.W.codeIn K cd_law_dice "_law_dice" = true)
    (kk_law_dice : PySem.W.keepIn K (.ref f_law_dice) = true)
    (nk_law_roll : PySem.W.nsIn K mainGlobals "_law_roll" = some (some (.ref f_law_roll)))
    (lk_law_roll : K.lookup f_law_roll = some ⟨oc_law_roll, od_law_roll, .func (PySem.W.fnOf "_law_roll" "_law_roll" (defArgs s_law_roll) (defBody s_law_roll) (defScope s_law_roll) .none kV_law_roll dc_law_roll pm_law_roll an_law_roll cd_law_roll ct_law_roll), sl_law_roll⟩)
    (dk_law_roll : PySem.W.codeIn K cd_law_roll "_law_roll" = true)
    (kk_law_roll : PySem.W.keepIn K (.ref f_law_roll) = true)
    (nk_law_rounds : PySem.W.nsIn K mainGlobals "_law_rounds" = some (some (.ref f_law_rounds)))
    (lk_law_rounds : K.lookup f_law_rounds = some ⟨oc_law_rounds, od_law_rounds, .func (PySem.W.fnOf "_law_rounds" "_law_rounds" (defArgs s_law_rounds) (defBody s_law_rounds) (defScope s_law_rounds) .none kV_law_rounds dc_law_rounds pm_law_rounds an_law_rounds cd_law_rounds ct_law_rounds), sl_law_rounds⟩)
    (dk_law_rounds : PySem.W.codeIn K cd_law_rounds "_law_rounds" = true)
    (kk_law_rounds : PySem.W.keepIn K (.ref f_law_rounds) = true)
    (nk_law_told : PySem.W.nsIn K mainGlobals "_law_told" = some (some (.ref f_law_told)))
    (lk_law_told : K.lookup f_law_told = some ⟨oc_law_told, od_law_told, .func (PySem.W.fnOf "_law_told" "_law_told" (defArgs s_law_told) (defBody s_law_told) (defScope s_law_told) .none kV_law_told dc_law_told pm_law_told an_law_told cd_law_told ct_law_told), sl_law_told⟩)
    (dk_law_told : PySem.W.codeIn K cd_law_told "_law_told" = true)
    (kk_law_told : PySem.W.keepIn K (.ref f_law_told) = true)
    (nk_law_figures : PySem.W.nsIn K mainGlobals "_law_figures" = some (some (.ref f_law_figures)))
    (lk_law_figures : K.lookup f_law_figures = some ⟨oc_law_figures, od_law_figures, .func (PySem.W.fnOf "_law_figures" "_law_figures" (defArgs s_law_figures) (defBody s_law_figures) (defScope s_law_figures) .none kV_law_figures dc_law_figures pm_law_figures an_law_figures cd_law_figures ct_law_figures), sl_law_figures⟩)
    (dk_law_figures : PySem.W.codeIn K cd_law_figures "_law_figures" = true)
    (kk_law_figures : PySem.W.keepIn K (.ref f_law_figures) = true)
    (nk_pennants : PySem.W.nsIn K mainGlobals "pennants" = some (some (.ref f_pennants)))
    (lk_pennants : K.lookup f_pennants = some ⟨oc_pennants, od_pennants, .func (PySem.W.fnOf "pennants" "pennants" (defArgs s_pennants) (defBody s_pennants) (defScope s_pennants) .none kV_pennants dc_pennants pm_pennants an_pennants cd_pennants ct_pennants), sl_pennants⟩)
    (dk_pennants : PySem.W.codeIn K cd_pennants "pennants" = true)
    (kk_pennants : PySem.W.keepIn K (.ref f_pennants) = true)
    (nk_read_pennants : PySem.W.nsIn K mainGlobals "read_pennants" = some (some (.ref f_read_pennants)))
    (lk_read_pennants : K.lookup f_read_pennants = some ⟨oc_read_pennants, od_read_pennants, .func (PySem.W.fnOf "read_pennants" "read_pennants" (defArgs s_read_pennants) (defBody s_read_pennants) (defScope s_read_pennants) .none kV_read_pennants dc_read_pennants pm_read_pennants an_read_pennants (.ref k_read_pennants) ct_read_pennants), sl_read_pennants⟩)
    (dk_read_pennants : PySem.W.codeIn K (.ref k_read_pennants) "read_pennants" = true)
    (kk_read_pennants : PySem.W.keepIn K (.ref f_read_pennants) = true)
    (nk_sum_of_figures : PySem.W.nsIn K mainGlobals "sum_of_figures" = some (some (.ref f_sum_of_figures)))
    (lk_sum_of_figures : K.lookup f_sum_of_figures = some ⟨oc_sum_of_figures, od_sum_of_figures, .func (PySem.W.fnOf "sum_of_figures" "sum_of_figures" (defArgs s_sum_of_figures) (defBody s_sum_of_figures) (defScope s_sum_of_figures) .none kV_sum_of_figures dc_sum_of_figures pm_sum_of_figures an_sum_of_figures (.ref k_sum_of_figures) ct_sum_of_figures), sl_sum_of_figures⟩)
    (dk_sum_of_figures : PySem.W.codeIn K (.ref k_sum_of_figures) "sum_of_figures" = true)
    (kk_sum_of_figures : PySem.W.keepIn K (.ref f_sum_of_figures) = true)
    (nk_turned_number : PySem.W.nsIn K mainGlobals "turned_number" = some (some (.ref f_turned_number)))
    (lk_turned_number : K.lookup f_turned_number = some ⟨oc_turned_number, od_turned_number, .func (PySem.W.fnOf "turned_number" "turned_number" (defArgs s_turned_number) (defBody s_turned_number) (defScope s_turned_number) .none kV_turned_number dc_turned_number pm_turned_number an_turned_number cd_turned_number ct_turned_number), sl_turned_number⟩)
    (dk_turned_number : PySem.W.codeIn K cd_turned_number "turned_number" = true)
    (kk_turned_number : PySem.W.keepIn K (.ref f_turned_number) = true)
    (nk_by_substitutes : PySem.W.nsIn K mainGlobals "by_substitutes" = some (some (.ref f_by_substitutes)))
    (lk_by_substitutes : K.lookup f_by_substitutes = some ⟨oc_by_substitutes, od_by_substitutes, .func (PySem.W.fnOf "by_substitutes" "by_substitutes" (defArgs s_by_substitutes) (defBody s_by_substitutes) (defScope s_by_substitutes) .none kV_by_substitutes dc_by_substitutes pm_by_substitutes an_by_substitutes cd_by_substitutes ct_by_substitutes), sl_by_substitutes⟩)
    (dk_by_substitutes : PySem.W.codeIn K cd_by_substitutes "by_substitutes" = true)
    (kk_by_substitutes : PySem.W.keepIn K (.ref f_by_substitutes) = true)
    (nk_without_substitutes : PySem.W.nsIn K mainGlobals "without_substitutes" = some (some (.ref f_without_substitutes)))
    (lk_without_substitutes : K.lookup f_without_substitutes = some ⟨oc_without_substitutes, od_without_substitutes, .func (PySem.W.fnOf "without_substitutes" "without_substitutes" (defArgs s_without_substitutes) (defBody s_without_substitutes) (defScope s_without_substitutes) .none kV_without_substitutes dc_without_substitutes pm_without_substitutes an_without_substitutes cd_without_substitutes ct_without_substitutes), sl_without_substitutes⟩)
    (dk_without_substitutes : PySem.W.codeIn K cd_without_substitutes "without_substitutes" = true)
    (kk_without_substitutes : PySem.W.keepIn K (.ref f_without_substitutes) = true)
    (nk_check_flag : PySem.W.nsIn K mainGlobals "check_flag" = some (some (.ref f_check_flag)))
    (lk_check_flag : K.lookup f_check_flag = some ⟨oc_check_flag, od_check_flag, .func (PySem.W.fnOf "check_flag" "check_flag" (defArgs s_check_flag) (defBody s_check_flag) (defScope s_check_flag) .none kV_check_flag dc_check_flag pm_check_flag an_check_flag (.ref k_check_flag) ct_check_flag), sl_check_flag⟩)
    (dk_check_flag : PySem.W.codeIn K (.ref k_check_flag) "check_flag" = true)
    (kk_check_flag : PySem.W.keepIn K (.ref f_check_flag) = true)
    (nk_with_check : PySem.W.nsIn K mainGlobals "with_check" = some (some (.ref f_with_check)))
    (lk_with_check : K.lookup f_with_check = some ⟨oc_with_check, od_with_check, .func (PySem.W.fnOf "with_check" "with_check" (defArgs s_with_check) (defBody s_with_check) (defScope s_with_check) .none kV_with_check dc_with_check pm_with_check an_with_check (.ref k_with_check) ct_with_check), sl_with_check⟩)
    (dk_with_check : PySem.W.codeIn K (.ref k_with_check) "with_check" = true)
    (kk_with_check : PySem.W.keepIn K (.ref f_with_check) = true)
    (nk_law_sum : PySem.W.nsIn K mainGlobals "_law_sum" = some (some (.ref f_law_sum)))
    (lk_law_sum : K.lookup f_law_sum = some ⟨oc_law_sum, od_law_sum, .func (PySem.W.fnOf "_law_sum" "_law_sum" (defArgs s_law_sum) (defBody s_law_sum) (defScope s_law_sum) .none kV_law_sum dc_law_sum pm_law_sum an_law_sum cd_law_sum ct_law_sum), sl_law_sum⟩)
    (dk_law_sum : PySem.W.codeIn K cd_law_sum "_law_sum" = true)
    (kk_law_sum : PySem.W.keepIn K (.ref f_law_sum) = true)
    (nk_is_checked : PySem.W.nsIn K mainGlobals "is_checked" = some (some (.ref f_is_checked)))
    (lk_is_checked : K.lookup f_is_checked = some ⟨oc_is_checked, od_is_checked, .func (PySem.W.fnOf "is_checked" "is_checked" (defArgs s_is_checked) (defBody s_is_checked) (defScope s_is_checked) .none kV_is_checked dc_is_checked pm_is_checked an_is_checked (.ref k_is_checked) ct_is_checked), sl_is_checked⟩)
    (dk_is_checked : PySem.W.codeIn K (.ref k_is_checked) "is_checked" = true)
    (kk_is_checked : PySem.W.keepIn K (.ref f_is_checked) = true)
    (nk_exchanged : PySem.W.nsIn K mainGlobals "exchanged" = some (some (.ref f_exchanged)))
    (lk_exchanged : K.lookup f_exchanged = some ⟨oc_exchanged, od_exchanged, .func (PySem.W.fnOf "exchanged" "exchanged" (defArgs s_exchanged) (defBody s_exchanged) (defScope s_exchanged) .none kV_exchanged dc_exchanged pm_exchanged an_exchanged cd_exchanged ct_exchanged), sl_exchanged⟩)
    (dk_exchanged : PySem.W.codeIn K cd_exchanged "exchanged" = true)
    (kk_exchanged : PySem.W.keepIn K (.ref f_exchanged) = true)
    (nk_hidden_figure : PySem.W.nsIn K mainGlobals "hidden_figure" = some (some (.ref f_hidden_figure)))
    (lk_hidden_figure : K.lookup f_hidden_figure = some ⟨oc_hidden_figure, od_hidden_figure, .func (PySem.W.fnOf "hidden_figure" "hidden_figure" (defArgs s_hidden_figure) (defBody s_hidden_figure) (defScope s_hidden_figure) .none kV_hidden_figure dc_hidden_figure pm_hidden_figure an_hidden_figure cd_hidden_figure ct_hidden_figure), sl_hidden_figure⟩)
    (dk_hidden_figure : PySem.W.codeIn K cd_hidden_figure "hidden_figure" = true)
    (kk_hidden_figure : PySem.W.keepIn K (.ref f_hidden_figure) = true)
    (nk_ups_and_downs : PySem.W.nsIn K mainGlobals "ups_and_downs" = some (some (.ref f_ups_and_downs)))
    (lk_ups_and_downs : K.lookup f_ups_and_downs = some ⟨oc_ups_and_downs, od_ups_and_downs, .func (PySem.W.fnOf "ups_and_downs" "ups_and_downs" (defArgs s_ups_and_downs) (defBody s_ups_and_downs) (defScope s_ups_and_downs) .none kV_ups_and_downs dc_ups_and_downs pm_ups_and_downs an_ups_and_downs cd_ups_and_downs ct_ups_and_downs), sl_ups_and_downs⟩)
    (dk_ups_and_downs : PySem.W.codeIn K cd_ups_and_downs "ups_and_downs" = true)
    (kk_ups_and_downs : PySem.W.keepIn K (.ref f_ups_and_downs) = true)
    (nk_fewest_pennants : PySem.W.nsIn K mainGlobals "fewest_pennants" = some (some (.ref f_fewest_pennants)))
    (lk_fewest_pennants : K.lookup f_fewest_pennants = some ⟨oc_fewest_pennants, od_fewest_pennants, .func (PySem.W.fnOf "fewest_pennants" "fewest_pennants" (defArgs s_fewest_pennants) (defBody s_fewest_pennants) (defScope s_fewest_pennants) .none kV_fewest_pennants dc_fewest_pennants pm_fewest_pennants an_fewest_pennants cd_fewest_pennants ct_fewest_pennants), sl_fewest_pennants⟩)
    (dk_fewest_pennants : PySem.W.codeIn K cd_fewest_pennants "fewest_pennants" = true)
    (kk_fewest_pennants : PySem.W.keepIn K (.ref f_fewest_pennants) = true)
    (nk_law_cases1 : PySem.W.nsIn K mainGlobals "_law_cases1" = some (some (.ref f_law_cases1)))
    (lk_law_cases1 : K.lookup f_law_cases1 = some ⟨oc_law_cases1, od_law_cases1, .func (PySem.W.fnOf "_law_cases1" "_law_cases1" (defArgs s_law_cases1) (defBody s_law_cases1) (defScope s_law_cases1) .none kV_law_cases1 dc_law_cases1 pm_law_cases1 an_law_cases1 (.ref k_law_cases1) ct_law_cases1), sl_law_cases1⟩)
    (dk_law_cases1 : PySem.W.codeIn K (.ref k_law_cases1) "_law_cases1" = true)
    (kk_law_cases1 : PySem.W.keepIn K (.ref f_law_cases1) = true)
    (nk_law_rest1 : PySem.W.nsIn K mainGlobals "_law_rest1" = some (some (.ref f_law_rest1)))
    (lk_law_rest1 : K.lookup f_law_rest1 = some ⟨oc_law_rest1, od_law_rest1, .func (PySem.W.fnOf "_law_rest1" "_law_rest1" (defArgs s_law_rest1) (defBody s_law_rest1) (defScope s_law_rest1) .none kV_law_rest1 dc_law_rest1 pm_law_rest1 an_law_rest1 (.ref k_law_rest1) ct_law_rest1), sl_law_rest1⟩)
    (dk_law_rest1 : PySem.W.codeIn K (.ref k_law_rest1) "_law_rest1" = true)
    (kk_law_rest1 : PySem.W.keepIn K (.ref f_law_rest1) = true)
    (nk_law : PySem.W.nsIn K mainGlobals "law" = some (some (.ref f_law)))
    (lk_law : K.lookup f_law = some ⟨oc_law, od_law, .func (PySem.W.fnOf "law" "law" (defArgs s_law) (defBody s_law) (defScope s_law) .none kV_law dc_law pm_law an_law (.ref k_law) ct_law), sl_law⟩)
    (dk_law : PySem.W.codeIn K (.ref k_law) "law" = true)
    (kk_law : PySem.W.keepIn K (.ref f_law) = true)
    (xn_BadBook : PySem.W.nsIn K mainGlobals "BadBook" = some (some (.ref x_BadBook)))
    (xe_BadBook : PySem.W.excIn K x_BadBook [.type "ValueError", .type "Exception", .type "BaseException", .type "object"] "ValueError.__new__" = true)
    (xk_BadBook : PySem.W.keepIn K (.ref x_BadBook) = true)
    (xs_BadBook : PySem.W.subIn K (.ref x_BadBook) (.type "BaseException") = some true)
    (xt_BadBook : PySem.W.typeIn K (.ref x_BadBook) = some (.type "type"))
    (xn_BadHoist : PySem.W.nsIn K mainGlobals "BadHoist" = some (some (.ref x_BadHoist)))
    (xe_BadHoist : PySem.W.excIn K x_BadHoist [.type "ValueError", .type "Exception", .type "BaseException", .type "object"] "ValueError.__new__" = true)
    (xk_BadHoist : PySem.W.keepIn K (.ref x_BadHoist) = true)
    (xs_BadHoist : PySem.W.subIn K (.ref x_BadHoist) (.type "BaseException") = some true)
    (xt_BadHoist : PySem.W.typeIn K (.ref x_BadHoist) = some (.type "type"))
    (xn_BadFlag : PySem.W.nsIn K mainGlobals "BadFlag" = some (some (.ref x_BadFlag)))
    (xe_BadFlag : PySem.W.excIn K x_BadFlag [.type "ValueError", .type "Exception", .type "BaseException", .type "object"] "ValueError.__new__" = true)
    (xk_BadFlag : PySem.W.keepIn K (.ref x_BadFlag) = true)
    (xs_BadFlag : PySem.W.subIn K (.ref x_BadFlag) (.type "BaseException") = some true)
    (xt_BadFlag : PySem.W.typeIn K (.ref x_BadFlag) = some (.type "type"))
    (xn_BadFleet : PySem.W.nsIn K mainGlobals "BadFleet" = some (some (.ref x_BadFleet)))
    (xe_BadFleet : PySem.W.excIn K x_BadFleet [.type "ValueError", .type "Exception", .type "BaseException", .type "object"] "ValueError.__new__" = true)
    (xk_BadFleet : PySem.W.keepIn K (.ref x_BadFleet) = true)
    (xs_BadFleet : PySem.W.subIn K (.ref x_BadFleet) (.type "BaseException") = some true)
    (xt_BadFleet : PySem.W.typeIn K (.ref x_BadFleet) = some (.type "type"))
    (xn_Foul : PySem.W.nsIn K mainGlobals "Foul" = some (some (.ref x_Foul)))
    (xn_NoWay : PySem.W.nsIn K mainGlobals "NoWay" = some (some (.ref x_NoWay)))
    (xe_NoWay : PySem.W.excIn K x_NoWay [.type "ValueError", .type "Exception", .type "BaseException", .type "object"] "ValueError.__new__" = true)
    (xk_NoWay : PySem.W.keepIn K (.ref x_NoWay) = true)
    (xs_NoWay : PySem.W.subIn K (.ref x_NoWay) (.type "BaseException") = some true)
    (xt_NoWay : PySem.W.typeIn K (.ref x_NoWay) = some (.type "type"))
    (xn_TooLarge : PySem.W.nsIn K mainGlobals "TooLarge" = some (some (.ref x_TooLarge)))
    (xe_TooLarge : PySem.W.excIn K x_TooLarge [.type "ValueError", .type "Exception", .type "BaseException", .type "object"] "ValueError.__new__" = true)
    (xk_TooLarge : PySem.W.keepIn K (.ref x_TooLarge) = true)
    (xs_TooLarge : PySem.W.subIn K (.ref x_TooLarge) (.type "BaseException") = some true)
    (xt_TooLarge : PySem.W.typeIn K (.ref x_TooLarge) = some (.type "type"))
    (xn_Unclear : PySem.W.nsIn K mainGlobals "Unclear" = some (some (.ref x_Unclear)))
    (xn_BadText : PySem.W.nsIn K mainGlobals "BadText" = some (some (.ref x_BadText)))
    (exq : exmB K (excA ⟨f_law_dice, f_law_roll, f_law_rounds, f_law_told, f_law_figures, f_pennants, f_read_pennants, f_sum_of_figures, f_turned_number, f_by_substitutes, f_without_substitutes, f_check_flag, f_with_check, f_law_sum, f_is_checked, f_exchanged, f_hidden_figure, f_ups_and_downs, f_fewest_pennants, f_law_cases1, f_law_rest1, f_law, x_BadBook, x_BadHoist, x_BadFlag, x_BadFleet, x_Foul, x_NoWay, x_TooLarge, x_Unclear, x_BadText, k_read_pennants, t_read_pennants, k_sum_of_figures, t_sum_of_figures, k_check_flag, t_check_flag, k_with_check, t_with_check, k_is_checked, t_is_checked, k_law_cases1, t_law_cases1, k_law_rest1, t_law_rest1, k_law, t_law⟩) (toldL.map (·.1)) = true)
    (bz_str : PySem.W.nsIn K mainGlobals "str" = some none)
    (bz_any : PySem.W.nsIn K mainGlobals "any" = some none)
    (bz_len : PySem.W.nsIn K mainGlobals "len" = some none)
    (bz_sum : PySem.W.nsIn K mainGlobals "sum" = some none)
    (bz_reversed : PySem.W.nsIn K mainGlobals "reversed" = some none)
    (bz_list : PySem.W.nsIn K mainGlobals "list" = some none)
    (bz_range : PySem.W.nsIn K mainGlobals "range" = some none)
    (bz_dict : PySem.W.nsIn K mainGlobals "dict" = some none)
    (bz_enumerate : PySem.W.nsIn K mainGlobals "enumerate" = some none)
    (bz_all : PySem.W.nsIn K mainGlobals "all" = some none)
    (bz_min : PySem.W.nsIn K mainGlobals "min" = some none)
    (bz_int : PySem.W.nsIn K mainGlobals "int" = some none)
    (bz_abs : PySem.W.nsIn K mainGlobals "abs" = some none)
    (cn_FIGURES : PySem.W.nsIn K mainGlobals "FIGURES" = some (some u_FIGURES))
    (cq_FIGURES : isD K d_FIGURES u_FIGURES = true)
    (zl_read_pennants : K.lookup k_read_pennants = some ⟨.type "code", zo_read_pennants, .fields vs_read_pennants, zs_read_pennants⟩)
    (zv_read_pennants : (vs_read_pennants[11]? : Option Value) = some (.ref t_read_pennants))
    (zh_read_pennants : PySem.W.codeHdIn K k_read_pennants t_read_pennants = true)
    (zn_read_pennants : K.lookup t_read_pennants = none)
    (zt_read_pennants : t_read_pennants ∈ ts)
    (zl_sum_of_figures : K.lookup k_sum_of_figures = some ⟨.type "code", zo_sum_of_figures, .fields vs_sum_of_figures, zs_sum_of_figures⟩)
    (zv_sum_of_figures : (vs_sum_of_figures[11]? : Option Value) = some (.ref t_sum_of_figures))
    (zh_sum_of_figures : PySem.W.codeHdIn K k_sum_of_figures t_sum_of_figures = true)
    (zn_sum_of_figures : K.lookup t_sum_of_figures = none)
    (zt_sum_of_figures : t_sum_of_figures ∈ ts)
    (zl_check_flag : K.lookup k_check_flag = some ⟨.type "code", zo_check_flag, .fields vs_check_flag, zs_check_flag⟩)
    (zv_check_flag : (vs_check_flag[11]? : Option Value) = some (.ref t_check_flag))
    (zh_check_flag : PySem.W.codeHdIn K k_check_flag t_check_flag = true)
    (zn_check_flag : K.lookup t_check_flag = none)
    (zt_check_flag : t_check_flag ∈ ts)
    (zl_with_check : K.lookup k_with_check = some ⟨.type "code", zo_with_check, .fields vs_with_check, zs_with_check⟩)
    (zv_with_check : (vs_with_check[11]? : Option Value) = some (.ref t_with_check))
    (zh_with_check : PySem.W.codeHdIn K k_with_check t_with_check = true)
    (zn_with_check : K.lookup t_with_check = none)
    (zt_with_check : t_with_check ∈ ts)
    (zl_is_checked : K.lookup k_is_checked = some ⟨.type "code", zo_is_checked, .fields vs_is_checked, zs_is_checked⟩)
    (zv_is_checked : (vs_is_checked[11]? : Option Value) = some (.ref t_is_checked))
    (zh_is_checked : PySem.W.codeHdIn K k_is_checked t_is_checked = true)
    (zn_is_checked : K.lookup t_is_checked = none)
    (zt_is_checked : t_is_checked ∈ ts)
    (zl_law_cases1 : K.lookup k_law_cases1 = some ⟨.type "code", zo_law_cases1, .fields vs_law_cases1, zs_law_cases1⟩)
    (zv_law_cases1 : (vs_law_cases1[11]? : Option Value) = some (.ref t_law_cases1))
    (zh_law_cases1 : PySem.W.codeHdIn K k_law_cases1 t_law_cases1 = true)
    (zn_law_cases1 : K.lookup t_law_cases1 = none)
    (zt_law_cases1 : t_law_cases1 ∈ ts)
    (zl_law_rest1 : K.lookup k_law_rest1 = some ⟨.type "code", zo_law_rest1, .fields vs_law_rest1, zs_law_rest1⟩)
    (zv_law_rest1 : (vs_law_rest1[11]? : Option Value) = some (.ref t_law_rest1))
    (zh_law_rest1 : PySem.W.codeHdIn K k_law_rest1 t_law_rest1 = true)
    (zn_law_rest1 : K.lookup t_law_rest1 = none)
    (zt_law_rest1 : t_law_rest1 ∈ ts)
    (zl_law : K.lookup k_law = some ⟨.type "code", zo_law, .fields vs_law, zs_law⟩)
    (zv_law : (vs_law[11]? : Option Value) = some (.ref t_law))
    (zh_law : PySem.W.codeHdIn K k_law t_law = true)
    (zn_law : K.lookup t_law = none)
    (zt_law : t_law ∈ ts)
    (ne_read_pennants_sum_of_figures : t_read_pennants ≠ t_sum_of_figures)
    (ne_read_pennants_check_flag : t_read_pennants ≠ t_check_flag)
    (ne_read_pennants_with_check : t_read_pennants ≠ t_with_check)
    (ne_read_pennants_is_checked : t_read_pennants ≠ t_is_checked)
    (ne_read_pennants_law_cases1 : t_read_pennants ≠ t_law_cases1)
    (ne_read_pennants_law_rest1 : t_read_pennants ≠ t_law_rest1)
    (ne_read_pennants_law : t_read_pennants ≠ t_law)
    (ne_sum_of_figures_check_flag : t_sum_of_figures ≠ t_check_flag)
    (ne_sum_of_figures_with_check : t_sum_of_figures ≠ t_with_check)
    (ne_sum_of_figures_is_checked : t_sum_of_figures ≠ t_is_checked)
    (ne_sum_of_figures_law_cases1 : t_sum_of_figures ≠ t_law_cases1)
    (ne_sum_of_figures_law_rest1 : t_sum_of_figures ≠ t_law_rest1)
    (ne_sum_of_figures_law : t_sum_of_figures ≠ t_law)
    (ne_check_flag_with_check : t_check_flag ≠ t_with_check)
    (ne_check_flag_is_checked : t_check_flag ≠ t_is_checked)
    (ne_check_flag_law_cases1 : t_check_flag ≠ t_law_cases1)
    (ne_check_flag_law_rest1 : t_check_flag ≠ t_law_rest1)
    (ne_check_flag_law : t_check_flag ≠ t_law)
    (ne_with_check_is_checked : t_with_check ≠ t_is_checked)
    (ne_with_check_law_cases1 : t_with_check ≠ t_law_cases1)
    (ne_with_check_law_rest1 : t_with_check ≠ t_law_rest1)
    (ne_with_check_law : t_with_check ≠ t_law)
    (ne_is_checked_law_cases1 : t_is_checked ≠ t_law_cases1)
    (ne_is_checked_law_rest1 : t_is_checked ≠ t_law_rest1)
    (ne_is_checked_law : t_is_checked ≠ t_law)
    (ne_law_cases1_law_rest1 : t_law_cases1 ≠ t_law_rest1)
    (ne_law_cases1_law : t_law_cases1 ≠ t_law)
    (ne_law_rest1_law : t_law_rest1 ≠ t_law) :
    LawAtS l w K (L2.CX l.prog w) 9 63 "script" mg fa h := by
  have M : ∀ {x : Str} {v : Value}, PySem.W.nsIn K mainGlobals x = some (some v) → mg x = some v := fun e => PySem.W.mg_of X hN e
  have M0 : ∀ {x : Str}, PySem.W.nsIn K mainGlobals x = some none → mg x = none := fun e => PySem.W.mg_none_of X hN e
  have e := hfa.symm.trans (M nk_law)
  have e2 : f_law = fa := by injection e with e; injection e with e; exact e.symm
  subst e2
  have TT : ∀ base : Heap, (∀ p ∈ ([(k_read_pennants, t_read_pennants), (k_sum_of_figures, t_sum_of_figures), (k_check_flag, t_check_flag), (k_with_check, t_with_check), (k_is_checked, t_is_checked), (k_law_cases1, t_law_cases1), (k_law_rest1, t_law_rest1), (k_law, t_law)] : List (Addr × Addr)), TabB base mg p.1 p.2) → Txt w K mg base ⟨f_law_dice, f_law_roll, f_law_rounds, f_law_told, f_law_figures, f_pennants, f_read_pennants, f_sum_of_figures, f_turned_number, f_by_substitutes, f_without_substitutes, f_check_flag, f_with_check, f_law_sum, f_is_checked, f_exchanged, f_hidden_figure, f_ups_and_downs, f_fewest_pennants, f_law_cases1, f_law_rest1, f_law, x_BadBook, x_BadHoist, x_BadFlag, x_BadFleet, x_Foul, x_NoWay, x_TooLarge, x_Unclear, x_BadText, k_read_pennants, t_read_pennants, k_sum_of_figures, t_sum_of_figures, k_check_flag, t_check_flag, k_with_check, t_with_check, k_is_checked, t_is_checked, k_law_cases1, t_law_cases1, k_law_rest1, t_law_rest1, k_law, t_law⟩ := fun base hTB => {
    b_str := M0 bz_str,
    b_any := M0 bz_any,
    b_len := M0 bz_len,
    b_sum := M0 bz_sum,
    b_reversed := M0 bz_reversed,
    b_list := M0 bz_list,
    b_range := M0 bz_range,
    b_dict := M0 bz_dict,
    b_enumerate := M0 bz_enumerate,
    b_all := M0 bz_all,
    b_min := M0 bz_min,
    b_int := M0 bz_int,
    b_abs := M0 bz_abs,
    g_law_dice := M nk_law_dice,
    e_law_dice := funE_of lk_law_dice dk_law_dice kk_law_dice (fun us hl => match us, hl with | [_], _ => rfl),
    g_law_roll := M nk_law_roll,
    e_law_roll := funE_of lk_law_roll dk_law_roll kk_law_roll (fun us hl => match us, hl with | [_, _], _ => rfl),
    g_law_rounds := M nk_law_rounds,
    e_law_rounds := funE_of lk_law_rounds dk_law_rounds kk_law_rounds (fun us hl => match us, hl with | [_, _], _ => rfl),
    g_law_told := M nk_law_told,
    l_told := ⟨_, _, _, _, _, _, _, _, _, lk_law_told, dk_law_told, kk_law_told, .all (fun us hl => match us, hl with | [_], _ => rfl)⟩,
    g_law_figures := M nk_law_figures,
    e_law_figures := funE_of lk_law_figures dk_law_figures kk_law_figures (fun us hl => match us, hl with | [_, _], _ => rfl),
    g_pennants := M nk_pennants,
    e_pennants := funE_of lk_pennants dk_pennants kk_pennants (fun us hl => match us, hl with | [_, _], _ => rfl),
    g_read_pennants := M nk_read_pennants,
    e_read_pennants := funC_of lk_read_pennants dk_read_pennants kk_read_pennants (fun us hl => match us, hl with | [_, _], _ => rfl),
    g_sum_of_figures := M nk_sum_of_figures,
    e_sum_of_figures := funC_of lk_sum_of_figures dk_sum_of_figures kk_sum_of_figures (fun us hl => match us, hl with | [_, _], _ => rfl),
    g_turned_number := M nk_turned_number,
    e_turned_number := funE_of lk_turned_number dk_turned_number kk_turned_number (fun us hl => match us, hl with | [_, _], _ => rfl),
    g_by_substitutes := M nk_by_substitutes,
    e_by_substitutes := funE_of lk_by_substitutes dk_by_substitutes kk_by_substitutes (fun us hl => match us, hl with | [_], _ => rfl),
    g_without_substitutes := M nk_without_substitutes,
    e_without_substitutes := funE_of lk_without_substitutes dk_without_substitutes kk_without_substitutes (fun us hl => match us, hl with | [_], _ => rfl),
    g_check_flag := M nk_check_flag,
    e_check_flag := funC_of lk_check_flag dk_check_flag kk_check_flag (fun us hl => match us, hl with | [_], _ => rfl),
    g_with_check := M nk_with_check,
    e_with_check := funC_of lk_with_check dk_with_check kk_with_check (fun us hl => match us, hl with | [_], _ => rfl),
    g_law_sum := M nk_law_sum,
    e_law_sum := funE_of lk_law_sum dk_law_sum kk_law_sum (fun us hl => match us, hl with | [_], _ => rfl),
    g_is_checked := M nk_is_checked,
    e_is_checked := funC_of lk_is_checked dk_is_checked kk_is_checked (fun us hl => match us, hl with | [_], _ => rfl),
    g_exchanged := M nk_exchanged,
    e_exchanged := funE_of lk_exchanged dk_exchanged kk_exchanged (fun us hl => match us, hl with | [_, _], _ => rfl),
    g_hidden_figure := M nk_hidden_figure,
    e_hidden_figure := funE_of lk_hidden_figure dk_hidden_figure kk_hidden_figure (fun us hl => match us, hl with | [_], _ => rfl),
    g_ups_and_downs := M nk_ups_and_downs,
    e_ups_and_downs := funE_of lk_ups_and_downs dk_ups_and_downs kk_ups_and_downs (fun us hl => match us, hl with | [_], _ => rfl),
    g_fewest_pennants := M nk_fewest_pennants,
    e_fewest_pennants := funE_of lk_fewest_pennants dk_fewest_pennants kk_fewest_pennants (fun us hl => match us, hl with | [_], _ => rfl),
    g_law_cases1 := M nk_law_cases1,
    e_law_cases1 := funC_of lk_law_cases1 dk_law_cases1 kk_law_cases1 (fun us hl => match us, hl with | [], _ => rfl),
    g_law_rest1 := M nk_law_rest1,
    e_law_rest1 := funC_of lk_law_rest1 dk_law_rest1 kk_law_rest1 (fun us hl => match us, hl with | [_], _ => rfl),
    g_law := M nk_law,
    e_law := funC_of lk_law dk_law kk_law (fun us hl => match us, hl with | [_], _ => rfl),
    x_BadBook := ⟨xe_BadBook, M xn_BadBook, xk_BadBook, xs_BadBook, xt_BadBook⟩,
    x_BadHoist := ⟨xe_BadHoist, M xn_BadHoist, xk_BadHoist, xs_BadHoist, xt_BadHoist⟩,
    x_BadFlag := ⟨xe_BadFlag, M xn_BadFlag, xk_BadFlag, xs_BadFlag, xt_BadFlag⟩,
    x_BadFleet := ⟨xe_BadFleet, M xn_BadFleet, xk_BadFleet, xs_BadFleet, xt_BadFleet⟩,
    x_Foul := M xn_Foul,
    x_NoWay := ⟨xe_NoWay, M xn_NoWay, xk_NoWay, xs_NoWay, xt_NoWay⟩,
    x_TooLarge := ⟨xe_TooLarge, M xn_TooLarge, xk_TooLarge, xs_TooLarge, xt_TooLarge⟩,
    x_Unclear := M xn_Unclear,
    x_BadText := M xn_BadText,
    exm := exm_by exq,
    v_FIGURES := glD_of rfl (M cn_FIGURES) cq_FIGURES,
    tb_read_pennants := hTB (k_read_pennants, t_read_pennants) (by simp),
    tb_sum_of_figures := hTB (k_sum_of_figures, t_sum_of_figures) (by simp),
    tb_check_flag := hTB (k_check_flag, t_check_flag) (by simp),
    tb_with_check := hTB (k_with_check, t_with_check) (by simp),
    tb_is_checked := hTB (k_is_checked, t_is_checked) (by simp),
    tb_law_cases1 := hTB (k_law_cases1, t_law_cases1) (by simp),
    tb_law_rest1 := hTB (k_law_rest1, t_law_rest1) (by simp),
    tb_law := hTB (k_law, t_law) (by simp),
    ne_read_pennants_sum_of_figures := ne_read_pennants_sum_of_figures,
    ne_read_pennants_check_flag := ne_read_pennants_check_flag,
    ne_read_pennants_with_check := ne_read_pennants_with_check,
    ne_read_pennants_is_checked := ne_read_pennants_is_checked,
    ne_read_pennants_law_cases1 := ne_read_pennants_law_cases1,
    ne_read_pennants_law_rest1 := ne_read_pennants_law_rest1,
    ne_read_pennants_law := ne_read_pennants_law,
    ne_sum_of_figures_check_flag := ne_sum_of_figures_check_flag,
    ne_sum_of_figures_with_check := ne_sum_of_figures_with_check,
    ne_sum_of_figures_is_checked := ne_sum_of_figures_is_checked,
    ne_sum_of_figures_law_cases1 := ne_sum_of_figures_law_cases1,
    ne_sum_of_figures_law_rest1 := ne_sum_of_figures_law_rest1,
    ne_sum_of_figures_law := ne_sum_of_figures_law,
    ne_check_flag_with_check := ne_check_flag_with_check,
    ne_check_flag_is_checked := ne_check_flag_is_checked,
    ne_check_flag_law_cases1 := ne_check_flag_law_cases1,
    ne_check_flag_law_rest1 := ne_check_flag_law_rest1,
    ne_check_flag_law := ne_check_flag_law,
    ne_with_check_is_checked := ne_with_check_is_checked,
    ne_with_check_law_cases1 := ne_with_check_law_cases1,
    ne_with_check_law_rest1 := ne_with_check_law_rest1,
    ne_with_check_law := ne_with_check_law,
    ne_is_checked_law_cases1 := ne_is_checked_law_cases1,
    ne_is_checked_law_rest1 := ne_is_checked_law_rest1,
    ne_is_checked_law := ne_is_checked_law,
    ne_law_cases1_law_rest1 := ne_law_cases1_law_rest1,
    ne_law_cases1_law := ne_law_cases1_law,
    ne_law_rest1_law := ne_law_rest1_law }
  refine ⟨_, [(k_read_pennants, t_read_pennants), (k_sum_of_figures, t_sum_of_figures), (k_check_flag, t_check_flag), (k_with_check, t_with_check), (k_is_checked, t_is_checked), (k_law_cases1, t_law_cases1), (k_law_rest1, t_law_rest1), (k_law, t_law)], spLaw K (tabsA ⟨f_law_dice, f_law_roll, f_law_rounds, f_law_told, f_law_figures, f_pennants, f_read_pennants, f_sum_of_figures, f_turned_number, f_by_substitutes, f_without_substitutes, f_check_flag, f_with_check, f_law_sum, f_is_checked, f_exchanged, f_hidden_figure, f_ups_and_downs, f_fewest_pennants, f_law_cases1, f_law_rest1, f_law, x_BadBook, x_BadHoist, x_BadFlag, x_BadFleet, x_Foul, x_NoWay, x_TooLarge, x_Unclear, x_BadText, k_read_pennants, t_read_pennants, k_sum_of_figures, t_sum_of_figures, k_check_flag, t_check_flag, k_with_check, t_with_check, k_is_checked, t_is_checked, k_law_cases1, t_law_cases1, k_law_rest1, t_law_rest1, k_law, t_law⟩), fun p hp => ?_, fun p hp => ?_, fun p hp => ?_, fun s u => .of_eq rfl, fun H a ns hl hb hT hS => ⟨a, ns, rfl, hS, fun p hp => ?_, fun _ => rfl⟩, fun base _ _ hTB => ok_law (TT base hTB) lk_law dk_law hF⟩
  · simp only [List.mem_cons, List.not_mem_nil, or_false] at hp
    rcases hp with rfl | rfl | rfl | rfl | rfl | rfl | rfl | rfl
    · exact hTS _ zt_read_pennants
    · exact hTS _ zt_sum_of_figures
    · exact hTS _ zt_check_flag
    · exact hTS _ zt_with_check
    · exact hTS _ zt_is_checked
    · exact hTS _ zt_law_cases1
    · exact hTS _ zt_law_rest1
    · exact hTS _ zt_law
  · simp only [List.mem_cons, List.not_mem_nil, or_false] at hp
    rcases hp with rfl | rfl | rfl | rfl | rfl | rfl | rfl | rfl
    · exact zn_read_pennants
    · exact zn_sum_of_figures
    · exact zn_check_flag
    · exact zn_with_check
    · exact zn_is_checked
    · exact zn_law_cases1
    · exact zn_law_rest1
    · exact zn_law
  · simp only [List.mem_cons, List.not_mem_nil, or_false] at hp
    rcases hp with rfl | rfl | rfl | rfl | rfl | rfl | rfl | rfl
    · exact PySem.W.codeHd_of_K X zh_read_pennants
    · exact PySem.W.codeHd_of_K X zh_sum_of_figures
    · exact PySem.W.codeHd_of_K X zh_check_flag
    · exact PySem.W.codeHd_of_K X zh_with_check
    · exact PySem.W.codeHd_of_K X zh_is_checked
    · exact PySem.W.codeHd_of_K X zh_law_cases1
    · exact PySem.W.codeHd_of_K X zh_law_rest1
    · exact PySem.W.codeHd_of_K X zh_law
  · unfold tabsA at hp
    simp only [List.mem_cons, List.not_mem_nil, or_false] at hp
    rcases hp with rfl | rfl | rfl | rfl | rfl | rfl | rfl | rfl
    · exact hT (k_read_pennants, t_read_pennants) (by simp)
    · exact hT (k_sum_of_figures, t_sum_of_figures) (by simp)
    · exact hT (k_check_flag, t_check_flag) (by simp)
    · exact hT (k_with_check, t_with_check) (by simp)
    · exact hT (k_is_checked, t_is_checked) (by simp)
    · exact hT (k_law_cases1, t_law_cases1) (by simp)
    · exact hT (k_law_rest1, t_law_rest1) (by simp)
    · exact hT (k_law, t_law) (by simp)
end K08
set_option Elab.async false
set_option linter.all false
set_option maxRecDepth 100000
namespace DL
noncomputable def bdF {α β : Type} (m : R α) (k : α → R β) : R β := @R.rec α (fun _ => R β) k (fun e => .err e) .stuck (fun m _ ih => .roll m ih) m
theorem bd_f {α β : Type} (m : R α) (k : α → R β) : (m >>= k) = bdF m k := by
  induction m with
  | ok a => rfl
  | err e => rfl
  | stuck => rfl
  | roll m f ih => show R.roll m (fun i => f i >>= k) = R.roll m (fun i => bdF (f i) k); congr; funext i; exact ih i
noncomputable def onF {α : Type} (m : R α) (r : LE) (k : α → R Out) : R Out := @R.rec α (fun _ => R Out) k (fun e => .ok (.ex e r)) .stuck (fun m _ ih => .roll m ih) m
theorem on_f {α : Type} (m : R α) (r : LE) (k : α → R Out) : m.onS r k = onF m r k := by
  induction m with
  | ok a => rfl
  | err e => rfl
  | stuck => rfl
  | roll m f ih => show R.roll m (fun i => (f i).onS r k) = R.roll m (fun i => onF (f i) r k); congr; funext i; exact ih i
noncomputable def cmF {α : Type} (m : R α) : R α := @R.rec α (fun _ => R α) (fun a => .ok a) (fun _ => .stuck) .stuck (fun m _ ih => .roll m ih) m
theorem cm_f {α : Type} (m : R α) : m.calm = cmF m := by
  induction m with
  | ok a => rfl
  | err e => rfl
  | stuck => rfl
  | roll m f ih => show R.roll m (fun i => (f i).calm) = R.roll m (fun i => cmF (f i)); congr; funext i; exact ih i
noncomputable def bifF {α : Type} (b : Bool) (x y : α) : α := @Bool.rec (fun _ => α) y x b
theorem bif_f {α : Type} (b : Bool) (x y : α) : (if b = true then x else y) = bifF b x y := by cases b <;> rfl
theorem dec_f {α : Type} (p : Prop) [Decidable p] (b : Bool) (h : (b = true) ↔ p) (x y : α) : (if p then x else y) = bifF b x y := by
  cases b with
  | true => exact if_pos (h.mp rfl)
  | false => exact if_neg fun q => Bool.noConfusion (h.mpr q)
noncomputable def getF (r : LE) : Nat → Cell := @List.rec Cell (fun _ => Nat → Cell) (fun _ => .un) (fun c _ ih i => @Nat.rec (fun _ => Cell) c (fun i _ => ih i) i) r
theorem get_f : ∀ (r : LE) (i : Nat), r[i]? = (if i < r.length then some (getF r i) else none)
  | [], i => by simp
  | c :: r, 0 => by
    rw [if_pos (by simp)]
    rfl
  | c :: r, i + 1 => by
    rw [List.getElem?_cons_succ, get_f r i, List.length_cons]
    by_cases h : i < r.length
    · rw [if_pos h, if_pos (by omega)]; rfl
    · rw [if_neg h, if_neg (by omega)]
theorem getF_un : ∀ (r : LE) (i : Nat), ¬ i < r.length → getF r i = .un
  | [], i, _ => rfl
  | c :: r, 0, h => absurd (by simp) h
  | c :: r, i + 1, h => getF_un r i (by simpa using h)
noncomputable def setF (r : LE) : Nat → Cell → LE := @List.rec Cell (fun _ => Nat → Cell → LE) (fun _ _ => []) (fun c t ih i x => @Nat.rec (fun _ => LE) (x :: t) (fun i _ => c :: ih i x) i) r
theorem set_f : ∀ (r : LE) (i : Nat) (x : Cell), r.set i x = setF r i x
  | [], _, _ => rfl
  | c :: r, 0, x => rfl
  | c :: r, i + 1, x => by show c :: r.set i x = c :: setF r i x; rw [set_f r i x]
/-- the state with its cells in sight -/
noncomputable def nfF {α : Type} (r : LE) : (LE → α) → α := @List.rec Cell (fun _ => (LE → α) → α) (fun k => k []) (fun c _ ih k => ih fun t => k (c :: t)) r
theorem nf_f {α : Type} : ∀ (r : LE) (k : LE → α), nfF r k = k r
  | [], k => rfl
  | c :: r, k => by show nfF r (fun t => k (c :: t)) = k (c :: r); rw [nf_f r]
noncomputable def nxF (r : LE) : R Out := nfF r fun r => .ok (.nx r)
theorem nx_f (r : LE) : R.ok (.nx r) = nxF r := by unfold nxF; rw [nf_f]
noncomputable def cellF {α : Type} (c : Cell) (z : α) (f g : D → α) : α := @Cell.rec (fun _ => α) z f g c
noncomputable def varF (i : Nat) : LE → R D := fun r => cellF (getF r i) .stuck (fun d => .ok d) (fun _ => .stuck)
theorem var_f (i : Nat) : var i = varF i := by
  funext r
  unfold var varF
  rw [get_f]
  by_cases h : i < r.length
  · rw [if_pos h]
    cases getF r i <;> rfl
  · rw [if_neg h, getF_un r i h]
    rfl
noncomputable def varPF (i : Nat) : LE → R D := fun r => cellF (getF r i) .stuck (fun d => .ok d) (fun d => .ok d)
theorem varP_f (i : Nat) : varP i = varPF i := by
  funext r
  unfold varP varPF
  rw [get_f]
  by_cases h : i < r.length
  · rw [if_pos h]
    cases getF r i <;> rfl
  · rw [if_neg h, getF_un r i h]
    rfl
noncomputable def asF (d : D) : R Bool := match d with
  | .bl b => .ok b
  | _ => .stuck
theorem as_f : asB = asF := by funext d; cases d <;> rfl
noncomputable def andTF (f g : LE → R Bool) : LE → R Bool := fun r => bdF (f r) fun b => bifF b (g r) (.ok false)
theorem andT_f (f g : LE → R Bool) : andT f g = andTF f g := by
  funext r; unfold andT andTF; rw [bd_f]; congr; funext b; cases b <;> rfl
noncomputable def orTF (f g : LE → R Bool) : LE → R Bool := fun r => bdF (f r) fun b => bifF b (.ok true) (g r)
theorem orT_f (f g : LE → R Bool) : orT f g = orTF f g := by
  funext r; unfold orT orTF; rw [bd_f]; congr; funext b; cases b <;> rfl
noncomputable def notTF (f : LE → R Bool) : LE → R Bool := fun r => bdF (f r) fun b => .ok (@Bool.rec (fun _ => Bool) true false b)
theorem notT_f (f : LE → R Bool) : notT f = notTF f := by
  funext r; unfold notT notTF; rw [bd_f]; congr; funext b; cases b <;> rfl
noncomputable def blF {α : Type} (d : D) (t f z : α) : α := match d with
  | .bl b => @Bool.rec (fun _ => α) f t b
  | _ => z
noncomputable def andVF (f g : LE → R D) : LE → R D := fun r => bdF (f r) fun d => blF d (g r) (.ok (.bl false)) .stuck
theorem andV_f (f g : LE → R D) : andV f g = andVF f g := by
  funext r; unfold andV andVF; rw [bd_f]; congr; funext d; cases d <;> try rfl
  rename_i b; cases b <;> rfl
noncomputable def iteEF (c : LE → R Bool) (f g : LE → R D) : LE → R D := fun r => bdF (c r) fun b => bifF b (f r) (g r)
theorem iteE_f (c : LE → R Bool) (f g : LE → R D) : iteE c f g = iteEF c f g := by
  funext r; unfold iteE iteEF; rw [bd_f]; congr; funext b; cases b <;> rfl
noncomputable def opEF (g : D → D → R D) (f k : LE → R D) : LE → R D := fun r => bdF (f r) fun x => bdF (k r) fun y => g x y
theorem opE_f (g : D → D → R D) (f k : LE → R D) : opE g f k = opEF g f k := by
  funext r; unfold opE opEF; rw [bd_f]; congr; funext x; rw [bd_f]
noncomputable def cmpTF (g : D → D → R D) (f k : LE → R D) : LE → R Bool := fun r => bdF (f r) fun x => bdF (k r) fun y => bdF (g x y) asF
theorem bdF_assoc {α β γ : Type} (m : R α) (k : α → R β) (l : β → R γ) : bdF (bdF m k) l = bdF m fun x => bdF (k x) l := by
  induction m with
  | ok a => rfl
  | err e => rfl
  | stuck => rfl
  | roll m f ih => show R.roll m (fun i => bdF (bdF (f i) k) l) = R.roll m (fun i => bdF (f i) fun x => bdF (k x) l); congr; funext i; exact ih i
theorem cmpT_f (g : D → D → R D) (f k : LE → R D) : cmpT g f k = cmpTF g f k := by
  funext r; unfold cmpT cmpTF; rw [bd_f, bd_f, bdF_assoc]; congr; funext x; rw [bd_f, bdF_assoc, as_f]
noncomputable def valTF (f : LE → R D) : LE → R Bool := fun r => bdF (f r) asF
theorem valT_f (f : LE → R D) : valT f = valTF f := by funext r; unfold valT valTF; rw [bd_f, as_f]
noncomputable def chainEF (f1 f2 f3 : LE → R D) (g g' : D → D → R D) : LE → R D := fun r => bdF (f1 r) fun x => bdF (f2 r) fun y => bdF (g x y) fun d => blF d (bdF (f3 r) fun w => g' y w) (.ok (.bl false)) .stuck
theorem chainE_f (f1 f2 f3 : LE → R D) (g g' : D → D → R D) : chainE f1 f2 f3 g g' = chainEF f1 f2 f3 g g' := by
  funext r; unfold chainE chainEF; rw [bd_f]; congr; funext x; rw [bd_f]; congr; funext y; rw [bd_f]; congr; funext d; cases d <;> try rfl
  rename_i b
  cases b
  · rfl
  · exact bd_f _ _
noncomputable def chainTF (f1 f2 f3 : LE → R D) (g g' : D → D → R D) : LE → R Bool := fun r => bdF (chainEF f1 f2 f3 g g' r) asF
theorem chainT_f (f1 f2 f3 : LE → R D) (g g' : D → D → R D) : chainT f1 f2 f3 g g' = chainTF f1 f2 f3 g g' := by
  funext r; unfold chainT chainTF; rw [bd_f, as_f, chainE_f]
noncomputable def lenF {α : Type} (l : List α) : Nat := @List.rec α (fun _ => Nat) 0 (fun _ _ n => Nat.succ n) l
theorem len_f {α : Type} : ∀ l : List α, l.length = lenF l
  | [] => rfl
  | a :: l => by show l.length + 1 = lenF l + 1; rw [len_f l]
/-- at most as long: looked at no further than needed -/
noncomputable def okLenF {α : Type} (l : List α) : Bool := Nat.ble (lenF l) 16777216
theorem okLen_f {α β : Type} (l : List α) (x y : β) : (if l.length ≤ 16777216 then x else y) = bifF (okLenF l) x y :=
  dec_f _ _ (by unfold okLenF; rw [Nat.ble_eq, len_f]) x y
noncomputable def aconsF (f : LE → R D) (fs : LE → R (List D)) : LE → R (List D) := fun r => bdF (f r) fun x => bdF (fs r) fun xs => .ok (x :: xs)
theorem acons_f (f : LE → R D) (fs : LE → R (List D)) : acons f fs = aconsF f fs := by
  funext r; unfold acons aconsF; rw [bd_f]; congr; funext x; rw [bd_f]
noncomputable def tupEF (fs : LE → R (List D)) : LE → R D := fun r => bdF (fs r) fun ds => bifF (okLenF ds) (.ok (.tup ds)) .stuck
theorem tupE_f (fs : LE → R (List D)) : tupE fs = tupEF fs := by
  funext r; unfold tupE tupEF; rw [bd_f]; congr; funext ds; exact okLen_f ..
noncomputable def lstEF (fs : LE → R (List D)) : LE → R (List D) := fun r => bdF (fs r) fun ds => bifF (okLenF ds) (.ok ds) .stuck
theorem lstE_f (fs : LE → R (List D)) : lstE fs = lstEF fs := by
  funext r; unfold lstE lstEF; rw [bd_f]; congr; funext ds; exact okLen_f ..
noncomputable def lEF (f : LE → R (List D)) : LE → R D := fun r => bdF (f r) fun ds => .ok (.lst ds)
theorem lE_f (f : LE → R (List D)) : lE f = lEF f := by funext r; unfold lE lEF; rw [bd_f]
noncomputable def callEF (g : List D → R D) (fs : LE → R (List D)) : LE → R D := fun r => bdF (fs r) g
theorem callE_f (g : List D → R D) (fs : LE → R (List D)) : callE g fs = callEF g fs := by funext r; exact bd_f _ _
noncomputable def bmEF (T : String) (gg : D → List D → R D) (f : LE → R D) (fs : LE → R (List D)) : LE → R D := fun r => bdF (f r) fun x => bdF (isT T x) fun x => bdF (fs r) fun ds => gg x ds
theorem bmE_f (T : String) (gg : D → List D → R D) (f : LE → R D) (fs : LE → R (List D)) : bmE T gg f fs = bmEF T gg f fs := by
  funext r; unfold bmE bmEF; rw [bd_f]; congr; funext x; rw [bd_f]; congr; funext y; rw [bd_f]
noncomputable def toldDF (l : List (Nat × List Nat)) (m : R D) : R D := @R.rec D (fun _ => R D) (fun d => .ok d) (fun e => match l.lookup e.cls with
    | some s => .ok (.str s)
    | none => .stuck) .stuck (fun m _ ih => .roll m ih) m
noncomputable def toldEF (l : List (Nat × List Nat)) (f : LE → R D) : LE → R D := fun r => toldDF l (f r)
theorem toldE_f (l : List (Nat × List Nat)) (f : LE → R D) : toldE l f = toldEF l f := by
  funext r
  show toldD l (f r) = toldDF l (f r)
  generalize f r = m
  induction m with
  | ok a => rfl
  | err e => rfl
  | stuck => rfl
  | roll m f ih => show R.roll m (fun i => toldD l (f i)) = R.roll m (fun i => toldDF l (f i)); congr; funext i; exact ih i
noncomputable def itLF (f : LE → R D) : LE → R (List D) := fun r => bdF (f r) lstD
theorem itL_f (f : LE → R D) : itL f = itLF f := by funext r; exact bd_f _ _
noncomputable def signsF (s : List Nat) : List D := @List.rec Nat (fun _ => List D) [] (fun c _ ih => .str [c] :: ih) s
theorem signs_f : ∀ s : List Nat, (s.map fun c => D.str [c]) = signsF s
  | [] => rfl
  | c :: s => by show D.str [c] :: _ = D.str [c] :: signsF s; rw [← signs_f s]
noncomputable def itSF (f : LE → R D) : LE → R (List D) := fun r => bdF (f r) fun d => match d with
  | .str s => .ok (signsF s)
  | _ => .stuck
theorem itS_f (f : LE → R D) : itS f = itSF f := by
  funext r; unfold itS itSF; rw [bd_f]; congr; funext d; cases d <;> try rfl
  show R.ok _ = R.ok _
  rw [signs_f]
noncomputable def rngLF (n : Nat) : Int → List D := @Nat.rec (fun _ => Int → List D) (fun _ => []) (fun _ ih i => .int i :: ih (i + 1)) n
theorem rngL_f : ∀ (n : Nat) (lo : Int), rangeL lo n = rngLF n lo
  | 0, lo => rfl
  | n + 1, lo => by
    show rangeL lo (n + 1) = D.int lo :: rngLF n (lo + 1)
    rw [← rngL_f n (lo + 1)]
    unfold rangeL
    rw [List.range_succ_eq_map, List.map_cons, List.map_map]
    congr 1
    · simp
    · refine List.map_congr_left fun i _ => ?_
      show D.int (lo + ((i + 1 : Nat) : Int)) = D.int (lo + 1 + (i : Int))
      congr 1; omega
noncomputable def rngNF (n : Nat) : Nat → List D := @Nat.rec (fun _ => Nat → List D) (fun _ => []) (fun _ ih i => .int (.ofNat i) :: ih (Nat.succ i)) n
theorem rngN_f : ∀ (n lo : Nat), rngLF n (.ofNat lo) = rngNF n lo
  | 0, lo => rfl
  | n + 1, lo => by
    show D.int (.ofNat lo) :: rngLF n (.ofNat lo + 1) = D.int (.ofNat lo) :: rngNF n (lo + 1)
    rw [← rngN_f n (lo + 1)]
    rfl
noncomputable def rng1F : List D → R (List D)
  | [.int j] => (match j with
    | .ofNat n => bifF (Nat.ble (Nat.succ n) 1073741824) (.ok (rngNF n 0)) .stuck
    | .negSucc n => bifF (Nat.ble (Nat.succ n) 1073741823) (.ok []) .stuck)
  | _ => .stuck
theorem rng1_f : rng1 = rng1F := by
  funext ds
  unfold rng1 rng1F
  split
  · rename_i j
    cases j with
    | ofNat n =>
      refine (dec_f _ (Nat.ble (Nat.succ n) 1073741824) (by rw [Nat.ble_eq]; show n + 1 ≤ _ ↔ ((n : Int) < _ ∧ _ < (n : Int)); omega) _ _).trans ?_
      congr 2
      rw [rngL_f]; exact rngN_f n 0
    | negSucc n =>
      refine (dec_f _ (Nat.ble (Nat.succ n) 1073741823) (by rw [Nat.ble_eq]; show n + 1 ≤ _ ↔ (Int.negSucc n < _ ∧ _ < Int.negSucc n); omega) _ _).trans ?_
      rfl
  · rename_i h
    first
    | rfl
    | (split
       · rename_i j; exact (h j rfl).elim
       · rfl)
noncomputable def rng1EF (fs : LE → R (List D)) : LE → R (List D) := fun r => bdF (fs r) rng1F
theorem rng1E_f (fs : LE → R (List D)) : rng1E fs = rng1EF fs := by funext r; unfold rng1E rng1EF; rw [bd_f, rng1_f]
noncomputable def rng2EF (fs : LE → R (List D)) : LE → R (List D) := fun r => bdF (fs r) rng2
theorem rng2E_f (fs : LE → R (List D)) : rng2E fs = rng2EF fs := by funext r; exact bd_f _ _
noncomputable def enumTEF (k : Int) (fs : LE → R (List D)) : LE → R (List D) := fun r => bdF (fs r) (enumTD k)
theorem enumTE_f (k : Int) (fs : LE → R (List D)) : enumTE k fs = enumTEF k fs := by funext r; exact bd_f _ _
noncomputable def gNF (i : Nat) : D → LE → Option LE := fun d r => some (setF r i (.val d))
theorem gN_f (i : Nat) : gN i = gNF i := by funext d r; unfold gN gNF; rw [set_f]
noncomputable def optF {α β : Type} (o : Option α) (z : β) (k : α → β) : β := @Option.rec α (fun _ => β) z k o
noncomputable def loopCF (gd : D → LE → Option LE) (tt : LE → R Bool) (te : LE → R D) (r : LE) (ds : List D) : R (List D) :=
  @List.rec D (fun _ => R (List D)) (.ok []) (fun d _ ih => optF (gd d r) .stuck fun r' => nfF r' fun r' => bdF (cmF (tt r')) fun b => bifF b (bdF (cmF (te r')) fun y => bdF ih fun ys => .ok (y :: ys)) ih) ds
theorem loopC_f (gd : D → LE → Option LE) (tt : LE → R Bool) (te : LE → R D) (r : LE) : ∀ ds, loopC gd tt te r ds = loopCF gd tt te r ds
  | [] => rfl
  | d :: ds => by
    show loopC gd tt te r (d :: ds) = optF (gd d r) .stuck fun r' => nfF r' fun r' => bdF (cmF (tt r')) fun b => bifF b (bdF (cmF (te r')) fun y => bdF (loopCF gd tt te r ds) fun ys => .ok (y :: ys)) (loopCF gd tt te r ds)
    unfold loopC
    cases gd d r with
    | none => rfl
    | some r' =>
      show ((tt r').calm >>= _) = nfF r' _
      rw [nf_f, bd_f, cm_f]
      congr
      funext b
      cases b with
      | false => exact loopC_f gd tt te r ds
      | true =>
        show ((te r').calm >>= _) = bdF (cmF (te r')) _
        rw [bd_f, cm_f]
        congr
        funext y
        rw [bd_f, loopC_f gd tt te r ds]
noncomputable def wipeF (r : LE) (vs : List Nat) : LE := @List.rec Nat (fun _ => LE) r (fun v _ ih => setF ih v .un) vs
theorem wipe_f (r : LE) : ∀ vs, wipeL r vs = wipeF r vs
  | [] => rfl
  | v :: vs => by show (wipeL r vs).set v .un = setF (wipeF r vs) v .un; rw [wipe_f r vs, set_f]
noncomputable def compFF (fi : LE → R (List D)) (gd : D → LE → Option LE) (tt : LE → R Bool) (te : LE → R D) (vs : List Nat) : LE → R (List D) := fun r => bdF (fi r) fun ds => bifF (okLenF ds) (loopCF gd tt te (wipeF r vs) ds) .stuck
theorem compF_f (fi : LE → R (List D)) (gd : D → LE → Option LE) (tt : LE → R Bool) (te : LE → R D) (vs : List Nat) : compF fi gd tt te vs = compFF fi gd tt te vs := by
  funext r; unfold compF compFF; rw [bd_f]; congr; funext ds; rw [okLen_f, loopC_f, wipe_f]
noncomputable def anyCF (x : Bool) (gd : D → LE → Option LE) (tt : LE → R Bool) (te : LE → R D) (r : LE) (ds : List D) : R Bool :=
  @List.rec D (fun _ => R Bool) (.ok (!x)) (fun d _ ih => optF (gd d r) .stuck fun r' => nfF r' fun r' => bdF (cmF (tt r')) fun b => bifF b (bdF (cmF (te r')) fun y => match y with
    | .bl c => bifF (c == x) (.ok x) ih
    | _ => .stuck) ih) ds
theorem anyC_f (x : Bool) (gd : D → LE → Option LE) (tt : LE → R Bool) (te : LE → R D) (r : LE) : ∀ ds, anyC x gd tt te r ds = anyCF x gd tt te r ds
  | [] => rfl
  | d :: ds => by
    show anyC x gd tt te r (d :: ds) = optF (gd d r) .stuck fun r' => nfF r' fun r' => bdF (cmF (tt r')) fun b => bifF b (bdF (cmF (te r')) fun y => match y with
    | .bl c => bifF (c == x) (.ok x) (anyCF x gd tt te r ds)
    | _ => .stuck) (anyCF x gd tt te r ds)
    unfold anyC
    cases gd d r with
    | none => rfl
    | some r' =>
      show ((tt r').calm >>= _) = nfF r' _
      rw [nf_f, bd_f, cm_f]
      congr
      funext b
      cases b with
      | false => exact anyC_f x gd tt te r ds
      | true =>
        show ((te r').calm >>= _) = bdF (cmF (te r')) _
        rw [bd_f, cm_f]
        congr
        funext y
        cases y <;> try rfl
        rename_i c
        show (if c = x then R.ok x else anyC x gd tt te r ds) = bifF (c == x) (.ok x) (anyCF x gd tt te r ds)
        rw [anyC_f x gd tt te r ds]
        exact dec_f _ _ (by simp) _ _
noncomputable def anyEF (x : Bool) (fi : LE → R (List D)) (gd : D → LE → Option LE) (tt : LE → R Bool) (te : LE → R D) (vs : List Nat) : LE → R D := fun r => bdF (fi r) fun ds => bdF (anyCF x gd tt te (wipeF r vs) ds) fun b => .ok (.bl b)
theorem anyE_f (x : Bool) (fi : LE → R (List D)) (gd : D → LE → Option LE) (tt : LE → R Bool) (te : LE → R D) (vs : List Nat) : anyE x fi gd tt te vs = anyEF x fi gd tt te vs := by
  funext r; unfold anyE anyEF; rw [bd_f]; congr; funext ds; rw [bd_f, anyC_f, wipe_f]
noncomputable def outF {α : Type} (o : Out) (n : LE → α) (d : D → α) (b c : LE → α) (e : Exc → LE → α) : α := @Out.rec (fun _ => α) n d b c e o
noncomputable def seqSF (F K : LE → R Out) : LE → R Out := fun r => bdF (F r) fun o => outF o K (fun d => .ok (.rt d)) (fun r => .ok (.bk r)) (fun r => .ok (.ct r)) (fun e r => .ok (.ex e r))
theorem seqS_f (F K : LE → R Out) : seqS F K = seqSF F K := by
  funext r; unfold seqS seqSF; rw [bd_f]; congr; funext o; cases o <;> rfl
noncomputable def retSF (f : LE → R D) : LE → R Out := fun r => onF (f r) r fun d => .ok (.rt d)
theorem retS_f (f : LE → R D) : retS f = retSF f := by funext r; exact on_f ..
noncomputable def ifSF (c : LE → R Bool) (F K : LE → R Out) : LE → R Out := fun r => onF (c r) r fun b => bifF b (F r) (K r)
theorem ifS_f (c : LE → R Bool) (F K : LE → R Out) : ifS c F K = ifSF c F K := by
  funext r; unfold ifS ifSF; rw [on_f]; congr; funext b; cases b <;> rfl
noncomputable def valKF (f : LE → R D) : LE → R Cell := fun r => bdF (f r) fun d => .ok (.val d)
theorem valK_f (f : LE → R D) : valK f = valKF f := by funext r; exact bd_f ..
noncomputable def ownKF (f : LE → R (List D)) : LE → R Cell := fun r => bdF (f r) fun d => .ok (.own (.lst d))
theorem ownK_f (f : LE → R (List D)) : ownK f = ownKF f := by funext r; exact bd_f ..
noncomputable def setKF (i : Nat) (f : LE → R Cell) : LE → R Out := fun r => onF (f r) r fun c => cellF c .stuck (fun d => nxF (setF r i (.val d))) (fun d => nxF (setF r i (.own d)))
theorem onF_bdF {α β : Type} (m : R α) (g : α → R β) (r : LE) (k : β → R Out) : onF (bdF m g) r k = onF m r fun x => onF (g x) r k := by
  induction m with
  | ok a => rfl
  | err e => rfl
  | stuck => rfl
  | roll m f ih => show R.roll m (fun i => onF (bdF (f i) g) r k) = R.roll m (fun i => onF (f i) r fun x => onF (g x) r k); congr; funext i; exact ih i
theorem setK_f (i : Nat) (f : LE → R Cell) : setK i f = setKF i f := by
  funext r; unfold setK setKF; rw [bd_f, on_f, onF_bdF]; congr; funext c
  cases c with
  | un => rfl
  | val d => show R.ok (Out.nx (r.set i (.val d))) = nxF _; rw [← nx_f, set_f]
  | own d => show R.ok (Out.nx (r.set i (.own d))) = nxF _; rw [← nx_f, set_f]
noncomputable def parKF (i j : Nat) (f g : LE → R Cell) : LE → R Out := fun r => onF (f r) r fun c => onF (okK c) r fun c => onF (g r) r fun c' => onF (okK c') r fun c' => .ok (.nx (setF (setF r i c) j c'))
theorem parK_f (i j : Nat) (f g : LE → R Cell) : parK i j f g = parKF i j f g := by
  funext r; unfold parK parKF; rw [bd_f, on_f, onF_bdF]; congr; funext c; congr; funext c; rw [bd_f, on_f, onF_bdF]; congr; funext c'; congr; funext c'; rw [set_f, set_f]
noncomputable def loopSF (gd : D → LE → Option LE) (body : LE → R Out) (ds : List D) : LE → R Out :=
  @List.rec D (fun _ => LE → R Out) (fun r => .ok (.nx r)) (fun d _ ih r => optF (gd d r) .stuck fun r' => nfF r' fun r' => bdF (body r') fun o => outF o ih (fun d => .ok (.rt d)) (fun r => .ok (.nx r)) ih (fun e r => .ok (.ex e r))) ds
theorem loopS_f (gd : D → LE → Option LE) (body : LE → R Out) : ∀ (ds : List D) (r : LE), loopS gd body ds r = loopSF gd body ds r
  | [], r => rfl
  | d :: ds, r => by
    show loopS gd body (d :: ds) r = optF (gd d r) .stuck fun r' => nfF r' fun r' => bdF (body r') fun o => outF o (loopSF gd body ds) (fun d => .ok (.rt d)) (fun r => .ok (.nx r)) (loopSF gd body ds) (fun e r => .ok (.ex e r))
    unfold loopS
    cases gd d r with
    | none => rfl
    | some r' =>
      show (body r' >>= _) = nfF r' _
      rw [nf_f, bd_f]
      congr
      funext o
      cases o <;> first | rfl | exact loopS_f gd body ds _
noncomputable def forSF (fi : LE → R (List D)) (gd : D → LE → Option LE) (body : LE → R Out) : LE → R Out := fun r => onF (fi r) r fun ds => loopSF gd body ds r
theorem forS_f (fi : LE → R (List D)) (gd : D → LE → Option LE) (body : LE → R Out) : forS fi gd body = forSF fi gd body := by
  funext r; unfold forS forSF; rw [on_f]; congr; funext ds; exact loopS_f ..
noncomputable def whileSF (n : Nat) (c : LE → R Bool) (F : LE → R Out) : LE → R Out :=
  @Nat.rec (fun _ => LE → R Out) (fun _ => .stuck) (fun _ ih r => onF (c r) r fun b => bifF b (bdF (F r) fun o => outF o ih (fun d => .ok (.rt d)) (fun r => .ok (.nx r)) ih (fun e r => .ok (.ex e r))) (.ok (.nx r))) n
theorem whileS_f' (c : LE → R Bool) (F : LE → R Out) : ∀ (n : Nat) (r : LE), whileS n c F r = whileSF n c F r
  | 0, r => rfl
  | n + 1, r => by
    show whileS (n + 1) c F r = onF (c r) r fun b => bifF b (bdF (F r) fun o => outF o (whileSF n c F) (fun d => .ok (.rt d)) (fun r => .ok (.nx r)) (whileSF n c F) (fun e r => .ok (.ex e r))) (.ok (.nx r))
    unfold whileS
    rw [on_f]
    congr
    funext b
    cases b with
    | false => rfl
    | true =>
      show (F r >>= _) = bdF (F r) _
      rw [bd_f]
      congr
      funext o
      cases o <;> first | rfl | exact whileS_f' c F n _
theorem whileS_f (n : Nat) (c : LE → R Bool) (F : LE → R Out) : whileS n c F = whileSF n c F := funext (whileS_f' c F n)
noncomputable def runFF (n m : Nat) (F : LE → R Out) (ds : List D) : R D := bifF (Nat.beq (lenF ds) n) (bdF (cmF (F (ds.map Cell.val ++ List.replicate (m - n) Cell.un))) fun o => outF o (fun _ => .ok .non) (fun d => .ok d) (fun _ => .stuck) (fun _ => .stuck) (fun e _ => .err e)) .stuck
theorem runF_f (n m : Nat) (F : LE → R Out) : runF n m F = runFF n m F := by
  funext ds
  unfold runF runFF
  refine (dec_f _ (Nat.beq (lenF ds) n) (by rw [← len_f]; exact ⟨Nat.eq_of_beq_eq_true, fun h => by rw [h]; exact Nat.beq_refl n⟩) _ _).trans ?_
  congr
  rw [bd_f, cm_f]
  congr
  funext o
  cases o <;> rfl
end DL
set_option Elab.async false
set_option linter.all false
set_option maxRecDepth 100000
namespace DL
open L2
noncomputable def iltF (i j : Int) : Bool := @Int.rec (fun _ => Int → Bool) (fun m j => @Int.rec (fun _ => Bool) (fun n => Nat.ble (Nat.succ m) n) (fun _ => false) j) (fun m j => @Int.rec (fun _ => Bool) (fun _ => true) (fun n => Nat.ble (Nat.succ n) m) j) i j
theorem ilt_f (i j : Int) : decide (i < j) = iltF i j := by
  rw [Bool.eq_iff_iff, decide_eq_true_iff]
  cases i with
  | ofNat m =>
    cases j with
    | ofNat n => show _ ↔ Nat.ble (Nat.succ m) n = true; rw [Nat.ble_eq]; show (m : Int) < (n : Int) ↔ m + 1 ≤ n; omega
    | negSucc n => show _ ↔ false = true; simp; omega
  | negSucc m =>
    cases j with
    | ofNat n => show _ ↔ true = true; simp; omega
    | negSucc n => show _ ↔ Nat.ble (Nat.succ n) m = true; rw [Nat.ble_eq]; show _ ↔ n + 1 ≤ m; omega
noncomputable def ileF (i j : Int) : Bool := @Int.rec (fun _ => Int → Bool) (fun m j => @Int.rec (fun _ => Bool) (fun n => Nat.ble m n) (fun _ => false) j) (fun m j => @Int.rec (fun _ => Bool) (fun _ => true) (fun n => Nat.ble n m) j) i j
theorem ile_f (i j : Int) : decide (i ≤ j) = ileF i j := by
  rw [Bool.eq_iff_iff, decide_eq_true_iff]
  cases i with
  | ofNat m =>
    cases j with
    | ofNat n => show _ ↔ Nat.ble m n = true; rw [Nat.ble_eq]; show (m : Int) ≤ (n : Int) ↔ m ≤ n; omega
    | negSucc n => show _ ↔ false = true; simp; omega
  | negSucc m =>
    cases j with
    | ofNat n => show _ ↔ true = true; simp; omega
    | negSucc n => show _ ↔ Nat.ble n m = true; rw [Nat.ble_eq]; omega
noncomputable def ieqF (i j : Int) : Bool := @Int.rec (fun _ => Int → Bool) (fun m j => @Int.rec (fun _ => Bool) (fun n => Nat.beq m n) (fun _ => false) j) (fun m j => @Int.rec (fun _ => Bool) (fun _ => false) (fun n => Nat.beq m n) j) i j
theorem beq_iff_nat {m n : Nat} : Nat.beq m n = true ↔ m = n := ⟨Nat.eq_of_beq_eq_true, fun h => by rw [h]; exact Nat.beq_refl n⟩
theorem ieq_f (i j : Int) : (i == j) = ieqF i j := by
  rw [Bool.eq_iff_iff, beq_iff_eq]
  cases i with
  | ofNat m =>
    cases j with
    | ofNat n => show _ ↔ Nat.beq m n = true; rw [beq_iff_nat]; show (m : Int) = (n : Int) ↔ m = n; omega
    | negSucc n => show _ ↔ false = true; simp
  | negSucc m =>
    cases j with
    | ofNat n => show _ ↔ false = true; simp
    | negSucc n => show _ ↔ Nat.beq m n = true; rw [beq_iff_nat]; omega
/-- numbers with the least work: both natural first -/
noncomputable def iaddF (i j : Int) : Int := @Int.rec (fun _ => Int → Int) (fun m j => @Int.rec (fun _ => Int) (fun n => .ofNat (Nat.add m n)) (fun n => .subNatNat m (Nat.succ n)) j) (fun m j => @Int.rec (fun _ => Int) (fun n => .subNatNat n (Nat.succ m)) (fun n => .negSucc (Nat.succ (Nat.add m n))) j) i j
theorem iadd_f (i j : Int) : i + j = iaddF i j := by cases i <;> cases j <;> rfl
noncomputable def subNF (m n : Nat) : Int := @Bool.rec (fun _ => Int) (.negSucc (Nat.sub (Nat.sub n m) 1)) (.ofNat (Nat.sub m n)) (Nat.ble n m)
theorem subN_f (m n : Nat) : Int.subNatNat m n = subNF m n := by
  unfold subNF
  cases h : Nat.ble n m with
  | true =>
    have : n ≤ m := by simpa using h
    rw [Int.subNatNat_of_le this]; rfl
  | false =>
    have : ¬ n ≤ m := fun q => by rw [← Nat.ble_eq] at q; rw [h] at q; cases q
    show Int.subNatNat m n = Int.negSucc (n - m - 1)
    rw [Int.subNatNat_of_lt (by omega)]
    rfl
noncomputable def isubF (i j : Int) : Int := @Int.rec (fun _ => Int → Int) (fun m j => @Int.rec (fun _ => Int) (fun n => subNF m n) (fun n => .ofNat (Nat.succ (Nat.add m n))) j) (fun m j => @Int.rec (fun _ => Int) (fun n => .negSucc (Nat.add m n)) (fun n => subNF n m) j) i j
theorem isub_f (i j : Int) : i - j = isubF i j := by
  cases i with
  | ofNat m => cases j with
    | ofNat n => show (Int.ofNat m - Int.ofNat n) = subNF m n; rw [← subN_f, Int.subNatNat_eq_coe]; rfl
    | negSucc n => show (Int.ofNat m - Int.negSucc n) = Int.ofNat (m + n + 1); show ((m : Int) - Int.negSucc n) = ((m + n + 1 : Nat) : Int); omega
  | negSucc m => cases j with
    | ofNat n => show (Int.negSucc m - Int.ofNat n) = Int.negSucc (m + n); show (Int.negSucc m - (n : Int)) = _; omega
    | negSucc n => show (Int.negSucc m - Int.negSucc n) = subNF n m; rw [← subN_f, Int.subNatNat_eq_coe]; omega
noncomputable def imodF (i : Int) (j : Nat) : Int := @Int.rec (fun _ => Int) (fun m => .ofNat (Nat.mod m j)) (fun m => subNF j (Nat.succ (Nat.mod m j))) i
theorem imod_f (i : Int) (j : Nat) : i % (Int.ofNat j) = imodF i j := by
  cases i with
  | ofNat m => rfl
  | negSucc m => show Int.emod (Int.negSucc m) (Int.ofNat j) = subNF j (Nat.succ (m % j)); rw [← subN_f]; rfl
noncomputable def idivF (i : Int) (j : Nat) : Int := @Int.rec (fun _ => Int) (fun m => .ofNat (Nat.div m j)) (fun m => @Bool.rec (fun _ => Int) (.negSucc (Nat.div m j)) (.ofNat 0) (Nat.beq j 0)) i
theorem idiv_f (i : Int) (j : Nat) : i / (Int.ofNat j) = idivF i j := by
  cases i with
  | ofNat m => rfl
  | negSucc m => cases j <;> rfl
noncomputable def subDF (x y : D) : R D := match x with
  | .int i => (match y with
    | .int j => .ok (.int (isubF i j))
    | _ => .stuck)
  | _ => .stuck
theorem subD_f : subD = subDF := by
  funext x y
  cases x <;> try rfl
  cases y <;> try rfl
  show R.ok _ = R.ok _
  rw [isub_f]
noncomputable def appLF {α : Type} (a b : List α) : List α := @List.rec α (fun _ => List α) b (fun x _ ih => x :: ih) a
theorem appL_f {α : Type} (b : List α) : ∀ a : List α, a ++ b = appLF a b
  | [] => rfl
  | x :: a => by show x :: (a ++ b) = x :: appLF a b; rw [appL_f b a]
noncomputable def len2F {α : Type} (a b : List α) : Bool := Nat.ble (Nat.add (lenF a) (lenF b)) 16777216
theorem len2_f {α β : Type} (a b : List α) (x y : β) : (if a.length + b.length ≤ 16777216 then x else y) = bifF (len2F a b) x y :=
  dec_f _ _ (by unfold len2F; rw [Nat.ble_eq, len_f, len_f]; exact Iff.rfl) x y
noncomputable def addDF (x y : D) : R D := match x with
  | .int i => (match y with
    | .int j => .ok (.int (iaddF i j))
    | _ => .stuck)
  | .str a => (match y with
    | .str b => bifF (len2F a b) (.ok (.str (appLF a b))) .stuck
    | _ => .stuck)
  | .lst a => (match y with
    | .lst b => bifF (len2F a b) (.ok (.lst (appLF a b))) .stuck
    | _ => .stuck)
  | .tup a => (match y with
    | .tup b => bifF (len2F a b) (.ok (.tup (appLF a b))) .stuck
    | _ => .stuck)
  | _ => .stuck
theorem addD_f : addD = addDF := by
  funext x y
  cases x <;> cases y <;> try rfl
  · show R.ok _ = R.ok _; rw [iadd_f]
  all_goals (refine (len2_f ..).trans ?_; rw [appL_f]; rfl)
noncomputable def natBF (j : Int) (k : Nat → R D) : R D := @Int.rec (fun _ => R D) (fun n => @Nat.rec (fun _ => R D) .stuck (fun m _ => k (Nat.succ m)) n) (fun _ => .stuck) j
noncomputable def modDF (x y : D) : R D := match x with
  | .int i => (match y with
    | .int j => natBF j fun n => .ok (.int (imodF i n))
    | _ => .stuck)
  | _ => .stuck
theorem modD_f : modD = modDF := by
  funext x y
  cases x <;> try rfl
  cases y <;> try rfl
  rename_i i j
  show (if 0 < j then R.ok (.int (i % j)) else R.stuck) = natBF j fun n => .ok (.int (imodF i n))
  cases j with
  | ofNat n =>
    cases n with
    | zero => rfl
    | succ n => rw [if_pos (by show (0 : Int) < ((n + 1 : Nat) : Int); omega), imod_f]; rfl
  | negSucc n => rw [if_neg (by omega)]; rfl
noncomputable def fdivDF (x y : D) : R D := match x with
  | .int i => (match y with
    | .int j => natBF j fun n => bifF (Nat.ble (Nat.succ n) 1073741824) (.ok (.int (idivF i n))) .stuck
    | _ => .stuck)
  | _ => .stuck
theorem fdivD_f : fdivD = fdivDF := by
  funext x y
  cases x <;> try rfl
  cases y <;> try rfl
  rename_i i j
  show (if 0 < j ∧ j < 1073741824 then R.ok (.int (i / j)) else R.stuck) = natBF j fun n => bifF (Nat.ble (Nat.succ n) 1073741824) (.ok (.int (idivF i n))) .stuck
  cases j with
  | ofNat n =>
    cases n with
    | zero => rfl
    | succ n =>
      rw [idiv_f]
      exact dec_f _ _ (by rw [Nat.ble_eq]; show n + 1 + 1 ≤ _ ↔ (0 : Int) < ((n + 1 : Nat) : Int) ∧ ((n + 1 : Nat) : Int) < _; omega) _ _
  | negSucc n => rw [if_neg (by omega)]; rfl
noncomputable def smallF (i : Int) : Bool := @Int.rec (fun _ => Bool) (fun n => Nat.ble (Nat.succ n) 18446744073709551616) (fun n => Nat.ble (Nat.succ (Nat.succ n)) 18446744073709551616) i
theorem small_f (i : Int) : smallF i = true ↔ (-(18446744073709551616) < i ∧ i < 18446744073709551616) := by
  cases i with
  | ofNat n => show Nat.ble (n + 1) _ = true ↔ _; rw [Nat.ble_eq]; show _ ↔ _ < (n : Int) ∧ (n : Int) < _; omega
  | negSucc n => show Nat.ble (n + 1 + 1) _ = true ↔ _; rw [Nat.ble_eq]; omega
noncomputable def imulF (i j : Int) : Int := @Int.rec (fun _ => Int → Int) (fun m j => @Int.rec (fun _ => Int) (fun n => .ofNat (Nat.mul m n)) (fun _ => Int.mul i j) j) (fun _ j => Int.mul i j) i j
theorem imul_f (i j : Int) : i * j = imulF i j := by cases i <;> cases j <;> rfl
noncomputable def mulDF (x y : D) : R D := match x with
  | .int i => (match y with
    | .int j => bifF (bifF (smallF i) true (smallF j)) (.ok (.int (imulF i j))) .stuck
    | _ => .stuck)
  | _ => .stuck
theorem mulD_f : mulD = mulDF := by
  funext x y
  cases x <;> try rfl
  cases y <;> try rfl
  rename_i i j
  refine (dec_f _ (bifF (smallF i) true (smallF j)) ?_ _ _).trans ?_
  · rw [← small_f, ← small_f]
    cases smallF i <;> simp [bifF]
  · rw [imul_f]; rfl
noncomputable def seqF (s t : List Nat) : Bool := @List.rec Nat (fun _ => List Nat → Bool) (fun t => @List.rec Nat (fun _ => Bool) true (fun _ _ _ => false) t) (fun a _ ih t => @List.rec Nat (fun _ => Bool) false (fun b u _ => @Bool.rec (fun _ => Bool) false (ih u) (Nat.beq a b)) t) s t
theorem nbeq_f (a b : Nat) : (a == b) = Nat.beq a b := by rw [Bool.eq_iff_iff, beq_iff_eq, beq_iff_nat]
theorem notB (b : Bool) : (!b) = @Bool.rec (fun _ => Bool) true false b := by cases b <;> rfl
theorem seq_f : ∀ s t : List Nat, (s == t) = seqF s t
  | [], [] => rfl
  | [], _ :: _ => rfl
  | _ :: _, [] => rfl
  | a :: s, b :: t => by
    show (a == b && s == t) = @Bool.rec (fun _ => Bool) false (seqF s t) (Nat.beq a b)
    rw [seq_f s t, nbeq_f]
    cases Nat.beq a b <;> rfl
noncomputable def sltF (s t : List Nat) : Bool := @List.rec Nat (fun _ => List Nat → Bool) (fun t => @List.rec Nat (fun _ => Bool) false (fun _ _ _ => true) t) (fun a _ ih t => @List.rec Nat (fun _ => Bool) false (fun b u _ => @Bool.rec (fun _ => Bool) (@Bool.rec (fun _ => Bool) false (ih u) (Nat.beq a b)) true (Nat.ble (Nat.succ a) b)) t) s t
theorem slt_f : ∀ s t : List Nat, decide (s < t) = sltF s t
  | [], [] => by simp [sltF]
  | [], _ :: _ => by simp [sltF]
  | _ :: _, [] => by simp [sltF]
  | a :: s, b :: t => by
    show _ = @Bool.rec (fun _ => Bool) (@Bool.rec (fun _ => Bool) false (sltF s t) (Nat.beq a b)) true (Nat.ble (Nat.succ a) b)
    rw [← slt_f s t]
    rw [Bool.eq_iff_iff, decide_eq_true_iff, List.cons_lt_cons_iff]
    cases h1 : Nat.ble (Nat.succ a) b with
    | true =>
      have : a < b := by rw [Nat.ble_eq] at h1; exact h1
      simp [this]
    | false =>
      have : ¬ a < b := fun q => by
        have : Nat.ble (Nat.succ a) b = true := by rw [Nat.ble_eq]; exact q
        rw [h1] at this; cases this
      cases h2 : Nat.beq a b with
      | true =>
        have e := Nat.eq_of_beq_eq_true h2
        subst e
        simp
      | false =>
        have e : a ≠ b := fun q => by rw [q, Nat.beq_refl] at h2; cases h2
        simp [this, e]
/-- smallest first: what is compared -/
noncomputable def cmpDF (fi : Int → Int → Bool) (fs : List Nat → List Nat → Bool) (x y : D) : R D := match x with
  | .int i => (match y with
    | .int j => .ok (.bl (fi i j))
    | _ => .stuck)
  | .str i => (match y with
    | .str j => .ok (.bl (fs i j))
    | _ => .stuck)
  | _ => .stuck
noncomputable def ltDF : D → D → R D := cmpDF iltF sltF
theorem ltD_f : ltD = ltDF := by
  funext x y
  cases x <;> try rfl
  · cases y <;> try rfl
    show R.ok _ = R.ok _; rw [ilt_f]
  · cases y <;> try rfl
    show R.ok _ = R.ok _; rw [slt_f]
noncomputable def leDF : D → D → R D := cmpDF ileF (fun i j => @Bool.rec (fun _ => Bool) true false (sltF j i))
theorem leD_f : leD = leDF := by
  funext x y
  cases x <;> try rfl
  · cases y <;> try rfl
    show R.ok _ = R.ok _; rw [ile_f]
  · cases y <;> try rfl
    show R.ok (D.bl (!_)) = R.ok _; rw [slt_f, notB]
noncomputable def gtDF : D → D → R D := cmpDF (fun i j => iltF j i) (fun i j => sltF j i)
theorem gtD_f : gtD = gtDF := by
  funext x y
  cases x <;> try rfl
  · cases y <;> try rfl
    show R.ok _ = R.ok _; rw [ilt_f]
  · cases y <;> try rfl
    show R.ok _ = R.ok _; rw [slt_f]
noncomputable def geDF : D → D → R D := cmpDF (fun i j => ileF j i) (fun i j => @Bool.rec (fun _ => Bool) true false (sltF i j))
theorem geD_f : geD = geDF := by
  funext x y
  cases x <;> try rfl
  · cases y <;> try rfl
    show R.ok _ = R.ok _; rw [ile_f]
  · cases y <;> try rfl
    show R.ok (D.bl (!_)) = R.ok _; rw [slt_f, notB]
end DL
set_option Elab.async false
set_option linter.all false
set_option maxRecDepth 100000
namespace DL
open L2
noncomputable def smallSF (s : List Nat) : Bool := @List.rec Nat (fun _ => Bool) true (fun c _ ih => @Bool.rec (fun _ => Bool) false ih (Nat.ble (Nat.succ c) 1114112)) s
theorem smallS_f : ∀ s : List Nat, s.all (· < 0x110000) = smallSF s
  | [] => rfl
  | c :: s => by
    show (decide (c < 0x110000) && s.all (· < 0x110000)) = @Bool.rec (fun _ => Bool) false (smallSF s) (Nat.ble (Nat.succ c) 1114112)
    rw [smallS_f s]
    have : decide (c < 0x110000) = Nat.ble (Nat.succ c) 1114112 := by rw [Bool.eq_iff_iff, decide_eq_true_iff, Nat.ble_eq]; exact Iff.rfl
    rw [this]
    cases Nat.ble (Nat.succ c) 1114112 <;> rfl
noncomputable def shF (d : D) : Nat → Bool := @D.rec (fun _ => Nat → Bool) (fun _ => Nat → Bool) (fun _ => Unit) (fun _ => Unit) (fun _ => Unit) (fun _ => Unit)
  (fun _ => true) (fun _ _ => true) (fun _ _ => true) (fun s _ => smallSF s) (fun _ ih n => @Nat.rec (fun _ => Bool) false (fun m _ => ih m) n) (fun _ ih n => @Nat.rec (fun _ => Bool) false (fun m _ => ih m) n)
  (fun _ _ _ => false) (fun _ _ _ => false) (fun _ _ _ _ => false) (fun _ => false) (fun _ _ => false)
  (fun _ => true) (fun _ _ ihx ihs n => @Bool.rec (fun _ => Bool) false (ihs n) (ihx n)) () (fun _ _ _ _ => ()) () (fun _ _ _ _ => ()) (fun _ _ _ _ => ()) (fun _ _ _ => ()) d
noncomputable def shsF (ds : List D) (n : Nat) : Bool := @List.rec D (fun _ => Bool) true (fun x _ ih => @Bool.rec (fun _ => Bool) false ih (shF x n)) ds
theorem bandF (a b : Bool) : (a && b) = @Bool.rec (fun _ => Bool) false b a := by cases a <;> rfl
mutual
theorem sh_f : ∀ (d : D) (n : Nat), D.sh d n = shF d n
  | .non, n => by unfold D.sh; rfl
  | .bl _, n => by unfold D.sh; rfl
  | .int _, n => by unfold D.sh; rfl
  | .str s, n => by unfold D.sh; exact smallS_f s
  | .lst xs, 0 => by unfold D.sh; rfl
  | .lst xs, n + 1 => by unfold D.sh; exact shs_r xs n
  | .tup xs, 0 => by unfold D.sh; rfl
  | .tup xs, n + 1 => by unfold D.sh; exact shs_r xs n
  | .dic _, n => by unfold D.sh; rfl
  | .cdic _, n => by unfold D.sh; rfl
  | .ins _ _, n => by unfold D.sh; rfl
  | .dice, n => by unfold D.sh; rfl
  | .fn _, n => by unfold D.sh; rfl
theorem shs_r : ∀ (ds : List D) (n : Nat), D.shs ds n = shF (.lst ds) (n + 1)
  | [], n => by unfold D.shs; rfl
  | x :: xs, n => by
    unfold D.shs
    rw [sh_f x n, shs_r xs n, bandF]
    rfl
end
theorem shs_f : ∀ (ds : List D) (n : Nat), D.shs ds n = shsF ds n
  | [], n => by unfold D.shs; rfl
  | x :: xs, n => by
    unfold D.shs
    rw [sh_f x n, shs_f xs n, bandF]
    rfl
noncomputable def eqbF (d : D) : D → Bool := @D.rec (fun _ => D → Bool) (fun _ => List D → Bool) (fun _ => Unit) (fun _ => Unit) (fun _ => Unit) (fun _ => Unit)
  (fun y => match y with | .non => true | _ => false)
  (fun a y => match y with | .bl b => a == b | .int j => ieqF (if a then 1 else 0) j | _ => false)
  (fun i y => match y with | .int j => ieqF i j | .bl b => ieqF i (if b then 1 else 0) | _ => false)
  (fun s y => match y with | .str t => seqF s t | _ => false)
  (fun _ ih y => match y with | .lst ys => ih ys | _ => false)
  (fun _ ih y => match y with | .tup ys => ih ys | _ => false)
  (fun _ _ _ => false) (fun _ _ _ => false) (fun _ _ _ _ => false) (fun _ => false) (fun _ _ => false)
  (fun ys => @List.rec D (fun _ => Bool) true (fun _ _ _ => false) ys) (fun _ _ ihx ihs ys => @List.rec D (fun _ => Bool) false (fun y ys _ => @Bool.rec (fun _ => Bool) false (ihs ys) (ihx y)) ys) () (fun _ _ _ _ => ()) () (fun _ _ _ _ => ()) (fun _ _ _ _ => ()) (fun _ _ _ => ()) d
mutual
theorem eqb_f : ∀ (x y : D), D.eqb x y = eqbF x y
  | .non, y => by cases y <;> (unfold D.eqb; rfl)
  | .bl a, y => by cases y <;> (unfold D.eqb; first | rfl | exact ieq_f ..)
  | .int i, y => by cases y <;> (unfold D.eqb; first | rfl | exact ieq_f ..)
  | .str s, y => by cases y <;> (unfold D.eqb; first | rfl | exact seq_f ..)
  | .lst xs, y => by cases y <;> (unfold D.eqb; first | rfl | exact eqbs_r xs _)
  | .tup xs, y => by cases y <;> (unfold D.eqb; first | rfl | exact eqbs_r xs _)
  | .dic _, y => by cases y <;> (unfold D.eqb; rfl)
  | .cdic _, y => by cases y <;> (unfold D.eqb; rfl)
  | .ins _ _, y => by cases y <;> (unfold D.eqb; rfl)
  | .dice, y => by cases y <;> (unfold D.eqb; rfl)
  | .fn _, y => by cases y <;> (unfold D.eqb; rfl)
theorem eqbs_r : ∀ (xs ys : List D), D.eqbs xs ys = eqbF (.lst xs) (.lst ys)
  | [], ys => by cases ys <;> (unfold D.eqbs; rfl)
  | x :: xs, [] => by unfold D.eqbs; rfl
  | x :: xs, y :: ys => by
    unfold D.eqbs
    rw [eqb_f x y, eqbs_r xs ys, bandF]
    rfl
end
noncomputable def eqGF (f : Bool → D) (x y : D) : R D := bifF (x.sc y) (.ok (f (eqbF x y))) (bifF (shF x 64) (bifF (shF y 64) (.ok (f (eqbF x y))) .stuck) .stuck)
noncomputable def eqDF (x y : D) : R D := match x with
  | .int i => (match y with
    | .int j => .ok (.bl (ieqF i j))
    | y => eqGF .bl (.int i) y)
  | .str s => (match y with
    | .str t => .ok (.bl (seqF s t))
    | y => eqGF .bl (.str s) y)
  | x => eqGF .bl x y
noncomputable def notF (b : Bool) : Bool := @Bool.rec (fun _ => Bool) true false b
theorem not_f (b : Bool) : (!b) = notF b := notB b
noncomputable def neDF (x y : D) : R D := match x with
  | .int i => (match y with
    | .int j => .ok (.bl (notF (ieqF i j)))
    | y => eqGF (fun b => .bl (notF b)) (.int i) y)
  | .str s => (match y with
    | .str t => .ok (.bl (notF (seqF s t)))
    | y => eqGF (fun b => .bl (notF b)) (.str s) y)
  | x => eqGF (fun b => .bl (notF b)) x y
theorem eqG_f (f : Bool → D) (x y : D) : (if (x.sc y || (x.sh 64 && y.sh 64)) = true then R.ok (f (x.eqb y)) else .stuck) = eqGF f x y := by
  unfold eqGF
  rw [bif_f, sh_f, sh_f, eqb_f]
  cases x.sc y <;> cases shF x 64 <;> cases shF y 64 <;> rfl
theorem eqD_f : eqD = eqDF := by
  funext x y
  refine (eqG_f .bl x y).trans ?_
  cases x <;> try rfl
  all_goals (cases y <;> rfl)
theorem neD_f : neD = neDF := by
  funext x y
  unfold neD
  rw [not_f]
  refine (eqG_f (fun b => .bl (notF b)) x y).trans ?_
  cases x <;> try rfl
  all_goals (cases y <;> rfl)
noncomputable def anyLF {α : Type} (p : α → Bool) (l : List α) : Bool := @List.rec α (fun _ => Bool) false (fun x _ ih => @Bool.rec (fun _ => Bool) ih true (p x)) l
theorem anyL_f {α : Type} (p : α → Bool) : ∀ l : List α, l.any p = anyLF p l
  | [] => rfl
  | x :: l => by
    rw [List.any_cons, anyL_f p l]
    show (p x || anyLF p l) = @Bool.rec (fun _ => Bool) (anyLF p l) true (p x)
    cases p x <;> rfl
noncomputable def memSF (c : Nat) (s : List Nat) : Bool := anyLF (Nat.beq c) s
theorem memS_f (c : Nat) : ∀ s : List Nat, decide (c ∈ s) = memSF c s
  | [] => by simp [memSF, anyLF]
  | b :: s => by
    have e : decide (c ∈ b :: s) = ((c == b) || decide (c ∈ s)) := by rw [Bool.eq_iff_iff]; simp
    rw [e, memS_f c s, nbeq_f]
    show (Nat.beq c b || memSF c s) = @Bool.rec (fun _ => Bool) (memSF c s) true (Nat.beq c b)
    cases Nat.beq c b <;> rfl
noncomputable def key1F (d : D) : Bool := match d with
  | .int _ => true
  | .str _ => true
  | _ => false
theorem key1_f (d : D) : d.key1 = key1F d := by cases d <;> rfl
noncomputable def keqF (x y : D) : Bool := match x with
  | .int i => (match y with
    | .int j => ieqF i j
    | _ => false)
  | .str s => (match y with
    | .str t => seqF s t
    | _ => false)
  | _ => false
theorem keq_f (x y : D) : x.keq y = keqF x y := by
  cases x <;> try rfl
  · cases y <;> try rfl
    exact ieq_f ..
  · cases y <;> try rfl
    exact seq_f ..
noncomputable def getDF (kvs : List (D × D)) (k : D) : Option D := @List.rec (D × D) (fun _ => Option D) none (fun p _ ih => @Bool.rec (fun _ => Option D) ih (some p.2) (keqF p.1 k)) kvs
theorem getD_f (k : D) : ∀ kvs, getD kvs k = getDF kvs k
  | [] => rfl
  | p :: kvs => by
    show (((p :: kvs).find? fun p => p.1.keq k).map (·.2)) = @Bool.rec (fun _ => Option D) (getDF kvs k) (some p.2) (keqF p.1 k)
    rw [List.find?_cons, keq_f, ← getD_f k kvs]
    cases keqF p.1 k <;> rfl
noncomputable def inBF (x : D) (y : D) : R Bool := match y with
  | .lst ys => bifF (shF x 62) (bifF (shsF ys 62) (.ok (anyLF (fun z => eqbF z x) ys)) .stuck) .stuck
  | .tup ys => bifF (shF x 62) (bifF (shsF ys 62) (.ok (anyLF (fun z => eqbF z x) ys)) .stuck) .stuck
  | .str t => (match x with
    | .str [c] => .ok (memSF c t)
    | _ => .stuck)
  | .dic kvs => bifF (key1F x) (.ok (@Option.rec D (fun _ => Bool) false (fun _ => true) (getDF kvs x))) .stuck
  | _ => .stuck
theorem inB_f (x y : D) : inB x y = inBF x y := by
  cases y <;> try rfl
  · show (match x with
    | .str [c] => R.ok (decide (c ∈ _))
    | _ => .stuck) = _
    split
    · rw [memS_f]; rfl
    · rename_i h
      show R.stuck = (match x with
        | .str [c] => R.ok (memSF c _)
        | _ => .stuck)
      split
      · exact (h _ rfl).elim
      · rfl
  · rename_i ys
    show (if (x.sh 62 && D.shs ys 62) = true then R.ok (ys.any fun z => z.eqb x) else .stuck) = bifF (shF x 62) (bifF (shsF ys 62) (.ok (anyLF (fun z => eqbF z x) ys)) .stuck) .stuck
    rw [bif_f, sh_f, shs_f, anyL_f, funext (fun z => eqb_f z x)]
    cases shF x 62 <;> cases shsF ys 62 <;> rfl
  · rename_i ys
    show (if (x.sh 62 && D.shs ys 62) = true then R.ok (ys.any fun z => z.eqb x) else .stuck) = bifF (shF x 62) (bifF (shsF ys 62) (.ok (anyLF (fun z => eqbF z x) ys)) .stuck) .stuck
    rw [bif_f, sh_f, shs_f, anyL_f, funext (fun z => eqb_f z x)]
    cases shF x 62 <;> cases shsF ys 62 <;> rfl
  · rename_i kvs
    show (if x.key1 = true then R.ok ((getD kvs x).isSome) else .stuck) = _
    rw [bif_f, key1_f, getD_f]
    show bifF (key1F x) (R.ok (getDF kvs x).isSome) R.stuck = bifF (key1F x) (R.ok (@Option.rec D (fun _ => Bool) false (fun _ => true) (getDF kvs x))) R.stuck
    cases getDF kvs x <;> rfl
noncomputable def inDF (x y : D) : R D := bdF (inBF x y) fun b => .ok (.bl b)
theorem inD_f : inD = inDF := by funext x y; unfold inD inDF; rw [bd_f, inB_f]
noncomputable def notInDF (x y : D) : R D := bdF (inBF x y) fun b => .ok (.bl (notF b))
theorem notInD_f : notInD = notInDF := by
  funext x y; unfold notInD notInDF; rw [bd_f, inB_f]; congr; funext b; rw [not_f]
noncomputable def nthF {α : Type} (xs : List α) : Nat → Option α := @List.rec α (fun _ => Nat → Option α) (fun _ => none) (fun x _ ih i => @Nat.rec (fun _ => Option α) (some x) (fun i _ => ih i) i) xs
theorem nth_f {α : Type} : ∀ (xs : List α) (i : Nat), xs[i]? = nthF xs i
  | [], i => by simp; rfl
  | x :: xs, 0 => rfl
  | x :: xs, i + 1 => by rw [List.getElem?_cons_succ, nth_f xs i]; rfl
noncomputable def atF {α : Type} (xs : List α) (i : Int) : Option α := @Int.rec (fun _ => Option α) (fun k => nthF xs k) (fun k => @Bool.rec (fun _ => Option α) none (nthF xs (Nat.sub (lenF xs) (Nat.succ k))) (Nat.ble (Nat.succ k) (lenF xs))) i
theorem at_f {α : Type} (xs : List α) (i : Int) : atI xs i = atF xs i := by
  unfold atI ixN
  cases i with
  | ofNat k =>
    show ((if (0 : Int) ≤ (k : Int) then (if (k : Int) < (xs.length : Int) then some (k : Int).toNat else none) else _) : Option Nat).bind (fun j => xs[j]?) = nthF xs k
    rw [if_pos (by omega), ← nth_f]
    by_cases h : k < xs.length
    · rw [if_pos (by omega)]; rfl
    · rw [if_neg (by omega), List.getElem?_eq_none (by omega)]; rfl
  | negSucc k =>
    rw [if_neg (by omega)]
    show _ = @Bool.rec (fun _ => Option α) none (nthF xs (Nat.sub (lenF xs) (Nat.succ k))) (Nat.ble (Nat.succ k) (lenF xs))
    rw [← len_f, ← nth_f]
    cases h : Nat.ble (Nat.succ k) xs.length with
    | true =>
      rw [Nat.ble_eq] at h
      rw [if_pos (by omega)]
      show xs[(Int.negSucc k + (xs.length : Int)).toNat]? = xs[xs.length - (k + 1)]?
      congr 1
      omega
    | false =>
      have h : ¬ k + 1 ≤ xs.length := fun q => by
        have : Nat.ble (Nat.succ k) xs.length = true := by rw [Nat.ble_eq]; exact q
        rw [h] at this; cases this
      rw [if_neg (by omega)]
      rfl
noncomputable def okF {α : Type} (o : Option α) (k : α → D) : R D := @Option.rec α (fun _ => R D) .stuck (fun a => .ok (k a)) o
noncomputable def ixDF (x y : D) : R D := match x with
  | .lst xs => (match y with
    | .int i => okF (atF xs i) fun d => d
    | _ => .stuck)
  | .tup xs => (match y with
    | .int i => okF (atF xs i) fun d => d
    | _ => .stuck)
  | .str s => (match y with
    | .int i => bifF (okLenF s) (okF (atF s i) fun c => .str [c]) .stuck
    | _ => .stuck)
  | _ => .stuck
theorem ixD_f (x y : D) : ixD x y = ixDF x y := by
  cases x <;> try rfl
  all_goals (cases y <;> try rfl)
  · rename_i s i
    refine (okLen_f s _ _).trans ?_
    rw [at_f]
    show bifF (okLenF s) _ _ = bifF (okLenF s) (okF (atF s i) fun c => .str [c]) .stuck
    cases atF s i <;> rfl
  · rename_i xs i
    show (match atI xs i with
    | some d => R.ok d
    | none => .stuck) = okF (atF xs i) fun d => d
    rw [at_f]
    cases atF xs i <;> rfl
  · rename_i xs i
    show (match atI xs i with
    | some d => R.ok d
    | none => .stuck) = okF (atF xs i) fun d => d
    rw [at_f]
    cases atF xs i <;> rfl
noncomputable def subIF (x y : D) : R D := match x with
  | .dic kvs => bifF (key1F y) (okF (getDF kvs y) fun d => d) .stuck
  | .cdic kvs => subI (.cdic kvs) y
  | x => ixDF x y
theorem subI_f (x y : D) : subI x y = subIF x y := by
  cases x with
  | dic kvs =>
    show (if y.key1 = true then _ else R.stuck) = bifF (key1F y) (okF (getDF kvs y) fun d => d) R.stuck
    rw [bif_f, key1_f, getD_f]
    cases getDF kvs y <;> rfl
  | cdic kvs => rfl
  | non => exact ixD_f .non y
  | bl b => exact ixD_f (.bl b) y
  | int b => exact ixD_f (.int b) y
  | str b => exact ixD_f (.str b) y
  | lst b => exact ixD_f (.lst b) y
  | tup b => exact ixD_f (.tup b) y
  | ins b c => exact ixD_f (.ins b c) y
  | dice => exact ixD_f .dice y
  | fn b => exact ixD_f (.fn b) y
noncomputable def subEF (f k : LE → R D) : LE → R D := fun r => bdF (f r) fun x => bdF (k r) fun y => subIF x y
theorem subE_f (f k : LE → R D) : subE f k = subEF f k := by
  funext r; unfold subE subEF; rw [bd_f]; congr; funext x; rw [bd_f]; congr; funext y; exact subI_f x y
noncomputable def lenXF (ds : List D) : R D := match ds with
  | [.str s] => bifF (okLenF s) (.ok (.int (.ofNat (lenF s)))) .stuck
  | [.lst xs] => .ok (.int (.ofNat (lenF xs)))
  | [.tup xs] => .ok (.int (.ofNat (lenF xs)))
  | ds => lenX ds
theorem lenX_f : lenX = lenXF := by
  funext ds
  unfold lenXF
  split
  · rename_i s
    refine (okLen_f s (R.ok (D.int (s.length : Nat))) .stuck).trans ?_
    rw [len_f]; rfl
  · show R.ok (D.int ((List.length _ : Nat) : Int)) = _
    rw [len_f]; rfl
  · show R.ok (D.int ((List.length _ : Nat) : Int)) = _
    rw [len_f]; rfl
  · rfl
end DL
set_option Elab.async false
set_option linter.all false
set_option maxRecDepth 100000
namespace DL
open L2 PySem.Spec
noncomputable def bmSF (gg : D → List D → R D) (f : LE → R D) (fs : LE → R (List D)) : LE → R D := fun r => bdF (f r) fun x => match x with
  | .str s => bdF (fs r) fun ds => gg (.str s) ds
  | _ => .stuck
theorem bmS_f (gg : D → List D → R D) (f : LE → R D) (fs : LE → R (List D)) : bmEF "str" gg f fs = bmSF gg f fs := by
  funext r; unfold bmEF bmSF; congr; funext x; cases x <;> rfl
noncomputable def bmLF (gg : D → List D → R D) (f : LE → R D) (fs : LE → R (List D)) : LE → R D := fun r => bdF (f r) fun x => match x with
  | .lst s => bdF (fs r) fun ds => gg (.lst s) ds
  | _ => .stuck
theorem bmL_f (gg : D → List D → R D) (f : LE → R D) (fs : LE → R (List D)) : bmEF "list" gg f fs = bmLF gg f fs := by
  funext r; unfold bmEF bmLF; congr; funext x; cases x <;> rfl
noncomputable def strsF (ds : List D) : Option (List (List Nat)) := @List.rec D (fun _ => Option (List (List Nat))) (some []) (fun d _ ih => match d with
  | .str s => optF ih none fun ss => some (s :: ss)
  | _ => none) ds
theorem strs_f : ∀ ds : List D, strsD ds = strsF ds
  | [] => rfl
  | d :: ds => by
    cases d <;> first | rfl | skip
    rename_i s
    show (strsD ds).map (s :: ·) = optF (strsF ds) none fun ss => some (s :: ss)
    rw [strs_f ds]
    cases strsF ds <;> rfl
noncomputable def joinLF (S : List Nat) (ss : List (List Nat)) : List Nat := @List.rec (List Nat) (fun _ => List Nat) [] (fun p t ih => @List.rec (List Nat) (fun _ => List Nat) p (fun _ _ _ => appLF p (appLF S ih)) t) ss
theorem joinL_f (S : List Nat) : ∀ ss : List (List Nat), TL.joinL S ss = joinLF S ss
  | [] => rfl
  | [p] => rfl
  | p :: q :: r => by
    show p ++ (S ++ TL.joinL S (q :: r)) = appLF p (appLF S (joinLF S (q :: r)))
    rw [joinL_f S (q :: r), appL_f, appL_f]
noncomputable def sumLenF (ss : List (List Nat)) : Nat := @List.rec (List Nat) (fun _ => Nat) 0 (fun s _ ih => Nat.add (lenF s) ih) ss
theorem sumLen_f : ∀ ss : List (List Nat), (ss.map List.length).sum = sumLenF ss
  | [] => rfl
  | s :: ss => by
    rw [List.map_cons, List.sum_cons, sumLen_f ss, len_f]
    rfl
noncomputable def joinSF (a : List Nat) (ds : List D) : R D := optF (strsF ds) .stuck fun ss => bifF (Nat.ble (Nat.add (sumLenF ss) (Nat.mul (lenF ss) (lenF a))) 16777216) (.ok (.str (joinLF a ss))) .stuck
theorem joinS_f (a : List Nat) (ds : List D) : (match strsD ds with
    | some ss => if joinOk a ss then R.ok (D.str (TL.joinL a ss)) else .stuck
    | none => .stuck) = joinSF a ds := by
  unfold joinSF
  rw [strs_f]
  cases strsF ds with
  | none => rfl
  | some ss =>
    show (if joinOk a ss = true then R.ok (D.str (TL.joinL a ss)) else .stuck) = bifF (Nat.ble (Nat.add (sumLenF ss) (Nat.mul (lenF ss) (lenF a))) 16777216) (.ok (.str (joinLF a ss))) .stuck
    rw [bif_f, joinL_f]
    congr 1
    unfold joinOk
    rw [sumLen_f, len_f ss, len_f a, Bool.eq_iff_iff, decide_eq_true_iff, Nat.ble_eq]
    exact Iff.rfl
noncomputable def joinDF (x : D) (ds : List D) : R D := match x with
  | .str a => (match ds with
    | [.lst ds] => joinSF a ds
    | [.tup ds] => joinSF a ds
    | _ => .stuck)
  | _ => .stuck
theorem joinD_f : joinD = joinDF := by
  funext x ds
  unfold joinD joinDF
  split
  · exact joinS_f ..
  · exact joinS_f ..
  · rename_i h1 h2
    split
    · split
      · exact (h1 _ _ rfl rfl).elim
      · exact (h2 _ _ rfl rfl).elim
      · rfl
    · rfl
noncomputable def idxF (c : Nat) (s : List Nat) : Nat → Option Nat := @List.rec Nat (fun _ => Nat → Option Nat) (fun _ => none) (fun a _ ih i => @Bool.rec (fun _ => Option Nat) (ih (Nat.succ i)) (some i) (Nat.beq a c)) s
theorem idx_f (c : Nat) : ∀ (s : List Nat) (i : Nat), (s.findIdx? (· == c)).map (· + i) = idxF c s i
  | [], i => rfl
  | a :: s, i => by
    show ((a :: s).findIdx? (· == c)).map (· + i) = @Bool.rec (fun _ => Option Nat) (idxF c s (Nat.succ i)) (some i) (Nat.beq a c)
    rw [List.findIdx?_cons, ← idx_f c s (Nat.succ i), nbeq_f]
    cases h : Nat.beq a c with
    | true => show (some 0).map _ = some i; simp
    | false =>
      show ((s.findIdx? (· == c)).map (fun i => i + 1)).map (· + i) = _
      rw [Option.map_map]
      congr 1
      funext j
      show j + 1 + i = j + (i + 1)
      omega
noncomputable def sidxDF (x : D) (ds : List D) : R D := match x with
  | .str s => (match ds with
    | [.str [c]] => okF (idxF c s 0) fun i => .int (.ofNat i)
    | _ => .stuck)
  | _ => .stuck
theorem sidxD_f : sidxD = sidxDF := by
  funext x ds
  unfold sidxD sidxDF
  split
  · rename_i s c
    show _ = okF (idxF c s 0) fun i => .int (.ofNat i)
    have e := idx_f c s 0
    rw [show (fun x : Nat => x + 0) = id from rfl, Option.map_id] at e
    rw [← e]
    show _ = okF (s.findIdx? (· == c)) fun i => .int (.ofNat i)
    cases s.findIdx? (· == c) <;> rfl
  · rename_i h
    split
    · split
      · exact (h _ _ rfl rfl).elim
      · rfl
    · rfl
noncomputable def cntF (c : Nat) (s : List Nat) : Nat := @List.rec Nat (fun _ => Nat) 0 (fun a _ ih => @Bool.rec (fun _ => Nat) ih (Nat.succ ih) (Nat.beq a c)) s
theorem cnt_f (c : Nat) : ∀ s : List Nat, s.count c = cntF c s
  | [] => rfl
  | a :: s => by
    rw [List.count_cons, cnt_f c s, nbeq_f]
    show _ = @Bool.rec (fun _ => Nat) (cntF c s) (Nat.succ (cntF c s)) (Nat.beq a c)
    cases Nat.beq a c <;> rfl
noncomputable def countDF (x : D) (ds : List D) : R D := match x with
  | .str s => (match ds with
    | [.str [c]] => .ok (.int (.ofNat (cntF c s)))
    | _ => .stuck)
  | _ => .stuck
theorem countD_f : countD = countDF := by
  funext x ds
  unfold countD countDF
  split
  · rename_i s c
    show R.ok (D.int ((s.count c : Nat) : Int)) = _
    rw [cnt_f]; rfl
  · rename_i h
    split
    · split
      · exact (h _ _ rfl rfl).elim
      · rfl
    · rfl
noncomputable def iaddDF (x y : D) : R D := match x with
  | .int i => (match y with
    | .int j => .ok (.int (iaddF i j))
    | _ => .stuck)
  | .str a => (match y with
    | .str b => bifF (len2F a b) (.ok (.str (appLF a b))) .stuck
    | _ => .stuck)
  | _ => .stuck
theorem iaddD_f : iaddD = iaddDF := by
  funext x y
  cases x <;> cases y <;> try rfl
  · show R.ok _ = R.ok _; rw [iadd_f]
  all_goals (refine (len2_f ..).trans ?_; rw [appL_f]; rfl)
noncomputable def dropF {α : Type} (n : Nat) (xs : List α) : List α := @Nat.rec (fun _ => List α → List α) (fun xs => xs) (fun _ ih xs => @List.rec α (fun _ => List α) [] (fun _ t _ => ih t) xs) n xs
theorem drop_f {α : Type} : ∀ (n : Nat) (xs : List α), xs.drop n = dropF n xs
  | 0, xs => rfl
  | n + 1, [] => rfl
  | n + 1, x :: xs => drop_f n xs
noncomputable def takeF {α : Type} (n : Nat) (xs : List α) : List α := @Nat.rec (fun _ => List α → List α) (fun _ => []) (fun _ ih xs => @List.rec α (fun _ => List α) [] (fun x t _ => x :: ih t) xs) n xs
theorem take_f {α : Type} : ∀ (n : Nat) (xs : List α), xs.take n = takeF n xs
  | 0, xs => by cases xs <;> rfl
  | n + 1, [] => rfl
  | n + 1, x :: xs => by show x :: xs.take n = x :: takeF n xs; rw [take_f n xs]
noncomputable def posF (len d : Nat) (o : Option Int) : Nat := @Option.rec Int (fun _ => Nat) d (fun v => @Int.rec (fun _ => Nat) (fun k => k) (fun k => Nat.sub len (Nat.succ k)) v) o
theorem pos_f (len d : Nat) (hd : d ≤ len) (o : Option Int) : HT.sIx len d o = min (posF len d o) len := by
  cases o with
  | none => show d = min d len; omega
  | some v =>
    unfold HT.sIx
    cases v with
    | ofNat k => show (if (k : Int) < 0 then _ else min ((k : Int)).toNat len) = min k len; rw [if_neg (by omega)]; rfl
    | negSucc k => show (if Int.negSucc k < 0 then (Int.negSucc k + (len : Int)).toNat else min (Int.negSucc k).toNat len) = min (len - (k + 1)) len; rw [if_pos (by omega)]; omega
noncomputable def cutF {α : Type} (xs : List α) (lo hi : Option Int) : List α := @Option.rec Int (fun _ => List α) (dropF (posF (lenF xs) 0 lo) xs) (fun v => takeF (Nat.sub (posF (lenF xs) 0 (some v)) (posF (lenF xs) 0 lo)) (dropF (posF (lenF xs) 0 lo) xs)) hi
theorem drop_min {α : Type} (xs : List α) (k : Nat) : xs.drop (min k xs.length) = xs.drop k := by
  by_cases h : k ≤ xs.length
  · rw [Nat.min_eq_left h]
  · rw [Nat.min_eq_right (by omega), List.drop_eq_nil_of_le (Nat.le_refl _), List.drop_eq_nil_of_le (by omega)]
theorem cut_f {α : Type} (xs : List α) (lo hi : Option Int) : cutD xs lo hi = cutF xs lo hi := by
  unfold cutD
  rw [pos_f _ _ (Nat.zero_le _), drop_min]
  cases hi with
  | none =>
    show _ = dropF (posF (lenF xs) 0 lo) xs
    rw [← drop_f, ← len_f]
    show (xs.drop (posF xs.length 0 lo)).take (xs.length - _) = _
    rw [List.take_of_length_le]
    rw [List.length_drop]
    omega
  | some v =>
    show _ = takeF (Nat.sub (posF (lenF xs) 0 (some v)) (posF (lenF xs) 0 lo)) (dropF (posF (lenF xs) 0 lo) xs)
    rw [← drop_f, ← take_f, ← len_f, pos_f _ _ (Nat.le_refl _)]
    show (xs.drop (posF xs.length 0 lo)).take (min (posF xs.length 0 (some v)) xs.length - min (posF xs.length 0 lo) xs.length) = (xs.drop (posF xs.length 0 lo)).take (posF xs.length 0 (some v) - posF xs.length 0 lo)
    generalize posF xs.length 0 (some v) = m
    generalize posF xs.length 0 lo = k
    by_cases h : m ≤ xs.length
    · by_cases h2 : k ≤ xs.length
      · rw [Nat.min_eq_left h, Nat.min_eq_left h2]
      · rw [Nat.min_eq_left h, Nat.min_eq_right (by omega), show m - xs.length = m - k by omega]
    · rw [Nat.min_eq_right (by omega)]
      rw [List.take_of_length_le (by rw [List.length_drop]; omega), List.take_of_length_le (by rw [List.length_drop]; omega)]
noncomputable def slIF (x : D) (lo hi : Option Int) : R D := match x with
  | .str s => bifF (okLenF s) (.ok (.str (cutF s lo hi))) .stuck
  | .tup xs => .ok (.tup (cutF xs lo hi))
  | .lst xs => .ok (.lst (cutF xs lo hi))
  | _ => .stuck
theorem slI_f (x : D) (lo hi : Option Int) : slI x lo hi = slIF x lo hi := by
  cases x <;> try rfl
  · refine (okLen_f _ _ _).trans ?_
    rw [cut_f]; rfl
  · show R.ok (D.lst (cutD _ lo hi)) = _; rw [cut_f]; rfl
  · show R.ok (D.tup (cutD _ lo hi)) = _; rw [cut_f]; rfl
noncomputable def somePF (f : LE → R D) : LE → R (Option Int) := fun r => bdF (f r) fun d => match d with
  | .int i => .ok (some i)
  | _ => .stuck
theorem someP_f (f : LE → R D) : someP f = somePF f := by funext r; exact bd_f ..
noncomputable def sliceEF (f : LE → R D) (l h : LE → R (Option Int)) : LE → R D := fun r => bdF (f r) fun x => bdF (l r) fun a => bdF (h r) fun b => slIF x a b
theorem sliceE_f (f : LE → R D) (l h : LE → R (Option Int)) : sliceE f l h = sliceEF f l h := by
  funext r; unfold sliceE sliceEF; rw [bd_f]; congr; funext x; rw [bd_f]; congr; funext a; rw [bd_f]; congr; funext b; exact slI_f ..
noncomputable def enumSF (k : Int) (s : List Nat) : Nat → List D := @List.rec Nat (fun _ => Nat → List D) (fun _ => []) (fun c _ ih i => .tup [.int (iaddF k (.ofNat i)), .str [c]] :: ih (Nat.succ i)) s
theorem enumS_f (k : Int) : ∀ (s : List Nat) (i : Nat), ((s.map fun c => D.str [c]).mapIdx fun j d => D.tup [.int (k + ((j + i : Nat) : Int)), d]) = enumSF k s i
  | [], i => rfl
  | c :: s, i => by
    show _ = D.tup [.int (iaddF k (.ofNat i)), .str [c]] :: enumSF k s (Nat.succ i)
    rw [List.map_cons, List.mapIdx_cons, ← enumS_f k s (Nat.succ i), ← iadd_f]
    congr 1
    · show D.tup [D.int (k + ((0 + i : Nat) : Int)), _] = D.tup [D.int (k + (i : Int)), _]
      rw [Nat.zero_add]
    · congr 1
      funext j d
      rw [show j + 1 + i = j + Nat.succ i by omega]
noncomputable def enumTDF (k : Int) (ds : List D) : R (List D) := match ds with
  | [.str s] => .ok (enumSF k s 0)
  | ds => enumTD k ds
theorem enumTD_f (k : Int) : enumTD k = enumTDF k := by
  funext ds
  unfold enumTDF
  split
  · rename_i s
    show R.ok (enumL k _) = _
    unfold enumL
    rw [← enumS_f]
    rfl
  · rfl
noncomputable def gCons_F (g : D → LE → Option LE) (gs : List D → LE → Option LE) (ds : List D) (r : LE) : Option LE := @List.rec D (fun _ => Option LE) none (fun d t _ => optF (g d r) none fun r' => gs t r') ds
theorem gCons__f (g : D → LE → Option LE) (gs : List D → LE → Option LE) : gCons_ g gs = gCons_F g gs := by
  funext ds r
  cases ds with
  | nil => rfl
  | cons d t => show (g d r).bind (gs t) = optF (g d r) none fun r' => gs t r'; cases g d r <;> rfl
noncomputable def gTup_F (n : Nat) (gs : List D → LE → Option LE) (d : D) (r : LE) : Option LE := match d with
  | .tup ds => bifF (Nat.beq (lenF ds) n) (gs ds r) none
  | _ => none
theorem gTup__f (n : Nat) (gs : List D → LE → Option LE) : gTup_ n gs = gTup_F n gs := by
  funext d r
  cases d <;> try rfl
  exact dec_f _ _ (by rw [← len_f]; exact beq_iff_nat) _ _
noncomputable def rollDF (ds : List D) : R D := match ds with
  | [.dice, .int m] => (match m with
    | .ofNat n => bifF (Nat.ble 1 n) (bifF (Nat.ble (Nat.succ n) 1000000000) (.roll n fun i => .ok (.int (.ofNat i))) .stuck) .stuck
    | .negSucc _ => .stuck)
  | _ => .stuck
theorem rollD_f : rollD = rollDF := by
  funext ds
  unfold rollD rollDF
  split
  · rename_i m
    cases m with
    | ofNat n =>
      refine (dec_f _ (bifF (Nat.ble 1 n) (Nat.ble (Nat.succ n) 1000000000) false) ?_ _ _).trans ?_
      · show _ ↔ (0 : Int) < (n : Int) ∧ (n : Int) < 1000000000
        cases h : Nat.ble 1 n with
        | true => rw [Nat.ble_eq] at h; show Nat.ble (n + 1) _ = true ↔ _; rw [Nat.ble_eq]; omega
        | false =>
          have : ¬ 1 ≤ n := fun q => by rw [← Nat.ble_eq, h] at q; cases q
          show false = true ↔ _
          simp; omega
      · show _ = bifF (Nat.ble 1 n) _ _
        cases Nat.ble 1 n <;> rfl
    | negSucc n => exact if_neg (by omega)
  · rename_i h
    first
    | rfl
    | (split
       · exact (h _ rfl).elim
       · rfl)
theorem ltb_int (i j : Int) : D.ltb (.int i) (.int j) = iltF i j := by rw [← ilt_f]; unfold D.ltb; simp only [D.toP]; exact PySem.W.dataLt_int ..
noncomputable def allIntF (ds : List D) : Bool := @List.rec D (fun _ => Bool) true (fun d _ ih => match d with | .int _ => ih | _ => false) ds
theorem allInt_of : ∀ {ds : List D}, allIntF ds = true → ∀ d ∈ ds, ∃ i, d = .int i
  | [], _, d, h => by cases h
  | x :: ds, h, d, hd => by
    cases x <;> first | (cases (show false = true from h); done) | skip
    rcases List.mem_cons.mp hd with rfl | hd
    · exact ⟨_, rfl⟩
    · exact allInt_of (show allIntF ds = true from h) d hd
theorem alis_int {ds : List D} (h : allIntF ds = true) : alis ds = true := by
  unfold alis
  rw [List.all_eq_true]
  intro x hx
  obtain ⟨i, rfl⟩ := allInt_of h x hx
  have : ds.all (fun y => D.ali (.int i) y) = true := by
    rw [List.all_eq_true]
    intro y hy
    obtain ⟨j, rfl⟩ := allInt_of h y hy
    rfl
  simp [this, D.sh]
noncomputable def leastF (ds : List D) : D → D := @List.rec D (fun _ => D → D) (fun a => a) (fun y _ ih a => ih (match y with
  | .int j => (match a with
    | .int i => bifF (iltF j i) (.int j) (.int i)
    | _ => a)
  | _ => a)) ds
theorem least_f : ∀ (ds : List D) (i : Int), allIntF ds = true → least (.int i) ds = leastF ds (.int i)
  | [], i, _ => rfl
  | x :: ds, i, h => by
    cases x <;> first | (cases (show false = true from h); done) | skip
    rename_i j
    show least (if D.ltb (.int j) (.int i) = true then D.int j else D.int i) ds = leastF ds (bifF (iltF j i) (.int j) (.int i))
    rw [ltb_int]
    cases iltF j i
    · exact least_f ds i h
    · exact least_f ds j h
noncomputable def minLF (ds : List D) : R D := match ds with
  | [.int i, .int j] => .ok (.int (bifF (iltF j i) j i))
  | [.lst (.int i :: ds)] => bifF (allIntF ds) (.ok (leastF ds (.int i))) (minL [.lst (.int i :: ds)])
  | [.tup (.int i :: ds)] => bifF (allIntF ds) (.ok (leastF ds (.int i))) (minL [.tup (.int i :: ds)])
  | ds => minL ds
theorem minL_f : minL = minLF := by
  funext ds
  unfold minLF
  split
  · rename_i i j
    show R.ok (D.int (if j < i then j else i)) = _
    congr 2
    exact dec_f _ _ (by rw [← ilt_f]; simp) _ _
  · rename_i i ds
    cases h : allIntF ds with
    | false => rfl
    | true =>
      show (if alis (.int i :: ds) = true then R.ok (least (.int i) ds) else .stuck) = R.ok (leastF ds (.int i))
      rw [if_pos (alis_int (show allIntF (.int i :: ds) = true from h)), least_f ds i h]
  · rename_i i ds
    cases h : allIntF ds with
    | false => rfl
    | true =>
      show (if alis (.int i :: ds) = true then R.ok (least (.int i) ds) else .stuck) = R.ok (leastF ds (.int i))
      rw [if_pos (alis_int (show allIntF (.int i :: ds) = true from h)), least_f ds i h]
  · rfl
theorem repl_f {α : Type} (n : Nat) (x : α) : List.replicate n x = @Nat.rec (fun _ => List α) [] (fun _ ih => x :: ih) n := by
  induction n with
  | zero => rfl
  | succ n ih => rw [List.replicate_succ, ih]
noncomputable def argsF (ds : List D) (k : Nat) : LE := @List.rec D (fun _ => LE) (@Nat.rec (fun _ => LE) [] (fun _ ih => Cell.un :: ih) k) (fun d _ ih => Cell.val d :: ih) ds
theorem args_f (k : Nat) : ∀ ds : List D, ds.map Cell.val ++ List.replicate k Cell.un = argsF ds k
  | [] => repl_f k _
  | d :: ds => by show Cell.val d :: (ds.map Cell.val ++ _) = Cell.val d :: argsF ds k; rw [args_f k ds]
noncomputable def runGF (n m : Nat) (F : LE → R Out) (ds : List D) : R D := bifF (Nat.beq (lenF ds) n) (bdF (cmF (F (argsF ds (Nat.sub m n)))) fun o => outF o (fun _ => .ok .non) (fun d => .ok d) (fun _ => .stuck) (fun _ => .stuck) (fun e _ => .err e)) .stuck
theorem runG_f (n m : Nat) (F : LE → R Out) : runFF n m F = runGF n m F := by
  funext ds; unfold runFF runGF; rw [args_f]; rfl
noncomputable def sumGF (gd : D → LE → Option LE) (tt : LE → R Bool) (te : LE → R D) (r : LE) (ds : List D) : Int → R Int :=
  @List.rec D (fun _ => Int → R Int) (fun acc => .ok acc) (fun d _ ih acc => optF (gd d r) .stuck fun r' => nfF r' fun r' => bdF (cmF (tt r')) fun b => bifF b (bdF (cmF (te r')) fun y => match y with
    | .int v => if smallI v ∧ smallI (acc + v) then ih (iaddF acc v) else .stuck
    | _ => .stuck) (ih acc)) ds
theorem sumG_f (gd : D → LE → Option LE) (tt : LE → R Bool) (te : LE → R D) (r : LE) : ∀ (ds : List D) (acc : Int), sumG gd tt te r acc ds = sumGF gd tt te r ds acc
  | [], acc => rfl
  | d :: ds, acc => by
    show sumG gd tt te r acc (d :: ds) = optF (gd d r) .stuck fun r' => nfF r' fun r' => bdF (cmF (tt r')) fun b => bifF b (bdF (cmF (te r')) fun y => match y with
    | .int v => if smallI v ∧ smallI (acc + v) then sumGF gd tt te r ds (iaddF acc v) else .stuck
    | _ => .stuck) (sumGF gd tt te r ds acc)
    unfold sumG
    cases gd d r with
    | none => rfl
    | some r' =>
      show ((tt r').calm >>= _) = nfF r' _
      rw [nf_f, bd_f, cm_f]
      congr
      funext b
      cases b with
      | false => exact sumG_f gd tt te r ds acc
      | true =>
        show ((te r').calm >>= _) = bdF (cmF (te r')) _
        rw [bd_f, cm_f]
        congr
        funext y
        cases y <;> try rfl
        rename_i v
        show (if smallI v ∧ smallI (acc + v) then sumG gd tt te r (acc + v) ds else .stuck) = (if smallI v ∧ smallI (acc + v) then sumGF gd tt te r ds (iaddF acc v) else .stuck)
        rw [sumG_f gd tt te r ds, iadd_f]
noncomputable def sumEF (fi : LE → R (List D)) (gd : D → LE → Option LE) (tt : LE → R Bool) (te : LE → R D) (vs : List Nat) : LE → R D := fun r => bdF (fi r) fun ds => bdF (sumGF gd tt te (wipeF r vs) ds 0) fun b => .ok (.int b)
theorem sumE_f (fi : LE → R (List D)) (gd : D → LE → Option LE) (tt : LE → R Bool) (te : LE → R D) (vs : List Nat) : sumE fi gd tt te vs = sumEF fi gd tt te vs := by
  funext r; unfold sumE sumEF; rw [bd_f]; congr; funext ds; rw [bd_f, sumG_f, wipe_f]
noncomputable def enumTGF (k : Int) (fs : LE → R (List D)) : LE → R (List D) := fun r => bdF (fs r) (enumTDF k)
theorem enumTG_f (k : Int) (fs : LE → R (List D)) : enumTEF k fs = enumTGF k fs := by funext r; unfold enumTEF enumTGF; rw [enumTD_f]
end DL
set_option Elab.async false
set_option linter.all false
set_option maxRecDepth 100000
namespace DL
open PySem L2 PySem.Spec PyProof.Rows
/-- all that comes out of it -/
def Ev {α : Type} : R α → (α → Prop) → Prop
  | .ok a, P => P a
  | .err _, _ => True
  | .stuck, _ => True
  | .roll _ k, P => ∀ i, Ev (k i) P
theorem Ev.wp {α : Type} {P Q : α → Prop} {E : Exc → Prop} : ∀ {m : R α}, Ev m P → Wp m Q E → Wp m (fun a => Q a ∧ P a) E
  | .ok _, h, q => ⟨q, h⟩
  | .err _, _, q => q
  | .stuck, _, q => q
  | .roll _ _, h, q => fun i hi => Ev.wp (h i) (q i hi)
theorem Ev.mono {α : Type} {P Q : α → Prop} : ∀ {m : R α}, Ev m P → (∀ a, P a → Q a) → Ev m Q
  | .ok _, h, k => k _ h
  | .err _, _, _ => trivial
  | .stuck, _, _ => trivial
  | .roll _ _, h, k => fun i => Ev.mono (h i) k
theorem Ev.all {α : Type} {P : α → Prop} (h : ∀ a, P a) : ∀ m : R α, Ev m P
  | .ok _ => h _
  | .err _ => trivial
  | .stuck => trivial
  | .roll _ f => fun i => Ev.all h (f i)
theorem Ev.bdF {α β : Type} {P : β → Prop} {k : α → R β} : ∀ {m : R α}, Ev m (fun a => Ev (k a) P) → Ev (DL.bdF m k) P
  | .ok _, h => h
  | .err _, _ => trivial
  | .stuck, _ => trivial
  | .roll _ _, h => fun i => Ev.bdF (h i)
theorem Ev.onF {α : Type} {P : Out → Prop} {r : LE} {k : α → R Out} (he : ∀ e, P (.ex e r)) : ∀ {m : R α}, Ev m (fun a => Ev (k a) P) → Ev (DL.onF m r k) P
  | .ok _, h => h
  | .err _, _ => he _
  | .stuck, _ => trivial
  | .roll _ _, h => fun i => Ev.onF he (h i)
/-- only the slots vs are written -/
def Same_ (vs : List Nat) (r r' : LE) : Prop := r'.length = r.length ∧ ∀ j, j ∉ vs → r'[j]? = r[j]?
theorem Same_.refl {vs : List Nat} {r : LE} : Same_ vs r r := ⟨rfl, fun _ _ => rfl⟩
theorem Same_.set {vs : List Nat} {r : LE} {i : Nat} {x : Cell} (h : i ∈ vs) : Same_ vs r (setF r i x) := by
  rw [← set_f]
  exact ⟨List.length_set, fun j hj => List.getElem?_set_ne fun e : i = j => hj (by rw [← e]; exact h)⟩
structure Keeps (vs : List Nat) (S : LE → R Out) : Prop where
  h : ∀ r, Ev (S r) (fun o => ∀ r', o = .nx r' → Same_ vs r r')
theorem keeps_set {vs : List Nat} {i : Nat} {f : LE → R Cell} (h : i ∈ vs) : Keeps vs (setKF i f) := ⟨fun r => by
  refine Ev.onF (fun e r' z => by cases z) (Ev.all (fun c => ?_) _)
  unfold cellF
  cases c with
  | un => trivial
  | val d => show Ev (nxF _) _; rw [← nx_f]; intro r' z; cases z; exact .set h
  | own d => show Ev (nxF _) _; rw [← nx_f]; intro r' z; cases z; exact .set h⟩
theorem keeps_skip {vs : List Nat} : Keeps vs skipS := ⟨fun r r' z => by cases z; exact .refl⟩
theorem keeps_ret {vs : List Nat} {f : LE → R D} : Keeps vs (retSF f) := ⟨fun r => Ev.onF (fun e r' z => by cases z) (Ev.all (fun d r' z => by cases z) _)⟩
theorem keeps_if {vs : List Nat} {c : LE → R Bool} {F K : LE → R Out} (h1 : Keeps vs F) (h2 : Keeps vs K) : Keeps vs (ifSF c F K) := ⟨fun r => by
  refine Ev.onF (fun e r' z => by cases z) (Ev.all (fun b => ?_) _)
  cases b
  · exact h2.h r
  · exact h1.h r⟩
theorem keeps_run {vs : List Nat} : ∀ {Ss : List (LE → R Out)}, (∀ S ∈ Ss, Keeps vs S) → ∀ r, Ev (runAll Ss r) (fun r' => Same_ vs r r')
  | [], _, r => .refl
  | S :: Ss, h, r => by
    show Ev (S r >>= _) _
    rw [bd_f]
    refine Ev.bdF (((h S List.mem_cons_self).h r).mono fun o ho => ?_)
    cases o with
    | nx r1 =>
      refine (keeps_run (fun S hS => h S (List.mem_cons_of_mem _ hS)) r1).mono fun r2 h2 => ?_
      have h1 := ho r1 rfl
      exact ⟨h2.1.trans h1.1, fun j hj => (h2.2 j hj).trans (h1.2 j hj)⟩
    | _ => trivial
/-- a group, every roll tried; g tells the states behind it, the slots outside vs stay -/
theorem GoP.grpK {P : Out → Prop} {F K : LE → R Out} {r : LE} (Ss : List (LE → R Out)) (vs : List Nat) (e : F = seqAll Ss K) (g : LE → Bool) (hk : ∀ S ∈ Ss, Keeps vs S) (h : Ck (runAll Ss r) g) (k : ∀ r', g r' = true → Same_ vs r r' → GoP P K r') : GoP P F r := by
  subst e
  exact ⟨runAll_wp Ss r ((keeps_run hk r).wp h.wp) fun r' hr => k r' hr.1 hr.2⟩
theorem GoP.set {P : Out → Prop} {f : LE → R D} {i : Nat} {K F : LE → R Out} {r : LE} (e : F = seqS (setKF i (valKF f)) K) {Q : D → Prop} (h : Wr (f r) Q) (k : ∀ d, Q d → GoP P K (r.set i (.val d))) : GoP P F r := by
  subst e
  refine GoP.one (Q := fun r' => ∃ d, Q d ∧ r' = r.set i (.val d)) rfl ?_ fun r' ⟨d, hd, e⟩ => e ▸ k d hd
  rw [← valK_f, ← setK_f]
  exact Wr.run1 ⟨h.h.mono (fun d hd => ⟨d, hd, rfl⟩) fun _ z => z⟩
/-- a def's answer -/
theorem runG_wp {n m : Nat} {F : LE → R Out} {ds : List D} {Q : D → Prop} (hn : ds.length = n) (h : Wp (F (argsF ds (m - n))) (fun o => ∃ d, o = .rt d ∧ Q d) (fun _ => False)) : Wr (runGF n m F ds) Q := by
  refine ⟨?_⟩
  unfold runGF
  rw [← len_f, show Nat.beq ds.length n = true from beq_iff_nat.mpr hn]
  show Wp (bdF _ _) _ _
  rw [← bd_f, ← cm_f]
  refine Wp.of_bind ?_
  have : ∀ {α : Type} {m : R α} {Q : α → Prop}, Wp m Q (fun _ => False) → Wp m.calm Q (fun _ => False) := fun {α m Q} hm => by
    induction m with
    | ok a => exact hm
    | err e => exact hm.elim
    | stuck => exact hm
    | roll n k ih => exact fun i hi => ih i (hm i hi)
  refine this (h.mono (fun o ho => ?_) fun _ z => z)
  obtain ⟨d, rfl, hd⟩ := ho
  exact hd
theorem Wr.eq {α : Type} {m : R α} {a : α} {Q : α → Prop} (h : m = .ok a) (q : Q a) : Wr m Q := ⟨by rw [h]; exact q⟩
theorem Wr.mono {α : Type} {m : R α} {Q Q' : α → Prop} (h : Wr m Q) (k : ∀ a, Q a → Q' a) : Wr m Q' := ⟨h.h.mono k fun _ z => z⟩
theorem Wr.bdF {α β : Type} {m : R α} {k : α → R β} {Q : β → Prop} (h : Wr m (fun a => Wr (k a) Q)) : Wr (DL.bdF m k) Q := ⟨by
  rw [← bd_f]
  exact Wp.of_bind (h.h.mono (fun a ha => ha.h) fun _ z => z)⟩
theorem Wr.ok {α : Type} {a : α} {Q : α → Prop} (q : Q a) : Wr (.ok a) Q := ⟨q⟩
end DL
namespace DL
theorem Same_.none {r r' : LE} (h : Same_ [] r r') : r' = r := List.ext_getElem? fun j => h.2 j (by simp)
theorem Same_.one {i : Nat} {r r' : LE} (h : Same_ [i] r r') : ∃ c, r' = r.set i c := by
  refine ⟨r'.getD i .un, List.ext_getElem? fun j => ?_⟩
  by_cases e : j = i
  · subst e
    by_cases hj : j < r.length
    · rw [List.getElem?_set_self hj, List.getD_eq_getElem?_getD, List.getElem?_eq_getElem (by rw [h.1]; exact hj)]
      rfl
    · rw [List.getElem?_eq_none (by rw [h.1]; omega), List.getElem?_eq_none (by rw [List.length_set]; omega)]
  · rw [h.2 j (by simpa using e), List.getElem?_set_ne (Ne.symm e)]
theorem Same_.two {i k : Nat} {r r' : LE} (h : Same_ [i, k] r r') : ∃ c d, r' = (r.set i c).set k d := by
  refine ⟨r'.getD i .un, r'.getD k .un, List.ext_getElem? fun j => ?_⟩
  by_cases e : j = k
  · subst e
    by_cases hj : j < r.length
    · rw [List.getElem?_set_self (by rw [List.length_set]; exact hj), List.getD_eq_getElem?_getD, List.getElem?_eq_getElem (by rw [h.1]; exact hj)]
      rfl
    · rw [List.getElem?_eq_none (by rw [h.1]; omega), List.getElem?_eq_none (by rw [List.length_set, List.length_set]; omega)]
  · rw [List.getElem?_set_ne (Ne.symm e)]
    by_cases e2 : j = i
    · subst e2
      by_cases hj : j < r.length
      · rw [List.getElem?_set_self hj, List.getD_eq_getElem?_getD, List.getElem?_eq_getElem (by rw [h.1]; exact hj)]
        rfl
      · rw [List.getElem?_eq_none (by rw [h.1]; omega), List.getElem?_eq_none (by rw [List.length_set]; omega)]
    · rw [h.2 j (by simp [e, e2]), List.getElem?_set_ne (Ne.symm e2)]
theorem seqA_f (S K : LE → R Out) (Ss : List (LE → R Out)) (F : LE → R Out) (h : F = seqAll Ss K) : seqSF S F = seqAll (S :: Ss) K := by rw [← seqS_f, h]; rfl
theorem seqB_f (S K : LE → R Out) : seqSF S K = seqAll [S] K := by rw [← seqS_f]; rfl
end DL
set_option Elab.async false
set_option linter.all false
set_option maxRecDepth 100000
namespace DL
open PySem L2 PySem.Spec PyProof.Rows
theorem bdF_ok {α β : Type} (a : α) (k : α → R β) : bdF (.ok a) k = k a := rfl
theorem cmF_ok {α : Type} (a : α) : cmF (R.ok a) = .ok a := rfl
theorem loopCF_cons (gd : D → LE → Option LE) (tt : LE → R Bool) (te : LE → R D) (r : LE) (d : D) (ds : List D) :
    loopCF gd tt te r (d :: ds) = optF (gd d r) .stuck fun r' => nfF r' fun r' => bdF (cmF (tt r')) fun b => bifF b (bdF (cmF (te r')) fun y => bdF (loopCF gd tt te r ds) fun ys => .ok (y :: ys)) (loopCF gd tt te r ds) := rfl
/-- a comprehension without tests, each answer known -/
theorem loopCF_map {gd : D → LE → Option LE} {te : LE → R D} {r : LE} {h : D → D} : ∀ {ds : List D}, (∀ d ∈ ds, ∃ r', gd d r = some r' ∧ te r' = .ok (h d)) → loopCF gd yesT te r ds = .ok (ds.map h)
  | [], _ => rfl
  | d :: ds, q => by
    obtain ⟨r', h1, h2⟩ := q d List.mem_cons_self
    rw [loopCF_cons, h1]
    show nfF r' _ = _
    rw [nf_f]
    show bdF (cmF (te r')) _ = _
    rw [h2]
    show bdF (loopCF gd yesT te r ds) _ = _
    rw [loopCF_map fun d hd => q d (List.mem_cons_of_mem _ hd)]
    rfl
/-- .. with a test that is known -/
theorem loopCF_filter {gd : D → LE → Option LE} {tt : LE → R Bool} {te : LE → R D} {r : LE} {p : D → Bool} {h : D → D} : ∀ {ds : List D}, (∀ d ∈ ds, ∃ r', gd d r = some r' ∧ tt r' = .ok (p d) ∧ te r' = .ok (h d)) → loopCF gd tt te r ds = .ok ((ds.filter p).map h)
  | [], _ => rfl
  | d :: ds, q => by
    obtain ⟨r', h1, h2, h3⟩ := q d List.mem_cons_self
    rw [loopCF_cons, h1]
    show nfF r' _ = _
    rw [nf_f, h2, List.filter_cons]
    have ih := loopCF_filter fun d hd => q d (List.mem_cons_of_mem _ hd)
    cases p d with
    | true =>
      show bdF (cmF (te r')) _ = _
      rw [h3]
      show bdF (loopCF gd tt te r ds) _ = _
      rw [ih]
      rfl
    | false => exact ih
theorem anyCF_cons (x : Bool) (gd : D → LE → Option LE) (tt : LE → R Bool) (te : LE → R D) (r : LE) (d : D) (ds : List D) :
    anyCF x gd tt te r (d :: ds) = optF (gd d r) .stuck fun r' => nfF r' fun r' => bdF (cmF (tt r')) fun b => bifF b (bdF (cmF (te r')) fun y => match y with
    | .bl c => bifF (c == x) (.ok x) (anyCF x gd tt te r ds)
    | _ => .stuck) (anyCF x gd tt te r ds) := rfl
theorem anyCF_no {x : Bool} {gd : D → LE → Option LE} {te : LE → R D} {r : LE} : ∀ {ds : List D}, (∀ d ∈ ds, ∃ r', gd d r = some r' ∧ te r' = .ok (.bl (!x))) → anyCF x gd yesT te r ds = .ok (!x)
  | [], _ => rfl
  | d :: ds, q => by
    obtain ⟨r', h1, h2⟩ := q d List.mem_cons_self
    rw [anyCF_cons, h1]
    show nfF r' _ = _
    rw [nf_f]
    show bdF (cmF (te r')) _ = _
    rw [h2]
    show bifF ((!x) == x) _ _ = _
    rw [show ((!x) == x) = false by cases x <;> rfl]
    exact anyCF_no fun d hd => q d (List.mem_cons_of_mem _ hd)
theorem okLenF_of {α : Type} {l : List α} (h : l.length ≤ 16777216) : okLenF l = true := by
  unfold okLenF
  rw [Nat.ble_eq, ← len_f]
  exact h
theorem joinDF_signs (s : List Nat) (h : s.length ≤ 1000) : joinDF (.str []) [.lst (s.map fun c => D.str [c])] = .ok (.str s) := by rw [← joinD_f]; exact joinD_signs s h
theorem signsF_mem {s : List Nat} {d : D} (h : d ∈ signsF s) : ∃ c ∈ s, d = .str [c] := by
  rw [← signs_f] at h
  obtain ⟨c, hc, rfl⟩ := List.mem_map.mp h
  exact ⟨c, hc, rfl⟩
theorem anyText_no {x : Bool} {f : LE → R D} {te : LE → R D} {r : LE} {i : Nat} {s : List Nat} (hf : f r = .ok (.str s)) (h : ∀ c ∈ s, te (setF (setF r i .un) i (.val (.str [c]))) = .ok (.bl (!x))) :
    anyEF x (itSF f) (gNF i) yesT te [i] r = .ok (.bl (!x)) := by
  show bdF (bdF (f r) _) _ = _
  rw [hf]
  show bdF (anyCF x (gNF i) yesT te (wipeF r [i]) (signsF s)) _ = _
  rw [anyCF_no fun d hd => by obtain ⟨c, hc, rfl⟩ := signsF_mem hd; exact ⟨_, rfl, h c hc⟩]
  rfl
theorem loopSF_cons (gd : D → LE → Option LE) (body : LE → R Out) (d : D) (ds : List D) (r : LE) :
    loopSF gd body (d :: ds) r = optF (gd d r) .stuck fun r' => nfF r' fun r' => bdF (body r') fun o => outF o (loopSF gd body ds) (fun d => .ok (.rt d)) (fun r => .ok (.nx r)) (loopSF gd body ds) (fun e r => .ok (.ex e r)) := rfl
theorem len2F_of {α : Type} {a b : List α} (h : a.length + b.length ≤ 16777216) : len2F a b = true := by
  unfold len2F
  rw [Nat.ble_eq, ← len_f, ← len_f]
  exact h
theorem setKF_val {i : Nat} {g : LE → R D} {r : LE} {d : D} (h : g r = .ok d) : setKF i (valKF g) r = .ok (.nx (setF r i (.val d))) := by
  show onF (bdF (g r) _) r _ = _
  rw [h]
  show nxF _ = _
  rw [← nx_f]
theorem setKF_own {i : Nat} {g : LE → R (List D)} {r : LE} {ds : List D} (h : g r = .ok ds) : setKF i (ownKF g) r = .ok (.nx (setF r i (.own (.lst ds)))) := by
  show onF (bdF (g r) _) r _ = _
  rw [h]
  show nxF _ = _
  rw [← nx_f]
theorem opEF_ok {g : D → D → R D} {f k : LE → R D} {r : LE} {x y z : D} (h1 : f r = .ok x) (h2 : k r = .ok y) (h3 : g x y = .ok z) : opEF g f k r = .ok z := by
  show bdF (f r) _ = _
  rw [h1]
  show bdF (k r) _ = _
  rw [h2]
  exact h3
theorem aconsF_ok {f : LE → R D} {fs : LE → R (List D)} {r : LE} {x : D} {xs : List D} (h : f r = .ok x) (h2 : fs r = .ok xs) : aconsF f fs r = .ok (x :: xs) := by
  unfold aconsF
  rw [h]
  show bdF (fs r) _ = _
  rw [h2]
  rfl
theorem compFF_ok {fi : LE → R (List D)} {gd : D → LE → Option LE} {tt : LE → R Bool} {te : LE → R D} {vs : List Nat} {r : LE} {ds ys : List D} (h : fi r = .ok ds) (hl : ds.length ≤ 16777216) (h2 : loopCF gd tt te (wipeF r vs) ds = .ok ys) : compFF fi gd tt te vs r = .ok ys := by
  unfold compFF
  rw [h, bdF_ok, okLenF_of hl]
  exact h2
theorem lEF_ok {f : LE → R (List D)} {r : LE} {ds : List D} (h : f r = .ok ds) : lEF f r = .ok (.lst ds) := by
  unfold lEF
  rw [h]
  rfl
theorem bmS1_ok {gg : D → List D → R D} {f k : LE → R D} {r : LE} {s : List Nat} {x d : D} (h1 : f r = .ok (.str s)) (h2 : k r = .ok x) (h3 : gg (.str s) [x] = .ok d) : bmSF gg f (aconsF k anil) r = .ok d := by
  unfold bmSF
  rw [h1, bdF_ok]
  show bdF (aconsF k anil r) _ = _
  rw [aconsF_ok h2 (xs := []) rfl]
  exact h3
theorem seqSF_ok {F K : LE → R Out} {r r' : LE} (h : F r = .ok (.nx r')) : seqSF F K r = K r' := by
  show bdF (F r) _ = _
  rw [h]
  rfl
theorem ifSF_false {c : LE → R Bool} {F K : LE → R Out} {r : LE} (h : c r = .ok false) : ifSF c F K r = K r := by
  show onF (c r) r _ = _
  rw [h]
  rfl
theorem runGF_ok {n m : Nat} {F : LE → R Out} {ds : List D} {d : D} (hn : ds.length = n) (h : F (argsF ds (m - n)) = .ok (.rt d)) : runGF n m F ds = .ok d := by
  unfold runGF
  rw [← len_f, show Nat.beq ds.length n = true from beq_iff_nat.mpr hn]
  show bdF (cmF (F (argsF ds (m - n)))) _ = _
  rw [h]
  rfl
theorem retSF_ok {f : LE → R D} {r : LE} {d : D} (h : f r = .ok d) : retSF f r = .ok (.rt d) := by
  show onF (f r) r _ = _
  rw [h]
  rfl
theorem forSF_ok {fi : LE → R (List D)} {gd : D → LE → Option LE} {body : LE → R Out} {r : LE} {ds : List D} (h : fi r = .ok ds) : forSF fi gd body r = loopSF gd body ds r := by
  show onF (fi r) r _ = _
  rw [h]
  rfl
end DL
namespace DL
theorem Wr.cm {α : Type} {m : R α} {Q : α → Prop} (h : Wr m Q) : Wr (cmF m) Q := by
  refine ⟨?_⟩
  rw [← cm_f]
  have : ∀ {m : R α}, Wp m Q (fun _ => False) → Wp m.calm Q (fun _ => False) := fun {m} hm => by
    induction m with
    | ok a => exact hm
    | err e => exact hm.elim
    | stuck => exact hm
    | roll n k ih => exact fun i hi => ih i (hm i hi)
  exact this h.h
/-- a comprehension without tests, answers rolled -/
theorem loopCF_wr {gd : D → LE → Option LE} {te : LE → R D} {r : LE} {P : D → Prop} : ∀ {ds : List D}, (∀ d ∈ ds, ∃ r', gd d r = some r' ∧ Wr (te r') P) → Wr (loopCF gd yesT te r ds) (fun ys => ys.length = ds.length ∧ ∀ y ∈ ys, P y)
  | [], _ => Wr.ok ⟨rfl, fun _ h => by cases h⟩
  | d :: ds, q => by
    obtain ⟨r', h1, h2⟩ := q d List.mem_cons_self
    rw [loopCF_cons, h1]
    show Wr (nfF r' _) _
    rw [nf_f]
    show Wr (bdF (cmF (te r')) _) _
    refine Wr.bdF ((Wr.cm h2).mono fun y hy => Wr.bdF ((loopCF_wr fun d hd => q d (List.mem_cons_of_mem _ hd)).mono fun ys h => Wr.ok ⟨by rw [List.length_cons, List.length_cons, h.1], fun z hz => ?_⟩))
    rcases List.mem_cons.mp hz with rfl | hz
    · exact hy
    · exact h.2 z hz
theorem compFF_wr {fi : LE → R (List D)} {gd : D → LE → Option LE} {te : LE → R D} {vs : List Nat} {r : LE} {P : D → Prop} {N : Nat → Prop} (hf : Wr (fi r) (fun ds => N ds.length ∧ ds.length ≤ 16777216)) (ht : ∀ d, ∃ r', gd d (wipeF r vs) = some r' ∧ Wr (te r') P) :
    Wr (compFF fi gd yesT te vs r) (fun ys => N ys.length ∧ ∀ y ∈ ys, P y) := Wr.bdF (hf.mono fun ds h => by
  rw [okLenF_of h.2]
  exact (loopCF_wr fun d _ => ht d).mono fun ys q => ⟨by rw [q.1]; exact h.1, q.2⟩)
/-- a text of rolled signs -/
theorem textF_wr {fi : LE → R (List D)} {gd : D → LE → Option LE} {te : LE → R D} {vs : List Nat} {r : LE} (S : List Nat) {N : Nat → Prop} (hN : ∀ n, N n → n ≤ 1000) (hf : Wr (fi r) (fun ds => N ds.length))
    (ht : ∀ d, ∃ r', gd d (wipeF r vs) = some r' ∧ Wr (te r') (fun d => ∃ c, c ∈ S ∧ d = .str [c])) :
    Wr (bmSF joinDF (cst (.str [])) (aconsF (lEF (compFF fi gd yesT te vs)) anil) r) (fun d => ∃ s : List Nat, N s.length ∧ (∀ c ∈ s, c ∈ S) ∧ d = .str s) := by
  refine Wr.bdF (Wr.ok (Wr.bdF (Wr.bdF (Wr.bdF ((compFF_wr (N := N) (hf.mono fun ds h => ⟨h, Nat.le_trans (hN _ h) (by decide)⟩) ht).mono fun ys h => ?_)))))
  obtain ⟨s, rfl, h2, h3⟩ := all_signs ys h.2
  refine Wr.ok (Wr.bdF (Wr.ok (Wr.ok ?_)))
  have hn : N s.length := by rw [h2]; exact h.1
  exact Wr.eq (joinDF_signs s (hN _ hn)) ⟨s, hn, h3, rfl⟩
end DL
set_option Elab.async false
set_option linter.all false
set_option maxRecDepth 100000
namespace K08
open DL PySem PySem.Spec PyProof.Rows
noncomputable def F_law_figures_f : LE → R Out :=
    (seqSF (setKF 2 (valKF (lEF (lstEF (aconsF (opEF modDF (varF 0) (varF 1)) anil)))))
    (seqSF (whileSF 100 (cmpTF geDF (varF 0) (varF 1))
    (seqSF (setKF 0 (valKF (opEF fdivDF (varF 0) (varF 1))))
    (setKF 2 (valKF (opEF addDF (lEF (lstEF (aconsF (opEF modDF (varF 0) (varF 1)) anil))) (varF 2))))))
    (retSF (varF 2))))
theorem fe_law_figures : F_law_figures = F_law_figures_f := by
  unfold F_law_figures F_law_figures_f
  simp only [seqS_f, retS_f, setK_f, valK_f, whileS_f, opE_f, cmpT_f, acons_f, lstE_f, lE_f, var_f, addD_f, modD_f, fdivD_f, geD_f]
noncomputable def D_law_figures_f : List D → R D := runGF 2 3 F_law_figures_f
theorem e_law_figures : D_law_figures = D_law_figures_f := by
  unfold D_law_figures D_law_figures_f
  rw [fe_law_figures]
  exact (runF_f ..).trans (runG_f ..)
noncomputable def F_pennants_f : LE → R Out :=
    (seqSF (ifSF (orTF (notTF (chainTF (cst (.int 2)) (varF 1) (cst (.int 10)) leDF leDF)) (cmpTF ltDF (varF 0) (cst (.int 0))))
    (errS ⟨3, .non⟩)
    skipS)
    (seqSF (setKF 2 (valKF (subEF (cst d_FIGURES) (opEF modDF (varF 0) (varF 1)))))
    (seqSF (setKF 0 (valKF (opEF fdivDF (varF 0) (varF 1))))
    (seqSF (whileSF 100 (cmpTF gtDF (varF 0) (cst (.int 0)))
    (parKF 2 0 (valKF (opEF addDF (subEF (cst d_FIGURES) (opEF modDF (varF 0) (varF 1))) (varF 2))) (valKF (opEF fdivDF (varF 0) (varF 1)))))
    (retSF (varF 2))))))
theorem fe_pennants : F_pennants = F_pennants_f := by
  unfold F_pennants F_pennants_f
  simp only [seqS_f, retS_f, ifS_f, setK_f, valK_f, parK_f, whileS_f, orT_f, notT_f, opE_f, cmpT_f, chainT_f, subE_f, var_f, addD_f, modD_f, fdivD_f, ltD_f, leD_f, gtD_f]
noncomputable def D_pennants_f : List D → R D := runGF 2 3 F_pennants_f
theorem e_pennants : D_pennants = D_pennants_f := by
  unfold D_pennants D_pennants_f
  rw [fe_pennants]
  exact (runF_f ..).trans (runG_f ..)
noncomputable def F_read_pennants_f : LE → R Out :=
    (seqSF (ifSF (notTF (chainTF (cst (.int 2)) (varF 1) (cst (.int 10)) leDF leDF))
    (errS ⟨3, .non⟩)
    skipS)
    (seqSF (ifSF (orTF (cmpTF eqDF (varF 0) (cst (.str []))) (orTF (valTF (anyEF true (itSF (varF 0)) (gNF 2) yesT (opEF notInDF (varF 2) (sliceEF (cst d_FIGURES) noP (somePF (varF 1)))) [2])) (andTF (cmpTF gtDF (callEF lenXF (aconsF (varF 0) anil)) (cst (.int 1))) (cmpTF eqDF (subEF (varF 0) (cst (.int 0))) (cst (.str [48]))))))
    (errS ⟨2, .non⟩)
    skipS)
    (seqSF (setKF 3 (valKF (cst (.int 0))))
    (seqSF (forSF (itSF (varF 0)) (gNF 2)
    (setKF 3 (valKF (opEF addDF (opEF mulDF (varF 3) (varF 1)) (bmSF sidxDF (cst d_FIGURES) (aconsF (varF 2) anil))))))
    (retSF (varF 3))))))
theorem fe_read_pennants : F_read_pennants = F_read_pennants_f := by
  unfold F_read_pennants F_read_pennants_f
  simp only [bmE_f, bmS_f, seqS_f, retS_f, ifS_f, setK_f, valK_f, forS_f, andT_f, orT_f, notT_f, opE_f, cmpT_f, valT_f, chainT_f, acons_f, callE_f, itS_f, gN_f, anyE_f, subE_f, var_f, addD_f, mulD_f, leD_f, gtD_f, eqD_f, notInD_f, lenX_f, sliceE_f, someP_f, sidxD_f]
noncomputable def D_read_pennants_f : List D → R D := runGF 2 4 F_read_pennants_f
theorem e_read_pennants : D_read_pennants = D_read_pennants_f := by
  unfold D_read_pennants D_read_pennants_f
  rw [fe_read_pennants]
  exact (runF_f ..).trans (runG_f ..)
noncomputable def F_sum_of_figures_f : LE → R Out :=
    (retSF (sumEF (itSF (callEF D_pennants_f (aconsF (varF 0) (aconsF (varF 1) anil)))) (gNF 2) yesT (bmSF sidxDF (cst d_FIGURES) (aconsF (varF 2) anil)) [2]))
theorem fe_sum_of_figures : F_sum_of_figures = F_sum_of_figures_f := by
  unfold F_sum_of_figures F_sum_of_figures_f
  simp only [bmE_f, bmS_f, retS_f, acons_f, callE_f, itS_f, gN_f, var_f, sidxD_f, sumE_f, e_pennants]
noncomputable def D_sum_of_figures_f : List D → R D := runGF 2 3 F_sum_of_figures_f
theorem e_sum_of_figures : D_sum_of_figures = D_sum_of_figures_f := by
  unfold D_sum_of_figures D_sum_of_figures_f
  rw [fe_sum_of_figures]
  exact (runF_f ..).trans (runG_f ..)
noncomputable def F_turned_number_f : LE → R Out :=
    (seqSF (setKF 2 (valKF (bmSF lstripD (bmSF joinDF (cst (.str [])) (aconsF (lEF (revE (callEF D_pennants_f (aconsF (varF 0) (aconsF (varF 1) anil))))) anil)) (aconsF (cst (.str [48])) anil))))
    (retSF (iteEF (cmpTF eqDF (varF 2) (cst (.str []))) (cst (.int 0)) (callEF D_read_pennants_f (aconsF (varF 2) (aconsF (varF 1) anil))))))
theorem fe_turned_number : F_turned_number = F_turned_number_f := by
  unfold F_turned_number F_turned_number_f
  simp only [bmE_f, bmS_f, seqS_f, retS_f, setK_f, valK_f, iteE_f, cmpT_f, acons_f, lE_f, callE_f, var_f, eqD_f, joinD_f, e_pennants, e_read_pennants]
noncomputable def D_turned_number_f : List D → R D := runGF 2 3 F_turned_number_f
theorem e_turned_number : D_turned_number = D_turned_number_f := by
  unfold D_turned_number D_turned_number_f
  rw [fe_turned_number]
  exact (runF_f ..).trans (runG_f ..)
noncomputable def F_by_substitutes_f : LE → R Out :=
    (seqSF (setKF 1 (valKF (cst (.str []))))
    (seqSF (forSF (enumTGF 0 (aconsF (varF 0) anil)) (gTup_F 2 (gCons_F (gNF 2) (gCons_F (gNF 3) gNil_)))
    (seqSF (setKF 4 (valKF (bmSF sidxDF (varF 0) (aconsF (varF 3) anil))))
    (ifSF (cmpTF eqDF (varF 4) (varF 2))
    (setKF 1 (valKF (opEF iaddDF (varF 1) (varF 3))))
    (seqSF (ifSF (orTF (cmpTF gtDF (varF 4) (cst (.int 2))) (cmpTF inDF (subEF (cst (.str [120, 121, 122])) (varF 4)) (varF 1)))
    (errS ⟨2, .non⟩)
    skipS)
    (setKF 1 (valKF (opEF iaddDF (varF 1) (subEF (cst (.str [120, 121, 122])) (varF 4)))))))))
    (retSF (varF 1))))
theorem fe_by_substitutes : F_by_substitutes = F_by_substitutes_f := by
  unfold F_by_substitutes F_by_substitutes_f
  simp only [bmE_f, bmS_f, seqS_f, retS_f, ifS_f, setK_f, valK_f, forS_f, orT_f, opE_f, cmpT_f, acons_f, enumTE_f, enumTG_f, gN_f, subE_f, var_f, gtD_f, eqD_f, inD_f, sidxD_f, iaddD_f, gCons__f, gTup__f]
noncomputable def D_by_substitutes_f : List D → R D := runGF 1 5 F_by_substitutes_f
theorem e_by_substitutes : D_by_substitutes = D_by_substitutes_f := by
  unfold D_by_substitutes D_by_substitutes_f
  rw [fe_by_substitutes]
  exact (runF_f ..).trans (runG_f ..)
noncomputable def F_without_substitutes_f : LE → R Out :=
    (seqSF (setKF 1 (valKF (cst (.str []))))
    (seqSF (forSF (enumTGF 0 (aconsF (varF 0) anil)) (gTup_F 2 (gCons_F (gNF 2) (gCons_F (gNF 3) gNil_)))
    (ifSF (cmpTF inDF (varF 3) (cst (.str [120, 121, 122])))
    (seqSF (setKF 4 (valKF (bmSF sidxDF (cst (.str [120, 121, 122])) (aconsF (varF 3) anil))))
    (seqSF (ifSF (cmpTF geDF (varF 4) (varF 2))
    (errS ⟨2, .non⟩)
    skipS)
    (setKF 1 (valKF (opEF iaddDF (varF 1) (subEF (varF 1) (varF 4)))))))
    (ifSF (andTF (cmpTF inDF (varF 3) (cst d_FIGURES)) (cmpTF notInDF (varF 3) (sliceEF (varF 0) noP (somePF (varF 2)))))
    (setKF 1 (valKF (opEF iaddDF (varF 1) (varF 3))))
    (errS ⟨2, .non⟩))))
    (retSF (varF 1))))
theorem fe_without_substitutes : F_without_substitutes = F_without_substitutes_f := by
  unfold F_without_substitutes F_without_substitutes_f
  simp only [bmE_f, bmS_f, seqS_f, retS_f, ifS_f, setK_f, valK_f, forS_f, andT_f, opE_f, cmpT_f, acons_f, enumTE_f, enumTG_f, gN_f, subE_f, var_f, geD_f, inD_f, notInD_f, sliceE_f, someP_f, sidxD_f, iaddD_f, gCons__f, gTup__f]
noncomputable def D_without_substitutes_f : List D → R D := runGF 1 5 F_without_substitutes_f
theorem e_without_substitutes : D_without_substitutes = D_without_substitutes_f := by
  unfold D_without_substitutes D_without_substitutes_f
  rw [fe_without_substitutes]
  exact (runF_f ..).trans (runG_f ..)
noncomputable def F_check_flag_f : LE → R Out :=
    (seqSF (setKF 1 (valKF (sumEF (enumRE (varF 0)) (gTup_F 2 (gCons_F (gNF 2) (gCons_F (gNF 3) gNil_))) yesT (opEF mulDF (opEF addDF (varF 2) (cst (.int 2))) (bmSF sidxDF (cst d_FIGURES) (aconsF (varF 3) anil))) [2, 3])))
    (retSF (subEF (cst (.str [48, 49, 50, 51, 52, 53, 54, 55, 56, 57, 120])) (opEF modDF (opEF subDF (cst (.int 0)) (varF 1)) (cst (.int 11))))))
theorem fe_check_flag : F_check_flag = F_check_flag_f := by
  unfold F_check_flag F_check_flag_f
  simp only [bmE_f, bmS_f, seqS_f, retS_f, setK_f, valK_f, opE_f, acons_f, gN_f, subE_f, var_f, addD_f, subD_f, mulD_f, modD_f, sidxD_f, sumE_f, gCons__f, gTup__f]
noncomputable def D_check_flag_f : List D → R D := runGF 1 4 F_check_flag_f
theorem e_check_flag : D_check_flag = D_check_flag_f := by
  unfold D_check_flag D_check_flag_f
  rw [fe_check_flag]
  exact (runF_f ..).trans (runG_f ..)
noncomputable def F_with_check_f : LE → R Out :=
    (seqSF (ifSF (orTF (notTF (chainTF (cst (.int 1)) (callEF lenXF (aconsF (varF 0) anil)) (cst (.int 9)) leDF leDF)) (valTF (anyEF true (itSF (varF 0)) (gNF 1) yesT (opEF notInDF (varF 1) (cst d_FIGURES)) [1])))
    (errS ⟨2, .non⟩)
    skipS)
    (retSF (opEF addDF (varF 0) (callEF D_check_flag_f (aconsF (varF 0) anil)))))
theorem fe_with_check : F_with_check = F_with_check_f := by
  unfold F_with_check F_with_check_f
  simp only [seqS_f, retS_f, ifS_f, orT_f, notT_f, opE_f, valT_f, chainT_f, acons_f, callE_f, itS_f, gN_f, anyE_f, var_f, addD_f, leD_f, notInD_f, lenX_f, e_check_flag]
noncomputable def D_with_check_f : List D → R D := runGF 1 2 F_with_check_f
theorem e_with_check : D_with_check = D_with_check_f := by
  unfold D_with_check D_with_check_f
  rw [fe_with_check]
  exact (runF_f ..).trans (runG_f ..)
noncomputable def F_law_sum_f : LE → R Out :=
    (seqSF (setKF 1 (valKF (callEF lenXF (aconsF (varF 0) anil))))
    (retSF (callEF sumD (aconsF (lEF (compFF (rng1EF (aconsF (varF 1) anil)) (gNF 2) yesT (opEF mulDF (opEF subDF (varF 1) (varF 2)) (bmSF sidxDF (cst (.str [48, 49, 50, 51, 52, 53, 54, 55, 56, 57, 120])) (aconsF (subEF (varF 0) (varF 2)) anil))) [2])) anil))))
theorem fe_law_sum : F_law_sum = F_law_sum_f := by
  unfold F_law_sum F_law_sum_f
  simp only [bmE_f, bmS_f, seqS_f, retS_f, setK_f, valK_f, opE_f, acons_f, lE_f, callE_f, rng1E_f, gN_f, compF_f, subE_f, var_f, subD_f, mulD_f, lenX_f, sidxD_f]
noncomputable def D_law_sum_f : List D → R D := runGF 1 3 F_law_sum_f
theorem e_law_sum : D_law_sum = D_law_sum_f := by
  unfold D_law_sum D_law_sum_f
  rw [fe_law_sum]
  exact (runF_f ..).trans (runG_f ..)
noncomputable def F_is_checked_f : LE → R Out :=
    (retSF (andVF (opEF gtDF (callEF lenXF (aconsF (varF 0) anil)) (cst (.int 1))) (andVF (anyEF false (itSF (sliceEF (varF 0) noP (somePF (negE (cst (.int 1)))))) (gNF 1) yesT (opEF inDF (varF 1) (cst d_FIGURES)) [1]) (opEF eqDF (callEF D_check_flag_f (aconsF (sliceEF (varF 0) noP (somePF (negE (cst (.int 1))))) anil)) (subEF (varF 0) (negE (cst (.int 1))))))))
theorem fe_is_checked : F_is_checked = F_is_checked_f := by
  unfold F_is_checked F_is_checked_f
  simp only [retS_f, andV_f, opE_f, acons_f, callE_f, itS_f, gN_f, anyE_f, subE_f, var_f, gtD_f, eqD_f, inD_f, lenX_f, sliceE_f, someP_f, e_check_flag]
noncomputable def D_is_checked_f : List D → R D := runGF 1 2 F_is_checked_f
theorem e_is_checked : D_is_checked = D_is_checked_f := by
  unfold D_is_checked D_is_checked_f
  rw [fe_is_checked]
  exact (runF_f ..).trans (runG_f ..)
noncomputable def F_exchanged_f : LE → R Out :=
    (seqSF (ifSF (notTF (chainTF (cst (.int 0)) (varF 1) (opEF subDF (callEF lenXF (aconsF (varF 0) anil)) (cst (.int 1))) leDF ltDF))
    (errS ⟨2, .non⟩)
    skipS)
    (retSF (opEF addDF (opEF addDF (opEF addDF (sliceEF (varF 0) noP (somePF (varF 1))) (subEF (varF 0) (opEF addDF (varF 1) (cst (.int 1))))) (subEF (varF 0) (varF 1))) (sliceEF (varF 0) (somePF (opEF addDF (varF 1) (cst (.int 2)))) noP))))
theorem fe_exchanged : F_exchanged = F_exchanged_f := by
  unfold F_exchanged F_exchanged_f
  simp only [seqS_f, retS_f, ifS_f, notT_f, opE_f, chainT_f, acons_f, callE_f, subE_f, var_f, addD_f, subD_f, ltD_f, leD_f, lenX_f, sliceE_f, someP_f]
noncomputable def D_exchanged_f : List D → R D := runGF 2 2 F_exchanged_f
theorem e_exchanged : D_exchanged = D_exchanged_f := by
  unfold D_exchanged D_exchanged_f
  rw [fe_exchanged]
  exact (runF_f ..).trans (runG_f ..)
noncomputable def F_hidden_figure_f : LE → R Out :=
    (seqSF (ifSF (orTF (cmpTF neDF (bmSF countDF (varF 0) (aconsF (cst (.str [63])) anil)) (cst (.int 1))) (cmpTF ltDF (callEF lenXF (aconsF (varF 0) anil)) (cst (.int 2))))
    (errS ⟨2, .non⟩)
    skipS)
    (seqSF (setKF 1 (valKF (bmSF sidxDF (varF 0) (aconsF (cst (.str [63])) anil))))
    (seqSF (setKF 2 (valKF (iteEF (cmpTF eqDF (varF 1) (opEF subDF (callEF lenXF (aconsF (varF 0) anil)) (cst (.int 1)))) (cst (.str [48, 49, 50, 51, 52, 53, 54, 55, 56, 57, 120])) (cst d_FIGURES))))
    (seqSF (setKF 3 (ownKF (compFF (itSF (varF 2)) (gNF 4) yesT (opEF addDF (opEF addDF (sliceEF (varF 0) noP (somePF (varF 1))) (varF 4)) (sliceEF (varF 0) (somePF (opEF addDF (varF 1) (cst (.int 1)))) noP)) [4])))
    (seqSF (setKF 5 (ownKF (compFF (itLF (varPF 3)) (gNF 6) (valTF (callEF D_is_checked_f (aconsF (varF 6) anil))) (varF 6) [6])))
    (seqSF (ifSF (cmpTF neDF (callEF lenXF (aconsF (varPF 5) anil)) (cst (.int 1)))
    (errS ⟨2, .non⟩)
    skipS)
    (retSF (subEF (varPF 5) (cst (.int 0))))))))))
theorem fe_hidden_figure : F_hidden_figure = F_hidden_figure_f := by
  unfold F_hidden_figure F_hidden_figure_f
  simp only [bmE_f, bmS_f, seqS_f, retS_f, ifS_f, setK_f, valK_f, ownK_f, orT_f, iteE_f, opE_f, cmpT_f, valT_f, acons_f, callE_f, itL_f, itS_f, gN_f, compF_f, subE_f, var_f, varP_f, addD_f, subD_f, ltD_f, eqD_f, neD_f, lenX_f, sliceE_f, someP_f, sidxD_f, countD_f, e_is_checked]
noncomputable def D_hidden_figure_f : List D → R D := runGF 1 7 F_hidden_figure_f
theorem e_hidden_figure : D_hidden_figure = D_hidden_figure_f := by
  unfold D_hidden_figure D_hidden_figure_f
  rw [fe_hidden_figure]
  exact (runF_f ..).trans (runG_f ..)
noncomputable def F_ups_and_downs_f : LE → R Out :=
    (retSF (bmSF joinDF (cst (.str [])) (aconsF (lEF (compFF (rng2EF (aconsF (cst (.int 1)) (aconsF (callEF lenXF (aconsF (varF 0) anil)) anil))) (gNF 1) yesT (iteEF (cmpTF gtDF (subEF (varF 0) (varF 1)) (subEF (varF 0) (opEF subDF (varF 1) (cst (.int 1))))) (cst (.str [117])) (iteEF (cmpTF ltDF (subEF (varF 0) (varF 1)) (subEF (varF 0) (opEF subDF (varF 1) (cst (.int 1))))) (cst (.str [100])) (cst (.str [115])))) [1])) anil)))
theorem fe_ups_and_downs : F_ups_and_downs = F_ups_and_downs_f := by
  unfold F_ups_and_downs F_ups_and_downs_f
  simp only [bmE_f, bmS_f, retS_f, iteE_f, opE_f, cmpT_f, acons_f, lE_f, callE_f, rng2E_f, gN_f, compF_f, subE_f, var_f, subD_f, ltD_f, gtD_f, lenX_f, joinD_f]
noncomputable def D_ups_and_downs_f : List D → R D := runGF 1 2 F_ups_and_downs_f
theorem e_ups_and_downs : D_ups_and_downs = D_ups_and_downs_f := by
  unfold D_ups_and_downs D_ups_and_downs_f
  rw [fe_ups_and_downs]
  exact (runF_f ..).trans (runG_f ..)
noncomputable def F_fewest_pennants_f : LE → R Out :=
    (seqSF (ifSF (cmpTF ltDF (varF 0) (cst (.int 1)))
    (errS ⟨3, .non⟩)
    skipS)
    (seqSF (setKF 1 (ownKF (compFF (rng2EF (aconsF (cst (.int 2)) (aconsF (cst (.int 11)) anil))) (gNF 2) yesT (tupEF (aconsF (opEF mulDF (varF 2) (callEF lenXF (aconsF (callEF D_pennants_f (aconsF (varF 0) (aconsF (varF 2) anil))) anil))) (aconsF (varF 2) anil))) [2])))
    (retSF (subEF (callEF minLF (aconsF (varPF 1) anil)) (cst (.int 1))))))
theorem fe_fewest_pennants : F_fewest_pennants = F_fewest_pennants_f := by
  unfold F_fewest_pennants F_fewest_pennants_f
  simp only [seqS_f, retS_f, ifS_f, setK_f, ownK_f, opE_f, cmpT_f, acons_f, tupE_f, callE_f, rng2E_f, gN_f, compF_f, subE_f, var_f, varP_f, mulD_f, ltD_f, lenX_f, minL_f, e_pennants]
noncomputable def D_fewest_pennants_f : List D → R D := runGF 1 3 F_fewest_pennants_f
theorem e_fewest_pennants : D_fewest_pennants = D_fewest_pennants_f := by
  unfold D_fewest_pennants D_fewest_pennants_f
  rw [fe_fewest_pennants]
  exact (runF_f ..).trans (runG_f ..)
noncomputable def F_law_cases1_f : LE → R Out :=
    (seqSF (ifSF (cmpTF neDF (toldEF toldL (callEF D_read_pennants_f (aconsF (cst (.str [50])) (aconsF (cst (.int 2)) anil)))) (cst (.str [104, 111, 105, 115, 116])))
    (retSF (cst (.bl false)))
    skipS)
    (seqSF (ifSF (cmpTF neDF (toldEF toldL (callEF D_pennants_f (aconsF (cst (.int 1)) (aconsF (cst (.int 1)) anil)))) (cst (.str [98, 111, 111, 107])))
    (retSF (cst (.bl false)))
    skipS)
    (seqSF (ifSF (cmpTF neDF (toldEF toldL (callEF D_without_substitutes_f (aconsF (cst (.str [120])) anil))) (cst (.str [104, 111, 105, 115, 116])))
    (retSF (cst (.bl false)))
    skipS)
    (seqSF (ifSF (cmpTF neDF (toldEF toldL (callEF D_without_substitutes_f (aconsF (cst (.str [49, 49])) anil))) (cst (.str [104, 111, 105, 115, 116])))
    (retSF (cst (.bl false)))
    skipS)
    (seqSF (ifSF (cmpTF neDF (toldEF toldL (callEF D_with_check_f (aconsF (cst (.str [])) anil))) (cst (.str [104, 111, 105, 115, 116])))
    (retSF (cst (.bl false)))
    skipS)
    (seqSF (ifSF (cmpTF neDF (toldEF toldL (callEF D_with_check_f (aconsF (opEF mulXD (cst (.str [49])) (cst (.int 10))) anil))) (cst (.str [104, 111, 105, 115, 116])))
    (retSF (cst (.bl false)))
    skipS)
    (seqSF (ifSF (cmpTF neDF (toldEF toldL (callEF D_hidden_figure_f (aconsF (cst (.str [49, 63, 50, 63])) anil))) (cst (.str [104, 111, 105, 115, 116])))
    (retSF (cst (.bl false)))
    skipS)
    (seqSF (ifSF (cmpTF neDF (toldEF toldL (callEF D_exchanged_f (aconsF (cst (.str [49, 50])) (aconsF (cst (.int 1)) anil)))) (cst (.str [104, 111, 105, 115, 116])))
    (retSF (cst (.bl false)))
    skipS)
    (seqSF (ifSF (cmpTF neDF (toldEF toldL (callEF D_fewest_pennants_f (aconsF (cst (.int 0)) anil))) (cst (.str [98, 111, 111, 107])))
    (retSF (cst (.bl false)))
    skipS)
    (seqSF (ifSF (cmpTF neDF (toldEF toldL (callEF D_read_pennants_f (aconsF (cst (.str [49])) (aconsF (cst (.int 11)) anil)))) (cst (.str [98, 111, 111, 107])))
    (retSF (cst (.bl false)))
    skipS)
    (retSF (cst (.bl true)))))))))))))
theorem fe_law_cases1 : F_law_cases1 = F_law_cases1_f := by
  unfold F_law_cases1 F_law_cases1_f
  simp only [seqS_f, retS_f, ifS_f, opE_f, cmpT_f, acons_f, callE_f, toldE_f, neD_f, e_exchanged, e_fewest_pennants, e_hidden_figure, e_pennants, e_read_pennants, e_with_check, e_without_substitutes]
noncomputable def D_law_cases1_f : List D → R D := runGF 0 0 F_law_cases1_f
theorem e_law_cases1 : D_law_cases1 = D_law_cases1_f := by
  unfold D_law_cases1 D_law_cases1_f
  rw [fe_law_cases1]
  exact (runF_f ..).trans (runG_f ..)
noncomputable def F_law_rest1_f : LE → R Out :=
    (seqSF (setKF 1 (valKF (bmSF joinDF (cst (.str [])) (aconsF (lEF (compFF (rng1EF (aconsF (opEF addDF (cst (.int 1)) (callEF rollDF (aconsF (varF 0) (aconsF (cst (.int 9)) anil)))) anil)) (gNF 2) yesT (subEF (cst (.str [48, 49, 50, 51, 52, 53, 54, 55, 56, 57])) (callEF rollDF (aconsF (varF 0) (aconsF (cst (.int 10)) anil)))) [2])) anil))))
    (seqSF (setKF 3 (valKF (callEF D_with_check_f (aconsF (varF 1) anil))))
    (seqSF (ifSF (orTF (cmpTF neDF (sliceEF (varF 3) noP (somePF (callEF lenXF (aconsF (varF 1) anil)))) (varF 1)) (orTF (cmpTF neDF (opEF modDF (callEF D_law_sum_f (aconsF (varF 3) anil)) (cst (.int 11))) (cst (.int 0))) (notTF (valTF (callEF D_is_checked_f (aconsF (varF 3) anil))))))
    (retSF (cst (.bl false)))
    skipS)
    (seqSF (ifSF (cmpTF neDF (callEF D_check_flag_f (aconsF (varF 1) anil)) (subEF (varF 3) (callEF lenXF (aconsF (varF 1) anil))))
    (retSF (cst (.bl false)))
    skipS)
    (seqSF (parKF 4 5 (valKF (callEF rollDF (aconsF (varF 0) (aconsF (callEF lenXF (aconsF (varF 1) anil)) anil)))) (valKF (subEF (cst (.str [48, 49, 50, 51, 52, 53, 54, 55, 56, 57])) (callEF rollDF (aconsF (varF 0) (aconsF (cst (.int 10)) anil))))))
    (seqSF (setKF 6 (valKF (opEF addDF (opEF addDF (sliceEF (varF 3) noP (somePF (varF 4))) (varF 5)) (sliceEF (varF 3) (somePF (opEF addDF (varF 4) (cst (.int 1)))) noP))))
    (seqSF (ifSF (cmpTF neDF (callEF D_is_checked_f (aconsF (varF 6) anil)) (opEF eqDF (varF 5) (subEF (varF 3) (varF 4))))
    (retSF (cst (.bl false)))
    skipS)
    (seqSF (setKF 7 (valKF (callEF rollDF (aconsF (varF 0) (aconsF (callEF lenXF (aconsF (varF 1) anil)) anil)))))
    (seqSF (setKF 8 (valKF (callEF D_exchanged_f (aconsF (varF 3) (aconsF (varF 7) anil)))))
    (seqSF (ifSF (orTF (cmpTF neDF (callEF D_exchanged_f (aconsF (varF 8) (aconsF (varF 7) anil))) (varF 3)) (andTF (cmpTF notInDF (cst (.str [120])) (sliceEF (varF 8) noP (somePF (callEF lenXF (aconsF (varF 1) anil))))) (cmpTF neDF (callEF D_is_checked_f (aconsF (varF 8) anil)) (opEF eqDF (varF 8) (varF 3)))))
    (retSF (cst (.bl false)))
    skipS)
    (seqSF (setKF 9 (valKF (opEF addDF (opEF addDF (sliceEF (varF 3) noP (somePF (varF 4))) (cst (.str [63]))) (sliceEF (varF 3) (somePF (opEF addDF (varF 4) (cst (.int 1)))) noP))))
    (seqSF (ifSF (orTF (cmpTF neDF (callEF D_hidden_figure_f (aconsF (varF 9) anil)) (varF 3)) (cmpTF neDF (callEF D_hidden_figure_f (aconsF (opEF addDF (varF 1) (cst (.str [63]))) anil)) (varF 3)))
    (retSF (cst (.bl false)))
    skipS)
    (seqSF (setKF 10 (valKF (lEF (compFF (rng1EF (aconsF (callEF rollDF (aconsF (varF 0) (aconsF (cst (.int 6)) anil))) anil)) (gNF 2) yesT (callEF rollDF (aconsF (varF 0) (aconsF (cst (.int 5)) anil))) [2]))))
    (seqSF (setKF 11 (ownKF (compFF (rng2EF (aconsF (cst (.int 1)) (aconsF (callEF lenXF (aconsF (varF 10) anil)) anil))) (gNF 2) yesT (iteEF (cmpTF gtDF (subEF (varF 10) (varF 2)) (subEF (varF 10) (opEF subDF (varF 2) (cst (.int 1))))) (cst (.str [117])) (iteEF (cmpTF ltDF (subEF (varF 10) (varF 2)) (subEF (varF 10) (opEF subDF (varF 2) (cst (.int 1))))) (cst (.str [100])) (cst (.str [115])))) [2])))
    (seqSF (ifSF (cmpTF neDF (callEF D_ups_and_downs_f (aconsF (varF 10) anil)) (bmSF joinDF (cst (.str [])) (aconsF (varPF 11) anil)))
    (retSF (cst (.bl false)))
    skipS)
    (seqSF (setKF 12 (valKF (opEF addDF (cst (.int 1)) (callEF rollDF (aconsF (varF 0) (aconsF (cst (.int 9999)) anil))))))
    (seqSF (setKF 13 (ownKF (compFF (rng2EF (aconsF (cst (.int 2)) (aconsF (cst (.int 11)) anil))) (gNF 14) yesT (opEF mulDF (callEF lenXF (aconsF (callEF D_law_figures_f (aconsF (varF 12) (aconsF (varF 14) anil))) anil)) (varF 14)) [14])))
    (seqSF (ifSF (cmpTF neDF (callEF D_fewest_pennants_f (aconsF (varF 12) anil)) (opEF addDF (cst (.int 2)) (bmLF idxLs (varPF 13) (aconsF (callEF minLF (aconsF (varPF 13) anil)) anil))))
    (retSF (cst (.bl false)))
    skipS)
    (seqSF (forSF (itLF (lEF (lstEF (aconsF (cst (.str [])) (aconsF (cst (.str [48, 49])) (aconsF (cst (.str [57, 120])) anil)))))) (gNF 15)
    (ifSF (cmpTF neDF (toldEF toldL (callEF D_read_pennants_f (aconsF (varF 15) (aconsF (cst (.int 10)) anil)))) (cst (.str [104, 111, 105, 115, 116])))
    (retSF (cst (.bl false)))
    skipS))
    (seqSF (ifSF (notTF (valTF (fun _ => D_law_cases1_f [])))
    (retSF (cst (.bl false)))
    skipS)
    (retSF (cst (.bl true)))))))))))))))))))))))
theorem fe_law_rest1 : F_law_rest1 = F_law_rest1_f := by
  unfold F_law_rest1 F_law_rest1_f
  simp only [bmE_f, bmS_f, bmL_f, seqS_f, retS_f, ifS_f, setK_f, valK_f, ownK_f, parK_f, forS_f, andT_f, orT_f, notT_f, iteE_f, opE_f, cmpT_f, valT_f, acons_f, lstE_f, lE_f, callE_f, toldE_f, itL_f, rng1E_f, rng2E_f, gN_f, compF_f, subE_f, var_f, varP_f, addD_f, subD_f, mulD_f, modD_f, ltD_f, gtD_f, eqD_f, neD_f, notInD_f, lenX_f, sliceE_f, someP_f, joinD_f, rollD_f, minL_f, e_check_flag, e_exchanged, e_fewest_pennants, e_hidden_figure, e_is_checked, e_law_cases1, e_law_figures, e_law_sum, e_read_pennants, e_ups_and_downs, e_with_check]
noncomputable def D_law_rest1_f : List D → R D := runGF 1 16 F_law_rest1_f
theorem e_law_rest1 : D_law_rest1 = D_law_rest1_f := by
  unfold D_law_rest1 D_law_rest1_f
  rw [fe_law_rest1]
  exact (runF_f ..).trans (runG_f ..)
noncomputable def F_law_f : LE → R Out :=
    (seqSF (parKF 2 3 (valKF (callEF rollDF (aconsF (varF 1) (aconsF (cst (.int 10000)) anil)))) (valKF (opEF addDF (cst (.int 2)) (callEF rollDF (aconsF (varF 1) (aconsF (cst (.int 9)) anil))))))
    (seqSF (setKF 4 (valKF (callEF D_law_figures_f (aconsF (varF 2) (aconsF (varF 3) anil)))))
    (seqSF (setKF 5 (valKF (bmSF joinDF (cst (.str [])) (aconsF (lEF (compFF (itLF (varF 4)) (gNF 6) yesT (callEF strOf (aconsF (varF 6) anil)) [6])) anil))))
    (seqSF (ifSF (orTF (cmpTF neDF (callEF D_pennants_f (aconsF (varF 2) (aconsF (varF 3) anil))) (varF 5)) (orTF (cmpTF neDF (callEF D_read_pennants_f (aconsF (varF 5) (aconsF (varF 3) anil))) (varF 2)) (cmpTF neDF (callEF D_sum_of_figures_f (aconsF (varF 2) (aconsF (varF 3) anil))) (callEF sumD (aconsF (varF 4) anil)))))
    (retSF (cst (.bl false)))
    skipS)
    (seqSF (setKF 7 (valKF (cst (.int 0))))
    (seqSF (forSF (revLE (aconsF (varF 4) anil)) (gNF 6)
    (setKF 7 (valKF (opEF addDF (opEF mulDF (varF 7) (varF 3)) (varF 6)))))
    (seqSF (ifSF (cmpTF neDF (callEF D_turned_number_f (aconsF (varF 2) (aconsF (varF 3) anil))) (varF 7))
    (retSF (cst (.bl false)))
    skipS)
    (seqSF (setKF 8 (valKF (bmSF joinDF (cst (.str [])) (aconsF (lEF (compFF (rng1EF (aconsF (opEF addDF (cst (.int 1)) (callEF rollDF (aconsF (varF 1) (aconsF (cst (.int 4)) anil)))) anil)) (gNF 9) yesT (subEF (cst (.str [48, 49, 50, 51, 52])) (callEF rollDF (aconsF (varF 1) (aconsF (cst (.int 5)) anil)))) [9])) anil))))
    (seqSF (setKF 10 (valKF (lEF (compFF (rng1EF (aconsF (callEF lenXF (aconsF (varF 8) anil)) anil)) (gNF 9) yesT (bmSF sidxDF (varF 8) (aconsF (subEF (varF 8) (varF 9)) anil)) [9]))))
    (seqSF (setKF 11 (valKF (bmSF joinDF (cst (.str [])) (aconsF (lEF (compFF (rng1EF (aconsF (callEF lenXF (aconsF (varF 8) anil)) anil)) (gNF 9) yesT (iteEF (cmpTF eqDF (subEF (varF 10) (varF 9)) (varF 9)) (subEF (varF 8) (varF 9)) (subEF (cst (.str [120, 121, 122])) (subEF (varF 10) (varF 9)))) [9])) anil))))
    (seqSF (setKF 12 (valKF (opEF ltDF (lenDictE (lEF (compFF (itSF (varF 11)) (gNF 13) yesT (tupEF (aconsF (varF 13) (aconsF (cst (.int 1)) anil))) [13]))) (callEF lenXF (aconsF (varF 11) anil)))))
    (seqSF (setKF 14 (valKF (toldEF toldL (callEF D_by_substitutes_f (aconsF (varF 8) anil)))))
    (seqSF (ifSF (orTF (cmpTF neDF (varF 14) (iteEF (valTF (varF 12)) (cst (.str [104, 111, 105, 115, 116])) (varF 11))) (andTF (cmpTF neDF (varF 14) (cst (.str [104, 111, 105, 115, 116]))) (cmpTF neDF (callEF D_without_substitutes_f (aconsF (varF 14) anil)) (varF 8))))
    (retSF (cst (.bl false)))
    skipS)
    (ifSF (notTF (valTF (callEF D_law_rest1_f (aconsF (varF 1) anil))))
    (retSF (cst (.bl false)))
    skipS))))))))))))))
theorem fe_law : F_law = F_law_f := by
  unfold F_law F_law_f
  simp only [bmE_f, bmS_f, seqS_f, retS_f, ifS_f, setK_f, valK_f, parK_f, forS_f, andT_f, orT_f, notT_f, iteE_f, opE_f, cmpT_f, valT_f, acons_f, tupE_f, lE_f, callE_f, toldE_f, itL_f, itS_f, rng1E_f, gN_f, compF_f, subE_f, var_f, addD_f, mulD_f, ltD_f, eqD_f, neD_f, lenX_f, joinD_f, sidxD_f, rollD_f, e_by_substitutes, e_law_figures, e_law_rest1, e_pennants, e_read_pennants, e_sum_of_figures, e_turned_number, e_without_substitutes]
end K08
set_option Elab.async false
set_option linter.all false
set_option maxRecDepth 100000
namespace K08
open DL
theorem whileSF_false {k : Nat} {c : LE → R Bool} {F : LE → R Out} {r : LE} (h : c r = .ok false) : whileSF (k + 1) c F r = .ok (.nx r) := by
  show onF (c r) r _ = _
  rw [h]
  rfl
theorem whileSF_true {k : Nat} {c : LE → R Bool} {F : LE → R Out} {r r2 : LE} (h : c r = .ok true) (h2 : F r = .ok (.nx r2)) : whileSF (k + 1) c F r = whileSF k c F r2 := by
  show onF (c r) r _ = _
  rw [h]
  show bdF (F r) _ = _
  rw [h2]
  rfl
theorem lstEF_ok {f : LE → R (List D)} {r : LE} {ds : List D} (h : f r = .ok ds) (hl : ds.length ≤ 1000) : lstEF f r = .ok ds := by
  unfold lstEF
  rw [h, bdF_ok, okLenF_of (by omega)]
  rfl
abbrev iN (n : Nat) : D := .int (Int.ofNat n)
theorem modN {m b : Nat} (hb : 0 < b) : modDF (iN m) (iN b) = .ok (iN (m % b)) := by
  cases b with
  | zero => omega
  | succ b => rfl
theorem fdivN {m b : Nat} (hb : 0 < b) (h2 : b < 1073741824) : fdivDF (iN m) (iN b) = .ok (iN (m / b)) := by
  cases b with
  | zero => omega
  | succ b =>
    show bifF (Nat.ble (Nat.succ (b + 1)) 1073741824) _ _ = _
    rw [show Nat.ble (Nat.succ (b + 1)) 1073741824 = true from by rw [Nat.ble_eq]; omega]
    rfl
theorem addL {x : D} {L : List D} (h : L.length ≤ 1000) : addDF (.lst [x]) (.lst L) = .ok (.lst (x :: L)) := by
  show bifF (len2F [x] L) _ _ = _
  rw [len2F_of (by simp; omega)]
  rfl
theorem addS {a b : List Nat} (h : a.length + b.length ≤ 1000) : addDF (.str a) (.str b) = .ok (.str (a ++ b)) := by
  show bifF (len2F a b) _ _ = _
  rw [len2F_of (by omega), appL_f]
  rfl
theorem mulN {m b : Nat} (hm : m < 18446744073709551616) : mulDF (iN m) (iN b) = .ok (iN (m * b)) := by
  show bifF (bifF (smallF (Int.ofNat m)) true _) _ _ = _
  rw [show smallF (Int.ofNat m) = true from by rw [small_f]; exact ⟨by show _ < (m : Int); omega, by show (m : Int) < _; omega⟩]
  rfl
def sg (d : Nat) : Nat := if d < 10 then 48 + d else 120
def lN (L : List Nat) : D := .lst (L.map iN)
def tN (L : List Nat) : D := .str (L.map sg)
def digs (b : Nat) : Nat → Nat → List Nat → List Nat
  | 0, m, acc => m :: acc
  | f + 1, m, acc => if m < b then m :: acc else digs b f (m / b) (m % b :: acc)
theorem digs_lt {b m : Nat} {acc : List Nat} (h : m < b) : ∀ f, digs b f m acc = m :: acc
  | 0 => rfl
  | f + 1 => by unfold digs; rw [if_pos h]
theorem digs_ge {b m : Nat} {acc : List Nat} {f : Nat} (h : ¬ m < b) : digs b (f + 1) m acc = digs b f (m / b) (m % b :: acc) := if_neg h
theorem div_lt {b m f : Nat} (hb : 2 ≤ b) (h : m < 2 ^ (f + 1)) : m / b < 2 ^ f := by
  have h1 : m / b ≤ m / 2 := Nat.div_le_div_left hb (by omega)
  have h2 : m / 2 < 2 ^ f := by rw [Nat.pow_succ] at h; omega
  omega
theorem digs_all {b : Nat} (hb : 2 ≤ b) : ∀ (f m : Nat) (acc : List Nat), m < 2 ^ f → (∀ d ∈ acc, d < b) → ∀ d ∈ digs b f m acc, d < b
  | 0, m, acc, h, ha, d, hd => by
    rcases List.mem_cons.mp hd with rfl | hd
    · simp at h; omega
    · exact ha d hd
  | f + 1, m, acc, h, ha, d, hd => by
    unfold digs at hd
    split at hd
    · rename_i hlt
      rcases List.mem_cons.mp hd with rfl | hd
      · exact hlt
      · exact ha d hd
    · refine digs_all hb f (m / b) (m % b :: acc) (div_lt hb h) (fun d hd => ?_) d hd
      rcases List.mem_cons.mp hd with rfl | hd
      · exact Nat.mod_lt _ (by omega)
      · exact ha d hd
theorem digs_len {b : Nat} : ∀ (f m : Nat) (acc : List Nat), (digs b f m acc).length ≤ f + 1 + acc.length
  | 0, m, acc => by show (m :: acc).length ≤ _; simp; omega
  | f + 1, m, acc => by
    unfold digs
    split
    · simp; omega
    · have := digs_len (b := b) f (m / b) (m % b :: acc)
      simp at this
      omega
theorem digs_head {b : Nat} (hb : 2 ≤ b) : ∀ (f m : Nat) (acc : List Nat), 0 < m → ∃ h t, digs b f m acc = h :: t ∧ 0 < h
  | 0, m, acc, h => ⟨m, acc, rfl, h⟩
  | f + 1, m, acc, h => by
    unfold digs
    split
    · exact ⟨m, acc, rfl, h⟩
    · exact digs_head hb f (m / b) _ (Nat.div_pos (by omega) (by omega))
def valB (b v : Nat) (L : List Nat) : Nat := L.foldl (fun v d => v * b + d) v
theorem digs_val {b : Nat} (hb : 2 ≤ b) : ∀ (f m : Nat) (acc : List Nat), m < 2 ^ f → valB b 0 (digs b f m acc) = valB b m acc
  | 0, m, acc, h => by
    show valB b (0 * b + m) acc = _
    rw [Nat.zero_mul, Nat.zero_add]
  | f + 1, m, acc, h => by
    unfold digs
    split
    · show valB b (0 * b + m) acc = _
      rw [Nat.zero_mul, Nat.zero_add]
    · rw [digs_val hb f _ _ (div_lt hb h)]
      show valB b (m / b * b + m % b) acc = _
      rw [Nat.div_add_mod' m b]
theorem fig_loop {b : Nat} (hb : 2 ≤ b) (hb2 : b ≤ 10) : ∀ (f k m : Nat) (acc : List Nat), m < 2 ^ f → f < k → acc.length + f ≤ 100 →
    ∃ c, whileSF k (cmpTF geDF (varF 0) (varF 1)) (seqSF (setKF 0 (valKF (opEF fdivDF (varF 0) (varF 1)))) (setKF 2 (valKF (opEF addDF (lEF (lstEF (aconsF (opEF modDF (varF 0) (varF 1)) anil))) (varF 2)))))
      [.val (iN m), .val (iN b), .val (lN (m % b :: acc))] = .ok (.nx [c, .val (iN b), .val (lN (digs b f m acc))]) := by
  intro f
  induction f with
  | zero =>
    intro k m acc h hk ha
    obtain ⟨k, rfl⟩ : ∃ j, k = j + 1 := ⟨k - 1, by omega⟩
    have h0 : m = 0 := by simp at h; omega
    subst h0
    refine ⟨.val (iN 0), ?_⟩
    rw [whileSF_false (by
      show R.ok (Nat.ble b 0) = _
      rw [show Nat.ble b 0 = false from by rw [Bool.eq_false_iff]; intro z; rw [Nat.ble_eq] at z; omega])]
    rw [Nat.zero_mod]; rfl
  | succ f ih =>
    intro k m acc h hk ha
    obtain ⟨k, rfl⟩ : ∃ j, k = j + 1 := ⟨k - 1, by omega⟩
    by_cases hlt : m < b
    · refine ⟨.val (iN m), ?_⟩
      rw [whileSF_false (by
        show R.ok (Nat.ble b m) = _
        rw [show Nat.ble b m = false from by rw [Bool.eq_false_iff]; intro z; rw [Nat.ble_eq] at z; omega])]
      rw [digs_lt hlt, Nat.mod_eq_of_lt hlt]
    · obtain ⟨c, hc⟩ := ih k (m / b) (m % b :: acc) (div_lt hb h) (by omega) (by simp; omega)
      refine ⟨c, ?_⟩
      rw [whileSF_true (r2 := [.val (iN (m / b)), .val (iN b), .val (lN (m / b % b :: m % b :: acc))]) (by
        show R.ok (Nat.ble b m) = _
        rw [show Nat.ble b m = true from by rw [Nat.ble_eq]; omega]) ?_, hc]
      · rw [digs_ge hlt]
      · rw [seqSF_ok (setKF_val (opEF_ok rfl rfl (fdivN (by omega) (by omega))))]
        refine setKF_val (opEF_ok (x := .lst [iN (m / b % b)]) ?_ rfl (addL (L := (m % b :: acc).map iN) (by simp; omega)))
        exact lEF_ok (lstEF_ok (aconsF_ok (opEF_ok rfl rfl (modN (by omega))) rfl) (by simp))
theorem seq_go {F K : LE → R Out} {r r' : LE} {x : R Out} (h : F r = .ok (.nx r')) (k : K r' = x) : seqSF F K r = x := (seqSF_ok h).trans k
theorem fig_eq {b n : Nat} (hb : 2 ≤ b) (hb2 : b ≤ 10) (hn : n < 2 ^ 14) : D_law_figures_f [iN n, iN b] = .ok (lN (digs b 14 n [])) := by
  refine runGF_ok rfl ?_
  show F_law_figures_f [.val (iN n), .val (iN b), .un] = _
  unfold F_law_figures_f
  refine seq_go (r' := [.val (iN n), .val (iN b), .val (.lst [iN (n % b)])]) (setKF_val (lEF_ok (lstEF_ok (aconsF_ok (opEF_ok rfl rfl (modN (by omega))) rfl) (by simp)))) ?_
  obtain ⟨c, hc⟩ := fig_loop hb hb2 14 100 n [] hn (by omega) (by simp)
  refine seq_go hc ?_
  rfl
theorem all_of {α : Type} {p : α → Bool} {l : List α} (h : l.all p = true) {a : α} (ha : a ∈ l) : p a = true := List.all_eq_true.mp h a ha
def okD (d : D) : R D → Bool
  | .ok x => (match x, d with
    | .str [a], .str [b] => Nat.beq a b
    | .int (.ofNat a), .int (.ofNat b) => Nat.beq a b
    | .bl true, .bl true => true
    | .bl false, .bl false => true
    | _, _ => false)
  | _ => false
theorem okD_eq {d : D} {m : R D} (h : okD d m = true) : m = .ok d := by
  unfold okD at h
  split at h
  · split at h
    · rw [Nat.eq_of_beq_eq_true h]
    · rw [Nat.eq_of_beq_eq_true h]
    · rfl
    · rfl
    · cases h
  · cases h
theorem signF_all : ((List.range 10).all fun d => okD (.str [sg d]) (subIF d_FIGURES (iN d))) = true := by kernel_rfl
theorem signF {d : Nat} (h : d < 10) : subIF d_FIGURES (iN d) = .ok (.str [sg d]) := okD_eq (all_of signF_all (List.mem_range.mpr h))
theorem idxF_all : ((List.range 10).all fun d => okD (iN d) (sidxDF d_FIGURES [.str [sg d]])) = true := by kernel_rfl
theorem idxF {d : Nat} (h : d < 10) : sidxDF d_FIGURES [.str [sg d]] = .ok (iN d) := okD_eq (all_of idxF_all (List.mem_range.mpr h))
theorem subEF_ok {f k : LE → R D} {r : LE} {x y z : D} (h1 : f r = .ok x) (h2 : k r = .ok y) (h3 : subIF x y = .ok z) : subEF f k r = .ok z := by
  unfold subEF
  rw [h1, bdF_ok, h2, bdF_ok]
  exact h3
theorem parKF_ok {i j : Nat} {f g : LE → R D} {r : LE} {x y : D} (h1 : f r = .ok x) (h2 : g r = .ok y) : parKF i j (valKF f) (valKF g) r = .ok (.nx (setF (setF r i (.val x)) j (.val y))) := by
  show onF (bdF (f r) _) r _ = _
  rw [h1]
  show onF (bdF (g r) _) r _ = _
  rw [h2]
  rfl
theorem pen_loop {b : Nat} (hb : 2 ≤ b) (hb2 : b ≤ 10) : ∀ (f k m : Nat) (acc : List Nat), m < 2 ^ f → f < k → acc.length + f ≤ 100 →
    ∃ c, whileSF k (cmpTF gtDF (varF 0) (cst (.int 0))) (parKF 2 0 (valKF (opEF addDF (subEF (cst d_FIGURES) (opEF modDF (varF 0) (varF 1))) (varF 2))) (valKF (opEF fdivDF (varF 0) (varF 1))))
      [.val (iN (m / b)), .val (iN b), .val (tN (m % b :: acc))] = .ok (.nx [c, .val (iN b), .val (tN (digs b f m acc))]) := by
  intro f
  induction f with
  | zero =>
    intro k m acc h hk ha
    obtain ⟨k, rfl⟩ : ∃ j, k = j + 1 := ⟨k - 1, by omega⟩
    have h0 : m = 0 := by simp at h; omega
    subst h0
    refine ⟨.val (iN (0 / b)), ?_⟩
    rw [whileSF_false (by
      show R.ok (Nat.ble 1 (0 / b)) = _
      rw [Nat.zero_div]; rfl)]
    rw [Nat.zero_mod]; rfl
  | succ f ih =>
    intro k m acc h hk ha
    obtain ⟨k, rfl⟩ : ∃ j, k = j + 1 := ⟨k - 1, by omega⟩
    by_cases hlt : m < b
    · refine ⟨.val (iN (m / b)), ?_⟩
      rw [whileSF_false (by
        show R.ok (Nat.ble 1 (m / b)) = _
        rw [Nat.div_eq_of_lt hlt]; rfl)]
      rw [digs_lt hlt, Nat.mod_eq_of_lt hlt]
    · obtain ⟨c, hc⟩ := ih k (m / b) (m % b :: acc) (div_lt hb h) (by omega) (by simp; omega)
      refine ⟨c, ?_⟩
      rw [whileSF_true (r2 := [.val (iN (m / b / b)), .val (iN b), .val (tN (m / b % b :: m % b :: acc))]) (by
        show R.ok (Nat.ble 1 (m / b)) = _
        rw [show Nat.ble 1 (m / b) = true from by rw [Nat.ble_eq]; exact Nat.div_pos (by omega) (by omega)]) ?_, hc]
      · rw [digs_ge hlt]
      · have hd : m / b % b < 10 := Nat.lt_of_lt_of_le (Nat.mod_lt _ (by omega)) hb2
        exact parKF_ok (opEF_ok (x := .str [sg (m / b % b)]) (subEF_ok rfl (opEF_ok rfl rfl (modN (by omega))) (signF hd)) rfl (addS (b := (m % b :: acc).map sg) (by simp; omega))) (opEF_ok rfl rfl (fdivN (by omega) (by omega)))
theorem baseOk {b : Nat} (hb : 2 ≤ b) (hb2 : b ≤ 10) {x : Cell} {rest : LE} : notTF (chainTF (cst (.int 2)) (varF 1) (cst (.int 10)) leDF leDF) (x :: .val (iN b) :: rest) = .ok false := by
  have : b = 2 ∨ b = 3 ∨ b = 4 ∨ b = 5 ∨ b = 6 ∨ b = 7 ∨ b = 8 ∨ b = 9 ∨ b = 10 := by omega
  rcases this with rfl | rfl | rfl | rfl | rfl | rfl | rfl | rfl | rfl <;> rfl
theorem orTF_ff {f g : LE → R Bool} {r : LE} (h1 : f r = .ok false) (h2 : g r = .ok false) : orTF f g r = .ok false := by
  show bdF (f r) _ = _
  rw [h1]
  exact h2
theorem pen_eq {b n : Nat} (hb : 2 ≤ b) (hb2 : b ≤ 10) (hn : n < 2 ^ 14) : D_pennants_f [iN n, iN b] = .ok (tN (digs b 14 n [])) := by
  refine runGF_ok rfl ?_
  show F_pennants_f [.val (iN n), .val (iN b), .un] = _
  unfold F_pennants_f
  refine seq_go (r' := [.val (iN n), .val (iN b), .un]) ((ifSF_false (orTF_ff (baseOk hb hb2) rfl)).trans rfl) ?_
  have hd : n % b < 10 := Nat.lt_of_lt_of_le (Nat.mod_lt _ (by omega)) hb2
  refine seq_go (r' := [.val (iN n), .val (iN b), .val (.str [sg (n % b)])]) (setKF_val (subEF_ok rfl (opEF_ok rfl rfl (modN (by omega))) (signF hd))) ?_
  refine seq_go (r' := [.val (iN (n / b)), .val (iN b), .val (.str [sg (n % b)])]) (setKF_val (opEF_ok rfl rfl (fdivN (by omega) (by omega)))) ?_
  obtain ⟨c, hc⟩ := pen_loop hb hb2 14 100 n [] hn (by omega) (by simp)
  refine seq_go hc ?_
  rfl
end K08
set_option Elab.async false
set_option linter.all false
set_option maxRecDepth 100000
namespace K08
open DL
theorem loopSF_nx {gd : D → LE → Option LE} {body : LE → R Out} {d : D} {ds : List D} {r r' r2 : LE} (h1 : gd d r = some r') (h2 : body r' = .ok (.nx r2)) : loopSF gd body (d :: ds) r = loopSF gd body ds r2 := by
  rw [loopSF_cons, h1]
  show nfF r' _ = _
  rw [nf_f, h2]
  rfl
theorem smallN {b : Nat} (hb : b < 18446744073709551616) : smallF (Int.ofNat b) = true := by rw [small_f]; exact ⟨by show _ < (b : Int); omega, by show (b : Int) < _; omega⟩
theorem mulN2 {m b : Nat} (hb : b < 18446744073709551616) : mulDF (iN m) (iN b) = .ok (iN (m * b)) := by
  show bifF (bifF (smallF (Int.ofNat m)) true (smallF (Int.ofNat b))) _ _ = _
  rw [smallN hb]
  cases smallF (Int.ofNat m) <;> rfl
theorem addN {m b : Nat} : addDF (iN m) (iN b) = .ok (iN (m + b)) := rfl
theorem read_loop {b : Nat} (hb2 : b ≤ 10) {x : Cell} : ∀ (L : List Nat) (v : Nat) (c : Cell), (∀ d ∈ L, d < 10) →
    ∃ c', loopSF (gNF 2) (setKF 3 (valKF (opEF addDF (opEF mulDF (varF 3) (varF 1)) (bmSF sidxDF (cst d_FIGURES) (aconsF (varF 2) anil))))) (signsF (L.map sg)) [x, .val (iN b), c, .val (iN v)] = .ok (.nx [x, .val (iN b), c', .val (iN (valB b v L))])
  | [], v, c, h => ⟨c, rfl⟩
  | d :: L, v, c, h => by
    obtain ⟨c', hc⟩ := read_loop hb2 L (v * b + d) (.val (.str [sg d])) fun e he => h e (List.mem_cons_of_mem _ he)
    refine ⟨c', ?_⟩
    show loopSF _ _ (.str [sg d] :: signsF (L.map sg)) _ = _
    rw [loopSF_nx (r' := [x, .val (iN b), .val (.str [sg d]), .val (iN v)]) (r2 := [x, .val (iN b), .val (.str [sg d]), .val (iN (v * b + d))]) rfl ?_, hc]
    · rfl
    · exact setKF_val (opEF_ok (opEF_ok rfl rfl (mulN2 (by omega))) (bmS1_ok rfl rfl (idxF (h d List.mem_cons_self))) addN)
theorem noin_all (x : Cell) : ((List.range 11).all fun b => (List.range b).all fun d => okD (.bl false) (opEF notInDF (varF 2) (sliceEF (cst d_FIGURES) noP (somePF (varF 1))) [x, .val (iN b), .val (.str [sg d]), .un])) = true := by kernel_rfl
theorem noin {x : Cell} {b d : Nat} (hb : b ≤ 10) (hd : d < b) : opEF notInDF (varF 2) (sliceEF (cst d_FIGURES) noP (somePF (varF 1))) [x, .val (iN b), .val (.str [sg d]), .un] = .ok (.bl false) :=
  okD_eq (all_of (all_of (noin_all x) (List.mem_range.mpr (by omega : b < 11))) (List.mem_range.mpr hd))
theorem valTF_ok {f : LE → R D} {r : LE} {b : Bool} (h : f r = .ok (.bl b)) : valTF f r = .ok b := by
  show bdF (f r) _ = _
  rw [h]
  rfl
theorem andTF_f {f g : LE → R Bool} {r : LE} (h1 : f r = .ok false) : andTF f g r = .ok false := by
  show bdF (f r) _ = _
  rw [h1]
  rfl
theorem andTF_t {f g : LE → R Bool} {r : LE} {b : Bool} (h1 : f r = .ok true) (h2 : g r = .ok b) : andTF f g r = .ok b := by
  show bdF (f r) _ = _
  rw [h1]
  exact h2
theorem cmpTF_ok {g : D → D → R D} {f k : LE → R D} {r : LE} {x y : D} {b : Bool} (h1 : f r = .ok x) (h2 : k r = .ok y) (h3 : g x y = .ok (.bl b)) : cmpTF g f k r = .ok b := by
  show bdF (f r) _ = _
  rw [h1, bdF_ok, h2, bdF_ok, h3]
  rfl
theorem len_str {f : LE → R D} {r : LE} {s : List Nat} (h : f r = .ok (.str s)) (hl : s.length ≤ 1000) : callEF lenXF (aconsF f anil) r = .ok (iN s.length) := by
  show bdF (aconsF f anil r) _ = _
  rw [aconsF_ok h (xs := []) rfl, bdF_ok]
  show bifF (okLenF s) (R.ok (D.int (Int.ofNat (lenF s)))) R.stuck = _
  rw [okLenF_of (by omega), ← len_f]
  rfl
theorem len_lst {f : LE → R D} {r : LE} {s : List D} (h : f r = .ok (.lst s)) : callEF lenXF (aconsF f anil) r = .ok (iN s.length) := by
  show bdF (aconsF f anil r) _ = _
  rw [aconsF_ok h (xs := []) rfl, bdF_ok]
  show R.ok (D.int (.ofNat (lenF s))) = _
  rw [← len_f]
theorem at_str {s : List Nat} {k c : Nat} (h : s[k]? = some c) (hl : s.length ≤ 1000) : subIF (.str s) (iN k) = .ok (.str [c]) := by
  show bifF (okLenF s) (okF (nthF s k) fun c => D.str [c]) R.stuck = _
  rw [okLenF_of (by omega), ← nth_f, h]
  rfl
theorem not48 {h : Nat} (h0 : 0 < h) : eqDF (.str [sg h]) (.str [48]) = .ok (.bl false) := by
  have : sg h ≠ 48 := by unfold sg; split <;> omega
  show R.ok (D.bl (@Bool.rec (fun _ => Bool) false (seqF [] []) (Nat.beq (sg h) 48))) = _
  rw [show Nat.beq (sg h) 48 = false from by rw [Bool.eq_false_iff]; exact fun z => this (Nat.eq_of_beq_eq_true z)]
theorem read_eq {b : Nat} (hb : 2 ≤ b) (hb2 : b ≤ 10) {h : Nat} {t : List Nat} (hl : t.length ≤ 100) (hd : ∀ d ∈ h :: t, d < b) (h0 : t ≠ [] → 0 < h) : D_read_pennants_f [tN (h :: t), iN b] = .ok (iN (valB b 0 (h :: t))) := by
  refine runGF_ok rfl ?_
  show F_read_pennants_f [.val (tN (h :: t)), .val (iN b), .un, .un] = _
  unfold F_read_pennants_f
  refine seq_go (r' := [.val (tN (h :: t)), .val (iN b), .un, .un]) ((ifSF_false (baseOk hb hb2)).trans rfl) ?_
  refine seq_go (r' := [.val (tN (h :: t)), .val (iN b), .un, .un]) ((ifSF_false (orTF_ff rfl (orTF_ff (valTF_ok (anyText_no (s := (h :: t).map sg) rfl fun c hc => ?_)) ?_))).trans rfl) ?_
  · obtain ⟨d, hd1, rfl⟩ := List.mem_map.mp hc
    exact noin hb2 (hd d hd1)
  · cases t with
    | nil => exact andTF_f (cmpTF_ok rfl rfl rfl)
    | cons u t =>
      have hlen : ((h :: u :: t).map sg).length = t.length + 2 := by simp
      refine andTF_t (cmpTF_ok (x := iN (t.length + 2)) (y := .int 1) ?_ rfl ?_) (cmpTF_ok (x := .str [sg h]) (subEF_ok rfl rfl (at_str (s := (h :: u :: t).map sg) (k := 0) rfl (by rw [hlen]; simp at hl; omega))) rfl (not48 (h0 (by simp))))
      · rw [← hlen]
        exact len_str rfl (by rw [hlen]; simp at hl; omega)
      · show R.ok (D.bl (Nat.ble 2 (t.length + 2))) = _
        rw [show Nat.ble 2 (t.length + 2) = true from by rw [Nat.ble_eq]; omega]
  refine seq_go (r' := [.val (tN (h :: t)), .val (iN b), .un, .val (iN 0)]) (setKF_val rfl) ?_
  obtain ⟨c, hc⟩ := read_loop hb2 (x := .val (tN (h :: t))) (h :: t) 0 .un fun d h1 => Nat.lt_of_lt_of_le (hd d h1) hb2
  refine seq_go ((forSF_ok (ds := signsF ((h :: t).map sg)) rfl).trans hc) ?_
  rfl
end K08
set_option Elab.async false
set_option linter.all false
set_option maxRecDepth 100000
namespace K08
open DL
noncomputable def sumK (acc : Int) (S : Int → R Int) (y : D) : R Int := match y with
  | .int v => if smallI v ∧ smallI (acc + v) then S (iaddF acc v) else .stuck
  | _ => .stuck
theorem sumK_ok {acc v : Int} {S : Int → R Int} (h1 : smallI v) (h2 : smallI (acc + v)) : sumK acc S (.int v) = S (iaddF acc v) := if_pos ⟨h1, h2⟩
theorem sumGF_cons (gd : D → LE → Option LE) (tt : LE → R Bool) (te : LE → R D) (r : LE) (d : D) (ds : List D) (acc : Int) : sumGF gd tt te r (d :: ds) acc = optF (gd d r) R.stuck fun r' => nfF r' fun r' => bdF (cmF (tt r')) fun b => bifF b (bdF (cmF (te r')) (sumK acc (sumGF gd tt te r ds))) (sumGF gd tt te r ds acc) := rfl
theorem sumGF_nx {gd : D → LE → Option LE} {te : LE → R D} {r r' : LE} {d : D} {ds : List D} {v acc : Nat} (h1 : gd d r = some r') (h2 : te r' = .ok (iN v)) (hb : acc + v < 1000000) : sumGF gd yesT te r (d :: ds) (Int.ofNat acc) = sumGF gd yesT te r ds (Int.ofNat (acc + v)) := by
  rw [sumGF_cons, h1]
  show nfF r' _ = _
  rw [nf_f]
  show bdF (cmF (te r')) _ = _
  rw [h2, cmF_ok, bdF_ok, sumK_ok ?_ ?_]
  · rfl
  · exact ⟨by show (v : Int) < _; omega, by show _ < (v : Int); omega⟩
  · exact ⟨by show (acc : Int) + (v : Int) < _; omega, by show _ < (acc : Int) + (v : Int); omega⟩
theorem ints_lN : ∀ L : List Nat, ints? (L.map iN) = some (L.map Int.ofNat)
  | [] => rfl
  | a :: L => by
    show ((ints? (L.map iN)).map (Int.ofNat a :: ·)) = _
    rw [ints_lN L]
    rfl
theorem sum_ofNat : ∀ L : List Nat, (L.map Int.ofNat).sum = Int.ofNat L.sum
  | [] => rfl
  | a :: L => by
    rw [List.map_cons, List.sum_cons, sum_ofNat L, List.sum_cons]
    rfl
theorem sumD_lN (L : List Nat) : sumD [lN L] = .ok (iN L.sum) := by
  show (match ints? (L.map iN) with
    | some is => R.ok (D.int is.sum)
    | none => .stuck) = _
  rw [ints_lN]
  show R.ok (D.int (L.map Int.ofNat).sum) = _
  rw [sum_ofNat]
theorem sum_loop {x y : Cell} : ∀ (L : List Nat) (acc : Nat), (∀ d ∈ L, d < 10) → acc + 10 * L.length < 1000000 →
    sumGF (gNF 2) yesT (bmSF sidxDF (cst d_FIGURES) (aconsF (varF 2) anil)) [x, y, .un] (signsF (L.map sg)) (Int.ofNat acc) = .ok (Int.ofNat (acc + L.sum))
  | [], acc, _, _ => rfl
  | d :: L, acc, h, hb => by
    have hd := h d List.mem_cons_self
    simp at hb
    show sumGF _ _ _ _ (.str [sg d] :: signsF (L.map sg)) _ = _
    rw [sumGF_nx (v := d) (r' := [x, y, .val (.str [sg d])]) rfl (bmS1_ok rfl rfl (idxF hd)) (by omega), sum_loop L (acc + d) (fun e he => h e (List.mem_cons_of_mem _ he)) (by omega), List.sum_cons, Nat.add_assoc]
theorem callEF2_ok {g : List D → R D} {f k : LE → R D} {r : LE} {x y d : D} (h1 : f r = .ok x) (h2 : k r = .ok y) (h3 : g [x, y] = .ok d) : callEF g (aconsF f (aconsF k anil)) r = .ok d := by
  show bdF (aconsF f (aconsF k anil) r) _ = _
  rw [aconsF_ok h1 (aconsF_ok h2 (xs := []) rfl), bdF_ok]
  exact h3
theorem callEF1_ok {g : List D → R D} {f : LE → R D} {r : LE} {x d : D} (h1 : f r = .ok x) (h3 : g [x] = .ok d) : callEF g (aconsF f anil) r = .ok d := by
  show bdF (aconsF f anil r) _ = _
  rw [aconsF_ok h1 (xs := []) rfl, bdF_ok]
  exact h3
theorem digs_10 {b n : Nat} (hb : 2 ≤ b) (hb2 : b ≤ 10) (hn : n < 2 ^ 14) : ∀ d ∈ digs b 14 n [], d < 10 := fun d h => Nat.lt_of_lt_of_le (digs_all hb 14 n [] hn (by simp) d h) hb2
theorem digs_15 {b n : Nat} : (digs b 14 n []).length ≤ 15 := digs_len 14 n []
theorem sumf_eq {b n : Nat} (hb : 2 ≤ b) (hb2 : b ≤ 10) (hn : n < 2 ^ 14) : D_sum_of_figures_f [iN n, iN b] = .ok (iN (digs b 14 n []).sum) := by
  refine runGF_ok rfl ?_
  show F_sum_of_figures_f [.val (iN n), .val (iN b), .un] = _
  unfold F_sum_of_figures_f
  refine retSF_ok ?_
  show bdF (itSF _ _) _ = _
  rw [show itSF (callEF D_pennants_f (aconsF (varF 0) (aconsF (varF 1) anil))) [.val (iN n), .val (iN b), .un] = .ok (signsF ((digs b 14 n []).map sg)) from by
    show bdF (callEF _ _ _) _ = _
    rw [callEF2_ok rfl rfl (pen_eq hb hb2 hn)]
    rfl, bdF_ok]
  show bdF (sumGF _ _ _ [.val (iN n), .val (iN b), .un] _ (Int.ofNat 0)) _ = _
  have := digs_15 (b := b) (n := n)
  rw [sum_loop _ 0 (digs_10 hb hb2 hn) (by omega), Nat.zero_add]
  rfl
theorem drop_sg : ∀ L : List Nat, (∀ d ∈ L, d < 10) → (L.map sg).dropWhile (· == 48) = (L.dropWhile (· == 0)).map sg
  | [], _ => rfl
  | d :: L, h => by
    have hd := h d List.mem_cons_self
    have e : (sg d == 48) = (d == 0) := by
      unfold sg
      rw [if_pos hd, Bool.eq_iff_iff, beq_iff_eq, beq_iff_eq]
      omega
    rw [List.map_cons, List.dropWhile_cons, List.dropWhile_cons, e]
    split
    · exact drop_sg L fun e he => h e (List.mem_cons_of_mem _ he)
    · rfl
theorem val_drop {b : Nat} : ∀ L : List Nat, valB b 0 (L.dropWhile (· == 0)) = valB b 0 L
  | [] => rfl
  | d :: L => by
    rw [List.dropWhile_cons]
    split
    · rename_i h
      have : d = 0 := by simpa using h
      subst this
      rw [val_drop L]
      show _ = valB b (0 * b + 0) L
      rw [Nat.zero_mul]
    · rfl
theorem drop_head : ∀ {L : List Nat} {h : Nat} {t : List Nat}, L.dropWhile (· == 0) = h :: t → 0 < h
  | d :: L, h, t, e => by
    rw [List.dropWhile_cons] at e
    split at e
    · exact drop_head e
    · rename_i h2
      cases e
      have : d ≠ 0 := by simpa using h2
      omega
theorem iteEF_t {c : LE → R Bool} {f g : LE → R D} {r : LE} (h : c r = .ok true) : iteEF c f g r = f r := by
  show bdF (c r) _ = _
  rw [h]
  rfl
theorem iteEF_f {c : LE → R Bool} {f g : LE → R D} {r : LE} (h : c r = .ok false) : iteEF c f g r = g r := by
  show bdF (c r) _ = _
  rw [h]
  rfl
theorem turn_eq {b n : Nat} (hb : 2 ≤ b) (hb2 : b ≤ 10) (hn : n < 2 ^ 14) : D_turned_number_f [iN n, iN b] = .ok (iN (valB b 0 (digs b 14 n []).reverse)) := by
  refine runGF_ok rfl ?_
  show F_turned_number_f [.val (iN n), .val (iN b), .un] = _
  unfold F_turned_number_f
  have hl := digs_15 (b := b) (n := n)
  generalize hL : (digs b 14 n []) = L at hl
  have hd : ∀ d ∈ L.reverse, d < b := fun d h => by
    rw [← hL] at h
    exact digs_all hb 14 n [] hn (by simp) d (List.mem_reverse.mp h)
  have hd10 : ∀ d ∈ L.reverse, d < 10 := fun d h => Nat.lt_of_lt_of_le (hd d h) hb2
  have hlr : ((L.map sg).reverse).length ≤ 15 := by simpa using hl
  refine seq_go (r' := [.val (iN n), .val (iN b), .val (tN (L.reverse.dropWhile (· == 0)))]) (setKF_val (bmS1_ok (s := (L.map sg).reverse) (x := .str [48]) ?_ rfl ?_)) ?_
  · refine bmS1_ok (s := []) (x := .lst (((L.map sg).reverse).map fun c => D.str [c])) rfl (lEF_ok ?_) (joinDF_signs _ (by omega))
    show (callEF _ _ _ >>= revD) = _
    rw [callEF2_ok rfl rfl (pen_eq hb hb2 hn), hL]
    show (if (L.map sg).length ≤ 16777216 then R.ok ((L.map sg).reverse.map fun c => D.str [c]) else .stuck) = _
    rw [if_pos (by rw [List.length_map]; omega)]
  · show (if ((L.map sg).reverse).length ≤ 16777216 then R.ok (D.str (((L.map sg).reverse).dropWhile (· == 48))) else .stuck) = _
    rw [if_pos (by omega), ← List.map_reverse, drop_sg _ hd10]
    rfl
  refine retSF_ok ?_
  cases hc : L.reverse.dropWhile (· == 0) with
  | nil =>
    rw [iteEF_t (cmpTF_ok rfl rfl rfl), ← val_drop, hc]
    rfl
  | cons h t =>
    rw [iteEF_f (cmpTF_ok rfl rfl rfl), ← val_drop, hc]
    have hs := List.dropWhile_sublist (l := L.reverse) (· == 0)
    rw [hc] at hs
    refine callEF2_ok rfl rfl (read_eq hb hb2 ?_ ?_ ?_)
    · have := hs.length_le
      simp at this
      omega
    · exact fun d h => hd d (hs.subset h)
    · exact fun _ => drop_head hc
theorem back_loop {b : Nat} (hb2 : b ≤ 10) {c0 c1 c2 c4 c5 : Cell} {rest : LE} : ∀ (L : List Nat) (v : Nat) (c : Cell),
    ∃ c', loopSF (gNF 6) (setKF 7 (valKF (opEF addDF (opEF mulDF (varF 7) (varF 3)) (varF 6)))) (L.map iN) (c0 :: c1 :: c2 :: .val (iN b) :: c4 :: c5 :: c :: .val (iN v) :: rest) = .ok (.nx (c0 :: c1 :: c2 :: .val (iN b) :: c4 :: c5 :: c' :: .val (iN (valB b v L)) :: rest))
  | [], v, c => ⟨c, rfl⟩
  | d :: L, v, c => by
    obtain ⟨c', hc⟩ := back_loop hb2 L (v * b + d) (.val (iN d))
    refine ⟨c', ?_⟩
    show loopSF _ _ (iN d :: L.map iN) _ = _
    rw [loopSF_nx (r' := c0 :: c1 :: c2 :: .val (iN b) :: c4 :: c5 :: .val (iN d) :: .val (iN v) :: rest) (r2 := c0 :: c1 :: c2 :: .val (iN b) :: c4 :: c5 :: .val (iN d) :: .val (iN (v * b + d)) :: rest) rfl ?_, hc]
    · rfl
    · exact setKF_val (opEF_ok (opEF_ok rfl rfl (mulN2 (by omega))) rfl addN)
end K08
set_option Elab.async false
set_option linter.all false
set_option maxRecDepth 100000
namespace K08
open DL PySem PySem.Spec PyProof.Rows
noncomputable def LW1 : LE → R Out := (parKF 2 3 (valKF (callEF rollDF (aconsF (varF 1) (aconsF (cst (.int 10000)) anil)))) (valKF (opEF addDF (cst (.int 2)) (callEF rollDF (aconsF (varF 1) (aconsF (cst (.int 9)) anil))))))
noncomputable def LW2 : LE → R Out := (setKF 4 (valKF (callEF D_law_figures_f (aconsF (varF 2) (aconsF (varF 3) anil)))))
noncomputable def LW3 : LE → R Out := (setKF 5 (valKF (bmSF joinDF (cst (.str [])) (aconsF (lEF (compFF (itLF (varF 4)) (gNF 6) yesT (callEF strOf (aconsF (varF 6) anil)) [6])) anil))))
noncomputable def LW4 : LE → R Out := (ifSF (orTF (cmpTF neDF (callEF D_pennants_f (aconsF (varF 2) (aconsF (varF 3) anil))) (varF 5)) (orTF (cmpTF neDF (callEF D_read_pennants_f (aconsF (varF 5) (aconsF (varF 3) anil))) (varF 2)) (cmpTF neDF (callEF D_sum_of_figures_f (aconsF (varF 2) (aconsF (varF 3) anil))) (callEF sumD (aconsF (varF 4) anil)))))
    (retSF (cst (.bl false)))
    skipS)
noncomputable def LW5 : LE → R Out := (setKF 7 (valKF (cst (.int 0))))
noncomputable def LW6 : LE → R Out := (forSF (revLE (aconsF (varF 4) anil)) (gNF 6)
    (setKF 7 (valKF (opEF addDF (opEF mulDF (varF 7) (varF 3)) (varF 6)))))
noncomputable def LW7 : LE → R Out := (ifSF (cmpTF neDF (callEF D_turned_number_f (aconsF (varF 2) (aconsF (varF 3) anil))) (varF 7))
    (retSF (cst (.bl false)))
    skipS)
noncomputable def LW8 : LE → R Out := (setKF 8 (valKF (bmSF joinDF (cst (.str [])) (aconsF (lEF (compFF (rng1EF (aconsF (opEF addDF (cst (.int 1)) (callEF rollDF (aconsF (varF 1) (aconsF (cst (.int 4)) anil)))) anil)) (gNF 9) yesT (subEF (cst (.str [48, 49, 50, 51, 52])) (callEF rollDF (aconsF (varF 1) (aconsF (cst (.int 5)) anil)))) [9])) anil))))
noncomputable def LW9 : LE → R Out := (setKF 10 (valKF (lEF (compFF (rng1EF (aconsF (callEF lenXF (aconsF (varF 8) anil)) anil)) (gNF 9) yesT (bmSF sidxDF (varF 8) (aconsF (subEF (varF 8) (varF 9)) anil)) [9]))))
noncomputable def LW10 : LE → R Out := (setKF 11 (valKF (bmSF joinDF (cst (.str [])) (aconsF (lEF (compFF (rng1EF (aconsF (callEF lenXF (aconsF (varF 8) anil)) anil)) (gNF 9) yesT (iteEF (cmpTF eqDF (subEF (varF 10) (varF 9)) (varF 9)) (subEF (varF 8) (varF 9)) (subEF (cst (.str [120, 121, 122])) (subEF (varF 10) (varF 9)))) [9])) anil))))
noncomputable def LW11 : LE → R Out := (setKF 12 (valKF (opEF ltDF (lenDictE (lEF (compFF (itSF (varF 11)) (gNF 13) yesT (tupEF (aconsF (varF 13) (aconsF (cst (.int 1)) anil))) [13]))) (callEF lenXF (aconsF (varF 11) anil)))))
noncomputable def LW12 : LE → R Out := (setKF 14 (valKF (toldEF toldL (callEF D_by_substitutes_f (aconsF (varF 8) anil)))))
noncomputable def LW13 : LE → R Out := (ifSF (orTF (cmpTF neDF (varF 14) (iteEF (valTF (varF 12)) (cst (.str [104, 111, 105, 115, 116])) (varF 11))) (andTF (cmpTF neDF (varF 14) (cst (.str [104, 111, 105, 115, 116]))) (cmpTF neDF (callEF D_without_substitutes_f (aconsF (varF 14) anil)) (varF 8))))
    (retSF (cst (.bl false)))
    skipS)
noncomputable def LW14 : LE → R Out := (ifSF (notTF (valTF (callEF D_law_rest1_f (aconsF (varF 1) anil))))
    (retSF (cst (.bl false)))
    skipS)
noncomputable def LWs14 : LE → R Out := LW14
noncomputable def LWs13 : LE → R Out := seqSF LW13 LWs14
noncomputable def LWs12 : LE → R Out := seqSF LW12 LWs13
noncomputable def LWs11 : LE → R Out := seqSF LW11 LWs12
noncomputable def LWs10 : LE → R Out := seqSF LW10 LWs11
noncomputable def LWs9 : LE → R Out := seqSF LW9 LWs10
noncomputable def LWs8 : LE → R Out := seqSF LW8 LWs9
noncomputable def LWs7 : LE → R Out := seqSF LW7 LWs8
noncomputable def LWs6 : LE → R Out := seqSF LW6 LWs7
noncomputable def LWs5 : LE → R Out := seqSF LW5 LWs6
noncomputable def LWs4 : LE → R Out := seqSF LW4 LWs5
noncomputable def LWs3 : LE → R Out := seqSF LW3 LWs4
noncomputable def LWs2 : LE → R Out := seqSF LW2 LWs3
noncomputable def LWs1 : LE → R Out := seqSF LW1 LWs2
theorem F_law_f_split : F_law_f = LWs1 := rfl
noncomputable def LR1 : LE → R Out := (setKF 1 (valKF (bmSF joinDF (cst (.str [])) (aconsF (lEF (compFF (rng1EF (aconsF (opEF addDF (cst (.int 1)) (callEF rollDF (aconsF (varF 0) (aconsF (cst (.int 9)) anil)))) anil)) (gNF 2) yesT (subEF (cst (.str [48, 49, 50, 51, 52, 53, 54, 55, 56, 57])) (callEF rollDF (aconsF (varF 0) (aconsF (cst (.int 10)) anil)))) [2])) anil))))
noncomputable def LR2 : LE → R Out := (setKF 3 (valKF (callEF D_with_check_f (aconsF (varF 1) anil))))
noncomputable def LR3 : LE → R Out := (ifSF (orTF (cmpTF neDF (sliceEF (varF 3) noP (somePF (callEF lenXF (aconsF (varF 1) anil)))) (varF 1)) (orTF (cmpTF neDF (opEF modDF (callEF D_law_sum_f (aconsF (varF 3) anil)) (cst (.int 11))) (cst (.int 0))) (notTF (valTF (callEF D_is_checked_f (aconsF (varF 3) anil))))))
    (retSF (cst (.bl false)))
    skipS)
noncomputable def LR4 : LE → R Out := (ifSF (cmpTF neDF (callEF D_check_flag_f (aconsF (varF 1) anil)) (subEF (varF 3) (callEF lenXF (aconsF (varF 1) anil))))
    (retSF (cst (.bl false)))
    skipS)
noncomputable def LR5 : LE → R Out := (parKF 4 5 (valKF (callEF rollDF (aconsF (varF 0) (aconsF (callEF lenXF (aconsF (varF 1) anil)) anil)))) (valKF (subEF (cst (.str [48, 49, 50, 51, 52, 53, 54, 55, 56, 57])) (callEF rollDF (aconsF (varF 0) (aconsF (cst (.int 10)) anil))))))
noncomputable def LR6 : LE → R Out := (setKF 6 (valKF (opEF addDF (opEF addDF (sliceEF (varF 3) noP (somePF (varF 4))) (varF 5)) (sliceEF (varF 3) (somePF (opEF addDF (varF 4) (cst (.int 1)))) noP))))
noncomputable def LR7 : LE → R Out := (ifSF (cmpTF neDF (callEF D_is_checked_f (aconsF (varF 6) anil)) (opEF eqDF (varF 5) (subEF (varF 3) (varF 4))))
    (retSF (cst (.bl false)))
    skipS)
noncomputable def LR8 : LE → R Out := (setKF 7 (valKF (callEF rollDF (aconsF (varF 0) (aconsF (callEF lenXF (aconsF (varF 1) anil)) anil)))))
noncomputable def LR9 : LE → R Out := (setKF 8 (valKF (callEF D_exchanged_f (aconsF (varF 3) (aconsF (varF 7) anil)))))
noncomputable def LR10 : LE → R Out := (ifSF (orTF (cmpTF neDF (callEF D_exchanged_f (aconsF (varF 8) (aconsF (varF 7) anil))) (varF 3)) (andTF (cmpTF notInDF (cst (.str [120])) (sliceEF (varF 8) noP (somePF (callEF lenXF (aconsF (varF 1) anil))))) (cmpTF neDF (callEF D_is_checked_f (aconsF (varF 8) anil)) (opEF eqDF (varF 8) (varF 3)))))
    (retSF (cst (.bl false)))
    skipS)
noncomputable def LR11 : LE → R Out := (setKF 9 (valKF (opEF addDF (opEF addDF (sliceEF (varF 3) noP (somePF (varF 4))) (cst (.str [63]))) (sliceEF (varF 3) (somePF (opEF addDF (varF 4) (cst (.int 1)))) noP))))
noncomputable def LR12 : LE → R Out := (ifSF (orTF (cmpTF neDF (callEF D_hidden_figure_f (aconsF (varF 9) anil)) (varF 3)) (cmpTF neDF (callEF D_hidden_figure_f (aconsF (opEF addDF (varF 1) (cst (.str [63]))) anil)) (varF 3)))
    (retSF (cst (.bl false)))
    skipS)
noncomputable def LR13 : LE → R Out := (setKF 10 (valKF (lEF (compFF (rng1EF (aconsF (callEF rollDF (aconsF (varF 0) (aconsF (cst (.int 6)) anil))) anil)) (gNF 2) yesT (callEF rollDF (aconsF (varF 0) (aconsF (cst (.int 5)) anil))) [2]))))
noncomputable def LR14 : LE → R Out := (setKF 11 (ownKF (compFF (rng2EF (aconsF (cst (.int 1)) (aconsF (callEF lenXF (aconsF (varF 10) anil)) anil))) (gNF 2) yesT (iteEF (cmpTF gtDF (subEF (varF 10) (varF 2)) (subEF (varF 10) (opEF subDF (varF 2) (cst (.int 1))))) (cst (.str [117])) (iteEF (cmpTF ltDF (subEF (varF 10) (varF 2)) (subEF (varF 10) (opEF subDF (varF 2) (cst (.int 1))))) (cst (.str [100])) (cst (.str [115])))) [2])))
noncomputable def LR15 : LE → R Out := (ifSF (cmpTF neDF (callEF D_ups_and_downs_f (aconsF (varF 10) anil)) (bmSF joinDF (cst (.str [])) (aconsF (varPF 11) anil)))
    (retSF (cst (.bl false)))
    skipS)
noncomputable def LR16 : LE → R Out := (setKF 12 (valKF (opEF addDF (cst (.int 1)) (callEF rollDF (aconsF (varF 0) (aconsF (cst (.int 9999)) anil))))))
noncomputable def LR17 : LE → R Out := (setKF 13 (ownKF (compFF (rng2EF (aconsF (cst (.int 2)) (aconsF (cst (.int 11)) anil))) (gNF 14) yesT (opEF mulDF (callEF lenXF (aconsF (callEF D_law_figures_f (aconsF (varF 12) (aconsF (varF 14) anil))) anil)) (varF 14)) [14])))
noncomputable def LR18 : LE → R Out := (ifSF (cmpTF neDF (callEF D_fewest_pennants_f (aconsF (varF 12) anil)) (opEF addDF (cst (.int 2)) (bmLF idxLs (varPF 13) (aconsF (callEF minLF (aconsF (varPF 13) anil)) anil))))
    (retSF (cst (.bl false)))
    skipS)
noncomputable def LR19 : LE → R Out := (forSF (itLF (lEF (lstEF (aconsF (cst (.str [])) (aconsF (cst (.str [48, 49])) (aconsF (cst (.str [57, 120])) anil)))))) (gNF 15)
    (ifSF (cmpTF neDF (toldEF toldL (callEF D_read_pennants_f (aconsF (varF 15) (aconsF (cst (.int 10)) anil)))) (cst (.str [104, 111, 105, 115, 116])))
    (retSF (cst (.bl false)))
    skipS))
noncomputable def LR20 : LE → R Out := (ifSF (notTF (valTF (fun _ => D_law_cases1_f [])))
    (retSF (cst (.bl false)))
    skipS)
noncomputable def LR21 : LE → R Out := (retSF (cst (.bl true)))
noncomputable def LRs21 : LE → R Out := LR21
noncomputable def LRs20 : LE → R Out := seqSF LR20 LRs21
noncomputable def LRs19 : LE → R Out := seqSF LR19 LRs20
noncomputable def LRs18 : LE → R Out := seqSF LR18 LRs19
noncomputable def LRs17 : LE → R Out := seqSF LR17 LRs18
noncomputable def LRs16 : LE → R Out := seqSF LR16 LRs17
noncomputable def LRs15 : LE → R Out := seqSF LR15 LRs16
noncomputable def LRs14 : LE → R Out := seqSF LR14 LRs15
noncomputable def LRs13 : LE → R Out := seqSF LR13 LRs14
noncomputable def LRs12 : LE → R Out := seqSF LR12 LRs13
noncomputable def LRs11 : LE → R Out := seqSF LR11 LRs12
noncomputable def LRs10 : LE → R Out := seqSF LR10 LRs11
noncomputable def LRs9 : LE → R Out := seqSF LR9 LRs10
noncomputable def LRs8 : LE → R Out := seqSF LR8 LRs9
noncomputable def LRs7 : LE → R Out := seqSF LR7 LRs8
noncomputable def LRs6 : LE → R Out := seqSF LR6 LRs7
noncomputable def LRs5 : LE → R Out := seqSF LR5 LRs6
noncomputable def LRs4 : LE → R Out := seqSF LR4 LRs5
noncomputable def LRs3 : LE → R Out := seqSF LR3 LRs4
noncomputable def LRs2 : LE → R Out := seqSF LR2 LRs3
noncomputable def LRs1 : LE → R Out := seqSF LR1 LRs2
theorem F_law_rest1_f_split : F_law_rest1_f = LRs1 := rfl
end K08
set_option Elab.async false
set_option linter.all false
set_option maxRecDepth 100000
namespace DL
theorem GoP.okF {P : Out → Prop} {S K : LE → R Out} {r r2 : LE} (h : S r = .ok (.nx r2)) (k : GoP P K r2) : GoP P (seqSF S K) r := ⟨by rw [seqSF_ok h]; exact k.h⟩
theorem GoP.wrF {P : Out → Prop} {S K : LE → R Out} {r : LE} {Q : LE → Prop} (h : Wr (S r) (fun o => ∃ r2, o = .nx r2 ∧ Q r2)) (k : ∀ r2, Q r2 → GoP P K r2) : GoP P (seqSF S K) r := ⟨by
  rw [← seqS_f]
  show Wp (S r >>= _) _ _
  refine Wp.of_bind (h.h.mono (fun o ho => ?_) fun _ z => z.elim)
  obtain ⟨r2, rfl, hq⟩ := ho
  exact (k r2 hq).h⟩
end DL
namespace K08
open DL
theorem seqF_refl (s : List Nat) : seqF s s = true := by rw [← seq_f]; exact beq_self_eq_true s
theorem neS (s : List Nat) : neDF (.str s) (.str s) = .ok (.bl false) := by
  show R.ok (D.bl (notF (seqF s s))) = _
  rw [seqF_refl]
  rfl
theorem neI (n : Nat) : neDF (iN n) (iN n) = .ok (.bl false) := by
  show R.ok (D.bl (notF (Nat.beq n n))) = _
  rw [Nat.beq_refl]
  rfl
theorem str_all : ((List.range 10).all fun d => okD (.str [sg d]) (strOf [iN d])) = true := by kernel_rfl
theorem strF {d : Nat} (h : d < 10) : strOf [iN d] = .ok (.str [sg d]) := okD_eq (all_of str_all (List.mem_range.mpr h))
theorem digs_form {b n : Nat} (hb : 2 ≤ b) : ∃ h t, digs b 14 n [] = h :: t ∧ (t ≠ [] → 0 < h) := by
  by_cases h0 : n = 0
  · subst h0
    exact ⟨0, [], digs_lt (by omega) 14, fun z => absurd rfl z⟩
  · obtain ⟨h, t, e, h1⟩ := digs_head hb 14 n [] (by omega)
    exact ⟨h, t, e, fun _ => h1⟩
theorem lw3 {L : List Nat} (hL : ∀ d ∈ L, d < 10) (hl : L.length ≤ 100) (c0 c1 c2 c3 c5 c7 c8 c9 c10 c11 c12 c13 c14 : Cell) :
    LW3 [c0, c1, c2, c3, .val (lN L), c5, .un, c7, c8, c9, c10, c11, c12, c13, c14] = .ok (.nx [c0, c1, c2, c3, .val (lN L), .val (tN L), .un, c7, c8, c9, c10, c11, c12, c13, c14]) := by
  refine (setKF_val (d := tN L) (bmS1_ok (s := []) (x := .lst ((L.map sg).map fun c => D.str [c])) rfl (lEF_ok ?_) (joinDF_signs _ (by rw [List.length_map]; omega)))).trans rfl
  refine compFF_ok (ds := L.map iN) rfl (by rw [List.length_map]; omega) ?_
  have := loopCF_map (gd := gNF 6) (te := callEF strOf (aconsF (varF 6) anil)) (r := [c0, c1, c2, c3, .val (lN L), c5, .un, c7, c8, c9, c10, c11, c12, c13, c14]) (h := fun d => match d with | .int (.ofNat a) => .str [sg a] | d => d) (ds := L.map iN) fun d hd => by
    obtain ⟨a, ha, rfl⟩ := List.mem_map.mp hd
    exact ⟨_, rfl, callEF1_ok (x := iN a) rfl (strF (hL a ha))⟩
  refine Eq.trans this ?_
  rw [List.map_map, List.map_map]
  rfl
theorem part1 {P : Out → Prop} (k : ∀ c2 c3 c4 c5 c6 c7 : Cell, GoP P LWs8 [.un, .val .dice, c2, c3, c4, c5, c6, c7, .un, .un, .un, .un, .un, .un, .un]) : GoP P LWs1 [.un, .val .dice, .un, .un, .un, .un, .un, .un, .un, .un, .un, .un, .un, .un, .un] := by
  refine GoP.wrF (S := LW1) (K := LWs2) (Q := fun r2 => ∃ n b, n < 10000 ∧ 2 ≤ b ∧ b ≤ 10 ∧ r2 = [.un, .val .dice, .val (iN n), .val (iN b), .un, .un, .un, .un, .un, .un, .un, .un, .un, .un, .un]) ⟨fun n hn => fun j hj => ?_⟩ ?_
  · have e : iaddF 2 (Int.ofNat j) = Int.ofNat (2 + j) := rfl
    have hj : j < 9 := hj
    exact ⟨_, rfl, n, 2 + j, hn, by omega, by omega, rfl⟩
  rintro _ ⟨n, b, hn, hb, hb2, rfl⟩
  have hn2 : n < 2 ^ 14 := by omega
  have hd := digs_all hb 14 n [] hn2 (by simp)
  have hd10 := digs_10 hb hb2 hn2
  have hl := digs_15 (b := b) (n := n)
  have hv := digs_val hb 14 n [] hn2
  refine GoP.okF (S := LW2) (K := LWs3) (r2 := [.un, .val .dice, .val (iN n), .val (iN b), .val (lN (digs b 14 n [])), .un, .un, .un, .un, .un, .un, .un, .un, .un, .un]) (setKF_val (callEF2_ok rfl rfl (fig_eq hb hb2 hn2))) ?_
  refine GoP.okF (S := LW3) (K := LWs4) (lw3 hd10 (by omega) _ _ _ _ _ _ _ _ _ _ _ _ _) ?_
  refine GoP.okF (S := LW4) (K := LWs5) (r2 := [.un, .val .dice, .val (iN n), .val (iN b), .val (lN (digs b 14 n [])), .val (tN (digs b 14 n [])), .un, .un, .un, .un, .un, .un, .un, .un, .un]) ?_ ?_
  · refine (ifSF_false (orTF_ff (cmpTF_ok (callEF2_ok rfl rfl (pen_eq hb hb2 hn2)) rfl (neS _)) (orTF_ff (cmpTF_ok (callEF2_ok (x := tN (digs b 14 n [])) (d := iN n) rfl rfl ?_) rfl (neI n)) (cmpTF_ok (callEF2_ok rfl rfl (sumf_eq hb hb2 hn2)) (callEF1_ok rfl (sumD_lN _)) (neI _))))).trans rfl
    obtain ⟨h, t, e, h0⟩ := digs_form (n := n) hb
    rw [e] at hd hl hv ⊢
    simp at hl
    rw [read_eq hb hb2 (by omega) hd h0, hv]
    rfl
  refine GoP.okF (S := LW5) (K := LWs6) (r2 := [.un, .val .dice, .val (iN n), .val (iN b), .val (lN (digs b 14 n [])), .val (tN (digs b 14 n [])), .un, .val (iN 0), .un, .un, .un, .un, .un, .un, .un]) (setKF_val rfl) ?_
  obtain ⟨c6, hc6⟩ := back_loop hb2 (c0 := .un) (c1 := .val .dice) (c2 := .val (iN n)) (c4 := .val (lN (digs b 14 n []))) (c5 := .val (tN (digs b 14 n []))) (rest := [.un, .un, .un, .un, .un, .un, .un]) (digs b 14 n []).reverse 0 .un
  refine GoP.okF (S := LW6) (K := LWs7) ((forSF_ok (ds := (digs b 14 n []).reverse.map iN) ?_).trans hc6) ?_
  · show R.ok ((digs b 14 n []).map iN).reverse = _
    rw [List.map_reverse]
  refine GoP.okF (S := LW7) (K := LWs8) ((ifSF_false (cmpTF_ok (callEF2_ok rfl rfl (turn_eq hb hb2 hn2)) rfl (neI _))).trans rfl) ?_
  exact k _ _ _ _ _ _
end K08
set_option Elab.async false
set_option linter.all false
set_option maxRecDepth 100000
namespace K08
open DL
theorem rowB (c0 c2 c3 c4 c5 c6 c7 : Cell) : ckR (runAll [LW8, LW9, LW10, LW11, LW12, LW13] [c0, .val .dice, c2, c3, c4, c5, c6, c7, .un, .un, .un, .un, .un, .un, .un]) (fun _ => true) = true := by kernel_rfl
end K08
set_option Elab.async false
set_option linter.all false
set_option maxRecDepth 100000
namespace K08
open DL
def wS : Nat → List Nat → Nat
  | _, [] => 0
  | k, d :: ds => (k + 1) * d + wS (k + 1) ds
def sF : List Nat → Nat
  | [] => 0
  | d :: ds => (ds.length + 1) * d + sF ds
theorem wS_app : ∀ (A : List Nat) (k d : Nat), wS k (A ++ [d]) = wS k A + (k + A.length + 1) * d
  | [], k, d => by show (k + 1) * d + 0 = 0 + (k + 0 + 1) * d; simp
  | a :: A, k, d => by
    show (k + 1) * a + wS (k + 1) (A ++ [d]) = (k + 1) * a + wS (k + 1) A + (k + (A.length + 1) + 1) * d
    rw [wS_app A, show k + 1 + A.length + 1 = k + (A.length + 1) + 1 by omega]
    exact (Nat.add_assoc _ _ _).symm
theorem wS_rev : ∀ L : List Nat, wS 0 L.reverse = sF L
  | [] => rfl
  | d :: L => by
    rw [List.reverse_cons, wS_app, wS_rev L, List.length_reverse]
    show _ = (L.length + 1) * d + sF L
    rw [Nat.zero_add, Nat.add_comm]
theorem sF_snoc (M : List Nat) (c : Nat) : sF (M ++ [c]) = c + wS 1 M.reverse := by
  rw [← wS_rev, List.reverse_append]
  show (0 + 1) * c + wS (0 + 1) M.reverse = _
  rw [Nat.zero_add, Nat.one_mul]
theorem sF_mid (B : List Nat) : ∀ A : List Nat, ∃ K, ∀ f, sF (A ++ f :: B) = K + (B.length + 1) * f
  | [] => ⟨sF B, fun f => by show (B.length + 1) * f + sF B = _; rw [Nat.add_comm]⟩
  | a :: A => by
    obtain ⟨K, h⟩ := sF_mid B A
    refine ⟨((A ++ 0 :: B).length + 1) * a + K, fun f => ?_⟩
    show ((A ++ f :: B).length + 1) * a + sF (A ++ f :: B) = _
    rw [h f, show (A ++ f :: B).length = (A ++ 0 :: B).length by simp, Nat.add_assoc]
theorem sF_mid2 (A B : List Nat) : ∃ K, ∀ x y, sF (A ++ x :: y :: B) = K + (B.length + 1) * (x + y) + x := by
  induction A with
  | nil =>
    refine ⟨sF B, fun x y => ?_⟩
    show (B.length + 1 + 1) * x + ((B.length + 1) * y + sF B) = _
    rw [Nat.add_mul (B.length + 1) 1 x, Nat.mul_add (B.length + 1) x y]
    omega
  | cons a A ih =>
    obtain ⟨K, h⟩ := ih
    refine ⟨((A ++ 0 :: 0 :: B).length + 1) * a + K, fun x y => ?_⟩
    show ((A ++ x :: y :: B).length + 1) * a + sF (A ++ x :: y :: B) = _
    rw [h x y, show (A ++ x :: y :: B).length = (A ++ 0 :: 0 :: B).length by simp]
    omega
def ck (W : Nat) : Nat := (11 - W % 11) % 11
theorem ck_lt (W : Nat) : ck W < 11 := by unfold ck; omega
theorem ck_iff {W c : Nat} (h : c < 11) : ck W = c ↔ (c + W) % 11 = 0 := by unfold ck; omega
theorem mod_w {K w d f : Nat} (hw : 0 < w) (hw2 : w < 11) (hd : d < 11) (hf : f < 11) (h : (K + w * d) % 11 = 0) : (K + w * f) % 11 = 0 ↔ f = d := by
  constructor
  · intro h2
    have : w = 1 ∨ w = 2 ∨ w = 3 ∨ w = 4 ∨ w = 5 ∨ w = 6 ∨ w = 7 ∨ w = 8 ∨ w = 9 ∨ w = 10 := by omega
    rcases this with rfl | rfl | rfl | rfl | rfl | rfl | rfl | rfl | rfl | rfl <;> omega
  · rintro rfl
    exact h
theorem slI_eq {s : List Nat} (hl : s.length ≤ 1000) (lo hi : Option Int) : slIF (.str s) lo hi = .ok (.str (cutD s lo hi)) := by
  rw [← slI_f]
  show (if s.length ≤ 16777216 then R.ok (D.str (cutD s lo hi)) else R.stuck) = _
  rw [if_pos (by omega)]
theorem cut_to {s : List Nat} {k : Nat} : cutD s none (some (Int.ofNat k)) = s.take k := by
  unfold cutD
  rw [HT.sIx_none, show (some (Int.ofNat k) : Option Int) = some ((k : Nat) : Int) from rfl, HT.sIx_nat, List.drop_zero, Nat.sub_zero]
  by_cases h : k ≤ s.length
  · rw [Nat.min_eq_left h]
  · rw [Nat.min_eq_right (by omega), List.take_length, List.take_of_length_le (by omega)]
theorem cut_from {s : List Nat} {k : Nat} : cutD s (some (Int.ofNat k)) none = s.drop k := by
  unfold cutD
  rw [HT.sIx_none, show (some (Int.ofNat k) : Option Int) = some ((k : Nat) : Int) from rfl, HT.sIx_nat, List.take_of_length_le (by rw [List.length_drop]; omega)]
  by_cases h : k ≤ s.length
  · rw [Nat.min_eq_left h]
  · rw [Nat.min_eq_right (by omega), List.drop_length, List.drop_eq_nil_of_le (by omega)]
theorem cut_init {A : List Nat} {c : Nat} : cutD (A ++ [c]) none (some (-1)) = A := by
  unfold cutD
  have e : HT.sIx (A ++ [c]).length (A ++ [c]).length (some (-1)) = A.length := by
    show (if (-1 : Int) < 0 then ((-1 : Int) + ((A ++ [c]).length : Int)).toNat else min (-1 : Int).toNat (A ++ [c]).length) = _
    rw [if_pos (show (-1 : Int) < 0 by decide), List.length_append]
    simp
    try omega
  rw [e, HT.sIx_none, List.drop_zero, Nat.sub_zero, List.take_left']
  rfl
theorem signX_all : ((List.range 11).all fun d => okD (.str [sg d]) (subIF (.str [48, 49, 50, 51, 52, 53, 54, 55, 56, 57, 120]) (iN d))) = true := by kernel_rfl
theorem signX {d : Nat} (h : d < 11) : subIF (.str [48, 49, 50, 51, 52, 53, 54, 55, 56, 57, 120]) (iN d) = .ok (.str [sg d]) := okD_eq (all_of signX_all (List.mem_range.mpr h))
theorem idxX_all : ((List.range 11).all fun d => okD (iN d) (sidxDF (.str [48, 49, 50, 51, 52, 53, 54, 55, 56, 57, 120]) [.str [sg d]])) = true := by kernel_rfl
theorem idxX {d : Nat} (h : d < 11) : sidxDF (.str [48, 49, 50, 51, 52, 53, 54, 55, 56, 57, 120]) [.str [sg d]] = .ok (iN d) := okD_eq (all_of idxX_all (List.mem_range.mpr h))
theorem inF_all : ((List.range 10).all fun d => okD (.bl true) (inDF (.str [sg d]) d_FIGURES)) = true := by kernel_rfl
theorem inF {d : Nat} (h : d < 10) : inDF (.str [sg d]) d_FIGURES = .ok (.bl true) := okD_eq (all_of inF_all (List.mem_range.mpr h))
theorem ninF_all : ((List.range 10).all fun d => okD (.bl false) (notInDF (.str [sg d]) d_FIGURES)) = true := by kernel_rfl
theorem ninF {d : Nat} (h : d < 10) : notInDF (.str [sg d]) d_FIGURES = .ok (.bl false) := okD_eq (all_of ninF_all (List.mem_range.mpr h))
theorem enumL_cons (k : Nat) (d : D) (ds : List D) : enumL (Int.ofNat k) (d :: ds) = .tup [iN k, d] :: enumL (Int.ofNat (k + 1)) ds := by
  unfold enumL
  rw [List.mapIdx_cons]
  congr 1
  congr 1
  funext i d
  rw [show Int.ofNat k + ((i + 1 : Nat) : Int) = Int.ofNat (k + 1) + (i : Int) from by show (k : Int) + ((i + 1 : Nat) : Int) = ((k + 1 : Nat) : Int) + (i : Int); omega]
theorem chainTF_ok {f1 f2 f3 : LE → R D} {g g' : D → D → R D} {r : LE} {x y w : D} {b : Bool} (h1 : f1 r = .ok x) (h2 : f2 r = .ok y) (h3 : g x y = .ok (.bl true)) (h4 : f3 r = .ok w) (h5 : g' y w = .ok (.bl b)) : chainTF f1 f2 f3 g g' r = .ok b := by
  have : chainEF f1 f2 f3 g g' r = .ok (.bl b) := by
    unfold chainEF
    rw [h1, bdF_ok, h2, bdF_ok, h3, bdF_ok]
    show bdF (f3 r) _ = _
    rw [h4, bdF_ok]
    exact h5
  unfold chainTF
  rw [this, bdF_ok]
  rfl
theorem notTF_ok {f : LE → R Bool} {r : LE} {b : Bool} (h : f r = .ok b) : notTF f r = .ok (!b) := by
  show bdF (f r) _ = _
  rw [h, bdF_ok]
  cases b <;> rfl
theorem le_iN {a b : Nat} (h : a ≤ b) : leDF (iN a) (iN b) = .ok (.bl true) := by
  show R.ok (D.bl (Nat.ble a b)) = _
  rw [show Nat.ble a b = true from by rw [Nat.ble_eq]; exact h]
theorem lt_iN {a b : Nat} (h : a < b) : ltDF (iN a) (iN b) = .ok (.bl true) := by
  show R.ok (D.bl (Nat.ble (Nat.succ a) b)) = _
  rw [show Nat.ble (Nat.succ a) b = true from by rw [Nat.ble_eq]; exact h]
theorem nlt_iN {a b : Nat} (h : b ≤ a) : ltDF (iN a) (iN b) = .ok (.bl false) := by
  show R.ok (D.bl (Nat.ble (Nat.succ a) b)) = _
  rw [show Nat.ble (Nat.succ a) b = false from by rw [Bool.eq_false_iff]; intro z; rw [Nat.ble_eq] at z; omega]
theorem gt_iN {a b : Nat} (h : b < a) : gtDF (iN a) (iN b) = .ok (.bl true) := by
  show R.ok (D.bl (Nat.ble (Nat.succ b) a)) = _
  rw [show Nat.ble (Nat.succ b) a = true from by rw [Nat.ble_eq]; exact h]
theorem ck_int (W : Nat) : modDF (.int (isubF 0 (Int.ofNat W))) (.int 11) = .ok (iN (ck W)) := by
  rw [← modD_f, ← isub_f]
  show (if (0 : Int) < 11 then R.ok (D.int ((0 - Int.ofNat W) % 11)) else R.stuck) = _
  rw [if_pos (by decide)]
  congr 2
  show (0 - (W : Int)) % 11 = ((ck W : Nat) : Int)
  unfold ck
  omega
theorem chk_loop {x : Cell} : ∀ (M : List Nat) (k acc : Nat), (∀ d ∈ M, d < 10) → k + M.length ≤ 20 → acc + 300 * M.length < 100000 →
    sumGF (gTup_F 2 (gCons_F (gNF 2) (gCons_F (gNF 3) gNil_))) yesT (opEF mulDF (opEF addDF (varF 2) (cst (.int 2))) (bmSF sidxDF (cst d_FIGURES) (aconsF (varF 3) anil))) [x, .un, .un, .un]
      (enumL (Int.ofNat k) (M.map fun d => D.str [sg d])) (Int.ofNat acc) = .ok (Int.ofNat (acc + wS (k + 1) M))
  | [], k, acc, _, _, _ => rfl
  | d :: M, k, acc, h, hk, hb => by
    have hd := h d List.mem_cons_self
    simp at hk hb
    have hm : (k + 2) * d ≤ 22 * 10 := Nat.mul_le_mul (by omega) (by omega)
    rw [List.map_cons, enumL_cons, sumGF_nx (v := (k + 2) * d) (r' := [x, .un, .val (iN k), .val (.str [sg d])]) rfl (opEF_ok (x := iN (k + 2)) (y := iN d) (opEF_ok rfl rfl rfl) (bmS1_ok rfl rfl (idxF hd)) (mulN (by omega))) (by omega),
      chk_loop M (k + 1) (acc + (k + 2) * d) (fun e he => h e (List.mem_cons_of_mem _ he)) (by omega) (by omega)]
    show R.ok (Int.ofNat (acc + (k + 2) * d + wS (k + 1 + 1) M)) = R.ok (Int.ofNat (acc + ((k + 1 + 1) * d + wS (k + 1 + 1) M)))
    rw [Nat.add_assoc]
theorem chk_eq {M : List Nat} (hd : ∀ d ∈ M, d < 10) (hl : M.length ≤ 10) : D_check_flag_f [tN M] = .ok (.str [sg (ck (wS 1 M.reverse))]) := by
  refine runGF_ok rfl ?_
  show F_check_flag_f [.val (tN M), .un, .un, .un] = _
  unfold F_check_flag_f
  refine seq_go (r' := [.val (tN M), .val (iN (wS 1 M.reverse)), .un, .un]) (setKF_val ?_) ?_
  · show bdF (enumRE (varF 0) _) _ = _
    rw [show enumRE (varF 0) [.val (tN M), .un, .un, .un] = .ok (enumL (Int.ofNat 0) (M.reverse.map fun d => D.str [sg d])) from ?_, bdF_ok]
    · show bdF (sumGF _ _ _ [.val (tN M), .un, .un, .un] _ (Int.ofNat 0)) _ = _
      rw [chk_loop M.reverse 0 0 (fun d h => hd d (List.mem_reverse.mp h)) (by simp; omega) (by simp; omega), Nat.zero_add]
      rfl
    · show (if (M.map sg).length ≤ 16777216 then R.ok (enumL 0 ((M.map sg).reverse.map fun c => D.str [c])) else R.stuck) = _
      rw [if_pos (by rw [List.length_map]; omega), ← List.map_reverse, List.map_map]
      rfl
  exact retSF_ok (subEF_ok rfl (opEF_ok (opEF_ok rfl rfl rfl) rfl (ck_int _)) (signX (ck_lt _)))
theorem tN_snoc (M : List Nat) (c : Nat) : tN (M ++ [c]) = .str (M.map sg ++ [sg c]) := by
  unfold tN
  rw [List.map_append]
  rfl
theorem with_eq {M : List Nat} (hd : ∀ d ∈ M, d < 10) (h1 : 1 ≤ M.length) (hl : M.length ≤ 9) : D_with_check_f [tN M] = .ok (tN (M ++ [ck (wS 1 M.reverse)])) := by
  refine runGF_ok rfl ?_
  show F_with_check_f [.val (tN M), .un] = _
  unfold F_with_check_f
  have hlen : callEF lenXF (aconsF (varF 0) anil) [.val (tN M), .un] = .ok (iN M.length) := by
    rw [show M.length = (M.map sg).length by rw [List.length_map]]
    exact len_str rfl (by rw [List.length_map]; omega)
  refine seq_go (r' := [.val (tN M), .un]) ((ifSF_false (orTF_ff ?_ (valTF_ok (anyText_no (s := M.map sg) rfl fun c hc => ?_)))).trans rfl) ?_
  · exact notTF_ok (b := true) (chainTF_ok (x := iN 1) (w := iN 9) rfl hlen (le_iN h1) rfl (le_iN hl))
  · obtain ⟨d, hd1, rfl⟩ := List.mem_map.mp hc
    exact opEF_ok rfl rfl (ninF (hd d hd1))
  rw [tN_snoc]
  exact retSF_ok (opEF_ok rfl (callEF1_ok rfl (chk_eq hd (by omega))) (addS (by simp; omega)))
end K08
set_option Elab.async false
set_option linter.all false
set_option maxRecDepth 100000
namespace K08
open DL PySem L2 PySem.Spec PyProof.Rows
theorem sliceEF_ok {f : LE → R D} {l h : LE → R (Option Int)} {r : LE} {s : List Nat} {lo hi : Option Int} (h1 : f r = .ok (.str s)) (h2 : l r = .ok lo) (h3 : h r = .ok hi) (hl : s.length ≤ 1000) : sliceEF f l h r = .ok (.str (cutD s lo hi)) := by
  unfold sliceEF
  rw [h1, bdF_ok, h2, bdF_ok, h3, bdF_ok]
  exact slI_eq hl lo hi
theorem andVF_t {f g : LE → R D} {r : LE} (h1 : f r = .ok (.bl true)) : andVF f g r = g r := by
  unfold andVF
  rw [h1, bdF_ok]
  rfl
theorem sg_inj {a b : Nat} (ha : a < 11) (hb : b < 11) (h : sg a = sg b) : a = b := by
  unfold sg at h
  split at h <;> split at h <;> omega
theorem eq_sg {a b : Nat} (ha : a < 11) (hb : b < 11) : eqDF (.str [sg a]) (.str [sg b]) = .ok (.bl (decide (a = b))) := by
  show R.ok (D.bl (seqF [sg a] [sg b])) = _
  rw [← seq_f]
  congr 2
  rw [Bool.eq_iff_iff, beq_iff_eq, decide_eq_true_iff]
  constructor
  · intro h
    exact sg_inj ha hb (by simpa using h)
  · rintro rfl
    rfl
theorem at_last {A : List Nat} {c : Nat} (hl : A.length ≤ 900) : subIF (.str (A ++ [c])) (.int (-1)) = .ok (.str [c]) := by
  show bifF (okLenF (A ++ [c])) (okF (atF (A ++ [c]) (Int.negSucc 0)) fun c => D.str [c]) R.stuck = _
  rw [okLenF_of (by simp; omega), ← at_f]
  have : atI (A ++ [c]) (Int.negSucc 0) = some c := by
    unfold atI ixN
    rw [if_neg (by omega)]
    rw [if_pos (by simp; omega)]
    show (A ++ [c])[(Int.negSucc 0 + ((A ++ [c]).length : Int)).toNat]? = _
    rw [show (Int.negSucc 0 + ((A ++ [c]).length : Int)).toNat = A.length by simp; omega]
    simp
  rw [this]
  rfl
theorem isc_eq {M : List Nat} {c : Nat} (hd : ∀ d ∈ M, d < 10) (hc : c < 11) (h1 : 1 ≤ M.length) (hl : M.length ≤ 10) : D_is_checked_f [tN (M ++ [c])] = .ok (.bl (decide (sF (M ++ [c]) % 11 = 0))) := by
  refine runGF_ok rfl ?_
  rw [tN_snoc]
  show F_is_checked_f [.val (.str (M.map sg ++ [sg c])), .un] = _
  unfold F_is_checked_f
  have hz : (M.map sg ++ [sg c]).length = M.length + 1 := by simp
  have hsl : sliceEF (varF 0) noP (somePF (negE (cst (.int 1)))) [.val (.str (M.map sg ++ [sg c])), .un] = .ok (tN M) := by
    rw [sliceEF_ok (s := M.map sg ++ [sg c]) (lo := none) (hi := some (-1)) rfl rfl rfl (by rw [hz]; omega), cut_init]
    rfl
  refine retSF_ok ?_
  rw [andVF_t (opEF_ok (x := iN (M.length + 1)) (y := iN 1) ?_ rfl (gt_iN (by omega))), andVF_t (anyText_no (x := false) (s := M.map sg) hsl fun k hk => ?_)]
  · rw [opEF_ok (callEF1_ok hsl (chk_eq hd hl)) (subEF_ok rfl (y := .int (-1)) rfl (at_last (by simp; omega))) (eq_sg (ck_lt _) hc)]
    congr 3
    rw [sF_snoc, ← ck_iff hc]
  · obtain ⟨d, hd1, rfl⟩ := List.mem_map.mp hk
    exact opEF_ok rfl rfl (inF (hd d hd1))
  · rw [← hz]
    exact len_str rfl (by rw [hz]; omega)
theorem sum_range : ∀ L : List Nat, ((List.range L.length).map fun k => (L.length - k) * L.getD k 0).sum = sF L
  | [] => rfl
  | d :: L => by
    rw [List.length_cons, List.range_succ_eq_map, List.map_cons, List.sum_cons, List.map_map]
    show (L.length + 1 - 0) * d + _ = (L.length + 1) * d + sF L
    rw [← sum_range L, Nat.sub_zero]
    congr 2
    refine List.map_congr_left fun k _ => ?_
    show (L.length + 1 - (k + 1)) * (d :: L).getD (k + 1) 0 = _
    rw [Nat.add_sub_add_right]
    rfl
theorem sub_iN {a b : Nat} (h : b ≤ a) : subDF (iN a) (iN b) = .ok (iN (a - b)) := by
  show R.ok (D.int (subNF a b)) = _
  unfold subNF
  rw [show Nat.ble b a = true from by rw [Nat.ble_eq]; exact h]
  rfl
theorem rngN_map (n : Nat) : rngNF n 0 = (List.range n).map fun k => iN k := by
  rw [← rngN_f, ← rngL_f]
  unfold rangeL
  refine List.map_congr_left fun k _ => ?_
  show D.int (Int.ofNat 0 + (k : Int)) = D.int (k : Int)
  congr 1
  show (0 : Int) + (k : Int) = _
  omega
theorem rng1EF_ok {f : LE → R D} {r : LE} {n : Nat} (h : f r = .ok (iN n)) (hn : n ≤ 1000) : rng1EF (aconsF f anil) r = .ok ((List.range n).map fun k => iN k) := by
  show bdF (aconsF f anil r) rng1F = _
  rw [aconsF_ok h (xs := []) rfl, bdF_ok]
  show bifF (Nat.ble (Nat.succ n) 1073741824) (R.ok (rngNF n 0)) R.stuck = _
  rw [show Nat.ble (Nat.succ n) 1073741824 = true from by rw [Nat.ble_eq]; omega, rngN_map]
  rfl
theorem lsum_eq {L : List Nat} (hd : ∀ d ∈ L, d < 11) (hl : L.length ≤ 20) : D_law_sum_f [tN L] = .ok (iN (sF L)) := by
  refine runGF_ok rfl ?_
  show F_law_sum_f [.val (tN L), .un, .un] = _
  unfold F_law_sum_f
  have hz : (L.map sg).length = L.length := List.length_map _
  refine seq_go (r' := [.val (tN L), .val (iN L.length), .un]) (setKF_val ?_) ?_
  · rw [← hz]
    exact len_str rfl (by rw [hz]; omega)
  refine retSF_ok (callEF1_ok (x := lN ((List.range L.length).map fun k => (L.length - k) * L.getD k 0)) (lEF_ok (compFF_ok (rng1EF_ok (n := L.length) rfl (by omega)) (by simp; omega) ?_)) ?_)
  · have := loopCF_map (gd := gNF 2) (te := opEF mulDF (opEF subDF (varF 1) (varF 2)) (bmSF sidxDF (cst (.str [48, 49, 50, 51, 52, 53, 54, 55, 56, 57, 120])) (aconsF (subEF (varF 0) (varF 2)) anil))) (r := [.val (tN L), .val (iN L.length), .un])
      (h := fun x => match x with | .int (.ofNat k) => iN ((L.length - k) * L.getD k 0) | x => x) (ds := (List.range L.length).map fun k => iN k) fun x hx => by
        obtain ⟨k, hk, rfl⟩ := List.mem_map.mp hx
        have hk := List.mem_range.mp hk
        have hg : L.getD k 0 = L[k] := by simp [hk]
        have hm : L[k] ∈ L := List.getElem_mem hk
        refine ⟨[.val (tN L), .val (iN L.length), .val (iN k)], rfl, opEF_ok (opEF_ok rfl rfl (sub_iN (by omega))) (bmS1_ok rfl (subEF_ok rfl rfl (at_str (s := L.map sg) (c := sg L[k]) (by simp [hk]) (by rw [hz]; omega))) (idxX (hd _ hm))) ?_⟩
        show _ = R.ok (iN ((L.length - k) * L.getD k 0))
        rw [hg]
        exact mulN (by omega)
    refine Eq.trans this ?_
    rw [List.map_map, List.map_map]
    rfl
  · rw [sumD_lN, sum_range]
theorem exch_eq {A B : List Nat} {a b : Nat} (hl : A.length + B.length ≤ 100) : D_exchanged_f [tN (A ++ a :: b :: B), iN A.length] = .ok (tN (A ++ b :: a :: B)) := by
  refine runGF_ok rfl ?_
  show F_exchanged_f [.val (tN (A ++ a :: b :: B)), .val (iN A.length)] = _
  unfold F_exchanged_f
  have hm : (A ++ a :: b :: B).map sg = A.map sg ++ sg a :: sg b :: B.map sg := by simp
  have hz : (A.map sg ++ sg a :: sg b :: B.map sg).length = A.length + B.length + 2 := by simp; omega
  unfold tN
  rw [hm]
  have hlen : callEF lenXF (aconsF (varF 0) anil) [.val (.str (A.map sg ++ sg a :: sg b :: B.map sg)), .val (iN A.length)] = .ok (iN (A.length + B.length + 2)) := by
    rw [← hz]
    exact len_str rfl (by rw [hz]; omega)
  refine seq_go (r' := [.val (.str (A.map sg ++ sg a :: sg b :: B.map sg)), .val (iN A.length)]) ((ifSF_false (notTF_ok (b := true) (chainTF_ok (x := iN 0) (y := iN A.length) (w := iN (A.length + B.length + 1)) rfl rfl (le_iN (Nat.zero_le _)) (opEF_ok hlen rfl (sub_iN (b := 1) (by omega))) (lt_iN (by omega))))).trans rfl) ?_
  refine retSF_ok ?_
  have e1 : (A.map sg ++ sg a :: sg b :: B.map sg)[A.length + 1]? = some (sg b) := by
    rw [List.getElem?_append_right (by simp)]
    simp
  have e2 : (A.map sg ++ sg a :: sg b :: B.map sg)[A.length]? = some (sg a) := by
    rw [List.getElem?_append_right (by simp)]
    simp
  have e3 : (A.map sg ++ sg a :: sg b :: B.map sg).take A.length = A.map sg := by
    rw [List.take_left' (by simp)]
  have e4 : (A.map sg ++ sg a :: sg b :: B.map sg).drop (A.length + 2) = B.map sg := by
    rw [List.drop_append, List.drop_of_length_le (by simp)]
    simp
  rw [opEF_ok (opEF_ok (opEF_ok (sliceEF_ok (s := A.map sg ++ sg a :: sg b :: B.map sg) (lo := none) (hi := some (Int.ofNat A.length)) rfl rfl rfl (by rw [hz]; omega)) (subEF_ok rfl (opEF_ok rfl rfl addN) (at_str e1 (by rw [hz]; omega))) (addS ?_)) (subEF_ok rfl rfl (at_str e2 (by rw [hz]; omega))) (addS ?_)) (sliceEF_ok (s := A.map sg ++ sg a :: sg b :: B.map sg) (lo := some (Int.ofNat (A.length + 2))) (hi := none) rfl rfl rfl (by rw [hz]; omega)) (addS ?_)]
  · rw [cut_to, cut_from, e3, e4]
    congr 2
    simp
  all_goals (try rw [cut_to, e3]); (try rw [cut_from, e4]); simp; omega
end K08
set_option Elab.async false
set_option linter.all false
set_option maxRecDepth 100000
namespace K08
open DL PySem L2 PySem.Spec PyProof.Rows
theorem sg_63 (d : Nat) (h : d < 11) : sg d ≠ 63 := by unfold sg; split <;> omega
theorem cnt_63 : ∀ {A : List Nat}, (∀ d ∈ A, d < 11) → (A.map sg).count 63 = 0
  | [], _ => rfl
  | a :: A, h => by
    rw [List.map_cons, List.count_cons, cnt_63 fun d hd => h d (List.mem_cons_of_mem _ hd)]
    have : (sg a == 63) = false := by
      rw [beq_eq_false_iff_ne]
      exact sg_63 a (h a List.mem_cons_self)
    rw [this]
    rfl
theorem find_63 : ∀ {A : List Nat} (t : List Nat), (∀ d ∈ A, d < 11) → (A.map sg ++ 63 :: t).findIdx? (· == 63) = some A.length
  | [], t, _ => by simp [List.findIdx?_cons]
  | a :: A, t, h => by
    rw [List.map_cons, List.cons_append, List.findIdx?_cons]
    have : (sg a == 63) = false := by
      rw [beq_eq_false_iff_ne]
      exact sg_63 a (h a List.mem_cons_self)
    rw [this, find_63 t fun d hd => h d (List.mem_cons_of_mem _ hd)]
    rfl
theorem idx_63 {A : List Nat} {t : List Nat} (h : ∀ d ∈ A, d < 11) : sidxDF (.str (A.map sg ++ 63 :: t)) [.str [63]] = .ok (iN A.length) := by
  rw [← sidxD_f]
  show (match (A.map sg ++ 63 :: t).findIdx? (fun x => x == 63) with
    | some i => R.ok (D.int (i : Nat))
    | none => R.stuck) = _
  rw [find_63 t h]
  rfl
theorem countDF_63 {A B : List Nat} (hA : ∀ d ∈ A, d < 11) (hB : ∀ d ∈ B, d < 11) : countDF (.str (A.map sg ++ 63 :: B.map sg)) [.str [63]] = .ok (iN 1) := by
  show R.ok (D.int (.ofNat (cntF 63 (A.map sg ++ 63 :: B.map sg)))) = _
  rw [← cnt_f, List.count_append, cnt_63 hA, List.count_cons, cnt_63 hB]
  rfl
theorem one_of : ∀ N ∈ [10, 11], ∀ f0 ∈ List.range N, (List.range N).filter (fun f => decide (f = f0)) = [f0] := by decide
noncomputable def isB (d : D) : Bool := match D_is_checked_f [d] with
  | .ok (.bl b) => b
  | _ => false
theorem hid_eq {A B : List Nat} {N f0 : Nat} (hA : ∀ d ∈ A, d < 11) (hB : ∀ d ∈ B, d < 11) (hl : A.length + B.length ≤ 100) (h1 : 1 ≤ A.length + B.length) (hN : N = if B.length = 0 then 11 else 10) (hf : f0 < N)
    (g : ∀ f, f < N → D_is_checked_f [tN (A ++ f :: B)] = .ok (.bl (decide (f = f0)))) : D_hidden_figure_f [.str (A.map sg ++ 63 :: B.map sg)] = .ok (tN (A ++ f0 :: B)) := by
  refine runGF_ok rfl ?_
  show F_hidden_figure_f [.val (.str (A.map sg ++ 63 :: B.map sg)), .un, .un, .un, .un, .un, .un] = _
  unfold F_hidden_figure_f
  have hz : (A.map sg ++ 63 :: B.map sg).length = A.length + B.length + 1 := by simp; omega
  have hlen : ∀ rest : LE, callEF lenXF (aconsF (varF 0) anil) (.val (.str (A.map sg ++ 63 :: B.map sg)) :: rest) = .ok (iN (A.length + B.length + 1)) := fun rest => by
    rw [← hz]
    exact len_str rfl (by rw [hz]; omega)
  refine seq_go (r' := [.val (.str (A.map sg ++ 63 :: B.map sg)), .un, .un, .un, .un, .un, .un]) ((ifSF_false (orTF_ff (cmpTF_ok (bmS1_ok rfl rfl (countDF_63 hA hB)) rfl (neI 1)) (cmpTF_ok (x := iN (A.length + B.length + 1)) (y := iN 2) (hlen _) rfl (nlt_iN (by omega))))).trans rfl) ?_
  refine seq_go (r' := [.val (.str (A.map sg ++ 63 :: B.map sg)), .val (iN A.length), .un, .un, .un, .un, .un]) (setKF_val (bmS1_ok rfl rfl (idx_63 hA))) ?_
  refine seq_go (r' := [.val (.str (A.map sg ++ 63 :: B.map sg)), .val (iN A.length), .val (.str ((List.range N).map sg)), .un, .un, .un, .un]) (setKF_val ?_) ?_
  · have hs : opEF subDF (callEF lenXF (aconsF (varF 0) anil)) (cst (.int 1)) [.val (.str (A.map sg ++ 63 :: B.map sg)), .val (iN A.length), .un, .un, .un, .un, .un] = .ok (iN (A.length + B.length)) := opEF_ok (hlen _) rfl (sub_iN (b := 1) (by omega))
    by_cases hb : B.length = 0
    · rw [if_pos hb] at hN
      rw [iteEF_t (cmpTF_ok (b := true) rfl hs ?_), hN]
      · rfl
      · show R.ok (D.bl (Nat.beq A.length (A.length + B.length))) = _
        rw [hb, Nat.add_zero, Nat.beq_refl]
    · rw [if_neg hb] at hN
      rw [iteEF_f (cmpTF_ok (b := false) rfl hs ?_), hN]
      · rfl
      · show R.ok (D.bl (Nat.beq A.length (A.length + B.length))) = _
        rw [show Nat.beq A.length (A.length + B.length) = false from by rw [Bool.eq_false_iff]; intro z; have := Nat.eq_of_beq_eq_true z; omega]
  have hN2 : N ≤ 11 := by rw [hN]; split <;> omega
  have e3 : (A.map sg ++ 63 :: B.map sg).take A.length = A.map sg := by rw [List.take_left' (by simp)]
  have e4 : (A.map sg ++ 63 :: B.map sg).drop (A.length + 1) = B.map sg := by
    rw [List.drop_append, List.drop_of_length_le (by simp)]
    simp
  refine seq_go (r' := [.val (.str (A.map sg ++ 63 :: B.map sg)), .val (iN A.length), .val (.str ((List.range N).map sg)), .own (.lst ((List.range N).map fun f => tN (A ++ f :: B))), .un, .un, .un]) (setKF_own (compFF_ok (ds := signsF ((List.range N).map sg)) rfl ?_ ?_)) ?_
  · rw [← signs_f]; simp; omega
  · have := loopCF_map (gd := gNF 4) (te := opEF addDF (opEF addDF (sliceEF (varF 0) noP (somePF (varF 1))) (varF 4)) (sliceEF (varF 0) (somePF (opEF addDF (varF 1) (cst (.int 1)))) noP)) (r := [.val (.str (A.map sg ++ 63 :: B.map sg)), .val (iN A.length), .val (.str ((List.range N).map sg)), .un, .un, .un, .un])
      (h := fun d => match d with | .str s => .str (A.map sg ++ s ++ B.map sg) | d => d) (ds := signsF ((List.range N).map sg)) fun d hd => by
        obtain ⟨c, hc, rfl⟩ := signsF_mem hd
        refine ⟨[.val (.str (A.map sg ++ 63 :: B.map sg)), .val (iN A.length), .val (.str ((List.range N).map sg)), .un, .val (.str [c]), .un, .un], rfl, ?_⟩
        rw [opEF_ok (opEF_ok (sliceEF_ok (s := A.map sg ++ 63 :: B.map sg) (lo := none) (hi := some (Int.ofNat A.length)) rfl rfl rfl (by rw [hz]; omega)) rfl (addS (b := [c]) (by rw [cut_to, e3]; simp; omega))) (sliceEF_ok (s := A.map sg ++ 63 :: B.map sg) (lo := some (Int.ofNat (A.length + 1))) (hi := none) rfl rfl rfl (by rw [hz]; omega)) (addS (by rw [cut_to, e3, cut_from, e4]; simp; omega))]
        rw [cut_to, cut_from, e3, e4]
    refine Eq.trans this ?_
    rw [← signs_f, List.map_map, List.map_map]
    congr 1
    refine List.map_congr_left fun f hf => ?_
    show D.str (A.map sg ++ [sg f] ++ B.map sg) = tN (A ++ f :: B)
    unfold tN
    congr 1
    simp
  refine seq_go (r' := [.val (.str (A.map sg ++ 63 :: B.map sg)), .val (iN A.length), .val (.str ((List.range N).map sg)), .own (.lst ((List.range N).map fun f => tN (A ++ f :: B))), .un, .own (.lst [tN (A ++ f0 :: B)]), .un]) (setKF_own (compFF_ok (ds := (List.range N).map fun f => tN (A ++ f :: B)) rfl (by simp; omega) ?_)) ?_
  · have := loopCF_filter (gd := gNF 6) (tt := valTF (callEF D_is_checked_f (aconsF (varF 6) anil))) (te := varF 6) (r := [.val (.str (A.map sg ++ 63 :: B.map sg)), .val (iN A.length), .val (.str ((List.range N).map sg)), .own (.lst ((List.range N).map fun f => tN (A ++ f :: B))), .un, .un, .un])
      (p := isB) (h := id) (ds := (List.range N).map fun f => tN (A ++ f :: B)) fun d hd => by
        obtain ⟨f, hf, rfl⟩ := List.mem_map.mp hd
        have hf := List.mem_range.mp hf
        refine ⟨[.val (.str (A.map sg ++ 63 :: B.map sg)), .val (iN A.length), .val (.str ((List.range N).map sg)), .own (.lst ((List.range N).map fun f => tN (A ++ f :: B))), .un, .un, .val (tN (A ++ f :: B))], rfl, valTF_ok (callEF1_ok rfl ?_), rfl⟩
        unfold isB
        rw [g f hf]
    refine Eq.trans this ?_
    rw [List.map_id, List.filter_map]
    have : (List.range N).filter (isB ∘ fun f => tN (A ++ f :: B)) = (List.range N).filter (fun f => decide (f = f0)) := List.filter_congr fun f hf => by
      show isB (tN (A ++ f :: B)) = _
      unfold isB
      rw [g f (List.mem_range.mp hf)]
    rw [this, one_of N (by rw [hN]; split <;> simp) f0 (List.mem_range.mpr hf)]
    rfl
  refine seq_go (r' := [.val (.str (A.map sg ++ 63 :: B.map sg)), .val (iN A.length), .val (.str ((List.range N).map sg)), .own (.lst ((List.range N).map fun f => tN (A ++ f :: B))), .un, .own (.lst [tN (A ++ f0 :: B)]), .un]) ((ifSF_false (cmpTF_ok rfl rfl (neI 1))).trans rfl) ?_
  exact retSF_ok (subEF_ok rfl rfl rfl)
end K08
set_option Elab.async false
set_option linter.all false
set_option maxRecDepth 100000
namespace K08
open DL PySem L2 PySem.Spec PyProof.Rows
theorem Wr.onF {α : Type} {m : R α} {k : α → R Out} {r : LE} {Q : Out → Prop} (h : Wr m (fun a => Wr (k a) Q)) : Wr (DL.onF m r k) Q := ⟨by
  rw [← on_f]
  exact Wp_onS (h.h.mono (fun a ha => ha.h) fun _ z => z.elim)⟩
theorem Wr.par {i j : Nat} {f g : LE → R D} {r : LE} {P Q : D → Prop} (h1 : Wr (f r) P) (h2 : Wr (g r) Q) : Wr (parKF i j (valKF f) (valKF g) r) (fun o => ∃ r2, o = .nx r2 ∧ ∃ x y, P x ∧ Q y ∧ r2 = setF (setF r i (.val x)) j (.val y)) := by
  refine Wr.onF (Wr.bdF (h1.mono fun x hx => Wr.ok (Wr.onF (Wr.ok (Wr.onF (Wr.bdF (h2.mono fun y hy => Wr.ok (Wr.onF (Wr.ok (Wr.ok ⟨_, rfl, x, y, hx, hy, rfl⟩))))))))))
theorem roll_wr {f : LE → R D} {k : LE → R D} {r : LE} {n : Nat} (h1 : f r = .ok .dice) (h2 : k r = .ok (iN n)) (hn : 1 ≤ n) (hn2 : n < 1000000) : Wr (callEF rollDF (aconsF f (aconsF k anil)) r) (fun d => ∃ i, i < n ∧ d = iN i) := by
  show Wr (bdF (aconsF f (aconsF k anil) r) rollDF) _
  rw [aconsF_ok h1 (aconsF_ok h2 (xs := []) rfl), bdF_ok]
  rw [← rollD_f]
  show Wr (if 0 < (n : Int) ∧ (n : Int) < 1000000000 then R.roll (n : Int).toNat (fun i => R.ok (D.int (i : Nat))) else R.stuck) _
  rw [if_pos (by omega)]
  exact ⟨fun i hi => ⟨i, hi, rfl⟩⟩
theorem Wr.sub {f k : LE → R D} {r : LE} {x : D} {P Q : D → Prop} (h1 : f r = .ok x) (h2 : Wr (k r) P) (h3 : ∀ y, P y → Wr (subIF x y) Q) : Wr (subEF f k r) Q := by
  unfold subEF
  rw [h1, bdF_ok]
  exact Wr.bdF (h2.mono fun y hy => h3 y hy)
theorem Wr.rng1 {f : LE → R D} {r : LE} {P : Nat → Prop} (h : Wr (f r) (fun d => ∃ n, P n ∧ n ≤ 1000 ∧ d = iN n)) : Wr (rng1EF (aconsF f anil) r) (fun ds => P ds.length) := by
  refine Wr.bdF (Wr.bdF (h.mono fun d hd => ?_))
  obtain ⟨n, hp, hn, rfl⟩ := hd
  refine Wr.ok ?_
  show Wr (bifF (Nat.ble (Nat.succ n) 1073741824) (R.ok (rngNF n 0)) R.stuck) _
  rw [show Nat.ble (Nat.succ n) 1073741824 = true from by rw [Nat.ble_eq]; omega, rngN_map]
  exact Wr.ok (by simpa using hp)
theorem figs_of : ∀ {s : List Nat}, (∀ c ∈ s, c ∈ ([48, 49, 50, 51, 52, 53, 54, 55, 56, 57] : List Nat)) → ∃ M : List Nat, s = M.map sg ∧ ∀ d ∈ M, d < 10
  | [], _ => ⟨[], rfl, by simp⟩
  | c :: s, h => by
    obtain ⟨M, e, hM⟩ := figs_of fun x hx => h x (List.mem_cons_of_mem _ hx)
    have hc := h c List.mem_cons_self
    refine ⟨(c - 48) :: M, ?_, fun d hd => ?_⟩
    · rw [List.map_cons, ← e]
      congr 1
      simp only [List.mem_cons, List.not_mem_nil, or_false] at hc
      rcases hc with rfl | rfl | rfl | rfl | rfl | rfl | rfl | rfl | rfl | rfl <;> rfl
    · rcases List.mem_cons.mp hd with rfl | hd
      · simp only [List.mem_cons, List.not_mem_nil, or_false] at hc
        omega
      · exact hM d hd
theorem sg_mem {d : Nat} (h : d < 10) : sg d ∈ ([48, 49, 50, 51, 52, 53, 54, 55, 56, 57] : List Nat) := by
  unfold sg
  rw [if_pos h]
  simp only [List.mem_cons, List.not_mem_nil, or_false]
  omega
theorem plain_wr {rest : LE} : Wr (bmSF joinDF (cst (.str [])) (aconsF (lEF (compFF (rng1EF (aconsF (opEF addDF (cst (.int 1)) (callEF rollDF (aconsF (varF 0) (aconsF (cst (.int 9)) anil)))) anil)) (gNF 2) yesT (subEF (cst (.str [48, 49, 50, 51, 52, 53, 54, 55, 56, 57])) (callEF rollDF (aconsF (varF 0) (aconsF (cst (.int 10)) anil)))) [2])) anil) (.val .dice :: .un :: .un :: rest))
    (fun d => ∃ M : List Nat, 1 ≤ M.length ∧ M.length ≤ 9 ∧ (∀ d ∈ M, d < 10) ∧ d = tN M) := by
  refine (textF_wr (N := fun n => 1 ≤ n ∧ n ≤ 9) [48, 49, 50, 51, 52, 53, 54, 55, 56, 57] (fun n h => by omega) (Wr.rng1 (P := fun n => 1 ≤ n ∧ n ≤ 9) ?_) fun d => ⟨.val .dice :: .un :: .val d :: rest, rfl, Wr.sub rfl (roll_wr (n := 10) rfl rfl (by omega) (by omega)) ?_⟩).mono ?_
  · refine Wr.bdF (Wr.ok (Wr.bdF ((roll_wr (n := 9) rfl rfl (by omega) (by omega)).mono fun d hd => ?_)))
    obtain ⟨i, hi, rfl⟩ := hd
    exact Wr.ok ⟨1 + i, ⟨by omega, by omega⟩, by omega, rfl⟩
  · rintro y ⟨i, hi, rfl⟩
    exact Wr.eq (signF hi) ⟨_, sg_mem hi, rfl⟩
  · rintro d ⟨s, ⟨h1, h2⟩, h3, rfl⟩
    obtain ⟨M, rfl, hM⟩ := figs_of h3
    rw [List.length_map] at h1 h2
    exact ⟨M, h1, h2, hM, rfl⟩
/-- a checked row with one figure put in -/
theorem put_eq {A B : List Nat} {c d f : Nat} (hA : ∀ x ∈ A, x < 10) (hB : ∀ x ∈ B, x < 10) (hc : c < 11) (hd : d < 10) (hf : f < 10) (hl : A.length + B.length ≤ 8) (hs : sF (A ++ d :: (B ++ [c])) % 11 = 0) :
    D_is_checked_f [tN (A ++ f :: (B ++ [c]))] = .ok (.bl (decide (f = d))) := by
  have e : A ++ f :: (B ++ [c]) = (A ++ f :: B) ++ [c] := by simp
  rw [e, isc_eq (fun x hx => ?_) hc (by simp; omega) (by simp; omega), ← e]
  · congr 3
    obtain ⟨K, hK⟩ := sF_mid (B ++ [c]) A
    rw [hK] at hs ⊢
    exact propext (mod_w (by omega) (by simp; omega) (by omega) (by omega) hs)
  · rcases List.mem_append.mp hx with hx | hx
    · exact hA x hx
    · rcases List.mem_cons.mp hx with rfl | hx
      · exact hf
      · exact hB x hx
theorem last_eq {M : List Nat} {f : Nat} (hM : ∀ x ∈ M, x < 10) (h1 : 1 ≤ M.length) (hl : M.length ≤ 9) (hf : f < 11) : D_is_checked_f [tN (M ++ [f])] = .ok (.bl (decide (f = ck (wS 1 M.reverse)))) := by
  rw [isc_eq hM hf h1 (by omega)]
  congr 3
  rw [sF_snoc, ← ck_iff hf]
  exact propext eq_comm
theorem neB (b : Bool) : neDF (.bl b) (.bl b) = .ok (.bl false) := by cases b <;> rfl
theorem inBF_str {c : Nat} {s : List Nat} : notInDF (.str [c]) (.str s) = .ok (.bl (!(memSF c s))) := by
  show R.ok (D.bl (notF (memSF c s))) = _
  rw [← not_f]
end K08
set_option Elab.async false
set_option linter.all false
set_option maxRecDepth 100000
namespace K08
open DL PySem L2 PySem.Spec PyProof.Rows
theorem mem_split {L : List Nat} {p : Nat} (h : p < L.length) : ∃ A d B, L = A ++ d :: B ∧ A.length = p ∧ A.length + B.length + 1 = L.length := by
  refine ⟨L.take p, L[p], L.drop (p + 1), ?_, by simp; omega, by simp; omega⟩
  rw [← List.drop_eq_getElem_cons h, List.take_append_drop]
theorem tN_len {L : List Nat} : (L.map sg).length = L.length := List.length_map _
theorem tN_mid (A B : List Nat) (d : Nat) : (A ++ d :: B).map sg = A.map sg ++ sg d :: B.map sg := by simp
theorem cut_A {A B : List Nat} {x : Nat} : cutD (A.map sg ++ x :: B.map sg) none (some (Int.ofNat A.length)) = A.map sg := by
  rw [cut_to, List.take_left' (by simp)]
theorem cut_B {A B : List Nat} {x : Nat} : cutD (A.map sg ++ x :: B.map sg) (some (Int.ofNat (A.length + 1))) none = B.map sg := by
  rw [cut_from, List.drop_append, List.drop_of_length_le (by simp)]
  simp
theorem at_mid {A B : List Nat} {x : Nat} (h : A.length + B.length ≤ 100) : subIF (.str (A.map sg ++ x :: B.map sg)) (iN A.length) = .ok (.str [x]) := by
  refine at_str ?_ (by simp; omega)
  rw [List.getElem?_append_right (by simp)]
  simp
theorem last_of {L : List Nat} (h : 0 < L.length) : ∃ N z, L = N ++ [z] ∧ N.length + 1 = L.length := by
  obtain ⟨A, d, B, e, h1, h2⟩ := mem_split (L := L) (p := L.length - 1) (by omega)
  have : B.length = 0 := by omega
  have : B = [] := List.eq_nil_of_length_eq_zero this
  subst this
  exact ⟨A, d, e, by omega⟩
theorem not120 {N : List Nat} (h : ∀ x ∈ N, x < 11) (h2 : memSF 120 (N.map sg) = false) : ∀ x ∈ N, x < 10 := fun x hx => by
  rw [← memS_f] at h2
  have h3 : 120 ∉ N.map sg := of_decide_eq_false h2
  have := h x hx
  by_cases e : x = 10
  · subst e
    exact (h3 (List.mem_map.mpr ⟨10, hx, rfl⟩)).elim
  · omega
theorem cross_b {A B : List Nat} {a b : Nat} (ha : a < 11) (hb : b < 11) (hs : sF (A ++ a :: b :: B) % 11 = 0) :
    eqDF (tN (A ++ b :: a :: B)) (tN (A ++ a :: b :: B)) = .ok (.bl (decide (sF (A ++ b :: a :: B) % 11 = 0))) := by
  show R.ok (D.bl (seqF ((A ++ b :: a :: B).map sg) ((A ++ a :: b :: B).map sg))) = _
  by_cases e : a = b
  · subst e
    rw [seqF_refl, hs]
    rfl
  · rw [← seq_f, show ((A ++ b :: a :: B).map sg == (A ++ a :: b :: B).map sg) = false from ?_, show decide (sF (A ++ b :: a :: B) % 11 = 0) = false from ?_]
    · rw [decide_eq_false_iff_not]
      obtain ⟨K, hK⟩ := sF_mid2 A B
      rw [hK] at hs ⊢
      rw [Nat.add_comm b a]
      generalize (B.length + 1) * (a + b) = w at hs
      omega
    · rw [beq_eq_false_iff_ne]
      intro z
      rw [tN_mid, tN_mid] at z
      have z2 := List.append_cancel_left z
      exact e (sg_inj ha hb (List.cons.inj z2).1.symm)
theorem part3 {P : Out → Prop} (k : ∀ c1 c3 c4 c5 c6 c7 c8 c9 : Cell, GoP P LRs13 [.val .dice, c1, .un, c3, c4, c5, c6, c7, c8, c9, .un, .un, .un, .un, .un, .un]) :
    GoP P LRs1 [.val .dice, .un, .un, .un, .un, .un, .un, .un, .un, .un, .un, .un, .un, .un, .un, .un] := by
  refine GoP.set (i := 1) (K := LRs2) (seqS_f ..).symm plain_wr ?_
  rintro _ ⟨M, h1, h9, hM, rfl⟩
  have hM11 : ∀ d ∈ M, d < 11 := fun d hd => by have := hM d hd; omega
  generalize hc : ck (wS 1 M.reverse) = c
  have hc11 : c < 11 := by rw [← hc]; exact ck_lt _
  have hs : sF (M ++ [c]) % 11 = 0 := by rw [sF_snoc]; exact (ck_iff hc11).mp hc
  have hL11 : ∀ d ∈ M ++ [c], d < 11 := fun d hd => by
    rcases List.mem_append.mp hd with hd | hd
    · exact hM11 d hd
    · rw [List.mem_singleton.mp hd]; exact hc11
  have hw := with_eq hM h1 h9
  rw [hc] at hw
  have hck := chk_eq hM (by omega : M.length ≤ 10)
  rw [hc] at hck
  have hlen : ∀ rest : LE, ∀ c0, callEF lenXF (aconsF (varF 1) anil) (c0 :: .val (tN M) :: rest) = .ok (iN M.length) := fun rest c0 => by
    rw [← tN_len (L := M)]
    exact len_str rfl (by rw [tN_len]; omega)
  refine GoP.okF (S := LR2) (K := LRs3) (r2 := [.val .dice, .val (tN M), .un, .val (tN (M ++ [c])), .un, .un, .un, .un, .un, .un, .un, .un, .un, .un, .un, .un]) (setKF_val (callEF1_ok rfl hw)) ?_
  have hisc := isc_eq hM hc11 h1 (by omega : M.length ≤ 10)
  rw [hs, show decide ((0 : Nat) = 0) = true from rfl] at hisc
  refine GoP.okF (S := LR3) (K := LRs4) (r2 := [.val .dice, .val (tN M), .un, .val (tN (M ++ [c])), .un, .un, .un, .un, .un, .un, .un, .un, .un, .un, .un, .un]) ((ifSF_false (orTF_ff (cmpTF_ok (x := tN M) (sliceEF_ok (s := M.map sg ++ [sg c]) (lo := none) (hi := some (Int.ofNat M.length)) (by rw [← tN_snoc]; rfl) rfl ?_ (by simp; omega) |>.trans ?_) rfl (neS _)) (orTF_ff (cmpTF_ok (x := iN 0) (y := iN 0) (opEF_ok (callEF1_ok rfl (lsum_eq hL11 (by simp; omega))) rfl ((modN (b := 11) (by omega)).trans (by rw [hs]))) rfl (neI 0)) (notTF_ok (b := true) (valTF_ok (callEF1_ok rfl hisc)))))).trans rfl) ?_
  · show bdF (callEF _ _ _) _ = _
    rw [hlen, bdF_ok]
  · rw [cut_to, List.take_left' (by simp)]
    rfl
  refine GoP.okF (S := LR4) (K := LRs5) (r2 := [.val .dice, .val (tN M), .un, .val (tN (M ++ [c])), .un, .un, .un, .un, .un, .un, .un, .un, .un, .un, .un, .un]) ((ifSF_false (cmpTF_ok (callEF1_ok rfl hck) (subEF_ok (x := .str (M.map sg ++ sg c :: ([] : List Nat).map sg)) (by show R.ok (tN (M ++ [c])) = _; rw [tN_snoc]; rfl) (hlen _ _) (at_mid (by simp; omega))) (neS _))).trans rfl) ?_
  refine GoP.wrF (S := LR5) (K := LRs6) (Wr.par (roll_wr (n := M.length) rfl (hlen _ _) h1 (by omega)) (Wr.sub (Q := fun d => ∃ f, f < 10 ∧ d = .str [sg f]) rfl (roll_wr (n := 10) rfl rfl (by omega) (by omega)) ?_)) ?_
  · rintro y ⟨i, hi, rfl⟩
    exact Wr.eq (signF hi) ⟨i, hi, rfl⟩
  rintro _ ⟨_, _, ⟨p, hp, rfl⟩, ⟨f, hf, rfl⟩, rfl⟩
  obtain ⟨A, d, B, rfl, rfl, hAB⟩ := mem_split hp
  have hA : ∀ x ∈ A, x < 10 := fun x hx => hM x (by simp [hx])
  have hB : ∀ x ∈ B, x < 10 := fun x hx => hM x (by simp [hx])
  have hd : d < 10 := hM d (by simp)
  have eL : (A ++ d :: B) ++ [c] = A ++ d :: (B ++ [c]) := by simp
  rw [eL] at hs hL11 hisc ⊢
  have hAl : A.length + B.length ≤ 8 := by omega
  have hput := fun (f : Nat) (hf : f < 10) => put_eq hA hB hc11 hd hf hAl hs
  refine GoP.okF (S := LR6) (K := LRs7) (r2 := [.val .dice, .val (tN (A ++ d :: B)), .un, .val (tN (A ++ d :: (B ++ [c]))), .val (iN A.length), .val (.str [sg f]), .val (tN (A ++ f :: (B ++ [c]))), .un, .un, .un, .un, .un, .un, .un, .un, .un]) (setKF_val ?_) ?_
  · rw [opEF_ok (opEF_ok (sliceEF_ok (s := A.map sg ++ sg d :: (B ++ [c]).map sg) (lo := none) (hi := some (Int.ofNat A.length)) (by rw [← tN_mid]; rfl) rfl rfl (by simp; omega)) rfl (addS (b := [sg f]) (by rw [cut_A]; simp; omega))) (sliceEF_ok (s := A.map sg ++ sg d :: (B ++ [c]).map sg) (lo := some (Int.ofNat (A.length + 1))) (hi := none) (by rw [← tN_mid]; rfl) rfl rfl (by simp; omega)) (addS (by rw [cut_A, cut_B]; simp; omega)), cut_A, cut_B]
    unfold tN
    rw [tN_mid]
    simp
  refine GoP.okF (S := LR7) (K := LRs8) (r2 := [.val .dice, .val (tN (A ++ d :: B)), .un, .val (tN (A ++ d :: (B ++ [c]))), .val (iN A.length), .val (.str [sg f]), .val (tN (A ++ f :: (B ++ [c]))), .un, .un, .un, .un, .un, .un, .un, .un, .un]) ((ifSF_false (cmpTF_ok (callEF1_ok rfl (hput f hf)) (opEF_ok rfl (subEF_ok (x := .str (A.map sg ++ sg d :: (B ++ [c]).map sg)) (by rw [← tN_mid]; rfl) rfl (at_mid (by simp; omega))) (eq_sg (by omega) (by omega))) (neB _))).trans rfl) ?_
  refine GoP.set (i := 7) (K := LRs9) (seqS_f ..).symm (roll_wr (n := (A ++ d :: B).length) rfl (hlen _ _) h1 (by omega)) ?_
  rintro _ ⟨q, hq, rfl⟩
  obtain ⟨A2, a, R, e2, rfl, hR⟩ := mem_split (L := A ++ d :: (B ++ [c])) (p := q) (by simp at hq ⊢; omega)
  have hz : (A ++ d :: (B ++ [c])).length = A.length + B.length + 2 := by simp; omega
  have hz2 : (A ++ d :: B).length = A.length + B.length + 1 := by simp; omega
  rw [hz] at hR
  rw [hz2] at hq
  obtain ⟨b, B2, rfl⟩ : ∃ b B2, R = b :: B2 := by
    cases R with
    | nil => simp at hR; omega
    | cons b B2 => exact ⟨b, B2, rfl⟩
  simp at hR
  have hs2 := hs
  rw [e2] at hs2
  have ha11 : a < 11 := hL11 a (by rw [e2]; simp)
  have hb11 : b < 11 := hL11 b (by rw [e2]; simp)
  have hcr11 : ∀ x ∈ A2 ++ b :: a :: B2, x < 11 := fun x hx => hL11 x (by
    rw [e2]
    simp only [List.mem_append, List.mem_cons] at hx ⊢
    rcases hx with h | h | h | h
    · exact .inl h
    · exact .inr (.inr (.inl h))
    · exact .inr (.inl h)
    · exact .inr (.inr (.inr h)))
  refine GoP.okF (S := LR9) (K := LRs10) (r2 := [.val .dice, .val (tN (A ++ d :: B)), .un, .val (tN (A ++ d :: (B ++ [c]))), .val (iN A.length), .val (.str [sg f]), .val (tN (A ++ f :: (B ++ [c]))), .val (iN A2.length), .val (tN (A2 ++ b :: a :: B2)), .un, .un, .un, .un, .un, .un, .un]) (setKF_val (callEF2_ok (x := tN (A2 ++ a :: b :: B2)) (by rw [← e2]; rfl) rfl (exch_eq (by omega)))) ?_
  obtain ⟨N, z, e3, hN⟩ := last_of (L := A2 ++ b :: a :: B2) (by simp; omega)
  have hcz : (A2 ++ b :: a :: B2).length = A.length + B.length + 2 := by simp; omega
  rw [hcz] at hN
  have hNl : N.length = A.length + B.length + 1 := by omega
  refine GoP.okF (S := LR10) (K := LRs11) (r2 := [.val .dice, .val (tN (A ++ d :: B)), .un, .val (tN (A ++ d :: (B ++ [c]))), .val (iN A.length), .val (.str [sg f]), .val (tN (A ++ f :: (B ++ [c]))), .val (iN A2.length), .val (tN (A2 ++ b :: a :: B2)), .un, .un, .un, .un, .un, .un, .un]) ((ifSF_false (orTF_ff (cmpTF_ok (x := tN (A ++ d :: (B ++ [c]))) (callEF2_ok rfl rfl ((exch_eq (by omega)).trans (by rw [← e2]))) rfl (neS _)) ?_)).trans rfl) ?_
  · have hsl : sliceEF (varF 8) noP (somePF (callEF lenXF (aconsF (varF 1) anil))) [.val .dice, .val (tN (A ++ d :: B)), .un, .val (tN (A ++ d :: (B ++ [c]))), .val (iN A.length), .val (.str [sg f]), .val (tN (A ++ f :: (B ++ [c]))), .val (iN A2.length), .val (tN (A2 ++ b :: a :: B2)), .un, .un, .un, .un, .un, .un, .un] = .ok (tN N) := by
      rw [sliceEF_ok (s := N.map sg ++ [sg z]) (lo := none) (hi := some (Int.ofNat N.length)) (by rw [← tN_snoc, ← e3]; rfl) rfl (by
        show bdF (callEF _ _ _) _ = _
        rw [hlen, bdF_ok, hNl, hz2]) (by simp; omega), cut_to, List.take_left' (by simp)]
      rfl
    cases hm : memSF 120 (N.map sg) with
    | true => exact andTF_f (cmpTF_ok rfl hsl (inBF_str.trans (by rw [hm]; rfl)))
    | false =>
      refine andTF_t (cmpTF_ok rfl hsl (inBF_str.trans (by rw [hm]; rfl))) ?_
      have hN10 := not120 (fun x hx => hcr11 x (by rw [e3]; simp [hx])) hm
      have hi := isc_eq hN10 (hcr11 z (by rw [e3]; simp)) (by omega) (by omega)
      rw [← e3] at hi
      exact cmpTF_ok (callEF1_ok rfl hi) (opEF_ok rfl (y := tN (A2 ++ a :: b :: B2)) (by rw [← e2]; rfl) (cross_b ha11 hb11 hs2)) (neB _)
  refine GoP.okF (S := LR11) (K := LRs12) (r2 := [.val .dice, .val (tN (A ++ d :: B)), .un, .val (tN (A ++ d :: (B ++ [c]))), .val (iN A.length), .val (.str [sg f]), .val (tN (A ++ f :: (B ++ [c]))), .val (iN A2.length), .val (tN (A2 ++ b :: a :: B2)), .val (.str (A.map sg ++ 63 :: (B ++ [c]).map sg)), .un, .un, .un, .un, .un, .un]) (setKF_val ?_) ?_
  · rw [opEF_ok (opEF_ok (sliceEF_ok (s := A.map sg ++ sg d :: (B ++ [c]).map sg) (lo := none) (hi := some (Int.ofNat A.length)) (by rw [← tN_mid]; rfl) rfl rfl (by simp; omega)) (y := .str [63]) rfl (addS (b := [63]) (by rw [cut_A]; simp; omega))) (sliceEF_ok (s := A.map sg ++ sg d :: (B ++ [c]).map sg) (lo := some (Int.ofNat (A.length + 1))) (hi := none) (by rw [← tN_mid]; rfl) rfl rfl (by simp; omega)) (addS (by rw [cut_A, cut_B]; simp; omega)), cut_A, cut_B]
    simp
  have hA11 : ∀ x ∈ A, x < 11 := fun x hx => by have := hA x hx; omega
  have hBc11 : ∀ x ∈ B ++ [c], x < 11 := fun x hx => hL11 x (by simp at hx ⊢; rcases hx with h | h <;> simp [h])
  refine GoP.okF (S := LR12) (K := LRs13) (r2 := [.val .dice, .val (tN (A ++ d :: B)), .un, .val (tN (A ++ d :: (B ++ [c]))), .val (iN A.length), .val (.str [sg f]), .val (tN (A ++ f :: (B ++ [c]))), .val (iN A2.length), .val (tN (A2 ++ b :: a :: B2)), .val (.str (A.map sg ++ 63 :: (B ++ [c]).map sg)), .un, .un, .un, .un, .un, .un]) ((ifSF_false (orTF_ff (cmpTF_ok (callEF1_ok rfl (hid_eq (N := 10) (f0 := d) hA11 hBc11 (by simp; omega) (by simp; omega) (by simp) hd hput)) rfl (neS _)) (cmpTF_ok (x := tN (A ++ d :: (B ++ [c]))) (callEF1_ok (x := .str ((A ++ d :: B).map sg ++ 63 :: ([] : List Nat).map sg)) (opEF_ok rfl (y := .str [63]) rfl (addS (by simp; omega))) ((hid_eq (A := A ++ d :: B) (B := []) (N := 11) (f0 := c) hM11 (by simp) (by simp; omega) (by simp; omega) rfl hc11 fun f hf => ?_).trans (by rw [eL]))) rfl (neS _)))).trans rfl) ?_
  · rw [last_eq hM h1 h9 hf, hc]
  exact k _ _ _ _ _ _ _ _
end K08
set_option Elab.async false
set_option linter.all false
set_option maxRecDepth 100000
namespace K08
open DL PySem L2 PySem.Spec PyProof.Rows
theorem ups4 (c1 c3 c4 c5 c6 c7 c8 c9 : Cell) : ((List.range 5).all fun n => allT [0, 1, 2, 3, 4] n fun s => ckR (runAll [LR14, LR15] [.val .dice, c1, .un, c3, c4, c5, c6, c7, c8, c9, .val (.lst ((s).map iN)), .un, .un, .un, .un, .un]) (fun _ => true)) = true := by kernel_rfl
theorem ups5_0 (c1 c3 c4 c5 c6 c7 c8 c9 : Cell) : (allT [0, 1, 2, 3, 4] 4 fun s => ckR (runAll [LR14, LR15] [.val .dice, c1, .un, c3, c4, c5, c6, c7, c8, c9, .val (.lst ((0 :: s).map iN)), .un, .un, .un, .un, .un]) (fun _ => true)) = true := by kernel_rfl
theorem ups5_1 (c1 c3 c4 c5 c6 c7 c8 c9 : Cell) : (allT [0, 1, 2, 3, 4] 4 fun s => ckR (runAll [LR14, LR15] [.val .dice, c1, .un, c3, c4, c5, c6, c7, c8, c9, .val (.lst ((1 :: s).map iN)), .un, .un, .un, .un, .un]) (fun _ => true)) = true := by kernel_rfl
theorem ups5_2 (c1 c3 c4 c5 c6 c7 c8 c9 : Cell) : (allT [0, 1, 2, 3, 4] 4 fun s => ckR (runAll [LR14, LR15] [.val .dice, c1, .un, c3, c4, c5, c6, c7, c8, c9, .val (.lst ((2 :: s).map iN)), .un, .un, .un, .un, .un]) (fun _ => true)) = true := by kernel_rfl
theorem ups5_3 (c1 c3 c4 c5 c6 c7 c8 c9 : Cell) : (allT [0, 1, 2, 3, 4] 4 fun s => ckR (runAll [LR14, LR15] [.val .dice, c1, .un, c3, c4, c5, c6, c7, c8, c9, .val (.lst ((3 :: s).map iN)), .un, .un, .un, .un, .un]) (fun _ => true)) = true := by kernel_rfl
theorem ups5_4 (c1 c3 c4 c5 c6 c7 c8 c9 : Cell) : (allT [0, 1, 2, 3, 4] 4 fun s => ckR (runAll [LR14, LR15] [.val .dice, c1, .un, c3, c4, c5, c6, c7, c8, c9, .val (.lst ((4 :: s).map iN)), .un, .un, .un, .un, .un]) (fun _ => true)) = true := by kernel_rfl
theorem ups (c1 c3 c4 c5 c6 c7 c8 c9 : Cell) {s : List Nat} (hl : s.length ≤ 5) (hs : ∀ x ∈ s, x ∈ ([0, 1, 2, 3, 4] : List Nat)) : ckR (runAll [LR14, LR15] [.val .dice, c1, .un, c3, c4, c5, c6, c7, c8, c9, .val (.lst ((s).map iN)), .un, .un, .un, .un, .un]) (fun _ => true) = true := by
  by_cases h : s.length < 5
  · exact allT_at (List.all_eq_true.mp (ups4 c1 c3 c4 c5 c6 c7 c8 c9) s.length (List.mem_range.mpr h)) s rfl hs
  · match s, hl, h, hs with
    | c :: s, hl, h, hs =>
      have hc := hs c List.mem_cons_self
      have hs2 : ∀ x ∈ s, x ∈ ([0, 1, 2, 3, 4] : List Nat) := fun x hx => hs x (List.mem_cons_of_mem _ hx)
      have hl2 : s.length = 4 := by simp at hl h; omega
      simp only [List.mem_cons, List.not_mem_nil, or_false] at hc
      rcases hc with rfl | rfl | rfl | rfl | rfl
      · exact allT_at (ups5_0 c1 c3 c4 c5 c6 c7 c8 c9) s hl2 hs2
      · exact allT_at (ups5_1 c1 c3 c4 c5 c6 c7 c8 c9) s hl2 hs2
      · exact allT_at (ups5_2 c1 c3 c4 c5 c6 c7 c8 c9) s hl2 hs2
      · exact allT_at (ups5_3 c1 c3 c4 c5 c6 c7 c8 c9) s hl2 hs2
      · exact allT_at (ups5_4 c1 c3 c4 c5 c6 c7 c8 c9) s hl2 hs2
    | [], hl, h, hs => exact (h (by simp)).elim
theorem few_of : ∀ {ys : List D}, (∀ y ∈ ys, ∃ i, i < 5 ∧ y = iN i) → ∃ s : List Nat, ys = s.map iN ∧ ∀ x ∈ s, x ∈ ([0, 1, 2, 3, 4] : List Nat)
  | [], _ => ⟨[], rfl, by simp⟩
  | y :: ys, h => by
    obtain ⟨s, rfl, hs⟩ := few_of fun z hz => h z (List.mem_cons_of_mem _ hz)
    obtain ⟨i, hi, rfl⟩ := h y List.mem_cons_self
    refine ⟨i :: s, rfl, fun x hx => ?_⟩
    rcases List.mem_cons.mp hx with rfl | hx
    · simp only [List.mem_cons, List.not_mem_nil, or_false]; omega
    · exact hs x hx
theorem nums_wr {c1 c3 c4 c5 c6 c7 c8 c9 : Cell} : Wr ((lEF (compFF (rng1EF (aconsF (callEF rollDF (aconsF (varF 0) (aconsF (cst (.int 6)) anil))) anil)) (gNF 2) yesT (callEF rollDF (aconsF (varF 0) (aconsF (cst (.int 5)) anil))) [2])) [.val .dice, c1, .un, c3, c4, c5, c6, c7, c8, c9, .un, .un, .un, .un, .un, .un])
    (fun d => ∃ s : List Nat, s.length ≤ 5 ∧ (∀ x ∈ s, x ∈ ([0, 1, 2, 3, 4] : List Nat)) ∧ d = .lst (s.map iN)) := by
  refine Wr.bdF ((compFF_wr (N := fun n => n ≤ 5) (P := fun y => ∃ i, i < 5 ∧ y = iN i) ((Wr.rng1 (P := fun n => n ≤ 5) ?_).mono fun ds h => ⟨h, by omega⟩) fun d => ⟨[.val .dice, c1, .val d, c3, c4, c5, c6, c7, c8, c9, .un, .un, .un, .un, .un, .un], rfl, roll_wr (n := 5) rfl rfl (by omega) (by omega)⟩).mono fun ys h => ?_)
  · refine (roll_wr (n := 6) rfl rfl (by omega) (by omega)).mono fun d hd => ?_
    obtain ⟨i, hi, rfl⟩ := hd
    exact ⟨i, by omega, by omega, rfl⟩
  · obtain ⟨s, rfl, hs⟩ := few_of h.2
    have h1 := h.1
    rw [List.length_map] at h1
    exact Wr.ok ⟨s, h1, hs, rfl⟩
end K08
set_option Elab.async false
set_option linter.all false
set_option maxRecDepth 100000
namespace K08
open DL PySem L2 PySem.Spec PyProof.Rows
def ln (b m : Nat) : Nat := (digs b 14 m []).length
def costs (m : Nat) : List Nat := [ln 2 m * 2, ln 3 m * 3, ln 4 m * 4, ln 5 m * 5, ln 6 m * 6, ln 7 m * 7, ln 8 m * 8, ln 9 m * 9, ln 10 m * 10]
def tups (c : List Nat) : List D := (List.range 9).map fun i => .tup [iN (c.getD i 0), iN (i + 2)]
noncomputable def okC (c : List Nat) : Bool := match minLF [.lst (tups c)] with
  | .ok (.tup [_, .int (.ofNat b)]) => (match minLF [.lst (c.map iN)] with
    | .ok (.int (.ofNat v)) => (match idxLs (.lst (c.map iN)) [iN v] with
      | .ok (.int (.ofNat i)) => Nat.beq b (2 + i)
      | _ => false)
    | _ => false)
  | _ => false
theorem dlen {b : Nat} (hb : 2 ≤ b) : ∀ (k f m : Nat) (acc : List Nat), b ^ k ≤ m → m < b ^ (k + 1) → k ≤ f → (digs b f m acc).length = k + 1 + acc.length
  | 0, f, m, acc, h1, h2, hf => by
    rw [digs_lt (by simpa using h2)]
    simp; omega
  | k + 1, 0, m, acc, h1, h2, hf => by omega
  | k + 1, f + 1, m, acc, h1, h2, hf => by
    have hp : 0 < b ^ k := Nat.pow_pos (by omega)
    have hge : b ≤ m := Nat.le_trans (by rw [Nat.pow_succ]; exact Nat.le_mul_of_pos_left b hp) h1
    rw [digs_ge (by omega), dlen hb k f (m / b) _ ((Nat.le_div_iff_mul_le (by omega)).mpr (by rw [← Nat.pow_succ]; exact h1)) ((Nat.div_lt_iff_lt_mul (by omega)).mpr (by rw [← Nat.pow_succ]; exact h2)) (by omega)]
    simp; omega
theorem dlen0 {b m k : Nat} (hb : 2 ≤ b) (h1 : b ^ k ≤ m) (h2 : m < b ^ (k + 1)) (hk : k ≤ 14) : ln b m = k + 1 := by
  unfold ln
  rw [dlen hb k 14 m [] h1 h2 hk]
  rfl
theorem iv0 {m : Nat} (h1 : 1 ≤ m) (h2 : m < 2) : okC (costs m) = true := by
  unfold costs
  rw [dlen0 (b := 2) (k := 0) (by omega) (by omega) (by omega) (by omega), dlen0 (b := 3) (k := 0) (by omega) (by omega) (by omega) (by omega), dlen0 (b := 4) (k := 0) (by omega) (by omega) (by omega) (by omega), dlen0 (b := 5) (k := 0) (by omega) (by omega) (by omega) (by omega), dlen0 (b := 6) (k := 0) (by omega) (by omega) (by omega) (by omega), dlen0 (b := 7) (k := 0) (by omega) (by omega) (by omega) (by omega), dlen0 (b := 8) (k := 0) (by omega) (by omega) (by omega) (by omega), dlen0 (b := 9) (k := 0) (by omega) (by omega) (by omega) (by omega), dlen0 (b := 10) (k := 0) (by omega) (by omega) (by omega) (by omega)]
  kernel_rfl
theorem iv1 {m : Nat} (h1 : 2 ≤ m) (h2 : m < 3) : okC (costs m) = true := by
  unfold costs
  rw [dlen0 (b := 2) (k := 1) (by omega) (by omega) (by omega) (by omega), dlen0 (b := 3) (k := 0) (by omega) (by omega) (by omega) (by omega), dlen0 (b := 4) (k := 0) (by omega) (by omega) (by omega) (by omega), dlen0 (b := 5) (k := 0) (by omega) (by omega) (by omega) (by omega), dlen0 (b := 6) (k := 0) (by omega) (by omega) (by omega) (by omega), dlen0 (b := 7) (k := 0) (by omega) (by omega) (by omega) (by omega), dlen0 (b := 8) (k := 0) (by omega) (by omega) (by omega) (by omega), dlen0 (b := 9) (k := 0) (by omega) (by omega) (by omega) (by omega), dlen0 (b := 10) (k := 0) (by omega) (by omega) (by omega) (by omega)]
  kernel_rfl
theorem iv2 {m : Nat} (h1 : 3 ≤ m) (h2 : m < 4) : okC (costs m) = true := by
  unfold costs
  rw [dlen0 (b := 2) (k := 1) (by omega) (by omega) (by omega) (by omega), dlen0 (b := 3) (k := 1) (by omega) (by omega) (by omega) (by omega), dlen0 (b := 4) (k := 0) (by omega) (by omega) (by omega) (by omega), dlen0 (b := 5) (k := 0) (by omega) (by omega) (by omega) (by omega), dlen0 (b := 6) (k := 0) (by omega) (by omega) (by omega) (by omega), dlen0 (b := 7) (k := 0) (by omega) (by omega) (by omega) (by omega), dlen0 (b := 8) (k := 0) (by omega) (by omega) (by omega) (by omega), dlen0 (b := 9) (k := 0) (by omega) (by omega) (by omega) (by omega), dlen0 (b := 10) (k := 0) (by omega) (by omega) (by omega) (by omega)]
  kernel_rfl
theorem iv3 {m : Nat} (h1 : 4 ≤ m) (h2 : m < 5) : okC (costs m) = true := by
  unfold costs
  rw [dlen0 (b := 2) (k := 2) (by omega) (by omega) (by omega) (by omega), dlen0 (b := 3) (k := 1) (by omega) (by omega) (by omega) (by omega), dlen0 (b := 4) (k := 1) (by omega) (by omega) (by omega) (by omega), dlen0 (b := 5) (k := 0) (by omega) (by omega) (by omega) (by omega), dlen0 (b := 6) (k := 0) (by omega) (by omega) (by omega) (by omega), dlen0 (b := 7) (k := 0) (by omega) (by omega) (by omega) (by omega), dlen0 (b := 8) (k := 0) (by omega) (by omega) (by omega) (by omega), dlen0 (b := 9) (k := 0) (by omega) (by omega) (by omega) (by omega), dlen0 (b := 10) (k := 0) (by omega) (by omega) (by omega) (by omega)]
  kernel_rfl
theorem iv4 {m : Nat} (h1 : 5 ≤ m) (h2 : m < 6) : okC (costs m) = true := by
  unfold costs
  rw [dlen0 (b := 2) (k := 2) (by omega) (by omega) (by omega) (by omega), dlen0 (b := 3) (k := 1) (by omega) (by omega) (by omega) (by omega), dlen0 (b := 4) (k := 1) (by omega) (by omega) (by omega) (by omega), dlen0 (b := 5) (k := 1) (by omega) (by omega) (by omega) (by omega), dlen0 (b := 6) (k := 0) (by omega) (by omega) (by omega) (by omega), dlen0 (b := 7) (k := 0) (by omega) (by omega) (by omega) (by omega), dlen0 (b := 8) (k := 0) (by omega) (by omega) (by omega) (by omega), dlen0 (b := 9) (k := 0) (by omega) (by omega) (by omega) (by omega), dlen0 (b := 10) (k := 0) (by omega) (by omega) (by omega) (by omega)]
  kernel_rfl
theorem iv5 {m : Nat} (h1 : 6 ≤ m) (h2 : m < 7) : okC (costs m) = true := by
  unfold costs
  rw [dlen0 (b := 2) (k := 2) (by omega) (by omega) (by omega) (by omega), dlen0 (b := 3) (k := 1) (by omega) (by omega) (by omega) (by omega), dlen0 (b := 4) (k := 1) (by omega) (by omega) (by omega) (by omega), dlen0 (b := 5) (k := 1) (by omega) (by omega) (by omega) (by omega), dlen0 (b := 6) (k := 1) (by omega) (by omega) (by omega) (by omega), dlen0 (b := 7) (k := 0) (by omega) (by omega) (by omega) (by omega), dlen0 (b := 8) (k := 0) (by omega) (by omega) (by omega) (by omega), dlen0 (b := 9) (k := 0) (by omega) (by omega) (by omega) (by omega), dlen0 (b := 10) (k := 0) (by omega) (by omega) (by omega) (by omega)]
  kernel_rfl
theorem iv6 {m : Nat} (h1 : 7 ≤ m) (h2 : m < 8) : okC (costs m) = true := by
  unfold costs
  rw [dlen0 (b := 2) (k := 2) (by omega) (by omega) (by omega) (by omega), dlen0 (b := 3) (k := 1) (by omega) (by omega) (by omega) (by omega), dlen0 (b := 4) (k := 1) (by omega) (by omega) (by omega) (by omega), dlen0 (b := 5) (k := 1) (by omega) (by omega) (by omega) (by omega), dlen0 (b := 6) (k := 1) (by omega) (by omega) (by omega) (by omega), dlen0 (b := 7) (k := 1) (by omega) (by omega) (by omega) (by omega), dlen0 (b := 8) (k := 0) (by omega) (by omega) (by omega) (by omega), dlen0 (b := 9) (k := 0) (by omega) (by omega) (by omega) (by omega), dlen0 (b := 10) (k := 0) (by omega) (by omega) (by omega) (by omega)]
  kernel_rfl
theorem iv7 {m : Nat} (h1 : 8 ≤ m) (h2 : m < 9) : okC (costs m) = true := by
  unfold costs
  rw [dlen0 (b := 2) (k := 3) (by omega) (by omega) (by omega) (by omega), dlen0 (b := 3) (k := 1) (by omega) (by omega) (by omega) (by omega), dlen0 (b := 4) (k := 1) (by omega) (by omega) (by omega) (by omega), dlen0 (b := 5) (k := 1) (by omega) (by omega) (by omega) (by omega), dlen0 (b := 6) (k := 1) (by omega) (by omega) (by omega) (by omega), dlen0 (b := 7) (k := 1) (by omega) (by omega) (by omega) (by omega), dlen0 (b := 8) (k := 1) (by omega) (by omega) (by omega) (by omega), dlen0 (b := 9) (k := 0) (by omega) (by omega) (by omega) (by omega), dlen0 (b := 10) (k := 0) (by omega) (by omega) (by omega) (by omega)]
  kernel_rfl
theorem iv8 {m : Nat} (h1 : 9 ≤ m) (h2 : m < 10) : okC (costs m) = true := by
  unfold costs
  rw [dlen0 (b := 2) (k := 3) (by omega) (by omega) (by omega) (by omega), dlen0 (b := 3) (k := 2) (by omega) (by omega) (by omega) (by omega), dlen0 (b := 4) (k := 1) (by omega) (by omega) (by omega) (by omega), dlen0 (b := 5) (k := 1) (by omega) (by omega) (by omega) (by omega), dlen0 (b := 6) (k := 1) (by omega) (by omega) (by omega) (by omega), dlen0 (b := 7) (k := 1) (by omega) (by omega) (by omega) (by omega), dlen0 (b := 8) (k := 1) (by omega) (by omega) (by omega) (by omega), dlen0 (b := 9) (k := 1) (by omega) (by omega) (by omega) (by omega), dlen0 (b := 10) (k := 0) (by omega) (by omega) (by omega) (by omega)]
  kernel_rfl
theorem iv9 {m : Nat} (h1 : 10 ≤ m) (h2 : m < 16) : okC (costs m) = true := by
  unfold costs
  rw [dlen0 (b := 2) (k := 3) (by omega) (by omega) (by omega) (by omega), dlen0 (b := 3) (k := 2) (by omega) (by omega) (by omega) (by omega), dlen0 (b := 4) (k := 1) (by omega) (by omega) (by omega) (by omega), dlen0 (b := 5) (k := 1) (by omega) (by omega) (by omega) (by omega), dlen0 (b := 6) (k := 1) (by omega) (by omega) (by omega) (by omega), dlen0 (b := 7) (k := 1) (by omega) (by omega) (by omega) (by omega), dlen0 (b := 8) (k := 1) (by omega) (by omega) (by omega) (by omega), dlen0 (b := 9) (k := 1) (by omega) (by omega) (by omega) (by omega), dlen0 (b := 10) (k := 1) (by omega) (by omega) (by omega) (by omega)]
  kernel_rfl
theorem iv10 {m : Nat} (h1 : 16 ≤ m) (h2 : m < 25) : okC (costs m) = true := by
  unfold costs
  rw [dlen0 (b := 2) (k := 4) (by omega) (by omega) (by omega) (by omega), dlen0 (b := 3) (k := 2) (by omega) (by omega) (by omega) (by omega), dlen0 (b := 4) (k := 2) (by omega) (by omega) (by omega) (by omega), dlen0 (b := 5) (k := 1) (by omega) (by omega) (by omega) (by omega), dlen0 (b := 6) (k := 1) (by omega) (by omega) (by omega) (by omega), dlen0 (b := 7) (k := 1) (by omega) (by omega) (by omega) (by omega), dlen0 (b := 8) (k := 1) (by omega) (by omega) (by omega) (by omega), dlen0 (b := 9) (k := 1) (by omega) (by omega) (by omega) (by omega), dlen0 (b := 10) (k := 1) (by omega) (by omega) (by omega) (by omega)]
  kernel_rfl
theorem iv11 {m : Nat} (h1 : 25 ≤ m) (h2 : m < 27) : okC (costs m) = true := by
  unfold costs
  rw [dlen0 (b := 2) (k := 4) (by omega) (by omega) (by omega) (by omega), dlen0 (b := 3) (k := 2) (by omega) (by omega) (by omega) (by omega), dlen0 (b := 4) (k := 2) (by omega) (by omega) (by omega) (by omega), dlen0 (b := 5) (k := 2) (by omega) (by omega) (by omega) (by omega), dlen0 (b := 6) (k := 1) (by omega) (by omega) (by omega) (by omega), dlen0 (b := 7) (k := 1) (by omega) (by omega) (by omega) (by omega), dlen0 (b := 8) (k := 1) (by omega) (by omega) (by omega) (by omega), dlen0 (b := 9) (k := 1) (by omega) (by omega) (by omega) (by omega), dlen0 (b := 10) (k := 1) (by omega) (by omega) (by omega) (by omega)]
  kernel_rfl
theorem iv12 {m : Nat} (h1 : 27 ≤ m) (h2 : m < 32) : okC (costs m) = true := by
  unfold costs
  rw [dlen0 (b := 2) (k := 4) (by omega) (by omega) (by omega) (by omega), dlen0 (b := 3) (k := 3) (by omega) (by omega) (by omega) (by omega), dlen0 (b := 4) (k := 2) (by omega) (by omega) (by omega) (by omega), dlen0 (b := 5) (k := 2) (by omega) (by omega) (by omega) (by omega), dlen0 (b := 6) (k := 1) (by omega) (by omega) (by omega) (by omega), dlen0 (b := 7) (k := 1) (by omega) (by omega) (by omega) (by omega), dlen0 (b := 8) (k := 1) (by omega) (by omega) (by omega) (by omega), dlen0 (b := 9) (k := 1) (by omega) (by omega) (by omega) (by omega), dlen0 (b := 10) (k := 1) (by omega) (by omega) (by omega) (by omega)]
  kernel_rfl
theorem iv13 {m : Nat} (h1 : 32 ≤ m) (h2 : m < 36) : okC (costs m) = true := by
  unfold costs
  rw [dlen0 (b := 2) (k := 5) (by omega) (by omega) (by omega) (by omega), dlen0 (b := 3) (k := 3) (by omega) (by omega) (by omega) (by omega), dlen0 (b := 4) (k := 2) (by omega) (by omega) (by omega) (by omega), dlen0 (b := 5) (k := 2) (by omega) (by omega) (by omega) (by omega), dlen0 (b := 6) (k := 1) (by omega) (by omega) (by omega) (by omega), dlen0 (b := 7) (k := 1) (by omega) (by omega) (by omega) (by omega), dlen0 (b := 8) (k := 1) (by omega) (by omega) (by omega) (by omega), dlen0 (b := 9) (k := 1) (by omega) (by omega) (by omega) (by omega), dlen0 (b := 10) (k := 1) (by omega) (by omega) (by omega) (by omega)]
  kernel_rfl
theorem iv14 {m : Nat} (h1 : 36 ≤ m) (h2 : m < 49) : okC (costs m) = true := by
  unfold costs
  rw [dlen0 (b := 2) (k := 5) (by omega) (by omega) (by omega) (by omega), dlen0 (b := 3) (k := 3) (by omega) (by omega) (by omega) (by omega), dlen0 (b := 4) (k := 2) (by omega) (by omega) (by omega) (by omega), dlen0 (b := 5) (k := 2) (by omega) (by omega) (by omega) (by omega), dlen0 (b := 6) (k := 2) (by omega) (by omega) (by omega) (by omega), dlen0 (b := 7) (k := 1) (by omega) (by omega) (by omega) (by omega), dlen0 (b := 8) (k := 1) (by omega) (by omega) (by omega) (by omega), dlen0 (b := 9) (k := 1) (by omega) (by omega) (by omega) (by omega), dlen0 (b := 10) (k := 1) (by omega) (by omega) (by omega) (by omega)]
  kernel_rfl
theorem iv15 {m : Nat} (h1 : 49 ≤ m) (h2 : m < 64) : okC (costs m) = true := by
  unfold costs
  rw [dlen0 (b := 2) (k := 5) (by omega) (by omega) (by omega) (by omega), dlen0 (b := 3) (k := 3) (by omega) (by omega) (by omega) (by omega), dlen0 (b := 4) (k := 2) (by omega) (by omega) (by omega) (by omega), dlen0 (b := 5) (k := 2) (by omega) (by omega) (by omega) (by omega), dlen0 (b := 6) (k := 2) (by omega) (by omega) (by omega) (by omega), dlen0 (b := 7) (k := 2) (by omega) (by omega) (by omega) (by omega), dlen0 (b := 8) (k := 1) (by omega) (by omega) (by omega) (by omega), dlen0 (b := 9) (k := 1) (by omega) (by omega) (by omega) (by omega), dlen0 (b := 10) (k := 1) (by omega) (by omega) (by omega) (by omega)]
  kernel_rfl
theorem iv16 {m : Nat} (h1 : 64 ≤ m) (h2 : m < 81) : okC (costs m) = true := by
  unfold costs
  rw [dlen0 (b := 2) (k := 6) (by omega) (by omega) (by omega) (by omega), dlen0 (b := 3) (k := 3) (by omega) (by omega) (by omega) (by omega), dlen0 (b := 4) (k := 3) (by omega) (by omega) (by omega) (by omega), dlen0 (b := 5) (k := 2) (by omega) (by omega) (by omega) (by omega), dlen0 (b := 6) (k := 2) (by omega) (by omega) (by omega) (by omega), dlen0 (b := 7) (k := 2) (by omega) (by omega) (by omega) (by omega), dlen0 (b := 8) (k := 2) (by omega) (by omega) (by omega) (by omega), dlen0 (b := 9) (k := 1) (by omega) (by omega) (by omega) (by omega), dlen0 (b := 10) (k := 1) (by omega) (by omega) (by omega) (by omega)]
  kernel_rfl
theorem iv17 {m : Nat} (h1 : 81 ≤ m) (h2 : m < 100) : okC (costs m) = true := by
  unfold costs
  rw [dlen0 (b := 2) (k := 6) (by omega) (by omega) (by omega) (by omega), dlen0 (b := 3) (k := 4) (by omega) (by omega) (by omega) (by omega), dlen0 (b := 4) (k := 3) (by omega) (by omega) (by omega) (by omega), dlen0 (b := 5) (k := 2) (by omega) (by omega) (by omega) (by omega), dlen0 (b := 6) (k := 2) (by omega) (by omega) (by omega) (by omega), dlen0 (b := 7) (k := 2) (by omega) (by omega) (by omega) (by omega), dlen0 (b := 8) (k := 2) (by omega) (by omega) (by omega) (by omega), dlen0 (b := 9) (k := 2) (by omega) (by omega) (by omega) (by omega), dlen0 (b := 10) (k := 1) (by omega) (by omega) (by omega) (by omega)]
  kernel_rfl
theorem iv18 {m : Nat} (h1 : 100 ≤ m) (h2 : m < 125) : okC (costs m) = true := by
  unfold costs
  rw [dlen0 (b := 2) (k := 6) (by omega) (by omega) (by omega) (by omega), dlen0 (b := 3) (k := 4) (by omega) (by omega) (by omega) (by omega), dlen0 (b := 4) (k := 3) (by omega) (by omega) (by omega) (by omega), dlen0 (b := 5) (k := 2) (by omega) (by omega) (by omega) (by omega), dlen0 (b := 6) (k := 2) (by omega) (by omega) (by omega) (by omega), dlen0 (b := 7) (k := 2) (by omega) (by omega) (by omega) (by omega), dlen0 (b := 8) (k := 2) (by omega) (by omega) (by omega) (by omega), dlen0 (b := 9) (k := 2) (by omega) (by omega) (by omega) (by omega), dlen0 (b := 10) (k := 2) (by omega) (by omega) (by omega) (by omega)]
  kernel_rfl
theorem iv19 {m : Nat} (h1 : 125 ≤ m) (h2 : m < 128) : okC (costs m) = true := by
  unfold costs
  rw [dlen0 (b := 2) (k := 6) (by omega) (by omega) (by omega) (by omega), dlen0 (b := 3) (k := 4) (by omega) (by omega) (by omega) (by omega), dlen0 (b := 4) (k := 3) (by omega) (by omega) (by omega) (by omega), dlen0 (b := 5) (k := 3) (by omega) (by omega) (by omega) (by omega), dlen0 (b := 6) (k := 2) (by omega) (by omega) (by omega) (by omega), dlen0 (b := 7) (k := 2) (by omega) (by omega) (by omega) (by omega), dlen0 (b := 8) (k := 2) (by omega) (by omega) (by omega) (by omega), dlen0 (b := 9) (k := 2) (by omega) (by omega) (by omega) (by omega), dlen0 (b := 10) (k := 2) (by omega) (by omega) (by omega) (by omega)]
  kernel_rfl
theorem iv20 {m : Nat} (h1 : 128 ≤ m) (h2 : m < 216) : okC (costs m) = true := by
  unfold costs
  rw [dlen0 (b := 2) (k := 7) (by omega) (by omega) (by omega) (by omega), dlen0 (b := 3) (k := 4) (by omega) (by omega) (by omega) (by omega), dlen0 (b := 4) (k := 3) (by omega) (by omega) (by omega) (by omega), dlen0 (b := 5) (k := 3) (by omega) (by omega) (by omega) (by omega), dlen0 (b := 6) (k := 2) (by omega) (by omega) (by omega) (by omega), dlen0 (b := 7) (k := 2) (by omega) (by omega) (by omega) (by omega), dlen0 (b := 8) (k := 2) (by omega) (by omega) (by omega) (by omega), dlen0 (b := 9) (k := 2) (by omega) (by omega) (by omega) (by omega), dlen0 (b := 10) (k := 2) (by omega) (by omega) (by omega) (by omega)]
  kernel_rfl
theorem iv21 {m : Nat} (h1 : 216 ≤ m) (h2 : m < 243) : okC (costs m) = true := by
  unfold costs
  rw [dlen0 (b := 2) (k := 7) (by omega) (by omega) (by omega) (by omega), dlen0 (b := 3) (k := 4) (by omega) (by omega) (by omega) (by omega), dlen0 (b := 4) (k := 3) (by omega) (by omega) (by omega) (by omega), dlen0 (b := 5) (k := 3) (by omega) (by omega) (by omega) (by omega), dlen0 (b := 6) (k := 3) (by omega) (by omega) (by omega) (by omega), dlen0 (b := 7) (k := 2) (by omega) (by omega) (by omega) (by omega), dlen0 (b := 8) (k := 2) (by omega) (by omega) (by omega) (by omega), dlen0 (b := 9) (k := 2) (by omega) (by omega) (by omega) (by omega), dlen0 (b := 10) (k := 2) (by omega) (by omega) (by omega) (by omega)]
  kernel_rfl
theorem iv22 {m : Nat} (h1 : 243 ≤ m) (h2 : m < 256) : okC (costs m) = true := by
  unfold costs
  rw [dlen0 (b := 2) (k := 7) (by omega) (by omega) (by omega) (by omega), dlen0 (b := 3) (k := 5) (by omega) (by omega) (by omega) (by omega), dlen0 (b := 4) (k := 3) (by omega) (by omega) (by omega) (by omega), dlen0 (b := 5) (k := 3) (by omega) (by omega) (by omega) (by omega), dlen0 (b := 6) (k := 3) (by omega) (by omega) (by omega) (by omega), dlen0 (b := 7) (k := 2) (by omega) (by omega) (by omega) (by omega), dlen0 (b := 8) (k := 2) (by omega) (by omega) (by omega) (by omega), dlen0 (b := 9) (k := 2) (by omega) (by omega) (by omega) (by omega), dlen0 (b := 10) (k := 2) (by omega) (by omega) (by omega) (by omega)]
  kernel_rfl
theorem iv23 {m : Nat} (h1 : 256 ≤ m) (h2 : m < 343) : okC (costs m) = true := by
  unfold costs
  rw [dlen0 (b := 2) (k := 8) (by omega) (by omega) (by omega) (by omega), dlen0 (b := 3) (k := 5) (by omega) (by omega) (by omega) (by omega), dlen0 (b := 4) (k := 4) (by omega) (by omega) (by omega) (by omega), dlen0 (b := 5) (k := 3) (by omega) (by omega) (by omega) (by omega), dlen0 (b := 6) (k := 3) (by omega) (by omega) (by omega) (by omega), dlen0 (b := 7) (k := 2) (by omega) (by omega) (by omega) (by omega), dlen0 (b := 8) (k := 2) (by omega) (by omega) (by omega) (by omega), dlen0 (b := 9) (k := 2) (by omega) (by omega) (by omega) (by omega), dlen0 (b := 10) (k := 2) (by omega) (by omega) (by omega) (by omega)]
  kernel_rfl
theorem iv24 {m : Nat} (h1 : 343 ≤ m) (h2 : m < 512) : okC (costs m) = true := by
  unfold costs
  rw [dlen0 (b := 2) (k := 8) (by omega) (by omega) (by omega) (by omega), dlen0 (b := 3) (k := 5) (by omega) (by omega) (by omega) (by omega), dlen0 (b := 4) (k := 4) (by omega) (by omega) (by omega) (by omega), dlen0 (b := 5) (k := 3) (by omega) (by omega) (by omega) (by omega), dlen0 (b := 6) (k := 3) (by omega) (by omega) (by omega) (by omega), dlen0 (b := 7) (k := 3) (by omega) (by omega) (by omega) (by omega), dlen0 (b := 8) (k := 2) (by omega) (by omega) (by omega) (by omega), dlen0 (b := 9) (k := 2) (by omega) (by omega) (by omega) (by omega), dlen0 (b := 10) (k := 2) (by omega) (by omega) (by omega) (by omega)]
  kernel_rfl
theorem iv25 {m : Nat} (h1 : 512 ≤ m) (h2 : m < 625) : okC (costs m) = true := by
  unfold costs
  rw [dlen0 (b := 2) (k := 9) (by omega) (by omega) (by omega) (by omega), dlen0 (b := 3) (k := 5) (by omega) (by omega) (by omega) (by omega), dlen0 (b := 4) (k := 4) (by omega) (by omega) (by omega) (by omega), dlen0 (b := 5) (k := 3) (by omega) (by omega) (by omega) (by omega), dlen0 (b := 6) (k := 3) (by omega) (by omega) (by omega) (by omega), dlen0 (b := 7) (k := 3) (by omega) (by omega) (by omega) (by omega), dlen0 (b := 8) (k := 3) (by omega) (by omega) (by omega) (by omega), dlen0 (b := 9) (k := 2) (by omega) (by omega) (by omega) (by omega), dlen0 (b := 10) (k := 2) (by omega) (by omega) (by omega) (by omega)]
  kernel_rfl
theorem iv26 {m : Nat} (h1 : 625 ≤ m) (h2 : m < 729) : okC (costs m) = true := by
  unfold costs
  rw [dlen0 (b := 2) (k := 9) (by omega) (by omega) (by omega) (by omega), dlen0 (b := 3) (k := 5) (by omega) (by omega) (by omega) (by omega), dlen0 (b := 4) (k := 4) (by omega) (by omega) (by omega) (by omega), dlen0 (b := 5) (k := 4) (by omega) (by omega) (by omega) (by omega), dlen0 (b := 6) (k := 3) (by omega) (by omega) (by omega) (by omega), dlen0 (b := 7) (k := 3) (by omega) (by omega) (by omega) (by omega), dlen0 (b := 8) (k := 3) (by omega) (by omega) (by omega) (by omega), dlen0 (b := 9) (k := 2) (by omega) (by omega) (by omega) (by omega), dlen0 (b := 10) (k := 2) (by omega) (by omega) (by omega) (by omega)]
  kernel_rfl
theorem iv27 {m : Nat} (h1 : 729 ≤ m) (h2 : m < 1000) : okC (costs m) = true := by
  unfold costs
  rw [dlen0 (b := 2) (k := 9) (by omega) (by omega) (by omega) (by omega), dlen0 (b := 3) (k := 6) (by omega) (by omega) (by omega) (by omega), dlen0 (b := 4) (k := 4) (by omega) (by omega) (by omega) (by omega), dlen0 (b := 5) (k := 4) (by omega) (by omega) (by omega) (by omega), dlen0 (b := 6) (k := 3) (by omega) (by omega) (by omega) (by omega), dlen0 (b := 7) (k := 3) (by omega) (by omega) (by omega) (by omega), dlen0 (b := 8) (k := 3) (by omega) (by omega) (by omega) (by omega), dlen0 (b := 9) (k := 3) (by omega) (by omega) (by omega) (by omega), dlen0 (b := 10) (k := 2) (by omega) (by omega) (by omega) (by omega)]
  kernel_rfl
theorem iv28 {m : Nat} (h1 : 1000 ≤ m) (h2 : m < 1024) : okC (costs m) = true := by
  unfold costs
  rw [dlen0 (b := 2) (k := 9) (by omega) (by omega) (by omega) (by omega), dlen0 (b := 3) (k := 6) (by omega) (by omega) (by omega) (by omega), dlen0 (b := 4) (k := 4) (by omega) (by omega) (by omega) (by omega), dlen0 (b := 5) (k := 4) (by omega) (by omega) (by omega) (by omega), dlen0 (b := 6) (k := 3) (by omega) (by omega) (by omega) (by omega), dlen0 (b := 7) (k := 3) (by omega) (by omega) (by omega) (by omega), dlen0 (b := 8) (k := 3) (by omega) (by omega) (by omega) (by omega), dlen0 (b := 9) (k := 3) (by omega) (by omega) (by omega) (by omega), dlen0 (b := 10) (k := 3) (by omega) (by omega) (by omega) (by omega)]
  kernel_rfl
theorem iv29 {m : Nat} (h1 : 1024 ≤ m) (h2 : m < 1296) : okC (costs m) = true := by
  unfold costs
  rw [dlen0 (b := 2) (k := 10) (by omega) (by omega) (by omega) (by omega), dlen0 (b := 3) (k := 6) (by omega) (by omega) (by omega) (by omega), dlen0 (b := 4) (k := 5) (by omega) (by omega) (by omega) (by omega), dlen0 (b := 5) (k := 4) (by omega) (by omega) (by omega) (by omega), dlen0 (b := 6) (k := 3) (by omega) (by omega) (by omega) (by omega), dlen0 (b := 7) (k := 3) (by omega) (by omega) (by omega) (by omega), dlen0 (b := 8) (k := 3) (by omega) (by omega) (by omega) (by omega), dlen0 (b := 9) (k := 3) (by omega) (by omega) (by omega) (by omega), dlen0 (b := 10) (k := 3) (by omega) (by omega) (by omega) (by omega)]
  kernel_rfl
theorem iv30 {m : Nat} (h1 : 1296 ≤ m) (h2 : m < 2048) : okC (costs m) = true := by
  unfold costs
  rw [dlen0 (b := 2) (k := 10) (by omega) (by omega) (by omega) (by omega), dlen0 (b := 3) (k := 6) (by omega) (by omega) (by omega) (by omega), dlen0 (b := 4) (k := 5) (by omega) (by omega) (by omega) (by omega), dlen0 (b := 5) (k := 4) (by omega) (by omega) (by omega) (by omega), dlen0 (b := 6) (k := 4) (by omega) (by omega) (by omega) (by omega), dlen0 (b := 7) (k := 3) (by omega) (by omega) (by omega) (by omega), dlen0 (b := 8) (k := 3) (by omega) (by omega) (by omega) (by omega), dlen0 (b := 9) (k := 3) (by omega) (by omega) (by omega) (by omega), dlen0 (b := 10) (k := 3) (by omega) (by omega) (by omega) (by omega)]
  kernel_rfl
theorem iv31 {m : Nat} (h1 : 2048 ≤ m) (h2 : m < 2187) : okC (costs m) = true := by
  unfold costs
  rw [dlen0 (b := 2) (k := 11) (by omega) (by omega) (by omega) (by omega), dlen0 (b := 3) (k := 6) (by omega) (by omega) (by omega) (by omega), dlen0 (b := 4) (k := 5) (by omega) (by omega) (by omega) (by omega), dlen0 (b := 5) (k := 4) (by omega) (by omega) (by omega) (by omega), dlen0 (b := 6) (k := 4) (by omega) (by omega) (by omega) (by omega), dlen0 (b := 7) (k := 3) (by omega) (by omega) (by omega) (by omega), dlen0 (b := 8) (k := 3) (by omega) (by omega) (by omega) (by omega), dlen0 (b := 9) (k := 3) (by omega) (by omega) (by omega) (by omega), dlen0 (b := 10) (k := 3) (by omega) (by omega) (by omega) (by omega)]
  kernel_rfl
theorem iv32 {m : Nat} (h1 : 2187 ≤ m) (h2 : m < 2401) : okC (costs m) = true := by
  unfold costs
  rw [dlen0 (b := 2) (k := 11) (by omega) (by omega) (by omega) (by omega), dlen0 (b := 3) (k := 7) (by omega) (by omega) (by omega) (by omega), dlen0 (b := 4) (k := 5) (by omega) (by omega) (by omega) (by omega), dlen0 (b := 5) (k := 4) (by omega) (by omega) (by omega) (by omega), dlen0 (b := 6) (k := 4) (by omega) (by omega) (by omega) (by omega), dlen0 (b := 7) (k := 3) (by omega) (by omega) (by omega) (by omega), dlen0 (b := 8) (k := 3) (by omega) (by omega) (by omega) (by omega), dlen0 (b := 9) (k := 3) (by omega) (by omega) (by omega) (by omega), dlen0 (b := 10) (k := 3) (by omega) (by omega) (by omega) (by omega)]
  kernel_rfl
theorem iv33 {m : Nat} (h1 : 2401 ≤ m) (h2 : m < 3125) : okC (costs m) = true := by
  unfold costs
  rw [dlen0 (b := 2) (k := 11) (by omega) (by omega) (by omega) (by omega), dlen0 (b := 3) (k := 7) (by omega) (by omega) (by omega) (by omega), dlen0 (b := 4) (k := 5) (by omega) (by omega) (by omega) (by omega), dlen0 (b := 5) (k := 4) (by omega) (by omega) (by omega) (by omega), dlen0 (b := 6) (k := 4) (by omega) (by omega) (by omega) (by omega), dlen0 (b := 7) (k := 4) (by omega) (by omega) (by omega) (by omega), dlen0 (b := 8) (k := 3) (by omega) (by omega) (by omega) (by omega), dlen0 (b := 9) (k := 3) (by omega) (by omega) (by omega) (by omega), dlen0 (b := 10) (k := 3) (by omega) (by omega) (by omega) (by omega)]
  kernel_rfl
theorem iv34 {m : Nat} (h1 : 3125 ≤ m) (h2 : m < 4096) : okC (costs m) = true := by
  unfold costs
  rw [dlen0 (b := 2) (k := 11) (by omega) (by omega) (by omega) (by omega), dlen0 (b := 3) (k := 7) (by omega) (by omega) (by omega) (by omega), dlen0 (b := 4) (k := 5) (by omega) (by omega) (by omega) (by omega), dlen0 (b := 5) (k := 5) (by omega) (by omega) (by omega) (by omega), dlen0 (b := 6) (k := 4) (by omega) (by omega) (by omega) (by omega), dlen0 (b := 7) (k := 4) (by omega) (by omega) (by omega) (by omega), dlen0 (b := 8) (k := 3) (by omega) (by omega) (by omega) (by omega), dlen0 (b := 9) (k := 3) (by omega) (by omega) (by omega) (by omega), dlen0 (b := 10) (k := 3) (by omega) (by omega) (by omega) (by omega)]
  kernel_rfl
theorem iv35 {m : Nat} (h1 : 4096 ≤ m) (h2 : m < 6561) : okC (costs m) = true := by
  unfold costs
  rw [dlen0 (b := 2) (k := 12) (by omega) (by omega) (by omega) (by omega), dlen0 (b := 3) (k := 7) (by omega) (by omega) (by omega) (by omega), dlen0 (b := 4) (k := 6) (by omega) (by omega) (by omega) (by omega), dlen0 (b := 5) (k := 5) (by omega) (by omega) (by omega) (by omega), dlen0 (b := 6) (k := 4) (by omega) (by omega) (by omega) (by omega), dlen0 (b := 7) (k := 4) (by omega) (by omega) (by omega) (by omega), dlen0 (b := 8) (k := 4) (by omega) (by omega) (by omega) (by omega), dlen0 (b := 9) (k := 3) (by omega) (by omega) (by omega) (by omega), dlen0 (b := 10) (k := 3) (by omega) (by omega) (by omega) (by omega)]
  kernel_rfl
theorem iv36 {m : Nat} (h1 : 6561 ≤ m) (h2 : m < 7776) : okC (costs m) = true := by
  unfold costs
  rw [dlen0 (b := 2) (k := 12) (by omega) (by omega) (by omega) (by omega), dlen0 (b := 3) (k := 8) (by omega) (by omega) (by omega) (by omega), dlen0 (b := 4) (k := 6) (by omega) (by omega) (by omega) (by omega), dlen0 (b := 5) (k := 5) (by omega) (by omega) (by omega) (by omega), dlen0 (b := 6) (k := 4) (by omega) (by omega) (by omega) (by omega), dlen0 (b := 7) (k := 4) (by omega) (by omega) (by omega) (by omega), dlen0 (b := 8) (k := 4) (by omega) (by omega) (by omega) (by omega), dlen0 (b := 9) (k := 4) (by omega) (by omega) (by omega) (by omega), dlen0 (b := 10) (k := 3) (by omega) (by omega) (by omega) (by omega)]
  kernel_rfl
theorem iv37 {m : Nat} (h1 : 7776 ≤ m) (h2 : m < 8192) : okC (costs m) = true := by
  unfold costs
  rw [dlen0 (b := 2) (k := 12) (by omega) (by omega) (by omega) (by omega), dlen0 (b := 3) (k := 8) (by omega) (by omega) (by omega) (by omega), dlen0 (b := 4) (k := 6) (by omega) (by omega) (by omega) (by omega), dlen0 (b := 5) (k := 5) (by omega) (by omega) (by omega) (by omega), dlen0 (b := 6) (k := 5) (by omega) (by omega) (by omega) (by omega), dlen0 (b := 7) (k := 4) (by omega) (by omega) (by omega) (by omega), dlen0 (b := 8) (k := 4) (by omega) (by omega) (by omega) (by omega), dlen0 (b := 9) (k := 4) (by omega) (by omega) (by omega) (by omega), dlen0 (b := 10) (k := 3) (by omega) (by omega) (by omega) (by omega)]
  kernel_rfl
theorem iv38 {m : Nat} (h1 : 8192 ≤ m) (h2 : m < 10000) : okC (costs m) = true := by
  unfold costs
  rw [dlen0 (b := 2) (k := 13) (by omega) (by omega) (by omega) (by omega), dlen0 (b := 3) (k := 8) (by omega) (by omega) (by omega) (by omega), dlen0 (b := 4) (k := 6) (by omega) (by omega) (by omega) (by omega), dlen0 (b := 5) (k := 5) (by omega) (by omega) (by omega) (by omega), dlen0 (b := 6) (k := 5) (by omega) (by omega) (by omega) (by omega), dlen0 (b := 7) (k := 4) (by omega) (by omega) (by omega) (by omega), dlen0 (b := 8) (k := 4) (by omega) (by omega) (by omega) (by omega), dlen0 (b := 9) (k := 4) (by omega) (by omega) (by omega) (by omega), dlen0 (b := 10) (k := 3) (by omega) (by omega) (by omega) (by omega)]
  kernel_rfl
theorem iv_all {m : Nat} (h1 : 1 ≤ m) (h2 : m < 10000) : okC (costs m) = true :=
  if q : m < 125 then if q : m < 10 then if q : m < 5 then if q : m < 3 then if q : m < 2 then iv0 (by omega) (by omega) else iv1 (by omega) (by omega) else if q : m < 4 then iv2 (by omega) (by omega) else iv3 (by omega) (by omega) else if q : m < 7 then if q : m < 6 then iv4 (by omega) (by omega) else iv5 (by omega) (by omega) else if q : m < 8 then iv6 (by omega) (by omega) else if q : m < 9 then iv7 (by omega) (by omega) else iv8 (by omega) (by omega) else if q : m < 36 then if q : m < 25 then if q : m < 16 then iv9 (by omega) (by omega) else iv10 (by omega) (by omega) else if q : m < 27 then iv11 (by omega) (by omega) else if q : m < 32 then iv12 (by omega) (by omega) else iv13 (by omega) (by omega) else if q : m < 64 then if q : m < 49 then iv14 (by omega) (by omega) else iv15 (by omega) (by omega) else if q : m < 81 then iv16 (by omega) (by omega) else if q : m < 100 then iv17 (by omega) (by omega) else iv18 (by omega) (by omega) else if q : m < 1024 then if q : m < 343 then if q : m < 216 then if q : m < 128 then iv19 (by omega) (by omega) else iv20 (by omega) (by omega) else if q : m < 243 then iv21 (by omega) (by omega) else if q : m < 256 then iv22 (by omega) (by omega) else iv23 (by omega) (by omega) else if q : m < 625 then if q : m < 512 then iv24 (by omega) (by omega) else iv25 (by omega) (by omega) else if q : m < 729 then iv26 (by omega) (by omega) else if q : m < 1000 then iv27 (by omega) (by omega) else iv28 (by omega) (by omega) else if q : m < 3125 then if q : m < 2048 then if q : m < 1296 then iv29 (by omega) (by omega) else iv30 (by omega) (by omega) else if q : m < 2187 then iv31 (by omega) (by omega) else if q : m < 2401 then iv32 (by omega) (by omega) else iv33 (by omega) (by omega) else if q : m < 6561 then if q : m < 4096 then iv34 (by omega) (by omega) else iv35 (by omega) (by omega) else if q : m < 7776 then iv36 (by omega) (by omega) else if q : m < 8192 then iv37 (by omega) (by omega) else iv38 (by omega) (by omega)
end K08
set_option Elab.async false
set_option linter.all false
set_option maxRecDepth 100000
namespace K08
open DL PySem L2 PySem.Spec PyProof.Rows
theorem okC_of {c : List Nat} (h : okC c = true) : ∃ x b v i, minLF [.lst (tups c)] = .ok (.tup [x, iN b]) ∧ minLF [.lst (c.map iN)] = .ok (iN v) ∧ idxLs (.lst (c.map iN)) [iN v] = .ok (iN i) ∧ b = 2 + i := by
  unfold okC at h
  split at h
  case h_2 => cases h
  split at h
  case h_2 => cases h
  split at h
  case h_2 => cases h
  exact ⟨_, _, _, _, ‹_›, ‹_›, ‹_›, Nat.eq_of_beq_eq_true h⟩
theorem bmL1_ok {gg : D → List D → R D} {f k : LE → R D} {r : LE} {s : List D} {x d : D} (h1 : f r = .ok (.lst s)) (h2 : k r = .ok x) (h3 : gg (.lst s) [x] = .ok d) : bmLF gg f (aconsF k anil) r = .ok d := by
  unfold bmLF
  rw [h1, bdF_ok]
  show bdF (aconsF k anil r) _ = _
  rw [aconsF_ok h2 (xs := []) rfl]
  exact h3
theorem base_of {d : D} (h : d ∈ [iN 2, iN 3, iN 4, iN 5, iN 6, iN 7, iN 8, iN 9, iN 10]) : ∃ b, 2 ≤ b ∧ b ≤ 10 ∧ d = iN b := by
  simp only [List.mem_cons, List.not_mem_nil, or_false] at h
  rcases h with rfl | rfl | rfl | rfl | rfl | rfl | rfl | rfl | rfl
  · exact ⟨2, by omega, by omega, rfl⟩
  · exact ⟨3, by omega, by omega, rfl⟩
  · exact ⟨4, by omega, by omega, rfl⟩
  · exact ⟨5, by omega, by omega, rfl⟩
  · exact ⟨6, by omega, by omega, rfl⟩
  · exact ⟨7, by omega, by omega, rfl⟩
  · exact ⟨8, by omega, by omega, rfl⟩
  · exact ⟨9, by omega, by omega, rfl⟩
  · exact ⟨10, by omega, by omega, rfl⟩
theorem ln_le {b m : Nat} : ln b m ≤ 15 := digs_len 14 m []
theorem tupEF_ok {f k : LE → R D} {r : LE} {x y : D} (h1 : f r = .ok x) (h2 : k r = .ok y) : tupEF (aconsF f (aconsF k anil)) r = .ok (.tup [x, y]) := by
  unfold tupEF
  rw [aconsF_ok h1 (aconsF_ok h2 (xs := []) rfl), bdF_ok]
  rfl
theorem few_eq {m b : Nat} {x : D} (h1 : 1 ≤ m) (h2 : m < 2 ^ 14) (h : minLF [.lst (tups (costs m))] = .ok (.tup [x, iN b])) : D_fewest_pennants_f [iN m] = .ok (iN b) := by
  refine runGF_ok rfl ?_
  show F_fewest_pennants_f [.val (iN m), .un, .un] = _
  unfold F_fewest_pennants_f
  refine seq_go (r' := [.val (iN m), .un, .un]) ((ifSF_false (cmpTF_ok (x := iN m) (y := iN 1) rfl rfl (nlt_iN h1))).trans rfl) ?_
  refine seq_go (r' := [.val (iN m), .own (.lst (tups (costs m))), .un]) (setKF_own (compFF_ok (ds := [iN 2, iN 3, iN 4, iN 5, iN 6, iN 7, iN 8, iN 9, iN 10]) rfl (by simp) ?_)) ?_
  · have := loopCF_map (gd := gNF 2) (te := tupEF (aconsF (opEF mulDF (varF 2) (callEF lenXF (aconsF (callEF D_pennants_f (aconsF (varF 0) (aconsF (varF 2) anil))) anil))) (aconsF (varF 2) anil))) (r := [.val (iN m), .un, .un])
      (h := fun d => match d with | .int (.ofNat b) => .tup [iN (ln b m * b), iN b] | d => d) (ds := [iN 2, iN 3, iN 4, iN 5, iN 6, iN 7, iN 8, iN 9, iN 10]) fun d hd => by
        obtain ⟨b, hb, hb2, rfl⟩ := base_of hd
        have hln := ln_le (b := b) (m := m)
        refine ⟨[.val (iN m), .un, .val (iN b)], rfl, tupEF_ok (opEF_ok (x := iN b) (y := iN (ln b m)) rfl ?_ ((mulN (by omega)).trans (by rw [Nat.mul_comm]))) rfl⟩
        have := len_str (s := (digs b 14 m []).map sg) (callEF2_ok rfl rfl (pen_eq hb hb2 h2) : callEF D_pennants_f (aconsF (varF 0) (aconsF (varF 2) anil)) [.val (iN m), .un, .val (iN b)] = _) (by rw [tN_len]; exact Nat.le_trans ln_le (by omega))
        rw [this, tN_len]
        rfl
    exact this
  exact retSF_ok (subEF_ok (callEF1_ok (x := .lst (tups (costs m))) rfl h) rfl rfl)
theorem part4 {P : Out → Prop} (hP : P (.rt (.bl true))) (c1 c3 c4 c5 c6 c7 c8 c9 c10 c11 : Cell) : GoP P LRs16 [.val .dice, c1, .un, c3, c4, c5, c6, c7, c8, c9, c10, c11, .un, .un, .un, .un] := by
  refine GoP.set (i := 12) (K := LRs17) (Q := fun d => ∃ m, 1 ≤ m ∧ m < 10000 ∧ d = iN m) (seqS_f ..).symm ?_ ?_
  · refine Wr.bdF (Wr.ok (Wr.bdF ((roll_wr (n := 9999) rfl rfl (by omega) (by omega)).mono fun d hd => ?_)))
    obtain ⟨i, hi, rfl⟩ := hd
    exact Wr.ok ⟨1 + i, by omega, by omega, rfl⟩
  rintro _ ⟨m, h1, h2, rfl⟩
  have hm : m < 2 ^ 14 := by omega
  obtain ⟨x, b, v, i, g1, g2, g3, rfl⟩ := okC_of (iv_all h1 h2)
  refine GoP.okF (S := LR17) (K := LRs18) (r2 := [.val .dice, c1, .un, c3, c4, c5, c6, c7, c8, c9, c10, c11, .val (iN m), .own (.lst ((costs m).map iN)), .un, .un]) (setKF_own (compFF_ok (ds := [iN 2, iN 3, iN 4, iN 5, iN 6, iN 7, iN 8, iN 9, iN 10]) rfl (by simp) ?_)) ?_
  · have := loopCF_map (gd := gNF 14) (te := opEF mulDF (callEF lenXF (aconsF (callEF D_law_figures_f (aconsF (varF 12) (aconsF (varF 14) anil))) anil)) (varF 14)) (r := [.val .dice, c1, .un, c3, c4, c5, c6, c7, c8, c9, c10, c11, .val (iN m), .un, .un, .un])
      (h := fun d => match d with | .int (.ofNat b) => iN (ln b m * b) | d => d) (ds := [iN 2, iN 3, iN 4, iN 5, iN 6, iN 7, iN 8, iN 9, iN 10]) fun d hd => by
        obtain ⟨b, hb, hb2, rfl⟩ := base_of hd
        have hln := ln_le (b := b) (m := m)
        refine ⟨[.val .dice, c1, .un, c3, c4, c5, c6, c7, c8, c9, c10, c11, .val (iN m), .un, .val (iN b), .un], rfl, opEF_ok (x := iN (ln b m)) ?_ rfl (mulN (by omega))⟩
        have := len_lst (s := (digs b 14 m []).map iN) (callEF2_ok rfl rfl (fig_eq hb hb2 hm) : callEF D_law_figures_f (aconsF (varF 12) (aconsF (varF 14) anil)) [.val .dice, c1, .un, c3, c4, c5, c6, c7, c8, c9, c10, c11, .val (iN m), .un, .val (iN b), .un] = _)
        rw [this, List.length_map]
        rfl
    exact this
  refine GoP.okF (S := LR18) (K := LRs19) (r2 := [.val .dice, c1, .un, c3, c4, c5, c6, c7, c8, c9, c10, c11, .val (iN m), .own (.lst ((costs m).map iN)), .un, .un]) ((ifSF_false (cmpTF_ok (callEF1_ok rfl (few_eq h1 hm g1)) (opEF_ok (x := iN 2) rfl (bmL1_ok (s := (costs m).map iN) rfl (callEF1_ok (x := .lst ((costs m).map iN)) rfl g2) g3) addN) (neI _))).trans rfl) ?_
  refine GoP.okF (S := LR19) (K := LRs20) (r2 := [.val .dice, c1, .un, c3, c4, c5, c6, c7, c8, c9, c10, c11, .val (iN m), .own (.lst ((costs m).map iN)), .un, .val (.str [57, 120])]) (by kernel_rfl) ?_
  refine GoP.okF (S := LR20) (K := LRs21) (r2 := [.val .dice, c1, .un, c3, c4, c5, c6, c7, c8, c9, c10, c11, .val (iN m), .own (.lst ((costs m).map iN)), .un, .val (.str [57, 120])]) (by kernel_rfl) ?_
  exact ⟨hP⟩
theorem rest_wr : Wr (D_law_rest1_f [.dice]) (fun d => d = .bl true) := by
  refine runG_wp rfl ?_
  rw [F_law_rest1_f_split]
  refine GoP.h (part3 (P := fun o => ∃ d, o = .rt d ∧ d = .bl true) fun c1 c3 c4 c5 c6 c7 c8 c9 => ?_)
  refine GoP.set (i := 10) (K := LRs14) (seqS_f ..).symm nums_wr ?_
  rintro _ ⟨s, hl, hs, rfl⟩
  refine GoP.grpK [LR14, LR15] [11] (seqA_f _ _ _ _ (seqB_f ..)) (fun _ => true) (fun S hS => ?_) ⟨ups c1 c3 c4 c5 c6 c7 c8 c9 hl hs⟩ ?_
  · simp only [List.mem_cons, List.not_mem_nil, or_false] at hS
    rcases hS with rfl | rfl
    · exact keeps_set (by simp)
    · exact keeps_if keeps_ret keeps_skip
  intro r' _ hs
  obtain ⟨c11, rfl⟩ := hs.one
  exact part4 ⟨_, rfl, rfl⟩ ..
end K08
set_option Elab.async false
set_option linter.all false
set_option maxRecDepth 100000
namespace K08
open DL PySem L2 PySem.Spec PyProof.Rows
abbrev Done (o : Out) : Prop := ∃ r, o = .nx r ∨ o = .ct r
theorem var1 {r r' : LE} {vs : List Nat} (h : Same_ vs r r') (h1 : 1 ∉ vs) (h2 : r[1]? = some (.val .dice)) : varF 1 r' = .ok .dice := by
  rw [← var_f, var_eq, h.2 1 h1, h2]
theorem law_go : GoP Done F_law (r0 15) := by
  rw [fe_law, F_law_f_split]
  show GoP Done LWs1 [.un, .val .dice, .un, .un, .un, .un, .un, .un, .un, .un, .un, .un, .un, .un, .un]
  refine part1 fun c2 c3 c4 c5 c6 c7 => ?_
  refine GoP.grpK [LW8, LW9, LW10, LW11, LW12, LW13] [8, 9, 10, 11, 12, 13, 14] (seqA_f _ _ _ _ (seqA_f _ _ _ _ (seqA_f _ _ _ _ (seqA_f _ _ _ _ (seqA_f _ _ _ _ (seqB_f ..)))))) (fun _ => true) (fun S hS => ?_) ⟨rowB .un c2 c3 c4 c5 c6 c7⟩ ?_
  · simp only [List.mem_cons, List.not_mem_nil, or_false] at hS
    rcases hS with rfl | rfl | rfl | rfl | rfl | rfl
    · exact keeps_set (by simp)
    · exact keeps_set (by simp)
    · exact keeps_set (by simp)
    · exact keeps_set (by simp)
    · exact keeps_set (by simp)
    · exact keeps_if keeps_ret keeps_skip
  intro r' _ hs
  have hv := var1 hs (by simp) rfl
  have e : callEF D_law_rest1_f (aconsF (varF 1) anil) r' = D_law_rest1_f [.dice] := by
    show bdF (aconsF (varF 1) anil r') _ = _
    rw [aconsF_ok hv (xs := []) rfl, bdF_ok]
  refine ⟨?_⟩
  show Wp (LW14 _) _ _
  unfold LW14 ifSF
  rw [← on_f]
  refine Wp_onS ?_
  have hw : Wr (notTF (valTF (callEF D_law_rest1_f (aconsF (varF 1) anil))) r') (fun b => b = false) := by
    unfold notTF valTF
    rw [e]
    refine Wr.bdF (Wr.bdF (rest_wr.mono fun d hd => ?_))
    subst hd
    exact Wr.ok (Wr.ok rfl)
  refine hw.h.mono (fun b hb => ?_) fun _ z => z.elim
  subst hb
  exact ⟨_, .inl rfl⟩
theorem holds : LawOk F_law 15 := .of law_go
end K08
local macro_rules | `(tactic| o_head ($f $k $a $e $t)) => `(tactic| o_head ((PySem.W.kmHook $k $a $e [171,192,199,206,235,287,294,299] : _)))
open PySem PySem.W PyProof.Rows in
set_option maxRecDepth 100000 in
set_option maxHeartbeats 0 in
theorem PySem.Challenge.cw_flaghall_k08_numerals_holds : PySem.Challenge.rw_flaghall_k08_numerals.Holds := by
  w_on; o_law; k_head; (case hw => w_witness2)
  k_fill
  refine LamX.walk_ofTs (l := PySem.Challenge.rw_flaghall_k08_numerals) (n := 63) (k := 9) (x := "script") (CX := fun w => L2.CX PySem.Challenge.rw_flaghall_k08_numerals.prog w) rfl (by decide) rfl ⟨rfl, by decide, by decide⟩ (fun w h Y => PySem.W.km_in_of Y) ?F (fun w H s e s' z => by obtain ⟨_, _, _, _, _, _, _, _, _, _, _, _, z⟩ := z; exact z)
  case F =>
    intro w mg fa h Y KX hN hmg
    refine' K08.all_mk KX hN hmg (PySem.W.km_tabs_of Y) K08.holds ?nk_law_dice ?lk_law_dice ?dk_law_dice ?kk_law_dice ?nk_law_roll ?lk_law_roll ?dk_law_roll ?kk_law_roll ?nk_law_rounds ?lk_law_rounds ?dk_law_rounds ?kk_law_rounds ?nk_law_told ?lk_law_told ?dk_law_told ?kk_law_told ?nk_law_figures ?lk_law_figures ?dk_law_figures ?kk_law_figures ?nk_pennants ?lk_pennants ?dk_pennants ?kk_pennants ?nk_read_pennants ?lk_read_pennants ?dk_read_pennants ?kk_read_pennants ?nk_sum_of_figures ?lk_sum_of_figures ?dk_sum_of_figures ?kk_sum_of_figures ?nk_turned_number ?lk_turned_number ?dk_turned_number ?kk_turned_number ?nk_by_substitutes ?lk_by_substitutes ?dk_by_substitutes ?kk_by_substitutes ?nk_without_substitutes ?lk_without_substitutes ?dk_without_substitutes ?kk_without_substitutes ?nk_check_flag ?lk_check_flag ?dk_check_flag ?kk_check_flag ?nk_with_check ?lk_with_check ?dk_with_check ?kk_with_check ?nk_law_sum ?lk_law_sum ?dk_law_sum ?kk_law_sum ?nk_is_checked ?lk_is_checked ?dk_is_checked ?kk_is_checked ?nk_exchanged ?lk_exchanged ?dk_exchanged ?kk_exchanged ?nk_hidden_figure ?lk_hidden_figure ?dk_hidden_figure ?kk_hidden_figure ?nk_ups_and_downs ?lk_ups_and_downs ?dk_ups_and_downs ?kk_ups_and_downs ?nk_fewest_pennants ?lk_fewest_pennants ?dk_fewest_pennants ?kk_fewest_pennants ?nk_law_cases1 ?lk_law_cases1 ?dk_law_cases1 ?kk_law_cases1 ?nk_law_rest1 ?lk_law_rest1 ?dk_law_rest1 ?kk_law_rest1 ?nk_law ?lk_law ?dk_law ?kk_law ?xn_BadBook ?xe_BadBook ?xk_BadBook ?xs_BadBook ?xt_BadBook ?xn_BadHoist ?xe_BadHoist ?xk_BadHoist ?xs_BadHoist ?xt_BadHoist ?xn_BadFlag ?xe_BadFlag ?xk_BadFlag ?xs_BadFlag ?xt_BadFlag ?xn_BadFleet ?xe_BadFleet ?xk_BadFleet ?xs_BadFleet ?xt_BadFleet ?xn_Foul ?xn_NoWay ?xe_NoWay ?xk_NoWay ?xs_NoWay ?xt_NoWay ?xn_TooLarge ?xe_TooLarge ?xk_TooLarge ?xs_TooLarge ?xt_TooLarge ?xn_Unclear ?xn_BadText ?exq ?bz_str ?bz_any ?bz_len ?bz_sum ?bz_reversed ?bz_list ?bz_range ?bz_dict ?bz_enumerate ?bz_all ?bz_min ?bz_int ?bz_abs ?cn_FIGURES ?cq_FIGURES ?zl_read_pennants ?zv_read_pennants ?zh_read_pennants ?zn_read_pennants ?zt_read_pennants ?zl_sum_of_figures ?zv_sum_of_figures ?zh_sum_of_figures ?zn_sum_of_figures ?zt_sum_of_figures ?zl_check_flag ?zv_check_flag ?zh_check_flag ?zn_check_flag ?zt_check_flag ?zl_with_check ?zv_with_check ?zh_with_check ?zn_with_check ?zt_with_check ?zl_is_checked ?zv_is_checked ?zh_is_checked ?zn_is_checked ?zt_is_checked ?zl_law_cases1 ?zv_law_cases1 ?zh_law_cases1 ?zn_law_cases1 ?zt_law_cases1 ?zl_law_rest1 ?zv_law_rest1 ?zh_law_rest1 ?zn_law_rest1 ?zt_law_rest1 ?zl_law ?zv_law ?zh_law ?zn_law ?zt_law ?ne_read_pennants_sum_of_figures ?ne_read_pennants_check_flag ?ne_read_pennants_with_check ?ne_read_pennants_is_checked ?ne_read_pennants_law_cases1 ?ne_read_pennants_law_rest1 ?ne_read_pennants_law ?ne_sum_of_figures_check_flag ?ne_sum_of_figures_with_check ?ne_sum_of_figures_is_checked ?ne_sum_of_figures_law_cases1 ?ne_sum_of_figures_law_rest1 ?ne_sum_of_figures_law ?ne_check_flag_with_check ?ne_check_flag_is_checked ?ne_check_flag_law_cases1 ?ne_check_flag_law_rest1 ?ne_check_flag_law ?ne_with_check_is_checked ?ne_with_check_law_cases1 ?ne_with_check_law_rest1 ?ne_with_check_law ?ne_is_checked_law_cases1 ?ne_is_checked_law_rest1 ?ne_is_checked_law ?ne_law_cases1_law_rest1 ?ne_law_cases1_law ?ne_law_rest1_law
    (case nk_law_dice => k_is)
    (case lk_law_dice => k_is)
    (case dk_law_dice => k_is)
    (case kk_law_dice => k_is)
    (case nk_law_roll => k_is)
    (case lk_law_roll => k_is)
    (case dk_law_roll => k_is)
    (case kk_law_roll => k_is)
    (case nk_law_rounds => k_is)
    (case lk_law_rounds => k_is)
    (case dk_law_rounds => k_is)
    (case kk_law_rounds => k_is)
    (case nk_law_told => k_is)
    (case lk_law_told => k_is)
    (case dk_law_told => k_is)
    (case kk_law_told => k_is)
    (case nk_law_figures => k_is)
    (case lk_law_figures => k_is)
    (case dk_law_figures => k_is)
    (case kk_law_figures => k_is)
    (case nk_pennants => k_is)
    (case lk_pennants => k_is)
    (case dk_pennants => k_is)
    (case kk_pennants => k_is)
    (case nk_read_pennants => k_is)
    (case lk_read_pennants => k_is)
    (case dk_read_pennants => k_is)
    (case kk_read_pennants => k_is)
    (case nk_sum_of_figures => k_is)
    (case lk_sum_of_figures => k_is)
    (case dk_sum_of_figures => k_is)
    (case kk_sum_of_figures => k_is)
    (case nk_turned_number => k_is)
    (case lk_turned_number => k_is)
    (case dk_turned_number => k_is)
    (case kk_turned_number => k_is)
    (case nk_by_substitutes => k_is)
    (case lk_by_substitutes => k_is)
    (case dk_by_substitutes => k_is)
    (case kk_by_substitutes => k_is)
    (case nk_without_substitutes => k_is)
    (case lk_without_substitutes => k_is)
    (case dk_without_substitutes => k_is)
    (case kk_without_substitutes => k_is)
    (case nk_check_flag => k_is)
    (case lk_check_flag => k_is)
    (case dk_check_flag => k_is)
    (case kk_check_flag => k_is)
    (case nk_with_check => k_is)
    (case lk_with_check => k_is)
    (case dk_with_check => k_is)
    (case kk_with_check => k_is)
    (case nk_law_sum => k_is)
    (case lk_law_sum => k_is)
    (case dk_law_sum => k_is)
    (case kk_law_sum => k_is)
    (case nk_is_checked => k_is)
    (case lk_is_checked => k_is)
    (case dk_is_checked => k_is)
    (case kk_is_checked => k_is)
    (case nk_exchanged => k_is)
    (case lk_exchanged => k_is)
    (case dk_exchanged => k_is)
    (case kk_exchanged => k_is)
    (case nk_hidden_figure => k_is)
    (case lk_hidden_figure => k_is)
    (case dk_hidden_figure => k_is)
    (case kk_hidden_figure => k_is)
    (case nk_ups_and_downs => k_is)
    (case lk_ups_and_downs => k_is)
    (case dk_ups_and_downs => k_is)
    (case kk_ups_and_downs => k_is)
    (case nk_fewest_pennants => k_is)
    (case lk_fewest_pennants => k_is)
    (case dk_fewest_pennants => k_is)
    (case kk_fewest_pennants => k_is)
    (case nk_law_cases1 => k_is)
    (case lk_law_cases1 => k_is)
    (case dk_law_cases1 => k_is)
    (case kk_law_cases1 => k_is)
    (case nk_law_rest1 => k_is)
    (case lk_law_rest1 => k_is)
    (case dk_law_rest1 => k_is)
    (case kk_law_rest1 => k_is)
    (case nk_law => k_is)
    (case lk_law => k_is)
    (case dk_law => k_is)
    (case kk_law => k_is)
    (case xn_BadBook => k_is)
    (case xe_BadBook => k_exc)
    (case xk_BadBook => k_is)
    (case xs_BadBook => k_is)
    (case xt_BadBook => k_is)
    (case xn_BadHoist => k_is)
    (case xe_BadHoist => k_exc)
    (case xk_BadHoist => k_is)
    (case xs_BadHoist => k_is)
    (case xt_BadHoist => k_is)
    (case xn_BadFlag => k_is)
    (case xe_BadFlag => k_exc)
    (case xk_BadFlag => k_is)
    (case xs_BadFlag => k_is)
    (case xt_BadFlag => k_is)
    (case xn_BadFleet => k_is)
    (case xe_BadFleet => k_exc)
    (case xk_BadFleet => k_is)
    (case xs_BadFleet => k_is)
    (case xt_BadFleet => k_is)
    (case xn_Foul => k_is)
    (case xn_NoWay => k_is)
    (case xe_NoWay => k_exc)
    (case xk_NoWay => k_is)
    (case xs_NoWay => k_is)
    (case xt_NoWay => k_is)
    (case xn_TooLarge => k_is)
    (case xe_TooLarge => k_exc)
    (case xk_TooLarge => k_is)
    (case xs_TooLarge => k_is)
    (case xt_TooLarge => k_is)
    (case xn_Unclear => k_is)
    (case xn_BadText => k_is)
    (case exq => kernel_rfl)
    (case bz_str => k_is)
    (case bz_any => k_is)
    (case bz_len => k_is)
    (case bz_sum => k_is)
    (case bz_reversed => k_is)
    (case bz_list => k_is)
    (case bz_range => k_is)
    (case bz_dict => k_is)
    (case bz_enumerate => k_is)
    (case bz_all => k_is)
    (case bz_min => k_is)
    (case bz_int => k_is)
    (case bz_abs => k_is)
    (case cn_FIGURES => k_is)
    (case cq_FIGURES => kernel_rfl)
    (case zl_read_pennants => k_is)
    (case zv_read_pennants => rfl)
    (case zh_read_pennants => kernel_rfl)
    (case zn_read_pennants => kernel_rfl)
    (case zt_read_pennants => decide)
    (case zl_sum_of_figures => k_is)
    (case zv_sum_of_figures => rfl)
    (case zh_sum_of_figures => kernel_rfl)
    (case zn_sum_of_figures => kernel_rfl)
    (case zt_sum_of_figures => decide)
    (case zl_check_flag => k_is)
    (case zv_check_flag => rfl)
    (case zh_check_flag => kernel_rfl)
    (case zn_check_flag => kernel_rfl)
    (case zt_check_flag => decide)
    (case zl_with_check => k_is)
    (case zv_with_check => rfl)
    (case zh_with_check => kernel_rfl)
    (case zn_with_check => kernel_rfl)
    (case zt_with_check => decide)
    (case zl_is_checked => k_is)
    (case zv_is_checked => rfl)
    (case zh_is_checked => kernel_rfl)
    (case zn_is_checked => kernel_rfl)
    (case zt_is_checked => decide)
    (case zl_law_cases1 => k_is)
    (case zv_law_cases1 => rfl)
    (case zh_law_cases1 => kernel_rfl)
    (case zn_law_cases1 => kernel_rfl)
    (case zt_law_cases1 => decide)
    (case zl_law_rest1 => k_is)
    (case zv_law_rest1 => rfl)
    (case zh_law_rest1 => kernel_rfl)
    (case zn_law_rest1 => kernel_rfl)
    (case zt_law_rest1 => decide)
    (case zl_law => k_is)
    (case zv_law => rfl)
    (case zh_law => kernel_rfl)
    (case zn_law => kernel_rfl)
    (case zt_law => decide)
    (case ne_read_pennants_sum_of_figures => decide)
    (case ne_read_pennants_check_flag => decide)
    (case ne_read_pennants_with_check => decide)
    (case ne_read_pennants_is_checked => decide)
    (case ne_read_pennants_law_cases1 => decide)
    (case ne_read_pennants_law_rest1 => decide)
    (case ne_read_pennants_law => decide)
    (case ne_sum_of_figures_check_flag => decide)
    (case ne_sum_of_figures_with_check => decide)
    (case ne_sum_of_figures_is_checked => decide)
    (case ne_sum_of_figures_law_cases1 => decide)
    (case ne_sum_of_figures_law_rest1 => decide)
    (case ne_sum_of_figures_law => decide)
    (case ne_check_flag_with_check => decide)
    (case ne_check_flag_is_checked => decide)
    (case ne_check_flag_law_cases1 => decide)
    (case ne_check_flag_law_rest1 => decide)
    (case ne_check_flag_law => decide)
    (case ne_with_check_is_checked => decide)
    (case ne_with_check_law_cases1 => decide)
    (case ne_with_check_law_rest1 => decide)
    (case ne_with_check_law => decide)
    (case ne_is_checked_law_cases1 => decide)
    (case ne_is_checked_law_rest1 => decide)
    (case ne_is_checked_law => decide)
    (case ne_law_cases1_law_rest1 => decide)
    (case ne_law_cases1_law => decide)
    (case ne_law_rest1_law => decide)
