import PyProof.Rows.All
import Wide.All
import OpenK.AllK
import Wide.FinOn
import HandS.ForMost
import HandS.ForSpec
import HandS.CallSlots
import HandS.Lambda
import HandS.TryMany
import HandS.ExcInit
import HandS.TupAny
import HandS.TupLe
import HandS.Deep
import HandS.More
import HandS.WrittenGet
import HandS.ExcOwn
import KE.DataMinMax
import KE.DataCmp
import HandS.Strs
import HandS.Style
import HandS.Iter
import HandS.Sort
import HandS.Steps
import HandS.GenOver
import HandS.GenList
import KE.GoesEnumKw
import HandS.SortKw
import HandS.RevTup
import HandS.Codes
import HandS.Rev
import HandS.Replace
import HandS.EndTab
import KE.KNestM
import PySem.Challenge.RW_flaghall_k02_hoists
set_option Elab.async false
set_option linter.all false
set_option maxRecDepth 100000
namespace DL
open PySem L2
/-- deep values -/
inductive D where
  | non
  | bl (b : Bool)
  | int (i : Int)
  | str (s : List Nat)
  | lst (xs : List D)
  | tup (xs : List D)
  | dic (kvs : List (D × D))
  | cdic (kvs : List (List Nat × D))
  | ins (c : Nat) (fs : List D)
  | dice
  | fn (n : Nat)
  deriving Inhabited
structure Exc where
  cls : Nat
  arg : D
/-- what a computation comes to; roll m k: some number below m is drawn -/
inductive R (α : Type) where
  | ok (a : α)
  | err (e : Exc)
  | stuck
  | roll (m : Nat) (k : Nat → R α)
namespace R
variable {α β : Type}
def bind : R α → (α → R β) → R β
  | .ok a, k => k a
  | .err e, _ => .err e
  | .stuck, _ => .stuck
  | .roll m f, k => .roll m fun i => (f i).bind k
instance : Monad R where
  pure := .ok
  bind := R.bind
@[simp] theorem ok_bind (a : α) (k : α → R β) : (R.ok a >>= k) = k a := rfl
@[simp] theorem err_bind (e : Exc) (k : α → R β) : ((R.err e : R α) >>= k) = .err e := rfl
@[simp] theorem stuck_bind (k : α → R β) : ((R.stuck : R α) >>= k) = .stuck := rfl
@[simp] theorem roll_bind (m : Nat) (f : Nat → R α) (k : α → R β) : (R.roll m f >>= k) = .roll m fun i => f i >>= k := rfl
@[simp] theorem pure_eq (a : α) : (pure a : R α) = .ok a := rfl
end R
def Wp {α : Type} : R α → (α → Prop) → (Exc → Prop) → Prop
  | .ok a, Q, _ => Q a
  | .err e, _, E => E e
  | .stuck, _, _ => False
  | .roll m k, Q, E => ∀ i, i < m → Wp (k i) Q E
section
variable {α β : Type} {Q Q' : α → Prop} {E E' : Exc → Prop}
theorem Wp.mono : ∀ {m : R α}, Wp m Q E → (∀ a, Q a → Q' a) → (∀ e, E e → E' e) → Wp m Q' E'
  | .ok a, h, q, _ => q a h
  | .err e, h, _, q => q e h
  | .stuck, h, _, _ => h
  | .roll _ _, h, q, q' => fun i hi => Wp.mono (h i hi) q q'
theorem Wp.thn {m : R α} (h : Wp m Q E) (q : ∀ a, Q a → Q' a) : Wp m Q' E := h.mono q fun _ x => x
theorem Wp.bind {k : α → R β} {Qb : β → Prop} : ∀ {m : R α}, Wp (m >>= k) Qb E → Wp m (fun a => Wp (k a) Qb E) E
  | .ok _, h => h
  | .err _, h => h
  | .stuck, h => h
  | .roll _ _, h => fun i hi => Wp.bind (h i hi)
theorem Wp.of_bind {k : α → R β} {Qb : β → Prop} : ∀ {m : R α}, Wp m (fun a => Wp (k a) Qb E) E → Wp (m >>= k) Qb E
  | .ok _, h => h
  | .err _, h => h
  | .stuck, h => h
  | .roll _ _, h => fun i hi => Wp.of_bind (h i hi)
end
structure Gm where
  K : PySem.W.Frag
  w : World
  cls : Nat → Addr
  flds : Nat → List Str
  fns : Nat → Addr
  xcls : Nat → Addr
  xfld : Nat → Option Str
  tabs : List (Addr × Str)
/-- a key of a dict -/
def D.key : D → Option Key
  | .int i => some (.inl i)
  | .str s => some (.inr ⟨s.toArray⟩)
  | _ => none
mutual
def Rep (G : Gm) (dl : Addr) (S : Hp) : D → V → Prop
  | .non, v => v = .non
  | .bl b, v => v = .bl b
  | .int i, v => v = .int i
  | .str s, v => v = .str ⟨s.toArray⟩
  | .lst ds, v => ∃ a vs, v = .ref a ∧ S a = some (.lst vs) ∧ RepL G dl S ds vs
  | .tup ds, v => ∃ a vs, v = .ref a ∧ SqT G.K S a vs ∧ RepL G dl S ds vs
  | .dic kvs, v => ∃ (a : Addr) (kv : List (Key × V)), v = .ref a ∧ Rd S a (.dK kv) ∧ RepK G dl S kvs kv
  | .cdic kvs, v => ∃ a, v = .ref a ∧ RepC G dl S a kvs
  | .ins c ds, v => ∃ a dx vs, v = .ref a ∧ S a = some (.ins (G.cls c) dx ((G.flds c).zip vs)) ∧ (G.flds c).length = vs.length ∧ RepL G dl S ds vs
  | .dice, v => v = .ref dl
  | .fn n, v => v = .ref (G.fns n)
def RepL (G : Gm) (dl : Addr) (S : Hp) : List D → List V → Prop
  | [], vs => vs = []
  | d :: ds, vs => ∃ v r, vs = v :: r ∧ Rep G dl S d v ∧ RepL G dl S ds r
def RepK (G : Gm) (dl : Addr) (S : Hp) : List (D × D) → List (Key × V) → Prop
  | [], vs => vs = []
  | (k, d) :: ds, vs => ∃ x v r, vs = (x, v) :: r ∧ k.key = some x ∧ Rep G dl S d v ∧ RepK G dl S ds r
def RepC (G : Gm) (dl : Addr) (S : Hp) (a : Addr) : List (List Nat × D) → Prop
  | [] => True
  | (k, d) :: ds => (∃ v, KDct G.K G.w a ⟨k.toArray⟩ v ∧ Rep G dl S d v) ∧ RepC G dl S a ds
end
/-- all but tables of code objects stays -/
abbrev GrowS (S S' : Hp) : Prop := LamX.ExtN S S'
theorem GrowS.rd {S S' : Hp} {a : Addr} {u : HO} (g : GrowS S S') (n : ∀ ps, u ≠ .tbl ps) (h : Rd S a u) : Rd S' a u := by
  rcases h with h | ⟨o, h⟩
  · exact .inl (g a _ h n)
  · exact .inr ⟨o, g a _ h fun ps z => by cases z⟩
theorem GrowS.sqt {K : PySem.W.Frag} {S S' : Hp} {a : Addr} {xs : List V} (g : GrowS S S') (h : SqT K S a xs) : SqT K S' a xs := by
  rcases h with h | h
  · exact .inl (g.rd (fun ps z => by cases z) h)
  · exact .inr h
mutual
theorem Rep.mono {G : Gm} {dl : Addr} {S S' : Hp} (g : GrowS S S') : ∀ (d : D) {v : V}, Rep G dl S d v → Rep G dl S' d v
  | .non, v, h => by unfold Rep at *; exact h
  | .bl b, v, h => by unfold Rep at *; exact h
  | .int i, v, h => by unfold Rep at *; exact h
  | .str s, v, h => by unfold Rep at *; exact h
  | .lst ds, v, h => by
    unfold Rep at *
    obtain ⟨a, vs, e, q, r⟩ := h
    exact ⟨a, vs, e, g a _ q (fun ps z => by cases z), RepL.mono g ds r⟩
  | .tup ds, v, h => by
    unfold Rep at *
    obtain ⟨a, vs, e, q, r⟩ := h
    exact ⟨a, vs, e, g.sqt q, RepL.mono g ds r⟩
  | .dic kvs, v, h => by
    unfold Rep at *
    obtain ⟨a, kv, e, q, r⟩ := h
    exact ⟨a, kv, e, g.rd (fun ps z => by cases z) q, RepK.mono g kvs r⟩
  | .cdic kvs, v, h => by
    unfold Rep at *
    obtain ⟨a, e, r⟩ := h
    exact ⟨a, e, RepC.mono g kvs r⟩
  | .ins c ds, v, h => by
    unfold Rep at *
    obtain ⟨a, dx, vs, e, q, l, r⟩ := h
    exact ⟨a, dx, vs, e, g a _ q (fun ps z => by cases z), l, RepL.mono g ds r⟩
  | .dice, v, h => by unfold Rep at *; exact h
  | .fn n, v, h => by unfold Rep at *; exact h
theorem RepL.mono {G : Gm} {dl : Addr} {S S' : Hp} (g : GrowS S S') : ∀ (ds : List D) {vs : List V}, RepL G dl S ds vs → RepL G dl S' ds vs
  | [], vs, h => by unfold RepL at *; exact h
  | d :: ds, vs, h => by
    unfold RepL at *
    obtain ⟨v, r, e, h1, h2⟩ := h
    exact ⟨v, r, e, Rep.mono g d h1, RepL.mono g ds h2⟩
theorem RepK.mono {G : Gm} {dl : Addr} {S S' : Hp} (g : GrowS S S') : ∀ (ds : List (D × D)) {vs : List (Key × V)}, RepK G dl S ds vs → RepK G dl S' ds vs
  | [], vs, h => by unfold RepK at *; exact h
  | (k, d) :: ds, vs, h => by
    unfold RepK at *
    obtain ⟨x, v, r, e, k, h1, h2⟩ := h
    exact ⟨x, v, r, e, k, Rep.mono g d h1, RepK.mono g ds h2⟩
theorem RepC.mono {G : Gm} {dl : Addr} {S S' : Hp} (g : GrowS S S') {a : Addr} : ∀ (ds : List (List Nat × D)), RepC G dl S a ds → RepC G dl S' a ds
  | [], h => by unfold RepC at *; exact h
  | (k, d) :: ds, h => by
    unfold RepC at *
    obtain ⟨⟨v, h1, h2⟩, h3⟩ := h
    exact ⟨⟨v, h1, Rep.mono g d h2⟩, RepC.mono g ds h3⟩
end
section
variable {G : Gm} {dl : Addr} {S : Hp}
theorem RepL.length : ∀ {ds : List D} {vs : List V}, RepL G dl S ds vs → vs.length = ds.length
  | [], vs, h => by unfold RepL at h; subst h; rfl
  | d :: ds, vs, h => by
    unfold RepL at h
    obtain ⟨v, r, rfl, _, h2⟩ := h
    rw [List.length_cons, List.length_cons, RepL.length h2]
theorem RepL.nil : RepL G dl S [] [] := by unfold RepL; rfl
theorem RepL.cons {d : D} {ds : List D} {v : V} {vs : List V} (h : Rep G dl S d v) (r : RepL G dl S ds vs) : RepL G dl S (d :: ds) (v :: vs) := by
  unfold RepL; exact ⟨v, vs, rfl, h, r⟩
theorem RepL.append : ∀ {ds es : List D} {vs us : List V}, RepL G dl S ds vs → RepL G dl S es us → RepL G dl S (ds ++ es) (vs ++ us)
  | [], es, vs, us, h, q => by unfold RepL at h; subst h; exact q
  | d :: ds, es, vs, us, h, q => by
    unfold RepL at h
    obtain ⟨v, r, rfl, h1, h2⟩ := h
    exact RepL.cons h1 (RepL.append h2 q)
theorem RepL.get : ∀ (ds : List D) (vs : List V) (i : Nat) (v : V), RepL G dl S ds vs → vs[i]? = some v → ∃ d, ds[i]? = some d ∧ Rep G dl S d v
  | [], vs, i, v, h, e => by unfold RepL at h; subst h; simp at e
  | d :: ds, vs, i, v, h, e => by
    unfold RepL at h
    obtain ⟨u, r, rfl, h1, h2⟩ := h
    cases i with
    | zero => simp at e; subst e; exact ⟨d, rfl, h1⟩
    | succ i => exact RepL.get ds r i v h2 (by simpa using e)
theorem RepL.getD : ∀ (ds : List D) (vs : List V) (i : Nat) (d : D), RepL G dl S ds vs → ds[i]? = some d → ∃ v, vs[i]? = some v ∧ Rep G dl S d v
  | [], vs, i, v, h, e => by simp at e
  | d' :: ds, vs, i, d, h, e => by
    unfold RepL at h
    obtain ⟨u, r, rfl, h1, h2⟩ := h
    cases i with
    | zero => simp at e; subst e; exact ⟨u, rfl, h1⟩
    | succ i => exact RepL.getD ds r i d h2 (by simpa using e)
theorem RepL.take : ∀ {ds : List D} {vs : List V} (n : Nat), RepL G dl S ds vs → RepL G dl S (ds.take n) (vs.take n)
  | _, _, 0, _ => by simp only [List.take_zero]; exact RepL.nil
  | [], vs, n + 1, h => by unfold RepL at h; subst h; exact RepL.nil
  | d :: ds, vs, n + 1, h => by
    unfold RepL at h
    obtain ⟨u, r, rfl, h1, h2⟩ := h
    exact RepL.cons h1 (RepL.take n h2)
theorem RepL.drop : ∀ {ds : List D} {vs : List V} (n : Nat), RepL G dl S ds vs → RepL G dl S (ds.drop n) (vs.drop n)
  | _, _, 0, h => h
  | [], vs, n + 1, h => by unfold RepL at h; subst h; exact RepL.nil
  | d :: ds, vs, n + 1, h => by
    unfold RepL at h
    obtain ⟨u, r, rfl, h1, h2⟩ := h
    exact RepL.drop n h2
theorem RepL.set : ∀ {ds : List D} {vs : List V} {d : D} {v : V} (n : Nat), RepL G dl S ds vs → Rep G dl S d v → RepL G dl S (ds.set n d) (vs.set n v)
  | [], vs, d, v, n, h, _ => by unfold RepL at h; subst h; exact RepL.nil
  | d' :: ds, vs, d, v, 0, h, q => by
    unfold RepL at h
    obtain ⟨u, r, rfl, h1, h2⟩ := h
    exact RepL.cons q h2
  | d' :: ds, vs, d, v, n + 1, h, q => by
    unfold RepL at h
    obtain ⟨u, r, rfl, h1, h2⟩ := h
    exact RepL.cons h1 (RepL.set n h2 q)
end
/-- without some addresses -/
def cut (H : Hp) (Z : List Addr) : Hp := fun a => if a ∈ Z then none else H a
theorem cut_in {H : Hp} {Z : List Addr} {a : Addr} (h : a ∈ Z) : cut H Z a = none := if_pos h
theorem cut_out {H : Hp} {Z : List Addr} {a : Addr} (h : a ∉ Z) : cut H Z a = H a := if_neg h
theorem cut_some {H : Hp} {Z : List Addr} {a : Addr} {o : HO} (h : cut H Z a = some o) : a ∉ Z ∧ H a = some o := by
  unfold cut at h
  split at h
  · cases h
  · exact ⟨by assumption, h⟩
theorem cut_grow (H : Hp) (Z : List Addr) : GrowS (cut H Z) H := fun a o h _ => (cut_some h).2
theorem cut_sub {H : Hp} {Z Z' : List Addr} (h : ∀ a ∈ Z', a ∈ Z) : GrowS (cut H Z) (cut H Z') := fun a o e _ => by
  obtain ⟨h1, h2⟩ := cut_some e
  rw [cut_out fun q => h1 (h a q)]
  exact h2
def Grow (dl : Addr) (H H' : Hp) : Prop := ∀ a o, H a = some o → a ≠ dl → (∀ ps, o ≠ .tbl ps) → H' a = some o
theorem Grow.refl (dl : Addr) (H : Hp) : Grow dl H H := fun _ _ h _ _ => h
theorem Grow.trans {dl : Addr} {H H1 H2 : Hp} (a : Grow dl H H1) (b : Grow dl H1 H2) : Grow dl H H2 := fun c o h n m => b c o (a c o h n m) n m
theorem Grow.new {dl : Addr} {H : Hp} {p : Addr} {o : HO} (h : H p = none) : Grow dl H (upd H p o) := fun a u e _ _ => by
  rw [upd_ne (ne_of_none e h)]; exact e
theorem Grow.cut {dl : Addr} {H H' : Hp} {Z : List Addr} (g : Grow dl H H') (hz : dl ∈ Z) : GrowS (cut H Z) (cut H' Z) := fun a o e n => by
  obtain ⟨h1, h2⟩ := cut_some e
  rw [cut_out h1]
  exact g a o h2 (fun q => h1 (q ▸ hz)) n
def DiceOk (H : Hp) (dl : Addr) : Prop := ∃ x y z : Int, H dl = some (.lst [.int x, .int y, .int z])
structure GlOk (G : Gm) (dl : Addr) (H : Hp) : Prop where
  dice : DiceOk H dl
  tab : LamX.Tabs G.tabs H
theorem GlOk.same {G : Gm} {dl : Addr} {H H' : Hp} (g : GlOk G dl H) (e : ∀ b o, H b = some o → H' b = some o) : GlOk G dl H' := by
  obtain ⟨x, y, z, h⟩ := g.dice
  exact ⟨⟨x, y, z, e _ _ h⟩, g.tab.ext e⟩
theorem same_new {H : Hp} {p : Addr} {o : HO} (h : H p = none) : ∀ b u, H b = some u → (upd H p o) b = some u := fun b u e => by
  rw [upd_ne (ne_of_none e h)]; exact e
theorem GlOk.new {G : Gm} {dl : Addr} {H : Hp} {p : Addr} {o : HO} (g : GlOk G dl H) (h : H p = none) : GlOk G dl (upd H p o) := g.same (same_new h)
inductive Cell where
  | un
  | val (d : D)
  | own (d : D)
abbrev LE := List Cell
def OwnAt (G : Gm) (dl : Addr) (S : Hp) (d : D) (o : Option HO) : Prop := match d with
  | .lst ds => ∃ vs, o = some (.lst vs) ∧ RepL G dl S ds vs
  | .dic kvs => ∃ (kv : List (Key × V)), o = some (.dK kv) ∧ RepK G dl S kvs kv
  | .ins c ds => ∃ (dx : Addr) (vs : List V), o = some (.ins (G.cls c) dx ((G.flds c).zip vs)) ∧ vs.length ≤ (G.flds c).length ∧ RepL G dl S ds vs
  | _ => False
/-- the self of an __init__ stands in slot 0, under a mark of its own -/
def kee (i : Nat) : D → Nat
  | .ins _ _ => 1000000
  | _ => i
def keeOk (i : Nat) : D → Prop
  | .ins _ _ => i = 0
  | _ => i ≠ 1000000
theorem kee_inj {i j : Nat} {d e : D} (h1 : keeOk i d) (h2 : keeOk j e) (h : kee i d = kee j e) : i = j := by
  cases d <;> cases e <;> simp_all [kee, keeOk]
def Slot (G : Gm) (dl : Addr) (Z : List Addr) (O : List (Nat × Addr)) (H : Hp) (i : Nat) (x : Option (Option V)) : Cell → Prop
  | .un => True
  | .val d => ∃ v, x = some (some v) ∧ Rep G dl (cut H Z) d v
  | .own d => ∃ a, (kee i d, a) ∈ O ∧ x = some (some (.ref a)) ∧ OwnAt G dl (cut H Z) d (H a) ∧ keeOk i d
/-- the state at hand: r the slots as data, O the addresses of owned lists and dicts, Z all that is not to be leant on -/
structure At (G : Gm) (dl : Addr) (Z : List Addr) (O : List (Nat × Addr)) (r : LE) (sg : St) (H : Hp) : Prop where
  gl : GlOk G dl H
  dz : dl ∈ Z
  live : ∀ a ∈ Z, ∃ o, H a = some o ∧ ∀ ps, o ≠ .tbl ps
  own : ∀ p ∈ O, p.2 ∈ Z ∧ p.2 ≠ dl
  inj : ∀ p ∈ O, ∀ q ∈ O, p.2 = q.2 → p = q
  len : r.length = sg.length
  slot : ∀ i c, r[i]? = some c → Slot G dl Z O H i sg[i]? c
theorem OwnAt.mono {G : Gm} {dl : Addr} {S S' : Hp} {d : D} {o : Option HO} (g : GrowS S S') (h : OwnAt G dl S d o) : OwnAt G dl S' d o := by
  unfold OwnAt at *
  split at h
  · obtain ⟨vs, e, r⟩ := h; exact ⟨vs, e, r.mono g⟩
  · obtain ⟨kv, e, r⟩ := h; exact ⟨kv, e, r.mono g⟩
  · obtain ⟨dx, vs, e, k, r⟩ := h; exact ⟨dx, vs, e, k, r.mono g⟩
  · exact h
theorem OwnAt.notTbl {G : Gm} {dl : Addr} {S : Hp} {d : D} {o : Option HO} (h : OwnAt G dl S d o) : ∃ u, o = some u ∧ ∀ ps, u ≠ .tbl ps := by
  unfold OwnAt at h
  split at h
  · obtain ⟨vs, e, r⟩ := h; exact ⟨_, e, fun ps z => by cases z⟩
  · obtain ⟨kv, e, r⟩ := h; exact ⟨_, e, fun ps z => by cases z⟩
  · obtain ⟨dx, vs, e, k, r⟩ := h; exact ⟨_, e, fun ps z => by cases z⟩
  · exact h.elim
theorem At.grow {G : Gm} {dl : Addr} {Z : List Addr} {O : List (Nat × Addr)} {r : LE} {sg : St} {H H' : Hp} (h : At G dl Z O r sg H) (g : Grow dl H H') (gl : GlOk G dl H') : At G dl Z O r sg H' := by
  refine ⟨gl, h.dz, fun a ha => ?_, h.own, h.inj, h.len, fun i c e => ?_⟩
  · by_cases q : a = dl
    · obtain ⟨x, y, z, e⟩ := gl.dice
      exact ⟨_, by rw [q]; exact e, fun ps z => by cases z⟩
    · obtain ⟨o, e, n⟩ := h.live a ha
      exact ⟨o, g a o e q n, n⟩
  · have := h.slot i c e
    cases c with
    | un => trivial
    | val d =>
      obtain ⟨v, e, q⟩ := this
      exact ⟨v, e, q.mono (g.cut h.dz)⟩
    | own d =>
      obtain ⟨a, ha, e, q, ko⟩ := this
      obtain ⟨u, hu, nt⟩ := q.notTbl
      refine ⟨a, ha, e, ?_, ko⟩
      rw [g a u hu (h.own _ ha).2 nt, ← hu]
      exact q.mono (g.cut h.dz)
/-- what of an exception is known -/
def XRep (G : Gm) (dl : Addr) (S : Hp) (e : Exc) (cls : Value) (dx : Option Addr) (H : Hp) : Prop :=
  cls = .ref (G.xcls e.cls) ∧ match G.xfld e.cls with
    | none => e.arg = .non
    | some f => ∃ d v, dx = some d ∧ H d = some (.xd [(f, v)]) ∧ Rep G dl S e.arg v
def tD (G : Gm) (W : WX) (f : LE → R D) : TE := fun sg H Q => ∃ dl Z O r, At G dl Z O r sg H ∧
  Wp (f r) (fun d => ∀ v H', Grow dl H H' → GlOk G dl H' → Rep G dl (cut H' Z) d v → Q v H')
    (fun e => ∀ cls dx H', Grow dl H H' → GlOk G dl H' → XRep G dl (cut H' Z) e cls dx H' → W cls dx sg H')
/-- a new list -/
def tF (G : Gm) (W : WX) (f : LE → R (List D)) : TE := fun sg H Q => ∃ dl Z O r, At G dl Z O r sg H ∧
  Wp (f r) (fun ds => ∀ p vs H', Grow dl H H' → GlOk G dl H' → H' p = none → RepL G dl (cut H' Z) ds vs → Q (.ref p) (upd H' p (.lst vs)))
    (fun e => ∀ cls dx H', Grow dl H H' → GlOk G dl H' → XRep G dl (cut H' Z) e cls dx H' → W cls dx sg H')
def tT (G : Gm) (W : WX) (f : LE → R Bool) : TT := fun sg H Q => ∃ dl Z O r, At G dl Z O r sg H ∧
  Wp (f r) (fun b => ∀ H', Grow dl H H' → GlOk G dl H' → Q b H')
    (fun e => ∀ cls dx H', Grow dl H H' → GlOk G dl H' → XRep G dl (cut H' Z) e cls dx H' → W cls dx sg H')
def tA (G : Gm) (W : WX) (f : LE → R (List D)) : TA := fun sg H Q => ∃ dl Z O r, At G dl Z O r sg H ∧
  Wp (f r) (fun ds => ∀ vs H', Grow dl H H' → GlOk G dl H' → RepL G dl (cut H' Z) ds vs → Q vs H')
    (fun e => ∀ cls dx H', Grow dl H H' → GlOk G dl H' → XRep G dl (cut H' Z) e cls dx H' → W cls dx sg H')
/-- an expression that may be an owned list or dict, read at once -/
def RepP (G : Gm) (dl : Addr) (H : Hp) (Z : List Addr) (d : D) (v : V) : Prop :=
  Rep G dl (cut H Z) d v ∨ ∃ a, v = .ref a ∧ a ∈ Z ∧ a ≠ dl ∧ OwnAt G dl (cut H Z) d (H a)
def tP (G : Gm) (W : WX) (f : LE → R D) : TE := fun sg H Q => ∃ dl Z O r, At G dl Z O r sg H ∧
  Wp (f r) (fun d => ∀ v H', Grow dl H H' → GlOk G dl H' → RepP G dl H' Z d v → Q v H')
    (fun e => ∀ cls dx H', Grow dl H H' → GlOk G dl H' → XRep G dl (cut H' Z) e cls dx H' → W cls dx sg H')
abbrev DE (X : Cx) (G : Gm) (W : WX) (e : Expr) (f : LE → R D) : Prop := PE X e (tD G W f)
abbrev DF (X : Cx) (G : Gm) (W : WX) (e : Expr) (f : LE → R (List D)) : Prop := PE X e (tF G W f)
abbrev DP (X : Cx) (G : Gm) (W : WX) (e : Expr) (f : LE → R D) : Prop := PE X e (tP G W f)
abbrev DT (X : Cx) (G : Gm) (W : WX) (e : Expr) (f : LE → R Bool) : Prop := PT X e (tT G W f)
abbrev DW (X : Cx) (G : Gm) (W : WX) (e : Expr) (f : LE → R Bool) : Prop := PW X e (tT G W f)
abbrev DA (X : Cx) (G : Gm) (W : WX) (es : List Expr) (f : LE → R (List D)) : Prop := PA X es (tA G W f)
theorem PE_imp {X : Cx} {e : Expr} {t t' : TE} (h : PE X e t) (i : ∀ sg H Q, t' sg H Q → t sg H Q) : PE X e t' := ⟨fun pins s sg H Q I q => h.run pins s sg H Q I (i _ _ _ q)⟩
theorem PT_imp {X : Cx} {e : Expr} {t t' : TT} (h : PT X e t) (i : ∀ sg H Q, t' sg H Q → t sg H Q) : PT X e t' := ⟨fun pins s sg H Q I q => h.run pins s sg H Q I (i _ _ _ q)⟩
theorem PW_imp {X : Cx} {e : Expr} {t t' : TT} (h : PW X e t) (i : ∀ sg H Q, t' sg H Q → t sg H Q) : PW X e t' := ⟨fun wh pins s sg H Q I q => h.run wh pins s sg H Q I (i _ _ _ q)⟩
theorem PA_imp {X : Cx} {e : List Expr} {t t' : TA} (h : PA X e t) (i : ∀ sg H Q, t' sg H Q → t sg H Q) : PA X e t' := ⟨fun pos pins s sg H Q I q => h.run pos pins s sg H Q I (i _ _ _ q)⟩
theorem PS_imp {X : Cx} {e : Stmt} {t t' : TS} (h : PS X e t) (i : ∀ De sg H, t' De sg H → t De sg H) : PS X e t' := ⟨fun pins s sg H De I q => h.run pins s sg H De I (i _ _ _ q)⟩
theorem PSs_imp {X : Cx} {e : List Stmt} {t t' : TS} (h : PSs X e t) (i : ∀ De sg H, t' De sg H → t De sg H) : PSs X e t' := ⟨fun pins s sg H De I q => h.run pins s sg H De I (i _ _ _ q)⟩
inductive Out where
  | nx (r : LE)
  | rt (d : D)
  | bk (r : LE)
  | ct (r : LE)
  | ex (e : Exc) (r : LE)
def Free (H : Hp) (a : Addr) : Prop := ∀ o, H a = some o → ∃ ps, o = .tbl ps
theorem Free.of {H : Hp} {a : Addr} (h : H a = none) : Free H a := fun o e => by rw [h] at e; cases e
structure Stp (dl : Addr) (Z : List Addr) (O : List (Nat × Addr)) (H : Hp) (Z' : List Addr) (O' : List (Nat × Addr)) (H' : Hp) : Prop where
  fr : ∀ a o, H a = some o → a ≠ dl → (∀ p ∈ O, p.2 ≠ a) → (∀ ps, o ≠ .tbl ps) → H' a = some o
  op : ∀ p ∈ O', (∃ q ∈ O, q.2 = p.2) ∨ Free H p.2
  zk : ∀ a ∈ Z, (∀ p ∈ O, p.2 ≠ a) → a ∈ Z'
  zn : ∀ a ∈ Z', a ∈ Z ∨ Free H a
  sf : ∀ a, (1000000, a) ∈ O' → (1000000, a) ∈ O
  dom : ∀ a, Free H' a → Free H a
theorem Stp.refl {dl : Addr} {Z : List Addr} {O : List (Nat × Addr)} {H : Hp} : Stp dl Z O H Z O H :=
  ⟨fun _ _ h _ _ _ => h, fun p hp => .inl ⟨p, hp, rfl⟩, fun _ h _ => h, fun _ h => .inl h, fun _ h => h, fun _ h => h⟩
theorem Grow.dom {G : Gm} {dl : Addr} {H H' : Hp} (g : Grow dl H H') (gl : GlOk G dl H') : ∀ a, Free H' a → Free H a := fun a f o q => by
  by_cases d : a = dl
  · obtain ⟨x, y, z, h⟩ := gl.dice
    obtain ⟨ps, e⟩ := f _ (d ▸ h)
    cases e
  · by_cases t : ∃ ps, o = .tbl ps
    · exact t
    · exact f o (g a o q d fun ps z => t ⟨ps, z⟩)
theorem Stp.of_grow {G : Gm} {dl : Addr} {Z : List Addr} {O : List (Nat × Addr)} {H H' : Hp} (g : Grow dl H H') (gl : GlOk G dl H') : Stp dl Z O H Z O H' :=
  ⟨fun a o h n _ t => g a o h n t, fun p hp => .inl ⟨p, hp, rfl⟩, fun _ h _ => h, fun _ h => .inl h, fun _ h => h, g.dom gl⟩
theorem Stp.trans {G : Gm} {dl : Addr} {Z Z1 Z2 : List Addr} {O O1 O2 : List (Nat × Addr)} {r : LE} {sg : St} {H H1 H2 : Hp} (hz : At G dl Z O r sg H) (a : Stp dl Z O H Z1 O1 H1) (b : Stp dl Z1 O1 H1 Z2 O2 H2) : Stp dl Z O H Z2 O2 H2 := by
  have key : ∀ c, (∃ o, H c = some o ∧ ∀ ps, o ≠ .tbl ps) → (∀ p ∈ O, p.2 ≠ c) → ∀ p ∈ O1, p.2 ≠ c := fun c ⟨o, ho, nt⟩ hn p hp e => by
    rcases a.op p hp with ⟨q, hq, eq⟩ | q
    · exact hn q hq (eq.trans e)
    · obtain ⟨ps, z⟩ := q o (e ▸ ho)
      exact nt ps z
  refine ⟨fun c o h n m t => b.fr c o (a.fr c o h n m t) n (key c ⟨o, h, t⟩ m) t, fun p hp => ?_, fun c hc m => b.zk c (a.zk c hc m) (key c (hz.live c hc) m), fun c hc => (b.zn c hc).elim (a.zn c) fun f => .inr (a.dom c f), fun c h => a.sf c (b.sf c h), fun c h => a.dom c (b.dom c h)⟩
  rcases b.op p hp with ⟨q, hq, eq⟩ | q
  · rcases a.op q hq with ⟨q', h1, h2⟩ | h1
    · exact .inl ⟨q', h1, h2.trans eq⟩
    · exact .inr (eq ▸ h1)
  · exact .inr (a.dom _ q)
theorem Stp.cut {G : Gm} {dl : Addr} {Z Z' : List Addr} {O O' : List (Nat × Addr)} {r : LE} {sg : St} {H H' : Hp} (A : At G dl Z O r sg H) (s : Stp dl Z O H Z' O' H') : GrowS (cut H Z) (cut H' Z') := fun a o e n => by
  obtain ⟨e1, e2⟩ := cut_some e
  have hz : a ∉ Z' := fun hz => by
    rcases s.zn a hz with h | h
    · exact e1 h
    · obtain ⟨ps, q⟩ := h o e2
      exact n ps q
  rw [cut_out hz]
  exact s.fr a o e2 (fun q => e1 (by rw [q]; exact A.dz)) (fun p hp q => e1 (by rw [← q]; exact (A.own p hp).1)) n
/-- what is wanted behind a statement -/
def SPost (G : Gm) (W : WX) (De : Ends) (dl : Addr) (Z : List Addr) (O : List (Nat × Addr)) (H : Hp) : Out → Prop
  | .nx r' => ∀ Z' O' sg' H', Stp dl Z O H Z' O' H' → At G dl Z' O' r' sg' H' → De.nx sg' H'
  | .bk r' => ∀ Z' O' sg' H', Stp dl Z O H Z' O' H' → At G dl Z' O' r' sg' H' → De.bk sg' H'
  | .ct r' => ∀ Z' O' sg' H', Stp dl Z O H Z' O' H' → At G dl Z' O' r' sg' H' → De.ct sg' H'
  | .rt d => ∀ Z' O' v H', Stp dl Z O H Z' O' H' → GlOk G dl H' → Rep G dl (cut H' Z') d v → De.rt v H'
  | .ex e r' => ∀ Z' O' sg' H' cls dx, Stp dl Z O H Z' O' H' → At G dl Z' O' r' sg' H' → XRep G dl (cut H' Z') e cls dx H' → W cls dx sg' H'
theorem SPost.trans {G : Gm} {W : WX} {De : Ends} {dl : Addr} {Z Z1 : List Addr} {O O1 : List (Nat × Addr)} {r : LE} {sg : St} {H H1 : Hp} (A : At G dl Z O r sg H) (st : Stp dl Z O H Z1 O1 H1) : ∀ {o : Out}, SPost G W De dl Z O H o → SPost G W De dl Z1 O1 H1 o
  | .nx r', h => fun Z' O' sg' H' s a => h Z' O' sg' H' (Stp.trans A st s) a
  | .bk r', h => fun Z' O' sg' H' s a => h Z' O' sg' H' (Stp.trans A st s) a
  | .ct r', h => fun Z' O' sg' H' s a => h Z' O' sg' H' (Stp.trans A st s) a
  | .rt d, h => fun Z' O' v H' s g a => h Z' O' v H' (Stp.trans A st s) g a
  | .ex e r', h => fun Z' O' sg' H' c d s a x => h Z' O' sg' H' c d (Stp.trans A st s) a x
/-- a statement's reading: F the state as data -/
def tS (G : Gm) (W : WX) (F : LE → R Out) : TS := fun De sg H => ∃ dl Z O r, At G dl Z O r sg H ∧ Wp (F r) (SPost G W De dl Z O H) (fun _ => False)
abbrev DS (X : Cx) (G : Gm) (W : WX) (st : Stmt) (F : LE → R Out) : Prop := PS X st (tS G W F)
abbrev DSs (X : Cx) (G : Gm) (W : WX) (sts : List Stmt) (F : LE → R Out) : Prop := PSs X sts (tS G W F)
end DL
set_option Elab.async false
set_option linter.all false
set_option maxRecDepth 100000
namespace DL
open PySem L2
section
variable {G : Gm} {dl : Addr} {Z : List Addr} {O : List (Nat × Addr)} {r : LE} {sg : St} {H H' H1 H2 : Hp} {W : WX} {d : D} {v : V}
theorem At.out (A : At G dl Z O r sg H) {p : Addr} (h : H p = none) : p ∉ Z := fun hz => by
  obtain ⟨o, e, _⟩ := A.live p hz
  rw [h] at e; cases e
theorem At.notdl (A : At G dl Z O r sg H) {p : Addr} (h : H p = none) : p ≠ dl := fun e => A.out h (e ▸ A.dz)
theorem RepP.grow (A : At G dl Z O r sg H) (g : Grow dl H H') (h : RepP G dl H Z d v) : RepP G dl H' Z d v := by
  rcases h with h | ⟨a, e, hz, hd, q⟩
  · exact .inl (h.mono (g.cut A.dz))
  · obtain ⟨u, hu, nt⟩ := q.notTbl
    refine .inr ⟨a, e, hz, hd, ?_⟩
    rw [g a u hu hd nt, ← hu]
    exact q.mono (g.cut A.dz)
theorem RepP.of (h : Rep G dl (cut H Z) d v) : RepP G dl H Z d v := .inl h
/-- a new object -/
theorem Rep.tup_new (A : At G dl Z O r sg H) {p : Addr} {ds : List D} {vs : List V} (h : H p = none) (q : RepL G dl (cut H Z) ds vs) : Rep G dl (cut (upd H p (.tup vs)) Z) (.tup ds) (.ref p) := by
  unfold Rep
  refine ⟨p, vs, rfl, SqT.of (by rw [cut_out (A.out h), upd_same]), q.mono ((Grow.new h).cut A.dz)⟩
theorem Rep.lst_new (A : At G dl Z O r sg H) {p : Addr} {ds : List D} {vs : List V} (h : H p = none) (q : RepL G dl (cut H Z) ds vs) : Rep G dl (cut (upd H p (.lst vs)) Z) (.lst ds) (.ref p) := by
  unfold Rep
  refine ⟨p, vs, rfl, by rw [cut_out (A.out h), upd_same], q.mono ((Grow.new h).cut A.dz)⟩
/-- a list read: tracked -/
theorem RepP.lst {ds : List D} (h : RepP G dl H Z (.lst ds) v) : ∃ a vs, v = .ref a ∧ H a = some (.lst vs) ∧ RepL G dl (cut H Z) ds vs := by
  rcases h with h | ⟨a, e, hz, hd, q⟩
  · unfold Rep at h
    obtain ⟨a, vs, e, q, rl⟩ := h
    exact ⟨a, vs, e, (cut_some q).2, rl⟩
  · obtain ⟨vs, e2, rl⟩ := q
    exact ⟨a, vs, e, e2, rl⟩
theorem RepP.tup {ds : List D} (h : RepP G dl H Z (.tup ds) v) : ∃ a vs, v = .ref a ∧ SqT G.K H a vs ∧ RepL G dl (cut H Z) ds vs := by
  rcases h with h | ⟨a, e, hz, hd, q⟩
  · unfold Rep at h
    obtain ⟨a, vs, e, q, rl⟩ := h
    exact ⟨a, vs, e, (cut_grow H Z).sqt q, rl⟩
  · exact q.elim
theorem RepP.str {x : List Nat} (h : RepP G dl H Z (.str x) v) : v = .str ⟨x.toArray⟩ := by
  rcases h with h | ⟨a, e, hz, hd, q⟩
  · unfold Rep at h; exact h
  · exact q.elim
theorem RepP.int {x : Int} (h : RepP G dl H Z (.int x) v) : v = .int x := by
  rcases h with h | ⟨a, e, hz, hd, q⟩
  · unfold Rep at h; exact h
  · exact q.elim
theorem RepP.bl {x : Bool} (h : RepP G dl H Z (.bl x) v) : v = .bl x := by
  rcases h with h | ⟨a, e, hz, hd, q⟩
  · unfold Rep at h; exact h
  · exact q.elim
theorem RepP.non (h : RepP G dl H Z .non v) : v = .non := by
  rcases h with h | ⟨a, e, hz, hd, q⟩
  · unfold Rep at h; exact h
  · exact q.elim
theorem Rep.int_ {S : Hp} {x : Int} : Rep G dl S (.int x) (.int x) := by unfold Rep; rfl
theorem Rep.bl_ {S : Hp} {x : Bool} : Rep G dl S (.bl x) (.bl x) := by unfold Rep; rfl
theorem Rep.non_ {S : Hp} : Rep G dl S .non .non := by unfold Rep; rfl
theorem Rep.str_ {S : Hp} {x : List Nat} : Rep G dl S (.str x) (.str ⟨x.toArray⟩) := by unfold Rep; rfl
/-- what is wanted of an error, behind a step -/
theorem epost (g1 : Grow dl H H1) {e : Exc} (h : ∀ cls dx H', Grow dl H H' → GlOk G dl H' → XRep G dl (cut H' Z) e cls dx H' → W cls dx sg H') :
    ∀ cls dx H', Grow dl H1 H' → GlOk G dl H' → XRep G dl (cut H' Z) e cls dx H' → W cls dx sg H' := fun cls dx H' g k x => h cls dx H' (g1.trans g) k x
end
def var (i : Nat) : LE → R D := fun r => match r[i]? with
  | some (.val d) => .ok d
  | _ => .stuck
def varP (i : Nat) : LE → R D := fun r => match r[i]? with
  | some (.val d) => .ok d
  | some (.own d) => .ok d
  | _ => .stuck
def cst (d : D) : LE → R D := fun _ => .ok d
section
variable {X : Cx} {G : Gm} {W : WX} {ex a b c : Expr} {es : List Expr} {f g : LE → R D} {pos p0 : Pos}
theorem DE.p (h : DE X G W ex f) : DP X G W ex f := PE_imp h fun sg H Q ⟨dl, Z, O, r, A, q⟩ => ⟨dl, Z, O, r, A, q.thn fun d h v H' g k rp => h v H' g k (.inl rp)⟩
theorem DF.e {f : LE → R (List D)} (h : DF X G W ex f) : DE X G W ex (fun r => (f r) >>= fun ds => .ok (.lst ds)) := PE_imp h fun sg H Q ⟨dl, Z, O, r, A, q⟩ => by
  refine ⟨dl, Z, O, r, A, q.bind.thn fun ds h p vs H' g k hp rl => ?_⟩
  exact h (.ref p) _ (g.trans (Grow.new hp)) (k.new hp) ((A.grow g k).gl |> fun _ => Rep.lst_new (A.grow g k) hp rl)
theorem de_var (i : Nat) {x : Str} (hN : X.N[i]? = some x := by rfl) (hv : Vis X.env.scope x := by first | exact Or.inl rfl | exact Or.inr (Or.inl rfl) | exact Or.inr (Or.inr rfl)) (hd : (x == ("__debug__" : Str)) = false := by decide)
    (hcd : (x == ("__classdict__" : Str)) = false := by decide) : DE X G W (.Name x pos) (var i) := PE_imp (pe_var hN hv hd hcd) fun sg H Q ⟨dl, Z, O, r, A, q⟩ => by
  unfold var at q
  split at q
  · rename_i d e
    obtain ⟨v, e1, rp⟩ := A.slot i _ e
    exact ⟨v, e1, q v H (.refl _ _) A.gl rp⟩
  · exact q.elim
theorem dp_var (i : Nat) {x : Str} (hN : X.N[i]? = some x := by rfl) (hv : Vis X.env.scope x := by first | exact Or.inl rfl | exact Or.inr (Or.inl rfl) | exact Or.inr (Or.inr rfl)) (hd : (x == ("__debug__" : Str)) = false := by decide)
    (hcd : (x == ("__classdict__" : Str)) = false := by decide) : DP X G W (.Name x pos) (varP i) := PE_imp (pe_var hN hv hd hcd) fun sg H Q ⟨dl, Z, O, r, A, q⟩ => by
  unfold varP at q
  split at q
  · rename_i d e
    obtain ⟨v, e1, rp⟩ := A.slot i _ e
    exact ⟨v, e1, q v H (.refl _ _) A.gl (.inl rp)⟩
  · rename_i d e
    obtain ⟨a, ha, e1, rp, _⟩ := A.slot i _ e
    exact ⟨_, e1, q _ H (.refl _ _) A.gl (.inr ⟨a, rfl, (A.own _ ha).1, (A.own _ ha).2, rp⟩)⟩
  · exact q.elim
theorem de_of {t : TE} {d : D} {v : V} (h : PE X ex (tC v)) (rp : ∀ dl S, Rep G dl S d v) : DE X G W ex (cst d) := PE_imp h fun sg H Q ⟨dl, Z, O, r, A, q⟩ => q v H (.refl _ _) A.gl (rp _ _)
theorem de_int {i j} : DE X G W (.Constant (.int i) j pos) (cst (.int i)) := de_of (t := tC .non) pe_int fun _ _ => Rep.int_
theorem de_bl {b j} : DE X G W (.Constant (.bool b) j pos) (cst (.bl b)) := de_of (t := tC .non) pe_bl fun _ _ => Rep.bl_
theorem de_non {j} : DE X G W (.Constant .none j pos) (cst .non) := de_of (t := tC .non) pe_non fun _ _ => Rep.non_
theorem de_str {x : Str} {j} (s : List Nat) (hx : x = ⟨s.toArray⟩ := by rfl) : DE X G W (.Constant (.str x) j pos) (cst (.str s)) := by
  subst hx; exact de_of (t := tC .non) pe_str fun _ _ => Rep.str_
theorem de_glob {x : Str} {v : V} {u : Value} {d : D} (hm : X.mg x = some u) (rv : RelV v u) (rp : ∀ dl S, Rep G dl S d v) (hg : Gl X x := by rfl) (hd : (x == ("__debug__" : Str)) = false := by decide) : DE X G W (.Name x pos) (cst d) :=
  de_of (t := tC .non) (pe_glob hg hm rv hd) rp
def OpD (X : Cx) (G : Gm) (fo : Value → Value → Sem Value) (g : D → D → R D) : Prop :=
  ∃ rr : R2, OpR X fo rr ∧ ∀ (dl : Addr) (Z : List Addr) (O : List (Nat × Addr)) (r : LE) (sg : St) (x y : D) (vx vy : V) (H : Hp) (Q : VK) (E : Exc → Prop), At G dl Z O r sg H → RepP G dl H Z x vx → RepP G dl H Z y vy →
    Wp (g x y) (fun d => ∀ v H', Grow dl H H' → GlOk G dl H' → Rep G dl (cut H' Z) d v → Q v H') E → rr vx vy H Q
theorem OpR.or {f : Value → Value → Sem Value} {r1 r2 : R2} (h1 : OpR X f r1) (h2 : OpR X f r2) : OpR X f (fun x y H Q => r1 x y H Q ∨ r2 x y H Q) := fun pins s sg H x y v u Q I rx ry h => by
  rcases h with h | h
  · exact h1 pins s sg H x y v u Q I rx ry h
  · exact h2 pins s sg H x y v u Q I rx ry h
theorem op_core {rr : R2} {gg : D → D → R D} (hop : ∀ (dl : Addr) (Z : List Addr) (O : List (Nat × Addr)) (r : LE) (sg : St) (x y : D) (vx vy : V) (H : Hp) (Q : VK) (E : Exc → Prop), At G dl Z O r sg H → RepP G dl H Z x vx → RepP G dl H Z y vy →
    Wp (gg x y) (fun d => ∀ v H', Grow dl H H' → GlOk G dl H' → Rep G dl (cut H' Z) d v → Q v H') E → rr vx vy H Q) {sg : St} {H : Hp} {Q : VK} (h : tD G W (fun r => do let x ← f r; let y ← g r; gg x y) sg H Q) : tOp rr (tP G W f) (tP G W g) sg H Q := by
  obtain ⟨dl, Z, O, r, A, q⟩ := h
  refine ⟨dl, Z, O, r, A, q.bind.thn fun x hx vx H1 g1 k1 rx => ?_⟩
  refine ⟨dl, Z, O, r, A.grow g1 k1, hx.bind.mono (fun y hy vy H2 g2 k2 ry => ?_) fun e he => epost g1 he⟩
  refine hop dl Z O r sg x y vx vy H2 Q _ ((A.grow g1 k1).grow g2 k2) (rx.grow (A.grow g1 k1) g2) ry (hy.thn fun d hd v H' g k rp => hd v H' ((g1.trans g2).trans g) k rp)
theorem de_op {op : Operator} {gg : D → D → R D} (ho : OpD X G (binaryOp op) gg) (ha : DP X G W a f) (hb : DP X G W b g) : DE X G W (.BinOp a op b pos) (fun r => do let x ← f r; let y ← g r; gg x y) := by
  obtain ⟨rr, h1, h2⟩ := ho
  exact PE_imp (pe_op h1 ha hb) fun sg H Q h => op_core h2 h
theorem de_cmp {op : CmpOp} {gg : D → D → R D} (ho : OpD X G (compareOp op) gg) (ha : DP X G W a f) (hb : DP X G W b g) (hm : behindInMarks op b = false := by first | exact nomark _ | rfl) : DE X G W (.Compare a [op] [b] pos) (fun r => do let x ← f r; let y ← g r; gg x y) := by
  obtain ⟨rr, h1, h2⟩ := ho
  exact PE_imp (pe_cmpR h1 ha hb hm) fun sg H Q h => op_core h2 h
/-- a value as a bool -/
def asB : D → R Bool
  | .bl b => .ok b
  | _ => .stuck
theorem tT_of {t : TE} {ff : LE → R D} (hd : ∀ sg H Q, tD G W ff sg H Q → t sg H Q) {sg : St} {H : Hp} {Q : Bool → Hp → Prop} (h : tT G W (fun r => ff r >>= asB) sg H Q) : t sg H (fun x H' => ∃ k, x = .bl k ∧ Q k H') := by
  obtain ⟨dl, Z, O, r, A, q⟩ := h
  refine hd _ _ _ ⟨dl, Z, O, r, A, q.bind.thn fun d h v H' g1 k1 rp => ?_⟩
  cases d <;> first | exact h.elim | skip
  rename_i k
  have := (RepP.of rp).bl
  exact ⟨k, this, h H' g1 k1⟩
theorem dt_cmp {op : CmpOp} {gg : D → D → R D} (ho : OpD X G (compareOp op) gg) (ha : DP X G W a f) (hb : DP X G W b g) (hm : behindInMarks op b = false := by first | exact nomark _ | rfl) : DT X G W (.Compare a [op] [b] pos) (fun r => (do let x ← f r; let y ← g r; gg x y) >>= asB) := by
  obtain ⟨rr, h1, h2⟩ := ho
  exact PT_imp (pt_cmpR h1 ha hb hm) fun sg H Q h => tT_of (t := tOp rr (tP G W f) (tP G W g)) (fun sg H Q h => op_core h2 h) h
/-- any other expression that gives a bool, as a test -/
theorem dt_val (h : DE X G W ex f) (he : ∀ whole, isTrue ex X.env whole = (do let v ← whole; standAt ex.pos; holding [v] (truthy v)) := by intro _; rfl) : DT X G W ex (fun r => f r >>= asB) :=
  PT_imp (pt_val h he) fun sg H Q q => tT_of (t := tD G W f) (fun _ _ _ z => z) q
end
end DL
set_option Elab.async false
set_option linter.all false
set_option maxRecDepth 100000
namespace DL
open PySem L2
mutual
def D.eqb : D → D → Bool
  | .non, .non => true
  | .bl a, .bl b => a == b
  | .bl a, .int j => (if a then 1 else 0) == j
  | .int i, .bl b => i == (if b then 1 else 0)
  | .int i, .int j => i == j
  | .str x, .str y => x == y
  | .lst xs, .lst ys => D.eqbs xs ys
  | .tup xs, .tup ys => D.eqbs xs ys
  | _, _ => false
def D.eqbs : List D → List D → Bool
  | [], [] => true
  | x :: xs, y :: ys => D.eqb x y && D.eqbs xs ys
  | _, _ => false
end
mutual
/-- plain data, at most n deep -/
def D.sh : D → Nat → Bool
  | .non, _ => true
  | .bl _, _ => true
  | .int _, _ => true
  | .str s, _ => s.all (· < 0x110000)
  | .lst xs, n => match n with
    | 0 => false
    | n + 1 => D.shs xs n
  | .tup xs, n => match n with
    | 0 => false
    | n + 1 => D.shs xs n
  | _, _ => false
def D.shs : List D → Nat → Bool
  | [], _ => true
  | x :: xs, n => D.sh x n && D.shs xs n
end
mutual
def D.toP : D → PyData
  | .bl b => .bool b
  | .int i => .int i
  | .str s => .str ⟨s.toArray⟩
  | .lst xs => .list (D.toPs xs)
  | .tup xs => .tuple (D.toPs xs)
  | _ => .none
def D.toPs : List D → List PyData
  | [] => []
  | x :: xs => D.toP x :: D.toPs xs
end
mutual
theorem sh_lay : ∀ (d : D) (n : Nat), d.sh n = true → (d.toP).canLay0 = true ∧ (d.toP).depth ≤ n
  | .non, n, h => by simp [D.toP, PyData.canLay0, PyData.depth]
  | .bl b, n, h => by simp [D.toP, PyData.canLay0, PyData.depth]
  | .int i, n, h => by simp [D.toP, PyData.canLay0, PyData.depth]
  | .str s, n, h => by
    simp only [D.sh] at h
    refine ⟨?_, by simp [D.toP, PyData.depth]⟩
    simp only [D.toP, PyData.canLay0, PyData.strOk]
    simpa using h
  | .lst xs, 0, h => by simp [D.sh] at h
  | .lst xs, n + 1, h => by
    simp only [D.sh] at h
    have := shs_lay xs n h
    simp only [D.toP, PyData.canLay0, PyData.depth]
    exact ⟨this.1, by omega⟩
  | .tup xs, 0, h => by simp [D.sh] at h
  | .tup xs, n + 1, h => by
    simp only [D.sh] at h
    have := shs_lay xs n h
    simp only [D.toP, PyData.canLay0, PyData.depth]
    exact ⟨this.1, by omega⟩
  | .dic _, n, h => by simp [D.sh] at h
  | .cdic _, n, h => by simp [D.sh] at h
  | .ins _ _, n, h => by simp [D.sh] at h
  | .dice, n, h => by simp [D.sh] at h
  | .fn _, n, h => by simp [D.sh] at h
theorem shs_lay : ∀ (ds : List D) (n : Nat), D.shs ds n = true → PyData.canLayAll0 (D.toPs ds) = true ∧ PyData.depthAll (D.toPs ds) ≤ n
  | [], n, h => by simp [D.toPs, PyData.canLayAll0, PyData.depthAll]
  | d :: ds, n, h => by
    simp only [D.shs, Bool.and_eq_true] at h
    have h1 := sh_lay d n h.1
    have h2 := shs_lay ds n h.2
    simp only [D.toPs, PyData.canLayAll0, PyData.depthAll, h1.1, h2.1, Bool.and_self, true_and]
    exact Nat.max_le.mpr ⟨h1.2, h2.2⟩
end
theorem sh_shaped {d : D} (h : d.sh 64 = true) : SeqAt.shaped d.toP = true := by
  have := sh_lay d 64 h
  unfold SeqAt.shaped
  rw [this.1, decide_eq_true this.2]; rfl
mutual
theorem eqb_eqv : ∀ (x y : D) (n m : Nat), x.sh n = true → y.sh m = true → PyData.eqv x.toP y.toP = D.eqb x y
  | .non, y, n, m, hx, hy => by cases y <;> simp_all [D.toP, D.eqb, PyData.eqv, D.sh]
  | .bl b, y, n, m, hx, hy => by cases y <;> simp_all [D.toP, D.eqb, PyData.eqv, D.sh]
  | .int i, y, n, m, hx, hy => by cases y <;> simp_all [D.toP, D.eqb, PyData.eqv, D.sh]
  | .str s, y, n, m, hx, hy => by
    cases y <;> simp_all [D.toP, D.eqb, PyData.eqv, D.sh]
    rw [Bool.eq_iff_iff]; simp
  | .lst xs, y, n, m, hx, hy => by
    cases y <;> first | (simp_all [D.toP, D.eqb, PyData.eqv, D.sh]; done) | skip
    rename_i ys
    cases n <;> first | (simp [D.sh] at hx; done) | skip
    cases m <;> first | (simp [D.sh] at hy; done) | skip
    simp only [D.sh] at hx hy
    simp only [D.toP, D.eqb, PyData.eqv]
    exact eqbs_eqv xs ys _ _ hx hy
  | .tup xs, y, n, m, hx, hy => by
    cases y <;> first | (simp_all [D.toP, D.eqb, PyData.eqv, D.sh]; done) | skip
    rename_i ys
    cases n <;> first | (simp [D.sh] at hx; done) | skip
    cases m <;> first | (simp [D.sh] at hy; done) | skip
    simp only [D.sh] at hx hy
    simp only [D.toP, D.eqb, PyData.eqv]
    exact eqbs_eqv xs ys _ _ hx hy
  | .dic _, y, n, m, hx, hy => by simp [D.sh] at hx
  | .cdic _, y, n, m, hx, hy => by simp [D.sh] at hx
  | .ins _ _, y, n, m, hx, hy => by simp [D.sh] at hx
  | .dice, y, n, m, hx, hy => by simp [D.sh] at hx
  | .fn _, y, n, m, hx, hy => by simp [D.sh] at hx
theorem eqbs_eqv : ∀ (xs ys : List D) (n m : Nat), D.shs xs n = true → D.shs ys m = true → PyData.eqvAll (D.toPs xs) (D.toPs ys) = D.eqbs xs ys
  | [], [], n, m, hx, hy => by simp [D.toPs, D.eqbs, PyData.eqvAll]
  | [], y :: ys, n, m, hx, hy => by simp [D.toPs, D.eqbs, PyData.eqvAll]
  | x :: xs, [], n, m, hx, hy => by simp [D.toPs, D.eqbs, PyData.eqvAll]
  | x :: xs, y :: ys, n, m, hx, hy => by
    simp only [D.shs, Bool.and_eq_true] at hx hy
    simp only [D.toPs, D.eqbs, PyData.eqvAll, eqb_eqv x y n m hx.1 hy.1, eqbs_eqv xs ys n m hx.2 hy.2]
end
section
variable {G : Gm} {dl : Addr} {S H : Hp} {Z : List Addr}
mutual
theorem Rep.dp (g : GrowS S H) : ∀ (d : D) (n : Nat) {v : V}, d.sh n = true → Rep G dl S d v → Dp G.K H v d.toP
  | .non, n, v, h, q => by unfold Rep at q; subst q; exact .non
  | .bl b, n, v, h, q => by unfold Rep at q; subst q; exact .bl b
  | .int i, n, v, h, q => by unfold Rep at q; subst q; exact .int i
  | .str s, n, v, h, q => by unfold Rep at q; subst q; exact .str _
  | .lst xs, 0, v, h, q => by simp [D.sh] at h
  | .lst xs, n + 1, v, h, q => by
    unfold Rep at q
    obtain ⟨a, vs, rfl, h1, h2⟩ := q
    simp only [D.sh] at h
    exact .lst (SqL.of (g a _ h1 fun ps z => by cases z)) (RepL.dp g xs n h h2)
  | .tup xs, 0, v, h, q => by simp [D.sh] at h
  | .tup xs, n + 1, v, h, q => by
    unfold Rep at q
    obtain ⟨a, vs, rfl, h1, h2⟩ := q
    simp only [D.sh] at h
    exact .tup (g.sqt h1) (RepL.dp g xs n h h2)
  | .dic _, n, v, h, q => by simp [D.sh] at h
  | .cdic _, n, v, h, q => by simp [D.sh] at h
  | .ins _ _, n, v, h, q => by simp [D.sh] at h
  | .dice, n, v, h, q => by simp [D.sh] at h
  | .fn _, n, v, h, q => by simp [D.sh] at h
theorem RepL.dp (g : GrowS S H) : ∀ (ds : List D) (n : Nat) {vs : List V}, D.shs ds n = true → RepL G dl S ds vs → DpAll G.K H vs (D.toPs ds)
  | [], n, vs, h, q => by unfold RepL at q; subst q; exact .nil
  | d :: ds, n, vs, h, q => by
    unfold RepL at q
    obtain ⟨v, r, rfl, h1, h2⟩ := q
    simp only [D.shs, Bool.and_eq_true] at h
    exact .cons (Rep.dp g d n h.1 h1) (RepL.dp g ds n h.2 h2)
end
theorem RepP.dp {d : D} {n : Nat} {v : V} (h : d.sh n = true) (q : RepP G dl H Z d v) : Dp G.K H v d.toP := by
  rcases q with q | ⟨a, rfl, hz, hd, q⟩
  · exact Rep.dp (cut_grow H Z) d n h q
  · cases d <;> first | exact q.elim | (simp [D.sh] at h; done) | skip
    rename_i xs
    obtain ⟨vs, e, rl⟩ := q
    cases n <;> first | (simp [D.sh] at h; done) | skip
    simp only [D.sh] at h
    exact .lst (SqL.of e) (RepL.dp (cut_grow H Z) xs _ h rl)
end
/-- scalars of kinds that == tells apart -/
def D.sc : D → D → Bool
  | .non, .non => true | .non, .int _ => true | .int _, .non => true | .non, .bl _ => true | .bl _, .non => true | .non, .str _ => true | .str _, .non => true
  | .int _, .int _ => true | .bl _, .bl _ => true | .str _, .str _ => true
  | .int _, .str _ => true | .str _, .int _ => true | .bl _, .str _ => true | .str _, .bl _ => true
  | _, _ => false
def eqD (x y : D) : R D := if (x.sc y || (x.sh 64 && y.sh 64)) = true then .ok (.bl (x.eqb y)) else .stuck
def neD (x y : D) : R D := if (x.sc y || (x.sh 64 && y.sh 64)) = true then .ok (.bl (!x.eqb y)) else .stuck
section
variable {X : Cx} {G : Gm}
theorem RepP.sc {dl : Addr} {H : Hp} {Z : List Addr} {x y : D} {vx vy : V} (h : x.sc y = true) (hx : RepP G dl H Z x vx) (hy : RepP G dl H Z y vy) : scal vx vy = true ∧ decide (vx = vy) = x.eqb y := by
  cases x <;> cases y <;> first | (simp [D.sc] at h; done) | skip
  all_goals first
    | (cases hx.non; cases hy.non; simp [scal, D.eqb]; done)
    | (cases hx.non; cases hy.int; simp [scal, D.eqb]; done)
    | (cases hx.non; cases hy.bl; simp [scal, D.eqb]; done)
    | (cases hx.non; cases hy.str; simp [scal, D.eqb]; done)
    | (cases hx.int; cases hy.non; simp [scal, D.eqb]; done)
    | (cases hx.int; cases hy.int; simp [scal, D.eqb, Bool.beq_eq_decide_eq]; done)
    | (cases hx.int; cases hy.str; simp [scal, D.eqb]; done)
    | (cases hx.bl; cases hy.non; simp [scal, D.eqb]; done)
    | (cases hx.bl; cases hy.bl; simp [scal, D.eqb, Bool.beq_eq_decide_eq]; done)
    | (cases hx.bl; cases hy.str; simp [scal, D.eqb]; done)
    | (cases hx.str; cases hy.non; simp [scal, D.eqb]; done)
    | (cases hx.str; cases hy.int; simp [scal, D.eqb]; done)
    | (cases hx.str; cases hy.bl; simp [scal, D.eqb]; done)
    | (cases hx.str; cases hy.str; simp only [scal, D.eqb, true_and]; rw [Bool.eq_iff_iff]; simp; done)
theorem op_eq_d (hG : G.K = X.K) (hu : X.A.units + 64 < cLine) : OpD X G (compareOp .Eq) eqD := by
  refine ⟨_, OpR.or op_eq (op_eqD hu), fun dl Z O r sg x y vx vy H Q E A hx hy h => ?_⟩
  unfold eqD at h
  split at h
  · rename_i hc
    rw [Bool.or_eq_true, Bool.and_eq_true] at hc
    rcases hc with hc | ⟨h1, h2⟩
    · obtain ⟨e1, e2⟩ := hx.sc hc hy
      refine .inl ⟨e1, ?_⟩
      rw [e2]; exact h _ H (.refl _ _) A.gl Rep.bl_
    · refine .inr ⟨x.toP, y.toP, hG ▸ hx.dp h1, hG ▸ hy.dp h2, sh_shaped h1, sh_shaped h2, ?_⟩
      rw [eqb_eqv x y _ _ h1 h2]; exact h _ H (.refl _ _) A.gl Rep.bl_
  · exact h.elim
theorem op_ne_d (hG : G.K = X.K) (hu : X.A.units + 64 < cLine) : OpD X G (compareOp .NotEq) neD := by
  refine ⟨_, OpR.or op_ne (op_neD hu), fun dl Z O r sg x y vx vy H Q E A hx hy h => ?_⟩
  unfold neD at h
  split at h
  · rename_i hc
    rw [Bool.or_eq_true, Bool.and_eq_true] at hc
    rcases hc with hc | ⟨h1, h2⟩
    · obtain ⟨e1, e2⟩ := hx.sc hc hy
      refine .inl ⟨e1, ?_⟩
      rw [e2]; exact h _ H (.refl _ _) A.gl Rep.bl_
    · refine .inr ⟨x.toP, y.toP, hG ▸ hx.dp h1, hG ▸ hy.dp h2, sh_shaped h1, sh_shaped h2, ?_⟩
      rw [eqb_eqv x y _ _ h1 h2]; exact h _ H (.refl _ _) A.gl Rep.bl_
  · exact h.elim
def subD : D → D → R D
  | .int i, .int j => .ok (.int (i - j))
  | _, _ => .stuck
def ltD : D → D → R D
  | .int i, .int j => .ok (.bl (decide (i < j)))
  | .str i, .str j => .ok (.bl (decide (i < j)))
  | _, _ => .stuck
def leD : D → D → R D
  | .int i, .int j => .ok (.bl (decide (i ≤ j)))
  | .str i, .str j => .ok (.bl (!decide (j < i)))
  | _, _ => .stuck
def gtD : D → D → R D
  | .int i, .int j => .ok (.bl (decide (j < i)))
  | .str i, .str j => .ok (.bl (decide (j < i)))
  | _, _ => .stuck
def geD : D → D → R D
  | .int i, .int j => .ok (.bl (decide (j ≤ i)))
  | .str i, .str j => .ok (.bl (!decide (i < j)))
  | _, _ => .stuck
theorem op_sub_d : OpD X G (binaryOp .Sub) subD := by
  refine ⟨_, op_sub, fun dl Z O r sg x y vx vy H Q E A hx hy h => ?_⟩
  unfold subD at h
  split at h
  · exact ⟨_, _, hx.int, hy.int, h _ H (.refl _ _) A.gl Rep.int_⟩
  · exact h.elim
theorem op_lt_d : OpD X G (compareOp .Lt) ltD := by
  refine ⟨_, OpR.or op_lt op_lt_str, fun dl Z O r sg x y vx vy H Q E A hx hy h => ?_⟩
  unfold ltD at h
  split at h
  · exact .inl ⟨_, _, hx.int, hy.int, h _ H (.refl _ _) A.gl Rep.bl_⟩
  · exact .inr ⟨_, _, hx.str, hy.str, h _ H (.refl _ _) A.gl Rep.bl_⟩
  · exact h.elim
theorem op_le_d : OpD X G (compareOp .LtE) leD := by
  refine ⟨_, OpR.or op_le op_le_str, fun dl Z O r sg x y vx vy H Q E A hx hy h => ?_⟩
  unfold leD at h
  split at h
  · exact .inl ⟨_, _, hx.int, hy.int, h _ H (.refl _ _) A.gl Rep.bl_⟩
  · exact .inr ⟨_, _, hx.str, hy.str, h _ H (.refl _ _) A.gl Rep.bl_⟩
  · exact h.elim
theorem op_gt_d : OpD X G (compareOp .Gt) gtD := by
  refine ⟨_, OpR.or op_gt op_gt_str, fun dl Z O r sg x y vx vy H Q E A hx hy h => ?_⟩
  unfold gtD at h
  split at h
  · exact .inl ⟨_, _, hx.int, hy.int, h _ H (.refl _ _) A.gl Rep.bl_⟩
  · exact .inr ⟨_, _, hx.str, hy.str, h _ H (.refl _ _) A.gl Rep.bl_⟩
  · exact h.elim
theorem op_ge_d : OpD X G (compareOp .GtE) geD := by
  refine ⟨_, OpR.or op_ge op_ge_str, fun dl Z O r sg x y vx vy H Q E A hx hy h => ?_⟩
  unfold geD at h
  split at h
  · exact .inl ⟨_, _, hx.int, hy.int, h _ H (.refl _ _) A.gl Rep.bl_⟩
  · exact .inr ⟨_, _, hx.str, hy.str, h _ H (.refl _ _) A.gl Rep.bl_⟩
  · exact h.elim
end
def addD : D → D → R D
  | .int i, .int j => .ok (.int (i + j))
  | .str a, .str b => if a.length + b.length ≤ 16777216 then .ok (.str (a ++ b)) else .stuck
  | .lst a, .lst b => if a.length + b.length ≤ 16777216 then .ok (.lst (a ++ b)) else .stuck
  | .tup a, .tup b => if a.length + b.length ≤ 16777216 then .ok (.tup (a ++ b)) else .stuck
  | _, _ => .stuck
def mulD : D → D → R D
  | .int i, .int j => if (-(18446744073709551616) < i ∧ i < 18446744073709551616) ∨ (-(18446744073709551616) < j ∧ j < 18446744073709551616) then .ok (.int (i * j)) else .stuck
  | _, _ => .stuck
section
variable {X : Cx} {G : Gm}
theorem str_add (a b : List Nat) : (⟨a.toArray⟩ : Str) ++ ⟨b.toArray⟩ = ⟨(a ++ b).toArray⟩ := by
  show Str.mk (a.toArray ++ b.toArray) = _
  simp
theorem op_mul_d : OpD X G (binaryOp .Mult) mulD := by
  refine ⟨_, op_mul, fun dl Z O r sg x y vx vy H Q E A hx hy h => ?_⟩
  unfold mulD at h
  split at h
  · split at h
    · rename_i hc
      exact ⟨_, _, hx.int, hy.int, (by unfold CMul; omega), h _ H (.refl _ _) A.gl Rep.int_⟩
    · exact h.elim
  · exact h.elim
theorem op_add_d (hG : G.K = X.K) : OpD X G (binaryOp .Add) addD := by
  refine ⟨_, OpR.or op_add (OpR.or op_add_str (OpR.or op_cat op_catA)), fun dl Z O r sg x y vx vy H Q E A hx hy h => ?_⟩
  unfold addD at h
  split at h
  · exact .inl ⟨_, _, hx.int, hy.int, h _ H (.refl _ _) A.gl Rep.int_⟩
  · split at h
    · rename_i a b hc
      refine .inr (.inl ⟨_, _, hx.str, hy.str, by rw [sizeLine_eq]; simpa [Str.length] using hc, ?_⟩)
      rw [str_add]
      exact h _ H (.refl _ _) A.gl Rep.str_
    · exact h.elim
  · split at h
    · rename_i a b hc
      obtain ⟨p, vs, rfl, h1, r1⟩ := hx.lst
      obtain ⟨q, us, rfl, h2, r2⟩ := hy.lst
      refine .inr (.inr (.inl ⟨_, _, _, _, rfl, rfl, h1, h2, by rw [sizeLine_eq, r1.length, r2.length]; exact hc, fun l hl => ?_⟩))
      exact h _ _ (.new hl) (A.gl.new hl) (Rep.lst_new A hl (r1.append r2))
    · exact h.elim
  · split at h
    · rename_i a b hc
      obtain ⟨p, vs, rfl, h1, r1⟩ := hx.tup
      obtain ⟨q, us, rfl, h2, r2⟩ := hy.tup
      have e1 := r1.length
      have e2 := r2.length
      refine .inr (.inr (.inr ⟨_, _, _, _, rfl, rfl, hG ▸ h1, hG ▸ h2, by rw [sizeLine_eq, e1, e2]; exact hc, fun z => ?_, fun z1 z2 => ?_, fun _ _ l hl => ?_⟩))
      · subst z
        have : a = [] := List.length_eq_zero_iff.mp e1.symm
        subst this
        rcases hy with hy | ⟨_, _, _, _, hy⟩
        · exact h _ H (.refl _ _) A.gl hy
        · exact hy.elim
      · subst z2
        have : b = [] := List.length_eq_zero_iff.mp e2.symm
        subst this
        rcases hx with hx | ⟨_, _, _, _, hx⟩
        · rw [List.append_nil] at h
          exact h _ H (.refl _ _) A.gl hx
        · exact hx.elim
      · exact h _ _ (.new hl) (A.gl.new hl) (Rep.tup_new A hl (r1.append r2))
    · exact h.elim
  · exact h.elim
end
end DL
set_option Elab.async false
set_option linter.all false
set_option maxRecDepth 100000
namespace DL
open PySem L2 PySem.Spec PyProof.Rows
def andT (f g : LE → R Bool) : LE → R Bool := fun r => do if (← f r) then g r else .ok false
def orT (f g : LE → R Bool) : LE → R Bool := fun r => do if (← f r) then .ok true else g r
def notT (f : LE → R Bool) : LE → R Bool := fun r => do let b ← f r; .ok (!b)
def andV (f g : LE → R D) : LE → R D := fun r => do
  match ← f r with
  | .bl true => g r
  | .bl false => .ok (.bl false)
  | _ => .stuck
def orV (f g : LE → R D) : LE → R D := fun r => do
  match ← f r with
  | .bl true => .ok (.bl true)
  | .bl false => g r
  | _ => .stuck
def notV (f : LE → R D) : LE → R D := fun r => do
  match ← f r with
  | .bl b => .ok (.bl (!b))
  | _ => .stuck
def iteE (c : LE → R Bool) (f g : LE → R D) : LE → R D := fun r => do if (← c r) then f r else g r
section
variable {X : Cx} {G : Gm} {W : WX} {ex a b c : Expr} {rest : List Expr} {f g : LE → R D} {h k : LE → R Bool} {pos : Pos}
theorem dw_and1 (ha : DT X G W a h) : DW X G W (.BoolOp .And [a] pos) h := pw_and1 ha
theorem dw_or1 (ha : DT X G W a h) : DW X G W (.BoolOp .Or [a] pos) h := pw_or1 ha
theorem dw_and (ha : DT X G W a h) (hb : DW X G W (.BoolOp .And (b :: rest) pos) k) : DW X G W (.BoolOp .And (a :: b :: rest) pos) (andT h k) := PW_imp (pw_and ha hb) fun sg H Q ⟨dl, Z, O, r, A, q⟩ => by
  refine ⟨dl, Z, O, r, A, q.bind.thn fun b hb H1 g1 k1 => ?_⟩
  cases b with
  | true => exact ⟨dl, Z, O, r, A.grow g1 k1, hb.mono (fun b q H2 g2 k2 => q H2 (g1.trans g2) k2) fun e => epost g1⟩
  | false => exact hb H1 g1 k1
theorem dw_or (ha : DT X G W a h) (hb : DW X G W (.BoolOp .Or (b :: rest) pos) k) : DW X G W (.BoolOp .Or (a :: b :: rest) pos) (orT h k) := PW_imp (pw_or ha hb) fun sg H Q ⟨dl, Z, O, r, A, q⟩ => by
  refine ⟨dl, Z, O, r, A, q.bind.thn fun b hb H1 g1 k1 => ?_⟩
  cases b with
  | true => exact hb H1 g1 k1
  | false => exact ⟨dl, Z, O, r, A.grow g1 k1, hb.mono (fun b q H2 g2 k2 => q H2 (g1.trans g2) k2) fun e => epost g1⟩
theorem dt_w (h' : DW X G W ex h) : DT X G W ex h := h'.pt
theorem dt_not (ha : DT X G W a h) : DT X G W (.UnaryOp .Not a pos) (notT h) := PT_imp (pt_not ha) fun sg H Q ⟨dl, Z, O, r, A, q⟩ =>
  ⟨dl, Z, O, r, A, q.bind.thn fun b hb H1 g1 k1 => hb H1 g1 k1⟩
theorem de_one {op} (ha : DE X G W a f) : DE X G W (.BoolOp op [a] pos) f := pe_one ha
theorem de_and (ha : DE X G W a f) (hb : DE X G W (.BoolOp .And (b :: rest) pos) g) : DE X G W (.BoolOp .And (a :: b :: rest) pos) (andV f g) := PE_imp (pe_and ha hb) fun sg H Q ⟨dl, Z, O, r, A, q⟩ => by
  refine ⟨dl, Z, O, r, A, q.bind.thn fun d hd v H1 g1 k1 rp => ?_⟩
  split at hd
  · exact ⟨true, (RepP.of rp).bl, ⟨dl, Z, O, r, A.grow g1 k1, hd.mono (fun d q v H2 g2 k2 => q v H2 (g1.trans g2) k2) fun e => epost g1⟩⟩
  · exact ⟨false, (RepP.of rp).bl, hd _ H1 g1 k1 Rep.bl_⟩
  · exact hd.elim
theorem de_if (hc : DT X G W c h) (ha : DE X G W a f) (hb : DE X G W b g) : DE X G W (.IfExp c a b pos) (iteE h f g) := PE_imp (pe_ifExp hc ha hb) fun sg H Q ⟨dl, Z, O, r, A, q⟩ => by
  refine ⟨dl, Z, O, r, A, q.bind.thn fun b hb H1 g1 k1 => ?_⟩
  cases b with
  | true => exact ⟨dl, Z, O, r, A.grow g1 k1, hb.mono (fun d q v H2 g2 k2 => q v H2 (g1.trans g2) k2) fun e => epost g1⟩
  | false => exact ⟨dl, Z, O, r, A.grow g1 k1, hb.mono (fun d q v H2 g2 k2 => q v H2 (g1.trans g2) k2) fun e => epost g1⟩
def chainE (f1 f2 f3 : LE → R D) (g g' : D → D → R D) : LE → R D := fun r => do
  let x ← f1 r
  let y ← f2 r
  match ← g x y with
  | .bl true => do
    let w ← f3 r
    g' y w
  | .bl false => .ok (.bl false)
  | _ => .stuck
theorem chain_core {f1 f2 f3 : LE → R D} {g1 g2 : D → D → R D} {r1 r2 : R2}
    (h1 : ∀ (dl : Addr) (Z : List Addr) (O : List (Nat × Addr)) (r : LE) (sg : L2.St) (x y : D) (vx vy : V) (H : Hp) (Q : VK) (E : Exc → Prop), At G dl Z O r sg H → RepP G dl H Z x vx → RepP G dl H Z y vy →
      Wp (g1 x y) (fun d => ∀ v H', Grow dl H H' → GlOk G dl H' → Rep G dl (cut H' Z) d v → Q v H') E → r1 vx vy H Q)
    (h2 : ∀ (dl : Addr) (Z : List Addr) (O : List (Nat × Addr)) (r : LE) (sg : L2.St) (x y : D) (vx vy : V) (H : Hp) (Q : VK) (E : Exc → Prop), At G dl Z O r sg H → RepP G dl H Z x vx → RepP G dl H Z y vy →
      Wp (g2 x y) (fun d => ∀ v H', Grow dl H H' → GlOk G dl H' → Rep G dl (cut H' Z) d v → Q v H') E → r2 vx vy H Q) {sg : L2.St} {H : Hp} {Q : VK} (h : tD G W (chainE f1 f2 f3 g1 g2) sg H Q) :
    tChain r1 r2 (tP G W f1) (tP G W f2) (tP G W f3) sg H Q := by
  obtain ⟨dl, Z, O, r, A, q⟩ := h
  refine ⟨dl, Z, O, r, A, q.bind.thn fun x hx vx H1 q1 k1 rx => ?_⟩
  have A1 := A.grow q1 k1
  refine ⟨dl, Z, O, r, A1, hx.bind.mono (fun y hy vy H2 q2 k2 ry => ?_) fun e he => epost q1 he⟩
  have A2 := A1.grow q2 k2
  refine h1 dl Z O r sg x y vx vy H2 _ _ A2 (rx.grow A1 q2) ry (hy.bind.thn fun z hz v H3 q3 k3 rz => ?_)
  have A3 := A2.grow q3 k3
  split at hz
  · refine ⟨true, (RepP.of rz).bl, ?_⟩
    rw [if_pos rfl]
    refine ⟨dl, Z, O, r, A3, hz.bind.mono (fun w hw vw H4 q4 k4 rw_ => ?_) fun e he => epost ((q1.trans q2).trans q3) he⟩
    exact h2 dl Z O r sg y w vy vw H4 Q _ (A3.grow q4 k4) ((ry.grow A2 q3).grow A3 q4) rw_ (hw.thn fun d hd v H' g k rp => hd v H' ((((q1.trans q2).trans q3).trans q4).trans g) k rp)
  · refine ⟨false, (RepP.of rz).bl, ?_⟩
    rw [if_neg Bool.false_ne_true]
    exact hz _ H3 ((q1.trans q2).trans q3) k3 Rep.bl_
  · exact hz.elim
theorem dt_chain {op op' : CmpOp} {f1 f2 f3 : LE → R D} {g1 g2 : D → D → R D} (ho : OpD X G (compareOp op) g1) (ho' : OpD X G (compareOp op') g2) (ha : DP X G W a f1) (hb : DP X G W b f2) (hc : DP X G W c f3)
    (hm : lastMarks [op, op'] [b, c] = false := by with_unfolding_all rfl) : DT X G W (.Compare a [op, op'] [b, c] pos) (fun r => chainE f1 f2 f3 g1 g2 r >>= asB) := by
  obtain ⟨r1, h1, h2⟩ := ho
  obtain ⟨r2, h3, h4⟩ := ho'
  exact PT_imp (pt_chain h1 h3 ha hb hc hm) fun sg H Q h => tT_of (t := tChain r1 r2 (tP G W f1) (tP G W f2) (tP G W f3)) (fun sg H Q h => chain_core h2 h4 h) h
end
def anil : LE → R (List D) := fun _ => .ok []
def acons (f : LE → R D) (fs : LE → R (List D)) : LE → R (List D) := fun r => do
  let x ← f r
  let xs ← fs r
  .ok (x :: xs)
def tupE (fs : LE → R (List D)) : LE → R D := fun r => do
  let ds ← fs r
  if ds.length ≤ 16777216 then .ok (.tup ds) else .stuck
def lstE (fs : LE → R (List D)) : LE → R (List D) := fun r => do
  let ds ← fs r
  if ds.length ≤ 16777216 then .ok ds else .stuck
section
variable {X : Cx} {G : Gm} {W : WX} {ex a b c : Expr} {es : List Expr} {f g : LE → R D} {fs : LE → R (List D)} {pos : Pos}
theorem da_nil : DA X G W [] anil := PA_imp pa_nil fun sg H Q ⟨dl, Z, O, r, A, q⟩ => q [] H (.refl _ _) A.gl RepL.nil
theorem da_cons (ha : DE X G W a f) (hs : DA X G W es fs) (hst : starEach (a :: es) X.env = (false, eval a X.env) :: starEach es X.env := by rfl) : DA X G W (a :: es) (acons f fs) := PA_imp (pa_cons ha hs hst) fun sg H Q ⟨dl, Z, O, r, A, q⟩ => by
  refine ⟨dl, Z, O, r, A, q.bind.thn fun x hx v H1 g1 k1 rp => ?_⟩
  refine ⟨dl, Z, O, r, A.grow g1 k1, hx.bind.mono (fun xs hxs vs H2 g2 k2 rl => ?_) fun e => epost g1⟩
  exact hxs (v :: vs) H2 (g1.trans g2) k2 (RepL.cons (rp.mono (g2.cut A.dz)) rl)
theorem de_tup {x1} (h : DA X G W es fs) : DE X G W (.Tuple es x1 pos) (tupE fs) := PE_imp (pe_tup h) fun sg H Q ⟨dl, Z, O, r, A, q⟩ => by
  refine ⟨dl, Z, O, r, A, q.bind.thn fun ds hd vs H1 g1 k1 rl => ?_⟩
  split at hd
  · rename_i hc
    refine ⟨by rw [sizeLine_eq, rl.length]; exact hc, fun p hp => ?_⟩
    exact hd _ _ (g1.trans (.new hp)) (k1.new hp) (Rep.tup_new (A.grow g1 k1) hp rl)
  · exact hd.elim
theorem df_lst (h : DA X G W es fs) : DF X G W (.List es pos) (lstE fs) := PE_imp (pe_lst h) fun sg H Q ⟨dl, Z, O, r, A, q⟩ => by
  refine ⟨dl, Z, O, r, A, q.bind.thn fun ds hd vs H1 g1 k1 rl => ?_⟩
  split at hd
  · rename_i hc
    exact ⟨by rw [sizeLine_eq, rl.length]; exact hc, fun p hp => hd p vs H1 g1 k1 hp rl⟩
  · exact hd.elim
/-- the place of a field: by the class -/
def fldD (fx : Nat → Option Nat) : D → R D
  | .ins c ds => match fx c with
    | some j => match ds[j]? with
      | some d => .ok d
      | none => .stuck
    | none => .stuck
  | _ => .stuck
def ixD : D → D → R D
  | .lst xs, .int i => match atI xs i with
    | some d => .ok d
    | none => .stuck
  | .tup xs, .int i => match atI xs i with
    | some d => .ok d
    | none => .stuck
  | .str s, .int i => if s.length ≤ 16777216 then (match atI s i with
    | some c => .ok (.str [c])
    | none => .stuck) else .stuck
  | _, _ => .stuck
theorem atI_rep {G : Gm} {dl : Addr} {S : Hp} {ds : List D} {vs : List V} {i : Int} {d : D} (rl : RepL G dl S ds vs) (h : atI ds i = some d) : ∃ v, atI vs i = some v ∧ Rep G dl S d v := by
  unfold atI at *
  rw [rl.length]
  cases e : ixN ds.length i with
  | none => rw [e] at h; cases h
  | some j =>
    rw [e] at h
    exact RepL.getD ds vs j d rl h
end
end DL
set_option Elab.async false
set_option linter.all false
set_option maxRecDepth 100000
namespace DL
open PySem L2 PySem.Spec PyProof.Rows
abbrev Live (Z : List Addr) (H : Hp) : Prop := ∀ a ∈ Z, ∃ o, H a = some o ∧ ∀ ps, o ≠ .tbl ps
/-- a def's promise: it comes to g of what its arguments are -/
def spD (G : Gm) (n : Nat) (g : List D → R D) : Sp := fun vs H Q E => vs.length = n ∧ ∃ dl Z ds, GlOk G dl H ∧ dl ∈ Z ∧ Live Z H ∧ RepL G dl (cut H Z) ds vs ∧
  Wp (g ds) (fun d => ∀ v H', Grow dl H H' → GlOk G dl H' → Rep G dl (cut H' Z) d v → Q v H')
    (fun e => ∀ cls dx H', Grow dl H H' → GlOk G dl H' → XRep G dl (cut H' Z) e cls dx H' → E cls dx H')
section
variable (P : Program) (w : World) (K : PySem.W.Frag) (mg : Str → Option Value) (base : Heap)
structure FnD (G : Gm) (k : Nat) (x : Str) (f : Addr) (n : Nat) (g : List D → R D) : Prop where
  ex : ∃ (fd : FuncData) (ps : List Str), ps.length = n ∧ FnOk P w K mg base (L2.CX P w) k f fd ps (spD G n g) ∧ Binds K fd ps []
  len : ∀ ds Q E, Wp (g ds) Q E → ds.length = n
  kp : PySem.W.keepIn K (.ref f) = true
  at_ : mg x = some (.ref f)
end
section
variable {X : Cx} {G : Gm} {W : WX} {ex o : Expr} {es : List Expr} {f : LE → R D} {fs : LE → R (List D)} {g : List D → R D} {pos apos p : Pos} {x m : Str} {k n c : Nat} {fa : Addr}
theorem call_core (hl : ∀ ds Q E, Wp (g ds) Q E → ds.length = n) {sg : L2.St} {H : Hp} {Q : VK} (h : tD G W (fun r => fs r >>= g) sg H Q) : tCallS (spD G n g) (WE W) (tA G W fs) sg H Q := by
  obtain ⟨dl, Z, O, r, A, q⟩ := h
  refine ⟨dl, Z, O, r, A, q.bind.thn fun ds hd vs H1 g1 k1 rl => ?_⟩
  refine ⟨by rw [rl.length]; exact hl ds _ _ hd, dl, Z, ds, k1, A.dz, (A.grow g1 k1).live, rl, ?_⟩
  exact hd.mono (fun d q v H2 g2 k2 rp => q v H2 (g1.trans g2) k2 rp) fun e he cls dx H2 g2 k2 xr => he cls dx H2 (g1.trans g2) k2 xr
theorem de_call (F : FnD X.prog X.w X.K X.mg X.base G k x fa n g) (hr : Room k X.A) (tk : Takes X W) (ha : DA X G W (ex :: es) fs) (hg : Gl X x := by rfl)
    (hdb : (x == ("__debug__" : Str)) = false := by decide) (he : starEach (ex :: es) X.env = (false, eval ex X.env) :: starEach es X.env := by rfl) (hpl : (backTo pos (starEach es X.env)).any (·.1) = false := by rfl) :
    DE X G W (.Call (.Name x p) (ex :: es) [] pos) (fun r => fs r >>= g) := by
  obtain ⟨⟨fd, ps, hn, ok, hb⟩, hl, kp, hm⟩ := F
  exact PE_imp (pe_callS ok hr hg hm kp hb (fun sg => passAt tk sg) ha hdb he hpl) fun sg H Q h => call_core hl h
theorem de_call0 (F : FnD X.prog X.w X.K X.mg X.base G k x fa n g) (hr : Room k X.A) (tk : Takes X W) (hg : Gl X x := by rfl) (hdb : (x == ("__debug__" : Str)) = false := by decide) :
    DE X G W (.Call (.Name x p) [] [] pos) (fun _ => g []) := by
  obtain ⟨⟨fd, ps, hn, ok, hb⟩, hl, kp, hm⟩ := F
  refine ⟨fun pins s sg H Q I ⟨dl, Z, O, r, A, q⟩ => ?_⟩
  have h2 : spD G n g [] H Q (WE W sg) := ⟨hl [] _ _ q, dl, Z, [], A.gl, A.dz, A.live, RepL.nil, q⟩
  exact wpAny_Call_Name_kw (ld_glob I hg hm (PySem.W.callWith_K0 I.kIn kp (run_fnS (us := []) ok hr hb (passAt tk sg) I .nil h2)) hdb)
/-- the receiver is of the class c -/
def isC (c : Nat) : D → R D
  | .ins c' fs => if c' = c then .ok (.ins c fs) else .stuck
  | _ => .stuck
end
end DL
set_option Elab.async false
set_option linter.all false
set_option maxRecDepth 100000
namespace DL
open PySem L2 PySem.Spec PyProof.Rows
/-- an expression's result in a statement: what is raised ends it -/
def R.onS {α : Type} : R α → LE → (α → R Out) → R Out
  | .ok a, _, k => k a
  | .err e, r, _ => .ok (.ex e r)
  | .stuck, _, _ => .stuck
  | .roll m f, r, k => .roll m fun i => (f i).onS r k
section
variable {α : Type}
@[simp] theorem onS_ok (a : α) (r : LE) (k : α → R Out) : (R.ok a).onS r k = k a := rfl
@[simp] theorem onS_err (e : Exc) (r : LE) (k : α → R Out) : (R.err e : R α).onS r k = .ok (.ex e r) := rfl
@[simp] theorem onS_stuck (r : LE) (k : α → R Out) : (R.stuck : R α).onS r k = .stuck := rfl
@[simp] theorem onS_roll (m : Nat) (f : Nat → R α) (r : LE) (k : α → R Out) : (R.roll m f).onS r k = .roll m fun i => (f i).onS r k := rfl
theorem onS_wp {Q : Out → Prop} {E : Exc → Prop} {r : LE} {k : α → R Out} : ∀ {m : R α}, Wp (m.onS r k) Q E → Wp m (fun a => Wp (k a) Q E) (fun e => Q (.ex e r))
  | .ok _, h => h
  | .err _, h => h
  | .stuck, h => h
  | .roll _ _, h => fun i hi => onS_wp (h i hi)
end
def skipS : LE → R Out := fun r => .ok (.nx r)
def seqS (F K : LE → R Out) : LE → R Out := fun r => do
  match ← F r with
  | .nx r' => K r'
  | o => .ok o
def retS (f : LE → R D) : LE → R Out := fun r => (f r).onS r fun d => .ok (.rt d)
def dropS (f : LE → R D) : LE → R Out := fun r => (f r).onS r fun _ => .ok (.nx r)
def ifS (c : LE → R Bool) (F K : LE → R Out) : LE → R Out := fun r => (c r).onS r fun b => if b then F r else K r
def frz (i : Nat) (r : LE) : LE := match r[i]? with
  | some (.own (.lst ds)) => r.set i (.val (.lst ds))
  | some (.own (.dic ds)) => r.set i (.val (.dic ds))
  | _ => r
section
variable {G : Gm} {dl : Addr} {Z : List Addr} {O : List (Nat × Addr)} {r : LE} {sg : L2.St} {H H1 : Hp} {W : WX} {d : D} {v : V} {De : Ends}
/-- an expression's error, in a statement -/
theorem spost_ex (A : At G dl Z O r sg H) {e : Exc} (h : SPost G W De dl Z O H (.ex e r)) : ∀ cls dx H', Grow dl H H' → GlOk G dl H' → XRep G dl (cut H' Z) e cls dx H' → W cls dx sg H' :=
  fun cls dx H' g k x => h Z O sg H' cls dx (Stp.of_grow g k) (A.grow g k) x
theorem set_get {α : Type} {l : List α} {i j : Nat} {a b : α} (h : (l.set i a)[j]? = some b) : (j = i ∧ b = a ∧ i < l.length) ∨ (j ≠ i ∧ l[j]? = some b) := by
  by_cases e : i = j
  · subst e
    by_cases q : i < l.length
    · rw [List.getElem?_set_self q] at h
      exact .inl ⟨rfl, (Option.some.inj h).symm, q⟩
    · rw [List.getElem?_eq_none (by simpa using q)] at h; cases h
  · rw [List.getElem?_set_ne e] at h
    exact .inr ⟨fun z => e z.symm, h⟩
theorem At.set_val (A : At G dl Z O r sg H) (i : Nat) (rp : Rep G dl (cut H Z) d v) : At G dl Z O (r.set i (.val d)) (sg.set i (some v)) H := by
  refine ⟨A.gl, A.dz, A.live, A.own, A.inj, by rw [List.length_set, List.length_set, A.len], fun j c e => ?_⟩
  rcases set_get e with ⟨rfl, rfl, hl⟩ | ⟨hn, e2⟩
  · exact ⟨v, List.getElem?_set_self (by rw [← A.len]; exact hl), rp⟩
  · rw [List.getElem?_set_ne (fun z => hn z.symm)]
    exact A.slot j c e2
theorem At.set_un (A : At G dl Z O r sg H) (i : Nat) (x : Option V) : At G dl Z O (r.set i .un) (sg.set i x) H := by
  refine ⟨A.gl, A.dz, A.live, A.own, A.inj, by rw [List.length_set, List.length_set, A.len], fun j c e => ?_⟩
  rcases set_get e with ⟨rfl, rfl, hl⟩ | ⟨hn, e2⟩
  · trivial
  · rw [List.getElem?_set_ne (fun z => hn z.symm)]
    exact A.slot j c e2
theorem cut_new {p : Addr} {o : HO} (h : H p = none) : GrowS (cut H Z) (cut (upd H p o) (p :: Z)) := fun b u e n => by
  obtain ⟨e1, e2⟩ := cut_some e
  have hb : b ≠ p := ne_of_none e2 h
  rw [cut_out (by simp only [List.mem_cons, not_or]; exact ⟨hb, e1⟩), upd_ne hb]
  exact e2
theorem At.set_own (A : At G dl Z O r sg H) (i : Nat) {p : Addr} {o : HO} (hp : H p = none) (ow : OwnAt G dl (cut H Z) d (some o)) (hk : kee i d = i ∧ keeOk i d) : At G dl (p :: Z) ((i, p) :: O) (r.set i (.own d)) (sg.set i (some (.ref p))) (upd H p o) := by
  obtain ⟨u, hu, nt⟩ := ow.notTbl
  cases hu
  refine ⟨A.gl.new hp, List.mem_cons_of_mem _ A.dz, fun a ha => ?_, fun q hq => ?_, fun q hq q' hq' e => ?_, by rw [List.length_set, List.length_set, A.len], fun j c e => ?_⟩
  · rcases List.mem_cons.mp ha with rfl | ha
    · exact ⟨o, upd_same, nt⟩
    · obtain ⟨u, e, n⟩ := A.live a ha
      exact ⟨u, by rw [upd_ne (ne_of_none e hp)]; exact e, n⟩
  · rcases List.mem_cons.mp hq with rfl | hq
    · exact ⟨List.mem_cons_self, A.notdl hp⟩
    · exact ⟨List.mem_cons_of_mem _ (A.own q hq).1, (A.own q hq).2⟩
  · have no : ∀ q ∈ O, q.2 ≠ p := fun q hq z => A.out hp (z ▸ (A.own q hq).1)
    rcases List.mem_cons.mp hq with rfl | hq
    · rcases List.mem_cons.mp hq' with rfl | hq'
      · rfl
      · exact (no _ hq' e.symm).elim
    · rcases List.mem_cons.mp hq' with rfl | hq'
      · exact (no _ hq e).elim
      · exact A.inj q hq q' hq' e
  · rcases set_get e with ⟨rfl, rfl, hl⟩ | ⟨hn, e2⟩
    · refine ⟨p, by rw [hk.1]; exact List.mem_cons_self, List.getElem?_set_self (by rw [← A.len]; exact hl), ?_, hk.2⟩
      rw [upd_same]
      exact ow.mono (cut_new hp)
    · rw [List.getElem?_set_ne (fun z => hn z.symm)]
      have := A.slot j c e2
      cases c with
      | un => trivial
      | val d =>
        obtain ⟨v, e, q⟩ := this
        exact ⟨v, e, q.mono (cut_new hp)⟩
      | own d =>
        obtain ⟨a, ha, e, q, ko⟩ := this
        refine ⟨a, List.mem_cons_of_mem _ ha, e, ?_, ko⟩
        have hap : a ≠ p := fun z => A.out hp (by rw [← z]; exact (A.own _ ha).1)
        rw [upd_ne hap]
        exact q.mono (cut_new hp)
theorem Stp.new {p : Addr} {o : HO} {i : Nat} (A : At G dl Z O r sg H) (hp : H p = none) (hi : i ≠ 1000000) : Stp dl Z O H (p :: Z) ((i, p) :: O) (upd H p o) :=
  ⟨fun a u e _ _ _ => by rw [upd_ne (ne_of_none e hp)]; exact e, fun q hq => by
    rcases List.mem_cons.mp hq with rfl | hq
    · exact .inr (Free.of hp)
    · exact .inl ⟨q, hq, rfl⟩, fun a ha _ => List.mem_cons_of_mem _ ha, fun a ha => (List.mem_cons.mp ha).elim (fun e => .inr (by rw [e]; exact Free.of hp)) .inl, fun a ha => (List.mem_cons.mp ha).elim (fun e => (hi (congrArg Prod.fst e).symm).elim) id, fun a f u e => f u (by rw [upd_ne (ne_of_none e hp)]; exact e)⟩
/-- an owned thing is written -/
theorem At.write {d' : D} {o : HO} {i : Nat} {a : Addr} (A : At G dl Z O r sg H) (hi : r[i]? = some (.own d)) (ha : (kee i d, a) ∈ O) (hs : sg[i]? = some (some (.ref a))) (ow : OwnAt G dl (cut H Z) d' (some o)) (hk : kee i d' = kee i d) (ko' : keeOk i d') : At G dl Z O (r.set i (.own d')) sg (upd H a o) := by
  obtain ⟨u, hu, nt⟩ := ow.notTbl
  cases hu
  obtain ⟨haz, had⟩ := A.own _ ha
  obtain ⟨o0, ho0, nt0⟩ := A.live a haz
  have gcut : GrowS (cut H Z) (cut (upd H a o) Z) := fun b u e n => by
    obtain ⟨e1, e2⟩ := cut_some e
    have hba : b ≠ a := fun z => e1 (by rw [z]; exact haz)
    rw [cut_out e1, upd_ne hba]
    exact e2
  obtain ⟨x, y, z, hd⟩ := A.gl.dice
  refine ⟨⟨⟨x, y, z, by rw [upd_ne (fun e => had e.symm)]; exact hd⟩, fun p hp => ?_⟩, A.dz, fun b hb => ?_, A.own, A.inj, by rw [List.length_set, A.len], fun j c e => ?_⟩
  · obtain ⟨ps, h1, h2, h3⟩ := A.gl.tab p hp
    have hpa : p.1 ≠ a := fun e => by
      rw [e, ho0] at h1
      exact nt0 ps (Option.some.inj h1)
    refine ⟨ps, by rw [upd_ne hpa]; exact h1, h2, fun pos cv hc => ?_⟩
    · obtain ⟨c, e1, e2⟩ := h3 pos cv hc
      refine ⟨c, e1, ?_⟩
      have hca : c ≠ a := fun e => by
        have ow' := A.slot i _ hi
        obtain ⟨a', ha', hs', q, _⟩ := ow'
        have ea : a' = a := by rw [hs] at hs'; cases hs'; rfl
        subst ea
        rw [← e, e2] at q
        unfold OwnAt at q
        split at q
        · obtain ⟨_, z, _⟩ := q; cases z
        · obtain ⟨_, z, _⟩ := q; cases z
        · obtain ⟨_, _, z, _⟩ := q; cases z
        · exact q
      rw [upd_ne hca]
      exact e2
  · by_cases e : b = a
    · rw [e]; exact ⟨o, upd_same, nt⟩
    · obtain ⟨u, h1, h2⟩ := A.live b hb
      exact ⟨u, by rw [upd_ne e]; exact h1, h2⟩
  · rcases set_get e with ⟨rfl, rfl, hl⟩ | ⟨hn, e2⟩
    · exact ⟨a, by rw [hk]; exact ha, hs, by rw [upd_same]; exact ow.mono gcut, ko'⟩
    · have := A.slot j c e2
      cases c with
      | un => trivial
      | val d =>
        obtain ⟨v, e, q⟩ := this
        exact ⟨v, e, q.mono gcut⟩
      | own d =>
        obtain ⟨b, hb, e, q, ko⟩ := this
        refine ⟨b, hb, e, ?_, ko⟩
        obtain ⟨_, _, _, _, koi⟩ := A.slot i _ hi
        have hba : b ≠ a := fun z => hn (kee_inj ko koi (congrArg Prod.fst (A.inj _ hb _ ha z)))
        rw [upd_ne hba]
        exact q.mono gcut
theorem Stp.write {o : HO} {k : Nat} {a : Addr} (ha : (k, a) ∈ O) (nt : ∀ ps, o ≠ .tbl ps) : Stp dl Z O H Z O (upd H a o) :=
  ⟨fun b u e _ m _ => by rw [upd_ne fun z => m _ ha z.symm]; exact e, fun q hq => .inl ⟨q, hq, rfl⟩, fun _ h _ => h, fun _ h => .inl h, fun _ h => h, fun b f u e => by
    by_cases z : b = a
    · obtain ⟨ps, e2⟩ := f o (by rw [z, upd_same])
      exact (nt ps e2).elim
    · exact f u (by rw [upd_ne z]; exact e)⟩
/-- an owned thing is let go: from now on read alone -/
theorem At.freeze {i : Nat} (A : At G dl Z O r sg H) : ∃ Z' O', At G dl Z' O' (frz i r) sg H ∧ Stp dl Z O H Z' O' H := by
  have core : ∀ d, r[i]? = some (.own d) → (∀ S v, GrowS (cut H Z) S → OwnAt G dl (cut H Z) d (H v) → S v = H v → Rep G dl S d (.ref v)) → ∃ Z' O', At G dl Z' O' (r.set i (.val d)) sg H ∧ Stp dl Z O H Z' O' H := fun d hi hrep => by
    obtain ⟨a, ha, hs, ow, koi⟩ := A.slot i _ hi
    obtain ⟨haz, had⟩ := A.own _ ha
    have hsub : GrowS (cut H Z) (cut H (Z.filter (· ≠ a))) := cut_sub fun b hb => (List.mem_filter.mp hb).1
    have hout : cut H (Z.filter (· ≠ a)) a = H a := cut_out fun hb => by simp at hb
    refine ⟨Z.filter (· ≠ a), O.filter (·.2 ≠ a), ⟨A.gl, List.mem_filter.mpr ⟨A.dz, by simpa using fun e : dl = a => had e.symm⟩, fun b hb => A.live b (List.mem_filter.mp hb).1, fun q hq => ?_, fun q hq q' hq' => A.inj q (List.mem_filter.mp hq).1 q' (List.mem_filter.mp hq').1, by rw [List.length_set, A.len], fun j c e => ?_⟩, ⟨fun _ _ h _ _ _ => h, fun q hq => .inl ⟨q, (List.mem_filter.mp hq).1, rfl⟩, fun b hb m => List.mem_filter.mpr ⟨hb, by simpa using fun e : b = a => m _ ha e.symm⟩, fun b hb => .inl (List.mem_filter.mp hb).1, fun b hb => (List.mem_filter.mp hb).1, fun _ h => h⟩⟩
    · obtain ⟨h1, h2⟩ := List.mem_filter.mp hq
      exact ⟨List.mem_filter.mpr ⟨(A.own q h1).1, h2⟩, (A.own q h1).2⟩
    · rcases set_get e with ⟨rfl, rfl, hl⟩ | ⟨hn, e2⟩
      · exact ⟨.ref a, hs, hrep _ a hsub ow hout⟩
      · have := A.slot j c e2
        cases c with
        | un => trivial
        | val d =>
          obtain ⟨v, e, q⟩ := this
          exact ⟨v, e, q.mono hsub⟩
        | own d =>
          obtain ⟨b, hb, e, q, ko⟩ := this
          refine ⟨b, List.mem_filter.mpr ⟨hb, ?_⟩, e, q.mono hsub, ko⟩
          simpa using fun z : b = a => hn (kee_inj ko koi (congrArg Prod.fst (A.inj _ hb _ ha z)))
  unfold frz
  split
  · rename_i ds hi
    refine core _ hi fun S v g ⟨vs, e, rl⟩ hv => ?_
    unfold Rep
    exact ⟨v, vs, rfl, by rw [hv]; exact e, rl.mono g⟩
  · rename_i ds hi
    refine core _ hi fun S v g ⟨kv, e, rl⟩ hv => ?_
    unfold Rep
    exact ⟨v, kv, rfl, .inl (by rw [hv]; exact e), rl.mono g⟩
  · exact ⟨Z, O, A, Stp.refl⟩
end
end DL
set_option Elab.async false
set_option linter.all false
set_option maxRecDepth 100000
namespace DL
open PySem L2 PySem.Spec PyProof.Rows
/-- a value for a name: read alone (val), or a new list or dict of one's own (own) -/
def tK (G : Gm) (W : WX) (f : LE → R Cell) : TE := fun sg H Q => ∃ dl Z O r, At G dl Z O r sg H ∧
  Wp (f r) (fun c => match c with
    | .val d => ∀ v H', Grow dl H H' → GlOk G dl H' → Rep G dl (cut H' Z) d v → Q v H'
    | .own d => ∀ p o H', Grow dl H H' → GlOk G dl H' → H' p = none → OwnAt G dl (cut H' Z) d (some o) → (∀ i, i ≠ 1000000 → kee i d = i ∧ keeOk i d) → Q (.ref p) (upd H' p o)
    | .un => False)
    (fun e => ∀ cls dx H', Grow dl H H' → GlOk G dl H' → XRep G dl (cut H' Z) e cls dx H' → W cls dx sg H')
abbrev DK (X : Cx) (G : Gm) (W : WX) (e : Expr) (f : LE → R Cell) : Prop := PE X e (tK G W f)
def valK (f : LE → R D) : LE → R Cell := fun r => f r >>= fun d => .ok (.val d)
def ownK (f : LE → R (List D)) : LE → R Cell := fun r => f r >>= fun ds => .ok (.own (.lst ds))
def okK : Cell → R Cell
  | .un => .stuck
  | .val d => .ok (.val d)
  | .own d => .ok (.own d)
def setK (i : Nat) (f : LE → R Cell) : LE → R Out := fun r => (f r >>= okK).onS r fun c => .ok (.nx (r.set i c))
def parK (i j : Nat) (f g : LE → R Cell) : LE → R Out := fun r => (f r >>= okK).onS r fun c => (g r >>= okK).onS r fun c' => .ok (.nx ((r.set i c).set j c'))
def tGd (G : Gm) (gd : D → LE → Option LE) (is : List Nat) : TG := fun v sg H Q => ∃ dl Z O r d, At G dl Z O r sg H ∧ Rep G dl (cut H Z) d v ∧ ∃ r', gd d r = some r' ∧
  ∀ sg', sg'.length = sg.length → (∀ j, j ∉ is → sg'[j]? = sg[j]?) → At G dl Z O r' sg' H → Q sg' H
abbrev DG (X : Cx) (G : Gm) (tg : Expr) (gd : D → LE → Option LE) (is : List Nat) : Prop := PG X tg (tGd G gd is)
def tGs (G : Gm) (gs : List D → LE → Option LE) (is : List Nat) : TGs := fun vs sg H Q => ∃ dl Z O r ds, At G dl Z O r sg H ∧ RepL G dl (cut H Z) ds vs ∧ ∃ r', gs ds r = some r' ∧
  ∀ sg', sg'.length = sg.length → (∀ j, j ∉ is → sg'[j]? = sg[j]?) → At G dl Z O r' sg' H → Q sg' H
abbrev DGs (X : Cx) (G : Gm) (tg : List Expr) (gs : List D → LE → Option LE) (is : List Nat) : Prop := PGs X tg (tGs G gs is)
def gN (i : Nat) : D → LE → Option LE := fun d r => some (r.set i (.val d))
def gNil_ : List D → LE → Option LE
  | [], r => some r
  | _, _ => none
def gCons_ (g : D → LE → Option LE) (gs : List D → LE → Option LE) : List D → LE → Option LE
  | d :: ds, r => (g d r).bind (gs ds)
  | [], _ => none
def gTup_ (n : Nat) (gs : List D → LE → Option LE) : D → LE → Option LE
  | .tup ds, r => if ds.length = n then gs ds r else none
  | _, _ => none
def asgS (f : LE → R D) (gd : D → LE → Option LE) : LE → R Out := fun r => (f r).onS r fun d => match gd d r with
  | some r' => .ok (.nx r')
  | none => .stuck
theorem PG_imp {X : Cx} {e : Expr} {t t' : TG} (h : PG X e t) (i : ∀ v sg H Q, t' v sg H Q → t v sg H Q) : PG X e t' := ⟨fun pins s sg H v u Q I r q => h.run pins s sg H v u Q I r (i _ _ _ _ q)⟩
theorem PGs_imp {X : Cx} {e : List Expr} {t t' : TGs} (h : PGs X e t) (i : ∀ v sg H Q, t' v sg H Q → t v sg H Q) : PGs X e t' := ⟨fun pins s sg H v u Q I r q => h.run pins s sg H v u Q I r (i _ _ _ _ q)⟩
section
variable {X : Cx} {G : Gm} {W : WX} {ex a b c : Expr} {es : List Expr} {f : LE → R D} {fk fk2 : LE → R Cell} {fs : LE → R (List D)} {h : LE → R Bool} {F K : LE → R Out} {st : Stmt} {rest : List Stmt} {pos pos' : Pos} {x y : Str} {i j : Nat}
theorem DE.k (q : DE X G W ex f) : DK X G W ex (valK f) := PE_imp q fun sg H Q ⟨dl, Z, O, r, A, q⟩ => ⟨dl, Z, O, r, A, q.bind.thn fun d z => z⟩
theorem DF.k (q : DF X G W ex fs) : DK X G W ex (ownK fs) := PE_imp q fun sg H Q ⟨dl, Z, O, r, A, q⟩ => ⟨dl, Z, O, r, A, q.bind.thn fun ds z p vs H' g k hp rl => z p (.lst vs) H' g k hp ⟨vs, rfl, rl⟩ fun i hi => ⟨rfl, hi⟩⟩
theorem dss_nil : DSs X G W [] skipS := PSs_imp pss_nil fun De sg H ⟨dl, Z, O, r, A, q⟩ => q Z O sg H Stp.refl A
theorem dss_cons (h1 : DS X G W st F) (h2 : DSs X G W rest K) : DSs X G W (st :: rest) (seqS F K) := PSs_imp (pss_cons h1 h2) fun De sg H ⟨dl, Z, O, r, A, q⟩ => by
  refine ⟨dl, Z, O, r, A, q.bind.thn fun o ho => ?_⟩
  cases o with
  | nx r' => exact fun Z' O' sg' H' s A' => ⟨dl, Z', O', r', A', ho.thn fun o z => SPost.trans A s z⟩
  | bk r' => exact ho
  | ct r' => exact ho
  | rt d => exact ho
  | ex e r' => exact ho
theorem dss_one (h1 : DS X G W st F) : DSs X G W [st] F := PSs_imp (pss_one h1) fun _ _ _ z => z
/-- slot i is read alone from here on -/
theorem DS.frz_ (i : Nat) (h1 : DS X G W st F) : DS X G W st (fun r => F (frz i r)) := PS_imp h1 fun De sg H ⟨dl, Z, O, r, A, q⟩ => by
  obtain ⟨Z', O', A', s⟩ := A.freeze (i := i)
  exact ⟨dl, Z', O', _, A', q.thn fun o z => SPost.trans A s z⟩
theorem ds_set (i : Nat) (he : DK X G W ex fk) (hti : i ≠ 1000000 := by decide) (hN : X.N.Nodup) (hi : X.N[i]? = some x := by rfl) (hx : Loc X.env.scope x := by first | exact Or.inl rfl | exact Or.inr rfl) (hs : swapsWith ex (some (.Name x pos')) pos.line X.env = pure false := by rfl)
    (hf : X.fn x = true ∨ X.env.scope.names.lookup x = some .local := by first | exact .inl rfl | exact .inr rfl) : DS X G W (.Assign [.Name x pos'] ex pos) (setK i fk) := PS_imp (ps_set hN hi hx he hs hf) fun De sg H ⟨dl, Z, O, r, A, q⟩ => by
  refine ⟨dl, Z, O, r, A, (onS_wp q).bind.mono (fun c hc => ?_) fun e he => spost_ex A he⟩
  cases c with
  | val d => exact fun v H1 g1 k1 rp => hc Z O _ H1 (Stp.of_grow g1 k1) ((A.grow g1 k1).set_val i rp)
  | own d => exact fun p o H1 g1 k1 hp ow hk => hc _ _ _ _ (Stp.trans A (Stp.of_grow g1 k1) (Stp.new (A.grow g1 k1) hp hti)) ((A.grow g1 k1).set_own i hp ow (hk i hti))
  | un => exact hc.elim
theorem ds_asg {gd : D → LE → Option LE} {is : List Nat} {tg : Expr} (he : DE X G W ex f) (hg : DG X G tg gd is) (hs : swapsWithSole [tg] ex pos.line X.env = pure false := by rfl) (hw : swappedStores [tg] ex X.env = pure none := by rfl)
    (h1 : (assignEach [tg] X.env).map (·.2) = [assign tg X.env] := by rfl) : DS X G W (.Assign [tg] ex pos) (asgS f gd) := PS_imp (ps_asg he hg hs hw h1) fun De sg H ⟨dl, Z, O, r, A, q⟩ => by
  refine ⟨dl, Z, O, r, A, (onS_wp q).mono (fun d hd v H1 g1 k1 rp => ?_) fun e he => spost_ex A he⟩
  split at hd
  · rename_i r' hr
    exact ⟨dl, Z, O, r, d, A.grow g1 k1, rp, r', hr, fun sg' _ _ A' => hd Z O sg' H1 (Stp.of_grow g1 k1) A'⟩
  · exact hd.elim
theorem ds_ret (he : DE X G W ex f) : DS X G W (.Return (some ex) pos) (retS f) := PS_imp (ps_ret he) fun De sg H ⟨dl, Z, O, r, A, q⟩ =>
  ⟨dl, Z, O, r, A, (onS_wp q).mono (fun d hd v H1 g1 k1 rp => hd Z O v H1 (Stp.of_grow g1 k1) k1 rp) fun e he => spost_ex A he⟩
theorem ds_expr (he : DE X G W ex f) (hs : swapsWith ex none pos.line X.env = pure false := by rfl) : DS X G W (.Expr ex pos) (dropS f) := PS_imp (ps_expr he hs) fun De sg H ⟨dl, Z, O, r, A, q⟩ =>
  ⟨dl, Z, O, r, A, (onS_wp q).mono (fun d hd v H1 g1 k1 rp => hd Z O sg H1 (Stp.of_grow g1 k1) (A.grow g1 k1)) fun e he => spost_ex A he⟩
theorem ds_if {sa sb : List Stmt} (hc : DT X G W c h) (ha : DSs X G W sa F) (hb : DSs X G W sb K) : DS X G W (.If c sa sb pos) (ifS h F K) := PS_imp (ps_if hc ha hb) fun De sg H ⟨dl, Z, O, r, A, q⟩ => by
  refine ⟨dl, Z, O, r, A, (onS_wp q).mono (fun b hb H1 g1 k1 => ?_) fun e he => spost_ex A he⟩
  cases b with
  | true => exact ⟨dl, Z, O, r, A.grow g1 k1, hb.thn fun o z => SPost.trans A (Stp.of_grow g1 k1) z⟩
  | false => exact ⟨dl, Z, O, r, A.grow g1 k1, hb.thn fun o z => SPost.trans A (Stp.of_grow g1 k1) z⟩
theorem dg_name (i : Nat) (hN : X.N.Nodup) (hi : X.N[i]? = some x := by rfl) (hx : Loc X.env.scope x := by first | exact Or.inl rfl | exact Or.inr rfl) (hf : X.fn x = true ∨ X.env.scope.names.lookup x = some .local := by first | exact .inl rfl | exact .inr rfl) :
    DG X G (.Name x pos) (gN i) [i] := PG_imp (pg_name hN hi hx hf) fun v sg H Q ⟨dl, Z, O, r, d, A, rp, r', hr, q⟩ => by
  cases hr
  exact q _ (List.length_set ..) (fun j hj => List.getElem?_set_ne (by simpa using fun e : i = j => hj (by simp [e]))) (A.set_val i rp)
theorem dgs_nil : DGs X G [] gNil_ [] := PGs_imp pgs_nil fun vs sg H Q ⟨dl, Z, O, r, ds, A, rl, r', hr, q⟩ => by
  cases ds with
  | nil =>
    cases hr
    unfold RepL at rl
    exact ⟨rl, q sg rfl (fun _ _ => rfl) A⟩
  | cons d ds => cases hr
theorem dgs_cons {g1 : D → LE → Option LE} {gs : List D → LE → Option LE} {is js : List Nat} (h1 : DG X G ex g1 is) (h2 : DGs X G es gs js)
    (hs : (assignEach (ex :: es) X.env).map (·.2) = assign ex X.env :: (assignEach es X.env).map (·.2) := by rfl) : DGs X G (ex :: es) (gCons_ g1 gs) (is ++ js) := PGs_imp (pgs_cons h1 h2 hs) fun vs sg H Q ⟨dl, Z, O, r, ds, A, rl, r', hr, q⟩ => by
  cases ds with
  | nil => cases hr
  | cons d ds =>
    unfold RepL at rl
    obtain ⟨v, us, rfl, rp, rl⟩ := rl
    change (g1 d r).bind (gs ds) = some r' at hr
    cases e : g1 d r with
    | none => rw [e] at hr; cases hr
    | some r1 =>
      rw [e] at hr
      refine ⟨v, us, rfl, dl, Z, O, r, d, A, rp, r1, e, fun sg1 l1 s1 A1 => ?_⟩
      refine ⟨dl, Z, O, r1, ds, A1, rl, r', hr, fun sg2 l2 s2 A2 => q sg2 (l2.trans l1) (fun j hj => ?_) A2⟩
      rw [List.mem_append, not_or] at hj
      rw [s2 j hj.2, s1 j hj.1]
theorem dg_tup {gs : List D → LE → Option LE} {is : List Nat} {k : Nat} {n : Nat} (hG : G.K = X.K) (hc : X.calm = true) (h : DGs X G es gs is) (hn : (assignEach es X.env).length = n := by rfl) (hst : (assignEach es X.env).findIdx? (·.1) = none := by rfl) :
    DG X G (.Tuple es k pos) (gTup_ n gs) is := PG_imp (pg_tup hc h hn hst) fun v sg H Q ⟨dl, Z, O, r, d, A, rp, r', hr, q⟩ => by
  cases d <;> first | (cases hr; done) | skip
  rename_i ds
  change (if ds.length = n then gs ds r else none) = some r' at hr
  split at hr
  · rename_i hl
    unfold Rep at rp
    obtain ⟨a, vs, rfl, e, rl⟩ := rp
    exact ⟨a, vs, rfl, hG ▸ (cut_grow H Z).sqt e, by rw [rl.length]; exact hl, dl, Z, O, r, ds, A, rl, r', hr, q⟩
  · cases hr
theorem At.aside {dl : Addr} {Z : List Addr} {O : List (Nat × Addr)} {r : LE} {sg : L2.St} {H : Hp} (A : At G dl Z O r sg H) {p : Addr} {o : HO} (hp : H p = none) (nt : ∀ ps, o ≠ .tbl ps) : At G dl (p :: Z) O r sg (upd H p o) := by
  refine ⟨A.gl.new hp, List.mem_cons_of_mem _ A.dz, fun a ha => ?_, fun q hq => ⟨List.mem_cons_of_mem _ (A.own q hq).1, (A.own q hq).2⟩, A.inj, A.len, fun j c e => ?_⟩
  · rcases List.mem_cons.mp ha with rfl | ha
    · exact ⟨o, upd_same, nt⟩
    · obtain ⟨u, e, n⟩ := A.live a ha
      exact ⟨u, by rw [upd_ne (ne_of_none e hp)]; exact e, n⟩
  · have := A.slot j c e
    cases c with
    | un => trivial
    | val d =>
      obtain ⟨v, e, q⟩ := this
      exact ⟨v, e, q.mono (cut_new hp)⟩
    | own d =>
      obtain ⟨a, ha, e, q, ko⟩ := this
      have hap : a ≠ p := fun z => A.out hp (by rw [← z]; exact (A.own _ ha).1)
      refine ⟨a, ha, e, ?_, ko⟩
      rw [upd_ne hap]
      exact q.mono (cut_new hp)
theorem XRep.mono {dl : Addr} {S S' : Hp} {e : Exc} {cls : Value} {dx : Option Addr} {H : Hp} (g : GrowS S S') (x : XRep G dl S e cls dx H) : XRep G dl S' e cls dx H := by
  unfold XRep at *
  refine ⟨x.1, ?_⟩
  have x2 := x.2
  split
  · rename_i hn; rw [hn] at x2; exact x2
  · rename_i f hf
    rw [hf] at x2
    obtain ⟨d, v, h1, h2, h3⟩ := x2
    exact ⟨d, v, h1, h2, h3.mono g⟩
end
end DL
set_option Elab.async false
set_option linter.all false
set_option maxRecDepth 100000
namespace DL
open PySem L2 PySem.Spec PyProof.Rows
/-- the iterator J hands out ds, as long as B -/
structure WalkE (G : Gm) (dl : Addr) (J : It) (ds : List D) (B : List Addr → Hp → Prop) : Prop where
  mono : ∀ Z Z' H H', GrowS (cut H Z) (cut H' Z') → Grow dl H H' → B Z H → B Z' H'
  go : ∀ i Z H, B Z H → i < ds.length → J.go i H
  stop : ∀ i Z H, B Z H → ds.length ≤ i → J.stop i H
  yld : ∀ i Z O r sg H x H', At G dl Z O r sg H → B Z H → J.yld i H x H' → ∀ d, ds[i]? = some d → Grow dl H H' ∧ GlOk G dl H' ∧ Rep G dl (cut H' Z) d x
structure WalkS (G : Gm) (dl : Addr) (J : It) (ds : List D) (B : List Addr → Hp → Prop) : Prop extends WalkE G dl J ds B where
  monoS : ∀ Z Z' H H', GrowS (cut H Z) (cut H' Z') → B Z H → B Z' H'
def tIs (G : Gm) (W : WX) (f : LE → R (List D)) : TI := fun sg H Rr => ∃ dl Z O r, At G dl Z O r sg H ∧
  Wp (f r) (fun ds => ∀ J B H', Grow dl H H' → GlOk G dl H' → WalkS G dl J ds B → B Z H' → Rr J H')
    (fun e => ∀ cls dx H', Grow dl H H' → GlOk G dl H' → XRep G dl (cut H' Z) e cls dx H' → W cls dx sg H')
def tIe (G : Gm) (W : WX) (f : LE → R (List D)) : TI := fun sg H Rr => ∃ dl Z O r, At G dl Z O r sg H ∧
  Wp (f r) (fun ds => ∀ J B H', Grow dl H H' → GlOk G dl H' → WalkE G dl J ds B → B Z H' → Rr J H')
    (fun e => ∀ cls dx H', Grow dl H H' → GlOk G dl H' → XRep G dl (cut H' Z) e cls dx H' → W cls dx sg H')
abbrev DI (X : Cx) (G : Gm) (W : WX) (tg iter : Expr) (f : LE → R (List D)) : Prop := PI X tg iter (tIs G W f)
abbrev DIe (X : Cx) (G : Gm) (W : WX) (tg iter : Expr) (f : LE → R (List D)) : Prop := PI X tg iter (tIe G W f)
theorem PI_imp {X : Cx} {tg e : Expr} {t t' : TI} (h : PI X tg e t) (i : ∀ sg H Q, t' sg H Q → t sg H Q) : PI X tg e t' := ⟨fun pins s sg H Q I q => h.run pins s sg H Q I (i _ _ _ q)⟩
theorem DI.e {X : Cx} {G : Gm} {W : WX} {tg iter : Expr} {f : LE → R (List D)} (h : DI X G W tg iter f) : DIe X G W tg iter f :=
  PI_imp h fun sg H Q ⟨dl, Z, O, r, A, q⟩ => ⟨dl, Z, O, r, A, q.thn fun ds z J B H' g k w b => z J B H' g k w.toWalkE b⟩
def lstD : D → R (List D)
  | .lst ds => .ok ds
  | _ => .stuck
def tupD : D → R (List D)
  | .tup ds => .ok ds
  | _ => .stuck
section
variable {X : Cx} {G : Gm} {W : WX} {tg iter : Expr} {f : LE → R D} {pos p : Pos}
theorem walk_list {dl a : Addr} {ds : List D} {vs : List V} : WalkS G dl (Itl G.K a) ds (fun Z H => cut H Z a = some (.lst vs) ∧ RepL G dl (cut H Z) ds vs) where
  mono := fun Z Z' H H' g _ h => ⟨g a _ h.1 (fun ps z => by cases z), h.2.mono g⟩
  monoS := fun Z Z' H H' g h => ⟨g a _ h.1 (fun ps z => by cases z), h.2.mono g⟩
  go := fun i Z H h hi => by
    have := h.2.length
    exact ⟨vs, vs[i]'(by omega), SqL.of (cut_some h.1).2, by simp⟩
  stop := fun i Z H h hi => ⟨vs, SqL.of (cut_some h.1).2, by have := h.2.length; omega⟩
  yld := fun i Z O r sg H x H' A h hy d hd => by
    obtain ⟨rfl, hy⟩ := hy
    obtain ⟨v, h1, h2⟩ := RepL.getD ds vs i d h.2 hd
    have h3 := hy vs (SqL.of (cut_some h.1).2)
    rw [h1] at h3
    cases h3
    exact ⟨.refl _ _, A.gl, h2⟩
theorem walk_listE {dl a : Addr} {ds : List D} {vs : List V} (had : a ≠ dl) : WalkE G dl (Itl G.K a) ds (fun Z H => H a = some (.lst vs) ∧ RepL G dl (cut H Z) ds vs) where
  mono := fun Z Z' H H' g g2 h => ⟨g2 a _ h.1 had (fun ps z => by cases z), h.2.mono g⟩
  go := fun i Z H h hi => by
    have := h.2.length
    exact ⟨vs, vs[i]'(by omega), SqL.of h.1, by simp⟩
  stop := fun i Z H h hi => ⟨vs, SqL.of h.1, by have := h.2.length; omega⟩
  yld := fun i Z O r sg H x H' A h hy d hd => by
    obtain ⟨rfl, hy⟩ := hy
    obtain ⟨v, h1, h2⟩ := RepL.getD ds vs i d h.2 hd
    have h3 := hy vs (SqL.of h.1)
    rw [h1] at h3
    cases h3
    exact ⟨.refl _ _, A.gl, h2⟩
theorem walk_tup {dl a : Addr} {ds : List D} {vs : List V} : WalkS G dl (Itt G.K a) ds (fun Z H => SqT G.K (cut H Z) a vs ∧ RepL G dl (cut H Z) ds vs) where
  mono := fun Z Z' H H' g _ h => ⟨g.sqt h.1, h.2.mono g⟩
  monoS := fun Z Z' H H' g h => ⟨g.sqt h.1, h.2.mono g⟩
  go := fun i Z H h hi => by
    have := h.2.length
    exact ⟨vs, vs[i]'(by omega), (cut_grow H Z).sqt h.1, by simp⟩
  stop := fun i Z H h hi => ⟨vs, (cut_grow H Z).sqt h.1, by have := h.2.length; omega⟩
  yld := fun i Z O r sg H x H' A h hy d hd => by
    obtain ⟨rfl, hy⟩ := hy
    obtain ⟨v, h1, h2⟩ := RepL.getD ds vs i d h.2 hd
    have h3 := hy vs ((cut_grow _ Z).sqt h.1)
    rw [h1] at h3
    cases h3
    exact ⟨.refl _ _, A.gl, h2⟩
theorem di_list (hG : G.K = X.K) (h : DE X G W iter f) : DI X G W tg iter (fun r => f r >>= lstD) := PI_imp (pi_list h) fun sg H Q ⟨dl, Z, O, r, A, q⟩ => by
  refine ⟨dl, Z, O, r, A, q.bind.thn fun d hd v H1 g1 k1 rp => ?_⟩
  unfold lstD at hd
  split at hd
  · unfold Rep at rp
    obtain ⟨a, vs, rfl, e, rl⟩ := rp
    refine ⟨a, rfl, ⟨vs, SqL.of (cut_some e).2⟩, ?_⟩
    rw [← hG]
    exact hd _ _ H1 g1 k1 walk_list ⟨e, rl⟩
  · exact hd.elim
theorem di_tup (hG : G.K = X.K) (h : DE X G W iter f) : DI X G W tg iter (fun r => f r >>= tupD) := PI_imp (pi_tup h) fun sg H Q ⟨dl, Z, O, r, A, q⟩ => by
  refine ⟨dl, Z, O, r, A, q.bind.thn fun d hd v H1 g1 k1 rp => ?_⟩
  unfold tupD at hd
  split at hd
  · unfold Rep at rp
    obtain ⟨a, vs, rfl, e, rl⟩ := rp
    refine ⟨a, rfl, ⟨vs, hG ▸ (cut_grow H1 Z).sqt e⟩, ?_⟩
    rw [← hG]
    exact hd _ _ H1 g1 k1 walk_tup ⟨e, rl⟩
  · exact hd.elim
theorem die_list (hG : G.K = X.K) (h : DP X G W iter f) : DIe X G W tg iter (fun r => f r >>= lstD) := PI_imp (pi_list h) fun sg H Q ⟨dl, Z, O, r, A, q⟩ => by
  refine ⟨dl, Z, O, r, A, q.bind.thn fun d hd v H1 g1 k1 rp => ?_⟩
  unfold lstD at hd
  split at hd
  · rcases rp with rp | ⟨a, rfl, haz, had, ow⟩
    · unfold Rep at rp
      obtain ⟨a, vs, rfl, e, rl⟩ := rp
      refine ⟨a, rfl, ⟨vs, SqL.of (cut_some e).2⟩, ?_⟩
      rw [← hG]
      exact hd _ _ H1 g1 k1 walk_list.toWalkE ⟨e, rl⟩
    · obtain ⟨vs, e, rl⟩ := ow
      refine ⟨a, rfl, ⟨vs, SqL.of e⟩, ?_⟩
      rw [← hG]
      exact hd _ _ H1 g1 k1 (walk_listE had) ⟨e, rl⟩
  · exact hd.elim
/-- range(..): the ints -/
def rangeL (lo : Int) (n : Nat) : List D := (List.range n).map fun (i : Nat) => D.int (lo + (i : Int))
def rng1 : List D → R (List D)
  | [.int j] => if j < 1073741824 ∧ -(1073741824) < j then .ok (rangeL 0 j.toNat) else .stuck
  | _ => .stuck
theorem rangeL_get {lo : Int} {n i : Nat} {d : D} (h : (rangeL lo n)[i]? = some d) : d = .int (lo + (i : Int)) := by
  unfold rangeL at h
  rw [List.getElem?_map] at h
  cases e : (List.range n)[i]? with
  | none => rw [e] at h; cases h
  | some k =>
    rw [e] at h
    cases h
    obtain ⟨h1, h2⟩ := List.getElem?_eq_some_iff.mp e
    rw [List.getElem_range] at h2
    rw [h2]
theorem walk_rng {dl : Addr} {lo : Int} {n : Nat} : WalkS G dl (Itr lo n) (rangeL lo n) (fun _ _ => True) where
  mono := fun _ _ _ _ _ _ _ => trivial
  monoS := fun _ _ _ _ _ _ => trivial
  go := fun i Z H h hi => by
    show i < n
    unfold rangeL at hi; simpa using hi
  stop := fun i Z H h hi => by
    show n ≤ i
    unfold rangeL at hi; simpa using hi
  yld := fun i Z O r sg H x H' A h hy d hd => by
    obtain ⟨rfl, rfl⟩ := hy
    rw [rangeL_get hd]
    exact ⟨.refl _ _, A.gl, Rep.int_⟩
theorem RepL.one_int {dl : Addr} {S : Hp} {j : Int} {vs : List V} (h : RepL G dl S [.int j] vs) : vs = [.int j] := by
  unfold RepL at h
  obtain ⟨v, r, rfl, h1, h2⟩ := h
  unfold Rep at h1
  unfold RepL at h2
  rw [h1, h2]
theorem di_rng1 {a : Expr} {fs : LE → R (List D)} (hg : Gl X "range") (hm : X.mg "range" = none) (ha : DA X G W [a] fs) (hs : starEach [a] X.env = [(false, eval a X.env)] := by rfl) : DI X G W tg (.Call (.Name "range" p) [a] [] pos) (fun r => fs r >>= rng1) :=
  PI_imp (pi_range1 hg hm ha hs) fun sg H Q ⟨dl, Z, O, r, A, q⟩ => by
    refine ⟨dl, Z, O, r, A, q.bind.thn fun ds hd vs H1 g1 k1 rl => ?_⟩
    unfold rng1 at hd
    split at hd
    · split at hd
      · rename_i j hj
        exact ⟨j, rl.one_int, by omega, by omega, hd _ _ H1 g1 k1 walk_rng trivial⟩
      · exact hd.elim
    · exact hd.elim
end
def loopS (gd : D → LE → Option LE) (body : LE → R Out) : List D → LE → R Out
  | [], r => .ok (.nx r)
  | d :: ds, r => match gd d r with
    | none => .stuck
    | some r' => do
      match ← body r' with
      | .nx r2 => loopS gd body ds r2
      | .ct r2 => loopS gd body ds r2
      | .bk r2 => .ok (.nx r2)
      | .rt d => .ok (.rt d)
      | .ex e r2 => .ok (.ex e r2)
def forS (fi : LE → R (List D)) (gd : D → LE → Option LE) (body : LE → R Out) : LE → R Out := fun r => (fi r).onS r fun ds => loopS gd body ds r
section
variable {X : Cx} {G : Gm} {W : WX} {tg iter : Expr} {fi : LE → R (List D)} {gd : D → LE → Option LE} {is : List Nat} {F : LE → R Out} {body : List Stmt} {pos : Pos}
theorem ds_for (hp : PassesOwn (model X.prog X.w) X.A X.env X.xe) (hc : X.calm = true) (hi : DI X G W tg iter fi) (hg : DG X G tg gd is) (hb : DSs X G W body F)
    (hs : ∀ x, foldedSetIterable iter X.env x = pure x := by intro _; rfl) : DS X G W (.For tg iter body [] pos) (forS fi gd F) := PS_imp (ps_for hp hc hi hg hb hs) fun De sg H ⟨dl, Z, O, r, A, q⟩ => by
  refine ⟨dl, Z, O, r, A, (onS_wp q).mono (fun ds hds J B H1 g1 k1 wk hB => ?_) fun e he => spost_ex A he⟩
  have A1 := A.grow g1 k1
  have s1 : Stp dl Z O H Z O H1 := Stp.of_grow g1 k1
  refine ⟨fun i m sg' H' => m = ds.length - i ∧ i ≤ ds.length ∧ ∃ Z' O' r', At G dl Z' O' r' sg' H' ∧ Stp dl Z O H Z' O' H' ∧ B Z' H' ∧ Wp (loopS gd F (ds.drop i) r') (SPost G W De dl Z O H) (fun _ => False),
    ⟨ds.length, by simp, Nat.zero_le _, Z, O, r, A1, s1, hB, by simpa using hds⟩, ?_⟩
  rintro i m sg' H' ⟨rfl, hi', Z', O', r', A', s', hB', hw⟩
  by_cases hlt : i < ds.length
  · have hdrop : ds.drop i = ds[i] :: ds.drop (i + 1) := List.drop_eq_getElem_cons hlt
    rw [hdrop] at hw
    refine .inr ⟨wk.go i Z' H' hB' hlt, fun sg2 H2 => i + 1 ≤ ds.length ∧ ∃ Z' O' r', At G dl Z' O' r' sg2 H2 ∧ Stp dl Z O H Z' O' H2 ∧ B Z' H2 ∧ Wp (loopS gd F (ds.drop (i + 1)) r') (SPost G W De dl Z O H) (fun _ => False), fun sg2 H2 h2 => ⟨ds.length - (i + 1), by omega, rfl, h2⟩, fun x H2 hy => ?_⟩
    obtain ⟨g2, k2, rp⟩ := wk.yld i Z' O' r' sg' H' x H2 A' hB' hy ds[i] (by simp)
    have A2 := A'.grow g2 k2
    have s2 : Stp dl Z O H Z' O' H2 := Stp.trans A s' (Stp.of_grow g2 k2)
    have hB2 : B Z' H2 := wk.mono _ _ _ _ (g2.cut A'.dz) g2 hB'
    unfold loopS at hw
    cases hgd : gd ds[i] r' with
    | none => rw [hgd] at hw; exact hw.elim
    | some r2 =>
      rw [hgd] at hw
      refine ⟨dl, Z', O', r', ds[i], A2, rp, r2, hgd, fun sg3 _ _ A3 => ⟨dl, Z', O', r2, A3, hw.bind.thn fun o ho => ?_⟩⟩
      have step : ∀ {r3 : LE}, Wp (loopS gd F (ds.drop (i + 1)) r3) (SPost G W De dl Z O H) (fun _ => False) → ∀ Z4 O4 sg4 H4, Stp dl Z' O' H2 Z4 O4 H4 → At G dl Z4 O4 r3 sg4 H4 →
          i + 1 ≤ ds.length ∧ ∃ Z' O' r', At G dl Z' O' r' sg4 H4 ∧ Stp dl Z O H Z' O' H4 ∧ B Z' H4 ∧ Wp (loopS gd F (ds.drop (i + 1)) r') (SPost G W De dl Z O H) (fun _ => False) := fun hw4 Z4 O4 sg4 H4 s4 A4 =>
        ⟨hlt, Z4, O4, _, A4, Stp.trans A s2 s4, wk.monoS _ _ _ _ (Stp.cut A3 s4) hB2, hw4⟩
      cases o with
      | nx r3 => exact step ho
      | ct r3 => exact step ho
      | bk r3 => exact fun Z4 O4 sg4 H4 s4 A4 => ho Z4 O4 sg4 H4 (Stp.trans A s2 s4) A4
      | rt d => exact SPost.trans A s2 ho
      | ex e r3 => exact SPost.trans A s2 ho
  · have e : i = ds.length := by omega
    subst e
    rw [List.drop_length] at hw
    exact .inl ⟨wk.stop _ Z' H' hB' (Nat.le_refl _), hw Z' O' sg' H' s' A'⟩
end
end DL
set_option Elab.async false
set_option linter.all false
set_option maxRecDepth 100000
namespace DL
open PySem L2 PySem.Spec PyProof.Rows
/-- what is raised is not served here -/
def R.calm {α : Type} : R α → R α
  | .ok a => .ok a
  | .err _ => .stuck
  | .stuck => .stuck
  | .roll m f => .roll m fun i => (f i).calm
@[simp] theorem calm_ok {α : Type} (a : α) : (R.ok a).calm = .ok a := rfl
@[simp] theorem calm_roll {α : Type} (m : Nat) (f : Nat → R α) : (R.roll m f).calm = .roll m fun i => (f i).calm := rfl
theorem calm_wp {α : Type} {Q : α → Prop} {E E' : Exc → Prop} : ∀ {m : R α}, Wp m.calm Q E → Wp m Q E'
  | .ok _, h => h
  | .err _, h => h.elim
  | .stuck, h => h.elim
  | .roll _ _, h => fun i hi => calm_wp (h i hi)
/-- the comprehension's own names forgotten -/
def wipeL (r : LE) : List Nat → LE
  | [] => r
  | v :: vs => (wipeL r vs).set v .un
def W0 : WX := fun _ _ _ _ => False
def loopC (gd : D → LE → Option LE) (tt : LE → R Bool) (te : LE → R D) (r : LE) : List D → R (List D)
  | [] => .ok []
  | d :: ds => match gd d r with
    | none => .stuck
    | some r' => do
      if (← (tt r').calm) then do
        let y ← (te r').calm
        let ys ← loopC gd tt te r ds
        .ok (y :: ys)
      else loopC gd tt te r ds
def compF (fi : LE → R (List D)) (gd : D → LE → Option LE) (tt : LE → R Bool) (te : LE → R D) (vs : List Nat) : LE → R (List D) := fun r => do
  let ds ← fi r
  if ds.length ≤ 16777216 then loopC gd tt te (wipeL r vs) ds else .stuck
def yesT : LE → R Bool := fun _ => .ok true
section
variable {G : Gm} {dl : Addr} {Z : List Addr} {O : List (Nat × Addr)} {r : LE} {sg : L2.St} {H : Hp}
theorem At.wipe (A : At G dl Z O r sg H) : ∀ vs : List Nat, At G dl Z O (wipeL r vs) (wipe sg vs) H
  | [] => A
  | v :: vs => (At.wipe A vs).set_un v none
theorem wipe_get {sg : L2.St} {j : Nat} : ∀ {vs : List Nat}, j ∉ vs → (wipe sg vs)[j]? = sg[j]?
  | [], _ => rfl
  | v :: vs, h => by
    rw [List.mem_cons, not_or] at h
    unfold wipe
    rw [List.getElem?_set_ne fun e => h.1 e.symm]
    exact wipe_get h.2
theorem wipe_at {sg : L2.St} {j : Nat} : ∀ {vs : List Nat}, j ∈ vs → j < sg.length → (wipe sg vs)[j]? = some none
  | [], h, _ => by cases h
  | v :: vs, h, hl => by
    unfold wipe
    by_cases e : v = j
    · subst e
      rw [List.getElem?_set_self (by rw [wipe_length]; exact hl)]
    · rw [List.getElem?_set_ne e]
      rcases List.mem_cons.mp h with h | h
      · exact (e h.symm).elim
      · exact wipe_at h hl
theorem wipe_same {sg sg' : L2.St} {vs : List Nat} (hl : sg'.length = sg.length) (h : ∀ j, j ∉ vs → sg'[j]? = sg[j]?) : L2.wipe sg' vs = L2.wipe sg vs := by
  refine List.ext_getElem? fun j => ?_
  by_cases e : j ∈ vs
  · by_cases q : j < sg.length
    · rw [wipe_at e q, wipe_at e (by omega)]
    · rw [List.getElem?_eq_none (by rw [wipe_length]; omega), List.getElem?_eq_none (by rw [wipe_length]; omega)]
  · rw [wipe_get e, wipe_get e, h j e]
theorem wipe_wipe {sg : L2.St} (vs : List Nat) : L2.wipe (L2.wipe sg vs) vs = L2.wipe sg vs := wipe_same (wipe_length ..) fun j h => wipe_get h
/-- H without p -/
theorem upd_cut {H : Hp} {p : Addr} {o : HO} (h : H p = some o) : upd (cut H [p]) p o = H := by
  funext b
  unfold upd cut
  by_cases e : b = p
  · subst e; simp [h]
  · simp [e]
end
section
variable {X : Cx} {G : Gm} {W : WX} {tg iter : Expr} {fi : LE → R (List D)} {gd : D → LE → Option LE} {is vs : List Nat} {tt : LE → R Bool} {te : LE → R D}
theorem lc_core_d (hsub : ∀ j ∈ is, j ∈ vs) {sg : L2.St} {H : Hp} {Q : VK} (h : tF G W (compF fi gd tt te vs) sg H Q) : tLc (tIe G W fi) (tGd G gd is) (tT G W0 tt) (tD G W0 te) vs sg H Q := by
  obtain ⟨dl, Z, O, r, A, q⟩ := h
  refine ⟨dl, Z, O, r, A, q.bind.thn fun ds hds J B H1 g1 k1 wk hB D hD => ?_⟩
  have A1 := A.grow g1 k1
  split at hds
  case isFalse => exact hds.elim
  rename_i hlen
  have nt : ∀ (xs : List V) ps, HO.lst xs ≠ HO.tbl ps := fun _ _ z => by cases z
  have B1 : At G dl (D :: Z) O r sg (upd H1 D (.lst [])) := A1.aside hD (nt _)
  have hDZ := A1.out hD
  have hDd := A1.notdl hD
  have hB1 : B (D :: Z) (upd H1 D (.lst [])) := wk.mono _ _ _ _ (cut_new hD) (.new hD) hB
  -- the state between turns
  let St : Nat → Hp → Prop := fun i H' => i ≤ ds.length ∧ ∃ acc us, At G dl (D :: Z) O r sg H' ∧ Grow dl H1 H' ∧ B (D :: Z) H' ∧ H' D = some (.lst us) ∧ RepL G dl (cut H' (D :: Z)) acc us ∧ acc.length ≤ i ∧
    Wp (loopC gd tt te (wipeL r vs) (ds.drop i)) (fun ys => ∀ p us H2, Grow dl H H2 → GlOk G dl H2 → H2 p = none → RepL G dl (cut H2 Z) (acc ++ ys) us → Q (.ref p) (upd H2 p (.lst us))) (fun e => ∀ cls dx H', Grow dl H H' → GlOk G dl H' → XRep G dl (cut H' Z) e cls dx H' → W cls dx sg H')
  refine ⟨fun i m H' => m = ds.length - i ∧ St i H', ⟨ds.length, by simp, Nat.zero_le _, [], [], B1, .new hD, hB1, upd_same, RepL.nil, Nat.le_refl _, by simpa using hds⟩, ?_⟩
  rintro i m H' ⟨rfl, hi', acc, us, A', gH, hB', hDu, rl, hal, hw⟩
  by_cases hlt : i < ds.length
  · have hdrop : ds.drop i = ds[i] :: ds.drop (i + 1) := List.drop_eq_getElem_cons hlt
    rw [hdrop] at hw
    refine .inr ⟨wk.go i _ H' hB' hlt, St (i + 1), fun H2 h2 => ⟨ds.length - (i + 1), by omega, rfl, h2⟩, fun x H2 hy => ?_⟩
    obtain ⟨g2, k2, rp⟩ := wk.yld i _ O r sg H' x H2 A' hB' hy ds[i] (by simp)
    have A2 := A'.grow g2 k2
    unfold loopC at hw
    cases hgd : gd ds[i] (wipeL r vs) with
    | none => rw [hgd] at hw; exact hw.elim
    | some r2 =>
      rw [hgd] at hw
      refine ⟨dl, D :: Z, O, wipeL r vs, ds[i], A2.wipe vs, rp, r2, hgd, fun sg3 hl3 hs3 A3 => ⟨?_, ?_⟩⟩
      · exact (wipe_same hl3 fun j hj => hs3 j fun z => hj (hsub j z)).trans (wipe_wipe vs)
      refine ⟨dl, D :: Z, O, r2, A3, (calm_wp hw.bind).mono (fun b hb H3 g3 k3 => ?_) fun e he => he⟩
      have A3' := A3.grow g3 k3
      have D3 : H2 D = some (.lst us) := g2 D _ hDu hDd (nt _)
      have D3' : H3 D = some (.lst us) := g3 D _ D3 hDd (nt _)
      have C3 : At G dl (D :: Z) O r sg H3 := A2.grow g3 k3
      cases b with
      | false =>
        refine ⟨hlt, acc, us, C3, (gH.trans g2).trans g3, wk.mono _ _ _ _ (g3.cut A2.dz) g3 (wk.mono _ _ _ _ (g2.cut A'.dz) g2 hB'), D3', rl.mono ((g2.trans g3).cut A'.dz), by omega, hb⟩
      | true =>
        refine ⟨dl, D :: Z, O, r2, A3', (calm_wp hb.bind).mono (fun y hy2 v H4 g4 k4 rp4 => ?_) fun e he => he⟩
        have D4 : H4 D = some (.lst us) := g4 D _ D3' hDd (nt _)
        have C4 : At G dl (D :: Z) O r sg H4 := C3.grow g4 k4
        have hz : us.length < sizeLine := by rw [sizeLine_eq, rl.length]; omega
        have gall : Grow dl H1 H4 := ((gH.trans g2).trans g3).trans g4
        have gcutD : ∀ xs, GrowS (cut H4 (D :: Z)) (cut (upd H4 D (.lst xs)) (D :: Z)) := fun xs b o e n => by
          obtain ⟨e1, e2⟩ := cut_some e
          have hbD : b ≠ D := fun z => e1 (by rw [z]; exact List.mem_cons_self)
          rw [cut_out e1, upd_ne hbD]; exact e2
        have gD : Grow dl H1 (upd H4 D (.lst (us ++ [v]))) := fun b o e n nt' => by
          rw [upd_ne (ne_of_none e hD)]; exact gall b o e n nt'
        have gl5 : GlOk G dl (upd H4 D (.lst (us ++ [v]))) := by
          obtain ⟨x1, y1, z1, hd1⟩ := k4.dice
          refine ⟨⟨x1, y1, z1, by rw [upd_ne fun e => hDd e.symm]; exact hd1⟩, fun p hp => ?_⟩
          obtain ⟨ps, h1, h2, h3⟩ := k4.tab p hp
          have hpD : p.1 ≠ D := fun e => by rw [e, D4] at h1; cases h1
          refine ⟨ps, by rw [upd_ne hpD]; exact h1, h2, fun pos cv hc => ?_⟩
          obtain ⟨c, e1, e2⟩ := h3 pos cv hc
          have hcD : c ≠ D := fun e => by
            rw [e, D4] at e2
            have e3 := Option.some.inj e2
            cases e3
          exact ⟨c, e1, by rw [upd_ne hcD]; exact e2⟩
        have A5 : At G dl (D :: Z) O r sg (upd H4 D (.lst (us ++ [v]))) := by
          refine ⟨gl5, C4.dz, fun b hb => ?_, C4.own, C4.inj, C4.len, fun j c e => ?_⟩
          · by_cases e : b = D
            · rw [e]; exact ⟨_, upd_same, nt _⟩
            · obtain ⟨u, h1, h2⟩ := C4.live b hb
              exact ⟨u, by rw [upd_ne e]; exact h1, h2⟩
          · have := C4.slot j c e
            cases c with
            | un => trivial
            | val d =>
              obtain ⟨v, e, q⟩ := this
              exact ⟨v, e, q.mono (gcutD _)⟩
            | own d =>
              obtain ⟨a, ha, e, q, ko⟩ := this
              have haD : a ≠ D := fun z => hDZ (by rw [← z]; exact (A.own _ ha).1)
              refine ⟨a, ha, e, ?_, ko⟩
              rw [upd_ne haD]; exact q.mono (gcutD _)
        refine ⟨us, D4, hz, hlt, acc ++ [y], us ++ [v], A5, gD, wk.mono _ _ _ _ (fun b o e n => ?_) gD hB, upd_same, ?_, by rw [List.length_append]; simp; omega, ?_⟩
        · obtain ⟨e1, e2⟩ := cut_some e
          have hbD : b ≠ D := ne_of_none e2 hD
          have hbl : b ≠ dl := fun z => e1 (by rw [z]; exact A.dz)
          rw [cut_out (by rw [List.mem_cons, not_or]; exact ⟨hbD, e1⟩)]
          exact gD b o e2 hbl n
        · exact RepL.append (rl.mono ((((g2.trans g3).trans g4).cut A'.dz).trans (gcutD _))) (RepL.cons (rp4.mono (gcutD _)) RepL.nil)
        · exact hy2.bind.thn fun ys hys => by rw [List.append_assoc]; exact hys
  · have e : i = ds.length := by omega
    subst e
    rw [List.drop_length] at hw
    refine .inl ⟨wk.stop _ _ H' hB' (Nat.le_refl _), ?_⟩
    have hw2 : ∀ p us H2, Grow dl H H2 → GlOk G dl H2 → H2 p = none → RepL G dl (cut H2 Z) (acc ++ []) us → Q (.ref p) (upd H2 p (.lst us)) := hw
    rw [List.append_nil] at hw2
    have := hw2 D us (cut H' [D]) (fun b o e n nt' => ?_) ?_ (cut_in (by simp)) ?_
    · rw [upd_cut hDu] at this; exact this
    · have e1 := g1 b o e n nt'
      rw [cut_out (by simpa using ne_of_none e1 hD)]
      exact gH b o e1 n nt'
    · obtain ⟨x1, y1, z1, hd1⟩ := A'.gl.dice
      refine ⟨⟨x1, y1, z1, by rw [cut_out (by simpa using fun e : dl = D => hDd e.symm)]; exact hd1⟩, fun p hp => ?_⟩
      obtain ⟨ps, h1, h2, h3⟩ := A'.gl.tab p hp
      have hpD : p.1 ≠ D := fun e => by rw [e, hDu] at h1; cases h1
      refine ⟨ps, by rw [cut_out (by simpa using hpD)]; exact h1, h2, fun pos cv hc => ?_⟩
      obtain ⟨c, e1, e2⟩ := h3 pos cv hc
      have hcD : c ≠ D := fun e => by
        rw [e, hDu] at e2
        have e3 := Option.some.inj e2
        cases e3
      exact ⟨c, e1, by rw [cut_out (by simpa using hcD)]; exact e2⟩
    · refine rl.mono fun b o e n => ?_
      obtain ⟨e1, e2⟩ := cut_some e
      rw [List.mem_cons, not_or] at e1
      rw [cut_out e1.2, cut_out (by simpa using e1.1)]
      exact e2
abbrev DTs (X : Cx) (G : Gm) (W : WX) (ifs : List Expr) (f : LE → R Bool) : Prop := PTs X ifs (tT G W f)
theorem dts_nil : DTs X G W [] yesT := ⟨fun pins s sg H Q I ⟨dl, Z, O, r, A, q⟩ => pts_nil.run pins s sg H Q I (q H (.refl _ _) A.gl)⟩
theorem dts_one {c : Expr} (h : DT X G W c tt) : DTs X G W [c] tt := pts_one h
/-- [elt for tg in iter if ..] -/
theorem df_comp {elt : Expr} {ifs : List Expr} {scope : Scope} {own : List (Str × Nat)} {pos : Pos} (hc : X.calm = true) (hN : X.N.Nodup) (hi : DIe X G W tg iter fi) (ok : BlkOk X.N X.env.scope scope own)
    (hg : ∀ (s : Shared) (H : Hp) (C : Addr) (cl : List (Str × Addr)) (fp : List Addr), DG (X.blk s H scope (compEnvC scope cl C X.env) fp) G tg gd is)
    (ht : ∀ (s : Shared) (H : Hp) (C : Addr) (cl : List (Str × Addr)) (fp : List Addr), DTs (X.blk s H scope (compEnvC scope cl C X.env) fp) G W0 ifs tt)
    (he : ∀ (s : Shared) (H : Hp) (C : Addr) (cl : List (Str × Addr)) (fp : List Addr), DE (X.blk s H scope (compEnvC scope cl C X.env) fp) G W0 elt te)
    (hsub : ∀ j ∈ is, j ∈ own.map (·.2)) (hs : ∀ x, foldedSetIterable iter X.env x = pure x := by intro _; rfl) :
    DF X G W (.ListComp elt [⟨tg, iter, ifs, 0⟩] scope pos) (compF fi gd tt te (own.map (·.2))) := PE_imp (pe_lc hc hN hi ok hg ht he hs) fun sg H Q h => lc_core_d hsub h
/-- y = [elt for tg in iter if ..], y a plain local, on one line: y one's own -/
theorem ds_setcomp (i : Nat) {y : Str} {py : Pos} {elt : Expr} {ifs : List Expr} {scope : Scope} {own : List (Str × Nat)} {pos spos : Pos} (hc : X.calm = true) (hN : X.N.Nodup) (hi : DIe X G W tg iter fi) (ok : BlkOk X.N X.env.scope scope own)
    (hg : ∀ (s : Shared) (H : Hp) (C : Addr) (cl : List (Str × Addr)) (fp : List Addr), DG (X.blk s H scope (compEnvC scope cl C X.env) fp) G tg gd is)
    (ht : ∀ (s : Shared) (H : Hp) (C : Addr) (cl : List (Str × Addr)) (fp : List Addr), DTs (X.blk s H scope (compEnvC scope cl C X.env) fp) G W0 ifs tt)
    (he : ∀ (s : Shared) (H : Hp) (C : Addr) (cl : List (Str × Addr)) (fp : List Addr), DE (X.blk s H scope (compEnvC scope cl C X.env) fp) G W0 elt te)
    (hsub : ∀ j ∈ is, j ∈ own.map (·.2)) (hti : i ≠ 1000000) (hsw : swapsWith (.ListComp elt [⟨tg, iter, ifs, 0⟩] scope pos) (some (.Name y py)) spos.line X.env = pure true)
    (hy : X.N[i]? = some y := by rfl) (hyl : X.env.scope.names.lookup y = some .local := by rfl) (hs : ∀ x, foldedSetIterable iter X.env x = pure x := by intro _; rfl) :
    DS X G W (.Assign [.Name y py] (.ListComp elt [⟨tg, iter, ifs, 0⟩] scope pos) spos) (setK i (ownK (compF fi gd tt te (own.map (·.2))))) := PS_imp (ps_setLc hc hN hy hyl hsw hi ok hg ht he hs) fun De sg H ⟨dl, Z, O, r, A, q⟩ => by
  refine lc_core_d (W := W) hsub ⟨dl, Z, O, r, A, (onS_wp q).bind.bind.mono (fun ds hd p us H1 g1 k1 hp rl => ?_) fun e he => spost_ex A he⟩
  exact hd _ _ _ _ (Stp.trans A (Stp.of_grow g1 k1) (Stp.new (A.grow g1 k1) hp hti)) ((A.grow g1 k1).set_own i hp ⟨us, rfl, rl⟩ ⟨rfl, hti⟩)
end
end DL
set_option Elab.async false
set_option linter.all false
set_option maxRecDepth 100000
namespace DL
open PySem L2 PySem.Spec PyProof.Rows
def appS (i : Nat) (f : LE → R D) : LE → R Out := fun r => match r[i]? with
  | some (.own (.lst ds)) => (f r).onS r fun d => if ds.length < 16777216 then .ok (.nx (r.set i (.own (.lst (ds ++ [d]))))) else .stuck
  | _ => .stuck
section
variable {X : Cx} {G : Gm} {W : WX} {ex ek : Expr} {f k : LE → R D} {pos apos p p1 p2 : Pos} {x m : Str}
theorem ds_append (i : Nat) (ha : DE X G W ex f) (hN : X.N[i]? = some x := by rfl) (hv : Vis X.env.scope x := by first | exact Or.inl rfl | exact Or.inr (Or.inl rfl) | exact Or.inr (Or.inr rfl)) (hd : (x == ("__debug__" : Str)) = false := by decide)
    (hcd : (x == ("__classdict__" : Str)) = false := by decide) (hs : swapsWith (.Call (.Attribute (.Name x p1) "append" apos) [ex] [] p) none pos.line X.env = pure false := by rfl)
    (hbase : attributeBase (.Name x p1) "append" X.env (eval (.Name x p1) X.env) = eval (.Name x p1) X.env := by rfl)
    (hfew : ((backTo p (starEach [ex] X.env)).all (fun x => !x.1) && (backToKw p (keywordEach [] X.env)).all (fun x => x.1.isSome)
      && decide ([ex].length + ([] : List Keyword).length + (if ([] : List Keyword).isEmpty then 0 else 1) < 30)) = true := by rfl)
    (hline : (apos.endLine == p.line) = true := by rfl) (hst : starEach [ex] X.env = (false, eval ex X.env) :: starEach [] X.env := by rfl) :
    DS X G W (.Expr (.Call (.Attribute (.Name x p1) "append" apos) [ex] [] p) pos) (appS i f) := by
  refine PS_imp (ps_expr (pe_bm PySem.F.plainAttrs_list PySem.F.slot_list_append PySem.F.type_list_append mt_append (pe_var hN hv hd hcd) (pa_cons ha pa_nil hst) hbase hfew hline hst (by rfl)) hs) fun De sg H ⟨dl, Z, O, r, A, q⟩ => ?_
  unfold appS at q
  split at q
  case h_2 => exact q.elim
  rename_i ds hr
  obtain ⟨a, ha', hs', ⟨vs, e, rl⟩, ko⟩ := A.slot i _ hr
  obtain ⟨haz, had⟩ := A.own _ ha'
  refine ⟨.ref a, hs', .inl ⟨rfl, vs, SqL.of e⟩, dl, Z, O, r, A, (onS_wp q).mono (fun d hd' v H1 g1 k1 rp => ?_) fun e he => spost_ex A he⟩
  have A1 := A.grow g1 k1
  have e1 : H1 a = some (.lst vs) := g1 a _ e had (fun ps z => by cases z)
  split at hd'
  case isFalse => exact hd'.elim
  rename_i hlen
  refine ⟨a, vs, v, rfl, rfl, e1, by rw [sizeLine_eq, rl.length]; exact hlen, ?_⟩
  refine hd' Z O sg _ (Stp.trans A (Stp.of_grow g1 k1) (Stp.write ha' fun ps z => by cases z)) (A1.write hr ha' hs' ⟨_, rfl, RepL.append (rl.mono (g1.cut A.dz)) (RepL.cons rp RepL.nil)⟩ rfl ko)
def errS (e : Exc) : LE → R Out := fun r => .ok (.ex e r)
theorem ds_raise {bmB : List Value} {B newId initId : String} {C : Addr} {s : Str} {j : Nat} (c : Nat) (tk : Takes X W) (hc : X.calm = true) (F : PySem.ExcBaseFacts B newId initId bmB) (hC : G.xcls c = C) (hx : G.xfld c = none) (hq : PySem.W.excIn X.K C bmB newId = true) (gC : X.mg x = some (.ref C)) (kC : PySem.W.keepIn X.K (.ref C) = true) (rs : Raises X (.ref C))
    (hg : Gl X x := by rfl) (hdb : (x == ("__debug__" : Str)) = false := by decide) : DS X G W (.Raise (some (.Call (.Name x p) [.Constant (.str s) j p2] [] p1)) none pos) (errS ⟨c, .non⟩) :=
  PS_imp (ps_raise hc tk (pmk_own F hq gC kC rs hg hdb)) fun De sg H ⟨dl, Z, O, r, A, q⟩ => by
    subst hC
    exact q Z O sg H _ none Stp.refl A ⟨rfl, by rw [hx]⟩
end
end DL
set_option Elab.async false
set_option linter.all false
set_option maxRecDepth 100000
namespace DL
open PySem L2 PySem.Spec PyProof.Rows
/-- a def of n arguments and m names, by its body -/
def runF (n m : Nat) (F : LE → R Out) (ds : List D) : R D := if ds.length = n then (do
  match ← (F (ds.map Cell.val ++ List.replicate (m - n) Cell.un)).calm with
  | .nx _ => .ok .non
  | .rt d => .ok d
  | .ex e _ => .err e
  | _ => .stuck) else .stuck
theorem runF_len {n m : Nat} {F : LE → R Out} : ∀ ds Q E, Wp (runF n m F ds) Q E → ds.length = n := fun ds Q E h => by
  unfold runF at h
  split at h
  · assumption
  · exact h.elim
/-- the wish of a def's body -/
abbrev WD (E : XK) : WX := fun cls d _ H' => E cls d H'
section
variable {P : Program} {w : World} {K : PySem.W.Frag} {mg : Str → Option Value} {base : Heap} {G : Gm} {x qual : Str} {st : Stmt} {f : Addr} {fd : FuncData} {N ps : List Str} {k n m c nf : Nat} {F : LE → R Out}
abbrev cxD (P : Program) (w : World) (K : PySem.W.Frag) (mg : Str → Option Value) (base : Heap) (N : List Str) (qual : Str) (st : Stmt) (f : Addr) (cdv : Value) (A : Around) (outer : List Env) (s : Shared) (H : Hp) (E : XK) : Cx :=
  cxOf (L2.CX P w) P w K mg base N qual (defScope st) f cdv A outer s H E
theorem takes_cxD {cdv A outer s H E} : Takes (cxD P w K mg base N qual st f cdv A outer s H E) (WD E) := takes_of rfl rfl rfl rfl
theorem owns_cxD {cdv A outer s H E} : PassesOwn (model P w) (cxD P w K mg base N qual st f cdv A outer s H E).A (cxD P w K mg base N qual st f cdv A outer s H E).env (cxD P w K mg base N qual st f cdv A outer s H E).xe := passes_of rfl
theorem start_get {vs : List V} {ds : List D} {dl : Addr} {Z : List Addr} {H : Hp} (rl : RepL G dl (cut H Z) ds vs) (hl : vs.length = n) (hN : N.length = m) {O : List (Nat × Addr)} : ∀ i c, (ds.map Cell.val ++ List.replicate (m - n) Cell.un)[i]? = some c → Slot G dl Z O H i (L2.start N vs)[i]? c := fun i c e => by
  have hl2 := rl.length
  by_cases hi : i < ds.length
  · rw [List.getElem?_append_left (by simpa using hi), List.getElem?_map, List.getElem?_eq_getElem hi] at e
    cases e
    obtain ⟨v, h1, h2⟩ := RepL.getD ds vs i ds[i] rl (by simp)
    refine ⟨v, ?_, h2⟩
    unfold L2.start
    rw [List.getElem?_append_left (by rw [List.length_map]; omega), List.getElem?_map, h1]
    rfl
  · rw [List.getElem?_append_right (by simpa using hi), List.getElem?_replicate] at e
    split at e
    · cases e; trivial
    · cases e
theorem fnOk_of (Fn : Fun K x qual st f fd) (S : FnScope N ps (defScope st)) (hn : ps.length = n) (hm : N.length = m)
    (hb : ∀ cdv A outer s H E, Room k (A.deeper (envOfC qual (defScope st) s.heap.objs.size f cdv)) → DSs (cxD P w K mg base N qual st f cdv A outer s H E) G (WD E) (defBody st) F) :
    FnOk P w K mg base (L2.CX P w) (k + 1) f fd ps (spD G n (runF n m F)) := by
  refine Fn.okX S (fun vs H Q E h => by rw [hn]; exact h.1) fun cdv A outer s H vs Q E hr h => ⟨_, hb cdv A outer s H E hr, ?_⟩
  obtain ⟨hl, dl, Z, ds, gl, dz, live, rl, hw⟩ := h
  unfold runF at hw
  split at hw
  case isFalse => exact hw.elim
  rename_i hdl
  have hpl : ps.length ≤ N.length := by have := congrArg List.length S.pre; rw [List.length_take] at this; omega
  have A0 : At G dl Z [] (ds.map Cell.val ++ List.replicate (m - n) Cell.un) (L2.start N vs) H := by
    refine ⟨gl, dz, live, fun p hp => (by cases hp), fun p hp => (by cases hp), ?_, start_get rl hl hm⟩
    unfold L2.start
    rw [List.length_append, List.length_map, List.length_replicate, List.length_append, List.length_map, List.length_replicate]
    omega
  have gr : ∀ {Z' O' H'}, Stp dl Z [] H Z' O' H' → Grow dl H H' := fun s a o e n nt => s.fr a o e n (fun p hp => (by cases hp)) nt
  have gz : ∀ {Z' O' H'}, Stp dl Z [] H Z' O' H' → GrowS (cut H' Z') (cut H' Z) := fun s => cut_sub fun a ha => s.zk a ha fun p hp => (by cases hp)
  refine ⟨dl, Z, [], _, A0, (calm_wp hw.bind).thn fun o ho => ?_⟩
  cases o with
  | nx r => exact fun Z' O' sg' H' s A' => ho _ _ (gr s) A'.gl Rep.non_
  | rt d => exact fun Z' O' v H' s g rp => ho _ _ (gr s) g (rp.mono (gz s))
  | ex e r => exact fun Z' O' sg' H' cls dx s A' xr => ho cls dx H' (gr s) A'.gl (xr.mono (gz s))
  | bk r => exact ho.elim
  | ct r => exact ho.elim
theorem fnD_of (Fn : Fun K x qual st f fd) (S : FnScope N ps (defScope st)) (bd : Binds K fd ps []) (hx : mg x = some (.ref f)) (hn : ps.length = n) (hm : N.length = m)
    (hb : ∀ cdv A outer s H E, Room k (A.deeper (envOfC qual (defScope st) s.heap.objs.size f cdv)) → DSs (cxD P w K mg base N qual st f cdv A outer s H E) G (WD E) (defBody st) F) :
    FnD P w K mg base G (k + 1) x f n (runF n m F) := ⟨⟨fd, ps, hn, fnOk_of Fn S hn hm hb, bd⟩, runF_len, Fn.kp, hx⟩
end
end DL
set_option Elab.async false
set_option linter.all false
set_option maxRecDepth 100000
namespace DL
open PySem L2 LamX PySem.Spec PyProof.Rows
/-- what the clauses give back, one after the other -/
def wSel (K : PySem.W.Frag) (Q : VK) : List (Addr × Str) → Value → Hp → Prop
  | [], _, _ => False
  | (C, s) :: r, cls, H => ∃ b, PySem.W.exmOne K cls (.ref C) = some b ∧ (b = true → Q (.str s) H) ∧ (b = false → wSel K Q r cls H)
def TTm (K : PySem.W.Frag) (l : List (Addr × Str)) : (XK → Hp → VK → Prop) → Hp → VK → Prop := fun tl H Q => tl (fun cls _ H' => wSel K Q l cls H') H Q
def hdl (l : List (Addr × Str)) : List (Value × (Addr → Value → Option Addr → TS)) := l.map fun p => (.ref p.1, fun _ _ _ => tRet (tC (.str p.2)))
theorem wSel_many {K : PySem.W.Frag} {Q : VK} {De : Ends} (hq : ∀ v H, Q v H → De.rt v H) : ∀ {l : List (Addr × Str)} {cls : Value} {d : Option Addr} {sg : L2.St} {H : Hp}, wSel K Q l cls H → wMany K (fun _ _ _ _ => False) De (hdl l) cls d sg H
  | [], _, _, _, _, h => h
  | (C, s) :: r, cls, d, sg, H, ⟨b, e, h1, h2⟩ => ⟨b, e, fun hb a _ => hq _ _ (h1 hb), fun hb => wSel_many hq (h2 hb)⟩
inductive HdT (X : Cx) (sg : Scope) : List ExceptHandler → List (Addr × Str) → Prop
  | nil : HdT X sg [] []
  | cons {e : Str} {C : Addr} {s : Str} {j : Nat} {p4 p5 p6 p7 : Pos} {hds : List ExceptHandler} {l : List (Addr × Str)} (h1 : sg.names.lookup e = some .globalImplicit) (h2 : X.mg e = some (.ref C)) (h3 : (e == ("__debug__" : Str)) = false) (t : HdT X sg hds l) :
      HdT X sg (.ExceptHandler (some (.Name e p4)) none [.Return (some (.Constant (.str s) j p5)) p6] p7 :: hds) ((C, s) :: l)
section
variable {X : Cx}
theorem told_many {Ng : List Str} {x a q : Str} {sg : Scope} {g : Addr} {cdg : Value} {p1 p2 p3 p8 : Pos} {h₀ : ExceptHandler} {hds : List ExceptHandler} {l : List (Addr × Str)} (hh : HdT X sg (h₀ :: hds) l) (h0 : ∀ f : Addr, (L2.start Ng [V.ref f])[0]? = some (some (V.ref f))) :
    GivesTo X Ng x sg g cdg [.Try [.Return (some (.Call (.Name a p1) [] [] p2)) p3] (h₀ :: hds) [] [] p8] a q (TTm X.K l) := by
  intro f c' s H Q tl act hc h
  have hk : ∀ {hs : List ExceptHandler} {l : List (Addr × Str)}, HdT X sg hs l → HdsOk (cxOf C8.CX0 X.prog X.w X.K X.mg X.base Ng x sg g cdg X.A X.stack s H C8.E0).nox hs (hdl l) := fun {hs l} hh => by
    induction hh with
    | nil => exact .nil
    | cons h1 h2 h3 t ih => exact .cons ⟨h1, h3, .inl h2⟩ (fun a oe cls d pn _ _ => pss_one (ps_ret pe_str)) ih
  refine ⟨_, pss_one (ps_try_many (X := (cxOf C8.CX0 X.prog X.w X.K X.mg X.base Ng x sg g cdg X.A X.stack s H C8.E0).nox)
      (tb := fun W De sg' H' => ∃ Ech : XK, (∀ cls d s2 H2, Ech cls d H2 → W cls d s2 H2) ∧ sg'[0]? = some (some (.ref f)) ∧ H' c' = some (CodeO c' q) ∧ tl Ech H' De.rt)
      rfl rfl LamX.takes0 (fun W pn xe tk _ => ?_) (hk hh)), ?_⟩
  · refine ⟨fun pins s' sg' H' De I ⟨Ech, hW, h1, h2, h3⟩ => ?_⟩
    exact (pss_one (ps_ret (pos := p3) (act W pn xe Ech p1 p2 tk hW))).run pins s' sg' H' De I ⟨h1, h2, h3⟩
  · exact ⟨fun cls _ H' => wSel X.K Q l cls H', fun cls d s2 H2 hw => wSel_many (fun _ _ z => z) hw, h0 f, hc, h⟩
/-- an error told by its word -/
def toldD (l : List (Nat × List Nat)) : R D → R D
  | .ok d => .ok d
  | .err e => match l.lookup e.cls with
    | some s => .ok (.str s)
    | none => .stuck
  | .stuck => .stuck
  | .roll m f => .roll m fun i => toldD l (f i)
@[simp] theorem toldD_ok (l : List (Nat × List Nat)) (d : D) : toldD l (.ok d) = .ok d := rfl
theorem toldD_wp {l : List (Nat × List Nat)} {Q : D → Prop} {E : Exc → Prop} : ∀ {m : R D}, Wp (toldD l m) Q E → Wp m Q (fun e => ∃ s, l.lookup e.cls = some s ∧ Q (.str s))
  | .ok _, h => h
  | .err e, h => by
    unfold toldD at h
    split at h
    · rename_i s hs; exact ⟨s, hs, h⟩
    · exact h.elim
  | .stuck, h => h
  | .roll _ _, h => fun i hi => toldD_wp (h i hi)
/-- the clauses part the classes -/
def ExmOk (K : PySem.W.Frag) (G : Gm) (ks : List Nat) : Prop := ∀ i ∈ ks, ∀ j ∈ ks, PySem.W.exmOne K (.ref (G.xcls i)) (.ref (G.xcls j)) = some (i == j)
theorem wSel_of {K : PySem.W.Frag} {G : Gm} {Q : VK} {H : Hp} {i : Nat} {s : List Nat} : ∀ {l : List (Nat × List Nat)} (ks : List Nat), ExmOk K G ks → i ∈ ks → (∀ j ∈ l.map (·.1), j ∈ ks) → l.lookup i = some s → Q (.str ⟨s.toArray⟩) H → wSel K Q (l.map fun p => (G.xcls p.1, (⟨p.2.toArray⟩ : Str))) (.ref (G.xcls i)) H
  | [], ks, _, _, _, h, _ => by cases h
  | (j, t) :: l, ks, hx, hi, hl, h, q => by
    refine ⟨i == j, hx i hi j (hl j (by simp)), fun hb => ?_, fun hb => ?_⟩
    · rw [List.lookup_cons, hb] at h
      cases h
      exact q
    · rw [List.lookup_cons, hb] at h
      exact wSel_of ks hx hi (fun j hj => hl j (List.mem_cons_of_mem _ hj)) h q
theorem lookup_mem {i : Nat} {s : List Nat} : ∀ {l : List (Nat × List Nat)}, l.lookup i = some s → i ∈ l.map (·.1)
  | [], h => by cases h
  | p :: l, h => by
    rw [List.lookup_cons] at h
    split at h
    · rename_i hh
      exact List.mem_map.mpr ⟨p, List.mem_cons_self, (beq_iff_eq.mp hh).symm⟩
    · exact List.mem_cons_of_mem _ (lookup_mem h)
theorem takes_lam {A outer s H E scope f c'} : Takes (lamCx X A outer s H E scope f c') (WD E) := takes_of rfl rfl rfl rfl
theorem Grow.ofExt {dl : Addr} {H H' : Hp} (e : ExtN H H') : Grow dl H H' := fun a o h _ nt => e a o h nt
theorem GlOk.ofExt {G : Gm} {dl : Addr} {H H' : Hp} (k : GlOk G dl H) (e : ExtN H H') (t : Tabs G.tabs H') : GlOk G dl H' := by
  obtain ⟨x, y, z, h⟩ := k.dice
  exact ⟨⟨x, y, z, e _ _ h fun ps z => by cases z⟩, t⟩
/-- x(lambda: body), x a def that tells -/
theorem de_told {G : Gm} {W : WX} {l : List (Nat × List Nat)} {x a : Str} {g c P : Addr} {k : Nat} {pg : Arguments} {bg : List Stmt} {sg : Scope} {dV kV doc pm cdv ct oc : Value} {an od : Option Addr} {osl : Array (Option Value)} {Ng : List Str}
    {params : Arguments} {body : Expr} {scope : Scope} {fb : LE → R D} {p lpos pos : Pos} (hm : X.mg x = some (.ref g)) (hk : PySem.W.keepIn X.K (.ref g) = true)
    (lk : X.K.lookup g = some ⟨oc, od, .func (PySem.W.fnOf x x pg bg sg dV kV doc pm an cdv ct), osl⟩) (hcg : PySem.W.codeIn X.K cdv x = true) (hb : L2.Binds X.K (PySem.W.fnOf x x pg bg sg dV kV doc pm an cdv ct) [a] []) (Sg : FnScope Ng [a] sg) (hNg : Ng[0]? = some a) (hva : Vis sg a)
    (hG : GivesTo X Ng x sg g cdv bg a (X.env.qual ++ "<lambda>") (TTm X.K (l.map fun p => (G.xcls p.1, (⟨p.2.toArray⟩ : Str)))))
    (hx : ExmOk X.K G (l.map (·.1))) (TB : TabB X.base X.mg c P) (hcode : X.env.code = .ref c) (hmT : (P, X.env.qual ++ "<lambda>") ∈ G.tabs) (hu : ∀ p ∈ G.tabs, p.1 = P → p.2 = X.env.qual ++ "<lambda>") (hr : Room (k + 2) X.A) (L : LamS X.env.scope scope)
    (hbody : ∀ (A : Around) (outer : List Env) (s : Shared) (H : Hp) (E : XK) (f c' : Addr), Room k (A.deeper (lamEnv X scope s.heap.objs.size f c')) → DE (lamCx X A outer s H E scope f c') G (WD E) body fb)
    (hg : Gl X x := by rfl) (hdef : defaultsOf params X.env = ([], []) := by rfl)
    (hbind : ∀ (q : Str) (cl : List (Str × Addr)) (pm cv ctv : Value), bindArgs (PySem.W.kla_fn "<lambda>" q params body scope cl pm cv ctv) ⟨[], []⟩ = pure [] := by intro _ _ _ _ _; rfl)
    (hdb : (x == ("__debug__" : Str)) = false := by decide) (hd : (a == ("__debug__" : Str)) = false := by decide) (hcd : (a == ("__classdict__" : Str)) = false := by decide) :
    DE X G W (.Call (.Name x p) [.Lambda params body scope lpos] [] pos) (fun r => toldD l (fb r)) := by
  refine PE_imp (pe_lamcall (T := G.tabs) (t := fun E => tD G (WD E) fb) hg hm hk lk hcg hb Sg hNg hva hG TB hcode hmT hu hr L hdef hbind hbody hdb hd hcd) fun sg H Q ⟨dl, Z, O, r, A, q⟩ => ⟨A.gl.tab, fun H1 e1 t1 => ?_⟩
  have g1 : Grow dl H H1 := Grow.ofExt e1
  have k1 := A.gl.ofExt e1 t1
  refine ⟨dl, Z, O, r, A.grow g1 k1, (toldD_wp q).mono (fun d hd v H2 g2 k2 rp => hd v H2 (g1.trans g2) k2 rp) fun e ⟨s, hs, hq⟩ cls dx H2 g2 k2 xr => ?_⟩
  obtain ⟨rfl, _⟩ := xr
  have hmem : e.cls ∈ l.map (·.1) := lookup_mem hs
  exact wSel_of _ hx hmem (fun j hj => hj) hs (hq _ H2 (g1.trans g2) k2 Rep.str_)
end
end DL
set_option Elab.async false
set_option linter.all false
set_option maxRecDepth 100000
namespace DL
open PySem L2 PySem.Spec PyProof.Rows
def RepPL (G : Gm) (dl : Addr) (H : Hp) (Z : List Addr) : List D → List V → Prop
  | [], vs => vs = []
  | d :: ds, vs => ∃ v r, vs = v :: r ∧ RepP G dl H Z d v ∧ RepPL G dl H Z ds r
theorem RepPL.grow {G : Gm} {dl : Addr} {Z : List Addr} {O : List (Nat × Addr)} {r : LE} {sg : L2.St} {H H' : Hp} (A : At G dl Z O r sg H) (g : Grow dl H H') : ∀ {ds : List D} {vs : List V}, RepPL G dl H Z ds vs → RepPL G dl H' Z ds vs
  | [], _, h => h
  | d :: ds, vs, ⟨v, r, e, h1, h2⟩ => ⟨v, r, e, h1.grow A g, RepPL.grow A g h2⟩
def tAp (G : Gm) (W : WX) (f : LE → R (List D)) : TA := fun sg H Q => ∃ dl Z O r, At G dl Z O r sg H ∧
  Wp (f r) (fun ds => ∀ vs H', Grow dl H H' → GlOk G dl H' → RepPL G dl H' Z ds vs → Q vs H')
    (fun e => ∀ cls dx H', Grow dl H H' → GlOk G dl H' → XRep G dl (cut H' Z) e cls dx H' → W cls dx sg H')
abbrev DAp (X : Cx) (G : Gm) (W : WX) (es : List Expr) (f : LE → R (List D)) : Prop := PA X es (tAp G W f)
/-- a call of a built-in by values -/
def CallD (X : Cx) (G : Gm) (fv : Value) (g : List D → R D) : Prop := ∃ rr : List V → Hp → VK → Prop, CallR X fv rr ∧
  ∀ (dl : Addr) (Z : List Addr) (O : List (Nat × Addr)) (r : LE) (sg : L2.St) (ds : List D) (vs : List V) (H : Hp) (Q : VK) (E : Exc → Prop), At G dl Z O r sg H → RepPL G dl H Z ds vs →
    Wp (g ds) (fun d => ∀ v H', Grow dl H H' → GlOk G dl H' → Rep G dl (cut H' Z) d v → Q v H') E → rr vs H Q
/-- .. that gives a new list -/
def CallF (X : Cx) (G : Gm) (fv : Value) (g : List D → R (List D)) : Prop := ∃ rr : List V → Hp → VK → Prop, CallR X fv rr ∧
  ∀ (dl : Addr) (Z : List Addr) (O : List (Nat × Addr)) (r : LE) (sg : L2.St) (ds : List D) (vs : List V) (H : Hp) (Q : VK) (E : Exc → Prop), At G dl Z O r sg H → RepPL G dl H Z ds vs →
    Wp (g ds) (fun ds => ∀ p vs H', Grow dl H H' → GlOk G dl H' → H' p = none → RepL G dl (cut H' Z) ds vs → Q (.ref p) (upd H' p (.lst vs))) E → rr vs H Q
section
variable {X : Cx} {G : Gm} {W : WX} {ex a b : Expr} {es : List Expr} {f : LE → R D} {fs : LE → R (List D)} {g : List D → R D} {gl : List D → R (List D)} {pos p : Pos} {x : Str} {id T : String}
theorem dap_nil : DAp X G W [] anil := PA_imp pa_nil fun sg H Q ⟨dl, Z, O, r, A, q⟩ => q [] H (.refl _ _) A.gl rfl
theorem dap_cons (ha : DP X G W a f) (hs : DAp X G W es fs) (hst : starEach (a :: es) X.env = (false, eval a X.env) :: starEach es X.env := by rfl) : DAp X G W (a :: es) (acons f fs) := PA_imp (pa_cons ha hs hst) fun sg H Q ⟨dl, Z, O, r, A, q⟩ => by
  refine ⟨dl, Z, O, r, A, q.bind.thn fun x hx v H1 g1 k1 rp => ?_⟩
  refine ⟨dl, Z, O, r, A.grow g1 k1, hx.bind.mono (fun xs hxs vs H2 g2 k2 rl => ?_) fun e => epost g1⟩
  exact hxs (v :: vs) H2 (g1.trans g2) k2 ⟨v, vs, rfl, rp.grow (A.grow g1 k1) g2, rl⟩
theorem de_callB (hc : CallD X G (.builtin id) g) (hm : X.mg x = none) (hv : bootBuiltins x = some (.builtin id)) (ha : DAp X G W (ex :: es) fs) (hg : Gl X x := by rfl) (hn : x ≠ "__name__" := by decide) (hdb : (x == ("__debug__" : Str)) = false := by decide)
    (he : starEach (ex :: es) X.env = (false, eval ex X.env) :: starEach es X.env := by rfl) (hpl : (backTo pos (starEach es X.env)).any (·.1) = false := by rfl) : DE X G W (.Call (.Name x p) (ex :: es) [] pos) (fun r => fs r >>= g) := by
  obtain ⟨rr, h1, h2⟩ := hc
  refine PE_imp (pe_callB h1 hg hm hv ha hn hdb he hpl) fun sg H Q ⟨dl, Z, O, r, A, q⟩ => ⟨dl, Z, O, r, A, q.bind.thn fun ds hd vs H1 g1 k1 rl => ?_⟩
  exact h2 dl Z O r sg ds vs H1 Q _ (A.grow g1 k1) rl (hd.thn fun d h v H' g' k' rp => h v H' (g1.trans g') k' rp)
theorem de_callT (hc : CallD X G (.type T) g) (hm : X.mg x = none) (hv : bootBuiltins x = some (.type T)) (ha : DAp X G W (ex :: es) fs) (hg : Gl X x := by rfl) (hn : x ≠ "__name__" := by decide) (hdb : (x == ("__debug__" : Str)) = false := by decide)
    (he : starEach (ex :: es) X.env = (false, eval ex X.env) :: starEach es X.env := by rfl) (hpl : (backTo pos (starEach es X.env)).any (·.1) = false := by rfl) : DE X G W (.Call (.Name x p) (ex :: es) [] pos) (fun r => fs r >>= g) := by
  obtain ⟨rr, h1, h2⟩ := hc
  refine PE_imp (pe_callTy h1 hg hm hv ha hn hdb he hpl) fun sg H Q ⟨dl, Z, O, r, A, q⟩ => ⟨dl, Z, O, r, A, q.bind.thn fun ds hd vs H1 g1 k1 rl => ?_⟩
  exact h2 dl Z O r sg ds vs H1 Q _ (A.grow g1 k1) rl (hd.thn fun d h v H' g' k' rp => h v H' (g1.trans g') k' rp)
theorem df_callT (hc : CallF X G (.type T) gl) (hm : X.mg x = none) (hv : bootBuiltins x = some (.type T)) (ha : DAp X G W (ex :: es) fs) (hg : Gl X x := by rfl) (hn : x ≠ "__name__" := by decide) (hdb : (x == ("__debug__" : Str)) = false := by decide)
    (he : starEach (ex :: es) X.env = (false, eval ex X.env) :: starEach es X.env := by rfl) (hpl : (backTo pos (starEach es X.env)).any (·.1) = false := by rfl) : DF X G W (.Call (.Name x p) (ex :: es) [] pos) (fun r => fs r >>= gl) := by
  obtain ⟨rr, h1, h2⟩ := hc
  refine PE_imp (pe_callTy h1 hg hm hv ha hn hdb he hpl) fun sg H Q ⟨dl, Z, O, r, A, q⟩ => ⟨dl, Z, O, r, A, q.bind.thn fun ds hd vs H1 g1 k1 rl => ?_⟩
  exact h2 dl Z O r sg ds vs H1 Q _ (A.grow g1 k1) rl (hd.thn fun d h p vs H' g' k' hp rl => h p vs H' (g1.trans g') k' hp rl)
def lenD : List D → R D
  | [.str s] => if s.length ≤ 16777216 then .ok (.int s.length) else .stuck
  | [.lst xs] => .ok (.int xs.length)
  | [.tup xs] => .ok (.int xs.length)
  | _ => .stuck
def tupleD : List D → R D
  | [.lst xs] => .ok (.tup xs)
  | [.tup xs] => .ok (.tup xs)
  | _ => .stuck
def listD : List D → R (List D)
  | [.lst xs] => .ok xs
  | [.tup xs] => .ok xs
  | _ => .stuck
theorem RepPL.one {dl : Addr} {H : Hp} {Z : List Addr} {d : D} {vs : List V} (h : RepPL G dl H Z [d] vs) : ∃ v, vs = [v] ∧ RepP G dl H Z d v := by
  obtain ⟨v, r, rfl, h1, h2⟩ := h
  cases (show r = [] from h2)
  exact ⟨v, rfl, h1⟩
theorem RepPL.two {dl : Addr} {H : Hp} {Z : List Addr} {d e : D} {vs : List V} (h : RepPL G dl H Z [d, e] vs) : ∃ v u, vs = [v, u] ∧ RepP G dl H Z d v ∧ RepP G dl H Z e u := by
  obtain ⟨v, r, rfl, h1, h2⟩ := h
  obtain ⟨u, rfl, h3⟩ := RepPL.one h2
  exact ⟨v, u, rfl, h1, h3⟩
theorem cd_len (hG : G.K = X.K) : CallD X G (.builtin "len") lenD := by
  refine ⟨_, call_len, fun dl Z O r sg ds vs H Q E A rl h => ?_⟩
  unfold lenD at h
  split at h
  · split at h
    · rename_i s hs
      obtain ⟨v, rfl, rp⟩ := rl.one
      refine ⟨v, s.length, rfl, ?_, h _ H (.refl _ _) A.gl Rep.int_⟩
      rw [rp.str]
      exact ⟨by rw [sizeLine_eq]; simpa [Str.length] using hs, by simp [Str.length]⟩
    · exact h.elim
  · obtain ⟨v, rfl, rp⟩ := rl.one
    obtain ⟨a, us, rfl, e, rl'⟩ := rp.lst
    refine ⟨_, us.length, rfl, .inl ⟨us, SqL.of e, rfl⟩, ?_⟩
    rw [rl'.length]
    exact h _ H (.refl _ _) A.gl Rep.int_
  · obtain ⟨v, rfl, rp⟩ := rl.one
    obtain ⟨a, us, rfl, e, rl'⟩ := rp.tup
    refine ⟨_, us.length, rfl, .inr ⟨us, hG ▸ e, rfl⟩, ?_⟩
    rw [rl'.length]
    exact h _ H (.refl _ _) A.gl Rep.int_
  · exact h.elim
theorem cd_tuple (hG : G.K = X.K) : CallD X G (.type "tuple") tupleD := by
  refine ⟨_, call_tuple_of, fun dl Z O r sg ds vs H Q E A rl h => ?_⟩
  unfold tupleD at h
  split at h
  · obtain ⟨v, rfl, rp⟩ := rl.one
    obtain ⟨a, us, rfl, e, rl'⟩ := rp.lst
    exact ⟨a, us, rfl, .inl ⟨SqL.of e, fun l hl => h _ _ (.new hl) (A.gl.new hl) (Rep.tup_new A hl rl')⟩⟩
  · obtain ⟨v, rfl, rp⟩ := rl.one
    obtain ⟨a, us, rfl, e, rl'⟩ := rp.tup
    rcases rp with rp | ⟨_, _, _, _, rp⟩
    · exact ⟨a, us, rfl, .inr ⟨hG ▸ e, h _ _ (.refl _ _) A.gl rp⟩⟩
    · exact rp.elim
  · exact h.elim
theorem cf_list (hG : G.K = X.K) : CallF X G (.type "list") listD := by
  refine ⟨_, call_list_of, fun dl Z O r sg ds vs H Q E A rl h => ?_⟩
  unfold listD at h
  split at h
  · obtain ⟨v, rfl, rp⟩ := rl.one
    obtain ⟨a, us, rfl, e, rl'⟩ := rp.lst
    exact ⟨a, us, rfl, .inl (SqL.of e), fun l hl => h l us H (.refl _ _) A.gl hl rl'⟩
  · obtain ⟨v, rfl, rp⟩ := rl.one
    obtain ⟨a, us, rfl, e, rl'⟩ := rp.tup
    exact ⟨a, us, rfl, .inr (hG ▸ e), fun l hl => h l us H (.refl _ _) A.gl hl rl'⟩
  · exact h.elim
def D.ltb (x y : D) : Bool := PySem.W.dataLt x.toP y.toP
def D.ali (x y : D) : Bool := PySem.W.alike x.toP y.toP
/-- all can be compared with one another -/
def alis (ds : List D) : Bool := ds.all fun x => x.sh 50 && (match x with | .non => false | _ => true) && ds.all fun y => x.ali y
def least (d : D) (ds : List D) : D := ds.foldl (fun a y => if y.ltb a then y else a) d
def most (d : D) (ds : List D) : D := ds.foldl (fun a y => if a.ltb y then y else a) d
theorem ReadsAll_get {h : Heap} : ∀ {us : List Value} {ds : List PyData} {as : List Addr} {i : Nat} {u : Value}, ReadsAll h us ds as → us[i]? = some u → ∃ d bs, ds[i]? = some d ∧ Reads h u d bs
  | _, _, _, i, u, .nil, e => by simp at e
  | _, _, _, 0, u, .cons r rs, e => by
    have e := Option.some.inj (show some _ = some u from e)
    subst e
    exact ⟨_, _, rfl, r⟩
  | _, _, _, i + 1, u, .cons r rs, e => by
    obtain ⟨d, bs, h1, h2⟩ := ReadsAll_get rs (i := i) (by simpa using e)
    exact ⟨d, bs, by simpa using h1, h2⟩
theorem Vals_back {xs : List V} {us : List Value} {i : Nat} {u : Value} (r : Vals xs us) (e : us[i]? = some u) : ∃ x, xs[i]? = some x ∧ RelV x u := by
  have hl := r.length
  obtain ⟨h1, h2⟩ := List.getElem?_eq_some_iff.mp e
  have hx : xs[i]? = some (xs[i]'(by omega)) := by simp
  obtain ⟨u', h3, h4⟩ := r.get hx
  rw [e] at h3
  cases h3
  exact ⟨_, hx, h4⟩
theorem minD_mem (x : PyData) (xs : List PyData) : PySem.W.minD x xs ∈ x :: xs := by
  unfold PySem.W.minD
  have : ∀ (ys : List PyData) (a : PyData), ys.foldl (fun a y => if PySem.W.dataLt y a then y else a) a = a ∨ ys.foldl (fun a y => if PySem.W.dataLt y a then y else a) a ∈ ys := by
    intro ys
    induction ys with
    | nil => intro a; exact .inl rfl
    | cons y ys ih =>
      intro a
      rw [List.foldl_cons]
      rcases ih (if PySem.W.dataLt y a then y else a) with e | e
      · rw [e]
        split
        · exact .inr List.mem_cons_self
        · exact .inl rfl
      · exact .inr (List.mem_cons_of_mem _ e)
  rcases this xs x with e | e
  · rw [e]; exact List.mem_cons_self
  · exact List.mem_cons_of_mem _ e
theorem maxD_mem (x : PyData) (xs : List PyData) : PySem.W.maxD x xs ∈ x :: xs := by
  unfold PySem.W.maxD
  have : ∀ (ys : List PyData) (a : PyData), ys.foldl (fun a y => if PySem.W.dataLt a y then y else a) a = a ∨ ys.foldl (fun a y => if PySem.W.dataLt a y then y else a) a ∈ ys := by
    intro ys
    induction ys with
    | nil => intro a; exact .inl rfl
    | cons y ys ih =>
      intro a
      rw [List.foldl_cons]
      rcases ih (if PySem.W.dataLt a y then y else a) with e | e
      · rw [e]
        split
        · exact .inr List.mem_cons_self
        · exact .inl rfl
      · exact .inr (List.mem_cons_of_mem _ e)
  rcases this xs x with e | e
  · rw [e]; exact List.mem_cons_self
  · exact List.mem_cons_of_mem _ e
/-- a list or a tuple of data, one item of which comes back -/
def rPick (K : PySem.W.Frag) (pk : PyData → List PyData → PyData) : List V → Hp → VK → Prop := fun vs H Q => ∃ (a : Addr) (us : List V) (x : PyData) (xs : List PyData), vs = [.ref a] ∧ (SqL K H a us ∨ SqT K H a us) ∧ DpAll K H us (x :: xs) ∧ PySem.W.AlikeAll (x :: xs) ∧
  PyData.depthAll (x :: xs) ≤ 64 ∧ ∀ (i : Nat) v, us[i]? = some v → (x :: xs)[i]? = some (pk x xs) → Q v H
theorem pick_core {pins : List (Addr × Obj)} {s : Shared} {sg : L2.St} {H : Hp} {Q : VK} {us : List V} {x pd : PyData} {xs : List PyData} {its : List Value} {as : List Addr} (I : Inv X pins sg H s) (rv : Vals us its) (hr : ReadsAll s.heap its (x :: xs) as) (ha : PySem.W.AlikeAll (x :: xs)) (hmem : pd ∈ x :: xs)
    (q : ∀ (i : Nat) v, us[i]? = some v → (x :: xs)[i]? = some pd → Q v H) (i : Nat) (u : Value) (h' : Heap) (tk : Nat) (bs : List Addr) (hi : its.toArray[i]? = some u) (hr' : Reads h' u pd bs) (hk : ∀ b o, s.heap.get? b = some o → h'.get? b = some o) : EP X pins sg Q u { s with heap := h', toks := tk } := by
  have hi' : its[i]? = some u := by simpa using hi
  obtain ⟨v, hv, rvu⟩ := Vals_back rv hi'
  obtain ⟨d, cs, hd, hrd⟩ := ReadsAll_get hr hi'
  have hdm : d ∈ x :: xs := List.mem_of_getElem? hd
  have e : d = pd := PySem.W.alike_unique d _ u _ _ (ha.1 d hdm _ hmem) (PySem.W.reads_keeps hk hrd) hr'
  subst e
  exact ⟨v, H, I.kept hk, rvu, q i v hv hd⟩
theorem cr_minP (hc : X.calm = true) (hu : X.A.units + 70 < cLine) : CallR X (.builtin "min") (rPick X.K PySem.W.minD) := by
  intro pins s sg H vs us0 Q I r ⟨a, us, x, xs, ev, hsq, hdp, ha, hdep, q⟩
  subst ev
  rw [Vals.ref1 r]
  rcases hsq with h | h
  · obtain ⟨its, rv, pl, _⟩ := I.list h
    obtain ⟨as, hr⟩ := Dp.readsAll I (x :: xs) us its hdp rv
    exact PySem.W.min_list_data (I.ok.hd hc) pl.isList hr ha (by omega) (pick_core I rv hr ha (minD_mem x xs) q)
  · obtain ⟨its, rv, pl, _⟩ := I.tuple h
    obtain ⟨as, hr⟩ := Dp.readsAll I (x :: xs) us its hdp rv
    exact PySem.W.min_tuple_data (I.ok.hd hc) pl hr ha (by omega) (pick_core I rv hr ha (minD_mem x xs) q)
theorem cr_maxP (hc : X.calm = true) (hu : X.A.units + 70 < cLine) : CallR X (.builtin "max") (rPick X.K PySem.W.maxD) := by
  intro pins s sg H vs us0 Q I r ⟨a, us, x, xs, ev, hsq, hdp, ha, hdep, q⟩
  subst ev
  rw [Vals.ref1 r]
  rcases hsq with h | h
  · obtain ⟨its, rv, pl, _⟩ := I.list h
    obtain ⟨as, hr⟩ := Dp.readsAll I (x :: xs) us its hdp rv
    exact PySem.W.max_list_data (I.ok.hd hc) pl.isList hr ha (by omega) (pick_core I rv hr ha (maxD_mem x xs) q)
  · obtain ⟨its, rv, pl, _⟩ := I.tuple h
    obtain ⟨as, hr⟩ := Dp.readsAll I (x :: xs) us its hdp rv
    exact PySem.W.max_tuple_data (I.ok.hd hc) pl hr ha (by omega) (pick_core I rv hr ha (maxD_mem x xs) q)
mutual
theorem toP_inj : ∀ (x y : D) (n m : Nat), x.sh n = true → y.sh m = true → x.toP = y.toP → x = y
  | .non, y, n, m, hx, hy, e => by cases y <;> simp_all [D.toP, D.sh]
  | .bl b, y, n, m, hx, hy, e => by cases y <;> simp_all [D.toP, D.sh]
  | .int i, y, n, m, hx, hy, e => by cases y <;> simp_all [D.toP, D.sh]
  | .str s, y, n, m, hx, hy, e => by cases y <;> simp_all [D.toP, D.sh]
  | .lst xs, y, n, m, hx, hy, e => by
    cases y <;> first | (simp [D.toP] at e; done) | skip
    rename_i ys
    cases n <;> first | (simp [D.sh] at hx; done) | skip
    cases m <;> first | (simp [D.sh] at hy; done) | skip
    simp only [D.sh] at hx hy
    simp only [D.toP, PyData.list.injEq] at e
    rw [toPs_inj xs ys _ _ hx hy e]
  | .tup xs, y, n, m, hx, hy, e => by
    cases y <;> first | (simp [D.toP] at e; done) | skip
    rename_i ys
    cases n <;> first | (simp [D.sh] at hx; done) | skip
    cases m <;> first | (simp [D.sh] at hy; done) | skip
    simp only [D.sh] at hx hy
    simp only [D.toP, PyData.tuple.injEq] at e
    rw [toPs_inj xs ys _ _ hx hy e]
  | .dic _, y, n, m, hx, hy, e => by simp [D.sh] at hx
  | .cdic _, y, n, m, hx, hy, e => by simp [D.sh] at hx
  | .ins _ _, y, n, m, hx, hy, e => by simp [D.sh] at hx
  | .dice, y, n, m, hx, hy, e => by simp [D.sh] at hx
  | .fn _, y, n, m, hx, hy, e => by simp [D.sh] at hx
theorem toPs_inj : ∀ (xs ys : List D) (n m : Nat), D.shs xs n = true → D.shs ys m = true → D.toPs xs = D.toPs ys → xs = ys
  | [], [], n, m, hx, hy, e => rfl
  | [], y :: ys, n, m, hx, hy, e => by simp [D.toPs] at e
  | x :: xs, [], n, m, hx, hy, e => by simp [D.toPs] at e
  | x :: xs, y :: ys, n, m, hx, hy, e => by
    simp only [D.shs, Bool.and_eq_true] at hx hy
    simp only [D.toPs, List.cons.injEq] at e
    rw [toP_inj x y n m hx.1 hy.1 e.1, toPs_inj xs ys n m hx.2 hy.2 e.2]
end
theorem toPs_map (ds : List D) : D.toPs ds = ds.map D.toP := by
  induction ds with
  | nil => rfl
  | cons d ds ih => simp only [D.toPs, List.map_cons, ih]
theorem shs_of {ds : List D} {n : Nat} (h : ∀ d ∈ ds, d.sh n = true) : D.shs ds n = true := by
  induction ds with
  | nil => rfl
  | cons d ds ih =>
    simp only [D.shs, h d List.mem_cons_self, Bool.true_and]
    exact ih fun e he => h e (List.mem_cons_of_mem _ he)
theorem alis_sh {ds : List D} (h : alis ds = true) : ∀ d ∈ ds, d.sh 50 = true := fun d hd => by
  have := List.all_eq_true.mp h d hd
  simp only [Bool.and_eq_true] at this
  exact this.1.1
theorem alis_alike {ds : List D} (h : alis ds = true) : PySem.W.AlikeAll (D.toPs ds) := by
  rw [toPs_map]
  refine ⟨fun x hx y hy => ?_, fun x hx => ?_⟩
  · obtain ⟨d, hd, rfl⟩ := List.mem_map.mp hx
    obtain ⟨e, he, rfl⟩ := List.mem_map.mp hy
    have := List.all_eq_true.mp h d hd
    simp only [Bool.and_eq_true, List.all_eq_true] at this
    exact this.2 e he
  · obtain ⟨d, hd, rfl⟩ := List.mem_map.mp hx
    have := List.all_eq_true.mp h d hd
    simp only [Bool.and_eq_true] at this
    intro e
    cases d <;> simp_all [D.toP, D.sh]
theorem least_toP (d : D) (ds : List D) : (least d ds).toP = PySem.W.minD d.toP (D.toPs ds) := by
  unfold least PySem.W.minD
  rw [toPs_map, List.foldl_map]
  induction ds generalizing d with
  | nil => rfl
  | cons e ds ih =>
    rw [List.foldl_cons, List.foldl_cons, ih]
    congr 1
    show (if e.ltb d then e else d).toP = if PySem.W.dataLt e.toP d.toP then e.toP else d.toP
    unfold D.ltb
    split <;> rfl
theorem most_toP (d : D) (ds : List D) : (most d ds).toP = PySem.W.maxD d.toP (D.toPs ds) := by
  unfold most PySem.W.maxD
  rw [toPs_map, List.foldl_map]
  induction ds generalizing d with
  | nil => rfl
  | cons e ds ih =>
    rw [List.foldl_cons, List.foldl_cons, ih]
    congr 1
    show (if d.ltb e then e else d).toP = if PySem.W.dataLt d.toP e.toP then e.toP else d.toP
    unfold D.ltb
    split <;> rfl
theorem fold_mem {pk : D → D → D} (hp : ∀ a b, pk a b = a ∨ pk a b = b) : ∀ (ds : List D) (d : D), ds.foldl pk d ∈ d :: ds
  | [], d => List.mem_cons_self
  | e :: ds, d => by
    rw [List.foldl_cons]
    rcases hp d e with q | q
    · rw [q]
      rcases List.mem_cons.mp (fold_mem hp ds d) with z | z
      · rw [z]; exact List.mem_cons_self
      · exact List.mem_cons_of_mem _ (List.mem_cons_of_mem _ z)
    · rw [q]
      exact List.mem_cons_of_mem _ (fold_mem hp ds e)
theorem least_mem (d : D) (ds : List D) : least d ds ∈ d :: ds := fold_mem (fun a b => by split <;> simp) ds d
theorem most_mem (d : D) (ds : List D) : most d ds ∈ d :: ds := fold_mem (fun a b => by split <;> simp) ds d
def minL : List D → R D
  | [.int i, .int j] => .ok (.int (if j < i then j else i))
  | [.lst (d :: ds)] => if alis (d :: ds) then .ok (least d ds) else .stuck
  | [.tup (d :: ds)] => if alis (d :: ds) then .ok (least d ds) else .stuck
  | _ => .stuck
def maxL : List D → R D
  | [.int i, .int j] => .ok (.int (if j > i then j else i))
  | [.lst (d :: ds)] => if alis (d :: ds) then .ok (most d ds) else .stuck
  | [.tup (d :: ds)] => if alis (d :: ds) then .ok (most d ds) else .stuck
  | _ => .stuck
theorem CallR.or {f : Value} {r1 r2 : List V → Hp → VK → Prop} (h1 : CallR X f r1) (h2 : CallR X f r2) : CallR X f (fun vs H Q => r1 vs H Q ∨ r2 vs H Q) := fun pins s sg H xs us Q I r h => by
  rcases h with h | h
  · exact h1 pins s sg H xs us Q I r h
  · exact h2 pins s sg H xs us Q I r h
theorem pick_of {pk : D → List D → D} {pp : PyData → List PyData → PyData} (htp : ∀ d ds, (pk d ds).toP = pp d.toP (D.toPs ds)) (hmem : ∀ d ds, pk d ds ∈ d :: ds) {dl : Addr} {Z : List Addr} {O : List (Nat × Addr)} {r : LE} {sg : L2.St} {H : Hp} {Q : VK} (hG : G.K = X.K) (A : At G dl Z O r sg H) {d : D} {ds : List D} {us : List V} {a : Addr}
    (hsq : SqL X.K H a us ∨ SqT X.K H a us) (rl : RepL G dl (cut H Z) (d :: ds) us) (hal : alis (d :: ds) = true) (h : ∀ v H', Grow dl H H' → GlOk G dl H' → Rep G dl (cut H' Z) (pk d ds) v → Q v H') : rPick X.K pp [.ref a] H Q := by
  have hs := alis_sh hal
  have hss := shs_of hs
  refine ⟨a, us, d.toP, D.toPs ds, rfl, hsq, ?_, ?_, ?_, fun i v hv hi => ?_⟩
  · have := RepL.dp (cut_grow H Z) (d :: ds) 50 hss rl
    rw [hG] at this
    exact this
  · exact alis_alike hal
  · exact Nat.le_trans (shs_lay (d :: ds) 50 hss).2 (by decide)
  · obtain ⟨e, he, rp⟩ := RepL.get (d :: ds) us i v rl hv
    have h1 : (D.toPs (d :: ds))[i]? = some (pp d.toP (D.toPs ds)) := hi
    rw [toPs_map, List.getElem?_map, he] at h1
    have h2 : e.toP = (pk d ds).toP := by rw [htp]; exact Option.some.inj h1
    have h3 := toP_inj e _ 50 50 (hs e (List.mem_of_getElem? he)) (hs _ (hmem d ds)) h2
    rw [← h3] at h
    exact h v H (.refl _ _) A.gl rp
theorem cd_min (hG : G.K = X.K) (hc : X.calm = true) (hu : X.A.units + 70 < cLine) : CallD X G (.builtin "min") minL := by
  refine ⟨_, CallR.or (call_min2 hc) (cr_minP hc hu), fun dl Z O r sg ds vs H Q E A rl h => ?_⟩
  unfold minL at h
  split at h
  · obtain ⟨v, u, rfl, r1, r2⟩ := rl.two
    exact .inl ⟨_, _, by rw [r1.int, r2.int], h _ H (.refl _ _) A.gl Rep.int_⟩
  · split at h
    · rename_i d ds hal
      obtain ⟨v, rfl, rp⟩ := rl.one
      obtain ⟨a, us, rfl, e, rl'⟩ := rp.lst
      exact .inr (pick_of least_toP least_mem hG A (.inl (SqL.of e)) rl' hal h)
    · exact h.elim
  · split at h
    · rename_i d ds hal
      obtain ⟨v, rfl, rp⟩ := rl.one
      obtain ⟨a, us, rfl, e, rl'⟩ := rp.tup
      exact .inr (pick_of least_toP least_mem hG A (.inr (hG ▸ e)) rl' hal h)
    · exact h.elim
  · exact h.elim
theorem cd_max (hG : G.K = X.K) (hc : X.calm = true) (hu : X.A.units + 70 < cLine) : CallD X G (.builtin "max") maxL := by
  refine ⟨_, CallR.or (call_max2 hc) (cr_maxP hc hu), fun dl Z O r sg ds vs H Q E A rl h => ?_⟩
  unfold maxL at h
  split at h
  · obtain ⟨v, u, rfl, r1, r2⟩ := rl.two
    exact .inl ⟨_, _, by rw [r1.int, r2.int], h _ H (.refl _ _) A.gl Rep.int_⟩
  · split at h
    · rename_i d ds hal
      obtain ⟨v, rfl, rp⟩ := rl.one
      obtain ⟨a, us, rfl, e, rl'⟩ := rp.lst
      exact .inr (pick_of most_toP most_mem hG A (.inl (SqL.of e)) rl' hal h)
    · exact h.elim
  · split at h
    · rename_i d ds hal
      obtain ⟨v, rfl, rp⟩ := rl.one
      obtain ⟨a, us, rfl, e, rl'⟩ := rp.tup
      exact .inr (pick_of most_toP most_mem hG A (.inr (hG ▸ e)) rl' hal h)
    · exact h.elim
  · exact h.elim
end
end DL
set_option Elab.async false
set_option linter.all false
set_option maxRecDepth 100000
namespace DL
open PySem L2 PySem.Spec PyProof.Rows
def D.key1 : D → Bool
  | .int _ => true
  | .str _ => true
  | _ => false
def D.keq : D → D → Bool
  | .int i, .int j => i == j
  | .str s, .str t => s == t
  | _, _ => false
theorem keq_key {a b : D} {x y : Key} (h1 : a.key = some x) (h2 : b.key = some y) : a.keq b = decide (x = y) := by
  cases a <;> simp [D.key] at h1 <;> subst h1 <;> cases b <;> simp [D.key] at h2 <;> subst h2 <;> rw [Bool.eq_iff_iff] <;> simp [D.keq]
def getD (kvs : List (D × D)) (k : D) : Option D := (kvs.find? fun p => p.1.keq k).map (·.2)
def putD (kvs : List (D × D)) (k d : D) : List (D × D) := if (kvs.any fun p => p.1.keq k) = true then kvs.map (fun p => if p.1.keq k then (p.1, d) else p) else kvs ++ [(k, d)]
/-- x in y -/
def inB (x : D) : D → R Bool
  | .lst ys => if x.sh 62 && D.shs ys 62 then .ok (ys.any fun z => z.eqb x) else .stuck
  | .tup ys => if x.sh 62 && D.shs ys 62 then .ok (ys.any fun z => z.eqb x) else .stuck
  | .str t => match x with
    | .str [c] => .ok (decide (c ∈ t))
    | _ => .stuck
  | .dic kvs => if x.key1 then .ok ((getD kvs x).isSome) else .stuck
  | _ => .stuck
def inD (x y : D) : R D := inB x y >>= fun b => .ok (.bl b)
def notInD (x y : D) : R D := inB x y >>= fun b => .ok (.bl (!b))
theorem toPs_any {x : D} {n : Nat} (hx : x.sh n = true) : ∀ {ys : List D} {m : Nat}, D.shs ys m = true → ((D.toPs ys).any fun z => PyData.eqv z x.toP) = ys.any fun z => z.eqb x
  | [], m, h => rfl
  | y :: ys, m, h => by
    simp only [D.shs, Bool.and_eq_true] at h
    simp only [D.toPs, List.any_cons, toPs_any hx h.2, eqb_eqv y x m n h.1 hx]
mutual
theorem sh_mono : ∀ (d : D) (n m : Nat), n ≤ m → d.sh n = true → d.sh m = true
  | .non, _, _, _, _ => rfl
  | .bl _, _, _, _, _ => rfl
  | .int _, _, _, _, _ => rfl
  | .str s, n, m, _, h => by simpa [D.sh] using h
  | .lst xs, n, m, h1, h2 => by
    cases n <;> first | (simp [D.sh] at h2; done) | skip
    cases m <;> first | omega | skip
    simp only [D.sh] at h2 ⊢
    exact shs_mono xs _ _ (by omega) h2
  | .tup xs, n, m, h1, h2 => by
    cases n <;> first | (simp [D.sh] at h2; done) | skip
    cases m <;> first | omega | skip
    simp only [D.sh] at h2 ⊢
    exact shs_mono xs _ _ (by omega) h2
  | .dic _, n, m, _, h => by simp [D.sh] at h
  | .cdic _, n, m, _, h => by simp [D.sh] at h
  | .ins _ _, n, m, _, h => by simp [D.sh] at h
  | .dice, n, m, _, h => by simp [D.sh] at h
  | .fn _, n, m, _, h => by simp [D.sh] at h
theorem shs_mono : ∀ (ds : List D) (n m : Nat), n ≤ m → D.shs ds n = true → D.shs ds m = true
  | [], _, _, _, _ => rfl
  | d :: ds, n, m, h1, h2 => by
    simp only [D.shs, Bool.and_eq_true] at h2 ⊢
    exact ⟨sh_mono d n m h1 h2.1, shs_mono ds n m h1 h2.2⟩
end
section
variable {X : Cx} {G : Gm} {W : WX}
/-- x in a tuple of data -/
def rInTD (K : PySem.W.Frag) (neg : Bool) : R2 := fun x y H Q => ∃ d ds, Dp K H x d ∧ Dp K H y (.tuple ds) ∧ SeqAt.shaped d = true ∧ SeqAt.shaped (.tuple ds) = true ∧ Q (.bl (if neg then !ds.any fun z => PyData.eqv z d else ds.any fun z => PyData.eqv z d)) H
theorem room_tup {A : Around} {ds : List PyData} {d : PyData} (sd : SeqAt.shaped d = true) (hu : A.units + 66 < cLine) : A.units + 1 + min (PyData.depthAll ds) d.depth < cLine := by
  have := SeqAt.depth_of_shaped sd
  omega
theorem op_inTD (hu : X.A.units + 66 < cLine) : OpR X (compareOp .In) (rInTD X.K false) := by
  intro pins s sg H x y v u Q I rx ry ⟨d, ds, hd, he, sd, se, q⟩
  obtain ⟨as, r1⟩ := Dp.reads I d x v hd rx
  obtain ⟨bs, r2⟩ := Dp.reads I (.tuple ds) y u he ry
  exact SeqAt.in_tuple_reads r2 r1 (SeqAt.canLay_of_shaped se) (SeqAt.canLay_of_shaped sd) (room_tup sd hu) ⟨.bl _, H, I, rfl, q⟩
theorem op_notInTD (hu : X.A.units + 66 < cLine) : OpR X (compareOp .NotIn) (rInTD X.K true) := by
  intro pins s sg H x y v u Q I rx ry ⟨d, ds, hd, he, sd, se, q⟩
  obtain ⟨as, r1⟩ := Dp.reads I d x v hd rx
  obtain ⟨bs, r2⟩ := Dp.reads I (.tuple ds) y u he ry
  exact SeqAt.notIn_tuple_reads r2 r1 (SeqAt.canLay_of_shaped se) (SeqAt.canLay_of_shaped sd) (room_tup sd hu) ⟨.bl _, H, I, rfl, q⟩
def rInDc (neg : Bool) : R2 := fun x y H Q => ∃ a o, y = .ref a ∧ DGet H a x o ∧ Q (.bl (if neg then !o.isSome else o.isSome)) H
theorem op_inDc (hu : X.A.units + 66 < cLine) : OpR X (compareOp .In) (rInDc false) := by
  intro pins s sg H x y v u Q I rx ry ⟨a, o, ey, g, q⟩
  subst ey
  obtain rfl : u = Value.ref a := ry
  exact d_in (by omega) I g rx fun s3 I3 => ⟨.bl o.isSome, H, I3, rfl, q⟩
theorem op_notInDc (hu : X.A.units + 66 < cLine) : OpR X (compareOp .NotIn) (rInDc true) := by
  intro pins s sg H x y v u Q I rx ry ⟨a, o, ey, g, q⟩
  subst ey
  obtain rfl : u = Value.ref a := ry
  exact d_notIn (by omega) I g rx fun s3 I3 => ⟨.bl (!o.isSome), H, I3, rfl, q⟩
theorem key_kV {d : D} {x : Key} {dl : Addr} {H : Hp} {Z : List Addr} {v : V} (h : d.key = some x) (rp : RepP G dl H Z d v) : v = kV x := by
  cases d <;> simp [D.key] at h <;> subst h
  · rw [rp.int]; rfl
  · rw [rp.str]; rfl
theorem key1_key {d : D} (h : d.key1 = true) : ∃ x, d.key = some x := by
  cases d <;> simp [D.key1] at h
  · exact ⟨_, rfl⟩
  · exact ⟨_, rfl⟩
theorem RepP.dic {dl : Addr} {H : Hp} {Z : List Addr} {v : V} {kvs : List (D × D)} (h : RepP G dl H Z (.dic kvs) v) : ∃ a kv, v = .ref a ∧ Rd H a (.dK kv) ∧ RepK G dl (cut H Z) kvs kv := by
  rcases h with h | ⟨a, e, hz, hd, q⟩
  · unfold Rep at h
    obtain ⟨a, kv, e, q, rl⟩ := h
    exact ⟨a, kv, e, (cut_grow H Z).rd (fun ps z => by cases z) q, rl⟩
  · obtain ⟨kv, e2, rl⟩ := q
    exact ⟨a, kv, e, .inl e2, rl⟩
theorem getD_of {dl : Addr} {S : Hp} {k : D} {x : Key} (hk : k.key = some x) : ∀ {kvs : List (D × D)} {kv : List (Key × V)}, RepK G dl S kvs kv → (getD kvs k = none ∧ valV kv x = none) ∨ ∃ d v, getD kvs k = some d ∧ valV kv x = some v ∧ Rep G dl S d v
  | [], kv, h => by
    unfold RepK at h
    subst h
    exact .inl ⟨rfl, rfl⟩
  | (k', d) :: kvs, kv, h => by
    unfold RepK at h
    obtain ⟨y, v, r, rfl, hk', rp, h2⟩ := h
    have e := keq_key hk' hk
    by_cases q : y = x
    · refine .inr ⟨d, v, ?_, valV_pos q, rp⟩
      unfold getD
      rw [List.find?_cons, show k'.keq k = true by rw [e]; exact decide_eq_true q]
      rfl
    · have e2 : k'.keq k = false := by rw [e]; exact decide_eq_false q
      have h3 : getD ((k', d) :: kvs) k = getD kvs k := by
        unfold getD
        rw [List.find?_cons, e2]
      rw [h3, valV_neg q]
      exact getD_of hk h2
theorem in_core {neg : Bool} {rr : R2} (hG : G.K = X.K)
    (hL : ∀ {x y : V} {H : Hp} {Q : VK} {d : PyData} {ds : List PyData}, Dp X.K H x d → Dp X.K H y (.list ds) → SeqAt.shaped d = true → SeqAt.shaped (.list ds) = true → Q (.bl (if neg then !ds.any fun z => PyData.eqv z d else ds.any fun z => PyData.eqv z d)) H → rr x y H Q)
    (hT : ∀ {x y : V} {H : Hp} {Q : VK}, rInTD X.K neg x y H Q → rr x y H Q) (hS : ∀ {c : Nat} {z : Str} {H : Hp} {Q : VK}, Q (.bl (if neg then !decide (c ∈ z.cps.toList) else decide (c ∈ z.cps.toList))) H → rr (.str ⟨#[c]⟩) (.str z) H Q) (hD : ∀ {x y : V} {H : Hp} {Q : VK}, rInDc neg x y H Q → rr x y H Q)
    (dl : Addr) (Z : List Addr) (O : List (Nat × Addr)) (r : LE) (sg : L2.St) (x y : D) (vx vy : V) (H : Hp) (Q : VK) (E : Exc → Prop) (A : At G dl Z O r sg H) (hx : RepP G dl H Z x vx) (hy : RepP G dl H Z y vy)
    (h : Wp (inB x y >>= fun b => R.ok (D.bl (if neg then !b else b))) (fun d => ∀ v H', Grow dl H H' → GlOk G dl H' → Rep G dl (cut H' Z) d v → Q v H') E) : rr vx vy H Q := by
  unfold inB at h
  split at h
  · split at h
    · rename_i ys hc
      rw [Bool.and_eq_true] at hc
      have e := toPs_any hc.1 hc.2
      refine hL (d := x.toP) (ds := D.toPs ys) (hG ▸ hx.dp hc.1) (hG ▸ (RepP.dp (n := 63) (by simpa [D.sh] using hc.2) hy)) (sh_shaped (sh_mono _ _ _ (by decide) hc.1)) (sh_shaped (d := .lst ys) (by simpa [D.sh] using shs_mono _ _ 63 (by decide) hc.2)) ?_
      rw [e]
      exact h _ H (.refl _ _) A.gl Rep.bl_
    · exact h.elim
  · split at h
    · rename_i ys hc
      rw [Bool.and_eq_true] at hc
      have e := toPs_any hc.1 hc.2
      refine hT ⟨x.toP, D.toPs ys, hG ▸ hx.dp hc.1, hG ▸ (RepP.dp (n := 63) (by simpa [D.sh] using hc.2) hy), sh_shaped (sh_mono _ _ _ (by decide) hc.1), sh_shaped (d := .tup ys) (by simpa [D.sh] using shs_mono _ _ 63 (by decide) hc.2), ?_⟩
      rw [e]
      exact h _ H (.refl _ _) A.gl Rep.bl_
    · exact h.elim
  · split at h
    · rename_i t _ c
      rw [hx.str, hy.str]
      refine hS ?_
      have := h (.bl (if neg then !decide (c ∈ t) else decide (c ∈ t))) H (.refl _ _) A.gl Rep.bl_
      simpa using this
    · exact h.elim
  · split at h
    · rename_i kvs hk1
      obtain ⟨k, hk⟩ := key1_key hk1
      obtain ⟨a, kv, rfl, hrd, rk⟩ := hy.dic
      refine hD ⟨a, valV kv k, rfl, .inl ⟨kv, k, hrd, key_kV hk hx, rfl⟩, ?_⟩
      have hsome : (valV kv k).isSome = (getD kvs x).isSome := by
        rcases getD_of hk rk with ⟨e1, e2⟩ | ⟨d, v, e1, e2, _⟩ <;> simp [e1, e2]
      rw [hsome]
      exact h _ H (.refl _ _) A.gl Rep.bl_
    · exact h.elim
  · exact h.elim
theorem op_in_d (hG : G.K = X.K) (hu : X.A.units + 70 < cLine) : OpD X G (compareOp .In) inD := by
  refine ⟨_, OpR.or (op_inD (by omega)) (OpR.or (op_inTD (by omega)) (OpR.or op_in_sign (op_inDc (by omega)))), ?_⟩
  exact in_core (neg := false) hG (fun h1 h2 h3 h4 q => .inl ⟨_, _, h1, h2, h3, h4, q⟩) (fun h => .inr (.inl h)) (fun q => .inr (.inr (.inl ⟨_, _, rfl, rfl, q⟩))) (fun h => .inr (.inr (.inr h)))
theorem op_notin_d (hG : G.K = X.K) (hu : X.A.units + 70 < cLine) : OpD X G (compareOp .NotIn) notInD := by
  refine ⟨_, OpR.or (op_notInD (by omega)) (OpR.or (op_notInTD (by omega)) (OpR.or op_notIn_sign (op_notInDc (by omega)))), ?_⟩
  exact in_core (neg := true) hG (fun h1 h2 h3 h4 q => .inl ⟨_, _, h1, h2, h3, h4, q⟩) (fun h => .inr (.inl h)) (fun q => .inr (.inr (.inl ⟨_, _, rfl, rfl, q⟩))) (fun h => .inr (.inr (.inr h)))
end
end DL
set_option Elab.async false
set_option linter.all false
set_option maxRecDepth 100000
namespace DL
open PySem L2 PySem.Spec PyProof.Rows
def getC (kvs : List (List Nat × D)) (k : List Nat) : Option D := (kvs.find? fun p => p.1 == k).map (·.2)
def subI (x y : D) : R D := match x with
  | .dic kvs => if y.key1 then (match getD kvs y with
    | some d => .ok d
    | none => .stuck) else .stuck
  | .cdic kvs => match y with
    | .str s => match getC kvs s with
      | some d => .ok d
      | none => .stuck
    | _ => .stuck
  | x => ixD x y
section
variable {X : Cx} {G : Gm} {W : WX} {ex a b : Expr} {es : List Expr} {f g : LE → R D} {fs : LE → R (List D)} {pos p : Pos} {dl : Addr} {S H : Hp} {Z : List Addr}
def rIxDK : R2 := fun x y H Q => ∃ a v, x = .ref a ∧ DGet H a y (some v) ∧ Q v H
theorem ix_dict (hu : X.A.units + 1 < cLine) : IxR X rIxDK := by
  intro value slice pins s sg H x y v u Q I rx ry h hs
  obtain ⟨p, r, rfl, g, q⟩ := h
  obtain rfl : v = Value.ref p := rx
  exact tail_any (dict_typeIs I g) PySem.F.slot_dict_getitem.lookup (d_getItem hu I g ry fun w' s3 I3 rw' => ⟨r, H, I3, rw', q⟩) hs
theorem RepP.cdic {v : V} {kvs : List (List Nat × D)} (h : RepP G dl H Z (.cdic kvs) v) : ∃ a, v = .ref a ∧ RepC G dl (cut H Z) a kvs := by
  rcases h with h | ⟨a, e, hz, hd, q⟩
  · unfold Rep at h
    exact h
  · exact q.elim
theorem getC_of {a : Addr} {k : List Nat} {d : D} : ∀ {kvs : List (List Nat × D)}, RepC G dl S a kvs → getC kvs k = some d → ∃ v, KDct G.K G.w a ⟨k.toArray⟩ v ∧ Rep G dl S d v
  | [], h, e => by simp [getC] at e
  | (k', d') :: kvs, h, e => by
    unfold RepC at h
    unfold getC at e
    rw [List.find?_cons] at e
    by_cases q : k' = k
    · subst q
      simp at e
      subst e
      exact h.1
    · rw [show (k' == k) = false from beq_eq_false_iff_ne.mpr q] at e
      exact getC_of h.2 e
theorem de_sub (hG : G.K = X.K) (hw : G.w = X.w) (hu : X.A.units + 70 < cLine) (ha : DP X G W a f) (hb : DP X G W b g) (hs : PlainIx b) : DE X G W (.Subscript a b pos) (fun r => do let x ← f r; let y ← g r; subI x y) := by
  refine PE_imp (pe_ix (IxR.or (ix_dict (by omega)) (IxR.or ix_kdict ix_seq)) ha hb hs) fun sg H Q h => ?_
  refine op_core (fun dl Z O r sg x y vx vy H Q E A hx hy h => ?_) h
  cases x with
  | dic kvs =>
    unfold subI at h
    dsimp only at h
    split at h
    · rename_i hk1
      obtain ⟨kk, hk⟩ := key1_key hk1
      obtain ⟨a, kv, rfl, hrd, rk⟩ := hx.dic
      split at h
      · rename_i d hd
        rcases getD_of hk rk with ⟨e1, e2⟩ | ⟨d', v, e1, e2, rp⟩
        · rw [e1] at hd; cases hd
        · rw [e1] at hd
          cases hd
          exact .inl ⟨a, v, rfl, .inl ⟨kv, kk, hrd, key_kV hk hy, e2.symm⟩, h v H (.refl _ _) A.gl rp⟩
      · exact h.elim
    · exact h.elim
  | cdic kvs =>
    cases y <;> first | exact h.elim | skip
    rename_i s
    unfold subI at h
    dsimp only at h
    split at h
    · rename_i d hd
      obtain ⟨a, rfl, rc⟩ := hx.cdic
      obtain ⟨v, kd, rp⟩ := getC_of rc hd
      exact .inr (.inl ⟨a, ⟨s.toArray⟩, v, rfl, hy.str, hG ▸ hw ▸ kd, h v H (.refl _ _) A.gl rp⟩)
    · exact h.elim
  | lst xs =>
    cases y <;> first | exact h.elim | skip
    rename_i i
    unfold subI ixD at h
    dsimp only at h
    split at h
    · rename_i d hd
      obtain ⟨p, vs, rfl, h1, rl⟩ := hx.lst
      obtain ⟨v, h2, rp⟩ := atI_rep rl hd
      exact .inr (.inr (.inl ⟨p, vs, i, v, rfl, hy.int, SqL.of h1, h2, h v H (.refl _ _) A.gl rp⟩))
    · exact h.elim
  | tup xs =>
    cases y <;> first | exact h.elim | skip
    rename_i i
    unfold subI ixD at h
    dsimp only at h
    split at h
    · rename_i d hd
      obtain ⟨p, vs, rfl, h1, rl⟩ := hx.tup
      obtain ⟨v, h2, rp⟩ := atI_rep rl hd
      exact .inr (.inr (.inr (.inl ⟨p, vs, i, v, rfl, hy.int, hG ▸ h1, h2, h v H (.refl _ _) A.gl rp⟩)))
    · exact h.elim
  | str s =>
    cases y <;> first | exact h.elim | skip
    rename_i i
    unfold subI ixD at h
    dsimp only at h
    split at h
    · rename_i hz
      split at h
      · rename_i c hc
        refine .inr (.inr (.inr (.inr ⟨_, i, c, hx.str, hy.int, by rw [sizeLine_eq]; simpa [Str.length] using hz, hc, ?_⟩)))
        exact h _ H (.refl _ _) A.gl (Rep.str_ (x := [c]))
      · exact h.elim
    · exact h.elim
  | non => cases y <;> exact h.elim
  | bl b => cases y <;> exact h.elim
  | int b => cases y <;> exact h.elim
  | ins c b => cases y <;> exact h.elim
  | dice => cases y <;> exact h.elim
  | fn b => cases y <;> exact h.elim
def negD : D → R D
  | .int i => .ok (.int (-i))
  | _ => .stuck
theorem de_neg (ha : DP X G W a f) : DE X G W (.UnaryOp .USub a pos) (fun r => do let x ← f r; negD x) := by
  refine PE_imp (pe_un un_neg ha) fun sg H Q ⟨dl, Z, O, r, A, q⟩ => ?_
  refine ⟨dl, Z, O, r, A, q.bind.thn fun d hd v H1 g1 k1 rp => ?_⟩
  unfold negD at hd
  split at hd
  · rename_i i
    exact ⟨i, rp.int, hd _ H1 g1 k1 Rep.int_⟩
  · exact hd.elim
def isT (T : String) : D → R D
  | .str s => if T = "str" then .ok (.str s) else .stuck
  | .lst xs => if T = "list" then .ok (.lst xs) else .stuck
  | .dic xs => if T = "dict" then .ok (.dic xs) else .stuck
  | _ => .stuck
def TyW (K : PySem.W.Frag) (T : String) (x : V) (H : Hp) : Prop := tyV K T x H ∨ (T = "dict" ∧ ∃ p kvs, x = .ref p ∧ Rd H p (.dK kvs))
theorem tyW_is {pins : List (Addr × Obj)} {sg : L2.St} {H : Hp} {s : Shared} {T : String} {x : V} {v : Value} (I : Inv X pins sg H s) (r : RelV x v) (ty : TyW X.K T x H) :
    s.TypeIs v T ∧ ∀ a, v = .ref a → ∃ ob, s.heap.get? a = some ob ∧ ob.dict = none := by
  rcases ty with ty | ⟨rfl, p, kvs, rfl, hd⟩
  · exact tyV_is I r ty
  · cases r
    obtain ⟨_, _, vs, _, dd⟩ := dk_rd I.hok hd
    refine ⟨dd.typeIs, fun b q => ?_⟩
    cases q
    obtain ⟨ob, _, _, h1, h2, _⟩ := dd
    exact ⟨ob, h1, h2.2.1⟩
theorem isT_wp {T : String} {d : D} {Q : D → Prop} {E : Exc → Prop} (h : Wp (isT T d) Q E) : Q d ∧ ∀ (hG : G.K = X.K) {v : V}, RepP G dl H Z d v → TyW X.K T v H := by
  unfold isT at h
  split at h
  all_goals first | exact h.elim | skip
  all_goals split at h
  all_goals first | exact h.elim | skip
  all_goals rename_i e
  all_goals subst e
  all_goals refine ⟨h, fun hG v rp => ?_⟩
  · rw [rp.str]; exact .inl rfl
  · obtain ⟨a, vs, rfl, h1, _⟩ := rp.lst
    exact .inl (.inl ⟨rfl, vs, SqL.of h1⟩)
  · obtain ⟨a, kv, rfl, h1, _⟩ := rp.dic
    exact .inr ⟨rfl, a, kv, rfl, h1⟩
def tBMW (K : PySem.W.Frag) (T : String) (r : V → List V → Hp → VK → Prop) (to : TE) (t : TA) : TE := fun sg H Q => to sg H fun x H1 => TyW K T x H1 ∧ t sg H1 fun xs H2 => r x xs H2 Q
variable {o e : Expr} {to : TE} {t : TA} {name : Str} {apos cpos : Pos} {T id : String} {r : V → List V → Hp → VK → Prop}
theorem pe_bmw (pa : PlainAttrs T) (slot : PySem.Slot T name id) (hty : typeOf (.builtin id) = pure (.type "method_descriptor")) (hm : MtR X id r) (ho : PE X o to) (ha : PA X (e :: es) t)
    (hbase : attributeBase o name X.env (eval o X.env) = eval o X.env)
    (hfew : ((backTo cpos (starEach (e :: es) X.env)).all (fun x => !x.1) && (backToKw cpos (keywordEach [] X.env)).all (fun x => x.1.isSome)
      && decide ((e :: es).length + ([] : List Keyword).length + (if ([] : List Keyword).isEmpty then 0 else 1) < 30)) = true)
    (hline : (apos.endLine == cpos.line) = true) (hs : starEach (e :: es) X.env = (false, eval e X.env) :: starEach es X.env) (hplain : (backTo cpos (starEach es X.env)).any (·.1) = false) :
    PE X (.Call (.Attribute o name apos) (e :: es) [] cpos) (tBMW X.K T r to t) := by
  refine ⟨fun pins s sg H Q I h => ?_⟩
  refine wpAny_Call_method_late hbase hfew hline rfl (thn (ho.run pins s sg H _ I h) fun v s1 ⟨x, H1, I1, r1, ty, q1⟩ => ?_)
  obtain ⟨h1, h2⟩ := tyW_is I1 r1 ty
  refine ⟨T, id, pa, slot, hty, h1, h2, ?_⟩
  have hA := ha.run cpos pins s1 sg H1 _ I1 q1
  rw [hs] at hA ⊢
  refine Calls.callWith_builtin (by show (false || (backTo cpos (starEach es X.env)).any (·.1)) = false; rw [hplain] <;> rfl) (Calls.evalArgs_plain ?_)
  exact thn hA fun us s2 ⟨vs, H2, I2, r2, q2⟩ => hm pins s2 sg H2 x vs v us Q I2 r1 r2 q2
/-- a method of a built-in type -/
structure BmD (X : Cx) (G : Gm) (T : String) (m : Str) (g : D → List D → R D) : Prop where
  ex : ∃ (id : String) (rr : V → List V → Hp → VK → Prop), PySem.Slot T m id ∧ typeOf (.builtin id) = pure (.type "method_descriptor") ∧ MtR X id rr ∧
    ∀ (dl : Addr) (Z : List Addr) (O : List (Nat × Addr)) (r : LE) (sg : L2.St) (x : D) (vx : V) (ds : List D) (vs : List V) (H : Hp) (Q : VK) (E : Exc → Prop), At G dl Z O r sg H → RepP G dl H Z x vx → RepPL G dl H Z ds vs →
      Wp (g x ds) (fun d => ∀ v H', Grow dl H H' → GlOk G dl H' → Rep G dl (cut H' Z) d v → Q v H') E → rr vx vs H Q
  pa : PlainAttrs T
theorem de_bm {gg : D → List D → R D} (B : BmD X G T name gg) (hG : G.K = X.K) (ho : DP X G W o f) (ha : DAp X G W (e :: es) fs) (hbase : attributeBase o name X.env (eval o X.env) = eval o X.env := by rfl)
    (hfew : ((backTo cpos (starEach (e :: es) X.env)).all (fun x => !x.1) && (backToKw cpos (keywordEach [] X.env)).all (fun x => x.1.isSome)
      && decide ((e :: es).length + ([] : List Keyword).length + (if ([] : List Keyword).isEmpty then 0 else 1) < 30)) = true := by rfl)
    (hline : (apos.endLine == cpos.line) = true := by rfl) (hs : starEach (e :: es) X.env = (false, eval e X.env) :: starEach es X.env := by rfl) (hplain : (backTo cpos (starEach es X.env)).any (·.1) = false := by rfl) :
    DE X G W (.Call (.Attribute o name apos) (e :: es) [] cpos) (fun r => do let x ← f r; let x ← isT T x; let ds ← fs r; gg x ds) := by
  obtain ⟨⟨id, rr, slot, hty, hm, hc⟩, pa⟩ := B
  refine PE_imp (pe_bmw pa slot hty hm ho ha hbase hfew hline hs hplain) fun sg H Q ⟨dl, Z, O, r, A, q⟩ => ?_
  refine ⟨dl, Z, O, r, A, q.bind.thn fun x hx v H1 g1 k1 rp => ?_⟩
  obtain ⟨hx, ht⟩ := isT_wp (G := G) (X := X) (dl := dl) (H := H1) (Z := Z) hx.bind
  have A1 := A.grow g1 k1
  refine ⟨ht hG rp, dl, Z, O, r, A1, hx.bind.mono (fun ds hd vs H2 g2 k2 rl => ?_) fun e => epost g1⟩
  exact hc dl Z O r sg x v ds vs H2 Q _ (A1.grow g2 k2) (rp.grow A1 g2) rl (hd.thn fun d h w H' g' k' rp => h w H' ((g1.trans g2).trans g') k' rp)
end
end DL
set_option Elab.async false
set_option linter.all false
set_option maxRecDepth 100000
namespace DL
open PySem L2 PySem.Spec PyProof.Rows
section
variable {X : Cx} {G : Gm} {W : WX} {ex a b o e : Expr} {es : List Expr} {f g : LE → R D} {fs : LE → R (List D)} {pos p apos cpos : Pos} {dl : Addr} {S H : Hp} {Z : List Addr} {name x : Str}
theorem key_inj {a b : D} {x y : Key} (h1 : a.key = some x) (h2 : b.key = some y) : a.keq b = true ↔ x = y := by
  rw [keq_key h1 h2]; simp
theorem RepK.any : ∀ {kvs : List (D × D)} {kv : List (Key × V)} {k : D} {x : Key}, RepK G dl S kvs kv → k.key = some x → (kvs.any fun p => p.1.keq k) = (kv.any fun p => decide (p.1 = x))
  | [], kv, k, x, h, hk => by unfold RepK at h; subst h; rfl
  | (k', d) :: kvs, kv, k, x, h, hk => by
    unfold RepK at h
    obtain ⟨y, v, r, rfl, hk', rp, h2⟩ := h
    rw [List.any_cons, List.any_cons, keq_key hk' hk, RepK.any h2 hk]
theorem RepK.map : ∀ {kvs : List (D × D)} {kv : List (Key × V)} {k d : D} {x : Key} {v : V}, RepK G dl S kvs kv → k.key = some x → Rep G dl S d v →
    RepK G dl S (kvs.map fun p => if p.1.keq k then (p.1, d) else p) (kv.map fun p => if p.1 = x then (p.1, v) else p)
  | [], kv, k, d, x, v, h, hk, rv => by unfold RepK at h; subst h; unfold RepK; rfl
  | (k', d') :: kvs, kv, k, d, x, v, h, hk, rv => by
    unfold RepK at h
    obtain ⟨y, u, r, rfl, hk', rp, h2⟩ := h
    have q := RepK.map (v := v) (d := d) h2 hk rv
    rw [List.map_cons, List.map_cons]
    by_cases e : y = x
    · rw [if_pos ((key_inj hk' hk).mpr e), if_pos e]
      unfold RepK
      exact ⟨y, v, _, rfl, hk', rv, q⟩
    · rw [if_neg fun z => e ((key_inj hk' hk).mp z), if_neg e]
      unfold RepK
      exact ⟨y, u, _, rfl, hk', rp, q⟩
theorem RepK.app : ∀ {kvs : List (D × D)} {kv : List (Key × V)} {k d : D} {x : Key} {v : V}, RepK G dl S kvs kv → k.key = some x → Rep G dl S d v → RepK G dl S (kvs ++ [(k, d)]) (kv ++ [(x, v)])
  | [], kv, k, d, x, v, h, hk, rv => by
    unfold RepK at h
    subst h
    unfold RepK
    exact ⟨x, v, [], rfl, hk, rv, by unfold RepK; rfl⟩
  | (k', d') :: kvs, kv, k, d, x, v, h, hk, rv => by
    unfold RepK at h
    obtain ⟨y, u, r, rfl, hk', rp, h2⟩ := h
    rw [List.cons_append]
    unfold RepK
    exact ⟨y, u, r ++ [(x, v)], rfl, hk', rp, RepK.app h2 hk rv⟩
theorem RepK.put {kvs : List (D × D)} {kv : List (Key × V)} {k d : D} {x : Key} {v : V} (h : RepK G dl S kvs kv) (hk : k.key = some x) (rv : Rep G dl S d v) : RepK G dl S (putD kvs k d) (putK kv x v) := by
  unfold putD putK
  rw [RepK.any h hk]
  by_cases c : (kv.any fun p => decide (p.1 = x)) = true
  · rw [if_pos c, if_pos c]
    exact h.map hk rv
  · rw [if_neg c, if_neg c]
    exact h.app hk rv
theorem RepK.length : ∀ {kvs : List (D × D)} {kv : List (Key × V)}, RepK G dl S kvs kv → kv.length = kvs.length
  | [], kv, h => by unfold RepK at h; subst h; rfl
  | (k', d') :: kvs, kv, h => by
    unfold RepK at h
    obtain ⟨y, u, r, rfl, _, _, h2⟩ := h
    rw [List.length_cons, List.length_cons, RepK.length h2]
/-- the pairs of a display -/
inductive DPs (X : Cx) (G : Gm) (W : WX) (pos : Pos) : List (Option Expr) → List Expr → List ((LE → R D) × (LE → R D)) → Prop
  | nil : DPs X G W pos [] [] []
  | cons {k v : Expr} {ks : List (Option Expr)} {vs : List Expr} {f g : LE → R D} {fs : List ((LE → R D) × (LE → R D))} (hk : DE X G W k f) (hv : DE X G W v g) (h : DPs X G W pos ks vs fs) : DPs X G W pos (some k :: ks) (v :: vs) ((f, g) :: fs)
def prs : List ((LE → R D) × (LE → R D)) → LE → R (List (D × D))
  | [], _ => .ok []
  | (f, g) :: fs, r => do
    let k ← f r
    let v ← g r
    let t ← prs fs r
    if k.key1 then .ok ((k, v) :: t) else .stuck
def mergeD (kvs more : List (D × D)) : List (D × D) := more.foldl (fun acc p => putD acc p.1 p.2) kvs
theorem RepK_merge : ∀ (more : List (D × D)) {mv : List (Key × V)} {kvs : List (D × D)} {kv : List (Key × V)}, RepK G dl S more mv → RepK G dl S kvs kv → RepK G dl S (mergeD kvs more) (mergeK kv mv)
  | [], mv, kvs, kv, h, h2 => by unfold RepK at h; subst h; exact h2
  | (k, d) :: more, mv, kvs, kv, h, h2 => by
    unfold RepK at h
    obtain ⟨y, u, r, rfl, hk, rp, h3⟩ := h
    have z := RepK_merge more h3 (h2.put hk rp)
    exact z
def trsOf (G : Gm) (W : WX) : List ((LE → R D) × (LE → R D)) → List (TE × TE)
  | [] => []
  | (f, g) :: fs => (tD G W f, tD G W g) :: trsOf G W fs
theorem DPs.pps {ks : List (Option Expr)} {vs : List Expr} {fs : List ((LE → R D) × (LE → R D))} (h : DPs X G W pos ks vs fs) : PPs X pos ks vs (trsOf G W fs) := by
  induction h with
  | nil => exact pps_nil
  | cons hk hv h ih => exact pps_cons hk hv ih
theorem pairs_core : ∀ {fs : List ((LE → R D) × (LE → R D))} {dl : Addr} {Z : List Addr} {O : List (Nat × Addr)} {r : LE} {sg : L2.St} {H : Hp} {Q : List (V × V) → Hp → Prop} (A : At G dl Z O r sg H),
    Wp (prs fs r) (fun ds => ∀ kv H', Grow dl H H' → GlOk G dl H' → RepK G dl (cut H' Z) ds kv → Q (kv.map fun p => (kV p.1, p.2)) H')
      (fun e => ∀ cls dx H', Grow dl H H' → GlOk G dl H' → XRep G dl (cut H' Z) e cls dx H' → W cls dx sg H') → tPairs (trsOf G W fs) sg H Q
  | [], dl, Z, O, r, sg, H, Q, A, q => q [] H (.refl _ _) A.gl (by unfold RepK; rfl)
  | (f, g) :: fs, dl, Z, O, r, sg, H, Q, A, q => by
    refine ⟨dl, Z, O, r, A, q.bind.thn fun k hk v H1 g1 k1 rk => ?_⟩
    have A1 := A.grow g1 k1
    refine ⟨dl, Z, O, r, A1, hk.bind.mono (fun d hd u H2 g2 k2 rd => ?_) fun e => epost g1⟩
    have A2 := A1.grow g2 k2
    refine pairs_core A2 (hd.bind.mono (fun ds hds kv H3 g3 k3 rl => ?_) fun e => epost (g1.trans g2))
    split at hds
    · rename_i hk1
      obtain ⟨x, hx⟩ := key1_key hk1
      have rk3 := rk.mono ((g2.trans g3).cut A.dz)
      have e := key_kV hx (.of rk3)
      subst e
      refine hds ((x, u) :: kv) H3 ((g1.trans g2).trans g3) k3 ?_
      unfold RepK
      exact ⟨x, u, kv, rfl, hx, rd.mono (g3.cut A.dz), rl⟩
    · exact hds.elim
def dispE (fs : List ((LE → R D) × (LE → R D))) : LE → R D := fun r => do
  let ps ← prs fs r
  .ok (.dic (mergeD [] ps))
theorem prs_len : ∀ {fs : List ((LE → R D) × (LE → R D))} {r : LE} {Q : List (D × D) → Prop} {E : Exc → Prop}, Wp (prs fs r) Q E → Wp (prs fs r) (fun ps => Q ps ∧ ps.length = fs.length) E
  | [], r, Q, E, h => ⟨h, rfl⟩
  | (f, g) :: fs, r, Q, E, h => by
    refine Wp.of_bind (h.bind.thn fun k hk => Wp.of_bind (hk.bind.thn fun v hv => Wp.of_bind ((prs_len hv.bind).thn fun t ht => ?_)))
    obtain ⟨ht, hl⟩ := ht
    split at ht
    · rename_i c
      rw [if_pos c]
      exact ⟨ht, by rw [List.length_cons, List.length_cons, hl]⟩
    · exact ht.elim
theorem DPs.len {ks : List (Option Expr)} {vs : List Expr} {fs : List ((LE → R D) × (LE → R D))} (h : DPs X G W pos ks vs fs) : fs.length = ks.length := by
  induction h with
  | nil => rfl
  | cons _ _ _ ih => rw [List.length_cons, List.length_cons, ih]
theorem de_disp {ks : List (Option Expr)} {vs : List Expr} {fs : List ((LE → R D) × (LE → R D))} (h : DPs X G W pos ks vs fs) (hall : ks.all (·.isSome) = true := by rfl) (hl : ks.length = vs.length := by rfl) (h0 : ks ≠ [] := by exact nofun) (h15 : ks.length ≤ 15 := by decide) :
    DE X G W (.Dict ks vs pos) (dispE fs) := by
  refine PE_imp (pe_disp h.pps hall hl h0 h15) fun sg H Q ⟨dl, Z, O, r, A, q⟩ p hp => ?_
  have nt : ∀ ps, (HO.dK []) ≠ .tbl ps := fun ps z => by cases z
  have B := A.aside hp nt
  have g0 : Grow dl H (upd H p (.dK [])) := .new hp
  refine pairs_core B ((prs_len q.bind).mono (fun ds hd kv H2 g2 k2 rk => ?_) fun e he cls dx H' g k xr => he cls dx H' (g0.trans g) k (xr.mono (cut_sub fun a ha => List.mem_cons_of_mem _ ha)))
  obtain ⟨hd, hlen⟩ := hd
  have hpd : p ≠ dl := A.out hp |> fun z e => z (e ▸ A.dz)
  have hz : p ∉ Z := A.out hp
  refine ⟨g2 p _ upd_same hpd nt, kv, rfl, by rw [rk.length, hlen, h.len]; exact h15, ?_⟩
  have hgr : Grow dl H (upd H2 p (.dK (mergeK [] kv))) := fun a u e n nt => by
    rw [upd_ne (ne_of_none e hp)]
    exact g2 a u (by rw [upd_ne (ne_of_none e hp)]; exact e) n nt
  have kgl : GlOk G dl (upd H2 p (.dK (mergeK [] kv))) := by
    have h2p : H2 p = some (.dK []) := g2 p _ upd_same hpd nt
    obtain ⟨x, y, z, hdl⟩ := k2.dice
    refine ⟨⟨x, y, z, by rw [upd_ne (fun e => hpd e.symm)]; exact hdl⟩, ?_⟩
    intro q hq
    obtain ⟨ps, h1, h2, h3⟩ := k2.tab q hq
    refine ⟨ps, ?_, h2, fun pos cv hc => ?_⟩
    · rw [upd_ne fun e => by rw [e, h2p] at h1; cases h1]; exact h1
    · obtain ⟨c, e1, e2⟩ := h3 pos cv hc
      exact ⟨c, e1, by rw [upd_ne fun e => by rw [e, h2p] at e2; cases e2]; exact e2⟩
  refine hd (.ref p) _ hgr kgl ?_
  have hcut : GrowS (cut H2 (p :: Z)) (cut (upd H2 p (.dK (mergeK [] kv))) Z) := fun a u e n => by
    obtain ⟨e1, e2⟩ := cut_some e
    rw [cut_out fun z => e1 (List.mem_cons_of_mem _ z), upd_ne fun z => e1 (by rw [z]; exact List.mem_cons_self)]
    exact e2
  unfold Rep
  refine ⟨p, mergeK [] kv, rfl, .inl (by rw [cut_out hz]; exact upd_same), ?_⟩
  exact RepK_merge _ (RepK.mono hcut _ rk) (by unfold RepK; rfl)
end
end DL
set_option Elab.async false
set_option linter.all false
set_option maxRecDepth 100000
namespace DL
open PySem L2 PySem.Spec PyProof.Rows
/-- _law_roll -/
def rollD : List D → R D
  | [.dice, .int m] => if 0 < m ∧ m < 1000000000 then .roll m.toNat (fun i => .ok (.int (i : Nat))) else .stuck
  | _ => .stuck
theorem rollD_len : ∀ ds Q E, Wp (rollD ds) Q E → ds.length = 2 := fun ds Q E h => by
  unfold rollD at h
  split at h
  · rfl
  · exact h.elim
/-- what a roll is asked: any number below m may come -/
theorem roll_of {G : Gm} {dl : Addr} {Z : List Addr} {ds : List D} {vs : List V} {H : Hp} {Q : VK} {E : XK} (gl : GlOk G dl H) (dz : dl ∈ Z) (rl : RepL G dl (cut H Z) ds vs)
    (h : Wp (rollD ds) (fun d => ∀ v H', Grow dl H H' → GlOk G dl H' → Rep G dl (cut H' Z) d v → Q v H') (fun e => ∀ cls dx H', Grow dl H H' → GlOk G dl H' → XRep G dl (cut H' Z) e cls dx H' → E cls dx H')) :
    ∃ (m x y z : Int), vs = [.ref dl, .int m] ∧ 0 < m ∧ m < 1000000000 ∧ H dl = some (.lst [.int x, .int y, .int z]) ∧ ∀ (r : Int) (H' : Hp), 0 ≤ r → r < m → (∃ a b c : Int, H' = upd H dl (.lst [.int a, .int b, .int c])) → Q (.int r) H' := by
  unfold rollD at h
  split at h
  · rename_i m
    split at h
    · rename_i hm
      obtain ⟨x, y, z, hd⟩ := gl.dice
      unfold RepL at rl
      obtain ⟨v1, r1, rfl, h1, rl⟩ := rl
      unfold RepL at rl
      obtain ⟨v2, r2, rfl, h2, rl⟩ := rl
      unfold RepL at rl
      subst rl
      unfold Rep at h1 h2
      subst h1 h2
      refine ⟨m, x, y, z, rfl, hm.1, hm.2, hd, fun r H' h0 h1 ⟨a, b, c, e⟩ => ?_⟩
      subst e
      have e : r = ((r.toNat : Nat) : Int) := by omega
      rw [e]
      refine h r.toNat (by omega) _ _ (fun p o hp n nt => by rw [upd_ne n]; exact hp) ⟨⟨a, b, c, upd_same⟩, fun q hq => ?_⟩ Rep.int_
      obtain ⟨ps, h1, h2, h3⟩ := gl.tab q hq
      refine ⟨ps, ?_, h2, fun pos cv hc => ?_⟩
      · rw [upd_ne fun e => by rw [e, hd] at h1; cases h1]; exact h1
      · obtain ⟨c, e1, e2⟩ := h3 pos cv hc
        exact ⟨c, e1, by rw [upd_ne fun e => by rw [e, hd] at e2; cases e2]; exact e2⟩
    · exact h.elim
  · exact h.elim
/-- a new dice -/
def spDice : Sp := fun vs H Q _ => ∃ c : Int, vs = [.int c] ∧ ∀ p (x y z : Int), H p = none → Q (.ref p) (upd H p (.lst [.int x, .int y, .int z]))
/-- one round's dice -/
def spRounds (K : PySem.W.Frag) : Sp := fun vs H Q _ => ∃ (a : Addr) (ns : List Int), vs = [.ref a, .int 1] ∧ SqL K H a (ns.map V.int) ∧
  ∀ (H' : Hp) (l d : Addr) (x y z : Int), (∀ b o, H b = some o → H' b = some o) → l ≠ d → H' l = some (.lst [.ref d]) → H' d = some (.lst [.int x, .int y, .int z]) → Q (.ref l) H'
/-- what is asked of the law -/
def spLaw (K : PySem.W.Frag) (T : List (Addr × Str)) : Sp := fun vs H Q _ => ∃ (a : Addr) (ns : List Int), vs = [.ref a] ∧ SqL K H a (ns.map V.int) ∧ (∀ p ∈ T, H p.1 = some (.tbl #[])) ∧ ∀ H', Q (.bl true) H'
/-- the slots when the round begins -/
def r0 (m : Nat) : LE := .un :: .val .dice :: List.replicate (m - 2) .un
theorem law_core {G : Gm} {W : WX} {N : List Str} {F : LE → R Out} {m : Nat} {a : Addr} {ns : List Int} {H : Hp} {Q : VK} {E : L2.St → XK} {nx0 : L2.St → Hp → Prop} (hm : N.length = m) (h2 : 2 ≤ m) (hS : SqL G.K H a (ns.map V.int)) (hT : ∀ p ∈ G.tabs, H p.1 = some (.tbl #[])) (k : ∀ H', Q (.bl true) H')
    (hF : Wp (F (r0 m)) (fun o => ∃ r, o = .nx r ∨ o = .ct r) (fun _ => False)) :
    tSeq (tFor (iList G.K (tCallS (spRounds G.K) E (tCons (tVar 0) (tCons (tC (.int 1)) tNil)))) (gName 1) (tS G W F)) (tRet (tC (.bl true))) { nx := nx0, rt := Q } (L2.start N [.ref a]) H := by
  obtain ⟨b0, b1, N', rfl⟩ : ∃ b0 b1 N', N = b0 :: b1 :: N' := by
    match N, hm with
    | b0 :: b1 :: N', _ => exact ⟨b0, b1, N', rfl⟩
    | [_], hm => simp at hm; omega
    | [], hm => simp at hm; omega
  refine ⟨_, rfl, a, ns, rfl, hS, fun H1 l d x y z e1 nld hl hd => ⟨l, rfl, ⟨_, SqL.of hl⟩, ?_⟩⟩
  refine for_list (K := G.K) (a := l) (xs := [V.ref d]) (fun i sg H' => H' l = some (.lst [.ref d]) ∧ (i = 0 → sg = L2.start (b0 :: b1 :: N') [.ref a] ∧ H' = H1)) ⟨hl, fun _ => ⟨rfl, rfl⟩⟩ (fun i sg H' _ p => SqL.of p.1) (fun i v sg H' hi p => ?_) (fun sg H' p => k _)
  obtain ⟨p1, p2⟩ := p
  cases i with
  | succ i => simp at hi
  | zero =>
    cases hi
    obtain ⟨rfl, rfl⟩ := p2 rfl
    refine ⟨d, [d], [], r0 m, ?_, hF.mono (fun o ho => ?_) fun _ z => z⟩
    · refine ⟨⟨⟨x, y, z, hd⟩, fun p hp => LamX.TabS.nil (e1 _ _ (hT p hp))⟩, List.mem_singleton.mpr rfl, fun b hb => ?_, fun p hp => (by cases hp), fun p hp => (by cases hp), ?_, fun j c e => ?_⟩
      · rw [List.mem_singleton] at hb
        subst hb
        exact ⟨_, hd, fun ps z => by cases z⟩
      · simp [r0, L2.start] at hm ⊢
        omega
      · match j, e with
        | 0, e => cases e; trivial
        | 1, e =>
          cases e
          exact ⟨.ref d, rfl, by unfold Rep; rfl⟩
        | j + 2, e =>
          have e' : (List.replicate (m - 2) Cell.un)[j]? = some c := e
          rw [List.getElem?_replicate] at e'
          split at e'
          · cases e'; trivial
          · cases e'
    · have keep : ∀ {Z' O' H2}, Stp d [d] [] H' Z' O' H2 → H2 l = some (.lst [.ref d]) := fun s => s.fr l _ p1 nld (fun p hp => by cases hp) fun ps z => by cases z
      obtain ⟨r, rfl | rfl⟩ := ho
      · exact fun Z' O' sg' H2 s A => ⟨keep s, fun h => by cases h⟩
      · exact fun Z' O' sg' H2 s A => ⟨keep s, fun h => by cases h⟩
end DL
set_option Elab.async false
set_option linter.all false
set_option maxRecDepth 100000
namespace DL
open PySem L2 LamX PySem.Spec PyProof.Rows
section
variable {P : Program} {w : World} {K : PySem.W.Frag} {mg : Str → Option Value} {base : Heap} {G : Gm} {x qual : Str} {st : Stmt} {f : Addr} {fd : FuncData} {N ps : List Str} {k n m c nf : Nat} {F : LE → R Out}
structure FunE (K : PySem.W.Frag) (x qual : Str) (st : Stmt) (f : Addr) (ps : List Str) : Prop where
  ex : ∃ fd : FuncData, L2.Fun K x qual st f fd ∧ L2.Binds K fd ps []
/-- its code object stands at c -/
structure FunC (K : PySem.W.Frag) (x qual : Str) (st : Stmt) (f c : Addr) (ps : List Str) : Prop where
  ex : ∃ (oc : Value) (od : Option Addr) (kV doc pm : Value) (an : Option Addr) (ct : Value) (osl : Array (Option Value)),
    K.lookup f = some ⟨oc, od, .func (PySem.W.fnOf x qual (defArgs st) (defBody st) (defScope st) .none kV doc pm an (.ref c) ct), osl⟩ ∧
    ∀ us : List Value, us.length = ps.length → bindArgs (PySem.W.fnOf x qual (defArgs st) (defBody st) (defScope st) .none kV doc pm an (.ref c) ct) ⟨us, []⟩ = pure (ps.zip us)
  cd : PySem.W.codeIn K (.ref c) qual = true
  kp : PySem.W.keepIn K (.ref f) = true
theorem funE_of {oc : Value} {od an : Option Addr} {osl : Array (Option Value)} {kV doc pm cdv ct : Value} (l : K.lookup f = some ⟨oc, od, .func (PySem.W.fnOf x qual (defArgs st) (defBody st) (defScope st) .none kV doc pm an cdv ct), osl⟩) (c : PySem.W.codeIn K cdv qual = true) (kp : PySem.W.keepIn K (.ref f) = true)
    (h : ∀ us : List Value, us.length = ps.length → bindArgs (PySem.W.fnOf x qual (defArgs st) (defBody st) (defScope st) .none kV doc pm an cdv ct) ⟨us, []⟩ = pure (ps.zip us)) : FunE K x qual st f ps := ⟨_, L2.fun_mk l c kp, .all h⟩
theorem funC_of {c : Addr} {oc : Value} {od an : Option Addr} {osl : Array (Option Value)} {kV doc pm ct : Value} (l : K.lookup f = some ⟨oc, od, .func (PySem.W.fnOf x qual (defArgs st) (defBody st) (defScope st) .none kV doc pm an (.ref c) ct), osl⟩) (cd : PySem.W.codeIn K (.ref c) qual = true) (kp : PySem.W.keepIn K (.ref f) = true)
    (h : ∀ us : List Value, us.length = ps.length → bindArgs (PySem.W.fnOf x qual (defArgs st) (defBody st) (defScope st) .none kV doc pm an (.ref c) ct) ⟨us, []⟩ = pure (ps.zip us)) : FunC K x qual st f c ps := ⟨⟨oc, od, kV, doc, pm, an, ct, osl, l, h⟩, cd, kp⟩
theorem fn_read (S : FnScope N ps (defScope st)) (hn : ps.length = n) (hm : N.length = m) {vs : List V} {H : Hp} {Q : VK} {E : XK} (h : spD G n (runF n m F) vs H Q E) :
    tS G (WD E) F { nx := fun _ H' => Q .non H', rt := Q } (L2.start N vs) H := by
  obtain ⟨hl, dl, Z, ds, gl, dz, live, rl, hw⟩ := h
  unfold runF at hw
  split at hw
  case isFalse => exact hw.elim
  rename_i hdl
  have hpl : ps.length ≤ N.length := by have := congrArg List.length S.pre; rw [List.length_take] at this; omega
  have A0 : At G dl Z [] (ds.map Cell.val ++ List.replicate (m - n) Cell.un) (L2.start N vs) H := by
    refine ⟨gl, dz, live, fun p hp => (by cases hp), fun p hp => (by cases hp), ?_, start_get rl hl hm⟩
    unfold L2.start
    rw [List.length_append, List.length_map, List.length_replicate, List.length_append, List.length_map, List.length_replicate]
    omega
  have gr : ∀ {Z' O' H'}, Stp dl Z [] H Z' O' H' → Grow dl H H' := fun s a o e n nt => s.fr a o e n (fun p hp => (by cases hp)) nt
  have gz : ∀ {Z' O' H'}, Stp dl Z [] H Z' O' H' → GrowS (cut H' Z') (cut H' Z) := fun s => cut_sub fun a ha => s.zk a ha fun p hp => (by cases hp)
  refine ⟨dl, Z, [], _, A0, (calm_wp hw.bind).thn fun o ho => ?_⟩
  cases o with
  | nx r => exact fun Z' O' sg' H' s A' => ho _ _ (gr s) A'.gl Rep.non_
  | rt d => exact fun Z' O' v H' s g rp => ho _ _ (gr s) g (rp.mono (gz s))
  | ex e r => exact fun Z' O' sg' H' cls dx s A' xr => ho cls dx H' (gr s) A'.gl (xr.mono (gz s))
  | bk r => exact ho.elim
  | ct r => exact ho.elim
theorem fnD_E (Fn : FunE K x qual st f ps) (S : FnScope N ps (defScope st)) (hx : mg x = some (.ref f)) (hn : ps.length = n) (hm : N.length = m)
    (hb : ∀ cdv A outer s H E, Room k (A.deeper (envOfC qual (defScope st) s.heap.objs.size f cdv)) → DSs (cxD P w K mg base N qual st f cdv A outer s H E) G (WD E) (defBody st) F) :
    FnD P w K mg base G (k + 1) x f n (runF n m F) := by
  obtain ⟨fd, Fn, bd⟩ := Fn
  exact fnD_of Fn S bd hx hn hm hb
theorem fnD_C {c : Addr} (Fn : FunC K x qual st f c ps) (S : FnScope N ps (defScope st)) (hx : mg x = some (.ref f)) (hn : ps.length = n) (hm : N.length = m)
    (hb : ∀ A outer s H E, Room k (A.deeper (envOfC qual (defScope st) s.heap.objs.size f (.ref c))) → DSs (cxD P w K mg base N qual st f (.ref c) A outer s H E) G (WD E) (defBody st) F) :
    FnD P w K mg base G (k + 1) x f n (runF n m F) := by
  obtain ⟨⟨oc, od, kV, doc, pm, an, ct, osl, lk, bd⟩, cd, kp⟩ := Fn
  exact ⟨⟨_, ps, hn, fn_of lk cd S (fun vs H Q E h => by rw [hn]; exact h.1) fun A outer s H vs Q E hr h => ⟨_, hb A outer s H E hr, fn_read S hn hm h⟩, .all bd⟩, runF_len, kp, hx⟩
def exmB (K : PySem.W.Frag) (xc : Nat → Addr) (ks : List Nat) : Bool := ks.all fun i => ks.all fun j => PySem.W.exmOne K (.ref (xc i)) (.ref (xc j)) == some (i == j)
theorem exm_by {ks : List Nat} (h : exmB K G.xcls ks = true) : ExmOk K G ks := fun i hi j hj => by
  unfold exmB at h
  rw [List.all_eq_true] at h
  have h2 := h i hi
  rw [List.all_eq_true] at h2
  exact beq_iff_eq.mp (h2 j hj)
end
end DL
set_option Elab.async false
set_option linter.all false
set_option maxRecDepth 100000
namespace DL
open PySem L2 PySem.Spec PyProof.Rows
def opE (g : D → D → R D) (f k : LE → R D) : LE → R D := fun r => do let x ← f r; let y ← k r; g x y
def cmpT (g : D → D → R D) (f k : LE → R D) : LE → R Bool := fun r => (do let x ← f r; let y ← k r; g x y) >>= asB
def valT (f : LE → R D) : LE → R Bool := fun r => f r >>= asB
def chainT (f1 f2 f3 : LE → R D) (g g' : D → D → R D) : LE → R Bool := fun r => chainE f1 f2 f3 g g' r >>= asB
def callE (g : List D → R D) (fs : LE → R (List D)) : LE → R D := fun r => fs r >>= g
def callF (g : List D → R (List D)) (fs : LE → R (List D)) : LE → R (List D) := fun r => fs r >>= g
def methE (c : Nat) (g : List D → R D) (f : LE → R D) (fs : LE → R (List D)) : LE → R D := fun r => do let x ← f r; let x ← isC c x; let ds ← fs r; g (x :: ds)
def meth0E (c : Nat) (g : List D → R D) (f : LE → R D) : LE → R D := fun r => do let x ← f r; let x ← isC c x; g [x]
def fldE (fx : Nat → Option Nat) (f : LE → R D) : LE → R D := fun r => f r >>= fldD fx
def subE (f k : LE → R D) : LE → R D := fun r => do let x ← f r; let y ← k r; subI x y
def negE (f : LE → R D) : LE → R D := fun r => do let x ← f r; negD x
def bmE (T : String) (gg : D → List D → R D) (f : LE → R D) (fs : LE → R (List D)) : LE → R D := fun r => do let x ← f r; let x ← isT T x; let ds ← fs r; gg x ds
def kbmE (d : D) (gg : D → List D → R D) (fs : LE → R (List D)) : LE → R D := fun r => do let ds ← fs r; gg d ds
def toldE (l : List (Nat × List Nat)) (f : LE → R D) : LE → R D := fun r => toldD l (f r)
def lE (f : LE → R (List D)) : LE → R D := fun r => (f r) >>= fun ds => .ok (.lst ds)
def itL (f : LE → R D) : LE → R (List D) := fun r => f r >>= lstD
def itT (f : LE → R D) : LE → R (List D) := fun r => f r >>= tupD
def rng1E (fs : LE → R (List D)) : LE → R (List D) := fun r => fs r >>= rng1
def frzS (i : Nat) (F : LE → R Out) : LE → R Out := fun r => F (frz i r)
def par3S (i j l : Nat) (f g h : LE → R D) : LE → R Out := fun r => (f r).onS r fun a => (g r).onS r fun b => (h r).onS r fun c => .ok (.nx (((r.set i (.val a)).set j (.val b)).set l (.val c)))
theorem huD {k : Nat} {A : Around} (hr : Room k A) : A.units + 70 < cLine := by have := hr.un; omega
theorem huD64 {k : Nat} {A : Around} (hr : Room k A) : A.units + 64 < cLine := by have := hr.un; omega
theorem takes0D {X : Cx} : Takes X W0 := L2.takes0
end DL
set_option Elab.async false
set_option linter.all false
set_option maxRecDepth 100000
namespace DL
open PySem L2 PySem.Spec PyProof.Rows
mutual
def isD (K : PySem.W.Frag) : D → Value → Bool
  | .non, u => match u with
    | .none => true
    | _ => false
  | .bl b, u => match u with
    | .bool c => b == c
    | _ => false
  | .int i, u => match u with
    | .int j _ => i == j
    | _ => false
  | .str s, u => match u with
    | .str z _ => z == ⟨s.toArray⟩
    | _ => false
  | .tup ds, u => match u with
    | .ref a => match K.lookup a with
      | some ⟨.type T, _, .seq its _, _⟩ => T == "tuple" && decide (its.size ≤ 16777216) && isDs K ds its.toList
      | _ => false
    | _ => false
  | _, _ => false
def isDs (K : PySem.W.Frag) : List D → List Value → Bool
  | [], us => match us with
    | [] => true
    | _ => false
  | d :: ds, us => match us with
    | u :: us => isD K d u && isDs K ds us
    | [] => false
end
section
variable {G : Gm} {K : PySem.W.Frag}
mutual
theorem isD_rep (hG : G.K = K) : ∀ (d : D) (u : Value), isD K d u = true → ∃ v, RelV v u ∧ ∀ dl S, Rep G dl S d v
  | .non, u, h => by
    unfold isD at h
    split at h
    · exact ⟨.non, rfl, fun _ _ => Rep.non_⟩
    · cases h
  | .bl b, u, h => by
    unfold isD at h
    split at h
    · rw [beq_iff_eq] at h; subst h; exact ⟨.bl _, rfl, fun _ _ => Rep.bl_⟩
    · cases h
  | .int i, u, h => by
    unfold isD at h
    split at h
    · rw [beq_iff_eq] at h; subst h; exact ⟨.int _, ⟨_, rfl⟩, fun _ _ => Rep.int_⟩
    · cases h
  | .str s, u, h => by
    unfold isD at h
    split at h
    · rw [beq_iff_eq] at h; subst h; exact ⟨.str _, ⟨_, rfl⟩, fun _ _ => Rep.str_⟩
    · cases h
  | .tup ds, u, h => by
    unfold isD at h
    split at h
    · rename_i a
      split at h
      · rename_i T dd its n sl hk
        rw [Bool.and_eq_true, Bool.and_eq_true, beq_iff_eq, decide_eq_true_eq] at h
        obtain ⟨⟨rfl, hz⟩, h⟩ := h
        obtain ⟨vs, r, q⟩ := isDs_rep hG ds _ h
        refine ⟨.ref a, rfl, fun dl S => ?_⟩
        unfold Rep
        exact ⟨a, vs, rfl, .inr ⟨_, its, n, hG ▸ hk, rfl, rfl, by rw [sizeLine_eq]; exact hz, r⟩, q dl S⟩
      · cases h
    · cases h
  | .lst _, _, h => by unfold isD at h; cases h
  | .dic _, _, h => by unfold isD at h; cases h
  | .cdic _, _, h => by unfold isD at h; cases h
  | .ins _ _, _, h => by unfold isD at h; cases h
  | .dice, _, h => by unfold isD at h; cases h
  | .fn _, _, h => by unfold isD at h; cases h
theorem isDs_rep (hG : G.K = K) : ∀ (ds : List D) (us : List Value), isDs K ds us = true → ∃ vs, Vals vs us ∧ ∀ dl S, RepL G dl S ds vs
  | [], us, h => by
    unfold isDs at h
    split at h
    · exact ⟨[], .nil, fun _ _ => RepL.nil⟩
    · cases h
  | d :: ds, us, h => by
    unfold isDs at h
    split at h
    · rename_i u us
      rw [Bool.and_eq_true] at h
      obtain ⟨v, r1, q1⟩ := isD_rep hG d u h.1
      obtain ⟨vs, r2, q2⟩ := isDs_rep hG ds us h.2
      exact ⟨v :: vs, .cons r1 r2, fun dl S => RepL.cons (q1 dl S) (q2 dl S)⟩
    · cases h
end
/-- a name of the top, written data -/
structure GlD (G : Gm) (mg : Str → Option Value) (x : Str) (d : D) : Prop where
  ex : ∃ (u : Value) (v : V), mg x = some u ∧ RelV v u ∧ ∀ dl S, Rep G dl S d v
theorem glD_of {mg : Str → Option Value} {x : Str} {d : D} {u : Value} (hG : G.K = K) (hm : mg x = some u) (h : isD K d u = true) : GlD G mg x d := by
  obtain ⟨v, r, q⟩ := isD_rep hG d u h
  exact ⟨u, v, hm, r, q⟩
end
section
variable {X : Cx} {G : Gm} {W : WX}
theorem de_gl {x : Str} {pos : Pos} {d : D} (h : GlD G X.mg x d) (hg : Gl X x := by rfl) (hd : (x == ("__debug__" : Str)) = false := by decide) : DE X G W (.Name x pos) (cst d) := by
  obtain ⟨u, v, hm, rv, rp⟩ := h
  exact de_glob hm rv rp hg hd
end
end DL
set_option Elab.async false
set_option linter.all false
set_option maxRecDepth 100000
namespace DL
theorem var_eq (i : Nat) (r : LE) : var i r = match r[i]? with
  | some (.val d) => .ok d
  | _ => .stuck := rfl
@[simp] theorem cst_eq (d : D) (r : LE) : cst d r = .ok d := rfl
@[simp] theorem opE_eq (g : D → D → R D) (f k : LE → R D) (r : LE) : opE g f k r = f r >>= fun x => k r >>= fun y => g x y := rfl
@[simp] theorem cmpT_eq (g : D → D → R D) (f k : LE → R D) (r : LE) : cmpT g f k r = (f r >>= fun x => k r >>= fun y => g x y) >>= asB := rfl
@[simp] theorem valT_eq (f : LE → R D) (r : LE) : valT f r = f r >>= asB := rfl
@[simp] theorem callE_eq (g : List D → R D) (fs : LE → R (List D)) (r : LE) : callE g fs r = fs r >>= g := rfl
@[simp] theorem methE_eq (c : Nat) (g : List D → R D) (f : LE → R D) (fs : LE → R (List D)) (r : LE) : methE c g f fs r = f r >>= fun x => isC c x >>= fun x => fs r >>= fun ds => g (x :: ds) := rfl
@[simp] theorem meth0E_eq (c : Nat) (g : List D → R D) (f : LE → R D) (r : LE) : meth0E c g f r = f r >>= fun x => isC c x >>= fun x => g [x] := rfl
@[simp] theorem fldE_eq (fx : Nat → Option Nat) (f : LE → R D) (r : LE) : fldE fx f r = f r >>= fldD fx := rfl
@[simp] theorem subE_eq (f k : LE → R D) (r : LE) : subE f k r = f r >>= fun x => k r >>= fun y => subI x y := rfl
@[simp] theorem negE_eq (f : LE → R D) (r : LE) : negE f r = f r >>= negD := rfl
@[simp] theorem negD_int (i : Int) : negD (.int i) = .ok (.int (-i)) := rfl
@[simp] theorem bmE_eq (T : String) (gg : D → List D → R D) (f : LE → R D) (fs : LE → R (List D)) (r : LE) : bmE T gg f fs r = f r >>= fun x => isT T x >>= fun x => fs r >>= fun ds => gg x ds := rfl
@[simp] theorem kbmE_eq (d : D) (gg : D → List D → R D) (fs : LE → R (List D)) (r : LE) : kbmE d gg fs r = fs r >>= fun ds => gg d ds := rfl
@[simp] theorem toldE_eq (l : List (Nat × List Nat)) (f : LE → R D) (r : LE) : toldE l f r = toldD l (f r) := rfl
@[simp] theorem lE_eq (f : LE → R (List D)) (r : LE) : lE f r = f r >>= fun ds => .ok (.lst ds) := rfl
@[simp] theorem itL_eq (f : LE → R D) (r : LE) : itL f r = f r >>= lstD := rfl
@[simp] theorem itT_eq (f : LE → R D) (r : LE) : itT f r = f r >>= tupD := rfl
@[simp] theorem lstD_eq (ds : List D) : lstD (.lst ds) = .ok ds := rfl
@[simp] theorem tupD_eq (ds : List D) : tupD (.tup ds) = .ok ds := rfl
@[simp] theorem rng1E_eq (fs : LE → R (List D)) (r : LE) : rng1E fs r = fs r >>= rng1 := rfl
@[simp] theorem frzS_eq (i : Nat) (F : LE → R Out) (r : LE) : frzS i F r = F (frz i r) := rfl
@[simp] theorem anil_eq (r : LE) : anil r = .ok [] := rfl
@[simp] theorem acons_eq (f : LE → R D) (fs : LE → R (List D)) (r : LE) : acons f fs r = f r >>= fun x => fs r >>= fun xs => .ok (x :: xs) := rfl
@[simp] theorem tupE_eq (fs : LE → R (List D)) (r : LE) : tupE fs r = fs r >>= fun ds => if ds.length ≤ 16777216 then .ok (.tup ds) else .stuck := rfl
@[simp] theorem lstE_eq (fs : LE → R (List D)) (r : LE) : lstE fs r = fs r >>= fun ds => if ds.length ≤ 16777216 then .ok ds else .stuck := rfl
@[simp] theorem iteE_eq (c : LE → R Bool) (f g : LE → R D) (r : LE) : iteE c f g r = c r >>= fun b => if b = true then f r else g r := rfl
@[simp] theorem andT_eq (f g : LE → R Bool) (r : LE) : andT f g r = f r >>= fun b => if b = true then g r else .ok false := rfl
@[simp] theorem orT_eq (f g : LE → R Bool) (r : LE) : orT f g r = f r >>= fun b => if b = true then .ok true else g r := rfl
@[simp] theorem notT_eq (f : LE → R Bool) (r : LE) : notT f r = f r >>= fun b => .ok (!b) := rfl
@[simp] theorem asB_bl (b : Bool) : asB (.bl b) = .ok b := rfl
def andK (x : D) (k : R D) : R D := match x with
  | .bl true => k
  | .bl false => .ok (.bl false)
  | _ => .stuck
def orK (x : D) (k : R D) : R D := match x with
  | .bl true => .ok (.bl true)
  | .bl false => k
  | _ => .stuck
@[simp] theorem andK_bl (b : Bool) (k : R D) : andK (.bl b) k = if b = true then k else .ok (.bl false) := by cases b <;> rfl
@[simp] theorem orK_bl (b : Bool) (k : R D) : orK (.bl b) k = if b = true then .ok (.bl true) else k := by cases b <;> rfl
@[simp] theorem andV_eq (f g : LE → R D) (r : LE) : andV f g r = f r >>= fun x => andK x (g r) := by
  unfold andV
  congr 1
@[simp] theorem orV_eq (f g : LE → R D) (r : LE) : orV f g r = f r >>= fun x => orK x (g r) := by
  unfold orV
  congr 1
@[simp] theorem notV_bl (f : LE → R D) (r : LE) (b : Bool) (h : f r = .ok (.bl b)) : notV f r = .ok (.bl (!b)) := by
  unfold notV
  rw [h]
  rfl
@[simp] theorem seqS_eq (F K : LE → R Out) (r : LE) : seqS F K r = F r >>= fun o => match o with
  | .nx r' => K r'
  | o => .ok o := rfl
@[simp] theorem skipS_eq (r : LE) : skipS r = .ok (.nx r) := rfl
@[simp] theorem retS_eq (f : LE → R D) (r : LE) : retS f r = (f r).onS r fun d => .ok (.rt d) := rfl
@[simp] theorem ifS_eq (c : LE → R Bool) (F K : LE → R Out) (r : LE) : ifS c F K r = (c r).onS r fun b => if b = true then F r else K r := by
  unfold ifS
  congr 1
@[simp] theorem valK_eq (f : LE → R D) (r : LE) : valK f r = f r >>= fun d => .ok (.val d) := rfl
@[simp] theorem ownK_eq (f : LE → R (List D)) (r : LE) : ownK f r = f r >>= fun d => .ok (.own (.lst d)) := rfl
@[simp] theorem okK_val (d : D) : okK (.val d) = .ok (.val d) := rfl
@[simp] theorem okK_own (d : D) : okK (.own d) = .ok (.own d) := rfl
@[simp] theorem setK_eq (i : Nat) (f : LE → R Cell) (r : LE) : setK i f r = (f r >>= okK).onS r fun c => .ok (.nx (r.set i c)) := rfl
@[simp] theorem parK_eq (i j : Nat) (f g : LE → R Cell) (r : LE) : parK i j f g r = (f r >>= okK).onS r fun c => (g r >>= okK).onS r fun c' => .ok (.nx ((r.set i c).set j c')) := rfl
@[simp] theorem par3S_eq (i j l : Nat) (f g h : LE → R D) (r : LE) : par3S i j l f g h r = (f r).onS r fun a => (g r).onS r fun b => (h r).onS r fun c => .ok (.nx (((r.set i (.val a)).set j (.val b)).set l (.val c))) := rfl
@[simp] theorem errS_eq (e : Exc) (r : LE) : errS e r = .ok (.ex e r) := rfl
@[simp] theorem forS_eq (fi : LE → R (List D)) (gd : D → LE → Option LE) (body : LE → R Out) (r : LE) : forS fi gd body r = (fi r).onS r fun ds => loopS gd body ds r := rfl
@[simp] theorem ite_onS {α : Type} (c : Prop) [Decidable c] (a b : R α) (r : LE) (k : α → R Out) : (if c then a else b).onS r k = if c then a.onS r k else b.onS r k := by split <;> rfl
@[simp] theorem ite_bind {α β : Type} (c : Prop) [Decidable c] (a b : R α) (k : α → R β) : (if c then a else b) >>= k = if c then a >>= k else b >>= k := by split <;> rfl
@[simp] theorem ite_calm {α : Type} (c : Prop) [Decidable c] (a b : R α) : (if c then a else b).calm = if c then a.calm else b.calm := by split <;> rfl
@[simp] theorem calm_err {α : Type} (e : Exc) : (R.err e : R α).calm = .stuck := rfl
@[simp] theorem calm_stuck {α : Type} : (R.stuck : R α).calm = .stuck := rfl
/-- what a body's end is to the caller -/
def fin : Out → R D
  | .nx _ => .ok .non
  | .rt d => .ok d
  | .ex e _ => .err e
  | _ => .stuck
@[simp] theorem fin_nx (r : LE) : fin (.nx r) = .ok .non := rfl
@[simp] theorem fin_rt (d : D) : fin (.rt d) = .ok d := rfl
@[simp] theorem fin_ex (e : Exc) (r : LE) : fin (.ex e r) = .err e := rfl
@[simp] theorem isC_eq (c : Nat) (fs : List D) : isC c (.ins c fs) = .ok (.ins c fs) := by simp [isC]
@[simp] theorem addD_int (i j : Int) : addD (.int i) (.int j) = .ok (.int (i + j)) := rfl
@[simp] theorem subD_int (i j : Int) : subD (.int i) (.int j) = .ok (.int (i - j)) := rfl
@[simp] theorem ltD_int (i j : Int) : ltD (.int i) (.int j) = .ok (.bl (decide (i < j))) := rfl
@[simp] theorem leD_int (i j : Int) : leD (.int i) (.int j) = .ok (.bl (decide (i ≤ j))) := rfl
@[simp] theorem gtD_int (i j : Int) : gtD (.int i) (.int j) = .ok (.bl (decide (j < i))) := rfl
@[simp] theorem geD_int (i j : Int) : geD (.int i) (.int j) = .ok (.bl (decide (j ≤ i))) := rfl
@[simp] theorem eqD_int (i j : Int) : eqD (.int i) (.int j) = .ok (.bl (i == j)) := by simp [eqD, D.sc, D.eqb]
@[simp] theorem neD_int (i j : Int) : neD (.int i) (.int j) = .ok (.bl (!(i == j))) := by simp [neD, D.sc, D.eqb]
@[simp] theorem eqD_bl (i j : Bool) : eqD (.bl i) (.bl j) = .ok (.bl (i == j)) := by simp [eqD, D.sc, D.eqb]
@[simp] theorem neD_bl (i j : Bool) : neD (.bl i) (.bl j) = .ok (.bl (!(i == j))) := by simp [neD, D.sc, D.eqb]
@[simp] theorem eqD_str (i j : List Nat) : eqD (.str i) (.str j) = .ok (.bl (i == j)) := by simp [eqD, D.sc, D.eqb]
@[simp] theorem neD_str (i j : List Nat) : neD (.str i) (.str j) = .ok (.bl (!(i == j))) := by simp [neD, D.sc, D.eqb]
@[simp] theorem eqD_tup2 (a b c d : Int) : eqD (.tup [.int a, .int b]) (.tup [.int c, .int d]) = .ok (.bl (a == c && b == d)) := by simp [eqD, D.sc, D.sh, D.shs, D.eqb, D.eqbs]
@[simp] theorem neD_tup2 (a b c d : Int) : neD (.tup [.int a, .int b]) (.tup [.int c, .int d]) = .ok (.bl (!(a == c && b == d))) := by simp [neD, D.sc, D.sh, D.shs, D.eqb, D.eqbs]
/-- a text that may be laid -/
def okS (s : List Nat) : Bool := s.all (· < 0x110000)
@[simp] theorem compF_eq (fi : LE → R (List D)) (gd : D → LE → Option LE) (tt : LE → R Bool) (te : LE → R D) (vs : List Nat) (r : LE) : compF fi gd tt te vs r = fi r >>= fun ds => if ds.length ≤ 16777216 then loopC gd tt te (wipeL r vs) ds else .stuck := rfl
@[simp] theorem yesT_eq (r : LE) : yesT r = .ok true := rfl
@[simp] theorem loopC_nil (gd : D → LE → Option LE) (tt : LE → R Bool) (te : LE → R D) (r : LE) : loopC gd tt te r [] = .ok [] := rfl
theorem loopC_cons (gd : D → LE → Option LE) (tt : LE → R Bool) (te : LE → R D) (r : LE) (d : D) (ds : List D) : loopC gd tt te r (d :: ds) = match gd d r with
    | none => .stuck
    | some r' => (tt r').calm >>= fun b => if b = true then (te r').calm >>= fun y => loopC gd tt te r ds >>= fun ys => .ok (y :: ys) else loopC gd tt te r ds := by
  rw [loopC.eq_2]
  try (cases gd d r <;> rfl)
@[simp] theorem gN_eq (i : Nat) (d : D) (r : LE) : gN i d r = some (r.set i (.val d)) := rfl
@[simp] theorem subl2_0 (a b : D) : subI (.lst [a, b]) (.int 0) = .ok a := rfl
@[simp] theorem subl2_1 (a b : D) : subI (.lst [a, b]) (.int 1) = .ok b := rfl
@[simp] theorem sub2_0 (a b : D) : subI (.tup [a, b]) (.int 0) = .ok a := rfl
@[simp] theorem sub2_1 (a b : D) : subI (.tup [a, b]) (.int 1) = .ok b := rfl
@[simp] theorem Wp_ok {α : Type} (a : α) (Q : α → Prop) (E : Exc → Prop) : Wp (.ok a) Q E = Q a := rfl
@[simp] theorem Wp_err {α : Type} (e : Exc) (Q : α → Prop) (E : Exc → Prop) : Wp (.err e : R α) Q E = E e := rfl
@[simp] theorem Wp_stuck {α : Type} (Q : α → Prop) (E : Exc → Prop) : Wp (.stuck : R α) Q E = False := rfl
@[simp] theorem Wp_roll {α : Type} (m : Nat) (k : Nat → R α) (Q : α → Prop) (E : Exc → Prop) : Wp (.roll m k) Q E = ∀ i, i < m → Wp (k i) Q E := rfl
end DL
set_option Elab.async false
set_option linter.all false
set_option maxRecDepth 100000
namespace DL
open PySem L2 PySem.Spec PyProof.Rows
def whileS : Nat → (LE → R Bool) → (LE → R Out) → LE → R Out
  | 0, _, _, _ => .stuck
  | n + 1, c, F, r => (c r).onS r fun b => if b then (do
      match ← F r with
      | .nx r2 => whileS n c F r2
      | .ct r2 => whileS n c F r2
      | .bk r2 => .ok (.nx r2)
      | .rt d => .ok (.rt d)
      | .ex e r2 => .ok (.ex e r2)) else .ok (.nx r)
section
variable {X : Cx} {G : Gm} {W : WX} {c : Expr} {h : LE → R Bool} {F : LE → R Out} {body : List Stmt} {pos : Pos}
theorem ds_while (n : Nat) (hp : PassesOwn (model X.prog X.w) X.A X.env X.xe) (hc : DT X G W c h) (hb : DSs X G W body F) : DS X G W (.While c body [] pos) (whileS n h F) := PS_imp (ps_while hp hc hb) fun De sg H ⟨dl, Z, O, r, A, q⟩ => by
  refine ⟨fun m sg' H' => ∃ Z' O' r', At G dl Z' O' r' sg' H' ∧ Stp dl Z O H Z' O' H' ∧ Wp (whileS m h F r') (SPost G W De dl Z O H) (fun _ => False), ⟨n, Z, O, r, A, Stp.refl, q⟩, ?_⟩
  rintro m sg' H' ⟨Z', O', r', A', s', hw⟩
  cases m with
  | zero => exact hw.elim
  | succ m =>
    unfold whileS at hw
    refine ⟨dl, Z', O', r', A', (onS_wp hw).mono (fun b hb H1 g1 k1 => ?_) fun e he => spost_ex A' (SPost.trans A s' he)⟩
    have A1 := A'.grow g1 k1
    have s1 : Stp dl Z O H Z' O' H1 := Stp.trans A s' (Stp.of_grow g1 k1)
    cases b with
    | false =>
      show if false = true then _ else De.nx sg' H1
      rw [if_neg (by decide)]
      exact hb Z' O' sg' H1 s1 A1
    | true =>
      show if true = true then _ else De.nx sg' H1
      rw [if_pos rfl]
      refine ⟨fun sg2 H2 => ∃ Z' O' r', At G dl Z' O' r' sg2 H2 ∧ Stp dl Z O H Z' O' H2 ∧ Wp (whileS m h F r') (SPost G W De dl Z O H) (fun _ => False), fun sg2 H2 h2 => ⟨m, Nat.lt_succ_self m, h2⟩, ?_⟩
      rw [if_pos rfl] at hb
      refine ⟨dl, Z', O', r', A1, hb.bind.thn fun o ho => ?_⟩
      cases o with
      | nx r3 => exact fun Z4 O4 sg4 H4 s4 A4 => ⟨Z4, O4, r3, A4, Stp.trans A s1 s4, ho⟩
      | ct r3 => exact fun Z4 O4 sg4 H4 s4 A4 => ⟨Z4, O4, r3, A4, Stp.trans A s1 s4, ho⟩
      | bk r3 => exact fun Z4 O4 sg4 H4 s4 A4 => ho Z4 O4 sg4 H4 (Stp.trans A s1 s4) A4
      | rt d => exact SPost.trans A s1 ho
      | ex e r3 => exact SPost.trans A s1 ho
end
def tryS (ks : List Nat) (F : LE → R Out) (l : List (Nat × (LE → R Out))) : LE → R Out := fun r => do
  match ← F r with
  | .ex e r' => if ks.contains e.cls then (match l.lookup e.cls with
    | some K => K r'
    | none => .ok (.ex e r')) else .stuck
  | o => .ok o
section
variable {X : Cx} {G : Gm} {W : WX} {F : LE → R Out} {body : List Stmt} {h₀ : ExceptHandler} {hds : List ExceptHandler} {pos : Pos}
def hdD (G : Gm) (W : WX) (l : List (Nat × (LE → R Out))) : List (Value × (Addr → Value → Option Addr → TS)) := l.map fun p => (.ref (G.xcls p.1), fun _ _ _ => tS G W p.2)
theorem wMany_of {De : Ends} {dl : Addr} {Z' : List Addr} {O' : List (Nat × Addr)} {H' : Hp} {r' : LE} {sg' : L2.St} {e : Exc} {dx : Option Addr} (ks : List Nat) (hx : ExmOk X.K G ks) (hi : e.cls ∈ ks) (A : At G dl Z' O' r' sg' H') : ∀ {l : List (Nat × (LE → R Out))}, (∀ j ∈ l.map (·.1), j ∈ ks) →
    Wp (match l.lookup e.cls with
      | some K => K r'
      | none => .ok (.ex e r')) (SPost G W De dl Z' O' H') (fun _ => False) → (l.lookup e.cls = none → W (.ref (G.xcls e.cls)) dx sg' H') → wMany X.K W De (hdD G W l) (.ref (G.xcls e.cls)) dx sg' H'
  | [], _, q, h0 => h0 rfl
  | (j, K) :: l, hl, q, h0 => by
    refine ⟨e.cls == j, hx _ hi j (hl j (by simp)), fun hb a ha => ?_, fun hb => ?_⟩
    · rw [List.lookup_cons, hb] at q
      exact ⟨dl, Z', O', r', A, q⟩
    · rw [List.lookup_cons, hb] at q
      rw [List.lookup_cons, hb] at h0
      exact wMany_of ks hx hi A (fun j hj => hl j (List.mem_cons_of_mem _ hj)) q h0
theorem ds_try (ks : List Nat) {l : List (Nat × (LE → R Out))} (hx : ExmOk X.K G ks) (hl : ∀ j ∈ l.map (·.1), j ∈ ks) (hs : X.stack = X.env :: X.outer) (hf : X.env.frame = some X.env.locals) (tk : Takes X W)
    (hb : ∀ (W' : WX) (pn : List (Addr × Obj)) (xe : Value → Shared → Prop), Takes (X.tr pn xe) W' → PassesOwn (model X.prog X.w) X.A X.env xe → DSs (X.tr pn xe) G W' body F)
    (hh : HdsOk X (h₀ :: hds) (hdD G W l)) : DS X G W (.Try body (h₀ :: hds) [] [] pos) (tryS ks F l) := PS_imp (ps_try_many hs hf tk (tb := fun W' => tS G W' F) hb hh) fun De sg H ⟨dl, Z, O, r, A, q⟩ => by
  refine ⟨dl, Z, O, r, A, q.bind.thn fun o ho => ?_⟩
  cases o with
  | nx r' => exact ho
  | bk r' => exact ho
  | ct r' => exact ho
  | rt d => exact ho
  | ex e r' =>
    intro Z' O' sg' H' cls dx s' A' xr
    have ho2 : Wp (if ks.contains e.cls then (match l.lookup e.cls with
      | some K => K r'
      | none => .ok (.ex e r')) else .stuck) (SPost G W De dl Z O H) (fun _ => False) := ho
    split at ho2
    case isFalse => exact ho2.elim
    rename_i hk
    obtain ⟨rfl, xr2⟩ := id xr
    refine wMany_of ks hx (by simpa using hk) A' hl (ho2.thn fun o z => SPost.trans A s' z) fun hn => ?_
    rw [hn] at ho2
    exact ho2 Z' O' sg' H' _ dx s' A' xr
theorem hds_nil : HdsOk X [] (hdD G W []) := .nil
theorem hds_cons {i : Nat} {C : Addr} {x : Str} {b₀ : Stmt} {suite : List Stmt} {np pos' : Pos} {l : List (Nat × (LE → R Out))} {K : LE → R Out} (hC : G.xcls i = C) (hm : X.mg x = some (.ref C)) (hsu : ∀ (a : Addr) (pn : List (Addr × Obj)), DSs (X.suite a pn) G W (b₀ :: suite) K) (r : HdsOk X hds (hdD G W l))
    (hg : Gl X x := by rfl) (hdb : (x == ("__debug__" : Str)) = false := by decide) : HdsOk X (.ExceptHandler (some (.Name x np)) none (b₀ :: suite) pos' :: hds) (hdD G W ((i, K) :: l)) := by
  subst hC
  exact .cons ⟨hg, hdb, .inl hm⟩ (fun a oe cls d pn _ _ => hsu a _) r
end
def stodS (i : Nat) (f k : LE → R D) : LE → R Out := fun r => match r[i]? with
  | some (.own (.dic kvs)) => (f r).onS r fun d => (k r).onS r fun y => if y.key1 = true ∧ kvs.length < 16777216 then .ok (.nx (r.set i (.own (.dic (putD kvs y d))))) else .stuck
  | _ => .stuck
def nodic : LE → R Cell := fun _ => .ok (.own (.dic []))
section
variable {X : Cx} {G : Gm} {W : WX} {ex ek : Expr} {f k : LE → R D} {pos apos p p1 p2 : Pos} {x m : Str}
theorem dk_nodic : DK X G W (.Dict [] [] pos) nodic := PE_imp pe_dnewK fun sg H Q ⟨dl, Z, O, r, A, q⟩ p hp =>
  q p (.dK []) H (.refl _ _) A.gl hp ⟨[], rfl, by unfold RepK; rfl⟩ fun i hi => ⟨rfl, hi⟩
theorem ds_stored (i : Nat) (hu : X.A.units + 1 < cLine) (ha : DE X G W ex f) (hk : DE X G W ek k) (hN : X.N[i]? = some x := by rfl) (hv : Vis X.env.scope x := by first | exact Or.inl rfl | exact Or.inr (Or.inl rfl) | exact Or.inr (Or.inr rfl)) (hd : (x == ("__debug__" : Str)) = false := by decide)
    (hcd : (x == ("__classdict__" : Str)) = false := by decide) (hs : swapsWith ex (some (.Subscript (.Name x p1) ek p2)) pos.line X.env = pure false := by rfl) :
    DS X G W (.Assign [.Subscript (.Name x p1) ek p2] ex pos) (stodS i f k) := by
  refine PS_imp (ps_dput hu (pe_var hN hv hd hcd) hk ha hs) fun De sg H ⟨dl, Z, O, r, A, q⟩ => ?_
  unfold stodS at q
  split at q
  case h_2 => exact q.elim
  rename_i kvs hr
  obtain ⟨a, ha', hs', ⟨kv, e, rk⟩, ko⟩ := A.slot i _ hr
  obtain ⟨haz, had⟩ := A.own _ ha'
  refine ⟨dl, Z, O, r, A, (onS_wp q).mono (fun d hd' v H1 g1 k1 rp => ?_) fun e he => spost_ex A he⟩
  have A1 := A.grow g1 k1
  refine ⟨.ref a, hs', dl, Z, O, r, A1, (onS_wp hd').mono (fun y hy u H2 g2 k2 ru => ?_) fun e he => epost g1 (spost_ex A he)⟩
  have A2 := A1.grow g2 k2
  have e2 : H2 a = some (.dK kv) := g2 a _ (g1 a _ e had (fun ps z => by cases z)) had (fun ps z => by cases z)
  split at hy
  case isFalse => exact hy.elim
  rename_i hc
  obtain ⟨kx, hkx⟩ := key1_key hc.1
  have eu := key_kV hkx (.of ru)
  subst eu
  refine ⟨a, _, rfl, DPut.k e2 (by rw [sizeLine_eq, rk.length]; exact hc.2), ?_⟩
  refine hy Z O sg _ (Stp.trans A (Stp.of_grow (g1.trans g2) k2) (Stp.write ha' fun ps z => by cases z)) (A2.write hr ha' hs' ⟨_, rfl, RepK.put (rk.mono ((g1.trans g2).cut A.dz)) hkx (rp.mono (g2.cut A.dz))⟩ rfl ko)
end
end DL
set_option Elab.async false
set_option linter.all false
set_option maxRecDepth 100000
namespace DL
open PySem L2 PySem.Spec PyProof.Rows
end DL
set_option Elab.async false
set_option linter.all false
set_option maxRecDepth 100000
namespace DL
open PySem L2 PySem.Spec PyProof.Rows
section
variable {α : Type}
def insT (lt : α → α → Bool) (x : α) : List α → List α
  | [] => [x]
  | y :: l => if lt y x = true then y :: insT lt x l else x :: y :: l
def isort (lt : α → α → Bool) (l : List α) : List α := l.foldr (insT lt) []
structure Ord (lt : α → α → Bool) : Prop where
  tr : ∀ a b c, lt b a = false → lt c b = false → lt c a = false
  an : ∀ a b, lt a b = false → lt b a = false → a = b
  as : ∀ a b, lt a b = true → lt b a = false
abbrev Up (lt : α → α → Bool) (l : List α) : Prop := l.Pairwise fun a b => lt b a = false
variable {lt : α → α → Bool}
theorem insT_perm (x : α) : ∀ l : List α, (insT lt x l).Perm (x :: l)
  | [] => .refl _
  | y :: l => by
    unfold insT
    split
    · exact ((insT_perm x l).cons y).trans (.swap x y l)
    · exact .refl _
theorem isort_perm : ∀ l : List α, (isort lt l).Perm l
  | [] => .refl _
  | x :: l => (insT_perm x _).trans ((isort_perm l).cons x)
theorem insT_up (o : Ord lt) (x : α) : ∀ l : List α, Up lt l → Up lt (insT lt x l)
  | [], _ => List.pairwise_singleton ..
  | y :: l, h => by
    obtain ⟨h1, h2⟩ := List.pairwise_cons.mp h
    unfold insT
    split
    · rename_i c
      refine List.pairwise_cons.mpr ⟨fun z hz => ?_, insT_up o x l h2⟩
      rcases List.mem_cons.mp ((insT_perm x l).mem_iff.mp hz) with rfl | hz
      · exact o.as _ _ c
      · exact h1 z hz
    · rename_i c
      have c : lt y x = false := by simpa using c
      refine List.pairwise_cons.mpr ⟨fun z hz => ?_, h⟩
      rcases List.mem_cons.mp hz with rfl | hz
      · exact c
      · exact o.tr _ _ _ c (h1 z hz)
theorem isort_up (o : Ord lt) : ∀ l : List α, Up lt (isort lt l)
  | [] => .nil
  | x :: l => insT_up o x _ (isort_up o l)
theorem up_uniq (o : Ord lt) : ∀ l m : List α, Up lt l → Up lt m → l.Perm m → l = m
  | [], m, _, _, p => (List.nil_perm.mp p).symm
  | x :: l, [], _, _, p => (List.perm_nil.mp p)
  | x :: l, y :: m, h, k, p => by
    obtain ⟨h1, h2⟩ := List.pairwise_cons.mp h
    obtain ⟨k1, k2⟩ := List.pairwise_cons.mp k
    have e : x = y := by
      rcases List.mem_cons.mp (p.mem_iff.mp List.mem_cons_self) with e | hx
      · exact e
      rcases List.mem_cons.mp (p.mem_iff.mpr (List.mem_cons_self (a := y))) with e | hy
      · exact e.symm
      exact o.an _ _ (k1 x hx) (h1 y hy)
    subst e
    rw [up_uniq o l m h2 k2 ((List.perm_cons x).mp p)]
theorem isort_eq (o : Ord lt) {l m : List α} (h : Up lt m) (p : m.Perm l) : m = isort lt l := up_uniq o _ _ h (isort_up o l) (p.trans (isort_perm l).symm)
end
theorem ltCps_tr : ∀ a b c : List Nat, ltCps b a = false → ltCps c b = false → ltCps c a = false
  | [], [], c, _, h => h
  | [], _ :: _, [], _, _ => rfl
  | [], x :: b, y :: c, _, _ => rfl
  | x :: a, [], c, h, _ => by simp [ltCps] at h
  | x :: a, y :: b, [], h, k => by simp [ltCps] at k
  | x :: a, y :: b, z :: c, h, k => by
    simp only [ltCps, Bool.or_eq_false_iff, Bool.and_eq_false_iff, decide_eq_false_iff_not, beq_eq_false_iff_ne] at *
    obtain ⟨h1, h2⟩ := h
    obtain ⟨k1, k2⟩ := k
    refine ⟨by omega, ?_⟩
    by_cases e : z = x
    · subst e
      have e2 : y = z := by omega
      subst e2
      exact .inr (ltCps_tr a b c (h2.resolve_left fun q => q rfl) (k2.resolve_left fun q => q rfl))
    · exact .inl e
theorem ltCps_an : ∀ a b : List Nat, ltCps a b = false → ltCps b a = false → a = b
  | [], [], _, _ => rfl
  | [], y :: b, h, _ => by simp [ltCps] at h
  | x :: a, [], _, h => by simp [ltCps] at h
  | x :: a, y :: b, h, k => by
    simp only [ltCps, Bool.or_eq_false_iff, Bool.and_eq_false_iff, decide_eq_false_iff_not, beq_eq_false_iff_ne] at *
    have e : x = y := by omega
    subst e
    rw [ltCps_an a b (h.2.resolve_left fun q => q rfl) (k.2.resolve_left fun q => q rfl)]
theorem ltCps_as : ∀ a b : List Nat, ltCps a b = true → ltCps b a = false
  | [], [], h => by simp [ltCps] at h
  | [], y :: b, _ => rfl
  | x :: a, [], h => by simp [ltCps] at h
  | x :: a, y :: b, h => by
    simp only [ltCps, Bool.or_eq_true, Bool.and_eq_true, decide_eq_true_eq, beq_iff_eq, Bool.or_eq_false_iff, Bool.and_eq_false_iff, decide_eq_false_iff_not, beq_eq_false_iff_ne] at *
    rcases h with h | ⟨rfl, h⟩
    · exact ⟨by omega, .inl (by omega)⟩
    · exact ⟨by omega, .inr (ltCps_as a b h)⟩
theorem ord_str : Ord ltCps := ⟨ltCps_tr, ltCps_an, ltCps_as⟩
def ltI (i j : Int) : Bool := decide (i < j)
theorem ord_int : Ord ltI := ⟨fun a b c h k => by simp [ltI] at *; omega, fun a b h k => by simp [ltI] at *; omega, fun a b h => by simp [ltI] at *; omega⟩
theorem rising_up : ∀ (p : Str) (l : List Str), risingS p l = true → Up ltCps ((p :: l).map fun x => x.cps.toList)
  | p, [], _ => List.pairwise_singleton ..
  | p, x :: r, h => by
    simp only [risingS, Bool.and_eq_true, Bool.not_eq_true'] at h
    have ih := rising_up x r h.2
    rw [List.map_cons]
    refine List.pairwise_cons.mpr ⟨fun z hz => ?_, ih⟩
    rw [List.map_cons] at ih hz
    rcases List.mem_cons.mp hz with rfl | hz
    · exact h.1
    · exact ltCps_tr _ _ _ h.1 ((List.pairwise_cons.mp ih).1 z hz)
theorem sortedS_up : ∀ (l : List Str), sortedS l = true → Up ltCps (l.map fun x => x.cps.toList)
  | [], _ => .nil
  | x :: r, h => rising_up x r h
theorem sortedS_eq {ys : List Str} {zs : List (List Nat)} (h : sortedS ys = true) (p : ys.Perm (zs.map fun z => (⟨z.toArray⟩ : Str))) : ys = (isort ltCps zs).map fun z => ⟨z.toArray⟩ := by
  have q := p.map fun x : Str => x.cps.toList
  rw [List.map_map] at q
  have e0 : (fun x : Str => x.cps.toList) ∘ (fun z : List Nat => (⟨z.toArray⟩ : Str)) = id := by funext z; simp
  rw [e0, List.map_id] at q
  rw [← isort_eq ord_str (sortedS_up ys h) q, List.map_map]
  conv => lhs; rw [← List.map_id ys]
  apply List.map_congr_left
  intro x _
  simp
def txts? : List D → Option (List (List Nat))
  | [] => some []
  | .str s :: r => (txts? r).map (s :: ·)
  | _ => none
def ints? : List D → Option (List Int)
  | [] => some []
  | .int s :: r => (ints? r).map (s :: ·)
  | _ => none
theorem txts_eq : ∀ {xs : List D} {ss : List (List Nat)}, txts? xs = some ss → xs = ss.map D.str
  | [], ss, h => by cases h; rfl
  | x :: r, ss, h => by
    cases x <;> first | (simp [txts?] at h; done) | skip
    rename_i s
    cases e : txts? r with
    | none => simp [txts?, e] at h
    | some t =>
      simp [txts?, e] at h
      subst h
      rw [txts_eq e]; rfl
theorem ints_eq : ∀ {xs : List D} {ss : List Int}, ints? xs = some ss → xs = ss.map D.int
  | [], ss, h => by cases h; rfl
  | x :: r, ss, h => by
    cases x <;> first | (simp [ints?] at h; done) | skip
    rename_i s
    cases e : ints? r with
    | none => simp [ints?, e] at h
    | some t =>
      simp [ints?, e] at h
      subst h
      rw [ints_eq e]; rfl
def sortDs (xs : List D) : R (List D) := if xs.length < 64 then (match txts? xs with
  | some ss => .ok ((isort ltCps ss).map D.str)
  | none => match ints? xs with
    | some is => .ok ((isort ltI is).map D.int)
    | none => .stuck) else .stuck
def sortedL : List D → R (List D)
  | [.lst xs] => sortDs xs
  | [.dic kvs] => sortDs (kvs.map (·.1))
  | _ => .stuck
section
variable {X : Cx} {G : Gm} {W : WX} {dl : Addr} {S : Hp}
theorem RepL.of_strs : ∀ (ss : List (List Nat)), RepL G dl S (ss.map D.str) ((ss.map fun z => (⟨z.toArray⟩ : Str)).map V.str)
  | [] => RepL.nil
  | s :: r => RepL.cons Rep.str_ (RepL.of_strs r)
theorem RepL.of_ints : ∀ (ss : List Int), RepL G dl S (ss.map D.int) (ss.map V.int)
  | [] => RepL.nil
  | s :: r => RepL.cons Rep.int_ (RepL.of_ints r)
theorem RepL.are_strs : ∀ {ss : List (List Nat)} {vs : List V}, RepL G dl S (ss.map D.str) vs → vs = (ss.map fun z => (⟨z.toArray⟩ : Str)).map V.str
  | [], vs, h => by unfold RepL at h; exact h
  | s :: r, vs, h => by
    rw [List.map_cons] at h
    unfold RepL at h
    obtain ⟨v, t, rfl, h1, h2⟩ := h
    unfold Rep at h1
    rw [h1, RepL.are_strs h2]; rfl
theorem RepL.are_ints : ∀ {ss : List Int} {vs : List V}, RepL G dl S (ss.map D.int) vs → vs = ss.map V.int
  | [], vs, h => by unfold RepL at h; exact h
  | s :: r, vs, h => by
    rw [List.map_cons] at h
    unfold RepL at h
    obtain ⟨v, t, rfl, h1, h2⟩ := h
    unfold Rep at h1
    rw [h1, RepL.are_ints h2]; rfl
theorem RepK.keys_str : ∀ {kvs : List (D × D)} {kv : List (Key × V)} {ss : List (List Nat)}, RepK G dl S kvs kv → kvs.map (·.1) = ss.map D.str → kv.map (·.1) = (ss.map fun z => (⟨z.toArray⟩ : Str)).map Sum.inr
  | [], kv, ss, h, e => by
    unfold RepK at h
    subst h
    cases ss with
    | nil => rfl
    | cons s t => cases e
  | (k, d) :: r, kv, ss, h, e => by
    unfold RepK at h
    obtain ⟨x, v, t, rfl, hk, _, h2⟩ := h
    cases ss with
    | nil => cases e
    | cons s ss =>
      have e := List.cons.inj e
      obtain ⟨e1, e2⟩ := e
      change k = .str s at e1
      subst e1
      cases hk
      rw [List.map_cons, RepK.keys_str h2 e2]; rfl
theorem RepK.keys_int : ∀ {kvs : List (D × D)} {kv : List (Key × V)} {ss : List Int}, RepK G dl S kvs kv → kvs.map (·.1) = ss.map D.int → kv.map (·.1) = ss.map Sum.inl
  | [], kv, ss, h, e => by
    unfold RepK at h
    subst h
    cases ss with
    | nil => rfl
    | cons s t => cases e
  | (k, d) :: r, kv, ss, h, e => by
    unfold RepK at h
    obtain ⟨x, v, t, rfl, hk, _, h2⟩ := h
    cases ss with
    | nil => cases e
    | cons s ss =>
      have e := List.cons.inj e
      obtain ⟨e1, e2⟩ := e
      change k = .int s at e1
      subst e1
      cases hk
      rw [List.map_cons, RepK.keys_int h2 e2]; rfl
theorem CallR.or_ {f : Value} {r1 r2 : List V → Hp → VK → Prop} (h1 : CallR X f r1) (h2 : CallR X f r2) : CallR X f (fun vs H Q => r1 vs H Q ∨ r2 vs H Q) := fun pins s sg H vs us Q I r q => q.elim (h1 pins s sg H vs us Q I r) (h2 pins s sg H vs us Q I r)
theorem cf_sorted (hG : G.K = X.K) (hc : X.calm = true) : CallF X G (.builtin "sorted") sortedL := by
  refine ⟨_, CallR.or_ (CallR.or_ cr_sortedS cr_sorted) (CallR.or_ (call_sortedD hc) (call_sortedDI hc)), fun dl Z O r sg ds vs H Q E A rl h => ?_⟩
  unfold sortedL at h
  split at h
  · obtain ⟨v, rfl, rp⟩ := rl.one
    obtain ⟨a, us, rfl, e, rl'⟩ := rp.lst
    unfold sortDs at h
    split at h
    case isFalse => exact h.elim
    rename_i xs hlen
    split at h
    · rename_i ss hss
      have := txts_eq hss
      subst this
      have := rl'.are_strs
      subst this
      refine .inl (.inl ⟨a, ss.map fun z => ⟨z.toArray⟩, rfl, SqL.of e, by simpa using hlen, fun ys p hp hs hf => ?_⟩)
      rw [sortedS_eq hs hp]
      exact h p _ H (.refl _ _) A.gl hf (RepL.of_strs _)
    · split at h
      · rename_i is his
        have := ints_eq his
        subst this
        have := rl'.are_ints
        subst this
        refine .inl (.inr ⟨a, is, rfl, SqL.of e, by simpa using hlen, fun ys p hp hs hf => ?_⟩)
        rw [isort_eq ord_int (hs.imp fun {a b} q => by simpa [ltI] using q) hp]
        exact h p _ H (.refl _ _) A.gl hf (RepL.of_ints _)
      · exact h.elim
  · obtain ⟨v, rfl, rp⟩ := rl.one
    obtain ⟨a, kv, rfl, hrd, rk⟩ := rp.dic
    unfold sortDs at h
    split at h
    case isFalse => exact h.elim
    rename_i kvs hlen
    split at h
    · rename_i ss hss
      have e := txts_eq hss
      refine .inr (.inl ⟨a, kv, ss.map fun z => ⟨z.toArray⟩, rfl, hrd, RepK.keys_str rk e, by rw [e] at hlen; simpa using hlen, fun ys p hp hs hf => ?_⟩)
      rw [sortedS_eq hs hp]
      exact h p _ H (.refl _ _) A.gl hf (RepL.of_strs _)
    · split at h
      · rename_i is his
        have e := ints_eq his
        refine .inr (.inr ⟨a, kv, is, rfl, hrd, RepK.keys_int rk e, by rw [e] at hlen; simpa using hlen, fun ys p hp hs hf => ?_⟩)
        rw [isort_eq ord_int (hs.imp fun {a b} q => by simpa [ltI] using q) hp]
        exact h p _ H (.refl _ _) A.gl hf (RepL.of_ints _)
      · exact h.elim
  · exact h.elim
variable {ex : Expr} {es : List Expr} {fs : LE → R (List D)} {gl : List D → R (List D)} {pos p : Pos} {x : Str} {id : String}
theorem df_callB (hc : CallF X G (.builtin id) gl) (hm : X.mg x = none) (hv : bootBuiltins x = some (.builtin id)) (ha : DAp X G W (ex :: es) fs) (hg : Gl X x := by rfl) (hn : x ≠ "__name__" := by decide) (hdb : (x == ("__debug__" : Str)) = false := by decide)
    (he : starEach (ex :: es) X.env = (false, eval ex X.env) :: starEach es X.env := by rfl) (hpl : (backTo pos (starEach es X.env)).any (·.1) = false := by rfl) : DF X G W (.Call (.Name x p) (ex :: es) [] pos) (fun r => fs r >>= gl) := by
  obtain ⟨rr, h1, h2⟩ := hc
  refine PE_imp (pe_callB h1 hg hm hv ha hn hdb he hpl) fun sg H Q ⟨dl, Z, O, r, A, q⟩ => ⟨dl, Z, O, r, A, q.bind.thn fun ds hd vs H1 g1 k1 rl => ?_⟩
  exact h2 dl Z O r sg ds vs H1 Q _ (A.grow g1 k1) rl (hd.thn fun d h p vs H' g' k' hp rl => h p vs H' (g1.trans g') k' hp rl)
end
end DL
set_option Elab.async false
set_option linter.all false
set_option maxRecDepth 100000
namespace DL
open PySem L2 PySem.Spec PyProof.Rows
theorem DpAll.at_ {K : PySem.W.Frag} {H : Hp} : ∀ {us : List V} {ds : List PyData} {j : Nat} {x : V} {z : PyData}, DpAll K H us ds → us[j]? = some x → ds[j]? = some z → Dp K H x z
  | _, _, j, x, z, .nil, e, _ => by simp at e
  | _, _, 0, x, z, .cons h _, e, e2 => by
    cases (show some _ = some x from e)
    cases (show some _ = some z from e2)
    exact h
  | _, _, j + 1, x, z, .cons _ h, e, e2 => DpAll.at_ (j := j) h (by simpa using e) (by simpa using e2)
end DL
set_option Elab.async false
set_option linter.all false
set_option maxRecDepth 100000
namespace DL
open PySem L2 PySem.Spec PyProof.Rows
end DL
set_option Elab.async false
set_option linter.all false
set_option maxRecDepth 100000
namespace DL
open PySem L2 PySem.Spec PyProof.Rows
/-- all stays, but dicts may be locked or unlocked -/
structure Lk (S S' : Hp) : Prop where
  l1 : ∀ a o, S a = some o → (∀ ps, o ≠ .tbl ps) → (∀ kv, o ≠ .dK kv) → (∀ ob kv, o ≠ .frz ob (.dK kv)) → S' a = some o
  l2 : ∀ a kv, Rd S a (.dK kv) → Rd S' a (.dK kv)
theorem Lk.sqt {K : PySem.W.Frag} {S S' : Hp} {a : Addr} {xs : List V} (g : Lk S S') (h : SqT K S a xs) : SqT K S' a xs := by
  rcases h with (h | ⟨o, h⟩) | h
  · exact .inl (.inl (g.l1 _ _ h (fun _ z => by cases z) (fun _ z => by cases z) (fun _ _ z => by cases z)))
  · exact .inl (.inr ⟨o, g.l1 _ _ h (fun _ z => by cases z) (fun _ z => by cases z) (fun _ _ z => by cases z)⟩)
  · exact .inr h
mutual
theorem Rep.lk {G : Gm} {dl : Addr} {S S' : Hp} (g : Lk S S') : ∀ (d : D) {v : V}, Rep G dl S d v → Rep G dl S' d v
  | .non, v, h => by unfold Rep at *; exact h
  | .bl b, v, h => by unfold Rep at *; exact h
  | .int i, v, h => by unfold Rep at *; exact h
  | .str s, v, h => by unfold Rep at *; exact h
  | .lst ds, v, h => by
    unfold Rep at *
    obtain ⟨a, vs, e, q, r⟩ := h
    exact ⟨a, vs, e, g.l1 a _ q (fun ps z => by cases z) (fun ps z => by cases z) (fun _ _ z => by cases z), RepL.lk g ds r⟩
  | .tup ds, v, h => by
    unfold Rep at *
    obtain ⟨a, vs, e, q, r⟩ := h
    exact ⟨a, vs, e, g.sqt q, RepL.lk g ds r⟩
  | .dic kvs, v, h => by
    unfold Rep at *
    obtain ⟨a, kv, e, q, r⟩ := h
    exact ⟨a, kv, e, g.l2 _ _ q, RepK.lk g kvs r⟩
  | .cdic kvs, v, h => by
    unfold Rep at *
    obtain ⟨a, e, r⟩ := h
    exact ⟨a, e, RepC.lk g kvs r⟩
  | .ins c ds, v, h => by
    unfold Rep at *
    obtain ⟨a, dx, vs, e, q, l, r⟩ := h
    exact ⟨a, dx, vs, e, g.l1 a _ q (fun ps z => by cases z) (fun ps z => by cases z) (fun _ _ z => by cases z), l, RepL.lk g ds r⟩
  | .dice, v, h => by unfold Rep at *; exact h
  | .fn n, v, h => by unfold Rep at *; exact h
theorem RepL.lk {G : Gm} {dl : Addr} {S S' : Hp} (g : Lk S S') : ∀ (ds : List D) {vs : List V}, RepL G dl S ds vs → RepL G dl S' ds vs
  | [], vs, h => by unfold RepL at *; exact h
  | d :: ds, vs, h => by
    unfold RepL at *
    obtain ⟨v, r, e, h1, h2⟩ := h
    exact ⟨v, r, e, Rep.lk g d h1, RepL.lk g ds h2⟩
theorem RepK.lk {G : Gm} {dl : Addr} {S S' : Hp} (g : Lk S S') : ∀ (ds : List (D × D)) {vs : List (Key × V)}, RepK G dl S ds vs → RepK G dl S' ds vs
  | [], vs, h => by unfold RepK at *; exact h
  | (k, d) :: ds, vs, h => by
    unfold RepK at *
    obtain ⟨x, v, r, e, k, h1, h2⟩ := h
    exact ⟨x, v, r, e, k, Rep.lk g d h1, RepK.lk g ds h2⟩
theorem RepC.lk {G : Gm} {dl : Addr} {S S' : Hp} (g : Lk S S') {a : Addr} : ∀ (ds : List (List Nat × D)), RepC G dl S a ds → RepC G dl S' a ds
  | [], h => by unfold RepC at *; exact h
  | (k, d) :: ds, h => by
    unfold RepC at *
    obtain ⟨⟨v, h1, h2⟩, h3⟩ := h
    exact ⟨⟨v, h1, Rep.lk g d h2⟩, RepC.lk g ds h3⟩
end
section
variable {G : Gm} {dl : Addr} {Z : List Addr} {O : List (Nat × Addr)} {r : LE} {sg : L2.St} {H : Hp}
theorem lk_cut {a : Addr} {od : Obj} {kv : List (Key × V)} (h : H a = some (.dK kv)) : Lk (cut H Z) (cut (upd H a (.frz od (.dK kv))) Z) := by
  refine ⟨fun b o e n1 n2 n3 => ?_, fun b kv' e => ?_⟩
  · obtain ⟨e1, e2⟩ := cut_some e
    have hb : b ≠ a := fun z => by rw [z, h] at e2; exact n2 kv (Option.some.inj e2).symm
    rw [cut_out e1, upd_ne hb]; exact e2
  · by_cases hb : b = a
    · subst hb
      rcases e with e | ⟨o, e⟩
      · obtain ⟨e1, e2⟩ := cut_some e
        rw [h] at e2
        cases e2
        exact .inr ⟨od, by rw [cut_out e1, upd_same]⟩
      · obtain ⟨e1, e2⟩ := cut_some e
        rw [h] at e2
        cases e2
    · rcases e with e | ⟨o, e⟩
      · obtain ⟨e1, e2⟩ := cut_some e
        exact .inl (by rw [cut_out e1, upd_ne hb]; exact e2)
      · obtain ⟨e1, e2⟩ := cut_some e
        exact .inr ⟨o, by rw [cut_out e1, upd_ne hb]; exact e2⟩
theorem lk_uncut {a : Addr} {od : Obj} {kv : List (Key × V)} (h : H a = some (.frz od (.dK kv))) : Lk (cut H Z) (cut (upd H a (.dK kv)) Z) := by
  refine ⟨fun b o e n1 n2 n3 => ?_, fun b kv' e => ?_⟩
  · obtain ⟨e1, e2⟩ := cut_some e
    have hb : b ≠ a := fun z => by rw [z, h] at e2; exact n3 od kv (Option.some.inj e2).symm
    rw [cut_out e1, upd_ne hb]; exact e2
  · by_cases hb : b = a
    · subst hb
      rcases e with e | ⟨o, e⟩
      · obtain ⟨e1, e2⟩ := cut_some e
        rw [h] at e2
        cases e2
      · obtain ⟨e1, e2⟩ := cut_some e
        rw [h] at e2
        cases e2
        exact .inl (by rw [cut_out e1, upd_same])
    · rcases e with e | ⟨o, e⟩
      · obtain ⟨e1, e2⟩ := cut_some e
        exact .inl (by rw [cut_out e1, upd_ne hb]; exact e2)
      · obtain ⟨e1, e2⟩ := cut_some e
        exact .inr ⟨o, by rw [cut_out e1, upd_ne hb]; exact e2⟩
theorem GlOk.repl {a : Addr} {o u : HO} (k : GlOk G dl H) (had : a ≠ dl) (h : H a = some o) (n1 : ∀ ps, o ≠ .tbl ps) (n2 : o = .dK [] ∨ (∃ kv, o = .dK kv) ∨ ∃ ob kv, o = .frz ob (.dK kv)) : GlOk G dl (upd H a u) := by
  obtain ⟨x, y, z, hd⟩ := k.dice
  refine ⟨⟨x, y, z, by rw [upd_ne fun e => had e.symm]; exact hd⟩, fun p hp => ?_⟩
  obtain ⟨ps, h1, h2, h3⟩ := k.tab p hp
  have hpD : p.1 ≠ a := fun e => by rw [e, h] at h1; exact n1 ps (Option.some.inj h1)
  refine ⟨ps, by rw [upd_ne hpD]; exact h1, h2, fun pos cv hc => ?_⟩
  obtain ⟨c, e1, e2⟩ := h3 pos cv hc
  have hcD : c ≠ a := fun e => by
    rw [e, h] at e2
    have e3 := Option.some.inj e2
    rcases n2 with n | ⟨kv, n⟩ | ⟨ob, kv, n⟩ <;> (rw [n] at e3; cases e3)
  exact ⟨c, e1, by rw [upd_ne hcD]; exact e2⟩
theorem At.lock (A : At G dl Z O r sg H) {a : Addr} {od : Obj} {kv : List (Key × V)} (h : H a = some (.dK kv)) (hz : a ∉ Z) : At G dl Z O r sg (upd H a (.frz od (.dK kv))) := by
  have had : a ≠ dl := fun e => hz (by rw [e]; exact A.dz)
  refine ⟨A.gl.repl had h (fun _ z => by cases z) (.inr (.inl ⟨_, rfl⟩)), A.dz, fun b hb => ?_, A.own, A.inj, A.len, fun j c e => ?_⟩
  · obtain ⟨o, e, n⟩ := A.live b hb
    exact ⟨o, by rw [upd_ne fun z => hz (by rw [← z]; exact hb)]; exact e, n⟩
  · have := A.slot j c e
    cases c with
    | un => trivial
    | val d =>
      obtain ⟨v, e, q⟩ := this
      exact ⟨v, e, Rep.lk (lk_cut h) d q⟩
    | own d =>
      obtain ⟨b, hb, e, q, ko⟩ := this
      have hba : b ≠ a := fun z => hz (by rw [← z]; exact (A.own _ hb).1)
      refine ⟨b, hb, e, ?_, ko⟩
      rw [upd_ne hba]
      unfold OwnAt at *
      split at q
      · obtain ⟨vs, e, r⟩ := q; exact ⟨vs, e, RepL.lk (lk_cut h) _ r⟩
      · obtain ⟨kv, e, r⟩ := q; exact ⟨kv, e, RepK.lk (lk_cut h) _ r⟩
      · obtain ⟨dx, vs, e, k, r⟩ := q; exact ⟨dx, vs, e, k, RepL.lk (lk_cut h) _ r⟩
      · exact q
theorem upd_comm {H : Hp} {a b : Addr} {o u : HO} (h : a ≠ b) : upd (upd H a o) b u = upd (upd H b u) a o := by
  funext c
  by_cases ca : c = a
  · subst ca; rw [upd_ne h, upd_same, upd_same]
  · by_cases cb : c = b
    · subst cb; rw [upd_same, upd_ne ca, upd_same]
    · rw [upd_ne cb, upd_ne ca, upd_ne ca, upd_ne cb]
end
def Mild {α : Type} (m : R α) : Prop := ∀ (Q : α → Prop) (E E' : Exc → Prop), Wp m Q E → Wp m Q E'
theorem Mild.ok {α : Type} (a : α) : Mild (R.ok a) := fun _ _ _ h => h
theorem Mild.stuck {α : Type} : Mild (R.stuck : R α) := fun _ _ _ h => h
theorem Mild.calm {α : Type} : ∀ (m : R α), Mild m.calm
  | .ok _ => fun _ _ _ h => h
  | .err _ => fun _ _ _ h => h
  | .stuck => fun _ _ _ h => h
  | .roll n k => fun Q E E' h i hi => Mild.calm (k i) Q E E' (h i hi)
theorem Mild.bind {α β : Type} {m : R α} {k : α → R β} (h : Mild m) (q : ∀ a, Mild (k a)) : Mild (m >>= k) := fun Q E E' w =>
  Wp.of_bind (h _ E E' (w.bind.thn fun a z => q a Q E E' z))
theorem Mild.loopC (gd : D → LE → Option LE) (tt : LE → R Bool) (te : LE → R D) (r : LE) : ∀ ds, Mild (loopC gd tt te r ds)
  | [] => .ok _
  | d :: ds => by
    rw [loopC_cons]
    split
    · exact .stuck
    · refine Mild.bind (.calm _) fun b => ?_
      split
      · exact Mild.bind (.calm _) fun y => Mild.bind (Mild.loopC gd tt te r ds) fun ys => .ok _
      · exact Mild.loopC gd tt te r ds
def itKV (i : Nat) : LE → R (List D) := fun r => match r[i]? with
  | some (.val (.dic kvs)) => .ok (kvs.map (·.1))
  | _ => .stuck
section
variable {X : Cx} {G : Gm} {W : WX} {tg : Expr} {gd : D → LE → Option LE} {is vs : List Nat} {tt : LE → R Bool} {te : LE → R D} {dl : Addr}
theorem keys_at {S S' : Hp} : ∀ {kvs : List (D × D)} {kv : List (Key × V)}, RepK G dl S kvs kv → ∀ (i : Nat) {e : D} {k : Key} {v : V}, (kvs.map (·.1))[i]? = some e → kv[i]? = some (k, v) → Rep G dl S' e (kV k)
  | [], kv, h, i, e, k, v, he, h1 => by simp at he
  | (q1, q2) :: kvs, kv, h, i, e, k, v, he, h1 => by
    unfold RepK at h
    obtain ⟨x, w, t, rfl, hk1, _, hk2⟩ := h
    cases i with
    | zero =>
      cases he
      cases h1
      cases q1 <;> first | (cases hk1; done) | skip
      · cases hk1; exact Rep.int_
      · cases hk1; exact Rep.str_
    | succ i => exact keys_at hk2 i (by simpa using he) (by simpa using h1)
theorem walk_keys {d : Addr} {o : Obj} {kv : List (Key × V)} {kvs : List (D × D)} (hd : d ≠ dl) (hk : ∃ (S : Hp), RepK G dl S kvs kv) : WalkE G dl (Itk d o kv) (kvs.map (·.1)) (fun _ H => H d = some (.frz o (.dK kv))) where
  mono := fun Z Z' H H' _ g2 h => g2 d _ h hd (fun ps z => by cases z)
  go := fun i Z H h hi => by
    obtain ⟨S, hk⟩ := hk
    have := hk.length
    rw [List.length_map] at hi
    exact ⟨h, by omega⟩
  stop := fun i Z H h hi => by
    obtain ⟨S, hk⟩ := hk
    have := hk.length
    rw [List.length_map] at hi
    exact ⟨h, by omega⟩
  yld := fun i Z O r sg H x H' A h hy e he => by
    obtain ⟨rfl, k, v, h1, rfl⟩ := hy
    refine ⟨.refl _ _, A.gl, ?_⟩
    obtain ⟨S, hk⟩ := hk
    exact keys_at hk i he h1
theorem df_compK (i : Nat) {x : Str} {elt : Expr} {ifs : List Expr} {scope : Scope} {own : List (Str × Nat)} {p pos : Pos} (hc : X.calm = true) (hN : X.N.Nodup) (hx : X.N[i]? = some x) (hv : Vis X.env.scope x) (ok : BlkOk X.N X.env.scope scope own)
    (hg : ∀ (s : Shared) (H : Hp) (C : Addr) (cl : List (Str × Addr)) (fp : List Addr), DG (X.blk s H scope (compEnvC scope cl C X.env) fp) G tg gd is)
    (ht : ∀ (s : Shared) (H : Hp) (C : Addr) (cl : List (Str × Addr)) (fp : List Addr), DTs (X.blk s H scope (compEnvC scope cl C X.env) fp) G W0 ifs tt)
    (he : ∀ (s : Shared) (H : Hp) (C : Addr) (cl : List (Str × Addr)) (fp : List Addr), DE (X.blk s H scope (compEnvC scope cl C X.env) fp) G W0 elt te)
    (hsub : ∀ j ∈ is, j ∈ own.map (·.2)) (hs : ∀ z, foldedSetIterable (.Name x p) X.env z = pure z := by intro _; rfl) (hd : (x == ("__debug__" : Str)) = false := by decide) (hcd : (x == ("__classdict__" : Str)) = false := by decide) :
    DF X G W (.ListComp elt [⟨tg, .Name x p, ifs, 0⟩] scope pos) (compF (itKV i) gd tt te (own.map (·.2))) := by
  have P1 := pe_lc (pos := pos) (elt := elt) hc hN (pi_keys (tg := tg) (pe_var (pos := p) hx hv hd hcd)) ok hg ht he hs
  have P2 := pe_lock P1
  -- one walk over the locked dict
  have core : ∀ {sg : L2.St} {H : Hp} {Q : VK} {a : Addr} {o : Obj} {kv : List (Key × V)}, sg[i]? = some (some (.ref a)) → H a = some (.frz o (.dK kv)) → tF G (fun _ _ _ _ => False) (compF (itKV i) gd tt te (own.map (·.2))) sg H Q →
      tLc (iKeys (tVar i)) (tGd G gd is) (tT G W0 tt) (tD G W0 te) (own.map (·.2)) sg H Q := by
    intro sg H Q a o kv hsg hfr q
    have q3 := lc_core_d hsub q
    obtain ⟨dl', Z', O', r', A', q4⟩ := q3
    refine ⟨.ref a, hsg, a, o, rfl, .inl ⟨kv, hfr, ?_⟩⟩
    unfold itKV at q4
    split at q4
    case h_2 => exact q4.elim
    rename_i kvs hr
    obtain ⟨v, e1, rp⟩ := A'.slot i _ hr
    rw [hsg] at e1
    cases e1
    unfold Rep at rp
    obtain ⟨b, kv', eb, hrd, rk⟩ := rp
    cases eb
    have hz : a ∉ Z' := by
      rcases hrd with e | ⟨_, e⟩
      · exact (cut_some e).1
      · exact (cut_some e).1
    have ekv : kv' = kv := by
      rcases hrd with e | ⟨_, e⟩
      · have := (cut_some e).2; rw [hfr] at this; cases this
      · have := (cut_some e).2; rw [hfr] at this; cases this; rfl
    subst ekv
    exact q4 _ _ H (.refl _ _) A'.gl (walk_keys (kvs := kvs) (fun e => hz (by rw [e]; exact A'.dz)) ⟨_, rk⟩) hfr
  refine ⟨fun pins s sg H Q I q => ?_⟩
  obtain ⟨dl, Z, O, r, A, q⟩ := q
  have hmild : Wp (compF (itKV i) gd tt te (own.map (·.2)) r) (fun ds => ∀ p vs H', Grow dl H H' → GlOk G dl H' → H' p = none → RepL G dl (cut H' Z) ds vs → Q (.ref p) (upd H' p (.lst vs))) (fun _ => False) := by
    unfold compF at q ⊢
    unfold itKV at q ⊢
    split at q
    · rw [R.ok_bind] at q ⊢
      split
      · rename_i hl; rw [if_pos hl] at q; exact Mild.loopC _ _ _ _ _ _ _ _ q
      · rename_i hl; rw [if_neg hl] at q; exact q
    · exact q
  have hq := hmild
  unfold compF itKV at hq
  split at hq
  case h_2 => exact hq.elim
  rename_i kvs hr
  clear hq
  obtain ⟨v, hsg, rp⟩ := A.slot i _ hr
  unfold Rep at rp
  obtain ⟨a, kv, rfl, hrd, rk⟩ := rp
  rcases hrd with e | ⟨od, e⟩
  · obtain ⟨hz, e⟩ := cut_some e
    have had : a ≠ dl := fun e => hz (by rw [e]; exact A.dz)
    refine P2.run pins s sg H Q I ⟨a, .dK kv, e, trivial, fun od => core hsg upd_same ⟨dl, Z, O, r, A.lock e hz, hmild.mono (fun ds hds p vs H' g k hp rl => ?_) fun _ z => z.elim⟩⟩
    have hf : H' a = some (.frz od (.dK kv)) := g a _ upd_same had (fun ps z => by cases z)
    have hpa : a ≠ p := ne_of_none hf hp
    refine ⟨by rw [upd_ne hpa]; exact hf, ?_⟩
    rw [upd_comm hpa.symm]
    refine hds p vs (upd H' a (.dK kv)) (fun b u eb n nt => ?_) (k.repl had hf (fun _ z => by cases z) (.inr (.inr ⟨_, _, rfl⟩))) (by rw [upd_ne hpa.symm]; exact hp) (RepL.lk (lk_uncut hf) _ rl)
    by_cases hb : b = a
    · subst hb; rw [e] at eb; cases eb; exact upd_same
    · rw [upd_ne hb]
      exact g b u (by rw [upd_ne hb]; exact eb) n nt
  · obtain ⟨hz, e⟩ := cut_some e
    exact P1.run pins s sg H Q I (core hsg e ⟨dl, Z, O, r, A, hmild.mono (fun _ z => z) fun _ z => z.elim⟩)
end
theorem hu1 {k : Nat} {A : Around} (hr : Room k A) : A.units + 1 < cLine := by have := hr.un; omega
end DL
set_option Elab.async false
set_option linter.all false
set_option maxRecDepth 100000
namespace DL
open PySem L2 PySem.Spec PyProof.Rows
end DL
set_option Elab.async false
set_option linter.all false
set_option maxRecDepth 100000
namespace DL
open PySem
end DL
set_option Elab.async false
set_option linter.all false
set_option maxRecDepth 100000
namespace DL
open PySem L2 PySem.Spec PyProof.Rows
def lenX : List D → R D
  | [.dic kvs] => .ok (.int kvs.length)
  | ds => lenD ds
section
variable {X : Cx} {G : Gm} {W : WX}
theorem cr_lenK : CallR X (.builtin "len") (fun xs H Q => ∃ (a : Addr) (kvs : List (Key × V)), xs = [.ref a] ∧ Rd H a (.dK kvs) ∧ Q (.int kvs.length) H) := by
  intro pins s sg H xs us Q I r h
  obtain ⟨a, kvs, rfl, e, q⟩ := h
  obtain ⟨u, rfl, ru⟩ := vals1 r
  obtain rfl : u = Value.ref a := ru
  exact d_len I e fun t s' I' => ⟨.int _, H, I', ⟨t, rfl⟩, q⟩
theorem cd_lenX (hG : G.K = X.K) : CallD X G (.builtin "len") lenX := by
  obtain ⟨rr, h1, h2⟩ := cd_len (X := X) (G := G) hG
  refine ⟨_, CallR.or cr_lenK h1, fun dl Z O r sg ds vs H Q E A rl h => ?_⟩
  unfold lenX at h
  split at h
  · obtain ⟨v, rfl, rp⟩ := rl.one
    obtain ⟨a, kv, rfl, hrd, rk⟩ := rp.dic
    refine .inl ⟨a, kv, rfl, hrd, ?_⟩
    rw [rk.length]
    exact h _ H (.refl _ _) A.gl Rep.int_
  · exact .inr (h2 dl Z O r sg ds vs H Q E A rl h)
end
/-- a comprehension over dice: every item right -/
theorem loopC_wp {gd : D → LE → Option LE} {te : LE → R D} {r : LE} {E : Exc → Prop} (P : D → Prop) : ∀ (ds : List D) (Q : List D → Prop), (∀ d ∈ ds, ∃ r', gd d r = some r' ∧ Wp (te r') P (fun _ => False)) →
    (∀ ys : List D, ys.length = ds.length → (∀ y ∈ ys, P y) → Q ys) → Wp (loopC gd yesT te r ds) Q E
  | [], Q, _, q => q [] rfl (fun _ h => by cases h)
  | d :: ds, Q, h, q => by
    obtain ⟨r', h1, h2⟩ := h d List.mem_cons_self
    rw [loopC_cons, h1]
    dsimp only
    refine Wp.of_bind ?_
    rw [yesT_eq, calm_ok, Wp_ok, if_pos rfl]
    refine Wp.of_bind ?_
    have calm : ∀ {m : R D} {Q' : D → Prop}, Wp m Q' (fun _ => False) → Wp m.calm Q' E := fun {m} {Q'} hm => by
      induction m with
      | ok a => exact hm
      | err e => exact hm.elim
      | stuck => exact hm
      | roll n k ih => exact fun i hi => ih i (hm i hi)
    refine calm (h2.thn fun y hy => ?_)
    refine Wp.of_bind (loopC_wp P ds _ (fun x hx => h x (List.mem_cons_of_mem _ hx)) fun ys hl hys => ?_)
    refine q (y :: ys) (by rw [List.length_cons, List.length_cons, hl]) fun z hz => ?_
    rcases List.mem_cons.mp hz with rfl | hz
    · exact hy
    · exact hys z hz
end DL
set_option Elab.async false
set_option linter.all false
set_option maxRecDepth 100000
namespace DL
theorem Wp_onS {α : Type} {Q : Out → Prop} {r : LE} {k : α → R Out} : ∀ {m : R α}, Wp m (fun a => Wp (k a) Q (fun _ => False)) (fun e => Q (.ex e r)) → Wp (m.onS r k) Q (fun _ => False)
  | .ok _, h => h
  | .err _, h => h
  | .stuck, h => h
  | .roll _ _, h => fun i hi => Wp_onS (h i hi)
theorem Wp_seq {F K : LE → R Out} {r : LE} {Q : Out → Prop} : Wp (F r) (fun o => match o with
    | .nx r' => Wp (K r') Q (fun _ => False)
    | o => Q o) (fun _ => False) → Wp (seqS F K r) Q (fun _ => False) := fun h => by
  rw [seqS_eq]
  refine Wp.of_bind (h.thn fun o ho => ?_)
  cases o <;> exact ho
theorem Wp_setK {i : Nat} {f : LE → R D} {r : LE} {Q : Out → Prop} (h : Wp (f r) (fun d => Q (.nx (r.set i (.val d)))) (fun e => Q (.ex e r))) : Wp (setK i (valK f) r) Q (fun _ => False) := by
  rw [setK_eq, valK_eq]
  refine Wp_onS ?_
  refine Wp.of_bind (Wp.of_bind (h.thn fun d hd => ?_))
  exact hd
/-- the ends of a body: ways P lets through -/
structure Go (P : Out → Prop) (F : LE → R Out) (r : LE) : Prop where
  h : Wp (F r) P (fun _ => False)
theorem Go.cons {P : Out → Prop} {S F K : LE → R Out} {r r2 : LE} (e : S = seqS F K) (h : F r = .ok (.nx r2)) (k : Go P K r2) : Go P S r := by
  subst e
  refine ⟨Wp_seq ?_⟩
  rw [h]
  exact k.h
abbrev Done (o : Out) : Prop := ∃ r, o = .nx r ∨ o = .ct r
end DL
set_option Elab.async false
set_option linter.all false
set_option maxRecDepth 100000
namespace DL
open PySem L2 PySem.Spec PyProof.Rows
def cutD {α : Type} (xs : List α) (lo hi : Option Int) : List α := (xs.drop (HT.sIx xs.length 0 lo)).take (HT.sIx xs.length xs.length hi - HT.sIx xs.length 0 lo)
def slI (x : D) (lo hi : Option Int) : R D := match x with
  | .str s => if s.length ≤ 16777216 then .ok (.str (cutD s lo hi)) else .stuck
  | .tup xs => .ok (.tup (cutD xs lo hi))
  | .lst xs => .ok (.lst (cutD xs lo hi))
  | _ => .stuck
def tO (G : Gm) (W : WX) (p : LE → R (Option Int)) : TO := fun sg H Q => ∃ dl Z O r, At G dl Z O r sg H ∧
  Wp (p r) (fun o => ∀ H', Grow dl H H' → GlOk G dl H' → Q o H') (fun e => ∀ cls dx H', Grow dl H H' → GlOk G dl H' → XRep G dl (cut H' Z) e cls dx H' → W cls dx sg H')
abbrev DO (X : Cx) (G : Gm) (W : WX) (e : Option Expr) (p : LE → R (Option Int)) : Prop := PO X e (tO G W p)
def noP : LE → R (Option Int) := fun _ => .ok none
def someP (f : LE → R D) : LE → R (Option Int) := fun r => f r >>= fun d => match d with
  | .int i => .ok (some i)
  | _ => .stuck
def sliceE (f : LE → R D) (l h : LE → R (Option Int)) : LE → R D := fun r => do let x ← f r; let a ← l r; let b ← h r; slI x a b
section
variable {X : Cx} {G : Gm} {W : WX} {a b : Expr} {f : LE → R D} {lo hi : Option Expr} {l h : LE → R (Option Int)} {pos p2 : Pos}
theorem PO_imp {e : Option Expr} {t t' : TO} (h : PO X e t) (i : ∀ sg H Q, t' sg H Q → t sg H Q) : PO X e t' := ⟨fun pins s sg H Q I q => h.run pins s sg H Q I (i _ _ _ q)⟩
theorem do_none : DO X G W none noP := PO_imp po_none fun sg H Q ⟨dl, Z, O, r, A, q⟩ => q H (.refl _ _) A.gl
theorem do_some (ha : DP X G W a f) : DO X G W (some a) (someP f) := PO_imp (po_some ha) fun sg H Q ⟨dl, Z, O, r, A, q⟩ => by
  refine ⟨dl, Z, O, r, A, q.bind.thn fun d hd v H1 g1 k1 rp => ?_⟩
  cases d <;> first | exact hd.elim | skip
  rename_i i
  exact ⟨i, rp.int, hd H1 g1 k1⟩
theorem RepL.cut_ {dl : Addr} {S : Hp} {ds : List D} {vs : List V} (rl : RepL G dl S ds vs) (lo hi : Option Int) : RepL G dl S (cutD ds lo hi) (cutV vs lo hi) := by
  unfold cutD cutV
  rw [rl.length]
  exact RepL.take _ (RepL.drop _ rl)
theorem cutS_of (s : List Nat) (lo hi : Option Int) : cutS ⟨s.toArray⟩ lo hi = ⟨(cutD s lo hi).toArray⟩ := by
  unfold cutS cutD
  simp [Str.length]
theorem cut_whole {α : Type} (xs : List α) (lo hi : Option Int) (h : HT.sIx xs.length 0 lo = 0 ∧ HT.sIx xs.length xs.length hi = xs.length) : cutD xs lo hi = xs := by
  unfold cutD
  rw [h.1, h.2]
  simp
theorem de_slice (hG : G.K = X.K) (ha : DP X G W a f) (hl : DO X G W lo l) (hh : DO X G W hi h) : DE X G W (.Subscript a (.Slice lo hi none p2) pos) (sliceE f l h) := by
  refine PE_imp (pe_slice (SlR.or (SlR.or sl_str sl_tupA) sl_list) ha hl hh) fun sg H Q ⟨dl, Z, O, r, A, q⟩ => ?_
  refine ⟨dl, Z, O, r, A, q.bind.thn fun x hx v H1 g1 k1 rp => ?_⟩
  have A1 := A.grow g1 k1
  refine ⟨dl, Z, O, r, A1, hx.bind.mono (fun o1 ho1 H2 g2 k2 => ?_) fun e => epost g1⟩
  have A2 := A1.grow g2 k2
  refine ⟨dl, Z, O, r, A2, ho1.bind.mono (fun o2 ho2 H3 g3 k3 => ?_) fun e => epost (g1.trans g2)⟩
  have A3 := A2.grow g3 k3
  have rp3 := rp.grow A1 (g2.trans g3)
  have g := (g1.trans g2).trans g3
  cases x <;> first | exact ho2.elim | skip
  · rename_i s
    change Wp (if s.length ≤ 16777216 then R.ok (D.str (cutD s o1 o2)) else R.stuck) _ _ at ho2
    split at ho2
    case isFalse => exact ho2.elim
    rename_i hz
    refine .inl (.inl ⟨⟨s.toArray⟩, rp3.str, by rw [sizeLine_eq]; simpa [Str.length] using hz, ?_⟩)
    rw [cutS_of]
    exact ho2 _ H3 g k3 Rep.str_
  · rename_i xs
    obtain ⟨p, us, rfl, hl, rl⟩ := rp3.lst
    refine .inr ⟨p, us, rfl, SqL.of hl, fun p' hp => ?_⟩
    exact ho2 _ _ (g.trans (.new hp)) (k3.new hp) (Rep.lst_new A3 hp (rl.cut_ o1 o2))
  · rename_i xs
    obtain ⟨p, us, rfl, hl, rl⟩ := rp3.tup
    have hlen := rl.length
    refine .inl (.inr ⟨p, us, rfl, hG ▸ hl, fun hw => ?_, fun hw p' hp => ?_⟩)
    · rw [hlen] at hw
      have e := cut_whole xs o1 o2 hw
      change Wp (R.ok (D.tup (cutD xs o1 o2))) _ _ at ho2
      rw [e] at ho2
      rcases rp3 with rp3 | ⟨_, _, _, _, own⟩
      · exact ho2 _ H3 g k3 rp3
      · exact own.elim
    · exact ho2 _ _ (g.trans (.new hp)) (k3.new hp) (Rep.tup_new A3 hp (rl.cut_ o1 o2))
end
end DL
set_option Elab.async false
set_option linter.all false
set_option maxRecDepth 100000
namespace DL
open PySem L2 PySem.Spec PyProof.Rows
def iaddD : D → D → R D
  | .int i, .int j => .ok (.int (i + j))
  | .str a, .str b => if a.length + b.length ≤ 16777216 then .ok (.str (a ++ b)) else .stuck
  | _, _ => .stuck
section
variable {X : Cx} {G : Gm} {W : WX} {a b : Expr} {f g : LE → R D} {pos pos' p : Pos} {x : Str}
theorem oi_add : OpD X G (inplaceOp .Add) iaddD := by
  refine ⟨_, OpR.or (opI0 (g := fun i j => i + j) fun _ _ _ _ _ _ _ q => iadd_int q) (in_addS : OpR X (inplaceOp .Add) rAddS), fun dl Z O r sg x y vx vy H Q E A hx hy h => ?_⟩
  unfold iaddD at h
  split at h
  · exact .inl ⟨_, _, hx.int, hy.int, h _ H (.refl _ _) A.gl Rep.int_⟩
  · split at h
    · rename_i a b hc
      refine .inr ⟨_, _, hx.str, hy.str, by rw [sizeLine_eq]; simpa [Str.length] using hc, ?_⟩
      rw [str_add]
      exact h _ H (.refl _ _) A.gl Rep.str_
    · exact h.elim
  · exact h.elim
theorem oi_sub : OpD X G (inplaceOp .Sub) subD := by
  refine ⟨_, opI0 (g := fun i j => i - j) fun _ _ _ _ _ _ _ q => isub_int q, fun dl Z O r sg x y vx vy H Q E A hx hy h => ?_⟩
  unfold subD at h
  split at h
  · exact ⟨_, _, hx.int, hy.int, h _ H (.refl _ _) A.gl Rep.int_⟩
  · exact h.elim
theorem oi_mul : OpD X G (inplaceOp .Mult) mulD := by
  refine ⟨_, opI (C := CMul) (g := fun i j => i * j) fun _ _ _ _ _ _ _ hc q => imul_int q hc.ok, fun dl Z O r sg x y vx vy H Q E A hx hy h => ?_⟩
  unfold mulD at h
  split at h
  · split at h
    · rename_i hc
      exact ⟨_, _, hx.int, hy.int, (by unfold CMul; omega), h _ H (.refl _ _) A.gl Rep.int_⟩
    · exact h.elim
  · exact h.elim
theorem ds_aug (i : Nat) {op : Operator} {gg : D → D → R D} (ho : OpD X G (inplaceOp op) gg) (hN : X.N.Nodup) (he : DE X G W a f) (hi : X.N[i]? = some x := by rfl) (hx : Loc X.env.scope x := by first | exact Or.inl rfl | exact Or.inr rfl)
    (hf : X.fn x = true ∨ X.env.scope.names.lookup x = some .local := by first | exact .inl rfl | exact .inr rfl) : DS X G W (.AugAssign (.Name x pos') op a pos) (setK i (valK (opE gg (var i) f))) := by
  obtain ⟨rr, h1, h2⟩ := ho
  refine PS_imp (ps_aug hN hi hx he (ti := rr) h1 hf) fun De sg H ⟨dl, Z, O, r, A, q⟩ => ?_
  have q1 := (onS_wp q).bind.bind
  have hv : ∃ d, r[i]? = some (.val d) := by
    cases hc : r[i]? with
    | none => rw [show opE gg (var i) f r = (var i r >>= fun x => f r >>= fun y => gg x y) from rfl, var_eq, hc] at q1; exact q1.elim
    | some c =>
      cases c with
      | val d => exact ⟨d, rfl⟩
      | un => rw [show opE gg (var i) f r = (var i r >>= fun x => f r >>= fun y => gg x y) from rfl, var_eq, hc] at q1; exact q1.elim
      | own d => rw [show opE gg (var i) f r = (var i r >>= fun x => f r >>= fun y => gg x y) from rfl, var_eq, hc] at q1; exact q1.elim
  obtain ⟨d, hd⟩ := hv
  obtain ⟨v, hs, rp⟩ := A.slot i _ hd
  rw [show opE gg (var i) f r = (var i r >>= fun x => f r >>= fun y => gg x y) from rfl, var_eq, hd] at q1
  refine ⟨v, hs, dl, Z, O, r, A, (show Wp (f r >>= fun y => gg d y) _ _ from q1).bind.mono (fun y hy u H1 g1 k1 ru => ?_) fun e he => spost_ex A he⟩
  have A1 := A.grow g1 k1
  refine h2 dl Z O r sg d y v u H1 _ (fun e => SPost G W De dl Z O H (.ex e r)) A1 (.of (rp.mono (g1.cut A.dz))) (.of ru) (hy.thn fun z hz w H2 g2 k2 rw_ => ?_)
  exact hz Z O _ H2 (Stp.of_grow (g1.trans g2) k2) ((A1.grow g2 k2).set_val i rw_)
end
end DL
set_option Elab.async false
set_option linter.all false
set_option maxRecDepth 100000
set_option maxHeartbeats 1000000
namespace DL
open PySem L2 PySem.Spec PyProof.Rows GenW
/-- the context of a generator expression's frame, run over A; s, H: ahead of the frame; fp: the iterator's records -/
abbrev genCx (X : Cx) (A : Around) (s : Shared) (H : Hp) (env : Env) (fp : List Addr) : Cx :=
  { X with A := A, s_0 := s, H_0 := H, env := env, outer := X.stack, stack := env :: X.stack, ex := fp, fn := fun _ => false, calm := true, pn := [], xe := fun _ _ => False }
/-- its names -/
structure GenOk (scope : Scope) : Prop where
  co : scope.isCoroutine = false
  dot : scope.names.lookup (".0" : Str) = some NameKind.local
  cell : ∀ y ∈ scope.names, y.2 ≠ .cell
def genOkC (scope : Scope) : Bool := !scope.isCoroutine && decide (scope.names.lookup (".0" : Str) = some NameKind.local) && scope.names.all fun y => !decide (y.2 = .cell)
theorem genOk_by {scope : Scope} (h : genOkC scope = true) : GenOk scope := by
  unfold genOkC at h
  simp only [Bool.and_eq_true, Bool.not_eq_true', decide_eq_true_eq, decide_eq_false_iff_not, List.all_eq_true] at h
  obtain ⟨⟨h1, h2⟩, h3⟩ := h
  exact ⟨h1, h2, h3⟩
section
variable {X : Cx} {pins : List (Addr × Obj)} {σ : L2.St} {H : Hp} {s : Shared}
theorem inv_gens {G : Array GenState} (I : Inv X pins σ H s) (hg : AllBare G) : Inv X pins σ H { s with gens := G } :=
  ⟨I.ok, I.os, hg, I.base, I.loc, I.cell, I.free, I.freeC, I.pin, I.hok, I.len⟩
theorem gen_start {A : Around} {scope : Scope} {own : List (Str × Nat)} {fp : List Addr} {code : Value} {h5 : Heap} {G : Array GenState} {tk : Nat} {m5 : Str → Option Value} (I : Inv X pins σ H s) (ok : BlkOk X.N X.env.scope scope own) (gk : GenOk scope) (hN : X.N.Nodup)
    (hfp : ∀ b ∈ fp, FpOk X pins H b ∧ b < s.heap.objs.size) (hh : A.handled = none) (hfr : A.frames = some (genEnv scope (cloFrom X.env.cells scope.names []) s.heap.objs.size code builtinsNs X.env :: X.stack))
    (kp : ∀ b o, s.heap.get? b = some o → h5.get? b = some o) (hns : h5.Ns s.heap.objs.size m5) (hG : AllBare G) :
    Inv (genCx X A s H (genEnv scope (cloFrom X.env.cells scope.names []) s.heap.objs.size code builtinsNs X.env) fp) [] (wipe σ (own.map (·.2))) H { s with gens := G, toks := tk, heap := h5 } := by
  have hfree : ∀ y ∈ scope.names, y.2 = .free → ∃ c, X.env.cells.lookup y.1 = some c := fun y hy e => by
    rcases ok.free y hy e with k | k
    · exact I.ok.has _ (.inl k)
    · exact I.ok.has _ (.inr k)
  have cm : ∀ {y c}, (cloFrom X.env.cells scope.names []).lookup y = some c → X.env.cells.lookup y = some c := fun {y c} e => by
    rcases cloFrom_mem (PySem.mem_of_lookup e) with hm | ⟨h1, h2⟩
    · cases hm
    · obtain ⟨c1, hc⟩ := hfree _ h1 rfl
      have hc : X.env.cells.lookup y = some c1 := hc
      have e2 : c = c1 := by
        rw [h2, hc] <;> rfl
      rw [e2]
      exact hc
  have look : ∀ {y}, scope.names.lookup y = some .free → ∃ c, (cloFrom X.env.cells scope.names []).lookup y = some c := fun {y} hl => by
    have hy : (y, NameKind.free) ∈ scope.names := PySem.mem_of_lookup hl
    exact mem_lookup (cloFrom_has (cells := X.env.cells) (acc := []) hy)
  have cellK : ∀ {c : Addr} {v : Option Value}, s.heap.IsCell c v → h5.IsCell c v := fun {c v} ⟨o, ho, hd⟩ => ⟨o, kp _ _ ho, hd⟩
  have clt : ∀ {y c}, X.env.cells.lookup y = some c → c < s.heap.objs.size := fun {y c} e => by
    obtain ⟨w, z⟩ := I.cell _ _ e
    exact z.lt
  refine ⟨⟨I.ok.mod, ok.kind, I.ok.glob, rfl, Nat.le_refl _, fun y z c e1 e2 => I.ok.inj y z c (cm e1) (cm e2), fun y hy => ?_, fun y c z _ => ?_, fun _ => hh, hfr, .inr ⟨rfl, rfl⟩, fun b hb => ⟨?_, fun y c e z => ?_⟩, I.bs, Nat.le_trans I.ok.bsz I.sz, fun b o e hb => ?_, fun b hb z => ?_, I.stack, I.stkFree⟩,
    rfl, hG, Un.kept kp, ⟨_, hns, fun i y av e1 e2 e3 => ?_⟩, fun y c e => ?_, I.hok.fresh (Nat.le_refl _), fun y c e => I.freeC y c (cm e), fun q hq => absurd (show q ∈ ([] : List (Addr × Obj)) ++ [] from hq) (by simp), I.hok.kept kp, by rw [wipe_length]; exact I.len⟩
  · have hy : scope.names.lookup y = some .cell ∨ scope.names.lookup y = some .free := hy
    rcases hy with hy | hy
    · exact absurd rfl (gk.cell _ (PySem.mem_of_lookup hy))
    · exact look hy
  · have z : false = true := z
    cases z
  · exact Nat.ne_of_lt (hfp b hb).2
  · exact (hfp b hb).1.2.2.2.2.1 y c (cm e) z
  · rcases (hfp b hb).1.2.2.2.1 with z | z
    · exact I.ok.noex b o e z
    · exact absurd (Nat.lt_of_lt_of_le (Heap.lt_size e) (Nat.le_trans I.ok.bsz z)) (Nat.lt_irrefl _)
  · rcases List.mem_cons.mp (I.stkSub b z) with z | z
    · exact (hfp b hb).1.2.1 z
    · exact (hfp b hb).1.2.2.1 z
  · obtain ⟨e2, hne⟩ := wipe_some e2
    have hfr : scope.names.lookup y = some .free := by
      have no : ¬ (scope.names.lookup y = some .local ∨ scope.names.lookup y = some .cell) := fun hh => by
        have hm : (y, NameKind.local) ∈ scope.names ∨ (y, NameKind.cell) ∈ scope.names := hh.elim (fun z => .inl (PySem.mem_of_lookup z)) fun z => .inr (PySem.mem_of_lookup z)
        have e' : y ∈ own.map (·.1) ∨ y ∉ X.N := hm.elim (fun z => ok.own _ z (.inl rfl)) fun z => ok.own _ z (.inr rfl)
        rcases e' with e' | e'
        · obtain ⟨p, hp, hpy⟩ := List.mem_map.mp e'
          have e3 := ok.ix p hp
          have : p.1 = y := hpy
          rw [this] at e3
          exact hne (List.mem_map.mpr ⟨p, hp, nodup_ix hN e3 e1⟩)
        · exact e' (List.mem_of_getElem? e1)
      have e3 : Vis scope y := e3
      rcases e3 with e3 | e3 | e3
      · exact (no (.inl e3)).elim
      · exact (no (.inr e3)).elim
      · exact e3
    obtain ⟨m, hn, hl⟩ := I.loc
    have hvis : Vis X.env.scope y := (ok.free _ (PySem.mem_of_lookup hfr) rfl).elim (fun k => .inr (.inl k)) (fun k => .inr (.inr k))
    obtain ⟨w, r, q⟩ := hl i y av e1 e2 hvis
    obtain ⟨c2, h2⟩ := look hfr
    refine ⟨w, r, .inr ⟨.inr hfr, c2, h2, ?_⟩⟩
    have c1 := cm h2
    rcases q with ⟨k, _⟩ | ⟨_, c', e', z⟩
    · have k : X.env.scope.names.lookup y = some .local := k
      rcases ok.free _ (PySem.mem_of_lookup hfr) rfl with k' | k' <;> rw [show X.env.scope.names.lookup y = _ from k'] at k <;> cases k
    · rw [c1] at e'
      cases e'
      exact cellK z
  · obtain ⟨w, z⟩ := I.cell y c (cm e)
    exact ⟨w, cellK z⟩
end
end DL
set_option Elab.async false
set_option linter.all false
set_option maxRecDepth 100000
set_option maxHeartbeats 1000000
namespace DL
open PySem L2 PySem.Spec PyProof.Rows GenW
/-- the consumer's turn while the generator sleeps: only its own records at S change -/
structure Slp (S : List Addr) (s s' : Shared) : Prop where
  os : s'.os = s.os
  bare : AllBare s'.gens
  keep : ∀ b o, b ∉ S → s.heap.get? b = some o → s'.heap.get? b = some o
/-- the consumer's records as they stand -/
structure Held (S : List Addr) (ps : List (Addr × Obj)) (s : Shared) : Prop where
  at_ : ps.map (·.1) = S
  ok : ∀ p ∈ ps, s.heap.get? p.1 = some p.2 ∧ ∀ v, p.2.data ≠ .cell v
/-- the generator's own things: Xg its context, pa its object (pinned), S the consumer's records, the iterator -/
structure Ge where
  Xg : Cx
  pa : Addr × Obj
  S : List Addr
  σ0 : L2.St
  fp : List Addr
  it : Addr
  tn : Nat → Heap → Prop
  J : It
  vs : List Nat
/-- between two turns -/
structure GInv (g : Ge) (i : Nat) (ps : List (Addr × Obj)) (H : Hp) (s : Shared) : Prop where
  at_ : ps.map (·.1) = g.S
  inv : Inv g.Xg (g.pa :: ps) g.σ0 H s
  tn : g.tn i s.heap
  fp : ∀ b ∈ g.fp, H b = none
/-- at the end -/
structure GEnd (g : Ge) (ps : List (Addr × Obj)) (H : Hp) (s : Shared) : Prop where
  at_ : ps.map (·.1) = g.S
  inv : Inv g.Xg (g.pa :: ps) g.σ0 H s
  fp : ∀ b ∈ g.fp, H b = none
theorem GInv.end {g : Ge} {i : Nat} {ps : List (Addr × Obj)} {H : Hp} {s : Shared} (h : GInv g i ps H s) : GEnd g ps H s := ⟨h.at_, h.inv, h.fp⟩
theorem GEnd.held {g : Ge} {ps : List (Addr × Obj)} {H : Hp} {s : Shared} (h : GEnd g ps H s) : Held g.S ps s := ⟨h.at_, fun p hp =>
  let z := h.inv.pin p (List.mem_append_right _ (List.mem_cons_of_mem _ hp)); ⟨z.1, z.2.2.2.2⟩⟩
structure GeOk (g : Ge) (tg : Expr) : Prop where
  pn : g.Xg.pn = []
  ex : g.Xg.ex = g.fp
  calm : g.Xg.calm = true
  xe : g.Xg.xe = fun _ _ => False
  turn : Turn g.Xg.prog g.Xg.w g.Xg.K tg g.J g.fp g.it g.tn
  apart : ∀ b ∈ g.S, g.Xg.s_0.heap.objs.size ≤ b ∧ b ≠ g.Xg.env.locals ∧ b ≠ g.pa.1 ∧ b ∉ g.fp ∧ ∀ x c, g.Xg.env.cells.lookup x = some c → c ≠ b
  gen : g.pa.1 ∉ g.fp
section
variable {g : Ge} {tg : Expr} {i : Nat} {H : Hp} {s s' : Shared} {ps ps' : List (Addr × Obj)}
theorem GeOk.fpok (k : GeOk g tg) {σ' : L2.St} {ps : List (Addr × Obj)} (hps : ps.map (·.1) = g.S) (I : Inv g.Xg (g.pa :: ps) σ' H s) (hn : ∀ b ∈ g.fp, H b = none) : ∀ b ∈ g.fp, FpOk g.Xg (g.pa :: ps) H b := fun b hb => by
  have hx : b ∈ g.Xg.ex := by rw [k.ex]; exact hb
  refine ⟨hn b hb, (I.ok.exf b hx).1, I.ok.exfs b hx, .inl hx, fun x c e => (I.ok.exf b hx).2 x c e, fun p hp => ?_⟩
  rw [k.pn, List.nil_append] at hp
  rcases List.mem_cons.mp hp with z | z
  · rw [z]
    exact fun e => k.gen (by rw [e]; exact hb)
  · have hm : p.1 ∈ g.S := by rw [← hps]; exact List.mem_map.mpr ⟨p, z, rfl⟩
    exact fun e => (k.apart p.1 hm).2.2.2.1 (by rw [e]; exact hb)
/-- behind the consumer's turn -/
theorem GInv.slept (k : GeOk g tg) (h : GInv g i ps H s) (z : Slp g.S s s') (hd : Held g.S ps' s') : GInv g i ps' H s' := by
  obtain ⟨hps, I, st, hn⟩ := h
  have pinS : ∀ b ∈ g.S, ∃ o, s.heap.get? b = some o ∧ H b = none ∧ b ≠ g.Xg.env.locals ∧ b ∉ g.Xg.fs := fun b hb => by
    rw [← hps] at hb
    obtain ⟨p, hp, e⟩ := List.mem_map.mp hb
    obtain ⟨h1, h2, h3, h4, _⟩ := I.pin p (List.mem_append_right _ (List.mem_cons_of_mem _ hp))
    rw [← e]
    exact ⟨_, h1, h2, h3, h4⟩
  have pinA := I.pin g.pa (List.mem_append_right _ List.mem_cons_self)
  have I0 : Inv g.Xg [g.pa] g.σ0 H s := I.pins_of fun p hp => by
    rw [List.mem_singleton.mp hp]
    exact pinA
  have nt : ∀ b u, H b = some u → b ∉ g.S := fun b u q hb => by
    obtain ⟨_, _, h2, _⟩ := pinS b hb
    rw [h2] at q; cases q
  have hz := z
  obtain ⟨z1, z2, z3⟩ := z
  obtain ⟨hh, G, d, t, o⟩ := s'
  have ho : o = s.os := z1
  subst ho
  have J : Inv g.Xg [g.pa] g.σ0 H { s with heap := hh, gens := G, drawn := d, toks := t } := by
    refine I0.step (g' := G) (t' := t) (d' := d) (ch := g.S) (fun b hb => ?_)
      (fun b ob _ _ hc q _ => z3 b ob hc q) (fun b ob _ _ hc q _ => ⟨ob.slots, z3 b ob hc q⟩) (fun _ _ _ _ n => n) (fun b ob hc q => ⟨ob, z3 b ob hc q⟩)
      (fun _ _ q => q) (fun _ _ _ q => q) (fun b ps q => ⟨#[], by rw [q]; simp⟩) (fun m hm => ?_) (fun b u q => ?_) z2
    · obtain ⟨a1, a2, a3, a4, a5⟩ := k.apart b hb
      refine ⟨.inr a1, a2, a5, fun p hp => ?_⟩
      rw [k.pn, List.nil_append] at hp
      rw [List.mem_singleton.mp hp]
      exact fun e => a3 e.symm
    · obtain ⟨ob, es, ep, ho, r⟩ := hm
      exact ⟨ob, es, ep, z3 _ ob (fun hb => (k.apart _ hb).2.1 rfl) ho, r⟩
    · refine (I0.hok b u q).stay (fun c v hc y => z3 c v ?_ y) (fun _ y => y) fun _ _ y => y
      rcases hc with y | y
      · rw [y]; exact nt b u q
      · exact nt c _ y
  have hp' : ∀ p ∈ ps', hh.get? p.1 = some p.2 ∧ H p.1 = none ∧ p.1 ≠ g.Xg.env.locals ∧ p.1 ∉ g.Xg.fs ∧ ∀ v, p.2.data ≠ .cell v := fun p hp => by
    obtain ⟨q1, q2⟩ := hd.ok p hp
    obtain ⟨_, _, h2, h3, h4⟩ := pinS p.1 (by rw [← hd.at_]; exact List.mem_map.mpr ⟨p, hp, rfl⟩)
    exact ⟨q1, h2, h3, h4, q2⟩
  refine ⟨hd.at_, J.pins_of fun p hp => ?_, k.turn.keep _ _ _ st fun b hb o e => z3 b o (fun hb2 => (k.apart b hb2).2.2.2.1 hb) e, hn⟩
  rcases List.mem_cons.mp hp with z | z
  · rw [z]
    exact J.pin g.pa (List.mem_append_right _ List.mem_cons_self)
  · exact hp' p z
/-- what is told at a yield, at the end -/
def GYld (g : Ge) (N : Nat) (Rest : Nat → List (Addr × Obj) → Hp → Prop) (Yl : Nat → List (Addr × Obj) → V → Hp → Prop) : Protocol := fun n s₀ v s kap =>
  ∃ i x H ps, N ≤ n + (i + 1) ∧ RelV x v ∧ GInv g (i + 1) ps H s ∧ Held g.S ps s₀ ∧ Yl i ps x H ∧ ∀ s' ps', Slp g.S s s' → Held g.S ps' s' → Rest (i + 1) ps' H → kap (.send .none) s'
abbrev GDn (g : Ge) (Dn : List (Addr × Obj) → Hp → Prop) : GenEnd := fun n s₀ r s => r = .ok .next ∧ ∃ H ps, GEnd g ps H s ∧ Held g.S ps s₀ ∧ Dn ps H
theorem compTurn_ge (elt target iter : Expr) (ifs : List Expr) (scope : Scope) (pos : Pos) (it acc : Value) (env : Env) :
    compTurn (.GeneratorExp elt [⟨target, iter, ifs, 0⟩] scope pos) 0 it acc env = (do
      standAt iter.pos
      match ← pyNext it with
      | none => pure (.done .next)
      | some v =>
        letOwnedTupleGo target it v
        assign target env v
        let ok ← forIn ifs true fun c r => if r = true then do let ok ← isTrue c env (eval c env); pure (ForInStep.yield ok) else pure (ForInStep.yield r)
        if ok then
          (do let v ← eval elt env; standAt elt.pos; let _ ← yieldOut env v)
        again (.compLoop (.GeneratorExp elt [⟨target, iter, ifs, 0⟩] scope pos) 0 it acc env)) := by rfl
theorem seg_ge {A : Around} {elt iter : Expr} {ifs : List Expr} {scope : Scope} {pos : Pos} {gd : TG} {tt : TT} {te : TE} {N : Nat} {Rest : Nat → List (Addr × Obj) → Hp → Prop} {Dn : List (Addr × Obj) → Hp → Prop} {Yl : Nat → List (Addr × Obj) → V → Hp → Prop} (k : GeOk g tg)
    (hA : A.over (.compLoop (.GeneratorExp elt [⟨tg, iter, ifs, 0⟩] scope pos) 0 (.ref g.it) .none g.Xg.env) [] = g.Xg.A) (hco : g.Xg.env.scope.isCoroutine = false)
    (hg : PG g.Xg tg gd) (ht : PTs g.Xg ifs tt) (he : PE g.Xg elt te) (hw0 : wipe g.σ0 g.vs = g.σ0)
    (turn : ∀ i ps H, ps.map (·.1) = g.S → Rest i ps H → (g.J.stop i H ∧ Dn ps H) ∨ (i < N ∧ g.J.go i H ∧ ∀ x H', g.J.yld i H x H' → gd x g.σ0 H' fun σ2 H2 => wipe σ2 g.vs = g.σ0 ∧ tt σ2 H2 fun b H3 => if b = true then te σ2 H3 fun y H4 => Yl i ps y H4 else Rest (i + 1) ps H3)) :
    ∀ (m i n : Nat) (s₀ s : Shared) (H : Hp) (ps : List (Addr × Obj)), N - i = m → m ≤ n → GInv g i ps H s → Held g.S ps s₀ → Rest i ps H →
      Seg (model g.Xg.prog g.Xg.w) A (GDn g Dn) (GYld g N Rest Yl) n s₀ (.compLoop (.GeneratorExp elt [⟨tg, iter, ifs, 0⟩] scope pos) 0 (.ref g.it) .none g.Xg.env)
        ((model g.Xg.prog g.Xg.w).den (.compLoop (.GeneratorExp elt [⟨tg, iter, ifs, 0⟩] scope pos) 0 (.ref g.it) .none g.Xg.env)) [] s := by
  have noE : ∀ {α : Type} {Kx : Value → Shared → Prop} {t : Sem α} {Q : α → Shared → Prop} {s : Shared}, wpAny (model g.Xg.prog g.Xg.w) g.Xg.A t Q g.Xg.xe s → wpAny (model g.Xg.prog g.Xg.w) g.Xg.A t Q Kx s := fun h => by
    rw [k.xe] at h
    exact wpAny_mono h (fun _ _ e => e) fun _ _ e => e.elim
  have stop_ : ∀ (i n : Nat) (s₀ s : Shared) (H : Hp) (ps : List (Addr × Obj)), GInv g i ps H s → Held g.S ps s₀ → g.J.stop i H → Dn ps H →
      Seg (model g.Xg.prog g.Xg.w) A (GDn g Dn) (GYld g N Rest Yl) n s₀ (.compLoop (.GeneratorExp elt [⟨tg, iter, ifs, 0⟩] scope pos) 0 (.ref g.it) .none g.Xg.env)
        ((model g.Xg.prog g.Xg.w).den (.compLoop (.GeneratorExp elt [⟨tg, iter, ifs, 0⟩] scope pos) 0 (.ref g.it) .none g.Xg.env)) [] s := by
    intro i n s₀ s H ps hI h0 stop hd
    obtain ⟨hps, I, st, hnn⟩ := hI
    show Seg _ A _ _ _ s₀ _ ((compTurn (.GeneratorExp elt [⟨tg, iter, ifs, 0⟩] scope pos) 0 (.ref g.it) .none g.Xg.env).onRaise (leaving g.Xg.env)) [] s
    rw [compTurn_ge, Sem.onRaise_eq_wrap]
    refine seg_bind_wrap (wpAny_standAt ?_)
    refine seg_bind_wrap ?_
    rw [hA]
    refine thn (k.turn.done g.Xg rfl rfl rfl k.calm i _ s _ H _ I (k.fpok hps I hnn) st stop) fun r s1 ⟨hr, I1⟩ => ?_
    subst hr
    exact seg_end (.ok .next) ⟨rfl, H, ps, ⟨hps, I1, hnn⟩, h0, hd⟩
  intro m
  induction m with
  | zero =>
    intro i n s₀ s H ps hm hn hI h0 hR
    rcases turn i ps H hI.at_ hR with ⟨stop, hd⟩ | ⟨hlt, _⟩
    · exact stop_ i n s₀ s H ps hI h0 stop hd
    · omega
  | succ m ih =>
    intro i n s₀ s H ps hm hn hI h0 hR
    rcases turn i ps H hI.at_ hR with ⟨stop, hd⟩ | ⟨hlt, go, step⟩
    · exact stop_ i n s₀ s H ps hI h0 stop hd
    obtain ⟨hps, I, st, hnn⟩ := hI
    obtain ⟨n, rfl⟩ : ∃ n', n = n' + 1 := ⟨n - 1, by omega⟩
    show Seg _ A _ _ _ s₀ _ ((compTurn (.GeneratorExp elt [⟨tg, iter, ifs, 0⟩] scope pos) 0 (.ref g.it) .none g.Xg.env).onRaise (leaving g.Xg.env)) [] s
    rw [compTurn_ge, Sem.onRaise_eq_wrap]
    refine seg_bind_wrap (wpAny_standAt ?_)
    refine seg_bind_wrap ?_
    rw [hA]
    refine thn (k.turn.item g.Xg rfl rfl rfl k.calm i _ s _ H _ I (k.fpok hps I hnn) st go) fun r s1 ⟨u, hr, h1⟩ => ?_
    subst hr
    refine seg_bind_wrap ?_
    rw [hA]
    refine thn h1 fun _ s2 ⟨x, H2, I2, r2, y2, st2, n2⟩ => ?_
    have I2' := I2.pinned (k.fpok hps I2 n2) (k.turn.obj _ _ st2)
    refine seg_bind_wrap ?_
    rw [hA]
    refine noE (thn (hg.run _ s2 _ H2 x u _ I2' r2 (step x H2 y2)) fun _ s3 ⟨σ3, H3, I3, hw3, q3⟩ => ?_)
    refine seg_bind_wrap ?_
    rw [hA]
    refine noE (thn (ht.run _ s3 σ3 H3 _ I3 q3) fun b s4 ⟨H4, I4, q4⟩ => ?_)
    -- the turn's end
    have fin : ∀ {s' : Shared} {H' : Hp}, Inv g.Xg (g.pa :: ps ++ pinsAt g.fp s2.heap) σ3 H' s' → GInv g (i + 1) ps H' s' := fun {s' H'} I' => by
      have pin' : ∀ b ∈ g.fp, ∀ o, s2.heap.get? b = some o → s'.heap.get? b = some o ∧ H' b = none := fun b hb o e =>
        let z := I'.pin (b, o) (List.mem_append_right _ (List.mem_append_right _ (mem_pinsAt hb e)))
        ⟨z.1, z.2.1⟩
      have hl : g.σ0.length = σ3.length := by rw [← hw3, wipe_length]
      refine ⟨hps, (I'.unpinned (pins := g.pa :: ps)).weak hl (fun j v e => ?_), k.turn.keep _ _ _ st2 fun b hb o e => (pin' b hb o e).1, fun b hb => ?_⟩
      · rw [← hw3] at e
        exact (wipe_some e).1
      · obtain ⟨o, e, _⟩ := k.turn.obj _ _ st2 b hb
        exact (pin' b hb o e).2
    cases b with
    | false =>
      simp only [Bool.false_eq_true, if_false] at q4 ⊢
      exact seg_again rfl (ih (i + 1) (n + 1) s₀ s4 H4 ps (by omega) (by omega) (fin I4) h0 q4)
    | true =>
      simp only [if_true] at q4 ⊢
      have hy : ∀ v, yieldOut g.Xg.env v = yieldValue v := fun v => by simp only [yieldOut, hco, Bool.false_eq_true, if_false]
      simp only [hy]
      rw [Sem.bind_eq_wrap', Sem.bind_eq_wrap', Sem.wrap_wrap, Sem.wrap_wrap]
      refine seg_wrap ?_
      rw [hA]
      refine noE (thn (he.run _ s4 σ3 H4 _ I4 q4) fun z s5 ⟨yv, H5, I5, r5, q5⟩ => ?_)
      refine seg_at (seg_yield rfl rfl rfl ⟨i, yv, H5, ps, by omega, r5, fin I5, h0, q5, fun s'' ps' hz hd' hR' => ?_⟩)
      exact seg_again rfl (ih (i + 1) n s'' s'' H5 ps' (by omega) (by omega) ((fin I5).slept k hz hd') hd' hR')
theorem seg_ge0 {A : Around} {elt iter : Expr} {ifs : List Expr} {scope : Scope} {pos : Pos} {N n : Nat} {Rest : Nat → List (Addr × Obj) → Hp → Prop} {Dn : List (Addr × Obj) → Hp → Prop} {Yl : Nat → List (Addr × Obj) → V → Hp → Prop} {s₀ : Shared} (k : GeOk g tg)
    (hI : GInv g 0 ps H s)
    (loop : Seg (model g.Xg.prog g.Xg.w) A (GDn g Dn) (GYld g N Rest Yl) n s₀ (.compLoop (.GeneratorExp elt [⟨tg, iter, ifs, 0⟩] scope pos) 0 (.ref g.it) .none g.Xg.env)
        ((model g.Xg.prog g.Xg.w).den (.compLoop (.GeneratorExp elt [⟨tg, iter, ifs, 0⟩] scope pos) 0 (.ref g.it) .none g.Xg.env)) [] s) :
    Seg (model g.Xg.prog g.Xg.w) A (GDn g Dn) (GYld g N Rest Yl) n s₀ (.compStart (.GeneratorExp elt [⟨tg, iter, ifs, 0⟩] scope pos) 0 (.ref g.it) .none g.Xg.env)
        ((model g.Xg.prog g.Xg.w).den (.compStart (.GeneratorExp elt [⟨tg, iter, ifs, 0⟩] scope pos) 0 (.ref g.it) .none g.Xg.env)) [] s := by
  obtain ⟨hps, I, st, hnn⟩ := hI
  show Seg _ A _ _ _ s₀ _ ((compStart (.GeneratorExp elt [⟨tg, iter, ifs, 0⟩] scope pos) 0 (.ref g.it) .none g.Xg.env).onRaise (leaving g.Xg.env)) [] s
  unfold compStart
  rw [Sem.onRaise_eq_wrap]
  show Seg _ A _ _ _ s₀ _ ((ask >>= _).wrap _ _ _ _) [] s
  refine seg_bind_wrap (wpAny_askSetting ?_)
  split
  · exact seg_again rfl loop
  · first
      | exact seg_bind_wrap (wpAny_rule (seg_bind_wrap (wpAny_standAt (seg_bind_wrap (k.turn.self _ 0 s _ _ st (seg_again rfl loop))))))
      | (refine seg_bind_wrap (wpAny_rule ?_); show Seg _ A _ _ _ s₀ _ ((standAt iter.pos >>= _).wrap _ _ _ _) [] s; exact seg_bind_wrap (wpAny_standAt (seg_bind_wrap (k.turn.self _ 0 s _ _ st (seg_again rfl loop)))))
/-- ready to be woken, n times at most -/
def GAt (g : Ge) (N : Nat) (Rest : Nat → List (Addr × Obj) → Hp → Prop) (Dn : List (Addr × Obj) → Hp → Prop) (Yl : Nat → List (Addr × Obj) → V → Hp → Prop) (gi : Nat) (A : Around) (n i : Nat) (ps : List (Addr × Obj)) (H : Hp) (s : Shared) : Prop :=
  GInv g i ps H s ∧ ∃ gs, s.gens[gi]? = some gs ∧ ∀ s' ps', Slp g.S s s' → Held g.S ps' s' → Rest i ps' H → gs.Goes (model g.Xg.prog g.Xg.w) A (GDn g Dn) (GYld g N Rest Yl) n (.send .none) s'
theorem GInv.obj (h : GInv g i ps H s) : s.heap.get? g.pa.1 = some g.pa.2 := (h.inv.pin g.pa (List.mem_append_right _ List.mem_cons_self)).1
theorem Slp.gens {S : List Addr} {G : Array GenState} (hG : AllBare G) : Slp S s { s with gens := G } := ⟨rfl, hG, fun _ _ _ e => e⟩
theorem GAt.slept {N n : Nat} {Rest : Nat → List (Addr × Obj) → Hp → Prop} {Dn : List (Addr × Obj) → Hp → Prop} {Yl : Nat → List (Addr × Obj) → V → Hp → Prop} {gi : Nat} {A : Around} (k : GeOk g tg) (h : GAt g N Rest Dn Yl gi A n i ps H s) (z : Slp g.S s s') (hd : Held g.S ps' s') (hg : s'.gens[gi]? = s.gens[gi]?) : GAt g N Rest Dn Yl gi A n i ps' H s' := by
  obtain ⟨h1, gs, h2, h4⟩ := h
  exact ⟨h1.slept k z hd, gs, by rw [hg]; exact h2, fun s'' ps'' z' => h4 s'' ps'' ⟨z'.os.trans z.os, z'.bare, fun b o hb e => z'.keep b o hb (z.keep b o hb e)⟩⟩
theorem held_inj {S : List Addr} (h : Held S ps s) (h' : Held S ps' s) : ps = ps' := by
  obtain ⟨a, b⟩ := h
  obtain ⟨a', b'⟩ := h'
  refine List.ext_getElem? fun j => ?_
  have e : (ps.map (·.1))[j]? = (ps'.map (·.1))[j]? := by rw [a, a']
  rw [List.getElem?_map, List.getElem?_map] at e
  cases h1 : ps[j]? with
  | none =>
    cases h2 : ps'[j]? with
    | none => rfl
    | some q => rw [h1, h2] at e; cases e
  | some p =>
    cases h2 : ps'[j]? with
    | none => rw [h1, h2] at e; cases e
    | some q =>
      rw [h1, h2] at e
      have e1 : p.1 = q.1 := Option.some.inj e
      have e2 := (b p (List.mem_of_getElem? h1)).1
      have e3 := (b' q (List.mem_of_getElem? h2)).1
      rw [e1, e3] at e2
      have e4 : q.2 = p.2 := Option.some.inj e2
      rw [show p = q from Prod.ext e1 e4.symm]
theorem ge_next {A : Around} {N n : Nat} {Rest : Nat → List (Addr × Obj) → Hp → Prop} {Dn : List (Addr × Obj) → Hp → Prop} {Yl : Nat → List (Addr × Obj) → V → Hp → Prop} {gi : Nat} {Q : Option Value → Shared → Prop} {E : Value → Shared → Prop} (k : GeOk g tg) (hgen : ∀ h : Heap, h.get? g.pa.1 = some g.pa.2 → h.IsGen g.pa.1 gi)
    (hh : A.handled = none) (hroom : A.depth < recursionLimit) (h : GAt g N Rest Dn Yl gi A.in1 n i ps H s) (hR : Rest i ps H)
    (hY : ∀ j x v H' s', RelV x v → Yl j ps x H' → GInv g (j + 1) ps H' s' → (∀ s'' ps', Slp g.S s' s'' → Held g.S ps' s'' → s''.gens[gi]? = s'.gens[gi]? → Rest (j + 1) ps' H' → ∃ n', n = n' + 1 ∧ GAt g N Rest Dn Yl gi A.in1 n' (j + 1) ps' H' s'') → Q (some v) s')
    (hD : ∀ H' s', GEnd g ps H' s' → Dn ps H' → Q none s') : wpAny (model g.Xg.prog g.Xg.w) A (pyNext (.ref g.pa.1)) Q E s := by
  obtain ⟨hI, gs, hgs, hgo⟩ := h
  have hlt : gi < s.gens.size := by
    rcases Nat.lt_or_ge gi s.gens.size with h' | h'
    · exact h'
    · rw [Array.getElem?_eq_none h'] at hgs; cases hgs
  have hh0 : Held g.S ps (s.setGen gi .running) := ⟨hI.end.held.at_, hI.end.held.ok⟩
  refine wpAny_gsz (n := gi + 1) hlt ?_
  refine wpAny_pyNext_genexpQ (P := fun _ s₀ s₁ => ∃ H ps, GEnd g ps H s₁ ∧ Held g.S ps s₀ ∧ Dn ps H) (Y := GYld g N Rest Yl) hh hI.inv.nolimit hroom (hgen _ hI.obj) hgs (hgo _ ps (Slp.gens (allBare_setGen hI.inv.bare rfl)) hh0 hR) (fun v s₁ gs' hb hv => ?_) (fun s₁ hp h' hk => ?_)
  · obtain ⟨j, x, H', ps1, hn', rv, hI', hs0, hy, hkap⟩ := hv
    obtain rfl := held_inj hs0 hh0
    intro hsz
    have hsz' : gi < s₁.gens.size := by
      have := setGen_size s₁ gi gs'
      omega
    have slp : Slp g.S s₁ (s₁.setGen gi gs') := Slp.gens (allBare_setGen hI'.inv.bare hb)
    have hI2 : GInv g (j + 1) ps1 H' (s₁.setGen gi gs') := hI'.slept k slp ⟨hI'.end.held.at_, hI'.end.held.ok⟩
    refine hY j x v H' _ rv hy hI2 fun s'' ps' hz hd hg hR => ?_
    have hz1 : Slp g.S s₁ s'' := ⟨hz.os, hz.bare, fun b o hb e => hz.keep b o hb e⟩
    cases n with
    | zero => exact (hkap s'' ps' hz1 hd hR).elim
    | succ n =>
      refine ⟨n, rfl, hI2.slept k hz hd, gs', by rw [hg]; simp [Shared.setGen, hsz'], fun s3 ps3 hz3 hd3 hR3 => ?_⟩
      exact hkap s3 ps3 ⟨hz3.os.trans hz1.os, hz3.bare, fun b o hb e => hz3.keep b o hb (hz1.keep b o hb e)⟩ hd3 hR3
  · obtain ⟨H', ps1, ⟨hps, I, hnn⟩, hs0, hd⟩ := hp
    obtain rfl := held_inj hs0 hh0
    intro _
    exact hD H' _ ⟨hps, (inv_gens I (allBare_setGen I.bare rfl)).kept (t' := s₁.toks) hk, hnn⟩ hd
end
end DL
set_option Elab.async false
set_option linter.all false
set_option maxRecDepth 100000
set_option maxHeartbeats 1000000
namespace DL
open PySem L2 PySem.Spec PyProof.Rows GenW
/-- a generator has been made: s4 the state ahead of its frame -/
structure GNew (X : Cx) (pins : List (Addr × Obj)) (σ : L2.St) (elt tg iter : Expr) (ifs : List Expr) (scope : Scope) (gpos : Pos) (H4 : Hp) (J : It) (a : Addr) (s5 : Shared) : Prop where
  ex : ∃ (s4 : Shared) (it : Addr) (fp : List Addr) (tn : Nat → Heap → Prop) (code : Value) (gs : GenState) (tk : Nat) (h5 : Heap) (m5 : Str → Option Value) (ob : Obj),
    Inv X pins σ H4 s4 ∧ Turn X.prog X.w X.K tg J fp it tn ∧ tn 0 s4.heap ∧ (∀ b ∈ fp, FpOk X pins H4 b ∧ b < s4.heap.objs.size) ∧
    gs = .fresh (.compStart (.GeneratorExp elt [⟨tg, iter, ifs, 0⟩] scope gpos) 0 (.ref it) .none (genEnv scope (cloFrom X.env.cells scope.names []) s4.heap.objs.size code builtinsNs X.env)) ∧
    s5 = { s4 with gens := s4.gens.push gs, toks := tk, heap := h5 } ∧ (∀ b o, s4.heap.get? b = some o → h5.get? b = some o) ∧ h5.Ns s4.heap.objs.size m5 ∧ s4.heap.objs.size < a ∧ h5.get? a = some ob ∧
    (∀ h : Heap, h.get? a = some ob → h.IsGen a s4.gens.size) ∧ ∀ v, ob.data ≠ .cell v
section
variable {X : Cx} {pins : List (Addr × Obj)} {σ : L2.St} {H : Hp} {s : Shared}
theorem ge_make {T : List (Addr × Str)} {c P : Addr} {elt tg iter : Expr} {ifs : List Expr} {scope : Scope} {gpos : Pos} {own : List (Str × Nat)} {wi : TI} {Q : Value → Shared → Prop} {k : Nat}
    (I : Inv X pins σ H s) (hr : Room k X.A) (TB : LamX.TabB X.base X.mg c P) (hcode : X.env.code = .ref c) (hmT : (P, X.env.qual ++ "<genexpr>") ∈ T) (hu : ∀ p ∈ T, p.1 = P → p.2 = X.env.qual ++ "<genexpr>")
    (hi : PI X tg iter wi) (ok : BlkOk X.N X.env.scope scope own) (gk : GenOk scope) (hs : ∀ v, genFold iter X.env v = pure v)
    {Rr : It → Hp → Prop} (h : wi σ H Rr) (hRr : ∀ J H1, Rr J H1 → LamX.Tabs T H1 ∧ ∀ H2, LamX.ExtN H1 H2 → LamX.Tabs T H2 → ∀ a s5, GNew X pins σ elt tg iter ifs scope gpos H2 J a s5 → Q (.ref a) s5) :
    wpAny (model X.prog X.w) X.A (eval (.GeneratorExp elt [⟨tg, iter, ifs, 0⟩] scope gpos) X.env) Q X.xe s := by
  have hfree : ∀ y ∈ scope.names, y.2 = .free → ∃ c, X.env.cells.lookup y.1 = some c := fun y hy e => by
    rcases ok.free y hy e with k | k
    · exact I.ok.has _ (.inl k)
    · exact I.ok.has _ (.inr k)
  refine wpAny_GeneratorExp_make gk.co (closure_ok hfree) gk.cell gk.dot ok.kind hr.depth (thn (hi.run pins s σ H _ I h) fun xv s1 hx => thn hx fun itv s2 h2 => ?_) hs
  obtain ⟨it, fp, tn, J, H2, e, I2, Tu, st2, f2, hRj⟩ := h2
  obtain ⟨hT, q⟩ := hRr J H2 hRj
  subst e
  refine ⟨I2.nolimit, ?_⟩
  obtain ⟨ps, hP, ht, ha⟩ := hT _ hmT
  have hP' : s2.heap.get? P = some { cls := .none, data := .fields ps } := I2.hok P _ hP
  have cd : PySem.W.CodeHd s2.heap c P := TB.code.keeps I2.bk
  have sz : ∀ b ∈ fp, b < s2.heap.objs.size := fun b hb => by
    obtain ⟨o, e, _⟩ := Tu.obj _ _ st2 b hb
    exact Heap.lt_size e
  -- behind the code
  have cont : ∀ (code : Value) (s4 : Shared) (H4 : Hp), Inv X pins σ H4 s4 → LamX.ExtN H2 H4 → LamX.Tabs T H4 → s4.gens = s2.gens → (∀ b o, b ≠ P → s2.heap.get? b = some o → s4.heap.get? b = some o) → (∀ b ∈ fp, H4 b = none) → s2.heap.objs.size ≤ s4.heap.objs.size →
      wpAny (model X.prog X.w) X.A (builtinsFor X.env.globals X.env.builtins) (fun bi s₄ =>
        ∀ h', h'.Ns s₄.heap.objs.size (fun y => if y = ".0" then some (.ref it) else none) → Heap.SameBut s₄.heap.objs.size (s₄.heap.push { cls := .type "frame", data := .dict #[] }) h' →
          Q (.ref h'.objs.size) { s₄ with
            gens := s₄.gens.push (.fresh (.compStart (.GeneratorExp elt [⟨tg, iter, ifs, 0⟩] scope gpos) 0 (.ref it) .none (genEnv scope (cloFrom X.env.cells scope.names []) s₄.heap.objs.size code bi X.env))),
            toks := s₄.toks + 1 + 1 + 1,
            heap := h'.push { cls := .type "generator", data := .fields #[.int s₄.gens.size 0, .str "<genexpr>" (s₄.toks + 1), .str (X.env.qual ++ "<genexpr>") (s₄.toks + 1 + 1)] } }) X.xe s4 := by
    intro code s4 H4 I4 e4 t4 g4 k4 n4 z4
    obtain ⟨bm, ob, e1, e2, e3, e4', e5, e6, e7, e8⟩ := TB.bm
    refine wpAny_builtinsFor (m := X.mg) (by rw [I4.ok.glob]; exact I4.mod.glob.keeps I4.bk) e1 e2 (I4.bk _ _ e5) e6 e7 e8 ?_
    intro h' hn' hs'
    have hsz : h'.objs.size = s4.heap.objs.size + 1 := by rw [hs'.1, Heap.size_push]
    have keep' : ∀ b o, s4.heap.get? b = some o → h'.get? b = some o := fun b o e => hs'.extBut b o (Nat.ne_of_lt (Heap.lt_size e)) (Heap.get?_push_of_some _ e)
    refine q H4 e4 t4 h'.objs.size _ ⟨⟨s4, it, fp, tn, code, _, _, _, _, { cls := .type "generator", data := .fields #[.int s4.gens.size 0, .str "<genexpr>" (s4.toks + 1), .str (X.env.qual ++ "<genexpr>") (s4.toks + 1 + 1)] }, I4, Tu, ?_, fun b hb => ?_, rfl, rfl, fun b o e => Heap.get?_push_of_some _ (keep' b o e), hn'.push _, by omega, Heap.get?_push_size _ rfl, fun h hh => ⟨_, _, _, hh, rfl, rfl, rfl⟩, fun v e => by cases e⟩⟩
    · refine Tu.keep _ _ _ st2 fun b hb o e => k4 b o (fun z => ?_) e
      have := (f2 b hb).1
      rw [z, hP] at this
      cases this
    · exact ⟨⟨n4 b hb, (f2 b hb).2⟩, Nat.lt_of_lt_of_le (sz b hb) z4⟩
  cases hc : codeAmong gpos ps.toList with
  | none =>
    refine wpAny_genexprCodeX hcode (cd.code hP' ht) (cd.tab hP') hc fun c' h' tk hx hge hlt hco hrec htab _ => ?_
    obtain ⟨c2, oc, vs, t, e2, hoc, hd, hv⟩ := hrec
    cases e2
    have hszz : s2.heap.objs.size ≤ h'.objs.size := Nat.le_trans hge (Nat.le_of_lt hlt)
    have nC : H2 c' = none := I2.hok.fresh hge
    have I3 := LamX.inv_table (t' := tk) (more := #[rawInt gpos.line, rawInt gpos.col, .ref c']) (h' := h') I2 hP hx htab.2 hge ⟨oc, vs, t, hoc, hd, hv⟩
    have hE : LamX.ExtN H2 (upd (upd H2 P (.tbl (ps ++ #[rawInt gpos.line, rawInt gpos.col, .ref c']))) c' (LamX.CodeO c' (X.env.qual ++ "<genexpr>"))) := fun b o e n => by
      rw [upd_ne (ne_of_none e nC), upd_ne (fun z => n ps (Option.some.inj (e.symm.trans (by rw [z]; exact hP))))]
      exact e
    have eL : (ps ++ #[rawInt gpos.line, rawInt gpos.col, .ref c']).toList = ps.toList ++ [rawInt gpos.line, rawInt gpos.col, .ref c'] := by simp
    refine cont _ _ _ I3 hE (fun p hp => ?_) rfl hx (fun b hb => ?_) hszz
    · by_cases hb : p.1 = P
      · rw [hu p hp hb, hb]
        refine ⟨_, by rw [upd_ne (ne_of_none hP nC), upd_same], by rw [eL]; exact PySem.TriplesOk_snoc _ _ _ _ ht, fun p' cv hcv => ?_⟩
        rw [eL] at hcv
        rcases LamX.among_app _ ht hcv with z | z
        · obtain ⟨c0, e1, e2⟩ := ha p' cv z
          exact ⟨c0, e1, hE _ _ e2 LamX.codeO_ne⟩
        · exact ⟨c', z, upd_same⟩
      · obtain ⟨ps', a1, a2, a3⟩ := hT p hp
        refine ⟨ps', by rw [upd_ne (ne_of_none a1 nC), upd_ne hb]; exact a1, a2, fun p' cv hcv => ?_⟩
        obtain ⟨c0, e1, e2⟩ := a3 p' cv hcv
        exact ⟨c0, e1, hE _ _ e2 LamX.codeO_ne⟩
    · have n1 : b ≠ c' := fun z => Nat.lt_irrefl _ (Nat.lt_of_lt_of_le (sz b hb) (by rw [z]; exact hge))
      have n2 : b ≠ P := fun z => by
        have := (f2 b hb).1
        rw [z, hP] at this
        cases this
      rw [upd_ne n1, upd_ne n2]
      exact (f2 b hb).1
  | some cv =>
    refine wpAny_genexprCode_hit hcode (cd.code hP' ht) hc ?_
    exact cont cv s2 H2 I2 (LamX.ExtN.refl H2) hT rfl (fun b o _ e => e) (fun b hb => (f2 b hb).1) (Nat.le_refl _)
/-- the around of the element: over the consumer's loop -/
abbrev genA (X : Cx) (elt tg iter : Expr) (ifs : List Expr) (scope : Scope) (gpos : Pos) (it : Addr) (env : Env) : Around := X.A.in1.in1.over (.compLoop (.GeneratorExp elt [⟨tg, iter, ifs, 0⟩] scope gpos) 0 (.ref it) .none env) []
theorem genA_room {k : Nat} {elt tg iter : Expr} {ifs : List Expr} {scope : Scope} {gpos : Pos} {it : Addr} {env : Env} (hr : Room (k + 1) X.A) : Room k (genA X elt tg iter ifs scope gpos it env) :=
  ⟨hr.hd, by have := hr.dp; show X.A.depth + 1 + 3 * k + 5 < _; omega, by have := hr.un; show X.A.units + 5 + 16 * k + 200 < _; omega⟩
theorem genA_frames {elt tg iter : Expr} {ifs : List Expr} {scope : Scope} {gpos : Pos} {it : Addr} {env : Env} {st : List Env} (h : X.A.frames = some st) : (genA X elt tg iter ifs scope gpos it env).frames = some (env :: st) := by
  show pushEnvs [env] X.A.frames = _
  rw [h]
  rfl
theorem ge_ready {k N : Nat} {elt tg iter : Expr} {ifs : List Expr} {scope : Scope} {gpos : Pos} {own : List (Str × Nat)} {H4 : Hp} {J : It} {a : Addr} {s5 s6 : Shared} {gd : TG} {tt : TT} {te : TE} {Rest : Nat → List (Addr × Obj) → Hp → Prop} {Dn : List (Addr × Obj) → Hp → Prop} {Yl : Nat → List (Addr × Obj) → V → Hp → Prop}
    (hr : Room (k + 1) X.A) (hN : X.N.Nodup) (ok : BlkOk X.N X.env.scope scope own) (gk : GenOk scope) (hnew : GNew X pins σ elt tg iter ifs scope gpos H4 J a s5)
    (hg : ∀ (A : Around) (s : Shared) (H : Hp) (C : Addr) (cl : List (Str × Addr)) (code : Value) (fp : List Addr), Room k A → PG (genCx X A s H (genEnv scope cl C code builtinsNs X.env) fp) tg gd)
    (ht : ∀ (A : Around) (s : Shared) (H : Hp) (C : Addr) (cl : List (Str × Addr)) (code : Value) (fp : List Addr), Room k A → PTs (genCx X A s H (genEnv scope cl C code builtinsNs X.env) fp) ifs tt)
    (he : ∀ (A : Around) (s : Shared) (H : Hp) (C : Addr) (cl : List (Str × Addr)) (code : Value) (fp : List Addr), Room k A → PE (genCx X A s H (genEnv scope cl C code builtinsNs X.env) fp) elt te)
    {S : List Addr} {ps : List (Addr × Obj)} (turn : ∀ i ps H, ps.map (·.1) = S → Rest i ps H → (J.stop i H ∧ Dn ps H) ∨ (i < N ∧ J.go i H ∧ ∀ x H', J.yld i H x H' → gd x (wipe σ (own.map (·.2))) H' fun σ2 H2 => wipe σ2 (own.map (·.2)) = wipe σ (own.map (·.2)) ∧ tt σ2 H2 fun b H3 => if b = true then te σ2 H3 fun y H4 => Yl i ps y H4 else Rest (i + 1) ps H3))
    (hS : ∀ b ∈ S, s5.heap.objs.size ≤ b) (hps : Held S ps s6) (kp : ∀ b o, s5.heap.get? b = some o → s6.heap.get? b = some o) (e6 : ∃ h6 t6, s6 = { s5 with heap := h6, toks := t6 }) :
    ∃ g : Ge, g.pa.1 = a ∧ g.S = S ∧ g.Xg.prog = X.prog ∧ g.Xg.w = X.w ∧ GeOk g tg ∧ (∃ gi, (∀ h : Heap, h.get? g.pa.1 = some g.pa.2 → h.IsGen g.pa.1 gi) ∧ GAt g N Rest Dn Yl gi X.A.in1.in1 N 0 ps H4 s6) ∧ ∀ ps H' s', GEnd g ps H' s' → Inv X pins σ H' s' := by
  obtain ⟨s4, it, fp, tn, code, gs, tk, h5, m5, ob, I4, Tu, st4, f4, rfl, rfl, k5, n5, ha, hob, hgen, hnc⟩ := hnew.ex
  obtain ⟨h6, t6, rfl⟩ := e6
  generalize hgv : genEnv scope (cloFrom X.env.cells scope.names []) s4.heap.objs.size code builtinsNs X.env = gv
  have hC : gv.locals = s4.heap.objs.size := by rw [← hgv]; rfl
  have hG : AllBare (s4.gens.push (.fresh (.compStart (.GeneratorExp elt [⟨tg, iter, ifs, 0⟩] scope gpos) 0 (.ref it) .none gv))) := I4.bare.push rfl
  have I5 := gen_start (A := genA X elt tg iter ifs scope gpos it gv) (code := code) (tk := tk) I4 ok gk hN f4 hr.hd (by rw [hgv]; exact genA_frames I4.ok.frames) k5 n5 hG
  rw [hgv] at I5
  have I6 : Inv (genCx X (genA X elt tg iter ifs scope gpos it gv) s4 H4 gv fp) [] (wipe σ (own.map (·.2))) H4 { s4 with gens := s4.gens.push (.fresh (.compStart (.GeneratorExp elt [⟨tg, iter, ifs, 0⟩] scope gpos) 0 (.ref it) .none gv)), toks := t6, heap := h6 } := I5.kept (t' := t6) (h' := h6) kp
  have hz5 : s4.heap.objs.size < h5.objs.size := Nat.lt_trans ha (Heap.lt_size hob)
  have young : ∀ b, s4.heap.objs.size ≤ b → H4 b = none ∧ b ∉ frs X.stack := fun b hb => ⟨I4.hok.fresh hb, fun z => by
    rcases List.mem_cons.mp (I4.stkSub b z) with z | z
    · exact absurd (Nat.lt_of_lt_of_le I4.lt hb) (by rw [z]; exact Nat.lt_irrefl _)
    · exact I4.nofs hb z⟩
  have bigS : ∀ b ∈ S, s4.heap.objs.size ≤ b ∧ a < b := fun b hb => by
    have h1 : h5.objs.size ≤ b := hS b hb
    exact ⟨Nat.le_trans (Nat.le_of_lt hz5) h1, Nat.lt_of_lt_of_le (Heap.lt_size hob) h1⟩
  have I7 : Inv (genCx X (genA X elt tg iter ifs scope gpos it gv) s4 H4 gv fp) ((a, ob) :: ps) (wipe σ (own.map (·.2))) H4 { s4 with gens := s4.gens.push (.fresh (.compStart (.GeneratorExp elt [⟨tg, iter, ifs, 0⟩] scope gpos) 0 (.ref it) .none gv)), toks := t6, heap := h6 } := I6.pins_of fun p hp => by
    rcases List.mem_cons.mp hp with z | z
    · rw [z]
      obtain ⟨y1, y2⟩ := young a (Nat.le_of_lt ha)
      exact ⟨kp _ _ hob, y1, by show a ≠ gv.locals; rw [hC]; exact Nat.ne_of_gt ha, y2, hnc⟩
    · obtain ⟨q2, q3⟩ := hps.ok p z
      have q1 : p.1 ∈ S := by rw [← hps.at_]; exact List.mem_map.mpr ⟨p, z, rfl⟩
      obtain ⟨y1, y2⟩ := young p.1 (bigS _ q1).1
      exact ⟨q2, y1, by show p.1 ≠ gv.locals; rw [hC]; exact Nat.ne_of_gt (Nat.lt_trans ha (bigS _ q1).2), y2, q3⟩
  have nfp : ∀ b ∈ fp, H4 b = none := fun b hb => (f4 b hb).1.1
  have st6 : tn 0 h6 := Tu.keep _ _ _ st4 fun b _ o e => kp b o (k5 b o e)
  let g : Ge := { Xg := genCx X (genA X elt tg iter ifs scope gpos it gv) s4 H4 gv fp, pa := (a, ob), S := S, σ0 := wipe σ (own.map (·.2)), fp := fp, it := it, tn := tn, J := J, vs := own.map (·.2) }
  have gok : GeOk g tg := by
    refine ⟨rfl, rfl, rfl, rfl, Tu, fun b hb => ⟨(bigS b hb).1, ?_, Nat.ne_of_gt (bigS b hb).2, fun z => ?_, fun x c e z => ?_⟩, fun z => ?_⟩
    · show b ≠ gv.locals
      rw [hC]
      exact Nat.ne_of_gt (Nat.lt_trans ha (bigS b hb).2)
    · exact absurd (Nat.lt_of_lt_of_le (f4 b z).2 (bigS b hb).1) (Nat.lt_irrefl _)
    · obtain ⟨v, zc⟩ := I5.cell x c e
      have h1 : c < h5.objs.size := zc.lt
      have h2 : h5.objs.size ≤ b := hS b hb
      rw [z] at h1
      exact absurd (Nat.lt_of_lt_of_le h1 h2) (Nat.lt_irrefl _)
    · exact absurd (Nat.lt_trans (f4 a z).2 ha) (Nat.lt_irrefl _)
  have hI : GInv g 0 ps H4 { s4 with gens := s4.gens.push (.fresh (.compStart (.GeneratorExp elt [⟨tg, iter, ifs, 0⟩] scope gpos) 0 (.ref it) .none gv)), toks := t6, heap := h6 } := ⟨hps.at_, I7, st6, nfp⟩
  have room := genA_room (elt := elt) (tg := tg) (iter := iter) (ifs := ifs) (scope := scope) (gpos := gpos) (it := it) (env := gv) hr
  refine ⟨g, rfl, rfl, rfl, rfl, gok, ⟨s4.gens.size, hgen, hI, _, Array.getElem?_push_size .., fun s' ps' hz hd hR => ⟨rfl, ?_⟩⟩, fun ps H' s' ⟨_, I', hn'⟩ => ?_⟩
  · have hI' := hI.slept gok hz hd
    refine seg_ge0 gok hI' (seg_ge gok rfl ?_ ?_ ?_ ?_ ?_ turn N 0 N s' s' H4 ps' (Nat.sub_zero _) (Nat.le_refl _) hI' hd hR)
    · show gv.scope.isCoroutine = false
      rw [← hgv]; exact gk.co
    · have := hg (genA X elt tg iter ifs scope gpos it gv) s4 H4 s4.heap.objs.size (cloFrom X.env.cells scope.names []) code fp room
      rw [hgv] at this; exact this
    · have := ht (genA X elt tg iter ifs scope gpos it gv) s4 H4 s4.heap.objs.size (cloFrom X.env.cells scope.names []) code fp room
      rw [hgv] at this; exact this
    · have := he (genA X elt tg iter ifs scope gpos it gv) s4 H4 s4.heap.objs.size (cloFrom X.env.cells scope.names []) code fp room
      rw [hgv] at this; exact this
    · exact wipe_wipe _
  · exact I4.call' (ch := fp) I'.os I'.base I'.hok I'.bare fun b hb => ⟨(f4 b hb).1.2.2.2.1, (f4 b hb).1.2.1, (f4 b hb).1.2.2.2.2.1, (f4 b hb).1.2.2.2.2.2⟩
def YlB (Qx : Hp → Prop) (Rest : Nat → List (Addr × Obj) → Hp → Prop) (x : Bool) (i : Nat) (ps : List (Addr × Obj)) (y : V) (H : Hp) : Prop := ∃ c, y = .bl c ∧ if c = x then Qx H else Rest (i + 1) ps H
theorem any_loop {g : Ge} {tg : Expr} {N gi : Nat} {A : Around} {Rest : Nat → List (Addr × Obj) → Hp → Prop} {Qx Dn : Hp → Prop} {R : Result → Shared → Prop} (k : GeOk g tg) (hS : g.S = []) (hgen : ∀ h : Heap, h.get? g.pa.1 = some g.pa.2 → h.IsGen g.pa.1 gi) (hh : A.handled = none) (hroom : A.depth < recursionLimit)
    (hx : ∀ ps H' s', GEnd g ps H' s' → Qx H' → R (.ok (.ret (.bool true))) s') (hd : ∀ ps H' s', GEnd g ps H' s' → Dn H' → R (.ok (.ret (.bool false))) s') : ∀ (n i : Nat) (ps : List (Addr × Obj)) (H : Hp) (s : Shared),
    GAt g N Rest (fun _ => Dn) (YlB Qx Rest true) gi A.in1.in1 n i ps H s → Rest i ps H → codeAny (model g.Xg.prog g.Xg.w) A (.builtin "any.loop" ⟨[.ref g.pa.1], []⟩) R s := by
  intro n
  induction n using Nat.strongRecOn with
  | ind n ih =>
    intro i ps H s hG hR
    refine codeAny_builtin F.entry_any_loop ?_
    rw [Around.under_plainId F.plain_any_loop _]
    show wpAny _ A.in1 (pyNext (.ref g.pa.1) >>= _) _ _ s
    refine wpAny_bind (ge_next (A := A.in1) k hgen hh hroom hG hR (fun j x v H' s' rv hy hI next => ?_) fun H' s' hE hD => ?_)
    · obtain ⟨c, rfl, hc⟩ := hy
      obtain rfl : v = Value.bool c := rv
      refine wpAny_bind (wpAny_holding (wpAny_truthy_bool ?_))
      refine wpAny_bind (wpAny_letGo ?_)
      cases c with
      | false =>
        simp only [Bool.false_eq_true, if_false] at hc ⊢
        obtain ⟨n', hn', hG'⟩ := next s' ps ⟨rfl, hI.inv.bare, fun _ _ _ e => e⟩ hI.end.held rfl hc
        exact wpAny_pure ⟨plainId_quiet F.plain_any_loop _, ih n' (by omega) (j + 1) ps H' s' hG' hc⟩
      | true =>
        simp only [if_true] at hc ⊢
        exact wpAny_bind (wpAny_rule (wpAny_pure (hx ps H' s' hI.end hc)))
    · exact wpAny_bind (wpAny_rule (wpAny_pure (hd ps H' s' hE hD)))
theorem all_loop {g : Ge} {tg : Expr} {N gi : Nat} {A : Around} {Rest : Nat → List (Addr × Obj) → Hp → Prop} {Qx Dn : Hp → Prop} {R : Result → Shared → Prop} (k : GeOk g tg) (hS : g.S = []) (hgen : ∀ h : Heap, h.get? g.pa.1 = some g.pa.2 → h.IsGen g.pa.1 gi) (hh : A.handled = none) (hroom : A.depth < recursionLimit)
    (hx : ∀ ps H' s', GEnd g ps H' s' → Qx H' → R (.ok (.ret (.bool false))) s') (hd : ∀ ps H' s', GEnd g ps H' s' → Dn H' → R (.ok (.ret (.bool true))) s') : ∀ (n i : Nat) (ps : List (Addr × Obj)) (H : Hp) (s : Shared),
    GAt g N Rest (fun _ => Dn) (YlB Qx Rest false) gi A.in1.in1 n i ps H s → Rest i ps H → codeAny (model g.Xg.prog g.Xg.w) A (.builtin "all.loop" ⟨[.ref g.pa.1], []⟩) R s := by
  intro n
  induction n using Nat.strongRecOn with
  | ind n ih =>
    intro i ps H s hG hR
    refine codeAny_builtin F.entry_all_loop ?_
    rw [Around.under_plainId F.plain_all_loop _]
    show wpAny _ A.in1 (pyNext (.ref g.pa.1) >>= _) _ _ s
    refine wpAny_bind (ge_next (A := A.in1) k hgen hh hroom hG hR (fun j x v H' s' rv hy hI next => ?_) fun H' s' hE hD => ?_)
    · obtain ⟨c, rfl, hc⟩ := hy
      obtain rfl : v = Value.bool c := rv
      refine wpAny_bind (wpAny_holding (wpAny_truthy_bool ?_))
      refine wpAny_bind (wpAny_letGo ?_)
      cases c with
      | true =>
        simp only [Bool.true_eq_false, if_false, if_true] at hc ⊢
        obtain ⟨n', hn', hG'⟩ := next s' ps ⟨rfl, hI.inv.bare, fun _ _ _ e => e⟩ hI.end.held rfl hc
        exact wpAny_pure ⟨plainId_quiet F.plain_all_loop _, ih n' (by omega) (j + 1) ps H' s' hG' hc⟩
      | false =>
        simp only [if_true, Bool.false_eq_true, if_false] at hc ⊢
        exact wpAny_bind (wpAny_rule (wpAny_pure (hx ps H' s' hI.end hc)))
    · exact wpAny_bind (wpAny_rule (wpAny_pure (hd ps H' s' hE hD)))
/-- any(elt for tg in iter if ..), all(..): x the value that ends it -/
def tAnyE (T : List (Addr × Str)) (x : Bool) (wi : TI) (gd : TG) (tt : TT) (te : TE) (vs : List Nat) : TE := fun σ H Q => wi σ H fun J H1 => LamX.Tabs T H1 ∧ ∀ H2, LamX.ExtN H1 H2 → LamX.Tabs T H2 → ∃ (N : Nat) (Rest : Nat → Hp → Prop), Rest 0 H2 ∧
  ∀ i H, Rest i H → (J.stop i H ∧ Q (.bl (!x)) H) ∨ (i < N ∧ J.go i H ∧ ∀ v H', J.yld i H v H' → gd v (wipe σ vs) H' fun σ2 H3 => wipe σ2 vs = wipe σ vs ∧ tt σ2 H3 fun b H4 => if b = true then te σ2 H4 fun y H5 => ∃ c, y = .bl c ∧ (if c = x then Q (.bl x) H5 else Rest (i + 1) H5) else Rest (i + 1) H4)
theorem pe_anyE {T : List (Addr × Str)} {c P : Addr} {elt tg iter : Expr} {ifs : List Expr} {scope : Scope} {gpos p pos : Pos} {own : List (Str × Nat)} {wi : TI} {gd : TG} {tt : TT} {te : TE} {k : Nat}
    (hr : Room (k + 1) X.A) (hgl : Gl X "any") (hm : X.mg "any" = none) (TB : LamX.TabB X.base X.mg c P) (hcode : X.env.code = .ref c) (hmT : (P, X.env.qual ++ "<genexpr>") ∈ T) (hu : ∀ p ∈ T, p.1 = P → p.2 = X.env.qual ++ "<genexpr>") (hN : X.N.Nodup)
    (hi : PI X tg iter wi) (ok : BlkOk X.N X.env.scope scope own) (gk : GenOk scope)
    (hg : ∀ (A : Around) (s : Shared) (H : Hp) (C : Addr) (cl : List (Str × Addr)) (code : Value) (fp : List Addr), Room k A → PG (genCx X A s H (genEnv scope cl C code builtinsNs X.env) fp) tg gd)
    (ht : ∀ (A : Around) (s : Shared) (H : Hp) (C : Addr) (cl : List (Str × Addr)) (code : Value) (fp : List Addr), Room k A → PTs (genCx X A s H (genEnv scope cl C code builtinsNs X.env) fp) ifs tt)
    (he : ∀ (A : Around) (s : Shared) (H : Hp) (C : Addr) (cl : List (Str × Addr)) (code : Value) (fp : List Addr), Room k A → PE (genCx X A s H (genEnv scope cl C code builtinsNs X.env) fp) elt te)
    (hs : ∀ v, genFold iter X.env v = pure v)
    (hse : starEach [.GeneratorExp elt [⟨tg, iter, ifs, 0⟩] scope gpos] X.env = (false, eval (.GeneratorExp elt [⟨tg, iter, ifs, 0⟩] scope gpos) X.env) :: starEach [] X.env := by rfl) :
    PE X (.Call (.Name "any" p) [.GeneratorExp elt [⟨tg, iter, ifs, 0⟩] scope gpos] [] pos) (tAnyE T true wi gd tt te (own.map (·.2))) := by
  refine ⟨fun pins s σ H Q I h => ?_⟩
  refine wpAny_Call_Name_kw (ld_blt I hgl hm boot_any ?_)
  refine PyProof.Rows.callWith_builtin1 ?_ hse (by rfl)
  rw [hse]
  show wpAny _ _ (spliced ((false, eval (.GeneratorExp elt [⟨tg, iter, ifs, 0⟩] scope gpos) X.env) :: backTo pos (starEach [] X.env))) _ _ s
  refine Calls.spliced_cons (ge_make I hr TB hcode hmT hu hi ok gk hs h fun J H1 h1 => ⟨h1.1, fun H2 x2 t2 a s5 hnew => ?_⟩)
  refine Calls.spliced_nil ?_
  obtain ⟨N, Rest, hR0, turn⟩ := h1.2 H2 x2 t2
  obtain ⟨g, ea, eS, ep, ew, gok, ⟨gi, hgen, hG⟩, back⟩ := ge_ready (N := N) (Rest := fun i _ H => Rest i H) (Dn := fun _ H => Q (.bl false) H) (Yl := YlB (Q (.bl true)) (fun i _ H => Rest i H) true) (S := []) (ps := []) hr hN ok gk hnew hg ht he
    (fun i ps H _ hR => turn i H hR) (fun b hb => by cases hb) ⟨rfl, fun p hp => by cases hp⟩ (fun _ _ e => e) ⟨s5.heap, s5.toks, rfl⟩
  refine call_function_tree F.kind_any F.plain_any F.entry_any (F.args_any1 _) ?_
  unfold Builtin.«any»
  refine wpAny_bind (m := oneArg "any" _) (wpAny_pure ?_)
  rw [← ea, ← ep, ← ew]
  refine wpAny_bind (wpAny_pyIter_gen (hgen _ hG.1.obj) ?_)
  exact wpAny_pure ⟨plainId_quiet F.plain_any_loop _, any_loop gok eS hgen hr.hd hr.depth (fun ps H' s' hE q => ⟨.bl true, H', back ps H' s' hE, rfl, q⟩) (fun ps H' s' hE q => ⟨.bl false, H', back ps H' s' hE, rfl, q⟩) N 0 [] H2 s5 hG hR0⟩
theorem pe_allE {T : List (Addr × Str)} {c P : Addr} {elt tg iter : Expr} {ifs : List Expr} {scope : Scope} {gpos p pos : Pos} {own : List (Str × Nat)} {wi : TI} {gd : TG} {tt : TT} {te : TE} {k : Nat}
    (hr : Room (k + 1) X.A) (hgl : Gl X "all") (hm : X.mg "all" = none) (hb : bootBuiltins "all" = some (.builtin "all")) (TB : LamX.TabB X.base X.mg c P) (hcode : X.env.code = .ref c) (hmT : (P, X.env.qual ++ "<genexpr>") ∈ T) (hu : ∀ p ∈ T, p.1 = P → p.2 = X.env.qual ++ "<genexpr>") (hN : X.N.Nodup)
    (hi : PI X tg iter wi) (ok : BlkOk X.N X.env.scope scope own) (gk : GenOk scope)
    (hg : ∀ (A : Around) (s : Shared) (H : Hp) (C : Addr) (cl : List (Str × Addr)) (code : Value) (fp : List Addr), Room k A → PG (genCx X A s H (genEnv scope cl C code builtinsNs X.env) fp) tg gd)
    (ht : ∀ (A : Around) (s : Shared) (H : Hp) (C : Addr) (cl : List (Str × Addr)) (code : Value) (fp : List Addr), Room k A → PTs (genCx X A s H (genEnv scope cl C code builtinsNs X.env) fp) ifs tt)
    (he : ∀ (A : Around) (s : Shared) (H : Hp) (C : Addr) (cl : List (Str × Addr)) (code : Value) (fp : List Addr), Room k A → PE (genCx X A s H (genEnv scope cl C code builtinsNs X.env) fp) elt te)
    (hs : ∀ v, genFold iter X.env v = pure v)
    (hse : starEach [.GeneratorExp elt [⟨tg, iter, ifs, 0⟩] scope gpos] X.env = (false, eval (.GeneratorExp elt [⟨tg, iter, ifs, 0⟩] scope gpos) X.env) :: starEach [] X.env := by rfl) :
    PE X (.Call (.Name "all" p) [.GeneratorExp elt [⟨tg, iter, ifs, 0⟩] scope gpos] [] pos) (tAnyE T false wi gd tt te (own.map (·.2))) := by
  refine ⟨fun pins s σ H Q I h => ?_⟩
  refine wpAny_Call_Name_kw (ld_blt I hgl hm hb ?_)
  refine PyProof.Rows.callWith_builtin1 ?_ hse (by rfl)
  rw [hse]
  show wpAny _ _ (spliced ((false, eval (.GeneratorExp elt [⟨tg, iter, ifs, 0⟩] scope gpos) X.env) :: backTo pos (starEach [] X.env))) _ _ s
  refine Calls.spliced_cons (ge_make I hr TB hcode hmT hu hi ok gk hs h fun J H1 h1 => ⟨h1.1, fun H2 x2 t2 a s5 hnew => ?_⟩)
  refine Calls.spliced_nil ?_
  obtain ⟨N, Rest, hR0, turn⟩ := h1.2 H2 x2 t2
  obtain ⟨g, ea, eS, ep, ew, gok, ⟨gi, hgen, hG⟩, back⟩ := ge_ready (N := N) (Rest := fun i _ H => Rest i H) (Dn := fun _ H => Q (.bl true) H) (Yl := YlB (Q (.bl false)) (fun i _ H => Rest i H) false) (S := []) (ps := []) hr hN ok gk hnew hg ht he
    (fun i ps H _ hR => turn i H hR) (fun b hb => by cases hb) ⟨rfl, fun p hp => by cases hp⟩ (fun _ _ e => e) ⟨s5.heap, s5.toks, rfl⟩
  refine call_function_tree F.kind_all F.plain_all F.entry_all (F.args_all1 _) ?_
  unfold Builtin.«all»
  refine wpAny_bind (m := oneArg "all" _) (wpAny_pure ?_)
  rw [← ea, ← ep, ← ew]
  refine wpAny_bind (wpAny_pyIter_gen (hgen _ hG.1.obj) ?_)
  exact wpAny_pure ⟨plainId_quiet F.plain_all_loop _, all_loop gok eS hgen hr.hd hr.depth (fun ps H' s' hE q => ⟨.bl false, H', back ps H' s' hE, rfl, q⟩) (fun ps H' s' hE q => ⟨.bl true, H', back ps H' s' hE, rfl, q⟩) N 0 [] H2 s5 hG hR0⟩
end
end DL
set_option Elab.async false
set_option linter.all false
set_option maxRecDepth 100000
set_option maxHeartbeats 1000000
namespace DL
open PySem L2 PySem.Spec PyProof.Rows GenW
def anyC (x : Bool) (gd : D → LE → Option LE) (tt : LE → R Bool) (te : LE → R D) (r : LE) : List D → R Bool
  | [] => .ok (!x)
  | d :: ds => match gd d r with
    | none => .stuck
    | some r' => do
      if (← (tt r').calm) then do
        match ← (te r').calm with
        | .bl c => if c = x then .ok x else anyC x gd tt te r ds
        | _ => .stuck
      else anyC x gd tt te r ds
def anyE (x : Bool) (fi : LE → R (List D)) (gd : D → LE → Option LE) (tt : LE → R Bool) (te : LE → R D) (vs : List Nat) : LE → R D := fun r => do
  let ds ← fi r
  let b ← anyC x gd tt te (wipeL r vs) ds
  .ok (.bl b)
theorem ext_grow {dl : Addr} {H H' : Hp} (e : LamX.ExtN H H') : Grow dl H H' := fun a o h _ n => e a o h n
section
variable {X : Cx} {G : Gm} {W : WX} {tg iter : Expr} {fi : LE → R (List D)} {gd : D → LE → Option LE} {is vs : List Nat} {tt : LE → R Bool} {te : LE → R D}
theorem any_core_d {T : List (Addr × Str)} (hT : T = G.tabs) (x : Bool) (hsub : ∀ j ∈ is, j ∈ vs) {sg : L2.St} {H : Hp} {Q : VK} (h : tD G W (anyE x fi gd tt te vs) sg H Q) : tAnyE T x (tIe G W fi) (tGd G gd is) (tT G W0 tt) (tD G W0 te) vs sg H Q := by
  subst hT
  obtain ⟨dl, Z, O, r, A, q⟩ := h
  refine ⟨dl, Z, O, r, A, q.bind.thn fun ds hds J B H1 g1 k1 wk hB => ⟨k1.tab, fun H2 x2 t2 => ?_⟩⟩
  have k2 : GlOk G dl H2 := k1.ofExt x2 t2
  have A1 := A.grow g1 k1
  have g2 : Grow dl H1 H2 := ext_grow x2
  have A2 := A1.grow g2 k2
  have hds := hds.bind
  refine ⟨ds.length, fun i H' => i ≤ ds.length ∧ At G dl Z O r sg H' ∧ Grow dl H H' ∧ B Z H' ∧
    Wp (anyC x gd tt te (wipeL r vs) (ds.drop i)) (fun b => ∀ v H2, Grow dl H H2 → GlOk G dl H2 → Rep G dl (cut H2 Z) (.bl b) v → Q v H2) (fun e => ∀ cls dx H', Grow dl H H' → GlOk G dl H' → XRep G dl (cut H' Z) e cls dx H' → W cls dx sg H'),
    ⟨Nat.zero_le _, A2, g1.trans g2, wk.mono _ _ _ _ (g2.cut A.dz) g2 hB, by simpa using hds⟩, ?_⟩
  rintro i H' ⟨hi', A', gH, hB', hw⟩
  by_cases hlt : i < ds.length
  · have hdrop : ds.drop i = ds[i] :: ds.drop (i + 1) := List.drop_eq_getElem_cons hlt
    rw [hdrop] at hw
    refine .inr ⟨hlt, wk.go i Z H' hB' hlt, fun v H3 hy => ?_⟩
    obtain ⟨g3, k3, rp⟩ := wk.yld i Z O r sg H' v H3 A' hB' hy ds[i] (by simp)
    have A3 := A'.grow g3 k3
    unfold anyC at hw
    cases hgd : gd ds[i] (wipeL r vs) with
    | none => rw [hgd] at hw; exact hw.elim
    | some r2 =>
      rw [hgd] at hw
      refine ⟨dl, Z, O, wipeL r vs, ds[i], A3.wipe vs, rp, r2, hgd, fun sg3 hl3 hs3 A4 => ⟨?_, ?_⟩⟩
      · exact (wipe_same hl3 fun j hj => hs3 j fun z => hj (hsub j z)).trans (wipe_wipe vs)
      refine ⟨dl, Z, O, r2, A4, (calm_wp hw.bind).mono (fun b hb H4 g4 k4 => ?_) fun e he => he⟩
      have A5 := A4.grow g4 k4
      have C4 : At G dl Z O r sg H4 := A3.grow g4 k4
      have gg : Grow dl H H4 := (gH.trans g3).trans g4
      have hB4 : B Z H4 := wk.mono _ _ _ _ (g4.cut A.dz) g4 (wk.mono _ _ _ _ (g3.cut A.dz) g3 hB')
      cases b with
      | false => exact ⟨hlt, C4, gg, hB4, hb⟩
      | true =>
        refine ⟨dl, Z, O, r2, A5, (calm_wp hb.bind).mono (fun y hy2 w H5 g5 k5 rp5 => ?_) fun e he => he⟩
        have C5 : At G dl Z O r sg H5 := C4.grow g5 k5
        have hB5 : B Z H5 := wk.mono _ _ _ _ (g5.cut A.dz) g5 hB4
        cases y with
        | bl c =>
          unfold Rep at rp5
          refine ⟨c, rp5, ?_⟩
          by_cases hc : c = x
          · rw [if_pos hc]
            have hy3 : Wp (if c = x then R.ok x else anyC x gd tt te (wipeL r vs) (ds.drop (i + 1))) _ _ := hy2
            rw [if_pos hc] at hy3
            exact hy3 (.bl x) H5 (gg.trans g5) k5 (by unfold Rep; rfl)
          · rw [if_neg hc]
            have hy3 : Wp (if c = x then R.ok x else anyC x gd tt te (wipeL r vs) (ds.drop (i + 1))) _ _ := hy2
            rw [if_neg hc] at hy3
            exact ⟨hlt, C5, gg.trans g5, hB5, hy3⟩
        | _ => exact hy2.elim
  · have e : i = ds.length := by omega
    subst e
    rw [List.drop_length] at hw
    exact .inl ⟨wk.stop _ _ H' hB' (Nat.le_refl _), hw (.bl (!x)) H' gH A'.gl (by unfold Rep; rfl)⟩
abbrev GenC (X : Cx) (k : Nat) (scope : Scope) (P : Cx → Prop) : Prop := ∀ (A : Around) (s : Shared) (H : Hp) (C : Addr) (cl : List (Str × Addr)) (code : Value) (fp : List Addr), Room k A → P (genCx X A s H (genEnv scope cl C code builtinsNs X.env) fp)
theorem de_any {c P : Addr} {elt : Expr} {ifs : List Expr} {scope : Scope} {gpos p pos : Pos} {own : List (Str × Nat)} {k : Nat}
    (hr : Room (k + 1) X.A) (hgl : Gl X "any") (hm : X.mg "any" = none) (TB : LamX.TabB X.base X.mg c P) (hcode : X.env.code = .ref c) (hmT : (P, X.env.qual ++ "<genexpr>") ∈ G.tabs) (hu : ∀ p ∈ G.tabs, p.1 = P → p.2 = X.env.qual ++ "<genexpr>") (hN : X.N.Nodup)
    (hi : DIe X G W tg iter fi) (ok : BlkOk X.N X.env.scope scope own) (gk : GenOk scope)
    (hg : GenC X k scope fun Y => DG Y G tg gd is) (ht : GenC X k scope fun Y => DTs Y G W0 ifs tt) (he : GenC X k scope fun Y => DE Y G W0 elt te)
    (hsub : ∀ j ∈ is, j ∈ own.map (·.2)) (hs : ∀ v, genFold iter X.env v = pure v := by intro _; rfl)
    (hse : starEach [.GeneratorExp elt [⟨tg, iter, ifs, 0⟩] scope gpos] X.env = (false, eval (.GeneratorExp elt [⟨tg, iter, ifs, 0⟩] scope gpos) X.env) :: starEach [] X.env := by rfl) :
    DE X G W (.Call (.Name "any" p) [.GeneratorExp elt [⟨tg, iter, ifs, 0⟩] scope gpos] [] pos) (anyE true fi gd tt te (own.map (·.2))) :=
  PE_imp (pe_anyE (T := G.tabs) hr hgl hm TB hcode hmT hu hN hi ok gk hg ht he hs hse) fun sg H Q h => any_core_d rfl true hsub h
theorem de_all {c P : Addr} {elt : Expr} {ifs : List Expr} {scope : Scope} {gpos p pos : Pos} {own : List (Str × Nat)} {k : Nat}
    (hr : Room (k + 1) X.A) (hgl : Gl X "all") (hm : X.mg "all" = none) (TB : LamX.TabB X.base X.mg c P) (hcode : X.env.code = .ref c) (hmT : (P, X.env.qual ++ "<genexpr>") ∈ G.tabs) (hu : ∀ p ∈ G.tabs, p.1 = P → p.2 = X.env.qual ++ "<genexpr>") (hN : X.N.Nodup)
    (hi : DIe X G W tg iter fi) (ok : BlkOk X.N X.env.scope scope own) (gk : GenOk scope)
    (hg : GenC X k scope fun Y => DG Y G tg gd is) (ht : GenC X k scope fun Y => DTs Y G W0 ifs tt) (he : GenC X k scope fun Y => DE Y G W0 elt te)
    (hsub : ∀ j ∈ is, j ∈ own.map (·.2)) (hs : ∀ v, genFold iter X.env v = pure v := by intro _; rfl) (hb : bootBuiltins "all" = some (.builtin "all") := by rfl)
    (hse : starEach [.GeneratorExp elt [⟨tg, iter, ifs, 0⟩] scope gpos] X.env = (false, eval (.GeneratorExp elt [⟨tg, iter, ifs, 0⟩] scope gpos) X.env) :: starEach [] X.env := by rfl) :
    DE X G W (.Call (.Name "all" p) [.GeneratorExp elt [⟨tg, iter, ifs, 0⟩] scope gpos] [] pos) (anyE false fi gd tt te (own.map (·.2))) :=
  PE_imp (pe_allE (T := G.tabs) hr hgl hm hb TB hcode hmT hu hN hi ok gk hg ht he hs hse) fun sg H Q h => any_core_d rfl false hsub h
end
end DL
set_option Elab.async false
set_option linter.all false
set_option maxRecDepth 100000
set_option maxHeartbeats 1000000
namespace DL
open PySem L2 PySem.Spec PyProof.Rows GenW
abbrev sumObj (acc : Int) (tA : Tok) (c : Nat) : Obj := { cls := .type "list", dict := none, data := .seq #[.int acc tA] c, slots := #[] }
def RestS (S : Addr) (RestA : Int → Nat → Hp → Prop) (i : Nat) (ps : List (Addr × Obj)) (H : Hp) : Prop := ∃ acc tA c, ps = [(S, sumObj acc tA c)] ∧ RestA acc i H
def DnS (S : Addr) (Qd : Int → Hp → Prop) (ps : List (Addr × Obj)) (H : Hp) : Prop := ∃ acc tA c, ps = [(S, sumObj acc tA c)] ∧ Qd acc H
def YlS (S : Addr) (RestA : Int → Nat → Hp → Prop) (i : Nat) (ps : List (Addr × Obj)) (y : V) (H : Hp) : Prop := ∃ acc tA c v, ps = [(S, sumObj acc tA c)] ∧ y = .int v ∧ InLong v ∧ InLong (acc + v) ∧ RestA (acc + v) (i + 1) H
theorem one_inj {S : Addr} {a b : Int} {t u : Tok} {c d : Nat} (h : ([(S, sumObj a t c)] : List (Addr × Obj)) = [(S, sumObj b u d)]) : a = b ∧ t = u ∧ c = d := by
  injection h with h _
  injection h with _ h
  injection h with _ _ h _
  injection h with h1 h2
  injection h1 with h1
  injection h1 with h1 _
  injection h1 with h1 h3
  exact ⟨h1, h3, h2⟩
theorem sum_loop {g : Ge} {tg : Expr} {N gi : Nat} {S : Addr} {A : Around} {RestA : Int → Nat → Hp → Prop} {Qd : Int → Hp → Prop} {R : Result → Shared → Prop} (k : GeOk g tg) (hS : g.S = [S]) (hgen : ∀ h : Heap, h.get? g.pa.1 = some g.pa.2 → h.IsGen g.pa.1 gi) (hh : A.handled = none) (hroom : A.depth < recursionLimit)
    (hd : ∀ ps H' s' acc t, GEnd g ps H' s' → Qd acc H' → R (.ok (.ret (.int acc t))) s') : ∀ (n i : Nat) (acc : Int) (tA : Tok) (c : Nat) (H : Hp) (s : Shared),
    GAt g N (RestS S RestA) (DnS S Qd) (YlS S RestA) gi A.in1.in1 n i [(S, sumObj acc tA c)] H s → RestA acc i H → codeAny (model g.Xg.prog g.Xg.w) A (.builtin "sum.loop" ⟨[.ref g.pa.1, .ref S, rawInt 0, rawInt 0], []⟩) R s := by
  intro n
  induction n using Nat.strongRecOn with
  | ind n ih =>
    intro i acc tA c H s hG hR
    have hSs : s.heap.get? S = some (sumObj acc tA c) := (hG.1.end.held.ok _ List.mem_cons_self).1
    refine codeAny_builtin F.entry_sum_loop ?_
    rw [Around.under_plainId F.plain_sum_loop _]
    show wpAny _ A.in1 (seqItems? (.ref S) >>= _) _ _ s
    refine wpAny_bind (wpAny_seqItems hSs rfl ?_)
    show wpAny _ A.in1 (tryCatch (pyNext (.ref g.pa.1)) _ >>= _) _ _ s
    refine wpAny_bind (wpAny_tryCatch (ge_next (A := A.in1) k hgen hh hroom hG ⟨acc, tA, c, rfl, hR⟩ (fun j x v H' s' rv hy hI next => ?_) fun H' s' hE hD => ?_))
    · obtain ⟨acc', tA', c', w, hps, rfl, ⟨f1, f2⟩, ⟨f3, f4⟩, hR'⟩ := hy
      obtain ⟨rfl, rfl, rfl⟩ := one_inj hps
      obtain ⟨t, rfl⟩ : ∃ t, v = Value.int w t := rv
      have hS' : s'.heap.get? S = some (sumObj acc tA c) := (hI.end.held.ok _ List.mem_cons_self).1
      have hc : ((decide (-(2 ^ 63) ≤ w) && decide (w < 2 ^ 63)) && (decide (-(2 ^ 63) ≤ acc + w) && decide (acc + w < 2 ^ 63))) = true := by
        simp only [Bool.and_eq_true, decide_eq_true_eq]
        exact ⟨⟨f1, f2⟩, f3, f4⟩
      show wpAny _ A.in1 (if (_ : Bool) = true then (mkInt (acc + w) >>= _) else _) _ _ _
      split
      · refine wpAny_bind (wpAny_mkInt ?_)
        show wpAny _ A.in1 (updateSeq S (fun _ => #[.int (acc + w) s'.toks]) >>= _) _ _ _
        refine wpAny_bind ?_
        refine wpAny_updateSeq hS' rfl (wpAny_pure ?_)
        have hu := Heap.get?_update_self (h := s'.heap) (Obj.mapSeq (fun _ => (#[.int (acc + w) s'.toks] : Array Value))) hS' rfl
        obtain ⟨n', hn', hG'⟩ := next { s' with toks := s'.toks + 1, heap := s'.heap.update S (Obj.mapSeq (fun _ => (#[.int (acc + w) s'.toks] : Array Value))) } [(S, sumObj (acc + w) s'.toks _)] ⟨rfl, hI.inv.bare, fun b o hb e => (Heap.get?_update_other _ _ (fun h : S = b => hb (by rw [hS, h]; exact List.mem_cons_self))).trans e⟩
          ⟨by rw [hS]; rfl, fun p hp => by rw [List.mem_singleton.mp hp]; exact ⟨hu, fun v e => by cases e⟩⟩ rfl ⟨acc + w, s'.toks, _, rfl, hR'⟩
        exact ⟨plainId_quiet F.plain_sum_loop _, ih n' (by omega) (j + 1) (acc + w) s'.toks _ H' _ hG' hR'⟩
      · rename_i hneg
        exact absurd hc hneg
    · obtain ⟨acc', tA', c', hps, hq⟩ := hD
      obtain ⟨rfl, rfl, rfl⟩ := one_inj hps
      exact wpAny_pure (hd _ H' s' acc tA hE hq)
/-- sum(elt for tg in iter if ..) -/
def tSumE (T : List (Addr × Str)) (wi : TI) (gd : TG) (tt : TT) (te : TE) (vs : List Nat) : TE := fun σ H Q => wi σ H fun J H1 => LamX.Tabs T H1 ∧ ∀ H2, LamX.ExtN H1 H2 → LamX.Tabs T H2 → ∃ (N : Nat) (Rest : Int → Nat → Hp → Prop), Rest 0 0 H2 ∧
  ∀ acc i H, Rest acc i H → (J.stop i H ∧ Q (.int acc) H) ∨ (i < N ∧ J.go i H ∧ ∀ v H', J.yld i H v H' → gd v (wipe σ vs) H' fun σ2 H3 => wipe σ2 vs = wipe σ vs ∧ tt σ2 H3 fun b H4 => if b = true then te σ2 H4 fun y H5 => ∃ v, y = .int v ∧ InLong v ∧ InLong (acc + v) ∧ Rest (acc + v) (i + 1) H5 else Rest acc (i + 1) H4)
section
variable {X : Cx}
theorem pe_sumE {T : List (Addr × Str)} {c P : Addr} {elt tg iter : Expr} {ifs : List Expr} {scope : Scope} {gpos p pos : Pos} {own : List (Str × Nat)} {wi : TI} {gd : TG} {tt : TT} {te : TE} {k : Nat}
    (mg_ : ∀ v σ H (Q Q' : L2.St → Hp → Prop), (∀ σ H, Q σ H → Q' σ H) → gd v σ H Q → gd v σ H Q') (mt : ∀ σ H (Q Q' : Bool → Hp → Prop), (∀ b H, Q b H → Q' b H) → tt σ H Q → tt σ H Q') (me : ∀ σ H (Q Q' : VK), (∀ v H, Q v H → Q' v H) → te σ H Q → te σ H Q')
    (hr : Room (k + 1) X.A) (hgl : Gl X "sum") (hm : X.mg "sum" = none) (hb : bootBuiltins "sum" = some (.builtin "sum")) (TB : LamX.TabB X.base X.mg c P) (hcode : X.env.code = .ref c) (hmT : (P, X.env.qual ++ "<genexpr>") ∈ T) (hu : ∀ p ∈ T, p.1 = P → p.2 = X.env.qual ++ "<genexpr>") (hN : X.N.Nodup)
    (hi : PI X tg iter wi) (ok : BlkOk X.N X.env.scope scope own) (gk : GenOk scope)
    (hg : ∀ (A : Around) (s : Shared) (H : Hp) (C : Addr) (cl : List (Str × Addr)) (code : Value) (fp : List Addr), Room k A → PG (genCx X A s H (genEnv scope cl C code builtinsNs X.env) fp) tg gd)
    (ht : ∀ (A : Around) (s : Shared) (H : Hp) (C : Addr) (cl : List (Str × Addr)) (code : Value) (fp : List Addr), Room k A → PTs (genCx X A s H (genEnv scope cl C code builtinsNs X.env) fp) ifs tt)
    (he : ∀ (A : Around) (s : Shared) (H : Hp) (C : Addr) (cl : List (Str × Addr)) (code : Value) (fp : List Addr), Room k A → PE (genCx X A s H (genEnv scope cl C code builtinsNs X.env) fp) elt te)
    (hs : ∀ v, genFold iter X.env v = pure v)
    (hse : starEach [.GeneratorExp elt [⟨tg, iter, ifs, 0⟩] scope gpos] X.env = (false, eval (.GeneratorExp elt [⟨tg, iter, ifs, 0⟩] scope gpos) X.env) :: starEach [] X.env := by rfl) :
    PE X (.Call (.Name "sum" p) [.GeneratorExp elt [⟨tg, iter, ifs, 0⟩] scope gpos] [] pos) (tSumE T wi gd tt te (own.map (·.2))) := by
  refine ⟨fun pins s σ H Q I h => ?_⟩
  refine wpAny_Call_Name_kw (ld_blt I hgl hm hb ?_)
  refine PyProof.Rows.callWith_builtin1 ?_ hse (by rfl)
  rw [hse]
  show wpAny _ _ (spliced ((false, eval (.GeneratorExp elt [⟨tg, iter, ifs, 0⟩] scope gpos) X.env) :: backTo pos (starEach [] X.env))) _ _ s
  refine Calls.spliced_cons (ge_make I hr TB hcode hmT hu hi ok gk hs h fun J H1 h1 => ⟨h1.1, fun H2 x2 t2 a s5 hnew => ?_⟩)
  refine Calls.spliced_nil ?_
  obtain ⟨N, Rest, hR0, turn⟩ := h1.2 H2 x2 t2
  have hgen0 : ∃ gi, s5.heap.IsGen a gi := by
    obtain ⟨s4, it, fp, tn, code, gs, tk, h5, m5, ob, I4, Tu, st4, f4, _, rfl, k5, n5, ha, hob, hgen, hnc⟩ := hnew.ex
    exact ⟨_, hgen _ hob⟩
  obtain ⟨gi0, hgen0⟩ := hgen0
  refine call_function_tree F.kind_sum F.plain_sum F.entry_sum (F.args_sum1 _) ?_
  unfold Builtin.«sum»
  simp only [List.length_cons, List.length_nil]
  rw [if_neg (by decide)]
  refine wpAny_bind (wpAny_of_eq (show Builtin.Builtins.bindParams "sum" ["start"] 0 { } = pure [none] from rfl) ?_)
  refine wpAny_bind (wpAny_pyIter_gen hgen0 ?_)
  refine wpAny_bind (wpAny_mkInt ?_)
  refine wpAny_bind (wpAny_pure ?_)
  simp only [List.forIn_cons, List.forIn_nil]
  refine wpAny_bind (wpAny_bind (wpAny_bind (wpAny_isInstance (T := "int") (b := false) (typeIs_int _ _ _) PySem.sub_int_str ?_)))
  simp only [Bool.false_eq_true, if_false]
  refine wpAny_pure (wpAny_bind (wpAny_bind (wpAny_isInstance (T := "int") (b := false) (typeIs_int _ _ _) PySem.sub_int_bytes ?_)))
  simp only [Bool.false_eq_true, if_false]
  refine wpAny_pure (wpAny_bind (wpAny_bind (wpAny_isInstance (T := "int") (b := false) (typeIs_int _ _ _) PySem.sub_int_bytearray ?_)))
  simp only [Bool.false_eq_true, if_false]
  refine wpAny_pure (wpAny_pure ?_)
  refine wpAny_bind (wpAny_newObj_type ?_)
  obtain ⟨g, ea, eS, ep, ew, gok, ⟨gi, hgen, hG⟩, back⟩ := ge_ready (N := N) (Rest := RestS s5.heap.objs.size Rest) (Dn := DnS s5.heap.objs.size fun acc => Q (.int acc)) (Yl := YlS s5.heap.objs.size Rest) (S := [s5.heap.objs.size]) (ps := [(s5.heap.objs.size, sumObj 0 s5.toks 0)]) (s6 := { s5 with toks := s5.toks + 1, heap := s5.heap.push { cls := .type "list", data := .seq #[.int 0 s5.toks] } }) hr hN ok gk hnew hg ht he
    (fun i ps H _ hR => by
      obtain ⟨acc, tA, c, rfl, hR⟩ := hR
      rcases turn acc i H hR with ⟨h1, h2⟩ | ⟨h1, h2, h3⟩
      · exact .inl ⟨h1, acc, tA, c, rfl, h2⟩
      · refine .inr ⟨h1, h2, fun x H' hy => mg_ _ _ _ _ _ (fun σ2 H2 ⟨q1, q2⟩ => ⟨q1, mt _ _ _ _ (fun b H3 q3 => ?_) q2⟩) (h3 x H' hy)⟩
        cases b with
        | false => exact ⟨acc, tA, c, rfl, q3⟩
        | true => exact me _ _ _ _ (fun v H4 ⟨w, e1, e2, e3, e4⟩ => ⟨acc, tA, c, w, rfl, e1, e2, e3, e4⟩) q3)
    (fun b hb => by rw [List.mem_singleton.mp hb]; exact Nat.le_refl _) ⟨rfl, fun p hp => by rw [List.mem_singleton.mp hp]; exact ⟨Heap.get?_push_size _ rfl, fun v e => by cases e⟩⟩ (fun _ _ e => Heap.get?_push_of_some _ e) ⟨_, _, rfl⟩
  rw [← ea, ← ep, ← ew]
  exact wpAny_pure ⟨plainId_quiet F.plain_sum_loop _, sum_loop (RestA := Rest) (Qd := fun acc => Q (.int acc)) gok eS hgen hr.hd hr.depth (fun ps H' s' acc t hE q => ⟨.int acc, H', back ps H' s' hE, ⟨t, rfl⟩, q⟩) N 0 0 s5.toks 0 H2 _ hG hR0⟩
end
end DL
set_option Elab.async false
set_option linter.all false
set_option maxRecDepth 100000
set_option maxHeartbeats 1000000
namespace DL
open PySem L2 PySem.Spec PyProof.Rows GenW
def smallI (v : Int) : Prop := v < 1152921504606846976 ∧ -1152921504606846976 < v
instance (v : Int) : Decidable (smallI v) := by unfold smallI; exact inferInstance
def sumG (gd : D → LE → Option LE) (tt : LE → R Bool) (te : LE → R D) (r : LE) : Int → List D → R Int
  | acc, [] => .ok acc
  | acc, d :: ds => match gd d r with
    | none => .stuck
    | some r' => do
      if (← (tt r').calm) then do
        match ← (te r').calm with
        | .int v => if smallI v ∧ smallI (acc + v) then sumG gd tt te r (acc + v) ds else .stuck
        | _ => .stuck
      else sumG gd tt te r acc ds
def sumE (fi : LE → R (List D)) (gd : D → LE → Option LE) (tt : LE → R Bool) (te : LE → R D) (vs : List Nat) : LE → R D := fun r => do
  let ds ← fi r
  let b ← sumG gd tt te (wipeL r vs) 0 ds
  .ok (.int b)
theorem smallI.long {v : Int} (h : smallI v) : InLong v := by
  unfold smallI at h
  exact ⟨by omega, by omega⟩
section
variable {X : Cx} {G : Gm} {W : WX} {tg iter : Expr} {fi : LE → R (List D)} {gd : D → LE → Option LE} {is vs : List Nat} {tt : LE → R Bool} {te : LE → R D}
theorem sum_core_d {T : List (Addr × Str)} (hT : T = G.tabs) (hsub : ∀ j ∈ is, j ∈ vs) {sg : L2.St} {H : Hp} {Q : VK} (h : tD G W (sumE fi gd tt te vs) sg H Q) : tSumE T (tIe G W fi) (tGd G gd is) (tT G W0 tt) (tD G W0 te) vs sg H Q := by
  subst hT
  obtain ⟨dl, Z, O, r, A, q⟩ := h
  refine ⟨dl, Z, O, r, A, q.bind.thn fun ds hds J B H1 g1 k1 wk hB => ⟨k1.tab, fun H2 x2 t2 => ?_⟩⟩
  have k2 : GlOk G dl H2 := k1.ofExt x2 t2
  have A1 := A.grow g1 k1
  have g2 : Grow dl H1 H2 := ext_grow x2
  have A2 := A1.grow g2 k2
  have hds := hds.bind
  refine ⟨ds.length, fun acc i H' => i ≤ ds.length ∧ At G dl Z O r sg H' ∧ Grow dl H H' ∧ B Z H' ∧
    Wp (sumG gd tt te (wipeL r vs) acc (ds.drop i)) (fun b => ∀ v H2, Grow dl H H2 → GlOk G dl H2 → Rep G dl (cut H2 Z) (.int b) v → Q v H2) (fun e => ∀ cls dx H', Grow dl H H' → GlOk G dl H' → XRep G dl (cut H' Z) e cls dx H' → W cls dx sg H'),
    ⟨Nat.zero_le _, A2, g1.trans g2, wk.mono _ _ _ _ (g2.cut A.dz) g2 hB, by simpa using hds⟩, ?_⟩
  rintro acc i H' ⟨hi', A', gH, hB', hw⟩
  by_cases hlt : i < ds.length
  · have hdrop : ds.drop i = ds[i] :: ds.drop (i + 1) := List.drop_eq_getElem_cons hlt
    rw [hdrop] at hw
    refine .inr ⟨hlt, wk.go i Z H' hB' hlt, fun v H3 hy => ?_⟩
    obtain ⟨g3, k3, rp⟩ := wk.yld i Z O r sg H' v H3 A' hB' hy ds[i] (by simp)
    have A3 := A'.grow g3 k3
    unfold sumG at hw
    cases hgd : gd ds[i] (wipeL r vs) with
    | none => rw [hgd] at hw; exact hw.elim
    | some r2 =>
      rw [hgd] at hw
      refine ⟨dl, Z, O, wipeL r vs, ds[i], A3.wipe vs, rp, r2, hgd, fun sg3 hl3 hs3 A4 => ⟨?_, ?_⟩⟩
      · exact (wipe_same hl3 fun j hj => hs3 j fun z => hj (hsub j z)).trans (wipe_wipe vs)
      refine ⟨dl, Z, O, r2, A4, (calm_wp hw.bind).mono (fun b hb H4 g4 k4 => ?_) fun e he => he⟩
      have A5 := A4.grow g4 k4
      have C4 : At G dl Z O r sg H4 := A3.grow g4 k4
      have gg : Grow dl H H4 := (gH.trans g3).trans g4
      have hB4 : B Z H4 := wk.mono _ _ _ _ (g4.cut A.dz) g4 (wk.mono _ _ _ _ (g3.cut A.dz) g3 hB')
      cases b with
      | false => exact ⟨hlt, C4, gg, hB4, hb⟩
      | true =>
        refine ⟨dl, Z, O, r2, A5, (calm_wp hb.bind).mono (fun y hy2 w H5 g5 k5 rp5 => ?_) fun e he => he⟩
        have C5 : At G dl Z O r sg H5 := C4.grow g5 k5
        have hB5 : B Z H5 := wk.mono _ _ _ _ (g5.cut A.dz) g5 hB4
        cases y with
        | int z =>
          unfold Rep at rp5
          have hy3 : Wp (if smallI z ∧ smallI (acc + z) then sumG gd tt te (wipeL r vs) (acc + z) (ds.drop (i + 1)) else R.stuck) _ _ := hy2
          split at hy3
          · rename_i hsm
            exact ⟨z, rp5, hsm.1.long, hsm.2.long, hlt, C5, gg.trans g5, hB5, hy3⟩
          · exact hy3.elim
        | _ => exact hy2.elim
  · have e : i = ds.length := by omega
    subst e
    rw [List.drop_length] at hw
    exact .inl ⟨wk.stop _ _ H' hB' (Nat.le_refl _), hw (.int acc) H' gH A'.gl (by unfold Rep; rfl)⟩
theorem de_sum {c P : Addr} {elt : Expr} {ifs : List Expr} {scope : Scope} {gpos p pos : Pos} {own : List (Str × Nat)} {k : Nat}
    (hr : Room (k + 1) X.A) (hgl : Gl X "sum") (hm : X.mg "sum" = none) (TB : LamX.TabB X.base X.mg c P) (hcode : X.env.code = .ref c) (hmT : (P, X.env.qual ++ "<genexpr>") ∈ G.tabs) (hu : ∀ p ∈ G.tabs, p.1 = P → p.2 = X.env.qual ++ "<genexpr>") (hN : X.N.Nodup)
    (hi : DIe X G W tg iter fi) (ok : BlkOk X.N X.env.scope scope own) (gk : GenOk scope)
    (hg : GenC X k scope fun Y => DG Y G tg gd is) (ht : GenC X k scope fun Y => DTs Y G W0 ifs tt) (he : GenC X k scope fun Y => DE Y G W0 elt te)
    (hsub : ∀ j ∈ is, j ∈ own.map (·.2)) (hs : ∀ v, genFold iter X.env v = pure v := by intro _; rfl) (hb : bootBuiltins "sum" = some (.builtin "sum") := by rfl)
    (hse : starEach [.GeneratorExp elt [⟨tg, iter, ifs, 0⟩] scope gpos] X.env = (false, eval (.GeneratorExp elt [⟨tg, iter, ifs, 0⟩] scope gpos) X.env) :: starEach [] X.env := by rfl) :
    DE X G W (.Call (.Name "sum" p) [.GeneratorExp elt [⟨tg, iter, ifs, 0⟩] scope gpos] [] pos) (sumE fi gd tt te (own.map (·.2))) :=
  PE_imp (pe_sumE (T := G.tabs) (fun v σ H Q Q' h ⟨dl, Z, O, r, d, A, rp, r', hr', q⟩ => ⟨dl, Z, O, r, d, A, rp, r', hr', fun sg' h1 h2 h3 => h _ _ (q sg' h1 h2 h3)⟩) (fun σ H Q Q' h ⟨dl, Z, O, r, A, q⟩ => ⟨dl, Z, O, r, A, q.thn fun b q H' g k => h _ _ (q H' g k)⟩) (fun σ H Q Q' h ⟨dl, Z, O, r, A, q⟩ => ⟨dl, Z, O, r, A, q.thn fun d q v H' g k rp => h _ _ (q v H' g k rp)⟩)
    hr hgl hm hb TB hcode hmT hu hN hi ok gk hg ht he hs hse) fun sg H Q h => sum_core_d rfl hsub h
end
end DL
set_option Elab.async false
set_option linter.all false
set_option maxRecDepth 100000
namespace DL
open PySem L2 LamX PySem.Spec PyProof.Rows
section
variable {P : Program} {w : World} {K : PySem.W.Frag} {mg : Str → Option Value} {base : Heap} {G : Gm} {x qual : Str} {st : Stmt} {f : Addr} {fd : FuncData} {N ps : List Str} {k n m c nf : Nat} {F : LE → R Out}
/-- the law's own def -/
theorem law_V {cdv : Value} {m : Nat} {oc : Value} {od : Option Addr} {kV doc pm : Value} {an : Option Addr} {ct : Value} {osl : Array (Option Value)} (lk : K.lookup f = some ⟨oc, od, .func (PySem.W.fnOf "law" "law" (defArgs st) (defBody st) (defScope st) .none kV doc pm an cdv ct), osl⟩)
    (cd : PySem.W.codeIn K cdv "law" = true) (S : FnScope N ["script"] (defScope st)) (hm : N.length = m) (h2 : 2 ≤ m) (hG : G.K = K) (hF : Wp (F (r0 m)) (fun o => ∃ r, o = .nx r ∨ o = .ct r) (fun _ => False))
    (hb : ∀ A outer s H E, Room k (A.deeper (envOfC "law" (defScope st) s.heap.objs.size f cdv)) → ∃ E', PSs (cxD P w K mg base N "law" st f cdv A outer s H E) (defBody st) (tSeq (tFor (iList G.K (tCallS (spRounds G.K) E' (tCons (tVar 0) (tCons (tC (.int 1)) tNil)))) (gName 1) (tS G (WD E) F)) (tRet (tC (.bl true))))) :
    FnOk P w K mg base (L2.CX P w) (k + 1) f (PySem.W.fnOf "law" "law" (defArgs st) (defBody st) (defScope st) .none kV doc pm an cdv ct) ["script"] (spLaw K G.tabs) := by
  refine fn_of lk cd S (fun vs H Q E h => by obtain ⟨a, ns, rfl, _⟩ := h; rfl) fun A outer s H vs Q E hr h => ?_
  obtain ⟨E', hp⟩ := hb A outer s H E hr
  obtain ⟨a, ns, rfl, hS, hT, kq⟩ := h
  exact ⟨_, hp, law_core hm h2 (hG.symm ▸ hS) hT kq hF⟩
end
end DL
set_option Elab.async false
set_option linter.all false
set_option maxRecDepth 100000
set_option maxHeartbeats 1000000
namespace DL
open PySem L2 PySem.Spec PyProof.Rows
def strD : D → R (List D)
  | .str s => .ok (s.map fun c => .str [c])
  | _ => .stuck
theorem signs_get {s : List Nat} {i : Nat} {d : D} (h : (s.map fun c => D.str [c])[i]? = some d) : ∃ c, s[i]? = some c ∧ d = .str [c] := by
  rw [List.getElem?_map] at h
  cases e : s[i]? with
  | none => rw [e] at h; cases h
  | some c => rw [e] at h; cases h; exact ⟨c, rfl, rfl⟩
section
variable {X : Cx} {G : Gm} {W : WX} {tg iter : Expr} {f : LE → R D} {pos p : Pos}
theorem walk_str {dl : Addr} {s : List Nat} : WalkS G dl (Its ⟨s.toArray⟩) (s.map fun c => D.str [c]) (fun _ _ => True) where
  mono := fun _ _ _ _ _ _ _ => trivial
  monoS := fun _ _ _ _ _ _ => trivial
  go := fun i Z H h hi => by
    show i < s.toArray.size
    simpa using hi
  stop := fun i Z H h hi => by
    show s.toArray.size ≤ i
    simpa using hi
  yld := fun i Z O r sg H x H' A h hy d hd => by
    obtain ⟨rfl, c, hc, rfl⟩ := hy
    obtain ⟨c', hc', rfl⟩ := signs_get hd
    have hc2 : s.toArray[i]? = some c := hc
    rw [List.getElem?_toArray, hc'] at hc2
    cases hc2
    exact ⟨.refl _ _, A.gl, Rep.str_⟩
theorem di_str (h : DE X G W iter f) : DI X G W tg iter (fun r => f r >>= strD) := PI_imp (pi_str h) fun sg H Q ⟨dl, Z, O, r, A, q⟩ => by
  refine ⟨dl, Z, O, r, A, q.bind.thn fun d hd v H1 g1 k1 rp => ?_⟩
  unfold strD at hd
  split at hd
  · rename_i s
    unfold Rep at rp
    subst rp
    exact ⟨_, rfl, hd _ _ H1 g1 k1 walk_str trivial⟩
  · exact hd.elim
/-- pairs counted from k, the items as they are fixed from the start -/
def Itq (k : Int) (xs : List V) : It := ⟨fun i _ => i < xs.length, fun i H v H' => ∃ T x, v = .ref T ∧ H T = none ∧ H' = upd H T (.tup [.int (k + (i : Nat)), x]) ∧ xs[i]? = some x, fun i _ => xs.length ≤ i⟩
def enumL (k : Int) (ds : List D) : List D := ds.mapIdx fun i d => .tup [.int (k + (i : Nat)), d]
theorem enumL_get {k : Int} {ds : List D} {i : Nat} {e : D} (h : (enumL k ds)[i]? = some e) : ∃ d, ds[i]? = some d ∧ e = .tup [.int (k + (i : Nat)), d] := by
  unfold enumL at h
  rw [List.getElem?_mapIdx] at h
  cases q : ds[i]? with
  | none => rw [q] at h; cases h
  | some d => rw [q] at h; cases h; exact ⟨d, rfl, rfl⟩
theorem enumL_len {k : Int} {ds : List D} : (enumL k ds).length = ds.length := by unfold enumL; simp
theorem walk_enumq {dl : Addr} {k : Int} {ds : List D} {vs : List V} {Z0 : List Addr} {H0 : Hp} (rl : RepL G dl (cut H0 Z0) ds vs) :
    WalkS G dl (Itq k vs) (enumL k ds) (fun Z H => GrowS (cut H0 Z0) (cut H Z)) where
  mono := fun _ _ _ _ g _ h => LamX.ExtN.trans h g
  monoS := fun _ _ _ _ g h => LamX.ExtN.trans h g
  go := fun i Z H h hi => by
    show i < vs.length
    rw [rl.length]; rw [enumL_len] at hi; exact hi
  stop := fun i Z H h hi => by
    show vs.length ≤ i
    rw [rl.length]; rw [enumL_len] at hi; exact hi
  yld := fun i Z O r sg H x H' A h hy e he => by
    obtain ⟨d, hd, rfl⟩ := enumL_get he
    obtain ⟨T, u, rfl, hT, rfl, hu⟩ := hy
    obtain ⟨u', hu', rp⟩ := RepL.getD ds vs i d rl hd
    rw [hu] at hu'; cases hu'
    have hTZ : T ∉ Z := A.out hT
    have gN : GrowS (cut H Z) (cut (upd H T (.tup [.int (k + (i : Nat)), u])) Z) := fun b o e n => by
      obtain ⟨e1, e2⟩ := cut_some e
      rw [cut_out e1, upd_ne (ne_of_none e2 hT)]; exact e2
    refine ⟨.new hT, A.gl.new hT, ?_⟩
    unfold Rep
    refine ⟨T, _, rfl, SqT.of (by rw [cut_out hTZ, upd_same]), RepL.cons Rep.int_ (RepL.cons ((rp.mono h).mono gN) RepL.nil)⟩
/-- over a text -/
theorem turn_enumT {P : Program} {w : World} {K : PySem.W.Frag} {elts : List Expr} {kk : Nat} {tpos : Pos} (k : Int) (x : Str) (t : Tok) (e it : Addr) :
    Turn P w K (.Tuple elts kk tpos) (Itq k (x.cps.toList.map fun c => V.str ⟨#[c]⟩)) [e, it] e (fun i h => (∃ old, IsEnum h e it (k + ((i : Nat) : Int)) old) ∧ h.IsStrIter it (strIterType x) x t i ∧ e ≠ it ∧ i ≤ x.cps.size) where
  mem := by simp
  obj := fun i h st b hb => by
    obtain ⟨⟨old, he⟩, ⟨o, ho, hc, hd⟩, _⟩ := st
    have e' : b = e ∨ b = it := by simpa using hb
    rcases e' with z | z
    · rw [z]; exact ⟨_, he, fun v q => nomatch q⟩
    · rw [z]; exact ⟨o, ho, fun v q => by rw [hd] at q; cases q⟩
  keep := fun i h h' st kk => let ⟨⟨old, he⟩, ⟨o, ho, r⟩, hne⟩ := st; ⟨⟨old, kk e (by simp) _ he⟩, ⟨o, kk it (by simp) o ho, r⟩, hne⟩
  item := by
    intro X hP hw hK hc i pins s σ H E I hf st hg
    subst hP hw hK
    obtain ⟨⟨old, he⟩, hit, hne, _⟩ := st
    have hi : i < x.cps.size := by
      have : i < (x.cps.toList.map fun c => V.str ⟨#[c]⟩).length := hg
      simpa using this
    have hel : e < s.heap.objs.size := Heap.lt_size he
    have hil : it < s.heap.objs.size := by obtain ⟨_, q, _⟩ := hit; exact Heap.lt_size q
    refine wpAny_pyNext_enum_itemC (Draws.text (A := X.A.in1) (I.ok.hd hc) it x t) he hit hi hne (by simpa using hne) fun u h' tk hu ho hit' hT hsz hk => ?_
    obtain ⟨c, tc, hcx, rfl⟩ := hu
    refine ⟨_, rfl, wpAny_letOwnedTupleGo_enum (s := { s with heap := h', toks := tk + 1 }) ho fun h'' he' sb => ?_⟩
    have hT2 : h''.get? s.heap.objs.size = some { cls := .type "tuple", data := .seq #[.int (k + ((i : Nat) : Int)) tk, .str ⟨#[c]⟩ tc] } := (sb.2 _ (Nat.ne_of_gt hel)).trans hT
    have new : ObjOk X.prog X.w (upd H s.heap.objs.size (.tup [.int (k + (i : Nat)), .str ⟨#[c]⟩])) h'' s.heap.objs.size (.tup [.int (k + (i : Nat)), .str ⟨#[c]⟩]) :=
      ⟨by show 2 ≤ sizeLine; decide, [.int (k + ((i : Nat) : Int)) tk, .str ⟨#[c]⟩ tc], .cons ⟨_, rfl⟩ (.cons ⟨_, rfl⟩ .nil), ⟨_, hT2, rfl, _, rfl⟩⟩
    have I1 : Inv X pins σ (upd H s.heap.objs.size (.tup [.int (k + (i : Nat)), .str ⟨#[c]⟩])) { s with heap := h'', toks := tk + 1 } :=
      I.turnedNew (ch := [e, it]) (fun b ob hb q => (sb.2 b (fun z => hb (by simp [z]))).trans (hk b ob (fun z => hb (by simp [z])) (fun z => hb (by simp [z])) q)) hf (Nat.le_refl _) new
    obtain ⟨oi, hoi, ri⟩ := id hit'
    refine ⟨.ref s.heap.objs.size, _, I1, rfl, ⟨_, .str ⟨#[c]⟩, rfl, I.hok.fresh (Nat.le_refl _), rfl, ?_⟩, ⟨⟨.str ⟨#[c]⟩ tc, ?_⟩, ⟨oi, (sb.2 it (Ne.symm hne)).trans hoi, ri⟩, hne, hi⟩, fun b hb => ?_⟩
    · rw [List.getElem?_map, Array.getElem?_toList, hcx]
      rfl
    · have e1 : k + ((i + 1 : Nat) : Int) = k + ((i : Nat) : Int) + 1 := by omega
      rw [e1]; exact he'
    · have hb' : b < s.heap.objs.size := by
        have e' : b = e ∨ b = it := by simpa using hb
        rcases e' with z | z
        · rw [z]; exact hel
        · rw [z]; exact hil
      rw [upd_ne (Nat.ne_of_lt hb')]
      exact (hf b hb).1
  done := by
    intro X hP hw hK hc i pins s σ H E I hf st hg
    subst hP hw hK
    obtain ⟨⟨old, he⟩, hit, hne, hle⟩ := st
    have hx : x.cps.size ≤ i := by
      have : (x.cps.toList.map fun c => V.str ⟨#[c]⟩).length ≤ i := hg
      simpa using this
    obtain ⟨f0, f1, f2, f3, f4, f5⟩ := hf it (by simp)
    obtain rfl : i = x.cps.size := by omega
    refine wpAny_pyNext_enum_endD (Draws.text (A := X.A.in1) (I.ok.hd hc) it x t) he hit fun h' eb => ⟨rfl, I.turned (t' := s.toks) (fun b o hb q => eb b o hb q) f0 f1 f3 f4 f5⟩
  self := fun A i s Q E st h => let ⟨⟨_, he⟩, _⟩ := st; wpAny_pyIter_enum he h
end
end DL
set_option Elab.async false
set_option linter.all false
set_option maxRecDepth 100000
set_option maxHeartbeats 1000000
namespace DL
open PySem L2 PySem.Spec PyProof.Rows
section
variable {X : Cx} {G : Gm} {W : WX} {e : Expr} {f : LE → R D} {te : TE} {p pos tpos kpos : Pos} {elts : List Expr} {kk : Nat}
def signsV (x : Str) : List V := x.cps.toList.map fun c => V.str ⟨#[c]⟩
def iEnumT (k : Int) (ta : TA) : TI := fun σ H R => ta σ H fun vs H1 => ∃ x, vs = [.str x] ∧ R (Itq k (signsV x)) H1
theorem enumT_at {pins : List (Addr × Obj)} {σ : L2.St} {H1 : Hp} {s1 : Shared} {x : Str} {t : Tok} {k : Int} {Rr : It → Hp → Prop} {h' : Heap} (I1 : Inv X pins σ H1 s1) (q : Rr (Itq k (signsV x)) H1)
    (he : IsEnum h' (s1.heap.objs.size + 1) s1.heap.objs.size k .none) (hit : h'.IsStrIter s1.heap.objs.size (strIterType x) x t 0) (hk : ∀ b o, s1.heap.get? b = some o → h'.get? b = some o) :
    PIE X pins σ (.Tuple elts kk tpos) Rr (.ref (s1.heap.objs.size + 1)) { s1 with heap := h' } := by
  have I2 : Inv X pins σ H1 { s1 with heap := h' } := I1.kept (t' := s1.toks) hk
  refine ⟨s1.heap.objs.size + 1, [s1.heap.objs.size + 1, s1.heap.objs.size], _, _, H1, rfl, I2, turn_enumT k x t (s1.heap.objs.size + 1) s1.heap.objs.size, ⟨⟨.none, by simpa using he⟩, hit, Nat.succ_ne_self _, Nat.zero_le _⟩, fun b hb => ?_, q⟩
  have e' : b = s1.heap.objs.size + 1 ∨ b = s1.heap.objs.size := by simpa using hb
  have hle : s1.heap.objs.size ≤ b := by
    rcases e' with z | z
    · rw [z]; exact Nat.le_add_right _ _
    · rw [z]; exact Nat.le_refl _
  exact I1.fpOk hle (I1.hok.fresh hle)
theorem pi_enumT {ta : TA} (hg : Gl X "enumerate") (hm : X.mg "enumerate" = none) (ha : PA X [e] ta) (hs : starEach [e] X.env = [(false, eval e X.env)] := by rfl) :
    PI X (.Tuple elts kk tpos) (.Call (.Name "enumerate" p) [e] [] pos) (iEnumT 0 ta) := by
  refine ⟨fun pins s σ H R I h => ?_⟩
  refine Call_ (ld_blt I hg hm boot_enumerate (PyProof.Rows.callWith_type1 (thn (ha.run pos pins s σ H _ I h) fun us s1 ⟨vs, H1, I1, r1, q1⟩ => ?_) hs rfl))
  obtain ⟨x, ex, q⟩ := q1
  subst ex
  cases r1 with
  | cons r rr =>
    cases rr
    obtain ⟨t, rfl⟩ := r
    exact call_enumerate_str fun h' he hit hsz hk => wpAny_pyIter_enum he (enumT_at I1 q he hit hk)
def enumTD (k : Int) : List D → R (List D)
  | [.str s] => .ok (enumL k (s.map fun c => .str [c]))
  | _ => .stuck
theorem signs_rep {G : Gm} {dl : Addr} {S : Hp} : ∀ {s : List Nat}, RepL G dl S (s.map fun c => D.str [c]) (s.map fun c => V.str ⟨#[c]⟩)
  | [] => RepL.nil
  | c :: s => RepL.cons Rep.str_ signs_rep
theorem enumT_core {k : Int} {fs : LE → R (List D)} {sg : L2.St} {H : Hp} {Rr : It → Hp → Prop} (h : tIs G W (fun r => fs r >>= enumTD k) sg H Rr) : iEnumT k (tA G W fs) sg H Rr := by
  obtain ⟨dl, Z, O, r, A, q⟩ := h
  refine ⟨dl, Z, O, r, A, q.bind.thn fun ds hd vs H1 g1 k1 rl => ?_⟩
  unfold enumTD at hd
  split at hd
  · rename_i s
    unfold RepL at rl
    obtain ⟨v, us, rfl, h1, h2⟩ := rl
    unfold Rep at h1
    unfold RepL at h2
    subst h1 h2
    refine ⟨_, rfl, hd _ _ H1 g1 k1 (walk_enumq (Z0 := Z) (H0 := H1) signs_rep) (LamX.ExtN.refl _)⟩
  · exact hd.elim
theorem di_enumT {fs : LE → R (List D)} (hg : Gl X "enumerate") (hm : X.mg "enumerate" = none) (ha : DA X G W [e] fs) (hs : starEach [e] X.env = [(false, eval e X.env)] := by rfl) :
    DI X G W (.Tuple elts kk tpos) (.Call (.Name "enumerate" p) [e] [] pos) (fun r => fs r >>= enumTD 0) := PI_imp (pi_enumT hg hm ha hs) fun sg H Q h => enumT_core h
end
end DL
set_option Elab.async false
set_option linter.all false
set_option maxRecDepth 100000
set_option maxHeartbeats 1000000
namespace DL
open PySem L2 PySem.Spec PyProof.Rows
def strsD : List D → Option (List (List Nat))
  | [] => some []
  | .str s :: ds => (strsD ds).map (s :: ·)
  | _ :: _ => none
theorem strsD_rep {G : Gm} {dl : Addr} {S : Hp} : ∀ {ds : List D} {ss : List (List Nat)} {vs : List V}, strsD ds = some ss → RepL G dl S ds vs → vs = (ss.map fun s => (⟨s.toArray⟩ : Str)).map V.str
  | [], ss, vs, h, rl => by
    cases h
    unfold RepL at rl
    exact rl
  | d :: ds, ss, vs, h, rl => by
    unfold RepL at rl
    obtain ⟨v, r, rfl, h1, h2⟩ := rl
    cases d with
    | str s =>
      unfold strsD at h
      cases e : strsD ds with
      | none => rw [e] at h; cases h
      | some ss' =>
        rw [e] at h
        cases h
        unfold Rep at h1
        rw [h1, strsD_rep e h2]
        rfl
    | _ => cases h
def joinOk (a : List Nat) (ss : List (List Nat)) : Bool := decide ((ss.map List.length).sum + ss.length * a.length ≤ 16777216)
def joinD : D → List D → R D
  | .str a, [.lst ds] => (match strsD ds with
    | some ss => if joinOk a ss then .ok (.str (TL.joinL a ss)) else .stuck
    | none => .stuck)
  | .str a, [.tup ds] => (match strsD ds with
    | some ss => if joinOk a ss then .ok (.str (TL.joinL a ss)) else .stuck
    | none => .stuck)
  | _, _ => .stuck
theorem join_fit {a : List Nat} {ss : List (List Nat)} (h : joinOk a ss = true) : ((ss.map fun s => (⟨s.toArray⟩ : Str)).map (·.length)).sum + (ss.map fun s => (⟨s.toArray⟩ : Str)).length * (⟨a.toArray⟩ : Str).length ≤ 16777216 := by
  unfold joinOk at h
  have h := of_decide_eq_true h
  have e : (ss.map fun s => (⟨s.toArray⟩ : Str)).map (·.length) = ss.map List.length := by
    rw [List.map_map]
    exact List.map_congr_left fun s _ => by simp [Str.length]
  rw [e, List.length_map]
  simpa [Str.length] using h
section
variable {X : Cx} {G : Gm}
theorem bm_join (hG : G.K = X.K) : BmD X G "str" "join" joinD := by
  refine ⟨⟨_, _, PySem.F.slot_str_join, PySem.F.type_str_join, mt_join, ?_⟩, PySem.F.plainAttrs_str⟩
  intro dl Z O r sg x vx ds vs H Q E A hx hds h
  unfold joinD at h
  split at h
  · rename_i a ds
    split at h
    · rename_i ss hss
      split at h
      · rename_i hf
        obtain ⟨v, rfl, hv⟩ := hds.one
        obtain ⟨p, us, rfl, hp, rl⟩ := hv.lst
        have := strsD_rep hss rl
        subst this
        refine ⟨_, p, _, hx.str, rfl, .inl (SqL.of hp), join_fit hf, ?_⟩
        rw [show Txt.join ⟨a.toArray⟩ (ss.map fun s => (⟨s.toArray⟩ : Str)) = ⟨(TL.joinL a ss).toArray⟩ from SX.join_S a ss]
        exact h _ H (.refl _ _) A.gl Rep.str_
      · exact h.elim
    · exact h.elim
  · rename_i a ds
    split at h
    · rename_i ss hss
      split at h
      · rename_i hf
        obtain ⟨v, rfl, hv⟩ := hds.one
        obtain ⟨p, us, rfl, hp, rl⟩ := hv.tup
        have := strsD_rep hss rl
        subst this
        refine ⟨_, p, _, hx.str, rfl, .inr (hG ▸ hp), join_fit hf, ?_⟩
        rw [show Txt.join ⟨a.toArray⟩ (ss.map fun s => (⟨s.toArray⟩ : Str)) = ⟨(TL.joinL a ss).toArray⟩ from SX.join_S a ss]
        exact h _ H (.refl _ _) A.gl Rep.str_
      · exact h.elim
    · exact h.elim
  · exact h.elim
/-- how often a sign stands in a text -/
def countD : D → List D → R D
  | .str s, [.str [c]] => .ok (.int (s.count c))
  | _, _ => .stuck
theorem cnt_count (c : Nat) : ∀ l : List Nat, cnt c l = (l.count c : Int)
  | [] => rfl
  | n :: r => by
    rw [cnt_cons, cnt_count c r, List.count_cons]
    by_cases h : n = c
    · subst h; simp; omega
    · simp [h]
theorem bm_count : BmD X G "str" "count" countD := by
  refine ⟨⟨_, _, PySem.F.slot_str_count, PySem.F.type_str_count, mt_count, ?_⟩, PySem.F.plainAttrs_str⟩
  intro dl Z O r sg x vx ds vs H Q E A hx hds h
  unfold countD at h
  split at h
  · rename_i s c
    obtain ⟨v, rfl, hv⟩ := hds.one
    refine ⟨_, _, hx.str, by rw [hv.str], ?_⟩
    have e : Txt.count ⟨s.toArray⟩ ⟨[c].toArray⟩ = (s.count c : Int) := by
      rw [show (⟨[c].toArray⟩ : Str) = ⟨#[c]⟩ from rfl, count_is]
      exact cnt_count c s
    rw [e]
    exact h _ H (.refl _ _) A.gl Rep.int_
  · exact h.elim
end
end DL
set_option Elab.async false
set_option linter.all false
set_option maxRecDepth 100000
set_option maxHeartbeats 2000000
namespace DLR
open PySem PySem.Spec PyProof.Rows
theorem norev_str : typeLookup (.type "str") "__reversed__" = pure none := by rw [typeLookup_type, builtinLookup_eq_fast]; kernel_rfl
theorem get_str : typeLookup (.type "str") "__getitem__" = pure (some (.builtin "str.__getitem__")) := by rw [typeLookup_type, builtinLookup_eq_fast]; kernel_rfl
theorem nolen_rt : typeLookup (.type "reversed") "__len__" = pure none := by rw [typeLookup_type, builtinLookup_eq_fast]; kernel_rfl
theorem hint_rt : typeLookup (.type "reversed") "__length_hint__" = pure (some (.builtin "reversed.__length_hint__")) := by rw [typeLookup_type, builtinLookup_eq_fast]; kernel_rfl
def rsObj (x : Str) (t : Tok) (i : Int) : Obj := { cls := .type "reversed", data := .fields #[.str x t, rawInt i] }
def IsRs (h : Heap) (a : Addr) (x : Str) (t : Tok) (i : Int) : Prop := ∃ o, h.get? a = some o ∧ o.cls = .type "reversed" ∧ o.data = .fields #[.str x t, rawInt i]
theorem IsRs.at {h h' : Heap} {a : Addr} {x : Str} {t : Tok} {i : Int} (q : IsRs h a x t i) (e : ∀ o, h.get? a = some o → h'.get? a = some o) : IsRs h' a x t i := let ⟨o, ho, r⟩ := q; ⟨o, e _ ho, r⟩
section
variable {prog : Program} {w : World} {A : Around} {E : Value → Shared → Prop} {s : Shared} {x : Str} {t : Tok}
theorem IsRs.typeIs {a : Addr} {i : Int} (q : IsRs s.heap a x t i) : s.TypeIs (.ref a) "reversed" := let ⟨o, ho, hc, _⟩ := q; ⟨o, ho, hc⟩
theorem code_reversed_str {Q₁ : Value → Shared → Prop} (hz : x.length ≤ sizeLine)
    (h : Q₁ (.ref s.heap.objs.size) { s with heap := s.heap.push (rsObj x t ((x.length : Int) - 1)), toks := s.toks + 1 + 1 }) :
    codeAny (model prog w) A (.call (.builtin "reversed.__new__") ⟨[.type "reversed", .str x t], []⟩) (wants Q₁ E) s := by
  have hT : s.TypeIs (.str x t) "str" := rfl
  have hfit : ¬ (x.length : Int) ≥ 2 ^ 63 := by rw [sizeLine_eq] at hz; omega
  refine codeAny_of_tree ?_
  show wpAny _ A.in1 (do checkBuiltinCall "reversed.__new__" ⟨[.type "reversed", .str x t], []⟩; again (.builtin "reversed.__new__" ⟨[.type "reversed", .str x t], []⟩)) _ _ s
  refine wpAny_bind (wpAny_of_eq (F.newCall_reversed_1 _) (wpAny_pure ⟨plainId_quiet F.plain_reversed_new _, codeAny_builtin F.entry_reversed_new ?_⟩))
  rw [Around.under_plainId F.plain_reversed_new _]
  unfold Builtin.«reversed.__new__»
  refine wpAny_bind (wpAny_of_eq (newClass_reversed _) ?_)
  try dsimp only
  refine wpAny_bind (wpAny_of_eq (a := ()) (by first | rfl | kernel_rfl) ?_)
  try dsimp only
  refine wpAny_bind (wpAny_of_eq (a := ()) (by first | rfl | kernel_rfl) ?_)
  try dsimp only
  refine wpAny_bind (wpAny_specialOf hT norev_str ?_)
  try dsimp only
  refine wpAny_bind ?_
  wp_delta
  refine wpAny_bind (wpAny_isInstance (T := "str") (U := "dict") (b := false) hT (by rw [isSubtype_type]; kernel_rfl) ?_)
  try dsimp only
  try rw [if_neg Bool.false_ne_true]
  try dsimp only
  refine wpAny_bind (wpAny_specialOf hT get_str ?_)
  try dsimp only
  try rw [if_pos (by decide +kernel)]
  refine wpAny_pure ?_
  try dsimp only
  try rw [if_neg (by decide)]
  try dsimp only
  refine wpAny_bind (PySem.P.len_str hfit ?_)
  refine wpAny_bind (wpAny_of_eq (a := some ((x.length : Nat) : Int)) rfl ?_)
  try dsimp only
  refine wpAny_bind ?_
  show wpAny _ _ (newObj (.type "reversed") (.fields #[.str x t, rawInt ((x.length : Int) - 1)])) _ _ _
  refine wpAny_newObj_type ?_
  exact wpAny_pure h
theorem call_reversed_str {Q : Value → Shared → Prop} (hz : x.length ≤ sizeLine)
    (h : Q (.ref s.heap.objs.size) { s with heap := s.heap.push (rsObj x t ((x.length : Int) - 1)), toks := s.toks + 1 + 1 }) : wpAny (model prog w) A (call (.type "reversed") [.str x t]) Q E s := by
  refine callType_codes (Q₁ := fun obj s₁ => s₁.TypeIs obj "reversed" ∧ Q obj s₁) RT.called_rt (F.typeCall_reversed_1 _) F.entry_object_init
    (code_reversed_str (A := A.in1) hz ⟨⟨_, Heap.get?_push_size _ rfl, rfl⟩, h⟩) fun obj s₁ h₁ => ?_
  exact ⟨h₁.1, F.args_object_init_2 obj _, object_init_meets RT.called_rt.init.lookup RT.called_rt.made (by decide) prog w A.in1 _ s₁ ⟨h₁.1, rfl, h₁.2⟩⟩
theorem next_rs_item {it : Addr} {i c : Nat} {Q : Option Value → Shared → Prop} (hit : IsRs s.heap it x t (i : Int)) (hx : x.cps[i]? = some c) (hsz : x.length ≤ sizeLine)
    (hQ : ∀ h' tk tc, IsRs h' it x t ((i : Int) - 1) → Heap.SameBut it s.heap h' → Q (some (.str ⟨#[c]⟩ tc)) { s with heap := h', toks := tk }) : wpAny (model prog w) A (pyNext (.ref it)) Q E s := by
  obtain ⟨o, ho, hc, hd⟩ := id hit
  have hi : i < x.length := (Array.getElem?_eq_some_iff.mp hx).1
  have hT : s.TypeIs (.str x t) "str" := rfl
  rw [sizeLine_eq] at hsz
  unfold pyNext
  refine wpAny_bind (wpAny_attempt (wpAny_callSpecial?_slot (name := Str.ofString "__next__") hit.typeIs RT.slot_rt_next
    (wpAny_call_entry RT.slot_rt_next hit.typeIs RT.entry_rt_next ?_ (RT.args_rt_next _))))
  unfold Builtin.«reversed.__next__»
  refine wpAny_bind (wpAny_of_eq (a := (Value.ref it, [])) rfl ?_)
  try dsimp only
  refine wpAny_bind (wpAny_field ho hd (x := .str x t) rfl ?_)
  try dsimp only
  refine wpAny_bind (wpAny_field ho hd (x := rawInt (i : Int)) rfl ?_)
  show wpAny _ _ (if (i : Int) < 0 then _ else _) _ _ s
  rw [if_neg (by omega)]
  try dsimp only
  refine wpAny_bind (wpAny_specialOf hT get_str ?_)
  try dsimp only
  try rw [if_neg (by decide)]
  try dsimp only
  refine wpAny_bind (wpAny_mkInt ?_)
  refine wpAny_bind (wpAny_attempt ?_)
  have fin : seqIndex? (i : Int) x.length = some i := seqIndex_of (by omega) (by omega)
  refine PyProof.Rows.getItem_str (s := { s with toks := s.toks + 1 }) (by simp only [Bool.or_eq_false_iff, decide_eq_false_iff_not]; omega) (by rw [fin]; exact hx) ?_
  try dsimp only
  refine wpAny_bind (wpAny_field (s := { s with toks := s.toks + 1 + 1 }) ho hd (x := rawInt (i : Int)) rfl ?_)
  try dsimp only
  refine wpAny_bind (wpAny_setField (s := { s with toks := s.toks + 1 + 1 }) ho hd (by simp) ?_)
  first
  | refine wpAny_pure ⟨_, rfl, wpAny_pure (hQ _ _ _ ?_ (Heap.SameBut.update ..))⟩
  | refine wpAny_bind (wpAny_pure (wpAny_pure ⟨_, rfl, wpAny_pure (hQ _ _ _ ?_ (Heap.SameBut.update ..))⟩))
  · exact ⟨_, Heap.get?_update_self _ ho (Obj.isFreed_of_fields (Obj.data_mapFields hd _)), (Obj.cls_mapFields ..).trans hc, by
      rw [Obj.data_mapFields hd]; simp⟩
theorem next_rs_end {it : Addr} {Q : Option Value → Shared → Prop} (hh : A.handled = none) (hit : IsRs s.heap it x t (-1))
    (hQ : ∀ h', Heap.ExtBut it s.heap h' → Q none { s with heap := h' }) : wpAny (model prog w) A (pyNext (.ref it)) Q E s := by
  obtain ⟨o, ho, hc, hd⟩ := id hit
  unfold pyNext
  refine wpAny_bind (wpAny_attempt (wpAny_callSpecial?_slot (name := Str.ofString "__next__") hit.typeIs RT.slot_rt_next
    (wpAny_call_entry RT.slot_rt_next hit.typeIs RT.entry_rt_next ?_ (RT.args_rt_next _))))
  unfold Builtin.«reversed.__next__»
  refine wpAny_bind (wpAny_of_eq (a := (Value.ref it, [])) rfl ?_)
  try dsimp only
  refine wpAny_bind (wpAny_field ho hd (x := .str x t) rfl ?_)
  try dsimp only
  refine wpAny_bind (wpAny_field ho hd (x := rawInt (-1)) rfl ?_)
  show wpAny _ _ (if (-1 : Int) < 0 then _ else _) _ _ s
  rw [if_pos (by decide)]
  try dsimp only
  refine wpAny_bind (wpAny_rule ?_)
  refine wpAny_bind ?_
  wp_delta
  refine wpAny_bind (wpAny_setField ho hd (by simp) ?_)
  have ho2 := Heap.get?_update_self (Obj.mapFields (·.setIfInBounds 1 (rawInt (-1)))) ho (Obj.isFreed_of_fields (Obj.data_mapFields hd _))
  refine wpAny_setField (s := { s with heap := s.heap.update it (Obj.mapFields (·.setIfInBounds 1 (rawInt (-1)))) }) ho2 (Obj.data_mapFields hd _) (by simp) ?_
  try dsimp only
  first
  | show wpAny _ _ (newExc (.type "StopIteration") [] >>= _) _ _ _
  | (refine wpAny_bind ?_; show wpAny _ _ (newExc (.type "StopIteration") [] >>= _) _ _ _)
  | (refine wpAny_bind ?_; wp_delta; show wpAny _ _ (newExc (.type "StopIteration") [] >>= _) _ _ _)
  refine wpAny_bind ?_
  simp only [newExc, newTuple]
  refine wpAny_bind (wpAny_newObj_type ?_ (by size_fits))
  refine wpAny_bind (m := firstArgMember _ _) (wpAny_of_eq (a := Value.none) (by first | rfl | (simp only [firstArgMember]; rfl)) ?_)
  refine wpAny_newObj_type ?_ (by size_fits)
  simp only [raiseNew]
  refine wpAny_bind (wpAny_handled ?_)
  first | rw [show A.in1.handled = none from hh] | rw [hh]
  refine wpAny_bind (wpAny_pure (wpAny_throw ?_))
  refine wpAny_bind (wpAny_isInstance (T := "StopIteration") (b := true) ⟨_, Heap.get?_push_size _ rfl, rfl⟩ isSubtype_stop ?_)
  refine wpAny_pure (hQ _ ?_)
  refine ((?_ : Heap.ExtBut it s.heap _).push _).push _
  exact fun b ob hb e => (Heap.get?_update_other _ _ (Ne.symm hb)).trans ((Heap.get?_update_other _ _ (Ne.symm hb)).trans e)
theorem iter_rs {it : Addr} {i : Int} {Q : Value → Shared → Prop} (hit : IsRs s.heap it x t i) (h : Q (.ref it) s) : wpAny (model prog w) A (pyIter (.ref it)) Q E s := by
  refine wpAny_pyIter_slot hit.typeIs RT.slot_rt_iter (wpAny_call_entry RT.slot_rt_iter hit.typeIs RT.entry_rt_iter ?_ (RT.args_rt_iter _))
  show wpAny _ _ (ret (.ref it)) _ _ s
  exact wpAny_pure ⟨_, rfl, "reversed", _, hit.typeIs, RT.slot_rt_next.lookup, h⟩
theorem Walks.rs (hh : A.handled = none) (it : Addr) (hz : x.length ≤ sizeLine) :
    Walks prog w A it [it] [it] x.cps.size (fun i v => ∃ c u, x.cps[x.cps.size - 1 - i]? = some c ∧ v = .str ⟨#[c]⟩ u) (fun i h => i ≤ x.cps.size ∧ IsRs h it x t ((x.cps.size : Int) - 1 - (i : Nat))) where
  sub := fun _ h => h
  frame := fun i h h' st k => ⟨st.1, st.2.at fun o e => k it (by simp) o e⟩
  item := fun i s Q E hi st hQ => by
    obtain ⟨_, st⟩ := st
    have e1 : (x.cps.size : Int) - 1 - ((i : Nat) : Int) = ((x.cps.size - 1 - i : Nat) : Int) := by omega
    rw [e1] at st
    have hlt : x.cps.size - 1 - i < x.cps.size := by omega
    refine next_rs_item st (c := x.cps[x.cps.size - 1 - i]) (by simp [hlt]) hz fun h' tk tc st' sb => ?_
    have e2 : ((x.cps.size - 1 - i : Nat) : Int) - 1 = (x.cps.size : Int) - 1 - ((i + 1 : Nat) : Int) := by omega
    rw [e2] at st'
    exact hQ _ h' tk ⟨_, tc, by simp [hlt], rfl⟩ ⟨hi, st'⟩ fun b o hb e => (sb.2 b (fun z => hb (by simp [z]))).trans e
  done := fun s Q E st hQ => by
    obtain ⟨_, st⟩ := st
    have e1 : (x.cps.size : Int) - 1 - ((x.cps.size : Nat) : Int) = -1 := by omega
    rw [e1] at st
    exact next_rs_end hh st fun h' eb => hQ h' s.toks fun b o hb e => eb b o (fun z => hb (by simp [z])) e
  self := fun i s Q E st h => iter_rs st.2 h
theorem slot_hint : Slot "reversed" "__length_hint__" "reversed.__length_hint__" :=
  .of (owner := "reversed") (n := "__length_hint__") (by rw [typeLookup_type, builtinLookup_eq_fast]; kernel_rfl) (by decide +kernel) (by decide +kernel) (by decide +kernel)
    (by first | exact .inl (by decide +kernel) | exact .inr (by decide +kernel)) (by rw [isSubtype_type]; kernel_rfl)
theorem entry_hint : entryFor table "reversed.__length_hint__" = some Builtin.«reversed.__length_hint__» := entryFor_of_tree (by kernel_rfl)
theorem args_hint (a : Value) : argsOk "reversed.__length_hint__" ⟨[a], []⟩ := by
  unfold argsOk; rw [signature?_of (id := "reversed.__length_hint__") (n := "__length_hint__".toList.reverse) (o := ['d', 'e', 's', 'r', 'e', 'v', 'e', 'r']) (by kernel_rfl) RT.owner_rt]; kernel_rfl
theorem hint_rs {it : Addr} {Q : Bool → Shared → Prop} (hz : x.length ≤ sizeLine) (hit : IsRs s.heap it x t ((x.length : Int) - 1)) (hQ : ∀ b tk, Q b { s with toks := tk }) : wpAny (model prog w) A (Builtin.List.listLengthHint (.ref it)) Q E s := by
  obtain ⟨o, ho, hc, hd⟩ := id hit
  have hT : s.TypeIs (.ref it) "reversed" := hit.typeIs
  rw [sizeLine_eq] at hz
  unfold Builtin.List.listLengthHint
  refine wpAny_bind (wpAny_specialOf hT nolen_rt ?_)
  show wpAny _ _ (specialOf (Value.ref it) (Str.ofString "__length_hint__") >>= _) _ _ _
  refine wpAny_bind (wpAny_specialOf hT hint_rt ?_)
  generalize hid : ("reversed.__length_hint__" : String) = id0
  wp_delta
  rw [show splitId id0 = some ("reversed", "__length_hint__") from by subst hid; decide +kernel]
  subst hid
  refine wpAny_bind (wpAny_isInstance (b := true) hT (by rw [isSubtype_type]; kernel_rfl) ?_)
  rw [if_neg (by decide)]
  wp_delta
  rw [if_neg (by decide +kernel)]
  refine wpAny_bind (wpAny_rule ?_)
  refine wpAny_bind (wpAny_of_eq (slot_hint.bind _) ?_)
  try dsimp only
  refine wpAny_bind (wpAny_attempt (wpAny_call_entry slot_hint hT entry_hint ?_ (args_hint _)))
  unfold Builtin.«reversed.__length_hint__»
  refine wpAny_bind (wpAny_of_eq (a := Value.ref it) rfl ?_)
  try dsimp only
  refine wpAny_bind (wpAny_field ho hd (x := .str x t) rfl ?_)
  try dsimp only
  rw [if_neg (show ¬ ((Value.str x t == Value.none) = true) from Bool.false_ne_true)]
  refine wpAny_bind (PySem.P.len_str (by omega) ?_)
  refine wpAny_bind (wpAny_of_eq (a := some ((x.length : Nat) : Int)) rfl ?_)
  try dsimp only
  refine wpAny_bind (wpAny_field (s := { s with toks := s.toks + 1 + 1 }) ho hd (x := rawInt ((x.length : Int) - 1)) rfl ?_)
  show wpAny _ _ (if ((x.length : Nat) : Int) < (x.length : Int) - 1 + 1 then _ else _) _ _ _
  rw [if_neg (by omega)]
  show wpAny _ _ (mkInt ((x.length : Int) - 1 + 1) >>= _) _ _ _
  refine wpAny_bind (wpAny_mkInt (wpAny_pure ⟨_, rfl, ?_⟩))
  try dsimp only
  refine wpAny_bind (wpAny_of_eq (a := some ((x.length : Int) - 1 + 1)) rfl ?_)
  try dsimp only
  have f1 : Builtin.List.listFitsIndex ((x.length : Int) - 1 + 1) = true := by
    unfold Builtin.List.listFitsIndex
    simp only [Bool.and_eq_true, decide_eq_true_eq]
    omega
  have f2 : Builtin.List.listTooLong ((x.length : Int) - 1 + 1).toNat = false := by
    unfold Builtin.List.listTooLong
    rw [sizeLine_eq]
    simp only [gt_iff_lt, decide_eq_false_iff_not]
    omega
  rw [f1]
  simp only [Bool.not_true, Bool.false_eq_true, if_false]
  rw [if_neg (by omega), f2]
  simp only [Bool.false_eq_true, if_false]
  exact wpAny_pure (hQ _ _)
/-- list(r), r = reversed(text) -/
theorem call_list_rs {it : Addr} {Q : Value → Shared → Prop} (hh : A.handled = none) (hz : x.length ≤ sizeLine) (hit : IsRs s.heap it x t ((x.length : Int) - 1))
    (hQ : ∀ h' tk acc' c', (∀ b o, b ≠ it → s.heap.get? b = some o → h'.get? b = some o) →
      h'.get? s.heap.objs.size = some { cls := .type "list", dict := none, data := .seq acc' c', slots := #[] } → ItemsOf (fun i v => ∃ c u, x.cps[x.cps.size - 1 - i]? = some c ∧ v = .str ⟨#[c]⟩ u) acc' x.cps.size → Q (.ref s.heap.objs.size) { s with heap := h', toks := tk }) :
    wpAny (model prog w) A (call (.type "list") [.ref it]) Q E s := by
  have itlt : it < s.heap.objs.size := by obtain ⟨o, e, _⟩ := hit; exact Heap.lt_size e
  have hSI : s.heap.objs.size ≠ it := Nat.ne_of_gt itlt
  have hSf : s.heap.objs.size ∉ [it] := fun hm => hSI (List.mem_singleton.mp hm)
  refine callType_codes (Q₁ := fun obj s₁ => obj = .ref s.heap.objs.size ∧ s₁ = { s with heap := s.heap.push { cls := .type "list", data := .seq #[] } }) F.called_list (F.typeCall_list_1 _) F.entry_list_init
    (code_list_new _ ⟨rfl, rfl⟩) fun obj s₁ h₁ => ?_
  obtain ⟨rfl, rfl⟩ := h₁
  have hS : (s.heap.push { cls := .type "list", data := .seq #[] }).get? s.heap.objs.size = some { cls := .type "list", data := .seq #[] } := Heap.get?_push_size _ rfl
  refine ⟨⟨_, hS, rfl⟩, F.args_list_init_2 _ _, ?_⟩
  show wpAny _ A.in1.in1 (do let old ← Builtin.List.listItems (.ref s.heap.objs.size); Builtin.List.listUpdate (.ref s.heap.objs.size) (fun _ => #[]); letGo old.toList.reverse; Builtin.List.listExtendWith (.ref s.heap.objs.size) (.ref it) .none) _ _ _
  refine wpAny_bind ?_
  unfold Builtin.List.listItems
  refine wpAny_bind (wpAny_seqItems hS rfl (wpAny_pure ?_))
  show wpAny _ A.in1.in1 (updateSeq s.heap.objs.size (fun _ => #[]) >>= fun _ => letGo (#[] : Array Value).toList.reverse >>= fun _ => Builtin.List.listExtendWith (.ref s.heap.objs.size) (.ref it) .none) _ _ _
  refine wpAny_bind (wpAny_updateSeq hS rfl ?_)
  have hS2 := Heap.get?_update_self (Obj.mapSeq (fun _ => (#[] : Array Value))) hS rfl
  refine wpAny_bind (wpAny_letGo ?_)
  have old : ∀ b o, s.heap.get? b = some o → ((s.heap.push { cls := .type "list", data := .seq #[] }).update s.heap.objs.size (Obj.mapSeq (fun _ => (#[] : Array Value)))).get? b = some o := fun b o e =>
    (Heap.get?_update_other _ _ (Ne.symm (Nat.ne_of_lt (Heap.lt_size e)))).trans (Heap.get?_push_of_some _ e)
  have hit2 : IsRs ((s.heap.push { cls := .type "list", data := .seq #[] }).update s.heap.objs.size (Obj.mapSeq (fun _ => (#[] : Array Value)))) it x t ((x.length : Int) - 1) := hit.at fun o e => old _ o e
  have hT : ({ s with heap := (s.heap.push { cls := .type "list", data := .seq #[] }).update s.heap.objs.size (Obj.mapSeq (fun _ => (#[] : Array Value))) } : Shared).TypeIs (.ref it) "reversed" := IsRs.typeIs (s := { s with heap := _ }) hit2
  have h1 : Builtin.List.listSameRef (.ref s.heap.objs.size) (.ref it) = false := by simp [Builtin.List.listSameRef, hSI]
  unfold Builtin.List.listExtendWith
  refine wpAny_bind (wpAny_typeOf hT ?_)
  rw [if_neg (by rw [h1]; decide)]
  refine wpAny_bind (iter_rs (s := { s with heap := _ }) hit2 ?_)
  refine wpAny_bind (wpAny_holding ?_)
  have e0 : ((x.length : Nat) : Int) - 1 = (x.cps.size : Int) - 1 - ((0 : Nat) : Int) := by show (x.cps.size : Int) - 1 = _; omega
  have fin : ∀ (h2 : Heap) (tk c : Nat), (∀ b o, s.heap.get? b = some o → h2.get? b = some o) → h2.get? s.heap.objs.size = some { cls := .type "list", dict := none, data := .seq #[] c, slots := #[] } →
      codeAny (model prog w) A.in1 (.builtin "list.extend.loop" ⟨[.ref s.heap.objs.size, .ref it, .none], []⟩) (wants (fun r s₂ => r = Value.none ∧ Q (Value.ref s.heap.objs.size) s₂) E) { s with heap := h2, toks := tk } := fun h2 tk c k2 hS3 => by
    have hit3 : IsRs h2 it x t ((x.length : Int) - 1) := hit.at fun o e => k2 _ o e
    rw [e0] at hit3
    refine codeAny_extend_loopS (Walks.rs (A := A.in1.in1) hh it hz).toS hz _ hSf _ x.cps.size 0 _ _ _ rfl (Nat.zero_le _) ⟨Nat.zero_le _, hit3⟩ hS3 (ItemsOf.nil _) fun s' acc' c' hm hS' hacc => ?_
    rw [Moved.eq_with hm]
    refine ⟨rfl, hQ s'.heap s'.toks acc' c' (fun b ob hb e => hm.heap b ob (fun hmem => ?_) (k2 b ob e)) hS' hacc⟩
    rcases List.mem_cons.mp hmem with e' | hmem
    · exact absurd (Heap.lt_size e) (by rw [e']; exact Nat.lt_irrefl _)
    · exact hb (List.mem_singleton.mp hmem)
  refine hint_rs (s := { s with heap := _ }) hz hit2 fun b tk => ?_
  cases b with
  | false =>
    rw [if_neg (by decide)]
    exact wpAny_pure ⟨plainId_quiet F.plain_extend_loop _, fin _ tk _ old hS2⟩
  | true =>
    refine wpAny_bind (wpAny_rule ?_)
    refine wpAny_bind ?_
    show wpAny _ _ (updateSeq s.heap.objs.size (·.push .none) >>= fun _ => updateSeq s.heap.objs.size (·.pop)) _ _ _
    refine wpAny_bind (wpAny_updateSeq hS2 rfl ?_)
    have hS3 := Heap.get?_update_self (Obj.mapSeq (·.push Value.none)) hS2 rfl
    refine wpAny_updateSeq (hz := by seq_fits) hS3 rfl ?_
    have hS4 := Heap.get?_update_self (Obj.mapSeq (·.pop)) hS3 rfl
    refine wpAny_pure ⟨plainId_quiet F.plain_extend_loop _, fin _ tk _ (fun b o e => ?_) hS4⟩
    have nb : s.heap.objs.size ≠ b := Ne.symm (Nat.ne_of_lt (Heap.lt_size e))
    exact (Heap.get?_update_other _ _ nb).trans ((Heap.get?_update_other _ _ nb).trans (old b o e))
end
end DLR
set_option Elab.async false
set_option linter.all false
set_option maxRecDepth 100000
set_option maxHeartbeats 2000000
namespace DL
open PySem L2 PySem.Spec PyProof.Rows
theorem vals_of_get : ∀ {xs : List V} {us : List Value}, xs.length = us.length → (∀ (j : Nat) (x : V) (u : Value), xs[j]? = some x → us[j]? = some u → RelV x u) → Vals xs us
  | [], [], _, _ => .nil
  | [], _ :: _, h, _ => by cases h
  | _ :: _, [], h, _ => by cases h
  | x :: xs, u :: us, h, r => .cons (r 0 x u rfl rfl) (vals_of_get (by simpa using h) fun j y w e1 e2 => r (j + 1) y w (by simpa using e1) (by simpa using e2))
def revSigns (x : Str) : List V := x.cps.toList.reverse.map fun c => V.str ⟨#[c]⟩
def tListRev (te : TE) : TE := fun σ H Q => te σ H fun v H1 => ∃ x : Str, v = .str x ∧ x.length ≤ sizeLine ∧ ∀ q, H1 q = none → Q (.ref q) (upd H1 q (.lst (revSigns x)))
section
variable {X : Cx}
theorem pe_listRevS {e : Expr} {te : TE} {p p2 pos pos2 : Pos} (hc : X.calm = true) (hg : Gl X "list") (hm : X.mg "list" = none) (hv : bootBuiltins "list" = some (.type "list")) (hg2 : Gl X "reversed") (hm2 : X.mg "reversed" = none) (he : PE X e te)
    (hs : starEach [e] X.env = (false, eval e X.env) :: starEach [] X.env := by rfl)
    (hs2 : starEach [.Call (.Name "reversed" p2) [e] [] pos2] X.env = (false, eval (.Call (.Name "reversed" p2) [e] [] pos2) X.env) :: starEach [] X.env := by rfl) :
    PE X (.Call (.Name "list" p) [.Call (.Name "reversed" p2) [e] [] pos2] [] pos) (tListRev te) := by
  refine ⟨fun pins s σ H Q I h => ?_⟩
  refine Call_ (ld_blt I hg hm hv (PyProof.Rows.callWith_type1 (args_cons (Call_ (ld_blt I hg2 hm2 PyProof.Rows.boot_reversed (PyProof.Rows.callWith_type1 (args_cons (thn (he.run pins s σ H _ I h) fun u s1 ⟨v, H1, I1, r1, q1⟩ => args_nil ?_) hs) hs rfl))) hs2) hs2 rfl))
  obtain ⟨x, ev, hz, q⟩ := q1
  subst ev
  obtain ⟨t, rfl⟩ := r1
  refine DLR.call_reversed_str hz (args_nil ?_)
  have k0 : ∀ b o, s1.heap.get? b = some o → (s1.heap.push (DLR.rsObj x t ((x.length : Int) - 1))).get? b = some o := fun b o e => Heap.get?_push_of_some _ e
  have I2 : Inv X pins σ H1 { s1 with heap := s1.heap.push (DLR.rsObj x t ((x.length : Int) - 1)), toks := s1.toks + 1 + 1 } := I1.kept (t' := s1.toks + 1 + 1) k0
  refine DLR.call_list_rs (s := { s1 with heap := s1.heap.push (DLR.rsObj x t ((x.length : Int) - 1)), toks := s1.toks + 1 + 1 }) (it := s1.heap.objs.size) (I1.ok.hd hc) hz ⟨_, Heap.get?_push_size _ rfl, rfl, rfl⟩ fun h' tk acc c hk hS hi => ?_
  have hv : Vals (revSigns x) acc.toList := by
    have hl : acc.toList.length = x.cps.size := by rw [Array.length_toList, hi.1]
    refine vals_of_get (by unfold revSigns; rw [List.length_map, List.length_reverse, hl]; simp) fun j y u e1 e2 => ?_
    obtain ⟨cc, tu, h1, rfl⟩ := hi.2 j u (by rw [← Array.getElem?_toList]; exact e2)
    unfold revSigns at e1
    rw [List.getElem?_map] at e1
    have hj : j < x.cps.toList.length := by
      obtain ⟨hj, _⟩ := List.getElem?_eq_some_iff.mp e2
      rw [hl] at hj
      simpa using hj
    rw [List.getElem?_reverse hj] at e1
    have e3 : x.cps.toList[x.cps.toList.length - 1 - j]? = some cc := by
      rw [Array.getElem?_toList]
      simpa using h1
    rw [e3] at e1
    cases e1
    exact ⟨tu, rfl⟩
  have sz1 : (s1.heap.push (DLR.rsObj x t ((x.length : Int) - 1))).objs.size = s1.heap.objs.size + 1 := Heap.size_push ..
  have fp := I1.fpOk (H' := H1) (b := s1.heap.objs.size) (Nat.le_refl _) (I1.hok.fresh (Nat.le_refl _))
  have J := I2.turnedNew (ch := [s1.heap.objs.size]) (ob := .lst (revSigns x)) (h' := h') (t' := tk) (fun b ob hb e => hk b ob (fun z => hb (by simp [z])) e) (fun b hb => by rw [List.mem_singleton.mp hb]; exact fp) (Nat.le_refl _)
    (show ObjOk X.prog X.w _ _ _ (.lst (revSigns x)) from ⟨by unfold revSigns; rw [List.length_map, List.length_reverse]; exact hz, acc.toList, c, hv, by rw [Array.toArray_toList]; exact hS⟩)
  exact ⟨.ref _, _, J, rfl, q _ (I2.hok.fresh (Nat.le_refl _))⟩
end
def revD : D → R (List D)
  | .str s => if s.length ≤ 16777216 then .ok (s.reverse.map fun c => .str [c]) else .stuck
  | _ => .stuck
def revE (f : LE → R D) : LE → R (List D) := fun r => f r >>= revD
section
variable {X : Cx} {G : Gm} {W : WX} {e : Expr} {f : LE → R D} {p p2 pos pos2 : Pos}
theorem df_listRevS (hc : X.calm = true) (hg : Gl X "list") (hm : X.mg "list" = none) (hg2 : Gl X "reversed") (hm2 : X.mg "reversed" = none) (he : DE X G W e f) (hv : bootBuiltins "list" = some (.type "list") := by rfl)
    (hs : starEach [e] X.env = (false, eval e X.env) :: starEach [] X.env := by rfl)
    (hs2 : starEach [.Call (.Name "reversed" p2) [e] [] pos2] X.env = (false, eval (.Call (.Name "reversed" p2) [e] [] pos2) X.env) :: starEach [] X.env := by rfl) :
    DF X G W (.Call (.Name "list" p) [.Call (.Name "reversed" p2) [e] [] pos2] [] pos) (revE f) := by
  refine PE_imp (pe_listRevS hc hg hm hv hg2 hm2 he hs hs2) fun sg H Q ⟨dl, Z, O, r, A, q⟩ => ?_
  refine ⟨dl, Z, O, r, A, q.bind.thn fun d hd v H1 g1 k1 rp => ?_⟩
  unfold revD at hd
  split at hd
  · rename_i s
    split at hd
    · rename_i hz
      unfold Rep at rp
      subst rp
      refine ⟨_, rfl, by rw [sizeLine_eq]; simpa [Str.length] using hz, fun p hp => ?_⟩
      have := hd p (revSigns ⟨s.toArray⟩) H1 g1 k1 hp (by
        unfold revSigns
        exact signs_rep (s := s.reverse))
      exact this
    · exact hd.elim
  · exact hd.elim
end
end DL
set_option Elab.async false
set_option linter.all false
set_option maxRecDepth 100000
set_option maxHeartbeats 1000000
namespace DL
open PySem L2 PySem.Spec PyProof.Rows
def loopC2 (gd : D → LE → Option LE) (tt : LE → R Bool) (fi1 : LE → R (List D)) (gd1 : D → LE → Option LE) (tt1 : LE → R Bool) (te : LE → R D) (vs1 : List Nat) (r : LE) : List D → R (List D)
  | [] => .ok []
  | d :: ds => match gd d r with
    | none => .stuck
    | some r' => do
      if (← (tt r').calm) then do
        let es ← (fi1 r').calm
        if es.length ≤ 64 then do
          let xs ← loopC gd1 tt1 te (wipeL r' vs1) es
          let ys ← loopC2 gd tt fi1 gd1 tt1 te vs1 r ds
          .ok (xs ++ ys)
        else .stuck
      else loopC2 gd tt fi1 gd1 tt1 te vs1 r ds
def compF2 (fi : LE → R (List D)) (gd : D → LE → Option LE) (tt : LE → R Bool) (fi1 : LE → R (List D)) (gd1 : D → LE → Option LE) (tt1 : LE → R Bool) (te : LE → R D) (vs vs1 : List Nat) : LE → R (List D) := fun r => do
  let ds ← fi r
  if ds.length ≤ 262144 then loopC2 gd tt fi1 gd1 tt1 te vs1 (wipeL r vs) ds else .stuck
section
variable {G : Gm} {dl D : Addr} {Z : List Addr} {O : List (Nat × Addr)} {r : LE} {sg : L2.St} {H : Hp} {us xs : List V}
theorem app_cut (hD : H D = some (.lst us)) : GrowS (cut H (D :: Z)) (cut (upd H D (.lst xs)) (D :: Z)) := fun b o e n => by
  obtain ⟨e1, e2⟩ := cut_some e
  have hbD : b ≠ D := fun z => e1 (by rw [z]; exact List.mem_cons_self)
  rw [cut_out e1, upd_ne hbD]; exact e2
theorem GlOk.app (k4 : GlOk G dl H) (D4 : H D = some (.lst us)) (hDd : D ≠ dl) : GlOk G dl (upd H D (.lst xs)) := by
  obtain ⟨x1, y1, z1, hd1⟩ := k4.dice
  refine ⟨⟨x1, y1, z1, by rw [upd_ne fun e => hDd e.symm]; exact hd1⟩, fun p hp => ?_⟩
  obtain ⟨ps, h1, h2, h3⟩ := k4.tab p hp
  have hpD : p.1 ≠ D := fun e => by rw [e, D4] at h1; cases h1
  refine ⟨ps, by rw [upd_ne hpD]; exact h1, h2, fun pos cv hc => ?_⟩
  obtain ⟨c, e1, e2⟩ := h3 pos cv hc
  have hcD : c ≠ D := fun e => by
    rw [e, D4] at e2
    have e3 := Option.some.inj e2
    cases e3
  exact ⟨c, e1, by rw [upd_ne hcD]; exact e2⟩
theorem At.app (C4 : At G dl (D :: Z) O r sg H) (D4 : H D = some (.lst us)) (hDd : D ≠ dl) (hO : ∀ q ∈ O, q.2 ≠ D) : At G dl (D :: Z) O r sg (upd H D (.lst xs)) := by
  have nt : ∀ (xs : List V) ps, HO.lst xs ≠ HO.tbl ps := fun _ _ z => by cases z
  refine ⟨C4.gl.app D4 hDd, C4.dz, fun b hb => ?_, C4.own, C4.inj, C4.len, fun j c e => ?_⟩
  · by_cases e : b = D
    · rw [e]; exact ⟨_, upd_same, nt _⟩
    · obtain ⟨u, h1, h2⟩ := C4.live b hb
      exact ⟨u, by rw [upd_ne e]; exact h1, h2⟩
  · have := C4.slot j c e
    cases c with
    | un => trivial
    | val d =>
      obtain ⟨v, e, q⟩ := this
      exact ⟨v, e, q.mono (app_cut D4)⟩
    | own d =>
      obtain ⟨a, ha, e, q, ko⟩ := this
      refine ⟨a, ha, e, ?_, ko⟩
      rw [upd_ne (hO _ ha)]; exact q.mono (app_cut D4)
end
section
variable {X : Cx} {G : Gm} {W : WX} {tg iter tg1 iter1 : Expr} {fi fi1 : LE → R (List D)} {gd gd1 : D → LE → Option LE} {is is1 vs vs1 : List Nat} {tt tt1 : LE → R Bool} {te : LE → R D}
theorem lc2_core_d (hsub : ∀ j ∈ is, j ∈ vs) (hsub1 : ∀ j ∈ is1, j ∈ vs1) {sg : L2.St} {H : Hp} {Q : VK} (h : tF G W (compF2 fi gd tt fi1 gd1 tt1 te vs vs1) sg H Q) : tLc2 (tIe G W fi) (tGd G gd is) (tT G W0 tt) (tIs G W0 fi1) (tGd G gd1 is1) (tT G W0 tt1) (tD G W0 te) vs vs1 sg H Q := by
  obtain ⟨dl, Z, O, r, A, q⟩ := h
  refine ⟨dl, Z, O, r, A, q.bind.thn fun ds hds J B H1 g1 k1 wk hB D hD => ?_⟩
  have A1 := A.grow g1 k1
  split at hds
  case isFalse => exact hds.elim
  rename_i hlen
  have nt : ∀ (xs : List V) ps, HO.lst xs ≠ HO.tbl ps := fun _ _ z => by cases z
  have B1 : At G dl (D :: Z) O r sg (upd H1 D (.lst [])) := A1.aside hD (nt _)
  have hDZ := A1.out hD
  have hDd := A1.notdl hD
  have hO : ∀ q ∈ O, q.2 ≠ D := fun q hq z => hDZ (by rw [← z]; exact (A.own _ hq).1)
  have hB1 : B (D :: Z) (upd H1 D (.lst [])) := wk.mono _ _ _ _ (cut_new hD) (.new hD) hB
  let St : Nat → Hp → Prop := fun i H' => i ≤ ds.length ∧ ∃ acc us, At G dl (D :: Z) O r sg H' ∧ Grow dl H1 H' ∧ B (D :: Z) H' ∧ H' D = some (.lst us) ∧ RepL G dl (cut H' (D :: Z)) acc us ∧ acc.length ≤ i * 64 ∧
    Wp (loopC2 gd tt fi1 gd1 tt1 te vs1 (wipeL r vs) (ds.drop i)) (fun ys => ∀ p us H2, Grow dl H H2 → GlOk G dl H2 → H2 p = none → RepL G dl (cut H2 Z) (acc ++ ys) us → Q (.ref p) (upd H2 p (.lst us))) (fun e => ∀ cls dx H', Grow dl H H' → GlOk G dl H' → XRep G dl (cut H' Z) e cls dx H' → W cls dx sg H')
  refine ⟨fun i m H' => m = ds.length - i ∧ St i H', ⟨ds.length, by simp, Nat.zero_le _, [], [], B1, .new hD, hB1, upd_same, RepL.nil, Nat.zero_le _, by simpa using hds⟩, ?_⟩
  rintro i m H' ⟨rfl, hi', acc, us, A', gH, hB', hDu, rl, hal, hw⟩
  by_cases hlt : i < ds.length
  · have hdrop : ds.drop i = ds[i] :: ds.drop (i + 1) := List.drop_eq_getElem_cons hlt
    rw [hdrop] at hw
    refine .inr ⟨wk.go i _ H' hB' hlt, St (i + 1), fun H2 h2 => ⟨ds.length - (i + 1), by omega, rfl, h2⟩, fun x H2 hy => ?_⟩
    obtain ⟨g2, k2, rp⟩ := wk.yld i _ O r sg H' x H2 A' hB' hy ds[i] (by simp)
    have A2 := A'.grow g2 k2
    unfold loopC2 at hw
    cases hgd : gd ds[i] (wipeL r vs) with
    | none => rw [hgd] at hw; exact hw.elim
    | some r2 =>
      rw [hgd] at hw
      refine ⟨dl, D :: Z, O, wipeL r vs, ds[i], A2.wipe vs, rp, r2, hgd, fun sg3 hl3 hs3 A3 => ⟨?_, ?_⟩⟩
      · exact (wipe_same hl3 fun j hj => hs3 j fun z => hj (hsub j z)).trans (wipe_wipe vs)
      refine ⟨dl, D :: Z, O, r2, A3, (calm_wp hw.bind).mono (fun b hb H3 g3 k3 => ?_) fun e he => he⟩
      have A3' := A3.grow g3 k3
      have D3 : H2 D = some (.lst us) := g2 D _ hDu hDd (nt _)
      have D3' : H3 D = some (.lst us) := g3 D _ D3 hDd (nt _)
      have C3 : At G dl (D :: Z) O r sg H3 := A2.grow g3 k3
      have B3 : B (D :: Z) H3 := wk.mono _ _ _ _ (g3.cut A2.dz) g3 (wk.mono _ _ _ _ (g2.cut A'.dz) g2 hB')
      cases b with
      | false =>
        refine ⟨hlt, acc, us, C3, (gH.trans g2).trans g3, B3, D3', rl.mono ((g2.trans g3).cut A'.dz), by omega, hb⟩
      | true =>
        refine ⟨dl, D :: Z, O, r2, A3', (calm_wp hb.bind).mono (fun es hes J1 B1' H4 g4 k4 wk1 hB4 => ?_) fun e he => he⟩
        split at hes
        case isFalse => exact hes.elim
        rename_i hlen1
        have C4 := C3.grow g4 k4
        have A4 := A3'.grow g4 k4
        have D4 : H4 D = some (.lst us) := g4 D _ D3' hDd (nt _)
        have B4 : B (D :: Z) H4 := wk.mono _ _ _ _ (g4.cut A3.dz) g4 B3
        let St1 : Nat → Hp → Prop := fun j H' => j ≤ es.length ∧ ∃ acc us, At G dl (D :: Z) O r sg H' ∧ At G dl (D :: Z) O r2 sg3 H' ∧ Grow dl H1 H' ∧ B (D :: Z) H' ∧ B1' (D :: Z) H' ∧ H' D = some (.lst us) ∧ RepL G dl (cut H' (D :: Z)) acc us ∧ acc.length ≤ i * 64 + j ∧
          Wp (loopC gd1 tt1 te (wipeL r2 vs1) (es.drop j)) (fun xs => Wp (loopC2 gd tt fi1 gd1 tt1 te vs1 (wipeL r vs) (ds.drop (i + 1))) (fun ys => ∀ p us H2, Grow dl H H2 → GlOk G dl H2 → H2 p = none → RepL G dl (cut H2 Z) (acc ++ (xs ++ ys)) us → Q (.ref p) (upd H2 p (.lst us))) (fun e => ∀ cls dx H', Grow dl H H' → GlOk G dl H' → XRep G dl (cut H' Z) e cls dx H' → W cls dx sg H')) (fun e => ∀ cls dx H', Grow dl H H' → GlOk G dl H' → XRep G dl (cut H' Z) e cls dx H' → W cls dx sg H')
        refine ⟨fun j m H' => m = es.length - j ∧ St1 j H', ⟨es.length, by simp, Nat.zero_le _, acc, us, C4, A4, ((gH.trans g2).trans g3).trans g4, B4, hB4, D4, rl.mono (((g2.trans g3).trans g4).cut A'.dz), by omega, ?_⟩, ?_⟩
        · rw [List.drop_zero]
          exact hes.bind.mono (fun xs hx => hx.bind.mono (fun ys hy => hy) fun e he => he) fun e he => he
        rintro j m H5 ⟨rfl, hj', acc1, us1, C5, A5, gH5, hB5, hB15, hDu5, rl5, hal5, hw5⟩
        by_cases hlt1 : j < es.length
        · have hdrop1 : es.drop j = es[j] :: es.drop (j + 1) := List.drop_eq_getElem_cons hlt1
          rw [hdrop1] at hw5
          refine .inr ⟨wk1.go j _ H5 hB15 hlt1, St1 (j + 1), fun H2 h2 => ⟨es.length - (j + 1), by omega, rfl, h2⟩, fun x1 H6 hy1 => ?_⟩
          obtain ⟨g6, k6, rp6⟩ := wk1.yld j _ O r2 sg3 H5 x1 H6 A5 hB15 hy1 es[j] (by simp)
          have A6 := A5.grow g6 k6
          unfold loopC at hw5
          cases hgd1 : gd1 es[j] (wipeL r2 vs1) with
          | none => rw [hgd1] at hw5; exact hw5.elim
          | some r6 =>
            rw [hgd1] at hw5
            refine ⟨dl, D :: Z, O, wipeL r2 vs1, es[j], A6.wipe vs1, rp6, r6, hgd1, fun sg6 hl6 hs6 A6' => ⟨?_, ?_⟩⟩
            · exact (wipe_same hl6 fun j hj => hs6 j fun z => hj (hsub1 j z)).trans (wipe_wipe vs1)
            refine ⟨dl, D :: Z, O, r6, A6', (calm_wp hw5.bind).mono (fun b hb H7 g7 k7 => ?_) fun e he => he⟩
            have A7 := A6'.grow g7 k7
            have D7 : H7 D = some (.lst us1) := g7 D _ (g6 D _ hDu5 hDd (nt _)) hDd (nt _)
            have C7 : At G dl (D :: Z) O r sg H7 := (C5.grow g6 k6).grow g7 k7
            have A7' : At G dl (D :: Z) O r2 sg3 H7 := A6.grow g7 k7
            have B7 : B (D :: Z) H7 := wk.mono _ _ _ _ (g7.cut A6.dz) g7 (wk.mono _ _ _ _ (g6.cut A5.dz) g6 hB5)
            have B17 : B1' (D :: Z) H7 := wk1.mono _ _ _ _ (g7.cut A6.dz) g7 (wk1.mono _ _ _ _ (g6.cut A5.dz) g6 hB15)
            cases b with
            | false => exact ⟨hlt1, acc1, us1, C7, A7', (gH5.trans g6).trans g7, B7, B17, D7, rl5.mono ((g6.trans g7).cut A5.dz), by omega, hb⟩
            | true =>
              refine ⟨dl, D :: Z, O, r6, A7, (calm_wp hb.bind).mono (fun y hy2 v H8 g8 k8 rp8 => ?_) fun e he => he⟩
              have D8 : H8 D = some (.lst us1) := g8 D _ D7 hDd (nt _)
              have C8 : At G dl (D :: Z) O r sg H8 := C7.grow g8 k8
              have A8 : At G dl (D :: Z) O r2 sg3 H8 := A7'.grow g8 k8
              have hz : us1.length < sizeLine := by rw [sizeLine_eq, rl5.length]; omega
              have gall : Grow dl H1 H8 := ((gH5.trans g6).trans g7).trans g8
              have gD : Grow dl H1 (upd H8 D (.lst (us1 ++ [v]))) := fun b o e n nt' => by
                rw [upd_ne (ne_of_none e hD)]; exact gall b o e n nt'
              refine ⟨us1, D8, hz, hlt1, acc1 ++ [y], us1 ++ [v], C8.app D8 hDd hO, A8.app D8 hDd hO, gD, wk.mono _ _ _ _ (fun b o e n => ?_) gD hB, wk1.monoS _ _ _ _ (app_cut D8) (wk1.monoS _ _ _ _ (g8.cut A6.dz) B17), upd_same, ?_, by rw [List.length_append]; simp; omega, ?_⟩
              · obtain ⟨e1, e2⟩ := cut_some e
                have hbD : b ≠ D := ne_of_none e2 hD
                have hbl : b ≠ dl := fun z => e1 (by rw [z]; exact A.dz)
                rw [cut_out (by rw [List.mem_cons, not_or]; exact ⟨hbD, e1⟩)]
                exact gD b o e2 hbl n
              · exact RepL.append (rl5.mono ((((g6.trans g7).trans g8).cut A5.dz).trans (app_cut D8))) (RepL.cons (rp8.mono (app_cut D8)) RepL.nil)
              · exact hy2.bind.mono (fun xs hxs => (show Wp (loopC2 gd tt fi1 gd1 tt1 te vs1 (wipeL r vs) (ds.drop (i + 1))) _ _ from hxs).mono (fun ys hys => by rw [List.append_assoc]; exact hys) fun e he => he) fun e he => he
        · have e : j = es.length := by omega
          subst e
          rw [List.drop_length] at hw5
          refine .inl ⟨wk1.stop _ _ H5 hB15 (Nat.le_refl _), hlt, acc1, us1, C5, gH5, hB5, hDu5, rl5, by omega, ?_⟩
          exact hw5
  · have e : i = ds.length := by omega
    subst e
    rw [List.drop_length] at hw
    refine .inl ⟨wk.stop _ _ H' hB' (Nat.le_refl _), ?_⟩
    have hw2 : ∀ p us H2, Grow dl H H2 → GlOk G dl H2 → H2 p = none → RepL G dl (cut H2 Z) (acc ++ []) us → Q (.ref p) (upd H2 p (.lst us)) := hw
    rw [List.append_nil] at hw2
    have := hw2 D us (cut H' [D]) (fun b o e n nt' => ?_) ?_ (cut_in (by simp)) ?_
    · rw [upd_cut hDu] at this; exact this
    · have e1 := g1 b o e n nt'
      rw [cut_out (by simpa using ne_of_none e1 hD)]
      exact gH b o e1 n nt'
    · obtain ⟨x1, y1, z1, hd1⟩ := A'.gl.dice
      refine ⟨⟨x1, y1, z1, by rw [cut_out (by simpa using fun e : dl = D => hDd e.symm)]; exact hd1⟩, fun p hp => ?_⟩
      obtain ⟨ps, h1, h2, h3⟩ := A'.gl.tab p hp
      have hpD : p.1 ≠ D := fun e => by rw [e, hDu] at h1; cases h1
      refine ⟨ps, by rw [cut_out (by simpa using hpD)]; exact h1, h2, fun pos cv hc => ?_⟩
      obtain ⟨c, e1, e2⟩ := h3 pos cv hc
      have hcD : c ≠ D := fun e => by
        rw [e, hDu] at e2
        have e3 := Option.some.inj e2
        cases e3
      exact ⟨c, e1, by rw [cut_out (by simpa using hcD)]; exact e2⟩
    · refine rl.mono fun b o e n => ?_
      obtain ⟨e1, e2⟩ := cut_some e
      rw [List.mem_cons, not_or] at e1
      rw [cut_out e1.2, cut_out (by simpa using e1.1)]
      exact e2
theorem ds_setcomp2 (i : Nat) {y : Str} {py : Pos} {elt : Expr} {ifs ifs1 : List Expr} {scope : Scope} {own : List (Str × Nat)} {pos spos : Pos} (hc : X.calm = true) (hN : X.N.Nodup) (hi : DIe X G W tg iter fi) (ok : BlkOk X.N X.env.scope scope own) (hv : ∀ i ∈ vs1, i ∈ own.map (·.2))
    (hg : ∀ (s : Shared) (H : Hp) (C : Addr) (cl : List (Str × Addr)) (fp : List Addr), DG (X.blk s H scope (compEnvC scope cl C X.env) fp) G tg gd is)
    (ht : ∀ (s : Shared) (H : Hp) (C : Addr) (cl : List (Str × Addr)) (fp : List Addr), DTs (X.blk s H scope (compEnvC scope cl C X.env) fp) G W0 ifs tt)
    (hi1 : ∀ (s : Shared) (H : Hp) (C : Addr) (cl : List (Str × Addr)) (fp : List Addr), DI (X.blk s H scope (compEnvC scope cl C X.env) fp) G W0 tg1 iter1 fi1)
    (hg1 : ∀ (s : Shared) (H : Hp) (C : Addr) (cl : List (Str × Addr)) (fp : List Addr), DG (X.blk s H scope (compEnvC scope cl C X.env) fp) G tg1 gd1 is1)
    (ht1 : ∀ (s : Shared) (H : Hp) (C : Addr) (cl : List (Str × Addr)) (fp : List Addr), DTs (X.blk s H scope (compEnvC scope cl C X.env) fp) G W0 ifs1 tt1)
    (he : ∀ (s : Shared) (H : Hp) (C : Addr) (cl : List (Str × Addr)) (fp : List Addr), DE (X.blk s H scope (compEnvC scope cl C X.env) fp) G W0 elt te)
    (hsub : ∀ j ∈ is, j ∈ own.map (·.2)) (hsub1 : ∀ j ∈ is1, j ∈ vs1) (hti : i ≠ 1000000) (hsw : swapsWith (.ListComp elt [⟨tg, iter, ifs, 0⟩, ⟨tg1, iter1, ifs1, 0⟩] scope pos) (some (.Name y py)) spos.line X.env = pure true)
    (hy : X.N[i]? = some y := by rfl) (hyl : X.env.scope.names.lookup y = some .local := by rfl) (hs : ∀ x, foldedSetIterable iter X.env x = pure x := by intro _; rfl) (hs1 : ∀ env x, foldedSetIterable iter1 env x = pure x := by intro _ _; rfl) :
    DS X G W (.Assign [.Name y py] (.ListComp elt [⟨tg, iter, ifs, 0⟩, ⟨tg1, iter1, ifs1, 0⟩] scope pos) spos) (setK i (ownK (compF2 fi gd tt fi1 gd1 tt1 te (own.map (·.2)) vs1))) := PS_imp (ps_setLc2 hc hN hy hyl hsw hi ok hv hg ht hi1 hg1 ht1 he hs hs1) fun De sg H ⟨dl, Z, O, r, A, q⟩ => by
  refine lc2_core_d (W := W) hsub hsub1 ⟨dl, Z, O, r, A, (onS_wp q).bind.bind.mono (fun ds hd p us H1 g1 k1 hp rl => ?_) fun e he => spost_ex A he⟩
  exact hd _ _ _ _ (Stp.trans A (Stp.of_grow g1 k1) (Stp.new (A.grow g1 k1) hp hti)) ((A.grow g1 k1).set_own i hp ⟨us, rfl, rl⟩ ⟨rfl, hti⟩)
end
end DL
set_option Elab.async false
set_option linter.all false
set_option maxRecDepth 100000
set_option maxHeartbeats 1000000
namespace DL
open PySem L2 PySem.Spec PyProof.Rows
def sidxD : D → List D → R D
  | .str s, [.str [c]] => (match s.findIdx? (· == c) with
    | some i => .ok (.int i)
    | none => .stuck)
  | _, _ => .stuck
theorem occ_sign {s : List Nat} {c i : Nat} (h : s.findIdx? (· == c) = some i) : ∃ rest, Builtin.Str.occurrences ⟨s.toArray⟩ ⟨#[c]⟩ 0 (⟨s.toArray⟩ : Str).length 1 = i :: rest := by
  obtain ⟨hi, h1, h2⟩ := List.findIdx?_eq_some_iff_getElem.mp h
  have hat : ∀ k, StrLaws.At ⟨s.toArray⟩ ⟨#[c]⟩ (⟨s.toArray⟩ : Str).length k ↔ s[k]? = some c := fun k => StrLaws.subAt_one ⟨s.toArray⟩ c k
  have hc : s[i]? = some c := by rw [List.getElem?_eq_getElem hi]; simpa using h1
  rcases StrLaws.occ_head ⟨s.toArray⟩ ⟨#[c]⟩ 1 (Nat.le_refl _) with ⟨_, hn⟩ | ⟨j, r, e, hj, hk⟩
  · exact (hn i ((hat i).mpr hc)).elim
  · have hj' := (hat j).mp hj
    have : j = i := by
      rcases Nat.lt_trichotomy j i with q | q | q
      · have := h2 j q
        rw [List.getElem?_eq_getElem (by omega)] at hj'
        simp at this hj'
        exact (this hj').elim
      · exact q
      · exact (hk i q ((hat i).mpr hc)).elim
    subst this
    exact ⟨r, e⟩
def pairsD : List D → Option (List (D × D))
  | [] => some []
  | .tup [k, v] :: ds => if k.key1 = true then (pairsD ds).map ((k, v) :: ·) else none
  | _ :: _ => none
def dictL : List D → R (List (D × D))
  | [.lst ds] => (match pairsD ds with
    | some ps => .ok (mergeD [] ps)
    | none => .stuck)
  | _ => .stuck
def dictD (ds : List D) : R D := dictL ds >>= fun kvs => .ok (.dic kvs)
def intX : List D → R D
  | [.int i] => .ok (.int i)
  | [.bl b] => .ok (.int (if b then 1 else 0))
  | [.str [c]] => if 48 ≤ c ∧ c ≤ 57 then .ok (.int ((c - 48 : Nat) : Int)) else .stuck
  | _ => .stuck
theorem intText_one {c : Nat} (h1 : 48 ≤ c) (h2 : c ≤ 57) : PySem.intText? ⟨#[c]⟩ = some ((c - 48 : Nat) : Int) := by
  have : c = 48 ∨ c = 49 ∨ c = 50 ∨ c = 51 ∨ c = 52 ∨ c = 53 ∨ c = 54 ∨ c = 55 ∨ c = 56 ∨ c = 57 := by omega
  rcases this with rfl | rfl | rfl | rfl | rfl | rfl | rfl | rfl | rfl | rfl <;> decide +kernel
section
variable {X : Cx} {G : Gm} {W : WX} {dl : Addr} {H : Hp} {Z : List Addr}
theorem bm_sindex : BmD X G "str" "index" sidxD := by
  refine ⟨⟨_, _, PySem.F.slot_str_index, PySem.F.type_str_index, mt_sindex, ?_⟩, PySem.F.plainAttrs_str⟩
  intro dl Z O r sg x vx ds vs H Q E A hx hds h
  unfold sidxD at h
  split at h
  · rename_i s c
    split at h
    · rename_i i hi
      obtain ⟨v, rfl, hv⟩ := hds.one
      obtain ⟨rest, ho⟩ := occ_sign hi
      exact ⟨_, _, i, rest, hx.str, by rw [hv.str], ho, h _ H (.refl _ _) A.gl Rep.int_⟩
    · exact h.elim
  · exact h.elim
theorem pairsD_rep : ∀ {ds : List D} {ps : List (D × D)} {vs : List V}, pairsD ds = some ps → RepL G dl (cut H Z) ds vs → ∃ (as : List Addr) (kv : List (Key × V)), vs = as.map V.ref ∧ Paired (fun p kv => SqT G.K H p [kV kv.1, kv.2]) as kv ∧ RepK G dl (cut H Z) ps kv
  | [], ps, vs, h, rl => by
    cases h
    unfold RepL at rl
    exact ⟨[], [], rl, .nil, by unfold RepK; rfl⟩
  | d :: ds, ps, vs, h, rl => by
    unfold RepL at rl
    obtain ⟨v, r, rfl, h1, h2⟩ := rl
    match d, h, h1 with
    | .tup [k, w], h, h1 =>
      unfold pairsD at h
      split at h
      case isFalse => cases h
      rename_i hk
      cases hp : pairsD ds with
      | none => rw [hp] at h; cases h
      | some ps' =>
        rw [hp] at h
        cases h
        obtain ⟨as, kv, e3, h3, h4⟩ := pairsD_rep hp h2
        unfold Rep at h1
        obtain ⟨a, vs2, e5, hs, rl2⟩ := h1
        subst e5
        obtain ⟨x, hx⟩ := key1_key hk
        unfold RepL at rl2
        obtain ⟨v1, r1, e6, r1', rl3⟩ := rl2
        unfold RepL at rl3
        obtain ⟨v2, r2, e7, r2', rl4⟩ := rl3
        unfold RepL at rl4
        subst rl4
        subst e7
        subst e6
        have := key_kV hx (RepP.of r1')
        subst this
        refine ⟨a :: as, (x, v2) :: kv, by rw [e3]; rfl, .cons ((cut_grow H Z).sqt hs) h3, ?_⟩
        unfold RepK
        exact ⟨x, v2, kv, rfl, hx, r2', h4⟩
theorem cd_dict (hG : G.K = X.K) (hc : X.calm = true) : CallD X G (.type "dict") dictD := by
  refine ⟨_, call_dictP hc, fun dl Z O r sg ds vs H Q E A rl h => ?_⟩
  unfold dictD dictL at h
  split at h
  · rename_i ds
    split at h
    · rename_i ps hps
      obtain ⟨v, rfl, rp⟩ := rl.one
      obtain ⟨a, us, rfl, e, rl'⟩ := rp.lst
      obtain ⟨as, kv, rfl, h3, h4⟩ := pairsD_rep hps rl'
      refine ⟨a, as, kv, rfl, SqL.of e, hG ▸ h3, fun p hp => ?_⟩
      refine h _ _ (.new hp) (A.gl.new hp) ?_
      have hz := A.out hp
      unfold Rep
      refine ⟨p, _, rfl, .inl (by rw [cut_out hz]; exact upd_same), ?_⟩
      exact RepK.mono ((Grow.new (dl := dl) hp).cut A.dz) _ (RepK_merge _ h4 (by unfold RepK; rfl))
    · exact h.elim
  · exact h.elim
theorem cd_intX : CallD X G (.type "int") intX := by
  refine ⟨_, CallR.or_ call_int1 call_int_str, fun dl Z O r sg ds vs H Q E A rl h => ?_⟩
  unfold intX at h
  split at h
  · obtain ⟨v, rfl, rp⟩ := rl.one
    exact .inl (.inl ⟨_, by rw [rp.int], h _ H (.refl _ _) A.gl Rep.int_⟩)
  · obtain ⟨v, rfl, rp⟩ := rl.one
    exact .inl (.inr ⟨_, by rw [rp.bl], h _ H (.refl _ _) A.gl Rep.int_⟩)
  · split at h
    case isFalse => exact h.elim
    rename_i c hc
    obtain ⟨v, rfl, rp⟩ := rl.one
    exact .inr ⟨_, _, by rw [rp.str], intText_one hc.1 hc.2, by simp [Str.length], h _ H (.refl _ _) A.gl Rep.int_⟩
  · exact h.elim
end
end DL
set_option Elab.async false
set_option linter.all false
set_option maxRecDepth 100000
namespace DL
open PySem L2 PySem.Spec PyProof.Rows
def itS (f : LE → R D) : LE → R (List D) := fun r => f r >>= strD
def enumTE (k : Int) (fs : LE → R (List D)) : LE → R (List D) := fun r => fs r >>= enumTD k
/-- the law's round keeps the law, whatever is rolled -/
structure LawOk (F : LE → R Out) (m : Nat) : Prop where
  out : Wp (F (r0 m)) (fun o => ∃ r, o = .nx r ∨ o = .ct r) (fun _ => False)
section
variable {P : Program} {w : World} {K : PySem.W.Frag} {mg : Str → Option Value} {base : Heap} {G : Gm} {x qual : Str} {st : Stmt} {f : Addr} {fd : FuncData} {N ps : List Str} {k n m c nf : Nat} {F : LE → R Out}
theorem law_W {cdv : Value} {m : Nat} {oc : Value} {od : Option Addr} {kV doc pm : Value} {an : Option Addr} {ct : Value} {osl : Array (Option Value)} (lk : K.lookup f = some ⟨oc, od, .func (PySem.W.fnOf "law" "law" (defArgs st) (defBody st) (defScope st) .none kV doc pm an cdv ct), osl⟩)
    (cd : PySem.W.codeIn K cdv "law" = true) (S : FnScope N ["script"] (defScope st)) (hm : N.length = m) (h2 : 2 ≤ m) (hG : G.K = K) (hF : LawOk F m)
    (hb : ∀ A outer s H E, Room k (A.deeper (envOfC "law" (defScope st) s.heap.objs.size f cdv)) → ∃ E', PSs (cxD P w K mg base N "law" st f cdv A outer s H E) (defBody st) (tSeq (tFor (iList G.K (tCallS (spRounds G.K) E' (tCons (tVar 0) (tCons (tC (.int 1)) tNil)))) (gName 1) (tS G (WD E) F)) (tRet (tC (.bl true))))) :
    FnOk P w K mg base (L2.CX P w) (k + 1) f (PySem.W.fnOf "law" "law" (defArgs st) (defBody st) (defScope st) .none kV doc pm an cdv ct) ["script"] (spLaw K G.tabs) := by
  exact law_V lk cd S hm h2 hG hF.out hb
end
end DL
set_option Elab.async false
set_option linter.all false
set_option maxRecDepth 100000
namespace DL
open PySem L2 PySem.Spec PyProof.Rows
/-- every roll tried -/
def ckR {α : Type} : R α → (α → Bool) → Bool
  | .ok a, p => p a
  | .err _, _ => false
  | .stuck, _ => false
  | .roll m f, p => (List.range m).all fun i => ckR (f i) p
theorem ckR_wp {α : Type} : ∀ (m : R α) (p : α → Bool), ckR m p = true → Wp m (fun a => p a = true) (fun _ => False)
  | .ok a, p, h => h
  | .err _, p, h => by cases h
  | .stuck, p, h => by cases h
  | .roll m f, p, h => fun i hi => by
    have h : ((List.range m).all fun i => ckR (f i) p) = true := h
    rw [List.all_eq_true] at h
    exact ckR_wp (f i) p (h i (List.mem_range.mpr hi))
/-- (hidden from the unifier) -/
structure Ck {α : Type} (m : R α) (p : α → Bool) : Prop where
  h : ckR m p = true
theorem Ck.wp {α : Type} {m : R α} {p : α → Bool} (h : Ck m p) : Wp m (fun a => p a = true) (fun _ => False) := ckR_wp m p h.h
/-- statements in a row -/
def seqAll : List (LE → R Out) → (LE → R Out) → LE → R Out
  | [], K => K
  | S :: Ss, K => seqS S (seqAll Ss K)
/-- .. run to their end: the state behind them -/
def runAll : List (LE → R Out) → LE → R LE
  | [], r => .ok r
  | S :: Ss, r => S r >>= fun o => match o with
    | .nx r' => runAll Ss r'
    | _ => .stuck
structure GoP (P : Out → Prop) (F : LE → R Out) (r : LE) : Prop where
  h : Wp (F r) P (fun _ => False)
theorem runAll_wp {P : Out → Prop} {K : LE → R Out} {Q : LE → Prop} : ∀ (Ss : List (LE → R Out)) (r : LE), Wp (runAll Ss r) Q (fun _ => False) → (∀ r', Q r' → GoP P K r') → Wp (seqAll Ss K r) P (fun _ => False)
  | [], r, h, k => (k r h).h
  | S :: Ss, r, h, k => by
    show Wp (S r >>= fun o => match o with
      | .nx r' => seqAll Ss K r'
      | o => .ok o) _ _
    refine Wp.of_bind ((show Wp (S r >>= _) _ _ from h).bind.mono (fun o ho => ?_) fun _ z => z)
    cases o with
    | nx r' => exact runAll_wp Ss r' ho k
    | rt _ => exact ho.elim
    | ex _ _ => exact ho.elim
    | bk _ => exact ho.elim
    | ct _ => exact ho.elim
/-- a group of statements, every roll tried: g tells the states behind it -/
theorem GoP.grp {P : Out → Prop} {F K : LE → R Out} {r : LE} (Ss : List (LE → R Out)) (e : F = seqAll Ss K) (g : LE → Bool) (h : Ck (runAll Ss r) g) (k : ∀ r', g r' = true → GoP P K r') : GoP P F r := by
  subst e
  exact ⟨runAll_wp Ss r h.wp k⟩
structure Wr {α : Type} (m : R α) (Q : α → Prop) : Prop where
  h : Wp m Q (fun _ => False)
theorem Ck.wr {α : Type} {m : R α} {p : α → Bool} {Q : α → Prop} (h : Ck m p) (k : ∀ a, p a = true → Q a) : Wr m Q := ⟨h.wp.mono k fun _ z => z⟩
theorem GoP.one {P : Out → Prop} {S F K : LE → R Out} {r : LE} {Q : LE → Prop} (e : F = seqS S K) (h : Wr (runAll [S] r) Q) (k : ∀ r', Q r' → GoP P K r') : GoP P F r := by
  subst e
  exact ⟨runAll_wp [S] r h.h k⟩
theorem Wr.run1 {i : Nat} {f : LE → R D} {r : LE} {Q : LE → Prop} (h : Wr (f r) (fun d => Q (r.set i (.val d)))) : Wr (runAll [setK i (valK f)] r) Q := by
  refine ⟨Wp.of_bind ((Wp_setK (h.h.mono (fun d hd => ?_) fun _ z => z.elim) : Wp (setK i (valK f) r) (fun o => ∃ r', o = .nx r' ∧ Q r') _).mono (fun o ho => ?_) fun _ z => z)⟩
  · exact ⟨_, rfl, hd⟩
  · obtain ⟨r', rfl, hq⟩ := ho
    exact hq
theorem LawOk.of {F : LE → R Out} {m : Nat} (g : GoP (fun o => ∃ r, o = .nx r ∨ o = .ct r) F (r0 m)) : LawOk F m := ⟨g.h⟩
/-- all texts of n of the signs S -/
def allT (S : List Nat) : Nat → (List Nat → Bool) → Bool
  | 0, p => p []
  | n + 1, p => S.all fun c => allT S n fun s => p (c :: s)
theorem allT_at {S : List Nat} : ∀ {n : Nat} {p : List Nat → Bool}, allT S n p = true → ∀ s : List Nat, s.length = n → (∀ c ∈ s, c ∈ S) → p s = true
  | 0, p, h, [], _, _ => h
  | n + 1, p, h, c :: s, hl, hs => by
    have h : (S.all fun c => allT S n fun s => p (c :: s)) = true := h
    rw [List.all_eq_true] at h
    exact allT_at (h c (hs c List.mem_cons_self)) s (by simpa using hl) fun d hd => hs d (List.mem_cons_of_mem _ hd)
end DL
set_option Elab.async false
set_option linter.all false
set_option maxRecDepth 100000
namespace DL
open PySem L2 PySem.Spec PyProof.Rows
theorem joinL_signs : ∀ s : List Nat, TL.joinL [] (s.map fun c => [c]) = s
  | [] => rfl
  | [c] => rfl
  | c :: d :: s => by
    have := joinL_signs (d :: s)
    rw [List.map_cons, List.map_cons] at *
    unfold TL.joinL
    rw [this]
    rfl
theorem strsD_signs : ∀ s : List Nat, strsD (s.map fun c => D.str [c]) = some (s.map fun c => [c])
  | [] => rfl
  | c :: s => by
    rw [List.map_cons]
    unfold strsD
    rw [strsD_signs s]
    rfl
theorem joinD_signs (s : List Nat) (h : s.length ≤ 1000) : joinD (.str []) [.lst (s.map fun c => D.str [c])] = .ok (.str s) := by
  show (match strsD (s.map fun c => D.str [c]) with
    | some ss => if joinOk [] ss then R.ok (D.str (TL.joinL [] ss)) else .stuck
    | none => .stuck) = _
  rw [strsD_signs]
  have e : ∀ l : List Nat, (l.map fun c => ([c] : List Nat).length).sum = l.length := fun l => by
    induction l with
    | nil => rfl
    | cons a l ih => rw [List.map_cons, List.sum_cons, ih, List.length_cons, List.length_nil, List.length_cons]; omega
  have hk : joinOk [] (s.map fun c => [c]) = true := by
    unfold joinOk
    rw [List.map_map]
    have := e s
    refine decide_eq_true ?_
    show ((s.map fun c => ([c] : List Nat).length)).sum + _ * 0 ≤ _
    rw [this]; omega
  dsimp only
  rw [if_pos hk, joinL_signs]
theorem all_signs {S : List Nat} : ∀ ys : List D, (∀ d ∈ ys, ∃ c, c ∈ S ∧ d = .str [c]) → ∃ s : List Nat, ys = s.map (fun c => D.str [c]) ∧ s.length = ys.length ∧ ∀ c ∈ s, c ∈ S
  | [], _ => ⟨[], rfl, rfl, fun _ h => by cases h⟩
  | y :: ys, h => by
    obtain ⟨c, hc, rfl⟩ := h y List.mem_cons_self
    obtain ⟨s, rfl, h2, h3⟩ := all_signs ys fun d hd => h d (List.mem_cons_of_mem _ hd)
    exact ⟨c :: s, rfl, by simp, fun d hd => by
      rcases List.mem_cons.mp hd with rfl | hd
      · exact hc
      · exact h3 d hd⟩
theorem text_wp {fi : LE → R (List D)} {gd : D → LE → Option LE} {te : LE → R D} {vs : List Nat} {r : LE} {Q : D → Prop} (S : List Nat) (n : Nat) (hn : n ≤ 1000) (hf : Wr (fi r) (fun ds => ds.length < n))
    (ht : ∀ d, ∃ r', gd d (wipeL r vs) = some r' ∧ Wr (te r') (fun d => ∃ c, c ∈ S ∧ d = .str [c]))
    (hQ : ∀ s : List Nat, s.length < n → (∀ c ∈ s, c ∈ S) → Q (.str s)) :
    Wr (bmE "str" joinD (cst (.str [])) (acons (lE (compF fi gd yesT te vs)) anil) r) Q := by
  refine ⟨?_⟩
  rw [bmE_eq, acons_eq, lE_eq, compF_eq, cst_eq, R.ok_bind]
  show Wp (isT "str" (.str []) >>= _) _ _
  rw [show isT "str" (.str []) = .ok (.str []) from rfl, R.ok_bind]
  refine Wp.of_bind (Wp.of_bind (Wp.of_bind (Wp.of_bind (hf.h.mono (fun ds hd => ?_) fun _ z => z.elim))))
  rw [if_pos (by omega)]
  refine loopC_wp (fun d => ∃ c, c ∈ S ∧ d = .str [c]) ds _ (fun d _ => let ⟨r', h1, h2⟩ := ht d; ⟨r', h1, h2.h⟩) fun ys hl hys => ?_
  obtain ⟨s, rfl, h2, h3⟩ := all_signs ys hys
  show Wp (joinD (.str []) [.lst _]) Q _
  rw [joinD_signs s (by omega)]
  exact hQ s (by omega) h3
def sign? (S : List Nat) : D → Bool
  | .str [c] => S.contains c
  | _ => false
theorem sign_of {S : List Nat} {d : D} (h : sign? S d = true) : ∃ c, c ∈ S ∧ d = .str [c] := by
  unfold sign? at h
  split at h
  · exact ⟨_, by simpa using h, rfl⟩
  · cases h
end DL
set_option Elab.async false
set_option linter.all false
set_option maxRecDepth 100000
namespace K02
open PySem L2 DL LamX PySem.Spec PyProof.Rows
def top (i : Nat) : Stmt := PySem.Challenge.pw_flaghall_k02_hoists.main.body.getD i (.Pass ⟨0, 0, 0, 0⟩)
abbrev s_law_dice : Stmt := top 26
abbrev s_law_roll : Stmt := top 27
abbrev s_law_rounds : Stmt := top 28
abbrev s_law_told : Stmt := top 29
abbrev s_law_hoist : Stmt := top 30
abbrev s_check_letters : Stmt := top 14
abbrev s_hoisted : Stmt := top 15
abbrev s_can_be_hoisted : Stmt := top 16
abbrev s_read_hoist : Stmt := top 17
abbrev s_is_usual : Stmt := top 18
abbrev s_law_read : Stmt := top 31
abbrev s_upside_read : Stmt := top 23
abbrev s_law_flat : Stmt := top 25
abbrev s_how_many_words : Stmt := top 19
abbrev s_all_words : Stmt := top 20
abbrev s_in_parts : Stmt := top 21
abbrev s_flags_needed : Stmt := top 22
abbrev s_law_cases1 : Stmt := top 32
abbrev s_law : Stmt := top 33
structure Adr where
  f_law_dice : Addr
  f_law_roll : Addr
  f_law_rounds : Addr
  f_law_told : Addr
  f_law_hoist : Addr
  f_check_letters : Addr
  f_hoisted : Addr
  f_can_be_hoisted : Addr
  f_read_hoist : Addr
  f_is_usual : Addr
  f_law_read : Addr
  f_upside_read : Addr
  f_law_flat : Addr
  f_how_many_words : Addr
  f_all_words : Addr
  f_in_parts : Addr
  f_flags_needed : Addr
  f_law_cases1 : Addr
  f_law : Addr
  x_BadBook : Addr
  x_BadFlag : Addr
  x_BadFleet : Addr
  x_BadHoist : Addr
  x_Foul : Addr
  x_NoWay : Addr
  x_TooLarge : Addr
  x_Unclear : Addr
  x_BadText : Addr
  k_check_letters : Addr
  t_check_letters : Addr
  k_can_be_hoisted : Addr
  t_can_be_hoisted : Addr
  k_how_many_words : Addr
  t_how_many_words : Addr
  k_law_cases1 : Addr
  t_law_cases1 : Addr
  k_law : Addr
  t_law : Addr
def flds : Nat → List Str
  | _ => []
def clsA (a : Adr) : Nat → Addr
  | _ => 0
def excA (a : Adr) : Nat → Addr
  | 3 => a.x_BadBook
  | 1 => a.x_BadFlag
  | 4 => a.x_BadFleet
  | 2 => a.x_BadHoist
  | 5 => a.x_Foul
  | 7 => a.x_NoWay
  | 8 => a.x_TooLarge
  | 6 => a.x_Unclear
  | 9 => a.x_BadText
  | _ => 0
def excF : Nat → Option Str
  | 5 => some "step"
  | 6 => some "many"
  | 9 => some "row"
  | _ => none
def tabsA (a : Adr) : List (Addr × Str) := [(a.t_check_letters, ("check_letters" : Str) ++ ".<locals>." ++ "<genexpr>"), (a.t_can_be_hoisted, ("can_be_hoisted" : Str) ++ ".<locals>." ++ "<genexpr>"), (a.t_how_many_words, ("how_many_words" : Str) ++ ".<locals>." ++ "<genexpr>"), (a.t_law_cases1, ("_law_cases1" : Str) ++ ".<locals>." ++ "<lambda>"), (a.t_law, ("law" : Str) ++ ".<locals>." ++ "<lambda>")]
abbrev gm (K : PySem.W.Frag) (w : World) (a : Adr) : Gm := { K := K, w := w, cls := clsA a, flds := flds, fns := fun _ => 0, xcls := excA a, xfld := excF, tabs := tabsA a }
def d_MOST_FLAGS : D := .int 4
def d_SUBSTITUTES : D := .str [49, 50, 51]
def toldL : List (Nat × List Nat) := [(3, [98, 111, 111, 107]), (1, [102, 108, 97, 103]), (4, [102, 108, 101, 101, 116]), (2, [104, 111, 105, 115, 116]), (5, [102, 111, 117, 108]), (7, [110, 111, 32, 119, 97, 121]), (8, [108, 97, 114, 103, 101]), (6, [117, 110, 99, 108, 101, 97, 114]), (9, [116, 101, 120, 116])]
def FunL (K : PySem.W.Frag) (x : Str) (st : Stmt) (f : Addr) (ps : List Str) : Prop := ∃ (oc : Value) (od : Option Addr) (kV doc pm : Value) (an : Option Addr) (cdv ct : Value) (osl : Array (Option Value)),
  K.lookup f = some ⟨oc, od, .func (PySem.W.fnOf x x (defArgs st) (defBody st) (defScope st) .none kV doc pm an cdv ct), osl⟩ ∧ PySem.W.codeIn K cdv x = true ∧ PySem.W.keepIn K (.ref f) = true ∧ L2.Binds K (PySem.W.fnOf x x (defArgs st) (defBody st) (defScope st) .none kV doc pm an cdv ct) ps []
/-- what the head knows -/
structure Txt (w : World) (K : PySem.W.Frag) (mg : Str → Option Value) (base : Heap) (a : Adr) : Prop where
  b_range : mg "range" = none
  b_len : mg "len" = none
  b_dict : mg "dict" = none
  b_any : mg "any" = none
  b_enumerate : mg "enumerate" = none
  b_all : mg "all" = none
  b_int : mg "int" = none
  b_list : mg "list" = none
  b_reversed : mg "reversed" = none
  b_max : mg "max" = none
  b_sum : mg "sum" = none
  b_tuple : mg "tuple" = none
  b_min : mg "min" = none
  b_sorted : mg "sorted" = none
  b_abs : mg "abs" = none
  g_law_dice : mg "_law_dice" = some (.ref a.f_law_dice)
  e_law_dice : FunE K "_law_dice" "_law_dice" s_law_dice a.f_law_dice ["cell"]
  g_law_roll : mg "_law_roll" = some (.ref a.f_law_roll)
  e_law_roll : FunE K "_law_roll" "_law_roll" s_law_roll a.f_law_roll ["dice", "many"]
  g_law_rounds : mg "_law_rounds" = some (.ref a.f_law_rounds)
  e_law_rounds : FunE K "_law_rounds" "_law_rounds" s_law_rounds a.f_law_rounds ["script", "most"]
  g_law_told : mg "_law_told" = some (.ref a.f_law_told)
  l_told : FunL K "_law_told" s_law_told a.f_law_told ["what"]
  g_law_hoist : mg "_law_hoist" = some (.ref a.f_law_hoist)
  e_law_hoist : FunE K "_law_hoist" "_law_hoist" s_law_hoist a.f_law_hoist ["word"]
  g_check_letters : mg "check_letters" = some (.ref a.f_check_letters)
  e_check_letters : FunC K "check_letters" "check_letters" s_check_letters a.f_check_letters a.k_check_letters ["word"]
  g_hoisted : mg "hoisted" = some (.ref a.f_hoisted)
  e_hoisted : FunE K "hoisted" "hoisted" s_hoisted a.f_hoisted ["word"]
  g_can_be_hoisted : mg "can_be_hoisted" = some (.ref a.f_can_be_hoisted)
  e_can_be_hoisted : FunC K "can_be_hoisted" "can_be_hoisted" s_can_be_hoisted a.f_can_be_hoisted a.k_can_be_hoisted ["word"]
  g_read_hoist : mg "read_hoist" = some (.ref a.f_read_hoist)
  e_read_hoist : FunE K "read_hoist" "read_hoist" s_read_hoist a.f_read_hoist ["flags"]
  g_is_usual : mg "is_usual" = some (.ref a.f_is_usual)
  e_is_usual : FunE K "is_usual" "is_usual" s_is_usual a.f_is_usual ["flags"]
  g_law_read : mg "_law_read" = some (.ref a.f_law_read)
  e_law_read : FunE K "_law_read" "_law_read" s_law_read a.f_law_read ["flags"]
  g_upside_read : mg "upside_read" = some (.ref a.f_upside_read)
  e_upside_read : FunE K "upside_read" "upside_read" s_upside_read a.f_upside_read ["flags"]
  g_law_flat : mg "_law_flat" = some (.ref a.f_law_flat)
  e_law_flat : FunE K "_law_flat" "_law_flat" s_law_flat a.f_law_flat ["rows"]
  g_how_many_words : mg "how_many_words" = some (.ref a.f_how_many_words)
  e_how_many_words : FunC K "how_many_words" "how_many_words" s_how_many_words a.f_how_many_words a.k_how_many_words ["letters", "size"]
  g_all_words : mg "all_words" = some (.ref a.f_all_words)
  e_all_words : FunE K "all_words" "all_words" s_all_words a.f_all_words ["letters", "size"]
  g_in_parts : mg "in_parts" = some (.ref a.f_in_parts)
  e_in_parts : FunE K "in_parts" "in_parts" s_in_parts a.f_in_parts ["text"]
  g_flags_needed : mg "flags_needed" = some (.ref a.f_flags_needed)
  e_flags_needed : FunE K "flags_needed" "flags_needed" s_flags_needed a.f_flags_needed ["words"]
  g_law_cases1 : mg "_law_cases1" = some (.ref a.f_law_cases1)
  e_law_cases1 : FunC K "_law_cases1" "_law_cases1" s_law_cases1 a.f_law_cases1 a.k_law_cases1 []
  g_law : mg "law" = some (.ref a.f_law)
  e_law : FunC K "law" "law" s_law a.f_law a.k_law ["script"]
  x_BadBook : PySem.W.excIn K a.x_BadBook [.type "ValueError", .type "Exception", .type "BaseException", .type "object"] "ValueError.__new__" = true ∧ mg "BadBook" = some (.ref a.x_BadBook) ∧ PySem.W.keepIn K (.ref a.x_BadBook) = true ∧ PySem.W.subIn K (.ref a.x_BadBook) (.type "BaseException") = some true ∧ PySem.W.typeIn K (.ref a.x_BadBook) = some (.type "type")
  x_BadFlag : PySem.W.excIn K a.x_BadFlag [.type "ValueError", .type "Exception", .type "BaseException", .type "object"] "ValueError.__new__" = true ∧ mg "BadFlag" = some (.ref a.x_BadFlag) ∧ PySem.W.keepIn K (.ref a.x_BadFlag) = true ∧ PySem.W.subIn K (.ref a.x_BadFlag) (.type "BaseException") = some true ∧ PySem.W.typeIn K (.ref a.x_BadFlag) = some (.type "type")
  x_BadFleet : PySem.W.excIn K a.x_BadFleet [.type "ValueError", .type "Exception", .type "BaseException", .type "object"] "ValueError.__new__" = true ∧ mg "BadFleet" = some (.ref a.x_BadFleet) ∧ PySem.W.keepIn K (.ref a.x_BadFleet) = true ∧ PySem.W.subIn K (.ref a.x_BadFleet) (.type "BaseException") = some true ∧ PySem.W.typeIn K (.ref a.x_BadFleet) = some (.type "type")
  x_BadHoist : PySem.W.excIn K a.x_BadHoist [.type "ValueError", .type "Exception", .type "BaseException", .type "object"] "ValueError.__new__" = true ∧ mg "BadHoist" = some (.ref a.x_BadHoist) ∧ PySem.W.keepIn K (.ref a.x_BadHoist) = true ∧ PySem.W.subIn K (.ref a.x_BadHoist) (.type "BaseException") = some true ∧ PySem.W.typeIn K (.ref a.x_BadHoist) = some (.type "type")
  x_Foul : mg "Foul" = some (.ref a.x_Foul)
  x_NoWay : PySem.W.excIn K a.x_NoWay [.type "ValueError", .type "Exception", .type "BaseException", .type "object"] "ValueError.__new__" = true ∧ mg "NoWay" = some (.ref a.x_NoWay) ∧ PySem.W.keepIn K (.ref a.x_NoWay) = true ∧ PySem.W.subIn K (.ref a.x_NoWay) (.type "BaseException") = some true ∧ PySem.W.typeIn K (.ref a.x_NoWay) = some (.type "type")
  x_TooLarge : PySem.W.excIn K a.x_TooLarge [.type "ValueError", .type "Exception", .type "BaseException", .type "object"] "ValueError.__new__" = true ∧ mg "TooLarge" = some (.ref a.x_TooLarge) ∧ PySem.W.keepIn K (.ref a.x_TooLarge) = true ∧ PySem.W.subIn K (.ref a.x_TooLarge) (.type "BaseException") = some true ∧ PySem.W.typeIn K (.ref a.x_TooLarge) = some (.type "type")
  x_Unclear : mg "Unclear" = some (.ref a.x_Unclear)
  x_BadText : mg "BadText" = some (.ref a.x_BadText)
  exm : ExmOk K (gm K w a) (toldL.map (·.1))
  v_MOST_FLAGS : GlD (gm K w a) mg "MOST_FLAGS" d_MOST_FLAGS
  v_SUBSTITUTES : GlD (gm K w a) mg "SUBSTITUTES" d_SUBSTITUTES
  tb_check_letters : TabB base mg a.k_check_letters a.t_check_letters
  tb_can_be_hoisted : TabB base mg a.k_can_be_hoisted a.t_can_be_hoisted
  tb_how_many_words : TabB base mg a.k_how_many_words a.t_how_many_words
  tb_law_cases1 : TabB base mg a.k_law_cases1 a.t_law_cases1
  tb_law : TabB base mg a.k_law a.t_law
  ne_check_letters_can_be_hoisted : a.t_check_letters ≠ a.t_can_be_hoisted
  ne_check_letters_how_many_words : a.t_check_letters ≠ a.t_how_many_words
  ne_check_letters_law_cases1 : a.t_check_letters ≠ a.t_law_cases1
  ne_check_letters_law : a.t_check_letters ≠ a.t_law
  ne_can_be_hoisted_how_many_words : a.t_can_be_hoisted ≠ a.t_how_many_words
  ne_can_be_hoisted_law_cases1 : a.t_can_be_hoisted ≠ a.t_law_cases1
  ne_can_be_hoisted_law : a.t_can_be_hoisted ≠ a.t_law
  ne_how_many_words_law_cases1 : a.t_how_many_words ≠ a.t_law_cases1
  ne_how_many_words_law : a.t_how_many_words ≠ a.t_law
  ne_law_cases1_law : a.t_law_cases1 ≠ a.t_law
theorem sc_law_dice : FnScope ["cell"] ["cell"] (defScope s_law_dice) := ⟨rfl, rfl, rfl, by decide +kernel, rfl, by decide +kernel, by decide +kernel⟩
theorem sc_law_roll : FnScope ["dice", "many", "found"] ["dice", "many"] (defScope s_law_roll) := ⟨rfl, rfl, rfl, by decide +kernel, rfl, by decide +kernel, by decide +kernel⟩
theorem sc_law_rounds : FnScope ["script", "most", "cells", "cell"] ["script", "most"] (defScope s_law_rounds) := ⟨rfl, rfl, rfl, by decide +kernel, rfl, by decide +kernel, by decide +kernel⟩
theorem sc_law_told : FnScope ["what"] ["what"] (defScope s_law_told) := ⟨rfl, rfl, rfl, by decide +kernel, rfl, by decide +kernel, by decide +kernel⟩
theorem sc_law_hoist : FnScope ["word", "found", "k", "first", "flags", "sign"] ["word"] (defScope s_law_hoist) := ⟨rfl, rfl, rfl, by decide +kernel, rfl, by decide +kernel, by decide +kernel⟩
theorem sc_check_letters : FnScope ["word", "sign"] ["word"] (defScope s_check_letters) := ⟨rfl, rfl, rfl, by decide +kernel, rfl, by decide +kernel, by decide +kernel⟩
theorem sc_hoisted : FnScope ["word", "found", "k", "letter", "place", "sign"] ["word"] (defScope s_hoisted) := ⟨rfl, rfl, rfl, by decide +kernel, rfl, by decide +kernel, by decide +kernel⟩
theorem sc_can_be_hoisted : FnScope ["word", "letter"] ["word"] (defScope s_can_be_hoisted) := ⟨rfl, rfl, rfl, by decide +kernel, rfl, by decide +kernel, by decide +kernel⟩
theorem sc_read_hoist : FnScope ["flags", "found", "k", "sign", "place"] ["flags"] (defScope s_read_hoist) := ⟨rfl, rfl, rfl, by decide +kernel, rfl, by decide +kernel, by decide +kernel⟩
theorem sc_is_usual : FnScope ["flags"] ["flags"] (defScope s_is_usual) := ⟨rfl, rfl, rfl, by decide +kernel, rfl, by decide +kernel, by decide +kernel⟩
theorem sc_law_read : FnScope ["flags", "word", "k"] ["flags"] (defScope s_law_read) := ⟨rfl, rfl, rfl, by decide +kernel, rfl, by decide +kernel, by decide +kernel⟩
theorem sc_upside_read : FnScope ["flags"] ["flags"] (defScope s_upside_read) := ⟨rfl, rfl, rfl, by decide +kernel, rfl, by decide +kernel, by decide +kernel⟩
theorem sc_law_flat : FnScope ["rows", "found", "row"] ["rows"] (defScope s_law_flat) := ⟨rfl, rfl, rfl, by decide +kernel, rfl, by decide +kernel, by decide +kernel⟩
theorem sc_how_many_words : FnScope ["letters", "size", "falls", "k", "shapes", "unlike", "ways"] ["letters", "size"] (defScope s_how_many_words) := ⟨rfl, rfl, rfl, by decide +kernel, rfl, by decide +kernel, by decide +kernel⟩
theorem sc_all_words : FnScope ["letters", "size", "whole", "k", "words", "word", "sign"] ["letters", "size"] (defScope s_all_words) := ⟨rfl, rfl, rfl, by decide +kernel, rfl, by decide +kernel, by decide +kernel⟩
theorem sc_in_parts : FnScope ["text", "found", "size"] ["text"] (defScope s_in_parts) := ⟨rfl, rfl, rfl, by decide +kernel, rfl, by decide +kernel, by decide +kernel⟩
theorem sc_flags_needed : FnScope ["words", "found", "word", "sign"] ["words"] (defScope s_flags_needed) := ⟨rfl, rfl, rfl, by decide +kernel, rfl, by decide +kernel, by decide +kernel⟩
theorem sc_law_cases1 : FnScope [] [] (defScope s_law_cases1) := ⟨rfl, rfl, rfl, by decide +kernel, rfl, by decide +kernel, by decide +kernel⟩
theorem sc_law : FnScope ["script", "dice", "word", "k", "flags", "thrice", "sign", "row", "told", "below", "letters", "size", "words", "one", "good", "text", "parts", "longer", "signs"] ["script"] (defScope s_law) := ⟨rfl, rfl, rfl, by decide +kernel, rfl, by decide +kernel, by decide +kernel⟩
section
variable {P : Program} {w : World} {K : PySem.W.Frag} {mg : Str → Option Value} {base : Heap} {G : Gm} {a : Adr}
theorem ok_roll {f : Addr} {fd : FuncData} (F : Fun K "_law_roll" "_law_roll" s_law_roll f fd) (mi : mg "int" = none) : FnOk P w K mg base (L2.CX P w) 1 f fd ["dice", "many"] (spD G 2 rollD) := by
  refine F.okX sc_law_roll (fun vs H Q E h => h.1) (fun cdv A outer s H vs Q E hr h => ?_)
  obtain ⟨hl, dl, Z, ds, gl, dz, live, rl, hw⟩ := h
  obtain ⟨m, x, y, z, rfl, m0, m1, hd, k⟩ := roll_of gl dz rl hw
  refine ⟨_, pss_cons (ps_if (pw_or (pt_cmpR op_eq (pe_ix ix_list (pv 0) pe_int fun _ _ => rfl) pe_int (nomark _)) (pw_or1 (pw_and (pt_cmpR op_eq (pe_ix ix_list (pv 0) pe_int fun _ _ => rfl) pe_int (nomark _)) (pw_and1 (pt_cmpR op_gt (pe_ix ix_list (pv 0) pe_int fun _ _ => rfl) pe_int (nomark _)))).pt)).pt
      (pss_cons (ps_set (i := 2) sc_law_roll.nd rfl (Or.inl rfl) (pe_op op_mod (pe_callTy call_int1 rfl mi rfl (pa_cons (pe_ix ix_list (pv 0) pe_int fun _ _ => rfl) pa_nil)) (pv 1)))
        (pss_cons (ps_asg (pe_op op_fdiv (pe_ix ix_list (pv 0) pe_int fun _ _ => rfl) (pv 1)) (pg_sub (pv 0) pe_int set_list))
          (pss_one (ps_ret (pv 2))))) pss_nil)
    (pss_cons (ps_asg pe_int (pg_sub (pv 0) pe_int set_list))
      (pss_cons (ps_asg (pe_op op_mod (pe_callTy call_int1 rfl mi rfl (pa_cons (pe_op op_add (pe_op op_add (pe_op op_mul (pe_ix ix_list (pv 0) pe_int fun _ _ => rfl) pe_int) (pe_op op_mul (pe_ix ix_list (pv 0) pe_int fun _ _ => rfl) pe_int)) pe_int) pa_nil)) pe_int) (pg_sub (pv 0) pe_int set_list))
        (pss_cons (ps_asg (pe_op op_add (pe_ix ix_list (pv 0) pe_int fun _ _ => rfl) pe_int) (pg_sub (pv 0) pe_int set_list))
          (pss_one (ps_ret (pe_op op_mod (pe_callTy call_int1 rfl mi rfl (pa_cons (pe_op op_add (pe_op op_fdiv (pe_ix ix_list (pv 0) pe_int fun _ _ => rfl) pe_int) (pe_ix ix_list (pv 0) pe_int fun _ _ => rfl)) pa_nil)) (pv 1))))))), ?_⟩
  have hm1 : m < 1073741824 := by omega
  have r0 : 0 ≤ x % m := Int.emod_nonneg _ (by omega)
  have r1 : x % m < m := Int.emod_lt_of_pos _ m0
  refine ⟨_, rfl, dl, _, _, _, rfl, rfl, SqL.of hd, rfl, rfl, _, rfl, ?_⟩
  refine ite2 (fun _ => ite2 (fun _ => ?y1) (fun h => absurd rfl h)) (fun _ => ⟨_, rfl, dl, _, _, _, rfl, rfl, SqL.of hd, rfl, rfl, _, rfl, ite2 (fun _ => ⟨_, rfl, dl, _, _, _, rfl, rfl, SqL.of hd, rfl, _, _, rfl, rfl, _, rfl, ite2 (fun _ => ?y2) (fun _ => ?n1)⟩) (fun _ => ite2 (fun h => nomatch h) (fun _ => ?n2))⟩)
  case y1 =>
    refine ⟨_, rfl, dl, _, _, _, rfl, rfl, SqL.of hd, rfl, .inl ⟨_, rfl, _, rfl, _, _, rfl, rfl, m0, ?_⟩⟩
    refine ⟨_, rfl, dl, _, _, _, rfl, rfl, SqL.of hd, rfl, _, rfl, _, _, rfl, rfl, ⟨m0, hm1⟩, _, rfl, dl, _, _, _, rfl, rfl, hd, rfl, _, rfl, ?_⟩
    exact k _ _ r0 r1 ⟨_, _, _, rfl⟩
  case y2 =>
    refine ⟨_, rfl, dl, _, _, _, rfl, rfl, SqL.of hd, rfl, .inl ⟨_, rfl, _, rfl, _, _, rfl, rfl, m0, ?_⟩⟩
    refine ⟨_, rfl, dl, _, _, _, rfl, rfl, SqL.of hd, rfl, _, rfl, _, _, rfl, rfl, ⟨m0, hm1⟩, _, rfl, dl, _, _, _, rfl, rfl, hd, rfl, _, rfl, ?_⟩
    exact k _ _ r0 r1 ⟨_, _, _, rfl⟩
  all_goals
    refine ⟨_, rfl, dl, _, _, _, rfl, rfl, hd, rfl, ?_⟩
    have h2 : (upd H dl (.lst [V.int x, V.int y, V.int 0])) dl = some (.lst [V.int x, V.int y, V.int 0]) := upd_same
    refine ⟨_, rfl, dl, _, _, _, rfl, rfl, SqL.of h2, rfl, _, _, rfl, rfl, .inr ⟨by decide, by decide⟩, _, rfl, dl, _, _, _, rfl, rfl, SqL.of h2, rfl, _, _, rfl, rfl, .inr ⟨by decide, by decide⟩, _, _, rfl, rfl, _, _, rfl, rfl, .inl ⟨_, rfl, _, _, rfl, rfl, (by show (0 : Int) < 2147483647; decide), _, rfl, dl, _, _, _, rfl, rfl, h2, rfl, ?_⟩⟩
    refine ⟨_, rfl, dl, _, _, _, rfl, rfl, SqL.of upd_same, rfl, _, _, rfl, rfl, _, rfl, dl, _, _, _, rfl, rfl, upd_same, rfl, ?_⟩
    refine ⟨_, rfl, dl, _, _, _, rfl, rfl, SqL.of upd_same, rfl, _, _, rfl, rfl, ⟨(by show (0 : Int) < 7; decide), (by show (7 : Int) < 1073741824; decide)⟩, _, rfl, dl, _, _, _, rfl, rfl, SqL.of upd_same, rfl, _, _, rfl, rfl, .inl ⟨_, rfl, _, rfl, _, _, rfl, rfl, m0, ?_⟩⟩
    refine k _ _ (Int.emod_nonneg _ (by omega)) (Int.emod_lt_of_pos _ m0) ⟨(x * 48271 + y * 69621 + 11) % 2147483647, y + 1, 0, ?_⟩
    rw [upd_upd, upd_upd]
    rfl
theorem ok_dice {f : Addr} {fd : FuncData} (F : Fun K "_law_dice" "_law_dice" s_law_dice f fd) (mi : mg "int" = none) (ma : mg "abs" = none) : FnOk P w K mg base (L2.CX P w) 1 f fd ["cell"] spDice := by
  refine F.okX sc_law_dice (fun vs H Q E h => by obtain ⟨c, rfl, _⟩ := h; rfl) (fun cdv A outer s H vs Q E hr h => ?_)
  obtain ⟨c, rfl, k⟩ := h
  refine ⟨_, pss_cons (ps_if (pt_chain op_lt op_lt (pe_op op_sub pe_int pe_int) (pv 0) pe_int) (pss_one (ps_ret (pe_lst (pa_cons (pe_callB call_abs rfl ma rfl (pa_cons (pv 0) pa_nil)) (pa_cons pe_int (pa_cons pe_int pa_nil)))))) pss_nil)
    (pss_one (ps_ret (pe_lst (pa_cons (pv 0) (pa_cons (pe_op op_add pe_int (pe_op op_mod (pe_callTy call_int1 rfl mi rfl (pa_cons (pv 0) pa_nil)) pe_int)) (pa_cons (pe_callTy call_int1 rfl mi rfl (pa_cons (pe_cmpR op_ge (pv 0) (pe_op op_pow pe_int pe_int) (nomark _)) pa_nil)) pa_nil)))))), ?_⟩
  have kk : ∀ a : Int, [V.int a, V.int 0, V.int 2].length ≤ sizeLine ∧ ∀ p, H p = none → Q (.ref p) (upd H p (.lst [V.int a, V.int 0, V.int 2])) := fun a => ⟨by rw [sizeLine_eq]; exact Nat.le_of_ble_eq_true rfl, fun p hp => k p a 0 2 hp⟩
  have kn : ∀ b : Bool, [V.int c, V.int (1 + c % 1009), V.int (if b = true then 1 else 0)].length ≤ sizeLine ∧ ∀ p, H p = none → Q (.ref p) (upd H p (.lst [V.int c, V.int (1 + c % 1009), V.int (if b = true then 1 else 0)])) := fun b => ⟨by rw [sizeLine_eq]; exact Nat.le_of_ble_eq_true rfl, fun p hp => k p c _ _ hp⟩
  have no : tRet
      (tLst
        (tCons (tVar 0)
          (tCons
            (tOp (rI0 fun i j => V.int (i + j)) (tC (V.int 1))
              (tOp (rI (fun x j => 0 < j) fun i j => V.int (i % j))
                (tCB
                  (fun xs H Q =>
                    (∃ i, xs = [V.int i] ∧ Q (V.int i) H) ∨
                      ∃ k, xs = [V.bl k] ∧ Q (V.int (if k = true then 1 else 0)) H)
                  (tCons (tVar 0) tNil))
                (tC (V.int 1009))))
            (tCons
              (tCB
                (fun xs H Q =>
                  (∃ i, xs = [V.int i] ∧ Q (V.int i) H) ∨ ∃ k, xs = [V.bl k] ∧ Q (V.int (if k = true then 1 else 0)) H)
                (tCons
                  (tOp (rI0 fun i j => V.bl (decide (j ≤ i))) (tVar 0)
                    (tOp (rI CPow fun i j => V.int (i ^ j.toNat)) (tC (V.int 10)) (tC (V.int 18))))
                  tNil))
              tNil)))) { nx := fun x H' => Q V.non H', rt := Q } (L2.start [Str.ofString "cell"] [V.int c]) H := by
    exact ⟨_, rfl, _, rfl, .inl ⟨_, rfl, _, _, rfl, rfl, (by show (0 : Int) < 1009; decide), _, _, rfl, rfl, _, rfl, _, _, rfl, rfl, ⟨by decide, by decide, by decide⟩, _, _, rfl, rfl, .inr ⟨_, rfl, kn _⟩⟩⟩
  refine ⟨_, _, rfl, rfl, _, rfl, _, _, rfl, rfl, _, rfl, ite2 (fun _ => ⟨_, _, rfl, rfl, _, rfl, ite2 (fun _ => ⟨_, rfl, _, rfl, kk _⟩) (fun _ => no)⟩) (fun _ => ⟨_, rfl, ite2 (fun h => nomatch h) (fun _ => no)⟩)⟩
theorem ok_rounds {f fD : Addr} {fd fdD : FuncData} (F : Fun K "_law_rounds" "_law_rounds" s_law_rounds f fd) (D : FnOk P w K mg base (L2.CX P w) 1 fD fdD ["cell"] spDice) (kD : PySem.W.keepIn K (.ref fD) = true) (bD : Binds K fdD ["cell"] []) (mD : mg "_law_dice" = some (.ref fD)) : FnOk P w K mg base (L2.CX P w) 2 f fd ["script", "most"] (spRounds K) := by
  refine F.okX sc_law_rounds (fun vs H Q E h => by obtain ⟨a, ns, rfl, _⟩ := h; rfl) (fun cdv A outer s H vs Q E hr h => ?_)
  obtain ⟨a, ns, rfl, hS, k⟩ := h
  have hu : (A.deeper (PyProof.Rows.envOfC "_law_rounds" (defScope s_law_rounds) s.heap.objs.size f cdv)).units + 64 < cLine := by have := hr.un; omega
  refine ⟨_, pss_cons (ps_set (i := 2) sc_law_rounds.nd rfl (Or.inl rfl) (pe_slice sl_list (pv 0) po_none (po_some (pv 1))))
    (pss_cons (ps_if (pt_cmpR (op_eqD hu) (pv 2) (pe_lst pa_nil) (nomark _)) (pss_one (ps_set (i := 2) sc_law_rounds.nd rfl (Or.inl rfl) (pe_lst (pa_cons pe_int pa_nil)))) pss_nil)
      (pss_one (ps_ret (pe_lc (own := [("cell", 3)]) (g := gName 3) (tt := tYes) rfl sc_law_rounds.nd (pi_list (pv 2)) (blkOk_by (N := ["script", "most", "cells", "cell"]) (sc := defScope s_law_rounds) (by decide +kernel)) (fun _ _ _ _ _ => pg_name (i := 3) sc_law_rounds.nd rfl (Or.inl rfl)) (fun _ _ _ _ _ => pts_nil)
        (fun _ _ _ _ _ => pe_callS D hr rfl mD kD bD (fun sg => passAt takes0D sg) (pa_cons (pv 3) pa_nil)))))), ?_⟩
  have fin : ∀ (H1 : Hp) (l : Addr) (c : Int), (∀ b o, H b = some o → H1 b = some o) → H1 l = some (.lst [.int c]) →
      (tRet (tLc (iList K (tVar 2)) (gName 3) tYes (tCallS spDice (WE W0) (tCons (tVar 3) tNil)) [3])) { nx := fun x H' => Q V.non H', rt := Q } [some (.ref a), some (.int 1), some (.ref l), none] H1 := fun H1 l c e1 hl => by
    refine ⟨_, rfl, l, rfl, ⟨_, SqL.of hl⟩, fun D hD => ?_⟩
    have hlD : l ≠ D := ne_of_none hl hD
    refine lc_list (xs := [V.int c]) (fun i H' => (∀ b o, H1 b = some o → H' b = some o) ∧ ((i = 0 ∧ H' D = some (.lst [])) ∨ (i = 1 ∧ ∃ (d : Addr) (x y z : Int), D ≠ d ∧ H' D = some (.lst [.ref d]) ∧ H' d = some (.lst [.int x, .int y, .int z])))) ⟨fun b o e => by rw [upd_ne (ne_of_none e hD)]; exact e, .inl ⟨rfl, upd_same⟩⟩
      (fun i H' _ p => SqL.of (p.1 _ _ hl)) (fun i x H' hx p => ?_) fun H' p => ?_
    · obtain ⟨p1, p2⟩ := p
      cases i with
      | succ i => simp at hx
      | zero =>
        cases hx
        rcases p2 with ⟨_, hDl⟩ | ⟨h, _⟩
        case inr => cases h
        refine ⟨rfl, _, rfl, c, rfl, fun d x y z hd => ?_⟩
        have hDd : D ≠ d := ne_of_none hDl hd
        refine ⟨[], by rw [upd_ne hDd]; exact hDl, by rw [sizeLine_eq]; decide, fun b o e => ?_, .inr ⟨rfl, d, x, y, z, hDd, upd_same, by rw [upd_ne hDd.symm]; exact upd_same⟩⟩
        rw [upd_ne (ne_of_none e hD), upd_ne (ne_of_none (p1 b o e) hd)]
        exact p1 b o e
    · obtain ⟨p1, p2⟩ := p
      rcases p2 with ⟨h, _⟩ | ⟨_, d, x, y, z, n, h1, h2⟩
      · cases h
      · exact k H' D d x y z (fun b o e => p1 b o (e1 b o e)) n h1 h2
  refine ⟨_, rfl, _, rfl, _, rfl, a, _, rfl, hS, fun l hl => ?_⟩
  have dnil : ∀ {H2 : Hp} {q : Addr}, H2 q = some (.lst []) → Dp K H2 (.ref q) (.list []) := fun h => .lst (SqL.of h) .nil
  cases ns with
  | nil =>
    refine ⟨_, rfl, Nat.zero_le _, fun l2 hl2 => ⟨.list [], .list [], dnil ?_, dnil upd_same, by decide, by decide, _, rfl, ite2 (fun _ => ⟨by rw [sizeLine_eq]; decide, fun l3 hl3 => fin _ l3 0 (fun b o e => ?_) upd_same⟩) (fun h => absurd rfl h)⟩⟩
    · have n : l ≠ l2 := fun e => by rw [← e, upd_same] at hl2; cases hl2
      rw [upd_ne n]; exact upd_same
    · have e1 := (upd_ne (o := .lst (cutV ([].map V.int) none (some 1))) (ne_of_none e hl)).trans e
      have e2 := (upd_ne (o := .lst []) (ne_of_none e1 hl2)).trans e1
      exact (upd_ne (o := .lst [V.int 0]) (ne_of_none e2 hl3)).trans e2
  | cons c r =>
    have cv : cutV ((c :: r).map V.int) none (some 1) = [V.int c] := by
      show (List.take (HT.sIx _ _ (some ((1 : Nat) : Int)) - 0) _) = _
      rw [HT.sIx_nat, HT.sIx_none]
      simp
    rw [cv] at *
    refine ⟨_, rfl, Nat.zero_le _, fun l2 hl2 => ⟨.list [.int c], .list [], .lst (xs := [V.int c]) (SqL.of ?_) (.cons (.int c) .nil), dnil upd_same, rfl, by decide, _, rfl, ite2 (fun h => nomatch h) (fun _ => fin _ l c (fun b o e => ?_) ?_)⟩⟩
    · have n : l ≠ l2 := fun e => by rw [← e, upd_same] at hl2; cases hl2
      rw [upd_ne n]; exact upd_same
    · have e1 := (upd_ne (o := .lst [V.int c]) (ne_of_none e hl)).trans e
      exact (upd_ne (o := .lst []) (ne_of_none e1 hl2)).trans e1
    · have n : l ≠ l2 := fun e => by rw [← e, upd_same] at hl2; cases hl2
      rw [upd_ne n]; exact upd_same
theorem tm_check_letters : (a.t_check_letters, ("check_letters" : Str) ++ ".<locals>." ++ "<genexpr>") ∈ tabsA a := by unfold tabsA; simp
theorem tu_check_letters (T : Txt w K mg base a) : ∀ p ∈ tabsA a, p.1 = a.t_check_letters → p.2 = ("check_letters" : Str) ++ ".<locals>." ++ "<genexpr>" := fun p hp e => by
  unfold tabsA at hp
  simp only [List.mem_cons, List.not_mem_nil, or_false] at hp
  rcases hp with rfl | rfl | rfl | rfl | rfl
  · rfl
  · exact (T.ne_check_letters_can_be_hoisted e.symm).elim
  · exact (T.ne_check_letters_how_many_words e.symm).elim
  · exact (T.ne_check_letters_law_cases1 e.symm).elim
  · exact (T.ne_check_letters_law e.symm).elim
theorem tm_can_be_hoisted : (a.t_can_be_hoisted, ("can_be_hoisted" : Str) ++ ".<locals>." ++ "<genexpr>") ∈ tabsA a := by unfold tabsA; simp
theorem tu_can_be_hoisted (T : Txt w K mg base a) : ∀ p ∈ tabsA a, p.1 = a.t_can_be_hoisted → p.2 = ("can_be_hoisted" : Str) ++ ".<locals>." ++ "<genexpr>" := fun p hp e => by
  unfold tabsA at hp
  simp only [List.mem_cons, List.not_mem_nil, or_false] at hp
  rcases hp with rfl | rfl | rfl | rfl | rfl
  · exact (T.ne_check_letters_can_be_hoisted e).elim
  · rfl
  · exact (T.ne_can_be_hoisted_how_many_words e.symm).elim
  · exact (T.ne_can_be_hoisted_law_cases1 e.symm).elim
  · exact (T.ne_can_be_hoisted_law e.symm).elim
theorem tm_how_many_words : (a.t_how_many_words, ("how_many_words" : Str) ++ ".<locals>." ++ "<genexpr>") ∈ tabsA a := by unfold tabsA; simp
theorem tu_how_many_words (T : Txt w K mg base a) : ∀ p ∈ tabsA a, p.1 = a.t_how_many_words → p.2 = ("how_many_words" : Str) ++ ".<locals>." ++ "<genexpr>" := fun p hp e => by
  unfold tabsA at hp
  simp only [List.mem_cons, List.not_mem_nil, or_false] at hp
  rcases hp with rfl | rfl | rfl | rfl | rfl
  · exact (T.ne_check_letters_how_many_words e).elim
  · exact (T.ne_can_be_hoisted_how_many_words e).elim
  · rfl
  · exact (T.ne_how_many_words_law_cases1 e.symm).elim
  · exact (T.ne_how_many_words_law e.symm).elim
theorem tm_law_cases1 : (a.t_law_cases1, ("_law_cases1" : Str) ++ ".<locals>." ++ "<lambda>") ∈ tabsA a := by unfold tabsA; simp
theorem tu_law_cases1 (T : Txt w K mg base a) : ∀ p ∈ tabsA a, p.1 = a.t_law_cases1 → p.2 = ("_law_cases1" : Str) ++ ".<locals>." ++ "<lambda>" := fun p hp e => by
  unfold tabsA at hp
  simp only [List.mem_cons, List.not_mem_nil, or_false] at hp
  rcases hp with rfl | rfl | rfl | rfl | rfl
  · exact (T.ne_check_letters_law_cases1 e).elim
  · exact (T.ne_can_be_hoisted_law_cases1 e).elim
  · exact (T.ne_how_many_words_law_cases1 e).elim
  · rfl
  · exact (T.ne_law_cases1_law e.symm).elim
theorem tm_law : (a.t_law, ("law" : Str) ++ ".<locals>." ++ "<lambda>") ∈ tabsA a := by unfold tabsA; simp
theorem tu_law (T : Txt w K mg base a) : ∀ p ∈ tabsA a, p.1 = a.t_law → p.2 = ("law" : Str) ++ ".<locals>." ++ "<lambda>" := fun p hp e => by
  unfold tabsA at hp
  simp only [List.mem_cons, List.not_mem_nil, or_false] at hp
  rcases hp with rfl | rfl | rfl | rfl | rfl
  · exact (T.ne_check_letters_law e).elim
  · exact (T.ne_can_be_hoisted_law e).elim
  · exact (T.ne_how_many_words_law e).elim
  · exact (T.ne_law_cases1_law e).elim
  · rfl
theorem gives_told {X : Cx} {cdg : Value} {g : Addr} {q : Str} (T : Txt w K mg base a) (hK : X.K = K) (hm : X.mg = mg) : GivesTo X ["what"] "_law_told" (defScope s_law_told) g cdg (defBody s_law_told) "what" q (TTm X.K (toldL.map fun p => ((gm K w a).xcls p.1, (⟨p.2.toArray⟩ : Str)))) := by
  subst hm
  exact told_many (X := X) (.cons (by rfl) T.x_BadBook.2.1 (by decide) (.cons (by rfl) T.x_BadFlag.2.1 (by decide) (.cons (by rfl) T.x_BadFleet.2.1 (by decide) (.cons (by rfl) T.x_BadHoist.2.1 (by decide) (.cons (by rfl) T.x_Foul (by decide) (.cons (by rfl) T.x_NoWay.2.1 (by decide) (.cons (by rfl) T.x_TooLarge.2.1 (by decide) (.cons (by rfl) T.x_Unclear (by decide) (.cons (by rfl) T.x_BadText (by decide) .nil))))))))) (fun _ => rfl)
theorem k_law_roll (T : Txt w K mg base a) : FnD P w K mg base (gm K w a) 1 "_law_roll" a.f_law_roll 2 rollD := by
  obtain ⟨fd, F, bd⟩ := T.e_law_roll
  exact ⟨⟨fd, _, rfl, ok_roll F T.b_int, bd⟩, rollD_len, F.kp, T.g_law_roll⟩
def F_law_hoist : LE → R Out :=
    (seqS (setK 1 (ownK (lstE anil)))
    (seqS (forS (rng1E (acons (callE lenX (acons (var 0) anil)) anil)) (gN 2)
    (seqS (setK 3 (valK (bmE "str" sidxD (var 0) (acons (subE (var 0) (var 2)) anil))))
    (appS 1 (iteE (cmpT eqD (var 3) (var 2)) (subE (var 0) (var 2)) (subE (cst (.str [49, 50, 51])) (var 3))))))
    (seqS (setK 4 (valK (bmE "str" joinD (cst (.str [])) (acons (varP 1) anil))))
    (retS (iteE (cmpT eqD (callE lenX (acons (callE dictD (acons (lE (compF (itS (var 4)) (gN 5) yesT (tupE (acons (var 5) (acons (cst (.int 1)) anil))) [5])) anil)) anil)) (callE lenX (acons (var 4) anil))) (var 4) (cst (.str [104, 111, 105, 115, 116])))))))
def D_law_hoist : List D → R D := runF 1 6 F_law_hoist
theorem k_law_hoist (T : Txt w K mg base a) : FnD P w K mg base (gm K w a) 1 "_law_hoist" a.f_law_hoist 1 D_law_hoist := by
  exact fnD_E T.e_law_hoist sc_law_hoist T.g_law_hoist rfl rfl fun cdv A outer s H E hr =>
    (dss_cons (ds_set 1 (DF.k (df_lst da_nil)) (by decide) sc_law_hoist.nd)
    (dss_cons (ds_for owns_cxD rfl (di_rng1 rfl T.b_range (da_cons (de_callB (cd_lenX rfl) T.b_len rfl (dap_cons (DE.p (de_var 0)) dap_nil)) da_nil)) (dg_name 2 sc_law_hoist.nd)
    (dss_cons (ds_set 3 (DE.k (de_bm (bm_sindex) rfl (DE.p (de_var 0)) (dap_cons (DE.p (de_sub rfl rfl (huD hr) (DE.p (de_var 0)) (DE.p (de_var 2)) fun _ _ => rfl)) dap_nil))) (by decide) sc_law_hoist.nd)
    (dss_one (ds_append 1 (de_if (dt_cmp (op_eq_d rfl (huD64 hr)) (DE.p (de_var 3)) (DE.p (de_var 2))) (de_sub rfl rfl (huD hr) (DE.p (de_var 0)) (DE.p (de_var 2)) fun _ _ => rfl) (de_sub rfl rfl (huD hr) (DE.p (de_str [49, 50, 51])) (DE.p (de_var 3)) fun _ _ => rfl))))))
    (dss_cons (ds_set 4 (DE.k (de_bm (bm_join rfl) rfl (DE.p (de_str [])) (dap_cons (dp_var 1) dap_nil))) (by decide) sc_law_hoist.nd)
    (dss_one (ds_ret (de_if (dt_cmp (op_eq_d rfl (huD64 hr)) (DE.p (de_callB (cd_lenX rfl) T.b_len rfl (dap_cons (DE.p (de_callT (cd_dict rfl rfl) T.b_dict rfl (dap_cons (DE.p (DF.e (df_comp (own := [("sign", 5)]) rfl sc_law_hoist.nd (DI.e (di_str (de_var 4))) (blkOk_by (N := ["word", "found", "k", "first", "flags", "sign"]) (sc := defScope s_law_hoist) (by decide +kernel)) (fun _ _ _ _ _ => (dg_name 5 sc_law_hoist.nd)) (fun _ _ _ _ _ => dts_nil) (fun _ _ _ _ _ => (de_tup (da_cons (de_var 5) (da_cons de_int da_nil)))) (by decide)))) dap_nil))) dap_nil))) (DE.p (de_callB (cd_lenX rfl) T.b_len rfl (dap_cons (DE.p (de_var 4)) dap_nil)))) (de_var 4) (de_str [104, 111, 105, 115, 116])))))))
def F_check_letters : LE → R Out :=
    (ifS (orT (notT (chainT (cst (.int 1)) (callE lenX (acons (var 0) anil)) (cst d_MOST_FLAGS) leD leD)) (valT (anyE true (itS (var 0)) (gN 1) yesT (opE notInD (var 1) (cst (.str [97, 98, 99, 100, 101, 102, 103, 104, 105, 106, 107, 108, 109, 110, 111, 112, 113, 114, 115, 116, 117, 118, 119, 120, 121, 122]))) [1])))
    (errS ⟨2, .non⟩)
    skipS)
def D_check_letters : List D → R D := runF 1 2 F_check_letters
theorem k_check_letters (T : Txt w K mg base a) : FnD P w K mg base (gm K w a) 2 "check_letters" a.f_check_letters 1 D_check_letters := by
  obtain ⟨oc0, od0, kV0, doc0, pm0, an0, cdv0, ct0, osl0, lk0, cd0, kp0, bd0⟩ := T.l_told
  exact fnD_C T.e_check_letters sc_check_letters T.g_check_letters rfl rfl fun A outer s H E hr =>
    (dss_one (ds_if (dt_w (dw_or (dt_not (dt_chain (op_le_d) (op_le_d) (DE.p de_int) (DE.p (de_callB (cd_lenX rfl) T.b_len rfl (dap_cons (DE.p (de_var 0)) dap_nil))) (DE.p (de_gl T.v_MOST_FLAGS)))) (dw_or1 (dt_val (de_any (k := 0) (own := [("sign", 1)]) (hr.mono (by decide)) rfl T.b_any T.tb_check_letters rfl tm_check_letters (tu_check_letters T) sc_check_letters.nd (DI.e (di_str (de_var 0))) (blkOk_by (N := ["word", "sign"]) (sc := defScope s_check_letters) (by decide +kernel)) (genOk_by (by decide +kernel)) (fun _ _ _ _ _ _ _ hrg => (dg_name 1 sc_check_letters.nd)) (fun _ _ _ _ _ _ _ hrg => dts_nil) (fun _ _ _ _ _ _ _ hrg => (de_cmp (op_notin_d rfl (huD hrg)) (DE.p (de_var 1)) (DE.p (de_str [97, 98, 99, 100, 101, 102, 103, 104, 105, 106, 107, 108, 109, 110, 111, 112, 113, 114, 115, 116, 117, 118, 119, 120, 121, 122])))) (by decide))))))
    (dss_one (ds_raise 2 takes_cxD rfl PySem.F.excBase_ValueError rfl rfl T.x_BadHoist.1 T.x_BadHoist.2.1 T.x_BadHoist.2.2.1 (raises_own T.x_BadHoist.2.2.2.1 T.x_BadHoist.2.2.2.2)))
    dss_nil))
def F_hoisted : LE → R Out :=
    (seqS (dropS (callE D_check_letters (acons (var 0) anil)))
    (seqS (setK 1 (valK (cst (.str []))))
    (seqS (forS (enumTE 0 (acons (var 0) anil)) (gTup_ 2 (gCons_ (gN 2) (gCons_ (gN 3) gNil_)))
    (seqS (setK 4 (valK (bmE "str" sidxD (var 0) (acons (var 3) anil))))
    (ifS (cmpT eqD (var 4) (var 2))
    (setK 1 (valK (opE iaddD (var 1) (var 3))))
    (seqS (setK 5 (valK (subE (cst d_SUBSTITUTES) (var 4))))
    (seqS (ifS (cmpT inD (var 5) (var 1))
    (errS ⟨2, .non⟩)
    skipS)
    (setK 1 (valK (opE iaddD (var 1) (var 5)))))))))
    (retS (var 1)))))
def D_hoisted : List D → R D := runF 1 6 F_hoisted
theorem k_hoisted (T : Txt w K mg base a) : FnD P w K mg base (gm K w a) 3 "hoisted" a.f_hoisted 1 D_hoisted := by
  exact fnD_E T.e_hoisted sc_hoisted T.g_hoisted rfl rfl fun cdv A outer s H E hr =>
    (dss_cons (ds_expr (de_call (k_check_letters T) (hr.mono (by decide)) takes_cxD (da_cons (de_var 0) da_nil)))
    (dss_cons (ds_set 1 (DE.k (de_str [])) (by decide) sc_hoisted.nd)
    (dss_cons (ds_for owns_cxD rfl (di_enumT rfl T.b_enumerate (da_cons (de_var 0) da_nil)) (dg_tup rfl rfl (dgs_cons (dg_name 2 sc_hoisted.nd) (dgs_cons (dg_name 3 sc_hoisted.nd) dgs_nil)))
    (dss_cons (ds_set 4 (DE.k (de_bm (bm_sindex) rfl (DE.p (de_var 0)) (dap_cons (DE.p (de_var 3)) dap_nil))) (by decide) sc_hoisted.nd)
    (dss_one (ds_if (dt_cmp (op_eq_d rfl (huD64 hr)) (DE.p (de_var 4)) (DE.p (de_var 2)))
    (dss_one (ds_aug 1 oi_add sc_hoisted.nd (de_var 3)))
    (dss_cons (ds_set 5 (DE.k (de_sub rfl rfl (huD hr) (DE.p (de_gl T.v_SUBSTITUTES)) (DE.p (de_var 4)) fun _ _ => rfl)) (by decide) sc_hoisted.nd)
    (dss_cons (ds_if (dt_cmp (op_in_d rfl (huD hr)) (DE.p (de_var 5)) (DE.p (de_var 1)))
    (dss_one (ds_raise 2 takes_cxD rfl PySem.F.excBase_ValueError rfl rfl T.x_BadHoist.1 T.x_BadHoist.2.1 T.x_BadHoist.2.2.1 (raises_own T.x_BadHoist.2.2.2.1 T.x_BadHoist.2.2.2.2)))
    dss_nil)
    (dss_one (ds_aug 1 oi_add sc_hoisted.nd (de_var 5)))))))))
    (dss_one (ds_ret (de_var 1))))))
def F_can_be_hoisted : LE → R Out :=
    (seqS (dropS (callE D_check_letters (acons (var 0) anil)))
    (retS (anyE false (itS (var 0)) (gN 1) yesT (opE leD (bmE "str" countD (var 0) (acons (var 1) anil)) (cst (.int 2))) [1])))
def D_can_be_hoisted : List D → R D := runF 1 2 F_can_be_hoisted
theorem k_can_be_hoisted (T : Txt w K mg base a) : FnD P w K mg base (gm K w a) 3 "can_be_hoisted" a.f_can_be_hoisted 1 D_can_be_hoisted := by
  obtain ⟨oc0, od0, kV0, doc0, pm0, an0, cdv0, ct0, osl0, lk0, cd0, kp0, bd0⟩ := T.l_told
  exact fnD_C T.e_can_be_hoisted sc_can_be_hoisted T.g_can_be_hoisted rfl rfl fun A outer s H E hr =>
    (dss_cons (ds_expr (de_call (k_check_letters T) (hr.mono (by decide)) takes_cxD (da_cons (de_var 0) da_nil)))
    (dss_one (ds_ret (de_all (k := 0) (own := [("letter", 1)]) (hr.mono (by decide)) rfl T.b_all T.tb_can_be_hoisted rfl tm_can_be_hoisted (tu_can_be_hoisted T) sc_can_be_hoisted.nd (DI.e (di_str (de_var 0))) (blkOk_by (N := ["word", "letter"]) (sc := defScope s_can_be_hoisted) (by decide +kernel)) (genOk_by (by decide +kernel)) (fun _ _ _ _ _ _ _ hrg => (dg_name 1 sc_can_be_hoisted.nd)) (fun _ _ _ _ _ _ _ hrg => dts_nil) (fun _ _ _ _ _ _ _ hrg => (de_cmp (op_le_d) (DE.p (de_bm (bm_count) rfl (DE.p (de_var 0)) (dap_cons (DE.p (de_var 1)) dap_nil))) (DE.p de_int))) (by decide)))))
def F_read_hoist : LE → R Out :=
    (seqS (ifS (notT (chainT (cst (.int 1)) (callE lenX (acons (var 0) anil)) (cst d_MOST_FLAGS) leD leD))
    (errS ⟨2, .non⟩)
    skipS)
    (seqS (setK 1 (valK (cst (.str []))))
    (seqS (forS (enumTE 0 (acons (var 0) anil)) (gTup_ 2 (gCons_ (gN 2) (gCons_ (gN 3) gNil_)))
    (seqS (ifS (cmpT inD (var 3) (sliceE (var 0) noP (someP (var 2))))
    (errS ⟨2, .non⟩)
    skipS)
    (ifS (cmpT inD (var 3) (cst d_SUBSTITUTES))
    (seqS (setK 4 (valK (bmE "str" sidxD (cst d_SUBSTITUTES) (acons (var 3) anil))))
    (seqS (ifS (cmpT geD (var 4) (var 2))
    (errS ⟨2, .non⟩)
    skipS)
    (setK 1 (valK (opE iaddD (var 1) (subE (var 1) (var 4)))))))
    (seqS (dropS (callE D_check_letters (acons (var 3) anil)))
    (setK 1 (valK (opE iaddD (var 1) (var 3))))))))
    (retS (var 1)))))
def D_read_hoist : List D → R D := runF 1 5 F_read_hoist
theorem k_read_hoist (T : Txt w K mg base a) : FnD P w K mg base (gm K w a) 3 "read_hoist" a.f_read_hoist 1 D_read_hoist := by
  exact fnD_E T.e_read_hoist sc_read_hoist T.g_read_hoist rfl rfl fun cdv A outer s H E hr =>
    (dss_cons (ds_if (dt_not (dt_chain (op_le_d) (op_le_d) (DE.p de_int) (DE.p (de_callB (cd_lenX rfl) T.b_len rfl (dap_cons (DE.p (de_var 0)) dap_nil))) (DE.p (de_gl T.v_MOST_FLAGS))))
    (dss_one (ds_raise 2 takes_cxD rfl PySem.F.excBase_ValueError rfl rfl T.x_BadHoist.1 T.x_BadHoist.2.1 T.x_BadHoist.2.2.1 (raises_own T.x_BadHoist.2.2.2.1 T.x_BadHoist.2.2.2.2)))
    dss_nil)
    (dss_cons (ds_set 1 (DE.k (de_str [])) (by decide) sc_read_hoist.nd)
    (dss_cons (ds_for owns_cxD rfl (di_enumT rfl T.b_enumerate (da_cons (de_var 0) da_nil)) (dg_tup rfl rfl (dgs_cons (dg_name 2 sc_read_hoist.nd) (dgs_cons (dg_name 3 sc_read_hoist.nd) dgs_nil)))
    (dss_cons (ds_if (dt_cmp (op_in_d rfl (huD hr)) (DE.p (de_var 3)) (DE.p (de_slice rfl (DE.p (de_var 0)) do_none (do_some (DE.p (de_var 2))))))
    (dss_one (ds_raise 2 takes_cxD rfl PySem.F.excBase_ValueError rfl rfl T.x_BadHoist.1 T.x_BadHoist.2.1 T.x_BadHoist.2.2.1 (raises_own T.x_BadHoist.2.2.2.1 T.x_BadHoist.2.2.2.2)))
    dss_nil)
    (dss_one (ds_if (dt_cmp (op_in_d rfl (huD hr)) (DE.p (de_var 3)) (DE.p (de_gl T.v_SUBSTITUTES)))
    (dss_cons (ds_set 4 (DE.k (de_bm (bm_sindex) rfl (DE.p (de_gl T.v_SUBSTITUTES)) (dap_cons (DE.p (de_var 3)) dap_nil))) (by decide) sc_read_hoist.nd)
    (dss_cons (ds_if (dt_cmp (op_ge_d) (DE.p (de_var 4)) (DE.p (de_var 2)))
    (dss_one (ds_raise 2 takes_cxD rfl PySem.F.excBase_ValueError rfl rfl T.x_BadHoist.1 T.x_BadHoist.2.1 T.x_BadHoist.2.2.1 (raises_own T.x_BadHoist.2.2.2.1 T.x_BadHoist.2.2.2.2)))
    dss_nil)
    (dss_one (ds_aug 1 oi_add sc_read_hoist.nd (de_sub rfl rfl (huD hr) (DE.p (de_var 1)) (DE.p (de_var 4)) fun _ _ => rfl)))))
    (dss_cons (ds_expr (de_call (k_check_letters T) (hr.mono (by decide)) takes_cxD (da_cons (de_var 3) da_nil)))
    (dss_one (ds_aug 1 oi_add sc_read_hoist.nd (de_var 3))))))))
    (dss_one (ds_ret (de_var 1))))))
def F_is_usual : LE → R Out :=
    (tryS (toldL.map (·.1))
    (retS (opE eqD (callE D_hoisted (acons (callE D_read_hoist (acons (var 0) anil)) anil)) (var 0))) [(2, (retS (cst (.bl false))))])
def D_is_usual : List D → R D := runF 1 1 F_is_usual
theorem k_is_usual (T : Txt w K mg base a) : FnD P w K mg base (gm K w a) 4 "is_usual" a.f_is_usual 1 D_is_usual := by
  exact fnD_E T.e_is_usual sc_is_usual T.g_is_usual rfl rfl fun cdv A outer s H E hr =>
    (dss_one (ds_try (toldL.map (·.1)) (l := [(2, (retS (cst (.bl false))))]) T.exm (by decide) rfl rfl takes_cxD (fun _ _ _ tk1 ow1 => (dss_one (ds_ret (de_cmp (op_eq_d rfl (huD64 hr)) (DE.p (de_call (k_hoisted T) (hr.mono (by decide)) tk1 (da_cons (de_call (k_read_hoist T) (hr.mono (by decide)) tk1 (da_cons (de_var 0) da_nil)) da_nil))) (DE.p (de_var 0)))))) (hds_cons (G := gm K w a) (i := 2) rfl T.x_BadHoist.2.1 (fun _ _ => (dss_one (ds_ret de_bl))) hds_nil)))
def F_law_read : LE → R Out :=
    (seqS (setK 1 (valK (cst (.str []))))
    (seqS (forS (rng1E (acons (callE lenX (acons (var 0) anil)) anil)) (gN 2)
    (seqS (ifS (cmpT inD (subE (var 0) (var 2)) (sliceE (var 0) noP (someP (var 2))))
    (retS (cst (.str [104, 111, 105, 115, 116])))
    skipS)
    (ifS (cmpT inD (subE (var 0) (var 2)) (cst (.str [49, 50, 51])))
    (seqS (ifS (cmpT gtD (callE intX (acons (subE (var 0) (var 2)) anil)) (var 2))
    (retS (cst (.str [104, 111, 105, 115, 116])))
    skipS)
    (setK 1 (valK (opE addD (var 1) (subE (var 1) (opE subD (callE intX (acons (subE (var 0) (var 2)) anil)) (cst (.int 1))))))))
    (setK 1 (valK (opE addD (var 1) (subE (var 0) (var 2))))))))
    (retS (var 1))))
def D_law_read : List D → R D := runF 1 3 F_law_read
theorem k_law_read (T : Txt w K mg base a) : FnD P w K mg base (gm K w a) 1 "_law_read" a.f_law_read 1 D_law_read := by
  exact fnD_E T.e_law_read sc_law_read T.g_law_read rfl rfl fun cdv A outer s H E hr =>
    (dss_cons (ds_set 1 (DE.k (de_str [])) (by decide) sc_law_read.nd)
    (dss_cons (ds_for owns_cxD rfl (di_rng1 rfl T.b_range (da_cons (de_callB (cd_lenX rfl) T.b_len rfl (dap_cons (DE.p (de_var 0)) dap_nil)) da_nil)) (dg_name 2 sc_law_read.nd)
    (dss_cons (ds_if (dt_cmp (op_in_d rfl (huD hr)) (DE.p (de_sub rfl rfl (huD hr) (DE.p (de_var 0)) (DE.p (de_var 2)) fun _ _ => rfl)) (DE.p (de_slice rfl (DE.p (de_var 0)) do_none (do_some (DE.p (de_var 2))))))
    (dss_one (ds_ret (de_str [104, 111, 105, 115, 116])))
    dss_nil)
    (dss_one (ds_if (dt_cmp (op_in_d rfl (huD hr)) (DE.p (de_sub rfl rfl (huD hr) (DE.p (de_var 0)) (DE.p (de_var 2)) fun _ _ => rfl)) (DE.p (de_str [49, 50, 51])))
    (dss_cons (ds_if (dt_cmp (op_gt_d) (DE.p (de_callT (cd_intX) T.b_int rfl (dap_cons (DE.p (de_sub rfl rfl (huD hr) (DE.p (de_var 0)) (DE.p (de_var 2)) fun _ _ => rfl)) dap_nil))) (DE.p (de_var 2)))
    (dss_one (ds_ret (de_str [104, 111, 105, 115, 116])))
    dss_nil)
    (dss_one (ds_set 1 (DE.k (de_op (op_add_d rfl) (DE.p (de_var 1)) (DE.p (de_sub rfl rfl (huD hr) (DE.p (de_var 1)) (DE.p (de_op (op_sub_d) (DE.p (de_callT (cd_intX) T.b_int rfl (dap_cons (DE.p (de_sub rfl rfl (huD hr) (DE.p (de_var 0)) (DE.p (de_var 2)) fun _ _ => rfl)) dap_nil))) (DE.p de_int))) fun _ _ => rfl)))) (by decide) sc_law_read.nd)))
    (dss_one (ds_set 1 (DE.k (de_op (op_add_d rfl) (DE.p (de_var 1)) (DE.p (de_sub rfl rfl (huD hr) (DE.p (de_var 0)) (DE.p (de_var 2)) fun _ _ => rfl)))) (by decide) sc_law_read.nd))))))
    (dss_one (ds_ret (de_var 1)))))
def F_upside_read : LE → R Out :=
    (tryS (toldL.map (·.1))
    (retS (callE D_read_hoist (acons (bmE "str" joinD (cst (.str [])) (acons (lE (revE (var 0))) anil)) anil))) [(2, (retS (cst .non)))])
def D_upside_read : List D → R D := runF 1 1 F_upside_read
theorem k_upside_read (T : Txt w K mg base a) : FnD P w K mg base (gm K w a) 4 "upside_read" a.f_upside_read 1 D_upside_read := by
  exact fnD_E T.e_upside_read sc_upside_read T.g_upside_read rfl rfl fun cdv A outer s H E hr =>
    (dss_one (ds_try (toldL.map (·.1)) (l := [(2, (retS (cst .non)))]) T.exm (by decide) rfl rfl takes_cxD (fun _ _ _ tk1 ow1 => (dss_one (ds_ret (de_call (k_read_hoist T) (hr.mono (by decide)) tk1 (da_cons (de_bm (bm_join rfl) rfl (DE.p (de_str [])) (dap_cons (DE.p (DF.e (df_listRevS rfl rfl T.b_list rfl T.b_reversed (de_var 0)))) dap_nil)) da_nil))))) (hds_cons (G := gm K w a) (i := 2) rfl T.x_BadHoist.2.1 (fun _ _ => (dss_one (ds_ret de_non))) hds_nil)))
def F_law_flat : LE → R Out :=
    (seqS (setK 1 (valK (lE (lstE anil))))
    (seqS (forS (itL (var 0)) (gN 2)
    (setK 1 (valK (opE addD (var 1) (var 2)))))
    (retS (var 1))))
def D_law_flat : List D → R D := runF 1 3 F_law_flat
theorem k_law_flat (T : Txt w K mg base a) : FnD P w K mg base (gm K w a) 1 "_law_flat" a.f_law_flat 1 D_law_flat := by
  exact fnD_E T.e_law_flat sc_law_flat T.g_law_flat rfl rfl fun cdv A outer s H E hr =>
    (dss_cons (ds_set 1 (DE.k (DF.e (df_lst da_nil))) (by decide) sc_law_flat.nd)
    (dss_cons (ds_for owns_cxD rfl (di_list rfl (de_var 0)) (dg_name 2 sc_law_flat.nd)
    (dss_one (ds_set 1 (DE.k (de_op (op_add_d rfl) (DE.p (de_var 1)) (DE.p (de_var 2)))) (by decide) sc_law_flat.nd)))
    (dss_one (ds_ret (de_var 1)))))
def F_how_many_words : LE → R Out :=
    (seqS (ifS (orT (notT (chainT (cst (.int 0)) (var 0) (cst (.int 26)) leD leD)) (notT (chainT (cst (.int 1)) (var 1) (cst d_MOST_FLAGS) leD leD)))
    (errS ⟨2, .non⟩)
    skipS)
    (seqS (setK 2 (ownK (lstE (acons (cst (.int 1)) anil))))
    (seqS (forS (rng1E (acons (var 1) anil)) (gN 3)
    (appS 2 (opE mulD (subE (varP 2) (negE (cst (.int 1)))) (callE maxL (acons (cst (.int 0)) (acons (opE subD (var 0) (var 3)) anil))))))
    (seqS (setK 4 (valK (dispE [((cst (.int 1)), (tupE (acons (tupE (acons (cst (.int 1)) (acons (cst (.int 1)) anil))) anil))), ((cst (.int 2)), (tupE (acons (tupE (acons (cst (.int 2)) (acons (cst (.int 1)) anil))) (acons (tupE (acons (cst (.int 1)) (acons (cst (.int 1)) anil))) anil)))), ((cst (.int 3)), (tupE (acons (tupE (acons (cst (.int 3)) (acons (cst (.int 1)) anil))) (acons (tupE (acons (cst (.int 2)) (acons (cst (.int 3)) anil))) anil)))), ((cst (.int 4)), (tupE (acons (tupE (acons (cst (.int 4)) (acons (cst (.int 1)) anil))) (acons (tupE (acons (cst (.int 3)) (acons (cst (.int 6)) anil))) (acons (tupE (acons (cst (.int 2)) (acons (cst (.int 3)) anil))) anil)))))])))
    (retS (sumE (itT (subE (var 4) (var 1))) (gTup_ 2 (gCons_ (gN 5) (gCons_ (gN 6) gNil_))) yesT (opE mulD (subE (varP 2) (var 5)) (var 6)) [5, 6]))))))
def D_how_many_words : List D → R D := runF 2 7 F_how_many_words
theorem k_how_many_words (T : Txt w K mg base a) : FnD P w K mg base (gm K w a) 2 "how_many_words" a.f_how_many_words 2 D_how_many_words := by
  obtain ⟨oc0, od0, kV0, doc0, pm0, an0, cdv0, ct0, osl0, lk0, cd0, kp0, bd0⟩ := T.l_told
  exact fnD_C T.e_how_many_words sc_how_many_words T.g_how_many_words rfl rfl fun A outer s H E hr =>
    (dss_cons (ds_if (dt_w (dw_or (dt_not (dt_chain (op_le_d) (op_le_d) (DE.p de_int) (DE.p (de_var 0)) (DE.p de_int))) (dw_or1 (dt_not (dt_chain (op_le_d) (op_le_d) (DE.p de_int) (DE.p (de_var 1)) (DE.p (de_gl T.v_MOST_FLAGS)))))))
    (dss_one (ds_raise 2 takes_cxD rfl PySem.F.excBase_ValueError rfl rfl T.x_BadHoist.1 T.x_BadHoist.2.1 T.x_BadHoist.2.2.1 (raises_own T.x_BadHoist.2.2.2.1 T.x_BadHoist.2.2.2.2)))
    dss_nil)
    (dss_cons (ds_set 2 (DF.k (df_lst (da_cons de_int da_nil))) (by decide) sc_how_many_words.nd)
    (dss_cons (ds_for owns_cxD rfl (di_rng1 rfl T.b_range (da_cons (de_var 1) da_nil)) (dg_name 3 sc_how_many_words.nd)
    (dss_one (ds_append 2 (de_op (op_mul_d) (DE.p (de_sub rfl rfl (huD hr) (dp_var 2) (DE.p (de_neg (DE.p de_int))) fun _ _ => rfl)) (DE.p (de_callB (cd_max rfl rfl (huD hr)) T.b_max rfl (dap_cons (DE.p de_int) (dap_cons (DE.p (de_op (op_sub_d) (DE.p (de_var 0)) (DE.p (de_var 3)))) dap_nil))))))))
    (dss_cons (ds_set 4 (DE.k (de_disp (.cons de_int (de_tup (da_cons (de_tup (da_cons de_int (da_cons de_int da_nil))) da_nil)) (.cons de_int (de_tup (da_cons (de_tup (da_cons de_int (da_cons de_int da_nil))) (da_cons (de_tup (da_cons de_int (da_cons de_int da_nil))) da_nil))) (.cons de_int (de_tup (da_cons (de_tup (da_cons de_int (da_cons de_int da_nil))) (da_cons (de_tup (da_cons de_int (da_cons de_int da_nil))) da_nil))) (.cons de_int (de_tup (da_cons (de_tup (da_cons de_int (da_cons de_int da_nil))) (da_cons (de_tup (da_cons de_int (da_cons de_int da_nil))) (da_cons (de_tup (da_cons de_int (da_cons de_int da_nil))) da_nil)))) .nil)))))) (by decide) sc_how_many_words.nd)
    (dss_one (ds_ret (de_sum (k := 0) (own := [("unlike", 5), ("ways", 6)]) (hr.mono (by decide)) rfl T.b_sum T.tb_how_many_words rfl tm_how_many_words (tu_how_many_words T) sc_how_many_words.nd (DI.e (di_tup rfl (de_sub rfl rfl (huD hr) (DE.p (de_var 4)) (DE.p (de_var 1)) fun _ _ => rfl))) (blkOk_by (N := ["letters", "size", "falls", "k", "shapes", "unlike", "ways"]) (sc := defScope s_how_many_words) (by decide +kernel)) (genOk_by (by decide +kernel)) (fun _ _ _ _ _ _ _ hrg => (dg_tup rfl rfl (dgs_cons (dg_name 5 sc_how_many_words.nd) (dgs_cons (dg_name 6 sc_how_many_words.nd) dgs_nil)))) (fun _ _ _ _ _ _ _ hrg => dts_nil) (fun _ _ _ _ _ _ _ hrg => (de_op (op_mul_d) (DE.p (de_sub rfl rfl (huD hrg) (dp_var 2) (DE.p (de_var 5)) fun _ _ => rfl)) (DE.p (de_var 6)))) (by decide))))))))
def F_all_words : LE → R Out :=
    (seqS (setK 2 (valK (cst (.int 1))))
    (seqS (forS (rng1E (acons (var 1) anil)) (gN 3)
    (setK 2 (valK (opE mulD (var 2) (var 0)))))
    (seqS (ifS (cmpT gtD (var 2) (cst (.int 700)))
    (errS ⟨8, .non⟩)
    skipS)
    (seqS (setK 4 (ownK (lstE (acons (cst (.str [])) anil))))
    (seqS (forS (rng1E (acons (var 1) anil)) (gN 3)
    (setK 4 (ownK (compF2 (itL (varP 4)) (gN 5) yesT (itS (sliceE (cst (.str [97, 98, 99, 100, 101, 102, 103, 104, 105, 106, 107, 108, 109, 110, 111, 112, 113, 114, 115, 116, 117, 118, 119, 120, 121, 122])) noP (someP (var 0)))) (gN 6) yesT (opE addD (var 5) (var 6)) [5, 6] [6]))))
    (retS (callE tupleD (acons (lE (compF (itL (varP 4)) (gN 5) (valT (callE D_can_be_hoisted (acons (var 5) anil))) (var 5) [5])) anil))))))))
def D_all_words : List D → R D := runF 2 7 F_all_words
theorem k_all_words (T : Txt w K mg base a) : FnD P w K mg base (gm K w a) 4 "all_words" a.f_all_words 2 D_all_words := by
  exact fnD_E T.e_all_words sc_all_words T.g_all_words rfl rfl fun cdv A outer s H E hr =>
    (dss_cons (ds_set 2 (DE.k de_int) (by decide) sc_all_words.nd)
    (dss_cons (ds_for owns_cxD rfl (di_rng1 rfl T.b_range (da_cons (de_var 1) da_nil)) (dg_name 3 sc_all_words.nd)
    (dss_one (ds_aug 2 oi_mul sc_all_words.nd (de_var 0))))
    (dss_cons (ds_if (dt_cmp (op_gt_d) (DE.p (de_var 2)) (DE.p de_int))
    (dss_one (ds_raise 8 takes_cxD rfl PySem.F.excBase_ValueError rfl rfl T.x_TooLarge.1 T.x_TooLarge.2.1 T.x_TooLarge.2.2.1 (raises_own T.x_TooLarge.2.2.2.1 T.x_TooLarge.2.2.2.2)))
    dss_nil)
    (dss_cons (ds_set 4 (DF.k (df_lst (da_cons (de_str []) da_nil))) (by decide) sc_all_words.nd)
    (dss_cons (ds_for owns_cxD rfl (di_rng1 rfl T.b_range (da_cons (de_var 1) da_nil)) (dg_name 3 sc_all_words.nd)
    (dss_one (ds_setcomp2 4 (vs1 := [6]) (own := [("word", 5), ("sign", 6)]) rfl sc_all_words.nd (die_list rfl (dp_var 4)) (blkOk_by (N := ["letters", "size", "whole", "k", "words", "word", "sign"]) (sc := defScope s_all_words) (by decide +kernel)) (by decide) (fun _ _ _ _ _ => (dg_name 5 sc_all_words.nd)) (fun _ _ _ _ _ => dts_nil) (fun _ _ _ _ _ => (di_str (de_slice rfl (DE.p (de_str [97, 98, 99, 100, 101, 102, 103, 104, 105, 106, 107, 108, 109, 110, 111, 112, 113, 114, 115, 116, 117, 118, 119, 120, 121, 122])) do_none (do_some (DE.p (de_var 0)))))) (fun _ _ _ _ _ => (dg_name 6 sc_all_words.nd)) (fun _ _ _ _ _ => dts_nil) (fun _ _ _ _ _ => (de_op (op_add_d rfl) (DE.p (de_var 5)) (DE.p (de_var 6)))) (by decide) (by decide) (by decide) (sw_true rfl rfl rfl (by decide +kernel)))))
    (dss_one (ds_ret (de_callT (cd_tuple rfl) T.b_tuple rfl (dap_cons (DE.p (DF.e (df_comp (own := [("word", 5)]) rfl sc_all_words.nd (die_list rfl (dp_var 4)) (blkOk_by (N := ["letters", "size", "whole", "k", "words", "word", "sign"]) (sc := defScope s_all_words) (by decide +kernel)) (fun _ _ _ _ _ => (dg_name 5 sc_all_words.nd)) (fun _ _ _ _ _ => (dts_one (dt_val (de_call (k_can_be_hoisted T) (hr.mono (by decide)) takes0D (da_cons (de_var 5) da_nil))))) (fun _ _ _ _ _ => (de_var 5)) (by decide)))) dap_nil)))))))))
def F_in_parts : LE → R Out :=
    (seqS (setK 1 (ownK (lstE anil)))
    (seqS (whileS 100 (cmpT neD (var 0) (cst (.str [])))
    (seqS (setK 2 (valK (callE minL (acons (cst d_MOST_FLAGS) (acons (callE lenX (acons (var 0) anil)) anil)))))
    (seqS (whileS 100 (notT (valT (callE D_can_be_hoisted (acons (sliceE (var 0) noP (someP (var 2))) anil))))
    (setK 2 (valK (opE subD (var 2) (cst (.int 1))))))
    (seqS (appS 1 (sliceE (var 0) noP (someP (var 2))))
    (setK 0 (valK (sliceE (var 0) (someP (var 2)) noP)))))))
    (retS (callE tupleD (acons (varP 1) anil)))))
def D_in_parts : List D → R D := runF 1 3 F_in_parts
theorem k_in_parts (T : Txt w K mg base a) : FnD P w K mg base (gm K w a) 4 "in_parts" a.f_in_parts 1 D_in_parts := by
  exact fnD_E T.e_in_parts sc_in_parts T.g_in_parts rfl rfl fun cdv A outer s H E hr =>
    (dss_cons (ds_set 1 (DF.k (df_lst da_nil)) (by decide) sc_in_parts.nd)
    (dss_cons (ds_while 100 owns_cxD (dt_cmp (op_ne_d rfl (huD64 hr)) (DE.p (de_var 0)) (DE.p (de_str [])))
    (dss_cons (ds_set 2 (DE.k (de_callB (cd_min rfl rfl (huD hr)) T.b_min rfl (dap_cons (DE.p (de_gl T.v_MOST_FLAGS)) (dap_cons (DE.p (de_callB (cd_lenX rfl) T.b_len rfl (dap_cons (DE.p (de_var 0)) dap_nil))) dap_nil)))) (by decide) sc_in_parts.nd)
    (dss_cons (ds_while 100 owns_cxD (dt_not (dt_val (de_call (k_can_be_hoisted T) (hr.mono (by decide)) takes_cxD (da_cons (de_slice rfl (DE.p (de_var 0)) do_none (do_some (DE.p (de_var 2)))) da_nil))))
    (dss_one (ds_aug 2 oi_sub sc_in_parts.nd de_int)))
    (dss_cons (ds_append 1 (de_slice rfl (DE.p (de_var 0)) do_none (do_some (DE.p (de_var 2)))))
    (dss_one (ds_set 0 (DE.k (de_slice rfl (DE.p (de_var 0)) (do_some (DE.p (de_var 2))) do_none)) (by decide) sc_in_parts.nd))))))
    (dss_one (ds_ret (de_callT (cd_tuple rfl) T.b_tuple rfl (dap_cons (dp_var 1) dap_nil))))))
def F_flags_needed : LE → R Out :=
    (seqS (setK 1 nodic)
    (seqS (forS (itT (var 0)) (gN 2)
    (forS (itS (callE D_hoisted (acons (var 2) anil))) (gN 3)
    (stodS 1 (cst (.bl true)) (var 3))))
    (frzS 1 (retS (bmE "str" joinD (cst (.str [])) (acons (opE addD (lE (callF sortedL (acons (lE (compF (itKV 1) (gN 3) (cmpT notInD (var 3) (cst d_SUBSTITUTES)) (var 3) [3])) anil))) (lE (callF sortedL (acons (lE (compF (itKV 1) (gN 3) (cmpT inD (var 3) (cst d_SUBSTITUTES)) (var 3) [3])) anil)))) anil))))))
def D_flags_needed : List D → R D := runF 1 4 F_flags_needed
theorem k_flags_needed (T : Txt w K mg base a) : FnD P w K mg base (gm K w a) 4 "flags_needed" a.f_flags_needed 1 D_flags_needed := by
  exact fnD_E T.e_flags_needed sc_flags_needed T.g_flags_needed rfl rfl fun cdv A outer s H E hr =>
    (dss_cons (ds_set 1 dk_nodic (by decide) sc_flags_needed.nd)
    (dss_cons (ds_for owns_cxD rfl (di_tup rfl (de_var 0)) (dg_name 2 sc_flags_needed.nd)
    (dss_one (ds_for owns_cxD rfl (di_str (de_call (k_hoisted T) (hr.mono (by decide)) takes_cxD (da_cons (de_var 2) da_nil))) (dg_name 3 sc_flags_needed.nd)
    (dss_one (ds_stored 1 (hu1 hr) de_bl (de_var 3))))))
    (dss_one (DS.frz_ 1 (ds_ret (de_bm (bm_join rfl) rfl (DE.p (de_str [])) (dap_cons (DE.p (de_op (op_add_d rfl) (DE.p (DF.e (df_callB (cf_sorted rfl rfl) T.b_sorted rfl (dap_cons (DE.p (DF.e (df_compK 1 (own := [("sign", 3)]) rfl sc_flags_needed.nd rfl (by first | exact Or.inl rfl | exact Or.inr (Or.inl rfl) | exact Or.inr (Or.inr rfl)) (blkOk_by (N := ["words", "found", "word", "sign"]) (sc := defScope s_flags_needed) (by decide +kernel)) (fun _ _ _ _ _ => (dg_name 3 sc_flags_needed.nd)) (fun _ _ _ _ _ => (dts_one (dt_cmp (op_notin_d rfl (huD hr)) (DE.p (de_var 3)) (DE.p (de_gl T.v_SUBSTITUTES))))) (fun _ _ _ _ _ => (de_var 3)) (by decide)))) dap_nil)))) (DE.p (DF.e (df_callB (cf_sorted rfl rfl) T.b_sorted rfl (dap_cons (DE.p (DF.e (df_compK 1 (own := [("sign", 3)]) rfl sc_flags_needed.nd rfl (by first | exact Or.inl rfl | exact Or.inr (Or.inl rfl) | exact Or.inr (Or.inr rfl)) (blkOk_by (N := ["words", "found", "word", "sign"]) (sc := defScope s_flags_needed) (by decide +kernel)) (fun _ _ _ _ _ => (dg_name 3 sc_flags_needed.nd)) (fun _ _ _ _ _ => (dts_one (dt_cmp (op_in_d rfl (huD hr)) (DE.p (de_var 3)) (DE.p (de_gl T.v_SUBSTITUTES))))) (fun _ _ _ _ _ => (de_var 3)) (by decide)))) dap_nil)))))) dap_nil)))))))
def F_law_cases1 : LE → R Out :=
    (seqS (ifS (cmpT neD (toldE toldL (callE D_hoisted (acons (cst (.str [])) anil))) (cst (.str [104, 111, 105, 115, 116])))
    (retS (cst (.bl false)))
    skipS)
    (seqS (ifS (cmpT neD (toldE toldL (callE D_hoisted (acons (cst (.str [97, 98, 99, 100, 101])) anil))) (cst (.str [104, 111, 105, 115, 116])))
    (retS (cst (.bl false)))
    skipS)
    (seqS (ifS (cmpT neD (toldE toldL (callE D_hoisted (acons (cst (.str [65])) anil))) (cst (.str [104, 111, 105, 115, 116])))
    (retS (cst (.bl false)))
    skipS)
    (seqS (ifS (cmpT neD (toldE toldL (callE D_read_hoist (acons (cst (.str [])) anil))) (cst (.str [104, 111, 105, 115, 116])))
    (retS (cst (.bl false)))
    skipS)
    (seqS (ifS (cmpT neD (toldE toldL (callE D_all_words (acons (cst (.int 9)) (acons (cst (.int 4)) anil)))) (cst (.str [108, 97, 114, 103, 101])))
    (retS (cst (.bl false)))
    skipS)
    (seqS (ifS (cmpT neD (toldE toldL (callE D_how_many_words (acons (cst (.int 27)) (acons (cst (.int 1)) anil)))) (cst (.str [104, 111, 105, 115, 116])))
    (retS (cst (.bl false)))
    skipS)
    (retS (cst (.bl true)))))))))
def D_law_cases1 : List D → R D := runF 0 0 F_law_cases1
theorem k_law_cases1 (T : Txt w K mg base a) : FnD P w K mg base (gm K w a) 7 "_law_cases1" a.f_law_cases1 0 D_law_cases1 := by
  obtain ⟨oc0, od0, kV0, doc0, pm0, an0, cdv0, ct0, osl0, lk0, cd0, kp0, bd0⟩ := T.l_told
  exact fnD_C T.e_law_cases1 sc_law_cases1 T.g_law_cases1 rfl rfl fun A outer s H E hr =>
    (dss_cons (ds_if (dt_cmp (op_ne_d rfl (huD64 hr)) (DE.p (de_told (k := 3) (l := toldL) T.g_law_told kp0 lk0 cd0 bd0 sc_law_told rfl (Or.inl rfl) (gives_told T rfl rfl) T.exm T.tb_law_cases1 rfl tm_law_cases1 (tu_law_cases1 T) (hr.mono (by decide)) (lamS_by (sc := defScope s_law_cases1) (by decide +kernel)) (fun _ _ _ _ _ _ _ hr' => (de_call (k_hoisted T) (hr'.mono (by decide)) takes_lam (da_cons (de_str []) da_nil))))) (DE.p (de_str [104, 111, 105, 115, 116])))
    (dss_one (ds_ret de_bl))
    dss_nil)
    (dss_cons (ds_if (dt_cmp (op_ne_d rfl (huD64 hr)) (DE.p (de_told (k := 3) (l := toldL) T.g_law_told kp0 lk0 cd0 bd0 sc_law_told rfl (Or.inl rfl) (gives_told T rfl rfl) T.exm T.tb_law_cases1 rfl tm_law_cases1 (tu_law_cases1 T) (hr.mono (by decide)) (lamS_by (sc := defScope s_law_cases1) (by decide +kernel)) (fun _ _ _ _ _ _ _ hr' => (de_call (k_hoisted T) (hr'.mono (by decide)) takes_lam (da_cons (de_str [97, 98, 99, 100, 101]) da_nil))))) (DE.p (de_str [104, 111, 105, 115, 116])))
    (dss_one (ds_ret de_bl))
    dss_nil)
    (dss_cons (ds_if (dt_cmp (op_ne_d rfl (huD64 hr)) (DE.p (de_told (k := 3) (l := toldL) T.g_law_told kp0 lk0 cd0 bd0 sc_law_told rfl (Or.inl rfl) (gives_told T rfl rfl) T.exm T.tb_law_cases1 rfl tm_law_cases1 (tu_law_cases1 T) (hr.mono (by decide)) (lamS_by (sc := defScope s_law_cases1) (by decide +kernel)) (fun _ _ _ _ _ _ _ hr' => (de_call (k_hoisted T) (hr'.mono (by decide)) takes_lam (da_cons (de_str [65]) da_nil))))) (DE.p (de_str [104, 111, 105, 115, 116])))
    (dss_one (ds_ret de_bl))
    dss_nil)
    (dss_cons (ds_if (dt_cmp (op_ne_d rfl (huD64 hr)) (DE.p (de_told (k := 3) (l := toldL) T.g_law_told kp0 lk0 cd0 bd0 sc_law_told rfl (Or.inl rfl) (gives_told T rfl rfl) T.exm T.tb_law_cases1 rfl tm_law_cases1 (tu_law_cases1 T) (hr.mono (by decide)) (lamS_by (sc := defScope s_law_cases1) (by decide +kernel)) (fun _ _ _ _ _ _ _ hr' => (de_call (k_read_hoist T) (hr'.mono (by decide)) takes_lam (da_cons (de_str []) da_nil))))) (DE.p (de_str [104, 111, 105, 115, 116])))
    (dss_one (ds_ret de_bl))
    dss_nil)
    (dss_cons (ds_if (dt_cmp (op_ne_d rfl (huD64 hr)) (DE.p (de_told (k := 4) (l := toldL) T.g_law_told kp0 lk0 cd0 bd0 sc_law_told rfl (Or.inl rfl) (gives_told T rfl rfl) T.exm T.tb_law_cases1 rfl tm_law_cases1 (tu_law_cases1 T) (hr.mono (by decide)) (lamS_by (sc := defScope s_law_cases1) (by decide +kernel)) (fun _ _ _ _ _ _ _ hr' => (de_call (k_all_words T) (hr'.mono (by decide)) takes_lam (da_cons de_int (da_cons de_int da_nil)))))) (DE.p (de_str [108, 97, 114, 103, 101])))
    (dss_one (ds_ret de_bl))
    dss_nil)
    (dss_cons (ds_if (dt_cmp (op_ne_d rfl (huD64 hr)) (DE.p (de_told (k := 2) (l := toldL) T.g_law_told kp0 lk0 cd0 bd0 sc_law_told rfl (Or.inl rfl) (gives_told T rfl rfl) T.exm T.tb_law_cases1 rfl tm_law_cases1 (tu_law_cases1 T) (hr.mono (by decide)) (lamS_by (sc := defScope s_law_cases1) (by decide +kernel)) (fun _ _ _ _ _ _ _ hr' => (de_call (k_how_many_words T) (hr'.mono (by decide)) takes_lam (da_cons de_int (da_cons de_int da_nil)))))) (DE.p (de_str [104, 111, 105, 115, 116])))
    (dss_one (ds_ret de_bl))
    dss_nil)
    (dss_one (ds_ret de_bl))))))))
def F_law : LE → R Out :=
    (seqS (setK 2 (valK (bmE "str" joinD (cst (.str [])) (acons (lE (compF (rng1E (acons (opE addD (cst (.int 1)) (callE rollD (acons (var 1) (acons (cst (.int 4)) anil)))) anil)) (gN 3) yesT (subE (cst (.str [97, 98, 99])) (callE rollD (acons (var 1) (acons (cst (.int 3)) anil)))) [3])) anil))))
    (seqS (setK 4 (valK (callE D_law_hoist (acons (var 2) anil))))
    (seqS (setK 5 (valK (opE neD (lE (compF (itS (cst (.str [97, 98, 99]))) (gN 6) (cmpT gtD (bmE "str" countD (var 2) (acons (var 6) anil)) (cst (.int 2))) (var 6) [6])) (lE (lstE anil)))))
    (seqS (ifS (orT (cmpT neD (toldE toldL (callE D_hoisted (acons (var 2) anil))) (var 4)) (orT (cmpT eqD (callE D_can_be_hoisted (acons (var 2) anil)) (var 5)) (cmpT neD (opE eqD (var 4) (cst (.str [104, 111, 105, 115, 116]))) (var 5))))
    (retS (cst (.bl false)))
    skipS)
    (seqS (ifS (andT (cmpT neD (var 4) (cst (.str [104, 111, 105, 115, 116]))) (orT (cmpT neD (callE D_read_hoist (acons (var 4) anil)) (var 2)) (notT (valT (callE D_is_usual (acons (var 4) anil))))))
    (retS (cst (.bl false)))
    skipS)
    (seqS (setK 7 (valK (bmE "str" joinD (cst (.str [])) (acons (lE (compF (rng1E (acons (opE addD (cst (.int 1)) (callE rollD (acons (var 1) (acons (cst (.int 4)) anil)))) anil)) (gN 3) yesT (subE (cst (.str [97, 98, 49, 50, 51])) (callE rollD (acons (var 1) (acons (cst (.int 5)) anil)))) [3])) anil))))
    (seqS (setK 8 (valK (callE D_law_read (acons (var 7) anil))))
    (seqS (ifS (cmpT neD (toldE toldL (callE D_read_hoist (acons (var 7) anil))) (var 8))
    (retS (cst (.bl false)))
    skipS)
    (seqS (ifS (cmpT neD (callE D_is_usual (acons (var 7) anil)) (andV (opE neD (var 8) (cst (.str [104, 111, 105, 115, 116]))) (opE eqD (callE D_law_hoist (acons (var 8) anil)) (var 7))))
    (retS (cst (.bl false)))
    skipS)
    (seqS (setK 9 (valK (callE D_law_read (acons (bmE "str" joinD (cst (.str [])) (acons (lE (revE (var 7))) anil)) anil))))
    (seqS (ifS (cmpT neD (callE D_upside_read (acons (var 7) anil)) (iteE (cmpT neD (var 9) (cst (.str [104, 111, 105, 115, 116]))) (var 9) (cst .non)))
    (retS (cst (.bl false)))
    skipS)
    (seqS (asgS (tupE (acons (callE rollD (acons (var 1) (acons (cst (.int 4)) anil))) (acons (opE addD (cst (.int 1)) (callE rollD (acons (var 1) (acons (cst (.int 4)) anil)))) anil))) (gTup_ 2 (gCons_ (gN 10) (gCons_ (gN 11) gNil_))))
    (seqS (setK 12 (valK (lE (lstE (acons (cst (.str [])) anil)))))
    (seqS (forS (rng1E (acons (var 11) anil)) (gN 3)
    (setK 12 (valK (callE D_law_flat (acons (lE (compF (itL (var 12)) (gN 13) yesT (lE (compF (itS (sliceE (cst (.str [97, 98, 99])) noP (someP (var 10)))) (gN 6) yesT (opE addD (var 13) (var 6)) [6])) [13])) anil)))))
    (seqS (setK 14 (ownK (compF (itL (var 12)) (gN 13) (cmpT neD (callE D_law_hoist (acons (var 13) anil)) (cst (.str [104, 111, 105, 115, 116]))) (var 13) [13])))
    (seqS (ifS (orT (cmpT neD (callE D_how_many_words (acons (var 10) (acons (var 11) anil))) (callE lenX (acons (varP 14) anil))) (cmpT neD (lE (callF listD (acons (callE D_all_words (acons (var 10) (acons (var 11) anil))) anil))) (varP 14)))
    (retS (cst (.bl false)))
    skipS)
    (seqS (setK 15 (valK (bmE "str" joinD (cst (.str [])) (acons (lE (compF (rng1E (acons (callE rollD (acons (var 1) (acons (cst (.int 8)) anil))) anil)) (gN 3) yesT (subE (cst (.str [97, 97, 98])) (callE rollD (acons (var 1) (acons (cst (.int 3)) anil)))) [3])) anil))))
    (seqS (setK 16 (valK (callE D_in_parts (acons (var 15) anil))))
    (seqS (ifS (orT (cmpT neD (bmE "str" joinD (cst (.str [])) (acons (var 16) anil)) (var 15)) (cmpT neD (lE (compF (itT (var 16)) (gN 13) (cmpT eqD (callE D_law_hoist (acons (var 13) anil)) (cst (.str [104, 111, 105, 115, 116]))) (var 13) [13])) (lE (lstE anil))))
    (retS (cst (.bl false)))
    skipS)
    (seqS (forS (rng1E (acons (opE subD (callE lenX (acons (var 16) anil)) (cst (.int 1))) anil)) (gN 3)
    (seqS (setK 17 (valK (opE addD (subE (var 16) (var 3)) (subE (subE (var 16) (opE addD (var 3) (cst (.int 1)))) (cst (.int 0))))))
    (ifS (andT (cmpT ltD (callE lenX (acons (subE (var 16) (var 3)) anil)) (cst (.int 4))) (cmpT neD (callE D_law_hoist (acons (var 17) anil)) (cst (.str [104, 111, 105, 115, 116]))))
    (retS (cst (.bl false)))
    skipS)))
    (seqS (setK 18 (valK (bmE "str" joinD (cst (.str [])) (acons (lE (compF (itT (var 16)) (gN 13) yesT (callE D_law_hoist (acons (var 13) anil)) [13])) anil))))
    (seqS (ifS (cmpT neD (callE D_flags_needed (acons (var 16) anil)) (bmE "str" joinD (cst (.str [])) (acons (lE (compF (itS (cst (.str [97, 98, 49, 50, 51]))) (gN 6) (cmpT inD (var 6) (var 18)) (var 6) [6])) anil)))
    (retS (cst (.bl false)))
    skipS)
    (ifS (notT (valT (fun _ => D_law_cases1 [])))
    (retS (cst (.bl false)))
    skipS)))))))))))))))))))))))
theorem ok_law (T : Txt w K mg base a) {oc : Value} {od : Option Addr} {kV doc pm : Value} {an : Option Addr} {ct : Value} {osl : Array (Option Value)} (lk : K.lookup a.f_law = some ⟨oc, od, .func (PySem.W.fnOf "law" "law" (defArgs s_law) (defBody s_law) (defScope s_law) .none kV doc pm an (.ref a.k_law) ct), osl⟩)
    (cd : PySem.W.codeIn K (.ref a.k_law) "law" = true) (hF : LawOk F_law 19) :
    FnOk P w K mg base (L2.CX P w) 8 a.f_law (PySem.W.fnOf "law" "law" (defArgs s_law) (defBody s_law) (defScope s_law) .none kV doc pm an (.ref a.k_law) ct) ["script"] (spLaw K (gm K w a).tabs) := by
  obtain ⟨oc0, od0, kV0, doc0, pm0, an0, cdv0, ct0, osl0, lk0, cd0, kp0, bd0⟩ := T.l_told
  obtain ⟨fdD, FD, bD⟩ := T.e_law_dice
  obtain ⟨fdR, FR, bR⟩ := T.e_law_rounds
  have hD := ok_dice (P := P) (w := w) (base := base) FD T.b_int T.b_abs
  have hR := ok_rounds (P := P) (w := w) (base := base) FR hD FD.kp bD T.g_law_dice
  exact law_W (G := gm K w a) (F := F_law) lk cd sc_law rfl (by decide) rfl hF fun A outer s H E hr => ⟨_, pss_cons (ps_for owns_cxD rfl (pi_list (pe_callS hR (hr.mono (by decide)) rfl T.g_law_rounds FR.kp bR (fun sg => passAt (takes_cxD (N := ["script", "dice", "word", "k", "flags", "thrice", "sign", "row", "told", "below", "letters", "size", "words", "one", "good", "text", "parts", "longer", "signs"]) (st := s_law) (f := a.f_law)) sg) (pa_cons (pv 0) (pa_cons pe_int pa_nil)))) (pg_name (i := 1) sc_law.nd rfl (Or.inr rfl))
    (dss_cons (ds_set 2 (DE.k (de_bm (bm_join rfl) rfl (DE.p (de_str [])) (dap_cons (DE.p (DF.e (df_comp (own := [("k", 3)]) rfl sc_law.nd (DI.e (di_rng1 rfl T.b_range (da_cons (de_op (op_add_d rfl) (DE.p de_int) (DE.p (de_call (k_law_roll T) (hr.mono (by decide)) takes_cxD (da_cons (de_var 1) (da_cons de_int da_nil))))) da_nil))) (blkOk_by (N := ["script", "dice", "word", "k", "flags", "thrice", "sign", "row", "told", "below", "letters", "size", "words", "one", "good", "text", "parts", "longer", "signs"]) (sc := defScope s_law) (by decide +kernel)) (fun _ _ _ _ _ => (dg_name 3 sc_law.nd)) (fun _ _ _ _ _ => dts_nil) (fun _ _ _ _ _ => (de_sub rfl rfl (huD hr) (DE.p (de_str [97, 98, 99])) (DE.p (de_call (k_law_roll T) (hr.mono (by decide)) takes0D (da_cons (de_var 1) (da_cons de_int da_nil)))) fun _ _ => rfl)) (by decide)))) dap_nil))) (by decide) sc_law.nd)
    (dss_cons (ds_set 4 (DE.k (de_call (k_law_hoist T) (hr.mono (by decide)) takes_cxD (da_cons (de_var 2) da_nil))) (by decide) sc_law.nd)
    (dss_cons (ds_set 5 (DE.k (de_cmp (op_ne_d rfl (huD64 hr)) (DE.p (DF.e (df_comp (own := [("sign", 6)]) rfl sc_law.nd (DI.e (di_str (de_str [97, 98, 99]))) (blkOk_by (N := ["script", "dice", "word", "k", "flags", "thrice", "sign", "row", "told", "below", "letters", "size", "words", "one", "good", "text", "parts", "longer", "signs"]) (sc := defScope s_law) (by decide +kernel)) (fun _ _ _ _ _ => (dg_name 6 sc_law.nd)) (fun _ _ _ _ _ => (dts_one (dt_cmp (op_gt_d) (DE.p (de_bm (bm_count) rfl (DE.p (de_var 2)) (dap_cons (DE.p (de_var 6)) dap_nil))) (DE.p de_int)))) (fun _ _ _ _ _ => (de_var 6)) (by decide)))) (DE.p (DF.e (df_lst da_nil))))) (by decide) sc_law.nd)
    (dss_cons (ds_if (dt_w (dw_or (dt_cmp (op_ne_d rfl (huD64 hr)) (DE.p (de_told (k := 3) (l := toldL) T.g_law_told kp0 lk0 cd0 bd0 sc_law_told rfl (Or.inl rfl) (gives_told T rfl rfl) T.exm T.tb_law rfl tm_law (tu_law T) (hr.mono (by decide)) (lamS_by (sc := defScope s_law) (by decide +kernel)) (fun _ _ _ _ _ _ _ hr' => (de_call (k_hoisted T) (hr'.mono (by decide)) takes_lam (da_cons (de_var 2) da_nil))))) (DE.p (de_var 4))) (dw_or (dt_cmp (op_eq_d rfl (huD64 hr)) (DE.p (de_call (k_can_be_hoisted T) (hr.mono (by decide)) takes_cxD (da_cons (de_var 2) da_nil))) (DE.p (de_var 5))) (dw_or1 (dt_cmp (op_ne_d rfl (huD64 hr)) (DE.p (de_cmp (op_eq_d rfl (huD64 hr)) (DE.p (de_var 4)) (DE.p (de_str [104, 111, 105, 115, 116])))) (DE.p (de_var 5)))))))
    (dss_one (ds_ret de_bl))
    dss_nil)
    (dss_cons (ds_if (dt_w (dw_and (dt_cmp (op_ne_d rfl (huD64 hr)) (DE.p (de_var 4)) (DE.p (de_str [104, 111, 105, 115, 116]))) (dw_and1 (dt_w (dw_or (dt_cmp (op_ne_d rfl (huD64 hr)) (DE.p (de_call (k_read_hoist T) (hr.mono (by decide)) takes_cxD (da_cons (de_var 4) da_nil))) (DE.p (de_var 2))) (dw_or1 (dt_not (dt_val (de_call (k_is_usual T) (hr.mono (by decide)) takes_cxD (da_cons (de_var 4) da_nil))))))))))
    (dss_one (ds_ret de_bl))
    dss_nil)
    (dss_cons (ds_set 7 (DE.k (de_bm (bm_join rfl) rfl (DE.p (de_str [])) (dap_cons (DE.p (DF.e (df_comp (own := [("k", 3)]) rfl sc_law.nd (DI.e (di_rng1 rfl T.b_range (da_cons (de_op (op_add_d rfl) (DE.p de_int) (DE.p (de_call (k_law_roll T) (hr.mono (by decide)) takes_cxD (da_cons (de_var 1) (da_cons de_int da_nil))))) da_nil))) (blkOk_by (N := ["script", "dice", "word", "k", "flags", "thrice", "sign", "row", "told", "below", "letters", "size", "words", "one", "good", "text", "parts", "longer", "signs"]) (sc := defScope s_law) (by decide +kernel)) (fun _ _ _ _ _ => (dg_name 3 sc_law.nd)) (fun _ _ _ _ _ => dts_nil) (fun _ _ _ _ _ => (de_sub rfl rfl (huD hr) (DE.p (de_str [97, 98, 49, 50, 51])) (DE.p (de_call (k_law_roll T) (hr.mono (by decide)) takes0D (da_cons (de_var 1) (da_cons de_int da_nil)))) fun _ _ => rfl)) (by decide)))) dap_nil))) (by decide) sc_law.nd)
    (dss_cons (ds_set 8 (DE.k (de_call (k_law_read T) (hr.mono (by decide)) takes_cxD (da_cons (de_var 7) da_nil))) (by decide) sc_law.nd)
    (dss_cons (ds_if (dt_cmp (op_ne_d rfl (huD64 hr)) (DE.p (de_told (k := 3) (l := toldL) T.g_law_told kp0 lk0 cd0 bd0 sc_law_told rfl (Or.inl rfl) (gives_told T rfl rfl) T.exm T.tb_law rfl tm_law (tu_law T) (hr.mono (by decide)) (lamS_by (sc := defScope s_law) (by decide +kernel)) (fun _ _ _ _ _ _ _ hr' => (de_call (k_read_hoist T) (hr'.mono (by decide)) takes_lam (da_cons (de_var 7) da_nil))))) (DE.p (de_var 8)))
    (dss_one (ds_ret de_bl))
    dss_nil)
    (dss_cons (ds_if (dt_cmp (op_ne_d rfl (huD64 hr)) (DE.p (de_call (k_is_usual T) (hr.mono (by decide)) takes_cxD (da_cons (de_var 7) da_nil))) (DE.p (de_and (de_cmp (op_ne_d rfl (huD64 hr)) (DE.p (de_var 8)) (DE.p (de_str [104, 111, 105, 115, 116]))) (de_one (de_cmp (op_eq_d rfl (huD64 hr)) (DE.p (de_call (k_law_hoist T) (hr.mono (by decide)) takes_cxD (da_cons (de_var 8) da_nil))) (DE.p (de_var 7)))))))
    (dss_one (ds_ret de_bl))
    dss_nil)
    (dss_cons (ds_set 9 (DE.k (de_call (k_law_read T) (hr.mono (by decide)) takes_cxD (da_cons (de_bm (bm_join rfl) rfl (DE.p (de_str [])) (dap_cons (DE.p (DF.e (df_listRevS rfl rfl T.b_list rfl T.b_reversed (de_var 7)))) dap_nil)) da_nil))) (by decide) sc_law.nd)
    (dss_cons (ds_if (dt_cmp (op_ne_d rfl (huD64 hr)) (DE.p (de_call (k_upside_read T) (hr.mono (by decide)) takes_cxD (da_cons (de_var 7) da_nil))) (DE.p (de_if (dt_cmp (op_ne_d rfl (huD64 hr)) (DE.p (de_var 9)) (DE.p (de_str [104, 111, 105, 115, 116]))) (de_var 9) de_non)))
    (dss_one (ds_ret de_bl))
    dss_nil)
    (dss_cons (ds_asg (de_tup (da_cons (de_call (k_law_roll T) (hr.mono (by decide)) takes_cxD (da_cons (de_var 1) (da_cons de_int da_nil))) (da_cons (de_op (op_add_d rfl) (DE.p de_int) (DE.p (de_call (k_law_roll T) (hr.mono (by decide)) takes_cxD (da_cons (de_var 1) (da_cons de_int da_nil))))) da_nil))) (dg_tup rfl rfl (dgs_cons (dg_name 10 sc_law.nd) (dgs_cons (dg_name 11 sc_law.nd) dgs_nil))))
    (dss_cons (ds_set 12 (DE.k (DF.e (df_lst (da_cons (de_str []) da_nil)))) (by decide) sc_law.nd)
    (dss_cons (ds_for owns_cxD rfl (di_rng1 rfl T.b_range (da_cons (de_var 11) da_nil)) (dg_name 3 sc_law.nd)
    (dss_one (ds_set 12 (DE.k (de_call (k_law_flat T) (hr.mono (by decide)) takes_cxD (da_cons (DF.e (df_comp (own := [("one", 13)]) rfl sc_law.nd (die_list rfl (DE.p (de_var 12))) (blkOk_by (N := ["script", "dice", "word", "k", "flags", "thrice", "sign", "row", "told", "below", "letters", "size", "words", "one", "good", "text", "parts", "longer", "signs"]) (sc := defScope s_law) (by decide +kernel)) (fun _ _ _ _ _ => (dg_name 13 sc_law.nd)) (fun _ _ _ _ _ => dts_nil) (fun _ _ _ _ _ => (DF.e (df_comp (own := [("sign", 6)]) rfl sc_law.nd (DI.e (di_str (de_slice rfl (DE.p (de_str [97, 98, 99])) do_none (do_some (DE.p (de_var 10)))))) (blkOk_by (N := ["script", "dice", "word", "k", "flags", "thrice", "sign", "row", "told", "below", "letters", "size", "words", "one", "good", "text", "parts", "longer", "signs"]) (sc := _) (by rfl)) (fun _ _ _ _ _ => (dg_name 6 sc_law.nd)) (fun _ _ _ _ _ => dts_nil) (fun _ _ _ _ _ => (de_op (op_add_d rfl) (DE.p (de_var 13)) (DE.p (de_var 6)))) (by decide)))) (by decide))) da_nil))) (by decide) sc_law.nd)))
    (dss_cons (ds_setcomp 14 (own := [("one", 13)]) rfl sc_law.nd (die_list rfl (DE.p (de_var 12))) (blkOk_by (N := ["script", "dice", "word", "k", "flags", "thrice", "sign", "row", "told", "below", "letters", "size", "words", "one", "good", "text", "parts", "longer", "signs"]) (sc := defScope s_law) (by decide +kernel)) (fun _ _ _ _ _ => (dg_name 13 sc_law.nd)) (fun _ _ _ _ _ => (dts_one (dt_cmp (op_ne_d rfl (huD64 hr)) (DE.p (de_call (k_law_hoist T) (hr.mono (by decide)) takes0D (da_cons (de_var 13) da_nil))) (DE.p (de_str [104, 111, 105, 115, 116]))))) (fun _ _ _ _ _ => (de_var 13)) (by decide) (by decide) (sw_true rfl rfl rfl (by decide +kernel)))
    (dss_cons (ds_if (dt_w (dw_or (dt_cmp (op_ne_d rfl (huD64 hr)) (DE.p (de_call (k_how_many_words T) (hr.mono (by decide)) takes_cxD (da_cons (de_var 10) (da_cons (de_var 11) da_nil)))) (DE.p (de_callB (cd_lenX rfl) T.b_len rfl (dap_cons (dp_var 14) dap_nil)))) (dw_or1 (dt_cmp (op_ne_d rfl (huD64 hr)) (DE.p (DF.e (df_callT (cf_list rfl) T.b_list rfl (dap_cons (DE.p (de_call (k_all_words T) (hr.mono (by decide)) takes_cxD (da_cons (de_var 10) (da_cons (de_var 11) da_nil)))) dap_nil)))) (dp_var 14)))))
    (dss_one (ds_ret de_bl))
    dss_nil)
    (dss_cons (ds_set 15 (DE.k (de_bm (bm_join rfl) rfl (DE.p (de_str [])) (dap_cons (DE.p (DF.e (df_comp (own := [("k", 3)]) rfl sc_law.nd (DI.e (di_rng1 rfl T.b_range (da_cons (de_call (k_law_roll T) (hr.mono (by decide)) takes_cxD (da_cons (de_var 1) (da_cons de_int da_nil))) da_nil))) (blkOk_by (N := ["script", "dice", "word", "k", "flags", "thrice", "sign", "row", "told", "below", "letters", "size", "words", "one", "good", "text", "parts", "longer", "signs"]) (sc := defScope s_law) (by decide +kernel)) (fun _ _ _ _ _ => (dg_name 3 sc_law.nd)) (fun _ _ _ _ _ => dts_nil) (fun _ _ _ _ _ => (de_sub rfl rfl (huD hr) (DE.p (de_str [97, 97, 98])) (DE.p (de_call (k_law_roll T) (hr.mono (by decide)) takes0D (da_cons (de_var 1) (da_cons de_int da_nil)))) fun _ _ => rfl)) (by decide)))) dap_nil))) (by decide) sc_law.nd)
    (dss_cons (ds_set 16 (DE.k (de_call (k_in_parts T) (hr.mono (by decide)) takes_cxD (da_cons (de_var 15) da_nil))) (by decide) sc_law.nd)
    (dss_cons (ds_if (dt_w (dw_or (dt_cmp (op_ne_d rfl (huD64 hr)) (DE.p (de_bm (bm_join rfl) rfl (DE.p (de_str [])) (dap_cons (DE.p (de_var 16)) dap_nil))) (DE.p (de_var 15))) (dw_or1 (dt_cmp (op_ne_d rfl (huD64 hr)) (DE.p (DF.e (df_comp (own := [("one", 13)]) rfl sc_law.nd (DI.e (di_tup rfl (de_var 16))) (blkOk_by (N := ["script", "dice", "word", "k", "flags", "thrice", "sign", "row", "told", "below", "letters", "size", "words", "one", "good", "text", "parts", "longer", "signs"]) (sc := defScope s_law) (by decide +kernel)) (fun _ _ _ _ _ => (dg_name 13 sc_law.nd)) (fun _ _ _ _ _ => (dts_one (dt_cmp (op_eq_d rfl (huD64 hr)) (DE.p (de_call (k_law_hoist T) (hr.mono (by decide)) takes0D (da_cons (de_var 13) da_nil))) (DE.p (de_str [104, 111, 105, 115, 116]))))) (fun _ _ _ _ _ => (de_var 13)) (by decide)))) (DE.p (DF.e (df_lst da_nil)))))))
    (dss_one (ds_ret de_bl))
    dss_nil)
    (dss_cons (ds_for owns_cxD rfl (di_rng1 rfl T.b_range (da_cons (de_op (op_sub_d) (DE.p (de_callB (cd_lenX rfl) T.b_len rfl (dap_cons (DE.p (de_var 16)) dap_nil))) (DE.p de_int)) da_nil)) (dg_name 3 sc_law.nd)
    (dss_cons (ds_set 17 (DE.k (de_op (op_add_d rfl) (DE.p (de_sub rfl rfl (huD hr) (DE.p (de_var 16)) (DE.p (de_var 3)) fun _ _ => rfl)) (DE.p (de_sub rfl rfl (huD hr) (DE.p (de_sub rfl rfl (huD hr) (DE.p (de_var 16)) (DE.p (de_op (op_add_d rfl) (DE.p (de_var 3)) (DE.p de_int))) fun _ _ => rfl)) (DE.p de_int) fun _ _ => rfl)))) (by decide) sc_law.nd)
    (dss_one (ds_if (dt_w (dw_and (dt_cmp (op_lt_d) (DE.p (de_callB (cd_lenX rfl) T.b_len rfl (dap_cons (DE.p (de_sub rfl rfl (huD hr) (DE.p (de_var 16)) (DE.p (de_var 3)) fun _ _ => rfl)) dap_nil))) (DE.p de_int)) (dw_and1 (dt_cmp (op_ne_d rfl (huD64 hr)) (DE.p (de_call (k_law_hoist T) (hr.mono (by decide)) takes_cxD (da_cons (de_var 17) da_nil))) (DE.p (de_str [104, 111, 105, 115, 116]))))))
    (dss_one (ds_ret de_bl))
    dss_nil))))
    (dss_cons (ds_set 18 (DE.k (de_bm (bm_join rfl) rfl (DE.p (de_str [])) (dap_cons (DE.p (DF.e (df_comp (own := [("one", 13)]) rfl sc_law.nd (DI.e (di_tup rfl (de_var 16))) (blkOk_by (N := ["script", "dice", "word", "k", "flags", "thrice", "sign", "row", "told", "below", "letters", "size", "words", "one", "good", "text", "parts", "longer", "signs"]) (sc := defScope s_law) (by decide +kernel)) (fun _ _ _ _ _ => (dg_name 13 sc_law.nd)) (fun _ _ _ _ _ => dts_nil) (fun _ _ _ _ _ => (de_call (k_law_hoist T) (hr.mono (by decide)) takes0D (da_cons (de_var 13) da_nil))) (by decide)))) dap_nil))) (by decide) sc_law.nd)
    (dss_cons (ds_if (dt_cmp (op_ne_d rfl (huD64 hr)) (DE.p (de_call (k_flags_needed T) (hr.mono (by decide)) takes_cxD (da_cons (de_var 16) da_nil))) (DE.p (de_bm (bm_join rfl) rfl (DE.p (de_str [])) (dap_cons (DE.p (DF.e (df_comp (own := [("sign", 6)]) rfl sc_law.nd (DI.e (di_str (de_str [97, 98, 49, 50, 51]))) (blkOk_by (N := ["script", "dice", "word", "k", "flags", "thrice", "sign", "row", "told", "below", "letters", "size", "words", "one", "good", "text", "parts", "longer", "signs"]) (sc := defScope s_law) (by decide +kernel)) (fun _ _ _ _ _ => (dg_name 6 sc_law.nd)) (fun _ _ _ _ _ => (dts_one (dt_cmp (op_in_d rfl (huD hr)) (DE.p (de_var 6)) (DE.p (de_var 18))))) (fun _ _ _ _ _ => (de_var 6)) (by decide)))) dap_nil))))
    (dss_one (ds_ret de_bl))
    dss_nil)
    (dss_one (ds_if (dt_not (dt_val (de_call0 (k_law_cases1 T) (hr.mono (by decide)) takes_cxD)))
    (dss_one (ds_ret de_bl))
    dss_nil)))))))))))))))))))))))))
    (pss_one (ps_ret pe_bl))⟩
end
theorem all_mk {l : PySem.W.OpenLaw} {w : World} {K : PySem.W.Frag} {h : Heap} {mg : Str → Option Value} {fa : Addr} {ts : List Addr} (X : K.In h) (hN : h.Ns mainGlobals mg) (hfa : mg "law" = some (.ref fa)) (hTS : ∀ P ∈ ts, h.get? P = some { cls := .none, data := .fields #[] })
    (hF : LawOk F_law 19)
    {f_law_dice f_law_roll f_law_rounds f_law_told f_law_hoist f_check_letters f_hoisted f_can_be_hoisted f_read_hoist f_is_usual f_law_read f_upside_read f_law_flat f_how_many_words f_all_words f_in_parts f_flags_needed f_law_cases1 f_law x_BadBook x_BadFlag x_BadFleet x_BadHoist x_Foul x_NoWay x_TooLarge x_Unclear x_BadText k_check_letters t_check_letters k_can_be_hoisted t_can_be_hoisted k_how_many_words t_how_many_words k_law_cases1 t_law_cases1 k_law t_law : Addr} {oc_law_dice kV_law_dice dc_law_dice pm_law_dice ct_law_dice cd_law_dice : Value} {od_law_dice an_law_dice : Option Addr} {sl_law_dice : Array (Option Value)} {oc_law_roll kV_law_roll dc_law_roll pm_law_roll ct_law_roll cd_law_roll : Value} {od_law_roll an_law_roll : Option Addr} {sl_law_roll : Array (Option Value)} {oc_law_rounds kV_law_rounds dc_law_rounds pm_law_rounds ct_law_rounds cd_law_rounds : Value} {od_law_rounds an_law_rounds : Option Addr} {sl_law_rounds : Array (Option Value)} {oc_law_told kV_law_told dc_law_told pm_law_told ct_law_told cd_law_told : Value} {od_law_told an_law_told : Option Addr} {sl_law_told : Array (Option Value)} {oc_law_hoist kV_law_hoist dc_law_hoist pm_law_hoist ct_law_hoist cd_law_hoist : Value} {od_law_hoist an_law_hoist : Option Addr} {sl_law_hoist : Array (Option Value)} {oc_check_letters kV_check_letters dc_check_letters pm_check_letters ct_check_letters : Value} {od_check_letters an_check_letters : Option Addr} {sl_check_letters : Array (Option Value)} {oc_hoisted kV_hoisted dc_hoisted pm_hoisted ct_hoisted cd_hoisted : Value} {od_hoisted an_hoisted : Option Addr} {sl_hoisted : Array (Option Value)} {oc_can_be_hoisted kV_can_be_hoisted dc_can_be_hoisted pm_can_be_hoisted ct_can_be_hoisted : Value} {od_can_be_hoisted an_can_be_hoisted : Option Addr} {sl_can_be_hoisted : Array (Option Value)} {oc_read_hoist kV_read_hoist dc_read_hoist pm_read_hoist ct_read_hoist cd_read_hoist : Value} {od_read_hoist an_read_hoist : Option Addr} {sl_read_hoist : Array (Option Value)} {oc_is_usual kV_is_usual dc_is_usual pm_is_usual ct_is_usual cd_is_usual : Value} {od_is_usual an_is_usual : Option Addr} {sl_is_usual : Array (Option Value)} {oc_law_read kV_law_read dc_law_read pm_law_read ct_law_read cd_law_read : Value} {od_law_read an_law_read : Option Addr} {sl_law_read : Array (Option Value)} {oc_upside_read kV_upside_read dc_upside_read pm_upside_read ct_upside_read cd_upside_read : Value} {od_upside_read an_upside_read : Option Addr} {sl_upside_read : Array (Option Value)} {oc_law_flat kV_law_flat dc_law_flat pm_law_flat ct_law_flat cd_law_flat : Value} {od_law_flat an_law_flat : Option Addr} {sl_law_flat : Array (Option Value)} {oc_how_many_words kV_how_many_words dc_how_many_words pm_how_many_words ct_how_many_words : Value} {od_how_many_words an_how_many_words : Option Addr} {sl_how_many_words : Array (Option Value)} {oc_all_words kV_all_words dc_all_words pm_all_words ct_all_words cd_all_words : Value} {od_all_words an_all_words : Option Addr} {sl_all_words : Array (Option Value)} {oc_in_parts kV_in_parts dc_in_parts pm_in_parts ct_in_parts cd_in_parts : Value} {od_in_parts an_in_parts : Option Addr} {sl_in_parts : Array (Option Value)} {oc_flags_needed kV_flags_needed dc_flags_needed pm_flags_needed ct_flags_needed cd_flags_needed : Value} {od_flags_needed an_flags_needed : Option Addr} {sl_flags_needed : Array (Option Value)} {oc_law_cases1 kV_law_cases1 dc_law_cases1 pm_law_cases1 ct_law_cases1 : Value} {od_law_cases1 an_law_cases1 : Option Addr} {sl_law_cases1 : Array (Option Value)} {oc_law kV_law dc_law pm_law ct_law : Value} {od_law an_law : Option Addr} {sl_law : Array (Option Value)} {u_MOST_FLAGS : Value} {u_SUBSTITUTES : Value} {vs_check_letters : Array Value} {zo_check_letters : Option Addr} {zs_check_letters : Array (Option Value)} {vs_can_be_hoisted : Array Value} {zo_can_be_hoisted : Option Addr} {zs_can_be_hoisted : Array (Option Value)} {vs_how_many_words : Array Value} {zo_how_many_words : Option Addr} {zs_how_many_words : Array (Option Value)} {vs_law_cases1 : Array Value} {zo_law_cases1 : Option Addr} {zs_law_cases1 : Array (Option Value)} {vs_law : Array Value} {zo_law : Option Addr} {zs_law : Array (Option Value)}
    (nk_law_dice : PySem.W.nsIn K mainGlobals "_law_dice" = some (some (.ref f_law_dice)))
    (lk_law_dice : K.lookup f_law_dice = some ⟨oc_law_dice, od_law_dice, .func (PySem.W.fnOf "_law_dice" "_law_dice" (defArgs s_law_dice) (defBody s_law_dice) (defScope s_law_dice) .none kV_law_dice dc_law_dice pm_law_dice an_law_dice cd_law_dice ct_law_dice), sl_law_dice⟩)
    (dk_law_dice : PySem.W.codeIn K cd_law_dice "_law_dice" = true)
    (kk_law_dice : PySem.W.keepIn K (.ref f_law_dice) = true)
    (nk_law_roll : PySem.W.nsIn K mainGlobals "_law_roll" = some (some (.ref f_law_roll)))
    (lk_law_roll : K.lookup f_law_roll = some ⟨oc_law_roll, od_law_roll, .func (PySem.W.fnOf "_law_roll" "_law_roll" (defArgs s_law_roll) (defBody s_law_roll) (defScope s_law_roll) .none kV_law_roll dc_law_roll pm_law_roll an_law_roll cd_law_roll ct_law_roll), sl_law_roll⟩)
    (dk_law_roll : PySem.W.codeIn K cd_law_roll "_law_roll" = true)
    (kk_law_roll : PySem.W.keepIn K (.ref f_law_roll) = true)
    (nk_law_rounds : PySem.W.nsIn K mainGlobals "_law_rounds" = some (some (.ref f_law_rounds)))
    (lk_law_rounds : K.lookup f_law_rounds = some ⟨oc_law_rounds, od_law_rounds, .func (PySem.W.fnOf "_law_rounds" "_law_rounds" (defArgs s_law_rounds) (defBody s_law_rounds) (defScope s_law_rounds) .none kV_law_rounds dc_law_rounds pm_law_rounds an_law_rounds cd_law_rounds ct_law_rounds), sl_law_rounds⟩)
    (dk_law_rounds : PySem.W.codeIn K cd_law_rounds "_law_rounds" = true)
    (kk_law_rounds : PySem.W.keepIn K (.ref f_law_rounds) = true)
    (nk_law_told : PySem.W.nsIn K mainGlobals "_law_told" = some (some (.ref f_law_told)))
    (lk_law_told : K.lookup f_law_told = some ⟨oc_law_told, od_law_told, .func (PySem.W.fnOf "_law_told" "_law_told" (defArgs s_law_told) (defBody s_law_told) (defScope s_law_told) .none kV_law_told dc_law_told pm_law_told an_law_told cd_law_told ct_law_told), sl_law_told⟩)
    (dk_law_told : PySem.W.codeIn K cd_law_told "_law_told" = true)
    (kk_law_told : PySem.W.keepIn K (.ref f_law_told) = true)
    (nk_law_hoist : PySem.W.nsIn K mainGlobals "_law_hoist" = some (some (.ref f_law_hoist)))
    (lk_law_hoist : K.lookup f_law_hoist = some ⟨oc_law_hoist, od_law_hoist, .func (PySem.W.fnOf "_law_hoist" "_law_hoist" (defArgs s_law_hoist) (defBody s_law_hoist) (defScope s_law_hoist) .none kV_law_hoist dc_law_hoist pm_law_hoist an_law_hoist cd_law_hoist ct_law_hoist), sl_law_hoist⟩)
    (dk_law_hoist : PySem.W.codeIn K cd_law_hoist "_law_hoist" = true)
    (kk_law_hoist : PySem.W.keepIn K (.ref f_law_hoist) = true)
    (nk_check_letters : PySem.W.nsIn K mainGlobals "check_letters" = some (some (.ref f_check_letters)))
    (lk_check_letters : K.lookup f_check_letters = some ⟨oc_check_letters, od_check_letters, .func (PySem.W.fnOf "check_letters" "check_letters" (defArgs s_check_letters) (defBody s_check_letters) (defScope s_check_letters) .none kV_check_letters dc_check_letters pm_check_letters an_check_letters (.ref k_check_letters) ct_check_letters), sl_check_letters⟩)
    (dk_check_letters : PySem.W.codeIn K (.ref k_check_letters) "check_letters" = true)
    (kk_check_letters : PySem.W.keepIn K (.ref f_check_letters) = true)
    (nk_hoisted : PySem.W.nsIn K mainGlobals "hoisted" = some (some (.ref f_hoisted)))
    (lk_hoisted : K.lookup f_hoisted = some ⟨oc_hoisted, od_hoisted, .func (PySem.W.fnOf "hoisted" "hoisted" (defArgs s_hoisted) (defBody s_hoisted) (defScope s_hoisted) .none kV_hoisted dc_hoisted pm_hoisted an_hoisted cd_hoisted ct_hoisted), sl_hoisted⟩)
    (dk_hoisted : PySem.W.codeIn K cd_hoisted "hoisted" = true)
    (kk_hoisted : PySem.W.keepIn K (.ref f_hoisted) = true)
    (nk_can_be_hoisted : PySem.W.nsIn K mainGlobals "can_be_hoisted" = some (some (.ref f_can_be_hoisted)))
    (lk_can_be_hoisted : K.lookup f_can_be_hoisted = some ⟨oc_can_be_hoisted, od_can_be_hoisted, .func (PySem.W.fnOf "can_be_hoisted" "can_be_hoisted" (defArgs s_can_be_hoisted) (defBody s_can_be_hoisted) (defScope s_can_be_hoisted) .none kV_can_be_hoisted dc_can_be_hoisted pm_can_be_hoisted an_can_be_hoisted (.ref k_can_be_hoisted) ct_can_be_hoisted), sl_can_be_hoisted⟩)
    (dk_can_be_hoisted : PySem.W.codeIn K (.ref k_can_be_hoisted) "can_be_hoisted" = true)
    (kk_can_be_hoisted : PySem.W.keepIn K (.ref f_can_be_hoisted) = true)
    (nk_read_hoist : PySem.W.nsIn K mainGlobals "read_hoist" = some (some (.ref f_read_hoist)))
    (lk_read_hoist : K.lookup f_read_hoist = some ⟨oc_read_hoist, od_read_hoist, .func (PySem.W.fnOf "read_hoist" "read_hoist" (defArgs s_read_hoist) (defBody s_read_hoist) (defScope s_read_hoist) .none kV_read_hoist dc_read_hoist pm_read_hoist an_read_hoist cd_read_hoist ct_read_hoist), sl_read_hoist⟩)
    (dk_read_hoist : PySem.W.codeIn K cd_read_hoist "read_hoist" = true)
    (kk_read_hoist : PySem.W.keepIn K (.ref f_read_hoist) = true)
    (nk_is_usual : PySem.W.nsIn K mainGlobals "is_usual" = some (some (.ref f_is_usual)))
    (lk_is_usual : K.lookup f_is_usual = some ⟨oc_is_usual, od_is_usual, .func (PySem.W.fnOf "is_usual" "is_usual" (defArgs s_is_usual) (defBody s_is_usual) (defScope s_is_usual) .none kV_is_usual dc_is_usual pm_is_usual an_is_usual cd_is_usual ct_is_usual), sl_is_usual⟩)
    (dk_is_usual : PySem.W.codeIn K cd_is_usual "is_usual" = true)
    (kk_is_usual : PySem.W.keepIn K (.ref f_is_usual) = true)
    (nk_law_read : PySem.W.nsIn K mainGlobals "_law_read" = some (some (.ref f_law_read)))
    (lk_law_read : K.lookup f_law_read = some ⟨oc_law_read, od_law_read, .func (PySem.W.fnOf "_law_read" "_law_read" (defArgs s_law_read) (defBody s_law_read) (defScope s_law_read) .none kV_law_read dc_law_read pm_law_read an_law_read cd_law_read ct_law_read), sl_law_read⟩)
    (dk_law_read : PySem.W.codeIn K cd_law_read "_law_read" = true)
    (kk_law_read : PySem.W.keepIn K (.ref f_law_read) = true)
    (nk_upside_read : PySem.W.nsIn K mainGlobals "upside_read" = some (some (.ref f_upside_read)))
    (lk_upside_read : K.lookup f_upside_read = some ⟨oc_upside_read, od_upside_read, .func (PySem.W.fnOf "upside_read" "upside_read" (defArgs s_upside_read) (defBody s_upside_read) (defScope s_upside_read) .none kV_upside_read dc_upside_read pm_upside_read an_upside_read cd_upside_read ct_upside_read), sl_upside_read⟩)
    (dk_upside_read : PySem.W.codeIn K cd_upside_read "upside_read" = true)
    (kk_upside_read : PySem.W.keepIn K (.ref f_upside_read) = true)
    (nk_law_flat : PySem.W.nsIn K mainGlobals "_law_flat" = some (some (.ref f_law_flat)))
    (lk_law_flat : K.lookup f_law_flat = some ⟨oc_law_flat, od_law_flat, .func (PySem.W.fnOf "_law_flat" "_law_flat" (defArgs s_law_flat) (defBody s_law_flat) (defScope s_law_flat) .none kV_law_flat dc_law_flat pm_law_flat an_law_flat cd_law_flat ct_law_flat), sl_law_flat⟩)
    (dk_law_flat : PySem.W.codeIn K cd_law_flat "_law_flat" = true)
    (kk_law_flat : PySem.W.keepIn K (.ref f_law_flat) = true)
    (nk_how_many_words : PySem.W.nsIn K mainGlobals "how_many_words" = some (some (.ref f_how_many_words)))
    (lk_how_many_words : K.lookup f_how_many_words = some ⟨oc_how_many_words, od_how_many_words, .func (PySem.W.fnOf "how_many_words" "how_many_words" (defArgs s_how_many_words) (defBody s_how_many_words) (defScope s_how_many_words) .none kV_how_many_words dc_how_many_words pm_how_many_words an_how_many_words (.ref k_how_many_words) ct_how_many_words), sl_how_many_words⟩)
    (dk_how_many_words : PySem.W.codeIn K (.ref k_how_many_words) "how_many_words" = true)
    (kk_how_many_words : PySem.W.keepIn K (.ref f_how_many_words) = true)
    (nk_all_words : PySem.W.nsIn K mainGlobals "all_words" = some (some (.ref f_all_words)))
    (lk_all_words : K.lookup f_all_words = some ⟨oc_all_words, od_all_words, .func (PySem.W.fnOf "all_words" "all_words" (defArgs s_all_words) (defBody s_all_words) (defScope s_all_words) .none kV_all_words dc_all_words pm_all_words an_all_words cd_all_words ct_all_words), sl_all_words⟩)
    (dk_all_words : PySem.W.codeIn K cd_all_words "all_words" = true)
    (kk_all_words : PySem.W.keepIn K (.ref f_all_words) = true)
    (nk_in_parts : PySem.W.nsIn K mainGlobals "in_parts" = some (some (.ref f_in_parts)))
    (lk_in_parts : K.lookup f_in_parts = some ⟨oc_in_parts, od_in_parts, .func (PySem.W.fnOf "in_parts" "in_parts" (defArgs s_in_parts) (defBody s_in_parts) (defScope s_in_parts) .none kV_in_parts dc_in_parts pm_in_parts an_in_parts cd_in_parts ct_in_parts), sl_in_parts⟩)
    (dk_in_parts : PySem.W.codeIn K cd_in_parts "in_parts" = true)
    (kk_in_parts : PySem.W.keepIn K (.ref f_in_parts) = true)
    (nk_flags_needed : PySem.W.nsIn K mainGlobals "flags_needed" = some (some (.ref f_flags_needed)))
    (lk_flags_needed : K.lookup f_flags_needed = some ⟨oc_flags_needed, od_flags_needed, .func (PySem.W.fnOf "flags_needed" "flags_needed" (defArgs s_flags_needed) (defBody s_flags_needed) (defScope s_flags_needed) .none kV_flags_needed dc_flags_needed pm_flags_needed an_flags_needed cd_flags_needed ct_flags_needed), sl_flags_needed⟩)
    (dk_flags_needed : PySem.W.codeIn K cd_flags_needed "flags_needed" = true)
    (kk_flags_needed : PySem.W.keepIn K (.ref f_flags_needed) = true)
    (nk_law_cases1 : PySem.W.nsIn K mainGlobals "_law_cases1" = some (some (.ref f_law_cases1)))
    (lk_law_cases1 : K.lookup f_law_cases1 = some ⟨oc_law_cases1, od_law_cases1, .func (PySem.W.fnOf "_law_cases1" "_law_cases1" (defArgs s_law_cases1) (defBody s_law_cases1) (defScope s_law_cases1) .none kV_law_cases1 dc_law_cases1 pm_law_cases1 an_law_cases1 (.ref k_law_cases1) ct_law_cases1), sl_law_cases1⟩)
    (dk_law_cases1 : PySem.W.codeIn K (.ref k_law_cases1) "_law_cases1" = true)
    (kk_law_cases1 : PySem.W.keepIn K (.ref f_law_cases1) = true)
    (nk_law : PySem.W.nsIn K mainGlobals "law" = some (some (.ref f_law)))
    (lk_law : K.lookup f_law = some ⟨oc_law, od_law, .func (PySem.W.fnOf "law" "law" (defArgs s_law) (defBody s_law) (defScope s_law) .none kV_law dc_law pm_law an_law (.ref k_law) ct_law), sl_law⟩)
    (dk_law : PySem.W.codeIn K (.ref k_law) "law" = true)
    (kk_law : PySem.W.keepIn K (.ref f_law) = true)
    (xn_BadBook : PySem.W.nsIn K mainGlobals "BadBook" = some (some (.ref x_BadBook)))
    (xe_BadBook : PySem.W.excIn K x_BadBook [.type "ValueError", .type "Exception", .type "BaseException", .type "object"] "ValueError.__new__" = true)
    (xk_BadBook : PySem.W.keepIn K (.ref x_BadBook) = true)
    (xs_BadBook : PySem.W.subIn K (.ref x_BadBook) (.type "BaseException") = some true)
    (xt_BadBook : PySem.W.typeIn K (.ref x_BadBook) = some (.type "type"))
    (xn_BadFlag : PySem.W.nsIn K mainGlobals "BadFlag" = some (some (.ref x_BadFlag)))
    (xe_BadFlag : PySem.W.excIn K x_BadFlag [.type "ValueError", .type "Exception", .type "BaseException", .type "object"] "ValueError.__new__" = true)
    (xk_BadFlag : PySem.W.keepIn K (.ref x_BadFlag) = true)
    (xs_BadFlag : PySem.W.subIn K (.ref x_BadFlag) (.type "BaseException") = some true)
    (xt_BadFlag : PySem.W.typeIn K (.ref x_BadFlag) = some (.type "type"))
    (xn_BadFleet : PySem.W.nsIn K mainGlobals "BadFleet" = some (some (.ref x_BadFleet)))
    (xe_BadFleet : PySem.W.excIn K x_BadFleet [.type "ValueError", .type "Exception", .type "BaseException", .type "object"] "ValueError.__new__" = true)
    (xk_BadFleet : PySem.W.keepIn K (.ref x_BadFleet) = true)
    (xs_BadFleet : PySem.W.subIn K (.ref x_BadFleet) (.type "BaseException") = some true)
    (xt_BadFleet : PySem.W.typeIn K (.ref x_BadFleet) = some (.type "type"))
    (xn_BadHoist : PySem.W.nsIn K mainGlobals "BadHoist" = some (some (.ref x_BadHoist)))
    (xe_BadHoist : PySem.W.excIn K x_BadHoist [.type "ValueError", .type "Exception", .type "BaseException", .type "object"] "ValueError.__new__" = true)
    (xk_BadHoist : PySem.W.keepIn K (.ref x_BadHoist) = true)
    (xs_BadHoist : PySem.W.subIn K (.ref x_BadHoist) (.type "BaseException") = some true)
    (xt_BadHoist : PySem.W.typeIn K (.ref x_BadHoist) = some (.type "type"))
    (xn_Foul : PySem.W.nsIn K mainGlobals "Foul" = some (some (.ref x_Foul)))
    (xn_NoWay : PySem.W.nsIn K mainGlobals "NoWay" = some (some (.ref x_NoWay)))
    (xe_NoWay : PySem.W.excIn K x_NoWay [.type "ValueError", .type "Exception", .type "BaseException", .type "object"] "ValueError.__new__" = true)
    (xk_NoWay : PySem.W.keepIn K (.ref x_NoWay) = true)
    (xs_NoWay : PySem.W.subIn K (.ref x_NoWay) (.type "BaseException") = some true)
    (xt_NoWay : PySem.W.typeIn K (.ref x_NoWay) = some (.type "type"))
    (xn_TooLarge : PySem.W.nsIn K mainGlobals "TooLarge" = some (some (.ref x_TooLarge)))
    (xe_TooLarge : PySem.W.excIn K x_TooLarge [.type "ValueError", .type "Exception", .type "BaseException", .type "object"] "ValueError.__new__" = true)
    (xk_TooLarge : PySem.W.keepIn K (.ref x_TooLarge) = true)
    (xs_TooLarge : PySem.W.subIn K (.ref x_TooLarge) (.type "BaseException") = some true)
    (xt_TooLarge : PySem.W.typeIn K (.ref x_TooLarge) = some (.type "type"))
    (xn_Unclear : PySem.W.nsIn K mainGlobals "Unclear" = some (some (.ref x_Unclear)))
    (xn_BadText : PySem.W.nsIn K mainGlobals "BadText" = some (some (.ref x_BadText)))
    (exq : exmB K (excA ⟨f_law_dice, f_law_roll, f_law_rounds, f_law_told, f_law_hoist, f_check_letters, f_hoisted, f_can_be_hoisted, f_read_hoist, f_is_usual, f_law_read, f_upside_read, f_law_flat, f_how_many_words, f_all_words, f_in_parts, f_flags_needed, f_law_cases1, f_law, x_BadBook, x_BadFlag, x_BadFleet, x_BadHoist, x_Foul, x_NoWay, x_TooLarge, x_Unclear, x_BadText, k_check_letters, t_check_letters, k_can_be_hoisted, t_can_be_hoisted, k_how_many_words, t_how_many_words, k_law_cases1, t_law_cases1, k_law, t_law⟩) (toldL.map (·.1)) = true)
    (bz_range : PySem.W.nsIn K mainGlobals "range" = some none)
    (bz_len : PySem.W.nsIn K mainGlobals "len" = some none)
    (bz_dict : PySem.W.nsIn K mainGlobals "dict" = some none)
    (bz_any : PySem.W.nsIn K mainGlobals "any" = some none)
    (bz_enumerate : PySem.W.nsIn K mainGlobals "enumerate" = some none)
    (bz_all : PySem.W.nsIn K mainGlobals "all" = some none)
    (bz_int : PySem.W.nsIn K mainGlobals "int" = some none)
    (bz_list : PySem.W.nsIn K mainGlobals "list" = some none)
    (bz_reversed : PySem.W.nsIn K mainGlobals "reversed" = some none)
    (bz_max : PySem.W.nsIn K mainGlobals "max" = some none)
    (bz_sum : PySem.W.nsIn K mainGlobals "sum" = some none)
    (bz_tuple : PySem.W.nsIn K mainGlobals "tuple" = some none)
    (bz_min : PySem.W.nsIn K mainGlobals "min" = some none)
    (bz_sorted : PySem.W.nsIn K mainGlobals "sorted" = some none)
    (bz_abs : PySem.W.nsIn K mainGlobals "abs" = some none)
    (cn_MOST_FLAGS : PySem.W.nsIn K mainGlobals "MOST_FLAGS" = some (some u_MOST_FLAGS))
    (cq_MOST_FLAGS : isD K d_MOST_FLAGS u_MOST_FLAGS = true)
    (cn_SUBSTITUTES : PySem.W.nsIn K mainGlobals "SUBSTITUTES" = some (some u_SUBSTITUTES))
    (cq_SUBSTITUTES : isD K d_SUBSTITUTES u_SUBSTITUTES = true)
    (zl_check_letters : K.lookup k_check_letters = some ⟨.type "code", zo_check_letters, .fields vs_check_letters, zs_check_letters⟩)
    (zv_check_letters : (vs_check_letters[11]? : Option Value) = some (.ref t_check_letters))
    (zh_check_letters : PySem.W.codeHdIn K k_check_letters t_check_letters = true)
    (zn_check_letters : K.lookup t_check_letters = none)
    (zt_check_letters : t_check_letters ∈ ts)
    (zl_can_be_hoisted : K.lookup k_can_be_hoisted = some ⟨.type "code", zo_can_be_hoisted, .fields vs_can_be_hoisted, zs_can_be_hoisted⟩)
    (zv_can_be_hoisted : (vs_can_be_hoisted[11]? : Option Value) = some (.ref t_can_be_hoisted))
    (zh_can_be_hoisted : PySem.W.codeHdIn K k_can_be_hoisted t_can_be_hoisted = true)
    (zn_can_be_hoisted : K.lookup t_can_be_hoisted = none)
    (zt_can_be_hoisted : t_can_be_hoisted ∈ ts)
    (zl_how_many_words : K.lookup k_how_many_words = some ⟨.type "code", zo_how_many_words, .fields vs_how_many_words, zs_how_many_words⟩)
    (zv_how_many_words : (vs_how_many_words[11]? : Option Value) = some (.ref t_how_many_words))
    (zh_how_many_words : PySem.W.codeHdIn K k_how_many_words t_how_many_words = true)
    (zn_how_many_words : K.lookup t_how_many_words = none)
    (zt_how_many_words : t_how_many_words ∈ ts)
    (zl_law_cases1 : K.lookup k_law_cases1 = some ⟨.type "code", zo_law_cases1, .fields vs_law_cases1, zs_law_cases1⟩)
    (zv_law_cases1 : (vs_law_cases1[11]? : Option Value) = some (.ref t_law_cases1))
    (zh_law_cases1 : PySem.W.codeHdIn K k_law_cases1 t_law_cases1 = true)
    (zn_law_cases1 : K.lookup t_law_cases1 = none)
    (zt_law_cases1 : t_law_cases1 ∈ ts)
    (zl_law : K.lookup k_law = some ⟨.type "code", zo_law, .fields vs_law, zs_law⟩)
    (zv_law : (vs_law[11]? : Option Value) = some (.ref t_law))
    (zh_law : PySem.W.codeHdIn K k_law t_law = true)
    (zn_law : K.lookup t_law = none)
    (zt_law : t_law ∈ ts)
    (ne_check_letters_can_be_hoisted : t_check_letters ≠ t_can_be_hoisted)
    (ne_check_letters_how_many_words : t_check_letters ≠ t_how_many_words)
    (ne_check_letters_law_cases1 : t_check_letters ≠ t_law_cases1)
    (ne_check_letters_law : t_check_letters ≠ t_law)
    (ne_can_be_hoisted_how_many_words : t_can_be_hoisted ≠ t_how_many_words)
    (ne_can_be_hoisted_law_cases1 : t_can_be_hoisted ≠ t_law_cases1)
    (ne_can_be_hoisted_law : t_can_be_hoisted ≠ t_law)
    (ne_how_many_words_law_cases1 : t_how_many_words ≠ t_law_cases1)
    (ne_how_many_words_law : t_how_many_words ≠ t_law)
    (ne_law_cases1_law : t_law_cases1 ≠ t_law) :
    LawAtS l w K (L2.CX l.prog w) 8 63 "script" mg fa h := by
  have M : ∀ {x : Str} {v : Value}, PySem.W.nsIn K mainGlobals x = some (some v) → mg x = some v := fun e => PySem.W.mg_of X hN e
  have M0 : ∀ {x : Str}, PySem.W.nsIn K mainGlobals x = some none → mg x = none := fun e => PySem.W.mg_none_of X hN e
  have e := hfa.symm.trans (M nk_law)
  have e2 : f_law = fa := by injection e with e; injection e with e; exact e.symm
  subst e2
  have TT : ∀ base : Heap, (∀ p ∈ ([(k_check_letters, t_check_letters), (k_can_be_hoisted, t_can_be_hoisted), (k_how_many_words, t_how_many_words), (k_law_cases1, t_law_cases1), (k_law, t_law)] : List (Addr × Addr)), TabB base mg p.1 p.2) → Txt w K mg base ⟨f_law_dice, f_law_roll, f_law_rounds, f_law_told, f_law_hoist, f_check_letters, f_hoisted, f_can_be_hoisted, f_read_hoist, f_is_usual, f_law_read, f_upside_read, f_law_flat, f_how_many_words, f_all_words, f_in_parts, f_flags_needed, f_law_cases1, f_law, x_BadBook, x_BadFlag, x_BadFleet, x_BadHoist, x_Foul, x_NoWay, x_TooLarge, x_Unclear, x_BadText, k_check_letters, t_check_letters, k_can_be_hoisted, t_can_be_hoisted, k_how_many_words, t_how_many_words, k_law_cases1, t_law_cases1, k_law, t_law⟩ := fun base hTB => {
    b_range := M0 bz_range,
    b_len := M0 bz_len,
    b_dict := M0 bz_dict,
    b_any := M0 bz_any,
    b_enumerate := M0 bz_enumerate,
    b_all := M0 bz_all,
    b_int := M0 bz_int,
    b_list := M0 bz_list,
    b_reversed := M0 bz_reversed,
    b_max := M0 bz_max,
    b_sum := M0 bz_sum,
    b_tuple := M0 bz_tuple,
    b_min := M0 bz_min,
    b_sorted := M0 bz_sorted,
    b_abs := M0 bz_abs,
    g_law_dice := M nk_law_dice,
    e_law_dice := funE_of lk_law_dice dk_law_dice kk_law_dice (fun us hl => match us, hl with | [_], _ => rfl),
    g_law_roll := M nk_law_roll,
    e_law_roll := funE_of lk_law_roll dk_law_roll kk_law_roll (fun us hl => match us, hl with | [_, _], _ => rfl),
    g_law_rounds := M nk_law_rounds,
    e_law_rounds := funE_of lk_law_rounds dk_law_rounds kk_law_rounds (fun us hl => match us, hl with | [_, _], _ => rfl),
    g_law_told := M nk_law_told,
    l_told := ⟨_, _, _, _, _, _, _, _, _, lk_law_told, dk_law_told, kk_law_told, .all (fun us hl => match us, hl with | [_], _ => rfl)⟩,
    g_law_hoist := M nk_law_hoist,
    e_law_hoist := funE_of lk_law_hoist dk_law_hoist kk_law_hoist (fun us hl => match us, hl with | [_], _ => rfl),
    g_check_letters := M nk_check_letters,
    e_check_letters := funC_of lk_check_letters dk_check_letters kk_check_letters (fun us hl => match us, hl with | [_], _ => rfl),
    g_hoisted := M nk_hoisted,
    e_hoisted := funE_of lk_hoisted dk_hoisted kk_hoisted (fun us hl => match us, hl with | [_], _ => rfl),
    g_can_be_hoisted := M nk_can_be_hoisted,
    e_can_be_hoisted := funC_of lk_can_be_hoisted dk_can_be_hoisted kk_can_be_hoisted (fun us hl => match us, hl with | [_], _ => rfl),
    g_read_hoist := M nk_read_hoist,
    e_read_hoist := funE_of lk_read_hoist dk_read_hoist kk_read_hoist (fun us hl => match us, hl with | [_], _ => rfl),
    g_is_usual := M nk_is_usual,
    e_is_usual := funE_of lk_is_usual dk_is_usual kk_is_usual (fun us hl => match us, hl with | [_], _ => rfl),
    g_law_read := M nk_law_read,
    e_law_read := funE_of lk_law_read dk_law_read kk_law_read (fun us hl => match us, hl with | [_], _ => rfl),
    g_upside_read := M nk_upside_read,
    e_upside_read := funE_of lk_upside_read dk_upside_read kk_upside_read (fun us hl => match us, hl with | [_], _ => rfl),
    g_law_flat := M nk_law_flat,
    e_law_flat := funE_of lk_law_flat dk_law_flat kk_law_flat (fun us hl => match us, hl with | [_], _ => rfl),
    g_how_many_words := M nk_how_many_words,
    e_how_many_words := funC_of lk_how_many_words dk_how_many_words kk_how_many_words (fun us hl => match us, hl with | [_, _], _ => rfl),
    g_all_words := M nk_all_words,
    e_all_words := funE_of lk_all_words dk_all_words kk_all_words (fun us hl => match us, hl with | [_, _], _ => rfl),
    g_in_parts := M nk_in_parts,
    e_in_parts := funE_of lk_in_parts dk_in_parts kk_in_parts (fun us hl => match us, hl with | [_], _ => rfl),
    g_flags_needed := M nk_flags_needed,
    e_flags_needed := funE_of lk_flags_needed dk_flags_needed kk_flags_needed (fun us hl => match us, hl with | [_], _ => rfl),
    g_law_cases1 := M nk_law_cases1,
    e_law_cases1 := funC_of lk_law_cases1 dk_law_cases1 kk_law_cases1 (fun us hl => match us, hl with | [], _ => rfl),
    g_law := M nk_law,
    e_law := funC_of lk_law dk_law kk_law (fun us hl => match us, hl with | [_], _ => rfl),
    x_BadBook := ⟨xe_BadBook, M xn_BadBook, xk_BadBook, xs_BadBook, xt_BadBook⟩,
    x_BadFlag := ⟨xe_BadFlag, M xn_BadFlag, xk_BadFlag, xs_BadFlag, xt_BadFlag⟩,
    x_BadFleet := ⟨xe_BadFleet, M xn_BadFleet, xk_BadFleet, xs_BadFleet, xt_BadFleet⟩,
    x_BadHoist := ⟨xe_BadHoist, M xn_BadHoist, xk_BadHoist, xs_BadHoist, xt_BadHoist⟩,
    x_Foul := M xn_Foul,
    x_NoWay := ⟨xe_NoWay, M xn_NoWay, xk_NoWay, xs_NoWay, xt_NoWay⟩,
    x_TooLarge := ⟨xe_TooLarge, M xn_TooLarge, xk_TooLarge, xs_TooLarge, xt_TooLarge⟩,
    x_Unclear := M xn_Unclear,
    x_BadText := M xn_BadText,
    exm := exm_by exq,
    v_MOST_FLAGS := glD_of rfl (M cn_MOST_FLAGS) cq_MOST_FLAGS,
    v_SUBSTITUTES := glD_of rfl (M cn_SUBSTITUTES) cq_SUBSTITUTES,
    tb_check_letters := hTB (k_check_letters, t_check_letters) (by simp),
    tb_can_be_hoisted := hTB (k_can_be_hoisted, t_can_be_hoisted) (by simp),
    tb_how_many_words := hTB (k_how_many_words, t_how_many_words) (by simp),
    tb_law_cases1 := hTB (k_law_cases1, t_law_cases1) (by simp),
    tb_law := hTB (k_law, t_law) (by simp),
    ne_check_letters_can_be_hoisted := ne_check_letters_can_be_hoisted,
    ne_check_letters_how_many_words := ne_check_letters_how_many_words,
    ne_check_letters_law_cases1 := ne_check_letters_law_cases1,
    ne_check_letters_law := ne_check_letters_law,
    ne_can_be_hoisted_how_many_words := ne_can_be_hoisted_how_many_words,
    ne_can_be_hoisted_law_cases1 := ne_can_be_hoisted_law_cases1,
    ne_can_be_hoisted_law := ne_can_be_hoisted_law,
    ne_how_many_words_law_cases1 := ne_how_many_words_law_cases1,
    ne_how_many_words_law := ne_how_many_words_law,
    ne_law_cases1_law := ne_law_cases1_law }
  refine ⟨_, [(k_check_letters, t_check_letters), (k_can_be_hoisted, t_can_be_hoisted), (k_how_many_words, t_how_many_words), (k_law_cases1, t_law_cases1), (k_law, t_law)], spLaw K (tabsA ⟨f_law_dice, f_law_roll, f_law_rounds, f_law_told, f_law_hoist, f_check_letters, f_hoisted, f_can_be_hoisted, f_read_hoist, f_is_usual, f_law_read, f_upside_read, f_law_flat, f_how_many_words, f_all_words, f_in_parts, f_flags_needed, f_law_cases1, f_law, x_BadBook, x_BadFlag, x_BadFleet, x_BadHoist, x_Foul, x_NoWay, x_TooLarge, x_Unclear, x_BadText, k_check_letters, t_check_letters, k_can_be_hoisted, t_can_be_hoisted, k_how_many_words, t_how_many_words, k_law_cases1, t_law_cases1, k_law, t_law⟩), fun p hp => ?_, fun p hp => ?_, fun p hp => ?_, fun s u => .of_eq rfl, fun H a ns hl hb hT hS => ⟨a, ns, rfl, hS, fun p hp => ?_, fun _ => rfl⟩, fun base _ _ hTB => ok_law (TT base hTB) lk_law dk_law hF⟩
  · simp only [List.mem_cons, List.not_mem_nil, or_false] at hp
    rcases hp with rfl | rfl | rfl | rfl | rfl
    · exact hTS _ zt_check_letters
    · exact hTS _ zt_can_be_hoisted
    · exact hTS _ zt_how_many_words
    · exact hTS _ zt_law_cases1
    · exact hTS _ zt_law
  · simp only [List.mem_cons, List.not_mem_nil, or_false] at hp
    rcases hp with rfl | rfl | rfl | rfl | rfl
    · exact zn_check_letters
    · exact zn_can_be_hoisted
    · exact zn_how_many_words
    · exact zn_law_cases1
    · exact zn_law
  · simp only [List.mem_cons, List.not_mem_nil, or_false] at hp
    rcases hp with rfl | rfl | rfl | rfl | rfl
    · exact PySem.W.codeHd_of_K X zh_check_letters
    · exact PySem.W.codeHd_of_K X zh_can_be_hoisted
    · exact PySem.W.codeHd_of_K X zh_how_many_words
    · exact PySem.W.codeHd_of_K X zh_law_cases1
    · exact PySem.W.codeHd_of_K X zh_law
  · unfold tabsA at hp
    simp only [List.mem_cons, List.not_mem_nil, or_false] at hp
    rcases hp with rfl | rfl | rfl | rfl | rfl
    · exact hT (k_check_letters, t_check_letters) (by simp)
    · exact hT (k_can_be_hoisted, t_can_be_hoisted) (by simp)
    · exact hT (k_how_many_words, t_how_many_words) (by simp)
    · exact hT (k_law_cases1, t_law_cases1) (by simp)
    · exact hT (k_law, t_law) (by simp)
end K02
set_option Elab.async false
set_option linter.all false
set_option maxRecDepth 100000
namespace K02
open DL PySem PySem.Spec PyProof.Rows
def LW1 : LE → R Out := (setK 2 (valK (bmE "str" joinD (cst (.str [])) (acons (lE (compF (rng1E (acons (opE addD (cst (.int 1)) (callE rollD (acons (var 1) (acons (cst (.int 4)) anil)))) anil)) (gN 3) yesT (subE (cst (.str [97, 98, 99])) (callE rollD (acons (var 1) (acons (cst (.int 3)) anil)))) [3])) anil))))
def LW2 : LE → R Out := (setK 4 (valK (callE D_law_hoist (acons (var 2) anil))))
def LW3 : LE → R Out := (setK 5 (valK (opE neD (lE (compF (itS (cst (.str [97, 98, 99]))) (gN 6) (cmpT gtD (bmE "str" countD (var 2) (acons (var 6) anil)) (cst (.int 2))) (var 6) [6])) (lE (lstE anil)))))
def LW4 : LE → R Out := (ifS (orT (cmpT neD (toldE toldL (callE D_hoisted (acons (var 2) anil))) (var 4)) (orT (cmpT eqD (callE D_can_be_hoisted (acons (var 2) anil)) (var 5)) (cmpT neD (opE eqD (var 4) (cst (.str [104, 111, 105, 115, 116]))) (var 5))))
    (retS (cst (.bl false)))
    skipS)
def LW5 : LE → R Out := (ifS (andT (cmpT neD (var 4) (cst (.str [104, 111, 105, 115, 116]))) (orT (cmpT neD (callE D_read_hoist (acons (var 4) anil)) (var 2)) (notT (valT (callE D_is_usual (acons (var 4) anil))))))
    (retS (cst (.bl false)))
    skipS)
def LW6 : LE → R Out := (setK 7 (valK (bmE "str" joinD (cst (.str [])) (acons (lE (compF (rng1E (acons (opE addD (cst (.int 1)) (callE rollD (acons (var 1) (acons (cst (.int 4)) anil)))) anil)) (gN 3) yesT (subE (cst (.str [97, 98, 49, 50, 51])) (callE rollD (acons (var 1) (acons (cst (.int 5)) anil)))) [3])) anil))))
def LW7 : LE → R Out := (setK 8 (valK (callE D_law_read (acons (var 7) anil))))
def LW8 : LE → R Out := (ifS (cmpT neD (toldE toldL (callE D_read_hoist (acons (var 7) anil))) (var 8))
    (retS (cst (.bl false)))
    skipS)
def LW9 : LE → R Out := (ifS (cmpT neD (callE D_is_usual (acons (var 7) anil)) (andV (opE neD (var 8) (cst (.str [104, 111, 105, 115, 116]))) (opE eqD (callE D_law_hoist (acons (var 8) anil)) (var 7))))
    (retS (cst (.bl false)))
    skipS)
def LW10 : LE → R Out := (setK 9 (valK (callE D_law_read (acons (bmE "str" joinD (cst (.str [])) (acons (lE (revE (var 7))) anil)) anil))))
def LW11 : LE → R Out := (ifS (cmpT neD (callE D_upside_read (acons (var 7) anil)) (iteE (cmpT neD (var 9) (cst (.str [104, 111, 105, 115, 116]))) (var 9) (cst .non)))
    (retS (cst (.bl false)))
    skipS)
def LW12 : LE → R Out := (asgS (tupE (acons (callE rollD (acons (var 1) (acons (cst (.int 4)) anil))) (acons (opE addD (cst (.int 1)) (callE rollD (acons (var 1) (acons (cst (.int 4)) anil)))) anil))) (gTup_ 2 (gCons_ (gN 10) (gCons_ (gN 11) gNil_))))
def LW13 : LE → R Out := (setK 12 (valK (lE (lstE (acons (cst (.str [])) anil)))))
def LW14 : LE → R Out := (forS (rng1E (acons (var 11) anil)) (gN 3)
    (setK 12 (valK (callE D_law_flat (acons (lE (compF (itL (var 12)) (gN 13) yesT (lE (compF (itS (sliceE (cst (.str [97, 98, 99])) noP (someP (var 10)))) (gN 6) yesT (opE addD (var 13) (var 6)) [6])) [13])) anil)))))
def LW15 : LE → R Out := (setK 14 (ownK (compF (itL (var 12)) (gN 13) (cmpT neD (callE D_law_hoist (acons (var 13) anil)) (cst (.str [104, 111, 105, 115, 116]))) (var 13) [13])))
def LW16 : LE → R Out := (ifS (orT (cmpT neD (callE D_how_many_words (acons (var 10) (acons (var 11) anil))) (callE lenX (acons (varP 14) anil))) (cmpT neD (lE (callF listD (acons (callE D_all_words (acons (var 10) (acons (var 11) anil))) anil))) (varP 14)))
    (retS (cst (.bl false)))
    skipS)
def LW17 : LE → R Out := (setK 15 (valK (bmE "str" joinD (cst (.str [])) (acons (lE (compF (rng1E (acons (callE rollD (acons (var 1) (acons (cst (.int 8)) anil))) anil)) (gN 3) yesT (subE (cst (.str [97, 97, 98])) (callE rollD (acons (var 1) (acons (cst (.int 3)) anil)))) [3])) anil))))
def LW18 : LE → R Out := (setK 16 (valK (callE D_in_parts (acons (var 15) anil))))
def LW19 : LE → R Out := (ifS (orT (cmpT neD (bmE "str" joinD (cst (.str [])) (acons (var 16) anil)) (var 15)) (cmpT neD (lE (compF (itT (var 16)) (gN 13) (cmpT eqD (callE D_law_hoist (acons (var 13) anil)) (cst (.str [104, 111, 105, 115, 116]))) (var 13) [13])) (lE (lstE anil))))
    (retS (cst (.bl false)))
    skipS)
def LW20 : LE → R Out := (forS (rng1E (acons (opE subD (callE lenX (acons (var 16) anil)) (cst (.int 1))) anil)) (gN 3)
    (seqS (setK 17 (valK (opE addD (subE (var 16) (var 3)) (subE (subE (var 16) (opE addD (var 3) (cst (.int 1)))) (cst (.int 0))))))
    (ifS (andT (cmpT ltD (callE lenX (acons (subE (var 16) (var 3)) anil)) (cst (.int 4))) (cmpT neD (callE D_law_hoist (acons (var 17) anil)) (cst (.str [104, 111, 105, 115, 116]))))
    (retS (cst (.bl false)))
    skipS)))
def LW21 : LE → R Out := (setK 18 (valK (bmE "str" joinD (cst (.str [])) (acons (lE (compF (itT (var 16)) (gN 13) yesT (callE D_law_hoist (acons (var 13) anil)) [13])) anil))))
def LW22 : LE → R Out := (ifS (cmpT neD (callE D_flags_needed (acons (var 16) anil)) (bmE "str" joinD (cst (.str [])) (acons (lE (compF (itS (cst (.str [97, 98, 49, 50, 51]))) (gN 6) (cmpT inD (var 6) (var 18)) (var 6) [6])) anil)))
    (retS (cst (.bl false)))
    skipS)
def LW23 : LE → R Out := (ifS (notT (valT (fun _ => D_law_cases1 [])))
    (retS (cst (.bl false)))
    skipS)
/-- the state between groups -/
def okS : LE → Bool
  | [_, .val .dice, _, _, _, _, _, _, _, _, _, _, _, _, _, _, _, _, _] => true
  | _ => false
def G1 : List (LE → R Out) := [LW1, LW2, LW3, LW4, LW5]
def G2 : List (LE → R Out) := [LW6, LW7, LW8, LW9, LW10, LW11]
def G3 : List (LE → R Out) := [LW12, LW13, LW14, LW15, LW16]
theorem g1 (c0 c2 c3 c4 c5 c6 c7 c8 c9 c10 c11 c12 c13 c14 c15 c16 c17 c18 : Cell) : Ck (runAll G1 [c0, .val .dice, c2, c3, c4, c5, c6, c7, c8, c9, c10, c11, c12, c13, c14, c15, c16, c17, c18]) okS := ⟨by kernel_rfl⟩
end K02
set_option Elab.async false
set_option linter.all false
set_option maxRecDepth 100000
namespace K02
open DL PySem PySem.Spec PyProof.Rows
theorem g2 (c0 c2 c3 c4 c5 c6 c7 c8 c9 c10 c11 c12 c13 c14 c15 c16 c17 c18 : Cell) : Ck (runAll G2 [c0, .val .dice, c2, c3, c4, c5, c6, c7, c8, c9, c10, c11, c12, c13, c14, c15, c16, c17, c18]) okS := ⟨by kernel_rfl⟩
end K02
set_option Elab.async false
set_option linter.all false
set_option maxRecDepth 100000
namespace K02
open DL PySem PySem.Spec PyProof.Rows
theorem g3 (c0 c2 c3 c4 c5 c6 c7 c8 c9 c10 c11 c12 c13 c14 c15 c16 c17 c18 : Cell) : Ck (runAll G3 [c0, .val .dice, c2, c3, c4, c5, c6, c7, c8, c9, c10, c11, c12, c13, c14, c15, c16, c17, c18]) okS := ⟨by kernel_rfl⟩
end K02
set_option Elab.async false
set_option linter.all false
set_option maxRecDepth 100000
namespace K02
open DL PySem PySem.Spec PyProof.Rows
def G4 : List (LE → R Out) := [LW18, LW19, LW20, LW21, LW22]
theorem g4 (c0 c2 c3 c4 c5 c6 c7 c8 c9 c10 c11 c12 c13 c14 c16 c17 c18 : Cell) : ((List.range 8).all fun n => allT [97, 98] n fun s => ckR (runAll G4 [c0, .val .dice, c2, c3, c4, c5, c6, c7, c8, c9, c10, c11, c12, c13, c14, .val (.str s), c16, c17, c18]) okS) = true := by kernel_rfl
theorem g5 : Ck (D_law_cases1 []) (fun d => match d with
  | .bl b => b
  | _ => false) := ⟨by kernel_rfl⟩
end K02
set_option Elab.async false
set_option linter.all false
set_option maxRecDepth 100000
namespace K02
open DL PySem PySem.Spec PyProof.Rows
theorem okS_cells {P : LE → Prop} (h : ∀ c0 c2 c3 c4 c5 c6 c7 c8 c9 c10 c11 c12 c13 c14 c15 c16 c17 c18, P [c0, .val .dice, c2, c3, c4, c5, c6, c7, c8, c9, c10, c11, c12, c13, c14, c15, c16, c17, c18]) : ∀ r, okS r = true → P r := fun r e => by
  unfold okS at e
  split at e
  · exact h ..
  · cases e
abbrev Done (o : Out) : Prop := ∃ r, o = .nx r ∨ o = .ct r
def t17i : LE → R (List D) := (rng1E (acons (callE rollD (acons (var 1) (acons (cst (.int 8)) anil))) anil))
def t17e : LE → R D := (subE (cst (.str [97, 97, 98])) (callE rollD (acons (var 1) (acons (cst (.int 3)) anil))))
def t17 : LE → R D := (bmE "str" joinD (cst (.str [])) (acons (lE (compF t17i (gN 3) yesT t17e [3])) anil))
theorem lw17 : LW17 = setK 15 (valK t17) := rfl
theorem i17 (c0 c2 c3 c4 c5 c6 c7 c8 c9 c10 c11 c12 c13 c14 c15 c16 c17 c18 : Cell) : Ck (t17i [c0, .val .dice, c2, c3, c4, c5, c6, c7, c8, c9, c10, c11, c12, c13, c14, c15, c16, c17, c18]) (fun ds => decide (ds.length < 8)) := ⟨by kernel_rfl⟩
theorem e17 (c0 c2 c4 c5 c6 c7 c8 c9 c10 c11 c12 c13 c14 c15 c16 c17 c18 : Cell) (d : D) : Ck (t17e [c0, .val .dice, c2, .val d, c4, c5, c6, c7, c8, c9, c10, c11, c12, c13, c14, c15, c16, c17, c18]) (sign? [97, 98]) := ⟨by kernel_rfl⟩
theorem s17 (c0 c2 c3 c4 c5 c6 c7 c8 c9 c10 c11 c12 c13 c14 c15 c16 c17 c18 : Cell) : Wr (runAll [LW17] [c0, .val .dice, c2, c3, c4, c5, c6, c7, c8, c9, c10, c11, c12, c13, c14, c15, c16, c17, c18]) (fun r => ∃ s : List Nat, s.length < 8 ∧ (∀ c ∈ s, c ∈ [97, 98]) ∧ r = [c0, .val .dice, c2, c3, c4, c5, c6, c7, c8, c9, c10, c11, c12, c13, c14, .val (.str s), c16, c17, c18]) := by
  rw [lw17]
  exact Wr.run1 (text_wp [97, 98] 8 (by decide) ((i17 ..).wr fun ds hd => of_decide_eq_true hd) (fun d => ⟨_, rfl, (e17 ..).wr fun x hx => sign_of hx⟩) fun s hl hs => ⟨s, hl, hs, rfl⟩)
theorem g4_at (c0 c2 c3 c4 c5 c6 c7 c8 c9 c10 c11 c12 c13 c14 c16 c17 c18 : Cell) (s : List Nat) (hl : s.length < 8) (hs : ∀ c ∈ s, c ∈ [97, 98]) : Ck (runAll G4 [c0, .val .dice, c2, c3, c4, c5, c6, c7, c8, c9, c10, c11, c12, c13, c14, .val (.str s), c16, c17, c18]) okS := by
  have h := g4 c0 c2 c3 c4 c5 c6 c7 c8 c9 c10 c11 c12 c13 c14 c16 c17 c18
  rw [List.all_eq_true] at h
  exact ⟨allT_at (h s.length (List.mem_range.mpr hl)) s rfl hs⟩
theorem fe : F_law = seqAll G1 (seqAll G2 (seqAll G3 (seqS LW17 (seqAll G4 LW23)))) := rfl
theorem lw23 : LW23 = (ifS (notT (valT (fun _ => D_law_cases1 [])))
    (retS (cst (.bl false)))
    skipS) := rfl
theorem end_go (r : LE) : GoP Done LW23 r := ⟨by
  rw [lw23, ifS_eq]
  refine Wp_onS ?_
  rw [notT_eq, valT_eq]
  refine Wp.of_bind (Wp.of_bind (g5.wp.mono (fun d hd => ?_) fun _ z => z.elim))
  split at hd
  · subst hd
    exact ⟨_, .inl rfl⟩
  · cases hd⟩
theorem law_go : GoP Done F_law (r0 19) := by
  refine GoP.grp G1 fe okS (g1 .un .un .un .un .un .un .un .un .un .un .un .un .un .un .un .un .un .un) ?_
  refine okS_cells fun c0 c2 c3 c4 c5 c6 c7 c8 c9 c10 c11 c12 c13 c14 c15 c16 c17 c18 => ?_
  refine GoP.grp G2 rfl okS (g2 ..) ?_
  refine okS_cells fun c0 c2 c3 c4 c5 c6 c7 c8 c9 c10 c11 c12 c13 c14 c15 c16 c17 c18 => ?_
  refine GoP.grp G3 rfl okS (g3 ..) ?_
  refine okS_cells fun c0 c2 c3 c4 c5 c6 c7 c8 c9 c10 c11 c12 c13 c14 c15 c16 c17 c18 => ?_
  refine GoP.one rfl (s17 ..) ?_
  rintro r' ⟨s, hl, hs, rfl⟩
  refine GoP.grp G4 rfl okS (g4_at _ _ _ _ _ _ _ _ _ _ _ _ _ _ _ _ _ s hl hs) ?_
  exact fun r _ => end_go r
theorem holds : LawOk F_law 19 := .of law_go
end K02
local macro_rules | `(tactic| o_head ($f $k $a $e $t)) => `(tactic| o_head ((PySem.W.kmHook $k $a $e [164,178,199,275,282] : _)))
open PySem PySem.W PyProof.Rows in
set_option maxRecDepth 100000 in
set_option maxHeartbeats 0 in
theorem PySem.Challenge.cw_flaghall_k02_hoists_holds : PySem.Challenge.rw_flaghall_k02_hoists.Holds := by
  w_on; o_law; k_head; (case hw => w_witness2)
  k_fill
  refine LamX.walk_ofTs (l := PySem.Challenge.rw_flaghall_k02_hoists) (n := 63) (k := 8) (x := "script") (CX := fun w => L2.CX PySem.Challenge.rw_flaghall_k02_hoists.prog w) rfl (by decide) rfl ⟨rfl, by decide, by decide⟩ (fun w h Y => PySem.W.km_in_of Y) ?F (fun w H s e s' z => by obtain ⟨_, _, _, _, _, _, _, _, _, _, _, _, z⟩ := z; exact z)
  case F =>
    intro w mg fa h Y KX hN hmg
    refine' K02.all_mk KX hN hmg (PySem.W.km_tabs_of Y) K02.holds ?nk_law_dice ?lk_law_dice ?dk_law_dice ?kk_law_dice ?nk_law_roll ?lk_law_roll ?dk_law_roll ?kk_law_roll ?nk_law_rounds ?lk_law_rounds ?dk_law_rounds ?kk_law_rounds ?nk_law_told ?lk_law_told ?dk_law_told ?kk_law_told ?nk_law_hoist ?lk_law_hoist ?dk_law_hoist ?kk_law_hoist ?nk_check_letters ?lk_check_letters ?dk_check_letters ?kk_check_letters ?nk_hoisted ?lk_hoisted ?dk_hoisted ?kk_hoisted ?nk_can_be_hoisted ?lk_can_be_hoisted ?dk_can_be_hoisted ?kk_can_be_hoisted ?nk_read_hoist ?lk_read_hoist ?dk_read_hoist ?kk_read_hoist ?nk_is_usual ?lk_is_usual ?dk_is_usual ?kk_is_usual ?nk_law_read ?lk_law_read ?dk_law_read ?kk_law_read ?nk_upside_read ?lk_upside_read ?dk_upside_read ?kk_upside_read ?nk_law_flat ?lk_law_flat ?dk_law_flat ?kk_law_flat ?nk_how_many_words ?lk_how_many_words ?dk_how_many_words ?kk_how_many_words ?nk_all_words ?lk_all_words ?dk_all_words ?kk_all_words ?nk_in_parts ?lk_in_parts ?dk_in_parts ?kk_in_parts ?nk_flags_needed ?lk_flags_needed ?dk_flags_needed ?kk_flags_needed ?nk_law_cases1 ?lk_law_cases1 ?dk_law_cases1 ?kk_law_cases1 ?nk_law ?lk_law ?dk_law ?kk_law ?xn_BadBook ?xe_BadBook ?xk_BadBook ?xs_BadBook ?xt_BadBook ?xn_BadFlag ?xe_BadFlag ?xk_BadFlag ?xs_BadFlag ?xt_BadFlag ?xn_BadFleet ?xe_BadFleet ?xk_BadFleet ?xs_BadFleet ?xt_BadFleet ?xn_BadHoist ?xe_BadHoist ?xk_BadHoist ?xs_BadHoist ?xt_BadHoist ?xn_Foul ?xn_NoWay ?xe_NoWay ?xk_NoWay ?xs_NoWay ?xt_NoWay ?xn_TooLarge ?xe_TooLarge ?xk_TooLarge ?xs_TooLarge ?xt_TooLarge ?xn_Unclear ?xn_BadText ?exq ?bz_range ?bz_len ?bz_dict ?bz_any ?bz_enumerate ?bz_all ?bz_int ?bz_list ?bz_reversed ?bz_max ?bz_sum ?bz_tuple ?bz_min ?bz_sorted ?bz_abs ?cn_MOST_FLAGS ?cq_MOST_FLAGS ?cn_SUBSTITUTES ?cq_SUBSTITUTES ?zl_check_letters ?zv_check_letters ?zh_check_letters ?zn_check_letters ?zt_check_letters ?zl_can_be_hoisted ?zv_can_be_hoisted ?zh_can_be_hoisted ?zn_can_be_hoisted ?zt_can_be_hoisted ?zl_how_many_words ?zv_how_many_words ?zh_how_many_words ?zn_how_many_words ?zt_how_many_words ?zl_law_cases1 ?zv_law_cases1 ?zh_law_cases1 ?zn_law_cases1 ?zt_law_cases1 ?zl_law ?zv_law ?zh_law ?zn_law ?zt_law ?ne_check_letters_can_be_hoisted ?ne_check_letters_how_many_words ?ne_check_letters_law_cases1 ?ne_check_letters_law ?ne_can_be_hoisted_how_many_words ?ne_can_be_hoisted_law_cases1 ?ne_can_be_hoisted_law ?ne_how_many_words_law_cases1 ?ne_how_many_words_law ?ne_law_cases1_law
    (case nk_law_dice => k_is)
    (case lk_law_dice => k_is)
    (case dk_law_dice => k_is)
    (case kk_law_dice => k_is)
    (case nk_law_roll => k_is)
    (case lk_law_roll => k_is)
    (case dk_law_roll => k_is)
    (case kk_law_roll => k_is)
    (case nk_law_rounds => k_is)
    (case lk_law_rounds => k_is)
    (case dk_law_rounds => k_is)
    (case kk_law_rounds => k_is)
    (case nk_law_told => k_is)
    (case lk_law_told => k_is)
    (case dk_law_told => k_is)
    (case kk_law_told => k_is)
    (case nk_law_hoist => k_is)
    (case lk_law_hoist => k_is)
    (case dk_law_hoist => k_is)
    (case kk_law_hoist => k_is)
    (case nk_check_letters => k_is)
    (case lk_check_letters => k_is)
    (case dk_check_letters => k_is)
    (case kk_check_letters => k_is)
    (case nk_hoisted => k_is)
    (case lk_hoisted => k_is)
    (case dk_hoisted => k_is)
    (case kk_hoisted => k_is)
    (case nk_can_be_hoisted => k_is)
    (case lk_can_be_hoisted => k_is)
    (case dk_can_be_hoisted => k_is)
    (case kk_can_be_hoisted => k_is)
    (case nk_read_hoist => k_is)
    (case lk_read_hoist => k_is)
    (case dk_read_hoist => k_is)
    (case kk_read_hoist => k_is)
    (case nk_is_usual => k_is)
    (case lk_is_usual => k_is)
    (case dk_is_usual => k_is)
    (case kk_is_usual => k_is)
    (case nk_law_read => k_is)
    (case lk_law_read => k_is)
    (case dk_law_read => k_is)
    (case kk_law_read => k_is)
    (case nk_upside_read => k_is)
    (case lk_upside_read => k_is)
    (case dk_upside_read => k_is)
    (case kk_upside_read => k_is)
    (case nk_law_flat => k_is)
    (case lk_law_flat => k_is)
    (case dk_law_flat => k_is)
    (case kk_law_flat => k_is)
    (case nk_how_many_words => k_is)
    (case lk_how_many_words => k_is)
    (case dk_how_many_words => k_is)
    (case kk_how_many_words => k_is)
    (case nk_all_words => k_is)
    (case lk_all_words => k_is)
    (case dk_all_words => k_is)
    (case kk_all_words => k_is)
    (case nk_in_parts => k_is)
    (case lk_in_parts => k_is)
    (case dk_in_parts => k_is)
    (case kk_in_parts => k_is)
    (case nk_flags_needed => k_is)
    (case lk_flags_needed => k_is)
    (case dk_flags_needed => k_is)
    (case kk_flags_needed => k_is)
    (case nk_law_cases1 => k_is)
    (case lk_law_cases1 => k_is)
    (case dk_law_cases1 => k_is)
    (case kk_law_cases1 => k_is)
    (case nk_law => k_is)
    (case lk_law => k_is)
    (case dk_law => k_is)
    (case kk_law => k_is)
    (case xn_BadBook => k_is)
    (case xe_BadBook => k_exc)
    (case xk_BadBook => k_is)
    (case xs_BadBook => k_is)
    (case xt_BadBook => k_is)
    (case xn_BadFlag => k_is)
    (case xe_BadFlag => k_exc)
    (case xk_BadFlag => k_is)
    (case xs_BadFlag => k_is)
    (case xt_BadFlag => k_is)
    (case xn_BadFleet => k_is)
    (case xe_BadFleet => k_exc)
    (case xk_BadFleet => k_is)
    (case xs_BadFleet => k_is)
    (case xt_BadFleet => k_is)
    (case xn_BadHoist => k_is)
    (case xe_BadHoist => k_exc)
    (case xk_BadHoist => k_is)
    (case xs_BadHoist => k_is)
    (case xt_BadHoist => k_is)
    (case xn_Foul => k_is)
    (case xn_NoWay => k_is)
    (case xe_NoWay => k_exc)
    (case xk_NoWay => k_is)
    (case xs_NoWay => k_is)
    (case xt_NoWay => k_is)
    (case xn_TooLarge => k_is)
    (case xe_TooLarge => k_exc)
    (case xk_TooLarge => k_is)
    (case xs_TooLarge => k_is)
    (case xt_TooLarge => k_is)
    (case xn_Unclear => k_is)
    (case xn_BadText => k_is)
    (case exq => kernel_rfl)
    (case bz_range => k_is)
    (case bz_len => k_is)
    (case bz_dict => k_is)
    (case bz_any => k_is)
    (case bz_enumerate => k_is)
    (case bz_all => k_is)
    (case bz_int => k_is)
    (case bz_list => k_is)
    (case bz_reversed => k_is)
    (case bz_max => k_is)
    (case bz_sum => k_is)
    (case bz_tuple => k_is)
    (case bz_min => k_is)
    (case bz_sorted => k_is)
    (case bz_abs => k_is)
    (case cn_MOST_FLAGS => k_is)
    (case cq_MOST_FLAGS => kernel_rfl)
    (case cn_SUBSTITUTES => k_is)
    (case cq_SUBSTITUTES => kernel_rfl)
    (case zl_check_letters => k_is)
    (case zv_check_letters => rfl)
    (case zh_check_letters => kernel_rfl)
    (case zn_check_letters => kernel_rfl)
    (case zt_check_letters => decide)
    (case zl_can_be_hoisted => k_is)
    (case zv_can_be_hoisted => rfl)
    (case zh_can_be_hoisted => kernel_rfl)
    (case zn_can_be_hoisted => kernel_rfl)
    (case zt_can_be_hoisted => decide)
    (case zl_how_many_words => k_is)
    (case zv_how_many_words => rfl)
    (case zh_how_many_words => kernel_rfl)
    (case zn_how_many_words => kernel_rfl)
    (case zt_how_many_words => decide)
    (case zl_law_cases1 => k_is)
    (case zv_law_cases1 => rfl)
    (case zh_law_cases1 => kernel_rfl)
    (case zn_law_cases1 => kernel_rfl)
    (case zt_law_cases1 => decide)
    (case zl_law => k_is)
    (case zv_law => rfl)
    (case zh_law => kernel_rfl)
    (case zn_law => kernel_rfl)
    (case zt_law => decide)
    (case ne_check_letters_can_be_hoisted => decide)
    (case ne_check_letters_how_many_words => decide)
    (case ne_check_letters_law_cases1 => decide)
    (case ne_check_letters_law => decide)
    (case ne_can_be_hoisted_how_many_words => decide)
    (case ne_can_be_hoisted_law_cases1 => decide)
    (case ne_can_be_hoisted_law => decide)
    (case ne_how_many_words_law_cases1 => decide)
    (case ne_how_many_words_law => decide)
    (case ne_law_cases1_law => decide)
