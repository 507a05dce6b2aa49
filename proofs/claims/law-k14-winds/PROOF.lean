import PyProof.Rows.All
import Wide.All
import OpenK.AllK
import Wide.FinOn
import HandS.ForMost
import HandS.ForSpec
import HandS.CallSlots
import HandS.Lambda
import HandS.TryMany
import HandS.ExcInit
import HandS.TupAny
import HandS.TupLe
import HandS.Deep
import HandS.More
import HandS.WrittenGet
import HandS.ExcOwn
import KE.DataMinMax
import KE.DataCmp
import HandS.Strs
import HandS.Style
import HandS.Iter
import HandS.Sort
import HandS.EndTab
import KE.KNestM
import PySem.Challenge.RW_flaghall_k14_winds
set_option Elab.async false
set_option linter.all false
set_option maxRecDepth 100000
namespace DL
open PySem L2
/-- deep values -/
inductive D where
  | non
  | bl (b : Bool)
  | int (i : Int)
  | str (s : List Nat)
  | lst (xs : List D)
  | tup (xs : List D)
  | dic (kvs : List (D × D))
  | cdic (kvs : List (List Nat × D))
  | ins (c : Nat) (fs : List D)
  | dice
  | fn (n : Nat)
  deriving Inhabited
structure Exc where
  cls : Nat
  arg : D
/-- what a computation comes to; roll m k: some number below m is drawn -/
inductive R (α : Type) where
  | ok (a : α)
  | err (e : Exc)
  | stuck
  | roll (m : Nat) (k : Nat → R α)
namespace R
variable {α β : Type}
def bind : R α → (α → R β) → R β
  | .ok a, k => k a
  | .err e, _ => .err e
  | .stuck, _ => .stuck
  | .roll m f, k => .roll m fun i => (f i).bind k
instance : Monad R where
  pure := .ok
  bind := R.bind
@[simp] theorem ok_bind (a : α) (k : α → R β) : (R.ok a >>= k) = k a := rfl
@[simp] theorem err_bind (e : Exc) (k : α → R β) : ((R.err e : R α) >>= k) = .err e := rfl
@[simp] theorem stuck_bind (k : α → R β) : ((R.stuck : R α) >>= k) = .stuck := rfl
@[simp] theorem roll_bind (m : Nat) (f : Nat → R α) (k : α → R β) : (R.roll m f >>= k) = .roll m fun i => f i >>= k := rfl
@[simp] theorem pure_eq (a : α) : (pure a : R α) = .ok a := rfl
end R
def Wp {α : Type} : R α → (α → Prop) → (Exc → Prop) → Prop
  | .ok a, Q, _ => Q a
  | .err e, _, E => E e
  | .stuck, _, _ => False
  | .roll m k, Q, E => ∀ i, i < m → Wp (k i) Q E
section
variable {α β : Type} {Q Q' : α → Prop} {E E' : Exc → Prop}
theorem Wp.mono : ∀ {m : R α}, Wp m Q E → (∀ a, Q a → Q' a) → (∀ e, E e → E' e) → Wp m Q' E'
  | .ok a, h, q, _ => q a h
  | .err e, h, _, q => q e h
  | .stuck, h, _, _ => h
  | .roll _ _, h, q, q' => fun i hi => Wp.mono (h i hi) q q'
theorem Wp.thn {m : R α} (h : Wp m Q E) (q : ∀ a, Q a → Q' a) : Wp m Q' E := h.mono q fun _ x => x
theorem Wp.bind {k : α → R β} {Qb : β → Prop} : ∀ {m : R α}, Wp (m >>= k) Qb E → Wp m (fun a => Wp (k a) Qb E) E
  | .ok _, h => h
  | .err _, h => h
  | .stuck, h => h
  | .roll _ _, h => fun i hi => Wp.bind (h i hi)
theorem Wp.of_bind {k : α → R β} {Qb : β → Prop} : ∀ {m : R α}, Wp m (fun a => Wp (k a) Qb E) E → Wp (m >>= k) Qb E
  | .ok _, h => h
  | .err _, h => h
  | .stuck, h => h
  | .roll _ _, h => fun i hi => Wp.of_bind (h i hi)
end
structure Gm where
  K : PySem.W.Frag
  w : World
  cls : Nat → Addr
  flds : Nat → List Str
  fns : Nat → Addr
  xcls : Nat → Addr
  xfld : Nat → Option Str
  tabs : List (Addr × Str)
/-- a key of a dict -/
def D.key : D → Option Key
  | .int i => some (.inl i)
  | .str s => some (.inr ⟨s.toArray⟩)
  | _ => none
mutual
def Rep (G : Gm) (dl : Addr) (S : Hp) : D → V → Prop
  | .non, v => v = .non
  | .bl b, v => v = .bl b
  | .int i, v => v = .int i
  | .str s, v => v = .str ⟨s.toArray⟩
  | .lst ds, v => ∃ a vs, v = .ref a ∧ S a = some (.lst vs) ∧ RepL G dl S ds vs
  | .tup ds, v => ∃ a vs, v = .ref a ∧ SqT G.K S a vs ∧ RepL G dl S ds vs
  | .dic kvs, v => ∃ (a : Addr) (kv : List (Key × V)), v = .ref a ∧ Rd S a (.dK kv) ∧ RepK G dl S kvs kv
  | .cdic kvs, v => ∃ a, v = .ref a ∧ RepC G dl S a kvs
  | .ins c ds, v => ∃ a dx vs, v = .ref a ∧ S a = some (.ins (G.cls c) dx ((G.flds c).zip vs)) ∧ (G.flds c).length = vs.length ∧ RepL G dl S ds vs
  | .dice, v => v = .ref dl
  | .fn n, v => v = .ref (G.fns n)
def RepL (G : Gm) (dl : Addr) (S : Hp) : List D → List V → Prop
  | [], vs => vs = []
  | d :: ds, vs => ∃ v r, vs = v :: r ∧ Rep G dl S d v ∧ RepL G dl S ds r
def RepK (G : Gm) (dl : Addr) (S : Hp) : List (D × D) → List (Key × V) → Prop
  | [], vs => vs = []
  | (k, d) :: ds, vs => ∃ x v r, vs = (x, v) :: r ∧ k.key = some x ∧ Rep G dl S d v ∧ RepK G dl S ds r
def RepC (G : Gm) (dl : Addr) (S : Hp) (a : Addr) : List (List Nat × D) → Prop
  | [] => True
  | (k, d) :: ds => (∃ v, KDct G.K G.w a ⟨k.toArray⟩ v ∧ Rep G dl S d v) ∧ RepC G dl S a ds
end
/-- all but tables of code objects stays -/
abbrev GrowS (S S' : Hp) : Prop := LamX.ExtN S S'
theorem GrowS.rd {S S' : Hp} {a : Addr} {u : HO} (g : GrowS S S') (n : ∀ ps, u ≠ .tbl ps) (h : Rd S a u) : Rd S' a u := by
  rcases h with h | ⟨o, h⟩
  · exact .inl (g a _ h n)
  · exact .inr ⟨o, g a _ h fun ps z => by cases z⟩
theorem GrowS.sqt {K : PySem.W.Frag} {S S' : Hp} {a : Addr} {xs : List V} (g : GrowS S S') (h : SqT K S a xs) : SqT K S' a xs := by
  rcases h with h | h
  · exact .inl (g.rd (fun ps z => by cases z) h)
  · exact .inr h
mutual
theorem Rep.mono {G : Gm} {dl : Addr} {S S' : Hp} (g : GrowS S S') : ∀ (d : D) {v : V}, Rep G dl S d v → Rep G dl S' d v
  | .non, v, h => by unfold Rep at *; exact h
  | .bl b, v, h => by unfold Rep at *; exact h
  | .int i, v, h => by unfold Rep at *; exact h
  | .str s, v, h => by unfold Rep at *; exact h
  | .lst ds, v, h => by
    unfold Rep at *
    obtain ⟨a, vs, e, q, r⟩ := h
    exact ⟨a, vs, e, g a _ q (fun ps z => by cases z), RepL.mono g ds r⟩
  | .tup ds, v, h => by
    unfold Rep at *
    obtain ⟨a, vs, e, q, r⟩ := h
    exact ⟨a, vs, e, g.sqt q, RepL.mono g ds r⟩
  | .dic kvs, v, h => by
    unfold Rep at *
    obtain ⟨a, kv, e, q, r⟩ := h
    exact ⟨a, kv, e, g.rd (fun ps z => by cases z) q, RepK.mono g kvs r⟩
  | .cdic kvs, v, h => by
    unfold Rep at *
    obtain ⟨a, e, r⟩ := h
    exact ⟨a, e, RepC.mono g kvs r⟩
  | .ins c ds, v, h => by
    unfold Rep at *
    obtain ⟨a, dx, vs, e, q, l, r⟩ := h
    exact ⟨a, dx, vs, e, g a _ q (fun ps z => by cases z), l, RepL.mono g ds r⟩
  | .dice, v, h => by unfold Rep at *; exact h
  | .fn n, v, h => by unfold Rep at *; exact h
theorem RepL.mono {G : Gm} {dl : Addr} {S S' : Hp} (g : GrowS S S') : ∀ (ds : List D) {vs : List V}, RepL G dl S ds vs → RepL G dl S' ds vs
  | [], vs, h => by unfold RepL at *; exact h
  | d :: ds, vs, h => by
    unfold RepL at *
    obtain ⟨v, r, e, h1, h2⟩ := h
    exact ⟨v, r, e, Rep.mono g d h1, RepL.mono g ds h2⟩
theorem RepK.mono {G : Gm} {dl : Addr} {S S' : Hp} (g : GrowS S S') : ∀ (ds : List (D × D)) {vs : List (Key × V)}, RepK G dl S ds vs → RepK G dl S' ds vs
  | [], vs, h => by unfold RepK at *; exact h
  | (k, d) :: ds, vs, h => by
    unfold RepK at *
    obtain ⟨x, v, r, e, k, h1, h2⟩ := h
    exact ⟨x, v, r, e, k, Rep.mono g d h1, RepK.mono g ds h2⟩
theorem RepC.mono {G : Gm} {dl : Addr} {S S' : Hp} (g : GrowS S S') {a : Addr} : ∀ (ds : List (List Nat × D)), RepC G dl S a ds → RepC G dl S' a ds
  | [], h => by unfold RepC at *; exact h
  | (k, d) :: ds, h => by
    unfold RepC at *
    obtain ⟨⟨v, h1, h2⟩, h3⟩ := h
    exact ⟨⟨v, h1, Rep.mono g d h2⟩, RepC.mono g ds h3⟩
end
section
variable {G : Gm} {dl : Addr} {S : Hp}
theorem RepL.length : ∀ {ds : List D} {vs : List V}, RepL G dl S ds vs → vs.length = ds.length
  | [], vs, h => by unfold RepL at h; subst h; rfl
  | d :: ds, vs, h => by
    unfold RepL at h
    obtain ⟨v, r, rfl, _, h2⟩ := h
    rw [List.length_cons, List.length_cons, RepL.length h2]
theorem RepL.nil : RepL G dl S [] [] := by unfold RepL; rfl
theorem RepL.cons {d : D} {ds : List D} {v : V} {vs : List V} (h : Rep G dl S d v) (r : RepL G dl S ds vs) : RepL G dl S (d :: ds) (v :: vs) := by
  unfold RepL; exact ⟨v, vs, rfl, h, r⟩
theorem RepL.append : ∀ {ds es : List D} {vs us : List V}, RepL G dl S ds vs → RepL G dl S es us → RepL G dl S (ds ++ es) (vs ++ us)
  | [], es, vs, us, h, q => by unfold RepL at h; subst h; exact q
  | d :: ds, es, vs, us, h, q => by
    unfold RepL at h
    obtain ⟨v, r, rfl, h1, h2⟩ := h
    exact RepL.cons h1 (RepL.append h2 q)
theorem RepL.get : ∀ (ds : List D) (vs : List V) (i : Nat) (v : V), RepL G dl S ds vs → vs[i]? = some v → ∃ d, ds[i]? = some d ∧ Rep G dl S d v
  | [], vs, i, v, h, e => by unfold RepL at h; subst h; simp at e
  | d :: ds, vs, i, v, h, e => by
    unfold RepL at h
    obtain ⟨u, r, rfl, h1, h2⟩ := h
    cases i with
    | zero => simp at e; subst e; exact ⟨d, rfl, h1⟩
    | succ i => exact RepL.get ds r i v h2 (by simpa using e)
theorem RepL.getD : ∀ (ds : List D) (vs : List V) (i : Nat) (d : D), RepL G dl S ds vs → ds[i]? = some d → ∃ v, vs[i]? = some v ∧ Rep G dl S d v
  | [], vs, i, v, h, e => by simp at e
  | d' :: ds, vs, i, d, h, e => by
    unfold RepL at h
    obtain ⟨u, r, rfl, h1, h2⟩ := h
    cases i with
    | zero => simp at e; subst e; exact ⟨u, rfl, h1⟩
    | succ i => exact RepL.getD ds r i d h2 (by simpa using e)
theorem RepL.take : ∀ {ds : List D} {vs : List V} (n : Nat), RepL G dl S ds vs → RepL G dl S (ds.take n) (vs.take n)
  | _, _, 0, _ => by simp only [List.take_zero]; exact RepL.nil
  | [], vs, n + 1, h => by unfold RepL at h; subst h; exact RepL.nil
  | d :: ds, vs, n + 1, h => by
    unfold RepL at h
    obtain ⟨u, r, rfl, h1, h2⟩ := h
    exact RepL.cons h1 (RepL.take n h2)
theorem RepL.drop : ∀ {ds : List D} {vs : List V} (n : Nat), RepL G dl S ds vs → RepL G dl S (ds.drop n) (vs.drop n)
  | _, _, 0, h => h
  | [], vs, n + 1, h => by unfold RepL at h; subst h; exact RepL.nil
  | d :: ds, vs, n + 1, h => by
    unfold RepL at h
    obtain ⟨u, r, rfl, h1, h2⟩ := h
    exact RepL.drop n h2
theorem RepL.set : ∀ {ds : List D} {vs : List V} {d : D} {v : V} (n : Nat), RepL G dl S ds vs → Rep G dl S d v → RepL G dl S (ds.set n d) (vs.set n v)
  | [], vs, d, v, n, h, _ => by unfold RepL at h; subst h; exact RepL.nil
  | d' :: ds, vs, d, v, 0, h, q => by
    unfold RepL at h
    obtain ⟨u, r, rfl, h1, h2⟩ := h
    exact RepL.cons q h2
  | d' :: ds, vs, d, v, n + 1, h, q => by
    unfold RepL at h
    obtain ⟨u, r, rfl, h1, h2⟩ := h
    exact RepL.cons h1 (RepL.set n h2 q)
end
/-- without some addresses -/
def cut (H : Hp) (Z : List Addr) : Hp := fun a => if a ∈ Z then none else H a
theorem cut_in {H : Hp} {Z : List Addr} {a : Addr} (h : a ∈ Z) : cut H Z a = none := if_pos h
theorem cut_out {H : Hp} {Z : List Addr} {a : Addr} (h : a ∉ Z) : cut H Z a = H a := if_neg h
theorem cut_some {H : Hp} {Z : List Addr} {a : Addr} {o : HO} (h : cut H Z a = some o) : a ∉ Z ∧ H a = some o := by
  unfold cut at h
  split at h
  · cases h
  · exact ⟨by assumption, h⟩
theorem cut_grow (H : Hp) (Z : List Addr) : GrowS (cut H Z) H := fun a o h _ => (cut_some h).2
theorem cut_sub {H : Hp} {Z Z' : List Addr} (h : ∀ a ∈ Z', a ∈ Z) : GrowS (cut H Z) (cut H Z') := fun a o e _ => by
  obtain ⟨h1, h2⟩ := cut_some e
  rw [cut_out fun q => h1 (h a q)]
  exact h2
def Grow (dl : Addr) (H H' : Hp) : Prop := ∀ a o, H a = some o → a ≠ dl → (∀ ps, o ≠ .tbl ps) → H' a = some o
theorem Grow.refl (dl : Addr) (H : Hp) : Grow dl H H := fun _ _ h _ _ => h
theorem Grow.trans {dl : Addr} {H H1 H2 : Hp} (a : Grow dl H H1) (b : Grow dl H1 H2) : Grow dl H H2 := fun c o h n m => b c o (a c o h n m) n m
theorem Grow.new {dl : Addr} {H : Hp} {p : Addr} {o : HO} (h : H p = none) : Grow dl H (upd H p o) := fun a u e _ _ => by
  rw [upd_ne (ne_of_none e h)]; exact e
theorem Grow.cut {dl : Addr} {H H' : Hp} {Z : List Addr} (g : Grow dl H H') (hz : dl ∈ Z) : GrowS (cut H Z) (cut H' Z) := fun a o e n => by
  obtain ⟨h1, h2⟩ := cut_some e
  rw [cut_out h1]
  exact g a o h2 (fun q => h1 (q ▸ hz)) n
def DiceOk (H : Hp) (dl : Addr) : Prop := ∃ x y z : Int, H dl = some (.lst [.int x, .int y, .int z])
structure GlOk (G : Gm) (dl : Addr) (H : Hp) : Prop where
  dice : DiceOk H dl
  tab : LamX.Tabs G.tabs H
theorem GlOk.same {G : Gm} {dl : Addr} {H H' : Hp} (g : GlOk G dl H) (e : ∀ b o, H b = some o → H' b = some o) : GlOk G dl H' := by
  obtain ⟨x, y, z, h⟩ := g.dice
  exact ⟨⟨x, y, z, e _ _ h⟩, g.tab.ext e⟩
theorem same_new {H : Hp} {p : Addr} {o : HO} (h : H p = none) : ∀ b u, H b = some u → (upd H p o) b = some u := fun b u e => by
  rw [upd_ne (ne_of_none e h)]; exact e
theorem GlOk.new {G : Gm} {dl : Addr} {H : Hp} {p : Addr} {o : HO} (g : GlOk G dl H) (h : H p = none) : GlOk G dl (upd H p o) := g.same (same_new h)
inductive Cell where
  | un
  | val (d : D)
  | own (d : D)
abbrev LE := List Cell
def OwnAt (G : Gm) (dl : Addr) (S : Hp) (d : D) (o : Option HO) : Prop := match d with
  | .lst ds => ∃ vs, o = some (.lst vs) ∧ RepL G dl S ds vs
  | .dic kvs => ∃ (kv : List (Key × V)), o = some (.dK kv) ∧ RepK G dl S kvs kv
  | .ins c ds => ∃ (dx : Addr) (vs : List V), o = some (.ins (G.cls c) dx ((G.flds c).zip vs)) ∧ vs.length ≤ (G.flds c).length ∧ RepL G dl S ds vs
  | _ => False
/-- the self of an __init__ stands in slot 0, under a mark of its own -/
def kee (i : Nat) : D → Nat
  | .ins _ _ => 1000000
  | _ => i
def keeOk (i : Nat) : D → Prop
  | .ins _ _ => i = 0
  | _ => i ≠ 1000000
theorem kee_inj {i j : Nat} {d e : D} (h1 : keeOk i d) (h2 : keeOk j e) (h : kee i d = kee j e) : i = j := by
  cases d <;> cases e <;> simp_all [kee, keeOk]
def Slot (G : Gm) (dl : Addr) (Z : List Addr) (O : List (Nat × Addr)) (H : Hp) (i : Nat) (x : Option (Option V)) : Cell → Prop
  | .un => True
  | .val d => ∃ v, x = some (some v) ∧ Rep G dl (cut H Z) d v
  | .own d => ∃ a, (kee i d, a) ∈ O ∧ x = some (some (.ref a)) ∧ OwnAt G dl (cut H Z) d (H a) ∧ keeOk i d
/-- the state at hand: r the slots as data, O the addresses of owned lists and dicts, Z all that is not to be leant on -/
structure At (G : Gm) (dl : Addr) (Z : List Addr) (O : List (Nat × Addr)) (r : LE) (sg : St) (H : Hp) : Prop where
  gl : GlOk G dl H
  dz : dl ∈ Z
  live : ∀ a ∈ Z, ∃ o, H a = some o ∧ ∀ ps, o ≠ .tbl ps
  own : ∀ p ∈ O, p.2 ∈ Z ∧ p.2 ≠ dl
  inj : ∀ p ∈ O, ∀ q ∈ O, p.2 = q.2 → p = q
  len : r.length = sg.length
  slot : ∀ i c, r[i]? = some c → Slot G dl Z O H i sg[i]? c
theorem OwnAt.mono {G : Gm} {dl : Addr} {S S' : Hp} {d : D} {o : Option HO} (g : GrowS S S') (h : OwnAt G dl S d o) : OwnAt G dl S' d o := by
  unfold OwnAt at *
  split at h
  · obtain ⟨vs, e, r⟩ := h; exact ⟨vs, e, r.mono g⟩
  · obtain ⟨kv, e, r⟩ := h; exact ⟨kv, e, r.mono g⟩
  · obtain ⟨dx, vs, e, k, r⟩ := h; exact ⟨dx, vs, e, k, r.mono g⟩
  · exact h
theorem OwnAt.notTbl {G : Gm} {dl : Addr} {S : Hp} {d : D} {o : Option HO} (h : OwnAt G dl S d o) : ∃ u, o = some u ∧ ∀ ps, u ≠ .tbl ps := by
  unfold OwnAt at h
  split at h
  · obtain ⟨vs, e, r⟩ := h; exact ⟨_, e, fun ps z => by cases z⟩
  · obtain ⟨kv, e, r⟩ := h; exact ⟨_, e, fun ps z => by cases z⟩
  · obtain ⟨dx, vs, e, k, r⟩ := h; exact ⟨_, e, fun ps z => by cases z⟩
  · exact h.elim
theorem At.grow {G : Gm} {dl : Addr} {Z : List Addr} {O : List (Nat × Addr)} {r : LE} {sg : St} {H H' : Hp} (h : At G dl Z O r sg H) (g : Grow dl H H') (gl : GlOk G dl H') : At G dl Z O r sg H' := by
  refine ⟨gl, h.dz, fun a ha => ?_, h.own, h.inj, h.len, fun i c e => ?_⟩
  · by_cases q : a = dl
    · obtain ⟨x, y, z, e⟩ := gl.dice
      exact ⟨_, by rw [q]; exact e, fun ps z => by cases z⟩
    · obtain ⟨o, e, n⟩ := h.live a ha
      exact ⟨o, g a o e q n, n⟩
  · have := h.slot i c e
    cases c with
    | un => trivial
    | val d =>
      obtain ⟨v, e, q⟩ := this
      exact ⟨v, e, q.mono (g.cut h.dz)⟩
    | own d =>
      obtain ⟨a, ha, e, q, ko⟩ := this
      obtain ⟨u, hu, nt⟩ := q.notTbl
      refine ⟨a, ha, e, ?_, ko⟩
      rw [g a u hu (h.own _ ha).2 nt, ← hu]
      exact q.mono (g.cut h.dz)
/-- what of an exception is known -/
def XRep (G : Gm) (dl : Addr) (S : Hp) (e : Exc) (cls : Value) (dx : Option Addr) (H : Hp) : Prop :=
  cls = .ref (G.xcls e.cls) ∧ match G.xfld e.cls with
    | none => e.arg = .non
    | some f => ∃ d v, dx = some d ∧ H d = some (.xd [(f, v)]) ∧ Rep G dl S e.arg v
def tD (G : Gm) (W : WX) (f : LE → R D) : TE := fun sg H Q => ∃ dl Z O r, At G dl Z O r sg H ∧
  Wp (f r) (fun d => ∀ v H', Grow dl H H' → GlOk G dl H' → Rep G dl (cut H' Z) d v → Q v H')
    (fun e => ∀ cls dx H', Grow dl H H' → GlOk G dl H' → XRep G dl (cut H' Z) e cls dx H' → W cls dx sg H')
/-- a new list -/
def tF (G : Gm) (W : WX) (f : LE → R (List D)) : TE := fun sg H Q => ∃ dl Z O r, At G dl Z O r sg H ∧
  Wp (f r) (fun ds => ∀ p vs H', Grow dl H H' → GlOk G dl H' → H' p = none → RepL G dl (cut H' Z) ds vs → Q (.ref p) (upd H' p (.lst vs)))
    (fun e => ∀ cls dx H', Grow dl H H' → GlOk G dl H' → XRep G dl (cut H' Z) e cls dx H' → W cls dx sg H')
def tT (G : Gm) (W : WX) (f : LE → R Bool) : TT := fun sg H Q => ∃ dl Z O r, At G dl Z O r sg H ∧
  Wp (f r) (fun b => ∀ H', Grow dl H H' → GlOk G dl H' → Q b H')
    (fun e => ∀ cls dx H', Grow dl H H' → GlOk G dl H' → XRep G dl (cut H' Z) e cls dx H' → W cls dx sg H')
def tA (G : Gm) (W : WX) (f : LE → R (List D)) : TA := fun sg H Q => ∃ dl Z O r, At G dl Z O r sg H ∧
  Wp (f r) (fun ds => ∀ vs H', Grow dl H H' → GlOk G dl H' → RepL G dl (cut H' Z) ds vs → Q vs H')
    (fun e => ∀ cls dx H', Grow dl H H' → GlOk G dl H' → XRep G dl (cut H' Z) e cls dx H' → W cls dx sg H')
/-- an expression that may be an owned list or dict, read at once -/
def RepP (G : Gm) (dl : Addr) (H : Hp) (Z : List Addr) (d : D) (v : V) : Prop :=
  Rep G dl (cut H Z) d v ∨ ∃ a, v = .ref a ∧ a ∈ Z ∧ a ≠ dl ∧ OwnAt G dl (cut H Z) d (H a)
def tP (G : Gm) (W : WX) (f : LE → R D) : TE := fun sg H Q => ∃ dl Z O r, At G dl Z O r sg H ∧
  Wp (f r) (fun d => ∀ v H', Grow dl H H' → GlOk G dl H' → RepP G dl H' Z d v → Q v H')
    (fun e => ∀ cls dx H', Grow dl H H' → GlOk G dl H' → XRep G dl (cut H' Z) e cls dx H' → W cls dx sg H')
abbrev DE (X : Cx) (G : Gm) (W : WX) (e : Expr) (f : LE → R D) : Prop := PE X e (tD G W f)
abbrev DF (X : Cx) (G : Gm) (W : WX) (e : Expr) (f : LE → R (List D)) : Prop := PE X e (tF G W f)
abbrev DP (X : Cx) (G : Gm) (W : WX) (e : Expr) (f : LE → R D) : Prop := PE X e (tP G W f)
abbrev DT (X : Cx) (G : Gm) (W : WX) (e : Expr) (f : LE → R Bool) : Prop := PT X e (tT G W f)
abbrev DW (X : Cx) (G : Gm) (W : WX) (e : Expr) (f : LE → R Bool) : Prop := PW X e (tT G W f)
abbrev DA (X : Cx) (G : Gm) (W : WX) (es : List Expr) (f : LE → R (List D)) : Prop := PA X es (tA G W f)
theorem PE_imp {X : Cx} {e : Expr} {t t' : TE} (h : PE X e t) (i : ∀ sg H Q, t' sg H Q → t sg H Q) : PE X e t' := ⟨fun pins s sg H Q I q => h.run pins s sg H Q I (i _ _ _ q)⟩
theorem PT_imp {X : Cx} {e : Expr} {t t' : TT} (h : PT X e t) (i : ∀ sg H Q, t' sg H Q → t sg H Q) : PT X e t' := ⟨fun pins s sg H Q I q => h.run pins s sg H Q I (i _ _ _ q)⟩
theorem PW_imp {X : Cx} {e : Expr} {t t' : TT} (h : PW X e t) (i : ∀ sg H Q, t' sg H Q → t sg H Q) : PW X e t' := ⟨fun wh pins s sg H Q I q => h.run wh pins s sg H Q I (i _ _ _ q)⟩
theorem PA_imp {X : Cx} {e : List Expr} {t t' : TA} (h : PA X e t) (i : ∀ sg H Q, t' sg H Q → t sg H Q) : PA X e t' := ⟨fun pos pins s sg H Q I q => h.run pos pins s sg H Q I (i _ _ _ q)⟩
theorem PS_imp {X : Cx} {e : Stmt} {t t' : TS} (h : PS X e t) (i : ∀ De sg H, t' De sg H → t De sg H) : PS X e t' := ⟨fun pins s sg H De I q => h.run pins s sg H De I (i _ _ _ q)⟩
theorem PSs_imp {X : Cx} {e : List Stmt} {t t' : TS} (h : PSs X e t) (i : ∀ De sg H, t' De sg H → t De sg H) : PSs X e t' := ⟨fun pins s sg H De I q => h.run pins s sg H De I (i _ _ _ q)⟩
inductive Out where
  | nx (r : LE)
  | rt (d : D)
  | bk (r : LE)
  | ct (r : LE)
  | ex (e : Exc) (r : LE)
def Free (H : Hp) (a : Addr) : Prop := ∀ o, H a = some o → ∃ ps, o = .tbl ps
theorem Free.of {H : Hp} {a : Addr} (h : H a = none) : Free H a := fun o e => by rw [h] at e; cases e
structure Stp (dl : Addr) (Z : List Addr) (O : List (Nat × Addr)) (H : Hp) (Z' : List Addr) (O' : List (Nat × Addr)) (H' : Hp) : Prop where
  fr : ∀ a o, H a = some o → a ≠ dl → (∀ p ∈ O, p.2 ≠ a) → (∀ ps, o ≠ .tbl ps) → H' a = some o
  op : ∀ p ∈ O', (∃ q ∈ O, q.2 = p.2) ∨ Free H p.2
  zk : ∀ a ∈ Z, (∀ p ∈ O, p.2 ≠ a) → a ∈ Z'
  zn : ∀ a ∈ Z', a ∈ Z ∨ Free H a
  sf : ∀ a, (1000000, a) ∈ O' → (1000000, a) ∈ O
  dom : ∀ a, Free H' a → Free H a
theorem Stp.refl {dl : Addr} {Z : List Addr} {O : List (Nat × Addr)} {H : Hp} : Stp dl Z O H Z O H :=
  ⟨fun _ _ h _ _ _ => h, fun p hp => .inl ⟨p, hp, rfl⟩, fun _ h _ => h, fun _ h => .inl h, fun _ h => h, fun _ h => h⟩
theorem Grow.dom {G : Gm} {dl : Addr} {H H' : Hp} (g : Grow dl H H') (gl : GlOk G dl H') : ∀ a, Free H' a → Free H a := fun a f o q => by
  by_cases d : a = dl
  · obtain ⟨x, y, z, h⟩ := gl.dice
    obtain ⟨ps, e⟩ := f _ (d ▸ h)
    cases e
  · by_cases t : ∃ ps, o = .tbl ps
    · exact t
    · exact f o (g a o q d fun ps z => t ⟨ps, z⟩)
theorem Stp.of_grow {G : Gm} {dl : Addr} {Z : List Addr} {O : List (Nat × Addr)} {H H' : Hp} (g : Grow dl H H') (gl : GlOk G dl H') : Stp dl Z O H Z O H' :=
  ⟨fun a o h n _ t => g a o h n t, fun p hp => .inl ⟨p, hp, rfl⟩, fun _ h _ => h, fun _ h => .inl h, fun _ h => h, g.dom gl⟩
theorem Stp.trans {G : Gm} {dl : Addr} {Z Z1 Z2 : List Addr} {O O1 O2 : List (Nat × Addr)} {r : LE} {sg : St} {H H1 H2 : Hp} (hz : At G dl Z O r sg H) (a : Stp dl Z O H Z1 O1 H1) (b : Stp dl Z1 O1 H1 Z2 O2 H2) : Stp dl Z O H Z2 O2 H2 := by
  have key : ∀ c, (∃ o, H c = some o ∧ ∀ ps, o ≠ .tbl ps) → (∀ p ∈ O, p.2 ≠ c) → ∀ p ∈ O1, p.2 ≠ c := fun c ⟨o, ho, nt⟩ hn p hp e => by
    rcases a.op p hp with ⟨q, hq, eq⟩ | q
    · exact hn q hq (eq.trans e)
    · obtain ⟨ps, z⟩ := q o (e ▸ ho)
      exact nt ps z
  refine ⟨fun c o h n m t => b.fr c o (a.fr c o h n m t) n (key c ⟨o, h, t⟩ m) t, fun p hp => ?_, fun c hc m => b.zk c (a.zk c hc m) (key c (hz.live c hc) m), fun c hc => (b.zn c hc).elim (a.zn c) fun f => .inr (a.dom c f), fun c h => a.sf c (b.sf c h), fun c h => a.dom c (b.dom c h)⟩
  rcases b.op p hp with ⟨q, hq, eq⟩ | q
  · rcases a.op q hq with ⟨q', h1, h2⟩ | h1
    · exact .inl ⟨q', h1, h2.trans eq⟩
    · exact .inr (eq ▸ h1)
  · exact .inr (a.dom _ q)
theorem Stp.cut {G : Gm} {dl : Addr} {Z Z' : List Addr} {O O' : List (Nat × Addr)} {r : LE} {sg : St} {H H' : Hp} (A : At G dl Z O r sg H) (s : Stp dl Z O H Z' O' H') : GrowS (cut H Z) (cut H' Z') := fun a o e n => by
  obtain ⟨e1, e2⟩ := cut_some e
  have hz : a ∉ Z' := fun hz => by
    rcases s.zn a hz with h | h
    · exact e1 h
    · obtain ⟨ps, q⟩ := h o e2
      exact n ps q
  rw [cut_out hz]
  exact s.fr a o e2 (fun q => e1 (by rw [q]; exact A.dz)) (fun p hp q => e1 (by rw [← q]; exact (A.own p hp).1)) n
/-- what is wanted behind a statement -/
def SPost (G : Gm) (W : WX) (De : Ends) (dl : Addr) (Z : List Addr) (O : List (Nat × Addr)) (H : Hp) : Out → Prop
  | .nx r' => ∀ Z' O' sg' H', Stp dl Z O H Z' O' H' → At G dl Z' O' r' sg' H' → De.nx sg' H'
  | .bk r' => ∀ Z' O' sg' H', Stp dl Z O H Z' O' H' → At G dl Z' O' r' sg' H' → De.bk sg' H'
  | .ct r' => ∀ Z' O' sg' H', Stp dl Z O H Z' O' H' → At G dl Z' O' r' sg' H' → De.ct sg' H'
  | .rt d => ∀ Z' O' v H', Stp dl Z O H Z' O' H' → GlOk G dl H' → Rep G dl (cut H' Z') d v → De.rt v H'
  | .ex e r' => ∀ Z' O' sg' H' cls dx, Stp dl Z O H Z' O' H' → At G dl Z' O' r' sg' H' → XRep G dl (cut H' Z') e cls dx H' → W cls dx sg' H'
theorem SPost.trans {G : Gm} {W : WX} {De : Ends} {dl : Addr} {Z Z1 : List Addr} {O O1 : List (Nat × Addr)} {r : LE} {sg : St} {H H1 : Hp} (A : At G dl Z O r sg H) (st : Stp dl Z O H Z1 O1 H1) : ∀ {o : Out}, SPost G W De dl Z O H o → SPost G W De dl Z1 O1 H1 o
  | .nx r', h => fun Z' O' sg' H' s a => h Z' O' sg' H' (Stp.trans A st s) a
  | .bk r', h => fun Z' O' sg' H' s a => h Z' O' sg' H' (Stp.trans A st s) a
  | .ct r', h => fun Z' O' sg' H' s a => h Z' O' sg' H' (Stp.trans A st s) a
  | .rt d, h => fun Z' O' v H' s g a => h Z' O' v H' (Stp.trans A st s) g a
  | .ex e r', h => fun Z' O' sg' H' c d s a x => h Z' O' sg' H' c d (Stp.trans A st s) a x
/-- a statement's reading: F the state as data -/
def tS (G : Gm) (W : WX) (F : LE → R Out) : TS := fun De sg H => ∃ dl Z O r, At G dl Z O r sg H ∧ Wp (F r) (SPost G W De dl Z O H) (fun _ => False)
abbrev DS (X : Cx) (G : Gm) (W : WX) (st : Stmt) (F : LE → R Out) : Prop := PS X st (tS G W F)
abbrev DSs (X : Cx) (G : Gm) (W : WX) (sts : List Stmt) (F : LE → R Out) : Prop := PSs X sts (tS G W F)
end DL
set_option Elab.async false
set_option linter.all false
set_option maxRecDepth 100000
namespace DL
open PySem L2
section
variable {G : Gm} {dl : Addr} {Z : List Addr} {O : List (Nat × Addr)} {r : LE} {sg : St} {H H' H1 H2 : Hp} {W : WX} {d : D} {v : V}
theorem At.out (A : At G dl Z O r sg H) {p : Addr} (h : H p = none) : p ∉ Z := fun hz => by
  obtain ⟨o, e, _⟩ := A.live p hz
  rw [h] at e; cases e
theorem At.notdl (A : At G dl Z O r sg H) {p : Addr} (h : H p = none) : p ≠ dl := fun e => A.out h (e ▸ A.dz)
theorem RepP.grow (A : At G dl Z O r sg H) (g : Grow dl H H') (h : RepP G dl H Z d v) : RepP G dl H' Z d v := by
  rcases h with h | ⟨a, e, hz, hd, q⟩
  · exact .inl (h.mono (g.cut A.dz))
  · obtain ⟨u, hu, nt⟩ := q.notTbl
    refine .inr ⟨a, e, hz, hd, ?_⟩
    rw [g a u hu hd nt, ← hu]
    exact q.mono (g.cut A.dz)
theorem RepP.of (h : Rep G dl (cut H Z) d v) : RepP G dl H Z d v := .inl h
/-- a new object -/
theorem Rep.tup_new (A : At G dl Z O r sg H) {p : Addr} {ds : List D} {vs : List V} (h : H p = none) (q : RepL G dl (cut H Z) ds vs) : Rep G dl (cut (upd H p (.tup vs)) Z) (.tup ds) (.ref p) := by
  unfold Rep
  refine ⟨p, vs, rfl, SqT.of (by rw [cut_out (A.out h), upd_same]), q.mono ((Grow.new h).cut A.dz)⟩
theorem Rep.lst_new (A : At G dl Z O r sg H) {p : Addr} {ds : List D} {vs : List V} (h : H p = none) (q : RepL G dl (cut H Z) ds vs) : Rep G dl (cut (upd H p (.lst vs)) Z) (.lst ds) (.ref p) := by
  unfold Rep
  refine ⟨p, vs, rfl, by rw [cut_out (A.out h), upd_same], q.mono ((Grow.new h).cut A.dz)⟩
/-- a list read: tracked -/
theorem RepP.lst {ds : List D} (h : RepP G dl H Z (.lst ds) v) : ∃ a vs, v = .ref a ∧ H a = some (.lst vs) ∧ RepL G dl (cut H Z) ds vs := by
  rcases h with h | ⟨a, e, hz, hd, q⟩
  · unfold Rep at h
    obtain ⟨a, vs, e, q, rl⟩ := h
    exact ⟨a, vs, e, (cut_some q).2, rl⟩
  · obtain ⟨vs, e2, rl⟩ := q
    exact ⟨a, vs, e, e2, rl⟩
theorem RepP.tup {ds : List D} (h : RepP G dl H Z (.tup ds) v) : ∃ a vs, v = .ref a ∧ SqT G.K H a vs ∧ RepL G dl (cut H Z) ds vs := by
  rcases h with h | ⟨a, e, hz, hd, q⟩
  · unfold Rep at h
    obtain ⟨a, vs, e, q, rl⟩ := h
    exact ⟨a, vs, e, (cut_grow H Z).sqt q, rl⟩
  · exact q.elim
theorem RepP.str {x : List Nat} (h : RepP G dl H Z (.str x) v) : v = .str ⟨x.toArray⟩ := by
  rcases h with h | ⟨a, e, hz, hd, q⟩
  · unfold Rep at h; exact h
  · exact q.elim
theorem RepP.int {x : Int} (h : RepP G dl H Z (.int x) v) : v = .int x := by
  rcases h with h | ⟨a, e, hz, hd, q⟩
  · unfold Rep at h; exact h
  · exact q.elim
theorem RepP.bl {x : Bool} (h : RepP G dl H Z (.bl x) v) : v = .bl x := by
  rcases h with h | ⟨a, e, hz, hd, q⟩
  · unfold Rep at h; exact h
  · exact q.elim
theorem RepP.non (h : RepP G dl H Z .non v) : v = .non := by
  rcases h with h | ⟨a, e, hz, hd, q⟩
  · unfold Rep at h; exact h
  · exact q.elim
theorem Rep.int_ {S : Hp} {x : Int} : Rep G dl S (.int x) (.int x) := by unfold Rep; rfl
theorem Rep.bl_ {S : Hp} {x : Bool} : Rep G dl S (.bl x) (.bl x) := by unfold Rep; rfl
theorem Rep.non_ {S : Hp} : Rep G dl S .non .non := by unfold Rep; rfl
theorem Rep.str_ {S : Hp} {x : List Nat} : Rep G dl S (.str x) (.str ⟨x.toArray⟩) := by unfold Rep; rfl
/-- what is wanted of an error, behind a step -/
theorem epost (g1 : Grow dl H H1) {e : Exc} (h : ∀ cls dx H', Grow dl H H' → GlOk G dl H' → XRep G dl (cut H' Z) e cls dx H' → W cls dx sg H') :
    ∀ cls dx H', Grow dl H1 H' → GlOk G dl H' → XRep G dl (cut H' Z) e cls dx H' → W cls dx sg H' := fun cls dx H' g k x => h cls dx H' (g1.trans g) k x
end
def var (i : Nat) : LE → R D := fun r => match r[i]? with
  | some (.val d) => .ok d
  | _ => .stuck
def varP (i : Nat) : LE → R D := fun r => match r[i]? with
  | some (.val d) => .ok d
  | some (.own d) => .ok d
  | _ => .stuck
def cst (d : D) : LE → R D := fun _ => .ok d
section
variable {X : Cx} {G : Gm} {W : WX} {ex a b c : Expr} {es : List Expr} {f g : LE → R D} {pos p0 : Pos}
theorem DE.p (h : DE X G W ex f) : DP X G W ex f := PE_imp h fun sg H Q ⟨dl, Z, O, r, A, q⟩ => ⟨dl, Z, O, r, A, q.thn fun d h v H' g k rp => h v H' g k (.inl rp)⟩
theorem DF.e {f : LE → R (List D)} (h : DF X G W ex f) : DE X G W ex (fun r => (f r) >>= fun ds => .ok (.lst ds)) := PE_imp h fun sg H Q ⟨dl, Z, O, r, A, q⟩ => by
  refine ⟨dl, Z, O, r, A, q.bind.thn fun ds h p vs H' g k hp rl => ?_⟩
  exact h (.ref p) _ (g.trans (Grow.new hp)) (k.new hp) ((A.grow g k).gl |> fun _ => Rep.lst_new (A.grow g k) hp rl)
theorem de_var (i : Nat) {x : Str} (hN : X.N[i]? = some x := by rfl) (hv : Vis X.env.scope x := by first | exact Or.inl rfl | exact Or.inr (Or.inl rfl) | exact Or.inr (Or.inr rfl)) (hd : (x == ("__debug__" : Str)) = false := by decide)
    (hcd : (x == ("__classdict__" : Str)) = false := by decide) : DE X G W (.Name x pos) (var i) := PE_imp (pe_var hN hv hd hcd) fun sg H Q ⟨dl, Z, O, r, A, q⟩ => by
  unfold var at q
  split at q
  · rename_i d e
    obtain ⟨v, e1, rp⟩ := A.slot i _ e
    exact ⟨v, e1, q v H (.refl _ _) A.gl rp⟩
  · exact q.elim
theorem dp_var (i : Nat) {x : Str} (hN : X.N[i]? = some x := by rfl) (hv : Vis X.env.scope x := by first | exact Or.inl rfl | exact Or.inr (Or.inl rfl) | exact Or.inr (Or.inr rfl)) (hd : (x == ("__debug__" : Str)) = false := by decide)
    (hcd : (x == ("__classdict__" : Str)) = false := by decide) : DP X G W (.Name x pos) (varP i) := PE_imp (pe_var hN hv hd hcd) fun sg H Q ⟨dl, Z, O, r, A, q⟩ => by
  unfold varP at q
  split at q
  · rename_i d e
    obtain ⟨v, e1, rp⟩ := A.slot i _ e
    exact ⟨v, e1, q v H (.refl _ _) A.gl (.inl rp)⟩
  · rename_i d e
    obtain ⟨a, ha, e1, rp, _⟩ := A.slot i _ e
    exact ⟨_, e1, q _ H (.refl _ _) A.gl (.inr ⟨a, rfl, (A.own _ ha).1, (A.own _ ha).2, rp⟩)⟩
  · exact q.elim
theorem de_of {t : TE} {d : D} {v : V} (h : PE X ex (tC v)) (rp : ∀ dl S, Rep G dl S d v) : DE X G W ex (cst d) := PE_imp h fun sg H Q ⟨dl, Z, O, r, A, q⟩ => q v H (.refl _ _) A.gl (rp _ _)
theorem de_int {i j} : DE X G W (.Constant (.int i) j pos) (cst (.int i)) := de_of (t := tC .non) pe_int fun _ _ => Rep.int_
theorem de_bl {b j} : DE X G W (.Constant (.bool b) j pos) (cst (.bl b)) := de_of (t := tC .non) pe_bl fun _ _ => Rep.bl_
theorem de_str {x : Str} {j} (s : List Nat) (hx : x = ⟨s.toArray⟩ := by rfl) : DE X G W (.Constant (.str x) j pos) (cst (.str s)) := by
  subst hx; exact de_of (t := tC .non) pe_str fun _ _ => Rep.str_
theorem de_glob {x : Str} {v : V} {u : Value} {d : D} (hm : X.mg x = some u) (rv : RelV v u) (rp : ∀ dl S, Rep G dl S d v) (hg : Gl X x := by rfl) (hd : (x == ("__debug__" : Str)) = false := by decide) : DE X G W (.Name x pos) (cst d) :=
  de_of (t := tC .non) (pe_glob hg hm rv hd) rp
def OpD (X : Cx) (G : Gm) (fo : Value → Value → Sem Value) (g : D → D → R D) : Prop :=
  ∃ rr : R2, OpR X fo rr ∧ ∀ (dl : Addr) (Z : List Addr) (O : List (Nat × Addr)) (r : LE) (sg : St) (x y : D) (vx vy : V) (H : Hp) (Q : VK) (E : Exc → Prop), At G dl Z O r sg H → RepP G dl H Z x vx → RepP G dl H Z y vy →
    Wp (g x y) (fun d => ∀ v H', Grow dl H H' → GlOk G dl H' → Rep G dl (cut H' Z) d v → Q v H') E → rr vx vy H Q
theorem OpR.or {f : Value → Value → Sem Value} {r1 r2 : R2} (h1 : OpR X f r1) (h2 : OpR X f r2) : OpR X f (fun x y H Q => r1 x y H Q ∨ r2 x y H Q) := fun pins s sg H x y v u Q I rx ry h => by
  rcases h with h | h
  · exact h1 pins s sg H x y v u Q I rx ry h
  · exact h2 pins s sg H x y v u Q I rx ry h
theorem op_core {rr : R2} {gg : D → D → R D} (hop : ∀ (dl : Addr) (Z : List Addr) (O : List (Nat × Addr)) (r : LE) (sg : St) (x y : D) (vx vy : V) (H : Hp) (Q : VK) (E : Exc → Prop), At G dl Z O r sg H → RepP G dl H Z x vx → RepP G dl H Z y vy →
    Wp (gg x y) (fun d => ∀ v H', Grow dl H H' → GlOk G dl H' → Rep G dl (cut H' Z) d v → Q v H') E → rr vx vy H Q) {sg : St} {H : Hp} {Q : VK} (h : tD G W (fun r => do let x ← f r; let y ← g r; gg x y) sg H Q) : tOp rr (tP G W f) (tP G W g) sg H Q := by
  obtain ⟨dl, Z, O, r, A, q⟩ := h
  refine ⟨dl, Z, O, r, A, q.bind.thn fun x hx vx H1 g1 k1 rx => ?_⟩
  refine ⟨dl, Z, O, r, A.grow g1 k1, hx.bind.mono (fun y hy vy H2 g2 k2 ry => ?_) fun e he => epost g1 he⟩
  refine hop dl Z O r sg x y vx vy H2 Q _ ((A.grow g1 k1).grow g2 k2) (rx.grow (A.grow g1 k1) g2) ry (hy.thn fun d hd v H' g k rp => hd v H' ((g1.trans g2).trans g) k rp)
theorem de_op {op : Operator} {gg : D → D → R D} (ho : OpD X G (binaryOp op) gg) (ha : DP X G W a f) (hb : DP X G W b g) : DE X G W (.BinOp a op b pos) (fun r => do let x ← f r; let y ← g r; gg x y) := by
  obtain ⟨rr, h1, h2⟩ := ho
  exact PE_imp (pe_op h1 ha hb) fun sg H Q h => op_core h2 h
theorem de_cmp {op : CmpOp} {gg : D → D → R D} (ho : OpD X G (compareOp op) gg) (ha : DP X G W a f) (hb : DP X G W b g) (hm : behindInMarks op b = false := by first | exact nomark _ | rfl) : DE X G W (.Compare a [op] [b] pos) (fun r => do let x ← f r; let y ← g r; gg x y) := by
  obtain ⟨rr, h1, h2⟩ := ho
  exact PE_imp (pe_cmpR h1 ha hb hm) fun sg H Q h => op_core h2 h
/-- a value as a bool -/
def asB : D → R Bool
  | .bl b => .ok b
  | _ => .stuck
theorem tT_of {t : TE} {ff : LE → R D} (hd : ∀ sg H Q, tD G W ff sg H Q → t sg H Q) {sg : St} {H : Hp} {Q : Bool → Hp → Prop} (h : tT G W (fun r => ff r >>= asB) sg H Q) : t sg H (fun x H' => ∃ k, x = .bl k ∧ Q k H') := by
  obtain ⟨dl, Z, O, r, A, q⟩ := h
  refine hd _ _ _ ⟨dl, Z, O, r, A, q.bind.thn fun d h v H' g1 k1 rp => ?_⟩
  cases d <;> first | exact h.elim | skip
  rename_i k
  have := (RepP.of rp).bl
  exact ⟨k, this, h H' g1 k1⟩
theorem dt_cmp {op : CmpOp} {gg : D → D → R D} (ho : OpD X G (compareOp op) gg) (ha : DP X G W a f) (hb : DP X G W b g) (hm : behindInMarks op b = false := by first | exact nomark _ | rfl) : DT X G W (.Compare a [op] [b] pos) (fun r => (do let x ← f r; let y ← g r; gg x y) >>= asB) := by
  obtain ⟨rr, h1, h2⟩ := ho
  exact PT_imp (pt_cmpR h1 ha hb hm) fun sg H Q h => tT_of (t := tOp rr (tP G W f) (tP G W g)) (fun sg H Q h => op_core h2 h) h
/-- any other expression that gives a bool, as a test -/
theorem dt_val (h : DE X G W ex f) (he : ∀ whole, isTrue ex X.env whole = (do let v ← whole; standAt ex.pos; holding [v] (truthy v)) := by intro _; rfl) : DT X G W ex (fun r => f r >>= asB) :=
  PT_imp (pt_val h he) fun sg H Q q => tT_of (t := tD G W f) (fun _ _ _ z => z) q
end
end DL
set_option Elab.async false
set_option linter.all false
set_option maxRecDepth 100000
namespace DL
open PySem L2
mutual
def D.eqb : D → D → Bool
  | .non, .non => true
  | .bl a, .bl b => a == b
  | .bl a, .int j => (if a then 1 else 0) == j
  | .int i, .bl b => i == (if b then 1 else 0)
  | .int i, .int j => i == j
  | .str x, .str y => x == y
  | .lst xs, .lst ys => D.eqbs xs ys
  | .tup xs, .tup ys => D.eqbs xs ys
  | _, _ => false
def D.eqbs : List D → List D → Bool
  | [], [] => true
  | x :: xs, y :: ys => D.eqb x y && D.eqbs xs ys
  | _, _ => false
end
mutual
/-- plain data, at most n deep -/
def D.sh : D → Nat → Bool
  | .non, _ => true
  | .bl _, _ => true
  | .int _, _ => true
  | .str s, _ => s.all (· < 0x110000)
  | .lst xs, n => match n with
    | 0 => false
    | n + 1 => D.shs xs n
  | .tup xs, n => match n with
    | 0 => false
    | n + 1 => D.shs xs n
  | _, _ => false
def D.shs : List D → Nat → Bool
  | [], _ => true
  | x :: xs, n => D.sh x n && D.shs xs n
end
mutual
def D.toP : D → PyData
  | .bl b => .bool b
  | .int i => .int i
  | .str s => .str ⟨s.toArray⟩
  | .lst xs => .list (D.toPs xs)
  | .tup xs => .tuple (D.toPs xs)
  | _ => .none
def D.toPs : List D → List PyData
  | [] => []
  | x :: xs => D.toP x :: D.toPs xs
end
mutual
theorem sh_lay : ∀ (d : D) (n : Nat), d.sh n = true → (d.toP).canLay0 = true ∧ (d.toP).depth ≤ n
  | .non, n, h => by simp [D.toP, PyData.canLay0, PyData.depth]
  | .bl b, n, h => by simp [D.toP, PyData.canLay0, PyData.depth]
  | .int i, n, h => by simp [D.toP, PyData.canLay0, PyData.depth]
  | .str s, n, h => by
    simp only [D.sh] at h
    refine ⟨?_, by simp [D.toP, PyData.depth]⟩
    simp only [D.toP, PyData.canLay0, PyData.strOk]
    simpa using h
  | .lst xs, 0, h => by simp [D.sh] at h
  | .lst xs, n + 1, h => by
    simp only [D.sh] at h
    have := shs_lay xs n h
    simp only [D.toP, PyData.canLay0, PyData.depth]
    exact ⟨this.1, by omega⟩
  | .tup xs, 0, h => by simp [D.sh] at h
  | .tup xs, n + 1, h => by
    simp only [D.sh] at h
    have := shs_lay xs n h
    simp only [D.toP, PyData.canLay0, PyData.depth]
    exact ⟨this.1, by omega⟩
  | .dic _, n, h => by simp [D.sh] at h
  | .cdic _, n, h => by simp [D.sh] at h
  | .ins _ _, n, h => by simp [D.sh] at h
  | .dice, n, h => by simp [D.sh] at h
  | .fn _, n, h => by simp [D.sh] at h
theorem shs_lay : ∀ (ds : List D) (n : Nat), D.shs ds n = true → PyData.canLayAll0 (D.toPs ds) = true ∧ PyData.depthAll (D.toPs ds) ≤ n
  | [], n, h => by simp [D.toPs, PyData.canLayAll0, PyData.depthAll]
  | d :: ds, n, h => by
    simp only [D.shs, Bool.and_eq_true] at h
    have h1 := sh_lay d n h.1
    have h2 := shs_lay ds n h.2
    simp only [D.toPs, PyData.canLayAll0, PyData.depthAll, h1.1, h2.1, Bool.and_self, true_and]
    exact Nat.max_le.mpr ⟨h1.2, h2.2⟩
end
theorem sh_shaped {d : D} (h : d.sh 64 = true) : SeqAt.shaped d.toP = true := by
  have := sh_lay d 64 h
  unfold SeqAt.shaped
  rw [this.1, decide_eq_true this.2]; rfl
mutual
theorem eqb_eqv : ∀ (x y : D) (n m : Nat), x.sh n = true → y.sh m = true → PyData.eqv x.toP y.toP = D.eqb x y
  | .non, y, n, m, hx, hy => by cases y <;> simp_all [D.toP, D.eqb, PyData.eqv, D.sh]
  | .bl b, y, n, m, hx, hy => by cases y <;> simp_all [D.toP, D.eqb, PyData.eqv, D.sh]
  | .int i, y, n, m, hx, hy => by cases y <;> simp_all [D.toP, D.eqb, PyData.eqv, D.sh]
  | .str s, y, n, m, hx, hy => by
    cases y <;> simp_all [D.toP, D.eqb, PyData.eqv, D.sh]
    rw [Bool.eq_iff_iff]; simp
  | .lst xs, y, n, m, hx, hy => by
    cases y <;> first | (simp_all [D.toP, D.eqb, PyData.eqv, D.sh]; done) | skip
    rename_i ys
    cases n <;> first | (simp [D.sh] at hx; done) | skip
    cases m <;> first | (simp [D.sh] at hy; done) | skip
    simp only [D.sh] at hx hy
    simp only [D.toP, D.eqb, PyData.eqv]
    exact eqbs_eqv xs ys _ _ hx hy
  | .tup xs, y, n, m, hx, hy => by
    cases y <;> first | (simp_all [D.toP, D.eqb, PyData.eqv, D.sh]; done) | skip
    rename_i ys
    cases n <;> first | (simp [D.sh] at hx; done) | skip
    cases m <;> first | (simp [D.sh] at hy; done) | skip
    simp only [D.sh] at hx hy
    simp only [D.toP, D.eqb, PyData.eqv]
    exact eqbs_eqv xs ys _ _ hx hy
  | .dic _, y, n, m, hx, hy => by simp [D.sh] at hx
  | .cdic _, y, n, m, hx, hy => by simp [D.sh] at hx
  | .ins _ _, y, n, m, hx, hy => by simp [D.sh] at hx
  | .dice, y, n, m, hx, hy => by simp [D.sh] at hx
  | .fn _, y, n, m, hx, hy => by simp [D.sh] at hx
theorem eqbs_eqv : ∀ (xs ys : List D) (n m : Nat), D.shs xs n = true → D.shs ys m = true → PyData.eqvAll (D.toPs xs) (D.toPs ys) = D.eqbs xs ys
  | [], [], n, m, hx, hy => by simp [D.toPs, D.eqbs, PyData.eqvAll]
  | [], y :: ys, n, m, hx, hy => by simp [D.toPs, D.eqbs, PyData.eqvAll]
  | x :: xs, [], n, m, hx, hy => by simp [D.toPs, D.eqbs, PyData.eqvAll]
  | x :: xs, y :: ys, n, m, hx, hy => by
    simp only [D.shs, Bool.and_eq_true] at hx hy
    simp only [D.toPs, D.eqbs, PyData.eqvAll, eqb_eqv x y n m hx.1 hy.1, eqbs_eqv xs ys n m hx.2 hy.2]
end
section
variable {G : Gm} {dl : Addr} {S H : Hp} {Z : List Addr}
mutual
theorem Rep.dp (g : GrowS S H) : ∀ (d : D) (n : Nat) {v : V}, d.sh n = true → Rep G dl S d v → Dp G.K H v d.toP
  | .non, n, v, h, q => by unfold Rep at q; subst q; exact .non
  | .bl b, n, v, h, q => by unfold Rep at q; subst q; exact .bl b
  | .int i, n, v, h, q => by unfold Rep at q; subst q; exact .int i
  | .str s, n, v, h, q => by unfold Rep at q; subst q; exact .str _
  | .lst xs, 0, v, h, q => by simp [D.sh] at h
  | .lst xs, n + 1, v, h, q => by
    unfold Rep at q
    obtain ⟨a, vs, rfl, h1, h2⟩ := q
    simp only [D.sh] at h
    exact .lst (SqL.of (g a _ h1 fun ps z => by cases z)) (RepL.dp g xs n h h2)
  | .tup xs, 0, v, h, q => by simp [D.sh] at h
  | .tup xs, n + 1, v, h, q => by
    unfold Rep at q
    obtain ⟨a, vs, rfl, h1, h2⟩ := q
    simp only [D.sh] at h
    exact .tup (g.sqt h1) (RepL.dp g xs n h h2)
  | .dic _, n, v, h, q => by simp [D.sh] at h
  | .cdic _, n, v, h, q => by simp [D.sh] at h
  | .ins _ _, n, v, h, q => by simp [D.sh] at h
  | .dice, n, v, h, q => by simp [D.sh] at h
  | .fn _, n, v, h, q => by simp [D.sh] at h
theorem RepL.dp (g : GrowS S H) : ∀ (ds : List D) (n : Nat) {vs : List V}, D.shs ds n = true → RepL G dl S ds vs → DpAll G.K H vs (D.toPs ds)
  | [], n, vs, h, q => by unfold RepL at q; subst q; exact .nil
  | d :: ds, n, vs, h, q => by
    unfold RepL at q
    obtain ⟨v, r, rfl, h1, h2⟩ := q
    simp only [D.shs, Bool.and_eq_true] at h
    exact .cons (Rep.dp g d n h.1 h1) (RepL.dp g ds n h.2 h2)
end
theorem RepP.dp {d : D} {n : Nat} {v : V} (h : d.sh n = true) (q : RepP G dl H Z d v) : Dp G.K H v d.toP := by
  rcases q with q | ⟨a, rfl, hz, hd, q⟩
  · exact Rep.dp (cut_grow H Z) d n h q
  · cases d <;> first | exact q.elim | (simp [D.sh] at h; done) | skip
    rename_i xs
    obtain ⟨vs, e, rl⟩ := q
    cases n <;> first | (simp [D.sh] at h; done) | skip
    simp only [D.sh] at h
    exact .lst (SqL.of e) (RepL.dp (cut_grow H Z) xs _ h rl)
end
/-- scalars of kinds that == tells apart -/
def D.sc : D → D → Bool
  | .non, .non => true | .non, .int _ => true | .int _, .non => true | .non, .bl _ => true | .bl _, .non => true | .non, .str _ => true | .str _, .non => true
  | .int _, .int _ => true | .bl _, .bl _ => true | .str _, .str _ => true
  | .int _, .str _ => true | .str _, .int _ => true | .bl _, .str _ => true | .str _, .bl _ => true
  | _, _ => false
def eqD (x y : D) : R D := if (x.sc y || (x.sh 64 && y.sh 64)) = true then .ok (.bl (x.eqb y)) else .stuck
def neD (x y : D) : R D := if (x.sc y || (x.sh 64 && y.sh 64)) = true then .ok (.bl (!x.eqb y)) else .stuck
section
variable {X : Cx} {G : Gm}
theorem RepP.sc {dl : Addr} {H : Hp} {Z : List Addr} {x y : D} {vx vy : V} (h : x.sc y = true) (hx : RepP G dl H Z x vx) (hy : RepP G dl H Z y vy) : scal vx vy = true ∧ decide (vx = vy) = x.eqb y := by
  cases x <;> cases y <;> first | (simp [D.sc] at h; done) | skip
  all_goals first
    | (cases hx.non; cases hy.non; simp [scal, D.eqb]; done)
    | (cases hx.non; cases hy.int; simp [scal, D.eqb]; done)
    | (cases hx.non; cases hy.bl; simp [scal, D.eqb]; done)
    | (cases hx.non; cases hy.str; simp [scal, D.eqb]; done)
    | (cases hx.int; cases hy.non; simp [scal, D.eqb]; done)
    | (cases hx.int; cases hy.int; simp [scal, D.eqb, Bool.beq_eq_decide_eq]; done)
    | (cases hx.int; cases hy.str; simp [scal, D.eqb]; done)
    | (cases hx.bl; cases hy.non; simp [scal, D.eqb]; done)
    | (cases hx.bl; cases hy.bl; simp [scal, D.eqb, Bool.beq_eq_decide_eq]; done)
    | (cases hx.bl; cases hy.str; simp [scal, D.eqb]; done)
    | (cases hx.str; cases hy.non; simp [scal, D.eqb]; done)
    | (cases hx.str; cases hy.int; simp [scal, D.eqb]; done)
    | (cases hx.str; cases hy.bl; simp [scal, D.eqb]; done)
    | (cases hx.str; cases hy.str; simp only [scal, D.eqb, true_and]; rw [Bool.eq_iff_iff]; simp; done)
theorem op_eq_d (hG : G.K = X.K) (hu : X.A.units + 64 < cLine) : OpD X G (compareOp .Eq) eqD := by
  refine ⟨_, OpR.or op_eq (op_eqD hu), fun dl Z O r sg x y vx vy H Q E A hx hy h => ?_⟩
  unfold eqD at h
  split at h
  · rename_i hc
    rw [Bool.or_eq_true, Bool.and_eq_true] at hc
    rcases hc with hc | ⟨h1, h2⟩
    · obtain ⟨e1, e2⟩ := hx.sc hc hy
      refine .inl ⟨e1, ?_⟩
      rw [e2]; exact h _ H (.refl _ _) A.gl Rep.bl_
    · refine .inr ⟨x.toP, y.toP, hG ▸ hx.dp h1, hG ▸ hy.dp h2, sh_shaped h1, sh_shaped h2, ?_⟩
      rw [eqb_eqv x y _ _ h1 h2]; exact h _ H (.refl _ _) A.gl Rep.bl_
  · exact h.elim
theorem op_ne_d (hG : G.K = X.K) (hu : X.A.units + 64 < cLine) : OpD X G (compareOp .NotEq) neD := by
  refine ⟨_, OpR.or op_ne (op_neD hu), fun dl Z O r sg x y vx vy H Q E A hx hy h => ?_⟩
  unfold neD at h
  split at h
  · rename_i hc
    rw [Bool.or_eq_true, Bool.and_eq_true] at hc
    rcases hc with hc | ⟨h1, h2⟩
    · obtain ⟨e1, e2⟩ := hx.sc hc hy
      refine .inl ⟨e1, ?_⟩
      rw [e2]; exact h _ H (.refl _ _) A.gl Rep.bl_
    · refine .inr ⟨x.toP, y.toP, hG ▸ hx.dp h1, hG ▸ hy.dp h2, sh_shaped h1, sh_shaped h2, ?_⟩
      rw [eqb_eqv x y _ _ h1 h2]; exact h _ H (.refl _ _) A.gl Rep.bl_
  · exact h.elim
def subD : D → D → R D
  | .int i, .int j => .ok (.int (i - j))
  | _, _ => .stuck
def fdivD : D → D → R D
  | .int i, .int j => if 0 < j ∧ j < 1073741824 then .ok (.int (i / j)) else .stuck
  | _, _ => .stuck
def modD : D → D → R D
  | .int i, .int j => if 0 < j then .ok (.int (i % j)) else .stuck
  | _, _ => .stuck
def ltD : D → D → R D
  | .int i, .int j => .ok (.bl (decide (i < j)))
  | .str i, .str j => .ok (.bl (decide (i < j)))
  | _, _ => .stuck
def leD : D → D → R D
  | .int i, .int j => .ok (.bl (decide (i ≤ j)))
  | .str i, .str j => .ok (.bl (!decide (j < i)))
  | _, _ => .stuck
def gtD : D → D → R D
  | .int i, .int j => .ok (.bl (decide (j < i)))
  | .str i, .str j => .ok (.bl (decide (j < i)))
  | _, _ => .stuck
def geD : D → D → R D
  | .int i, .int j => .ok (.bl (decide (j ≤ i)))
  | .str i, .str j => .ok (.bl (!decide (i < j)))
  | _, _ => .stuck
theorem op_sub_d : OpD X G (binaryOp .Sub) subD := by
  refine ⟨_, op_sub, fun dl Z O r sg x y vx vy H Q E A hx hy h => ?_⟩
  unfold subD at h
  split at h
  · exact ⟨_, _, hx.int, hy.int, h _ H (.refl _ _) A.gl Rep.int_⟩
  · exact h.elim
theorem op_fdiv_d : OpD X G (binaryOp .FloorDiv) fdivD := by
  refine ⟨_, op_fdiv, fun dl Z O r sg x y vx vy H Q E A hx hy h => ?_⟩
  unfold fdivD at h
  split at h
  · split at h
    · rename_i hc
      exact ⟨_, _, hx.int, hy.int, hc, h _ H (.refl _ _) A.gl Rep.int_⟩
    · exact h.elim
  · exact h.elim
theorem op_mod_d : OpD X G (binaryOp .Mod) modD := by
  refine ⟨_, op_mod, fun dl Z O r sg x y vx vy H Q E A hx hy h => ?_⟩
  unfold modD at h
  split at h
  · split at h
    · rename_i hc
      exact ⟨_, _, hx.int, hy.int, hc, h _ H (.refl _ _) A.gl Rep.int_⟩
    · exact h.elim
  · exact h.elim
theorem op_lt_d : OpD X G (compareOp .Lt) ltD := by
  refine ⟨_, OpR.or op_lt op_lt_str, fun dl Z O r sg x y vx vy H Q E A hx hy h => ?_⟩
  unfold ltD at h
  split at h
  · exact .inl ⟨_, _, hx.int, hy.int, h _ H (.refl _ _) A.gl Rep.bl_⟩
  · exact .inr ⟨_, _, hx.str, hy.str, h _ H (.refl _ _) A.gl Rep.bl_⟩
  · exact h.elim
theorem op_le_d : OpD X G (compareOp .LtE) leD := by
  refine ⟨_, OpR.or op_le op_le_str, fun dl Z O r sg x y vx vy H Q E A hx hy h => ?_⟩
  unfold leD at h
  split at h
  · exact .inl ⟨_, _, hx.int, hy.int, h _ H (.refl _ _) A.gl Rep.bl_⟩
  · exact .inr ⟨_, _, hx.str, hy.str, h _ H (.refl _ _) A.gl Rep.bl_⟩
  · exact h.elim
theorem op_gt_d : OpD X G (compareOp .Gt) gtD := by
  refine ⟨_, OpR.or op_gt op_gt_str, fun dl Z O r sg x y vx vy H Q E A hx hy h => ?_⟩
  unfold gtD at h
  split at h
  · exact .inl ⟨_, _, hx.int, hy.int, h _ H (.refl _ _) A.gl Rep.bl_⟩
  · exact .inr ⟨_, _, hx.str, hy.str, h _ H (.refl _ _) A.gl Rep.bl_⟩
  · exact h.elim
end
def addD : D → D → R D
  | .int i, .int j => .ok (.int (i + j))
  | .str a, .str b => if a.length + b.length ≤ 16777216 then .ok (.str (a ++ b)) else .stuck
  | .lst a, .lst b => if a.length + b.length ≤ 16777216 then .ok (.lst (a ++ b)) else .stuck
  | .tup a, .tup b => if a.length + b.length ≤ 16777216 then .ok (.tup (a ++ b)) else .stuck
  | _, _ => .stuck
def mulD : D → D → R D
  | .int i, .int j => if (-(18446744073709551616) < i ∧ i < 18446744073709551616) ∨ (-(18446744073709551616) < j ∧ j < 18446744073709551616) then .ok (.int (i * j)) else .stuck
  | _, _ => .stuck
section
variable {X : Cx} {G : Gm}
theorem str_add (a b : List Nat) : (⟨a.toArray⟩ : Str) ++ ⟨b.toArray⟩ = ⟨(a ++ b).toArray⟩ := by
  show Str.mk (a.toArray ++ b.toArray) = _
  simp
theorem op_mul_d : OpD X G (binaryOp .Mult) mulD := by
  refine ⟨_, op_mul, fun dl Z O r sg x y vx vy H Q E A hx hy h => ?_⟩
  unfold mulD at h
  split at h
  · split at h
    · rename_i hc
      exact ⟨_, _, hx.int, hy.int, (by unfold CMul; omega), h _ H (.refl _ _) A.gl Rep.int_⟩
    · exact h.elim
  · exact h.elim
theorem op_add_d (hG : G.K = X.K) : OpD X G (binaryOp .Add) addD := by
  refine ⟨_, OpR.or op_add (OpR.or op_add_str (OpR.or op_cat op_catA)), fun dl Z O r sg x y vx vy H Q E A hx hy h => ?_⟩
  unfold addD at h
  split at h
  · exact .inl ⟨_, _, hx.int, hy.int, h _ H (.refl _ _) A.gl Rep.int_⟩
  · split at h
    · rename_i a b hc
      refine .inr (.inl ⟨_, _, hx.str, hy.str, by rw [sizeLine_eq]; simpa [Str.length] using hc, ?_⟩)
      rw [str_add]
      exact h _ H (.refl _ _) A.gl Rep.str_
    · exact h.elim
  · split at h
    · rename_i a b hc
      obtain ⟨p, vs, rfl, h1, r1⟩ := hx.lst
      obtain ⟨q, us, rfl, h2, r2⟩ := hy.lst
      refine .inr (.inr (.inl ⟨_, _, _, _, rfl, rfl, h1, h2, by rw [sizeLine_eq, r1.length, r2.length]; exact hc, fun l hl => ?_⟩))
      exact h _ _ (.new hl) (A.gl.new hl) (Rep.lst_new A hl (r1.append r2))
    · exact h.elim
  · split at h
    · rename_i a b hc
      obtain ⟨p, vs, rfl, h1, r1⟩ := hx.tup
      obtain ⟨q, us, rfl, h2, r2⟩ := hy.tup
      have e1 := r1.length
      have e2 := r2.length
      refine .inr (.inr (.inr ⟨_, _, _, _, rfl, rfl, hG ▸ h1, hG ▸ h2, by rw [sizeLine_eq, e1, e2]; exact hc, fun z => ?_, fun z1 z2 => ?_, fun _ _ l hl => ?_⟩))
      · subst z
        have : a = [] := List.length_eq_zero_iff.mp e1.symm
        subst this
        rcases hy with hy | ⟨_, _, _, _, hy⟩
        · exact h _ H (.refl _ _) A.gl hy
        · exact hy.elim
      · subst z2
        have : b = [] := List.length_eq_zero_iff.mp e2.symm
        subst this
        rcases hx with hx | ⟨_, _, _, _, hx⟩
        · rw [List.append_nil] at h
          exact h _ H (.refl _ _) A.gl hx
        · exact hx.elim
      · exact h _ _ (.new hl) (A.gl.new hl) (Rep.tup_new A hl (r1.append r2))
    · exact h.elim
  · exact h.elim
end
end DL
set_option Elab.async false
set_option linter.all false
set_option maxRecDepth 100000
namespace DL
open PySem L2 PySem.Spec PyProof.Rows
def andT (f g : LE → R Bool) : LE → R Bool := fun r => do if (← f r) then g r else .ok false
def orT (f g : LE → R Bool) : LE → R Bool := fun r => do if (← f r) then .ok true else g r
def notT (f : LE → R Bool) : LE → R Bool := fun r => do let b ← f r; .ok (!b)
def andV (f g : LE → R D) : LE → R D := fun r => do
  match ← f r with
  | .bl true => g r
  | .bl false => .ok (.bl false)
  | _ => .stuck
def orV (f g : LE → R D) : LE → R D := fun r => do
  match ← f r with
  | .bl true => .ok (.bl true)
  | .bl false => g r
  | _ => .stuck
def notV (f : LE → R D) : LE → R D := fun r => do
  match ← f r with
  | .bl b => .ok (.bl (!b))
  | _ => .stuck
def iteE (c : LE → R Bool) (f g : LE → R D) : LE → R D := fun r => do if (← c r) then f r else g r
section
variable {X : Cx} {G : Gm} {W : WX} {ex a b c : Expr} {rest : List Expr} {f g : LE → R D} {h k : LE → R Bool} {pos : Pos}
theorem dw_and1 (ha : DT X G W a h) : DW X G W (.BoolOp .And [a] pos) h := pw_and1 ha
theorem dw_or1 (ha : DT X G W a h) : DW X G W (.BoolOp .Or [a] pos) h := pw_or1 ha
theorem dw_and (ha : DT X G W a h) (hb : DW X G W (.BoolOp .And (b :: rest) pos) k) : DW X G W (.BoolOp .And (a :: b :: rest) pos) (andT h k) := PW_imp (pw_and ha hb) fun sg H Q ⟨dl, Z, O, r, A, q⟩ => by
  refine ⟨dl, Z, O, r, A, q.bind.thn fun b hb H1 g1 k1 => ?_⟩
  cases b with
  | true => exact ⟨dl, Z, O, r, A.grow g1 k1, hb.mono (fun b q H2 g2 k2 => q H2 (g1.trans g2) k2) fun e => epost g1⟩
  | false => exact hb H1 g1 k1
theorem dw_or (ha : DT X G W a h) (hb : DW X G W (.BoolOp .Or (b :: rest) pos) k) : DW X G W (.BoolOp .Or (a :: b :: rest) pos) (orT h k) := PW_imp (pw_or ha hb) fun sg H Q ⟨dl, Z, O, r, A, q⟩ => by
  refine ⟨dl, Z, O, r, A, q.bind.thn fun b hb H1 g1 k1 => ?_⟩
  cases b with
  | true => exact hb H1 g1 k1
  | false => exact ⟨dl, Z, O, r, A.grow g1 k1, hb.mono (fun b q H2 g2 k2 => q H2 (g1.trans g2) k2) fun e => epost g1⟩
theorem dt_w (h' : DW X G W ex h) : DT X G W ex h := h'.pt
theorem dt_not (ha : DT X G W a h) : DT X G W (.UnaryOp .Not a pos) (notT h) := PT_imp (pt_not ha) fun sg H Q ⟨dl, Z, O, r, A, q⟩ =>
  ⟨dl, Z, O, r, A, q.bind.thn fun b hb H1 g1 k1 => hb H1 g1 k1⟩
theorem de_one {op} (ha : DE X G W a f) : DE X G W (.BoolOp op [a] pos) f := pe_one ha
theorem de_and (ha : DE X G W a f) (hb : DE X G W (.BoolOp .And (b :: rest) pos) g) : DE X G W (.BoolOp .And (a :: b :: rest) pos) (andV f g) := PE_imp (pe_and ha hb) fun sg H Q ⟨dl, Z, O, r, A, q⟩ => by
  refine ⟨dl, Z, O, r, A, q.bind.thn fun d hd v H1 g1 k1 rp => ?_⟩
  split at hd
  · exact ⟨true, (RepP.of rp).bl, ⟨dl, Z, O, r, A.grow g1 k1, hd.mono (fun d q v H2 g2 k2 => q v H2 (g1.trans g2) k2) fun e => epost g1⟩⟩
  · exact ⟨false, (RepP.of rp).bl, hd _ H1 g1 k1 Rep.bl_⟩
  · exact hd.elim
theorem de_or (ha : DE X G W a f) (hb : DE X G W (.BoolOp .Or (b :: rest) pos) g) : DE X G W (.BoolOp .Or (a :: b :: rest) pos) (orV f g) := PE_imp (pe_or ha hb) fun sg H Q ⟨dl, Z, O, r, A, q⟩ => by
  refine ⟨dl, Z, O, r, A, q.bind.thn fun d hd v H1 g1 k1 rp => ?_⟩
  split at hd
  · exact ⟨true, (RepP.of rp).bl, hd _ H1 g1 k1 Rep.bl_⟩
  · exact ⟨false, (RepP.of rp).bl, ⟨dl, Z, O, r, A.grow g1 k1, hd.mono (fun d q v H2 g2 k2 => q v H2 (g1.trans g2) k2) fun e => epost g1⟩⟩
  · exact hd.elim
theorem de_if (hc : DT X G W c h) (ha : DE X G W a f) (hb : DE X G W b g) : DE X G W (.IfExp c a b pos) (iteE h f g) := PE_imp (pe_ifExp hc ha hb) fun sg H Q ⟨dl, Z, O, r, A, q⟩ => by
  refine ⟨dl, Z, O, r, A, q.bind.thn fun b hb H1 g1 k1 => ?_⟩
  cases b with
  | true => exact ⟨dl, Z, O, r, A.grow g1 k1, hb.mono (fun d q v H2 g2 k2 => q v H2 (g1.trans g2) k2) fun e => epost g1⟩
  | false => exact ⟨dl, Z, O, r, A.grow g1 k1, hb.mono (fun d q v H2 g2 k2 => q v H2 (g1.trans g2) k2) fun e => epost g1⟩
end
def anil : LE → R (List D) := fun _ => .ok []
def acons (f : LE → R D) (fs : LE → R (List D)) : LE → R (List D) := fun r => do
  let x ← f r
  let xs ← fs r
  .ok (x :: xs)
def tupE (fs : LE → R (List D)) : LE → R D := fun r => do
  let ds ← fs r
  if ds.length ≤ 16777216 then .ok (.tup ds) else .stuck
def lstE (fs : LE → R (List D)) : LE → R (List D) := fun r => do
  let ds ← fs r
  if ds.length ≤ 16777216 then .ok ds else .stuck
section
variable {X : Cx} {G : Gm} {W : WX} {ex a b c : Expr} {es : List Expr} {f g : LE → R D} {fs : LE → R (List D)} {pos : Pos}
theorem da_nil : DA X G W [] anil := PA_imp pa_nil fun sg H Q ⟨dl, Z, O, r, A, q⟩ => q [] H (.refl _ _) A.gl RepL.nil
theorem da_cons (ha : DE X G W a f) (hs : DA X G W es fs) (hst : starEach (a :: es) X.env = (false, eval a X.env) :: starEach es X.env := by rfl) : DA X G W (a :: es) (acons f fs) := PA_imp (pa_cons ha hs hst) fun sg H Q ⟨dl, Z, O, r, A, q⟩ => by
  refine ⟨dl, Z, O, r, A, q.bind.thn fun x hx v H1 g1 k1 rp => ?_⟩
  refine ⟨dl, Z, O, r, A.grow g1 k1, hx.bind.mono (fun xs hxs vs H2 g2 k2 rl => ?_) fun e => epost g1⟩
  exact hxs (v :: vs) H2 (g1.trans g2) k2 (RepL.cons (rp.mono (g2.cut A.dz)) rl)
theorem de_tup {x1} (h : DA X G W es fs) : DE X G W (.Tuple es x1 pos) (tupE fs) := PE_imp (pe_tup h) fun sg H Q ⟨dl, Z, O, r, A, q⟩ => by
  refine ⟨dl, Z, O, r, A, q.bind.thn fun ds hd vs H1 g1 k1 rl => ?_⟩
  split at hd
  · rename_i hc
    refine ⟨by rw [sizeLine_eq, rl.length]; exact hc, fun p hp => ?_⟩
    exact hd _ _ (g1.trans (.new hp)) (k1.new hp) (Rep.tup_new (A.grow g1 k1) hp rl)
  · exact hd.elim
theorem df_lst (h : DA X G W es fs) : DF X G W (.List es pos) (lstE fs) := PE_imp (pe_lst h) fun sg H Q ⟨dl, Z, O, r, A, q⟩ => by
  refine ⟨dl, Z, O, r, A, q.bind.thn fun ds hd vs H1 g1 k1 rl => ?_⟩
  split at hd
  · rename_i hc
    exact ⟨by rw [sizeLine_eq, rl.length]; exact hc, fun p hp => hd p vs H1 g1 k1 hp rl⟩
  · exact hd.elim
/-- the place of a field: by the class -/
def fldD (fx : Nat → Option Nat) : D → R D
  | .ins c ds => match fx c with
    | some j => match ds[j]? with
      | some d => .ok d
      | none => .stuck
    | none => .stuck
  | _ => .stuck
theorem lookup_zip : ∀ {ns : List Str} {vs : List V} {j : Nat} {x : Str} {v : V}, ns.Nodup → ns[j]? = some x → vs[j]? = some v → (ns.zip vs).lookup x = some v
  | [], _, _, _, _, _, h, _ => by simp at h
  | _ :: _, [], _, _, _, _, _, h => by simp at h
  | n :: ns, u :: vs, 0, x, v, nd, h1, h2 => by
    simp at h1 h2
    subst h1 h2
    simp [List.lookup]
  | n :: ns, u :: vs, j + 1, x, v, nd, h1, h2 => by
    have hne : x ≠ n := fun e => by
      subst e
      exact (List.nodup_cons.mp nd).1 (List.mem_of_getElem? (by simpa using h1))
    rw [List.zip_cons_cons, List.lookup_cons]
    have : (x == n) = false := beq_eq_false_iff_ne.mpr hne
    rw [this]
    exact lookup_zip (List.nodup_cons.mp nd).2 (by simpa using h1) (by simpa using h2)
def FldOk (X : Cx) (G : Gm) (m : Str) (fx : Nat → Option Nat) : Prop := ∀ c j, fx c = some j → Cls X.K (G.cls c) ∧ NoAttr X.K (G.cls c) m ∧ (G.flds c)[j]? = some m ∧ (G.flds c).Nodup
theorem de_fld {m : Str} {fx : Nat → Option Nat} (hx : FldOk X G m fx) (ha : DE X G W a f) (hb : attributeBase a m X.env (eval a X.env) = eval a X.env := by rfl) : DE X G W (.Attribute a m pos) (fun r => f r >>= fldD fx) := PE_imp (pe_fld ha hb) fun sg H Q ⟨dl, Z, O, r, A, q⟩ => by
  refine ⟨dl, Z, O, r, A, q.bind.thn fun x hx' v H1 g1 k1 rp => ?_⟩
  unfold fldD at hx'
  split at hx'
  · rename_i c ds
    split at hx'
    · rename_i j hj
      split at hx'
      · rename_i d hd
        unfold Rep at rp
        obtain ⟨a, dx, vs, rfl, e, hl, rl⟩ := rp
        obtain ⟨h1, h2, h3, h4⟩ := hx c j hj
        obtain ⟨u, hu, ru⟩ := RepL.getD ds vs j d rl hd
        exact ⟨a, G.cls c, dx, _, u, rfl, (cut_some e).2, h1, h2, lookup_zip h4 h3 hu, hx' u H1 g1 k1 ru⟩
      · exact hx'.elim
    · exact hx'.elim
  · exact hx'.elim
def ixD : D → D → R D
  | .lst xs, .int i => match atI xs i with
    | some d => .ok d
    | none => .stuck
  | .tup xs, .int i => match atI xs i with
    | some d => .ok d
    | none => .stuck
  | .str s, .int i => if s.length ≤ 16777216 then (match atI s i with
    | some c => .ok (.str [c])
    | none => .stuck) else .stuck
  | _, _ => .stuck
theorem atI_rep {G : Gm} {dl : Addr} {S : Hp} {ds : List D} {vs : List V} {i : Int} {d : D} (rl : RepL G dl S ds vs) (h : atI ds i = some d) : ∃ v, atI vs i = some v ∧ Rep G dl S d v := by
  unfold atI at *
  rw [rl.length]
  cases e : ixN ds.length i with
  | none => rw [e] at h; cases h
  | some j =>
    rw [e] at h
    exact RepL.getD ds vs j d rl h
end
end DL
set_option Elab.async false
set_option linter.all false
set_option maxRecDepth 100000
namespace DL
open PySem L2 PySem.Spec PyProof.Rows
abbrev Live (Z : List Addr) (H : Hp) : Prop := ∀ a ∈ Z, ∃ o, H a = some o ∧ ∀ ps, o ≠ .tbl ps
/-- a def's promise: it comes to g of what its arguments are -/
def spD (G : Gm) (n : Nat) (g : List D → R D) : Sp := fun vs H Q E => vs.length = n ∧ ∃ dl Z ds, GlOk G dl H ∧ dl ∈ Z ∧ Live Z H ∧ RepL G dl (cut H Z) ds vs ∧
  Wp (g ds) (fun d => ∀ v H', Grow dl H H' → GlOk G dl H' → Rep G dl (cut H' Z) d v → Q v H')
    (fun e => ∀ cls dx H', Grow dl H H' → GlOk G dl H' → XRep G dl (cut H' Z) e cls dx H' → E cls dx H')
/-- an __init__'s promise: the instance at a is made to g of the arguments -/
def spI (G : Gm) (c n : Nat) (g : List D → R D) : Sp := fun vs H Q E => vs.length = n + 1 ∧ ∃ dl Z ds a dx us, vs = .ref a :: us ∧ H a = some (.ins (G.cls c) dx []) ∧ a ∉ Z ∧ GlOk G dl H ∧ dl ∈ Z ∧ Live Z H ∧ RepL G dl (cut H (a :: Z)) ds us ∧
  Wp (g ds) (fun d => ∀ H', (∀ b o, H b = some o → b ≠ dl → b ≠ a → (∀ ps, o ≠ .tbl ps) → H' b = some o) → GlOk G dl H' → Rep G dl (cut H' Z) d (.ref a) → Q .non H')
    (fun e => ∀ cls dx H', (∀ b o, H b = some o → b ≠ dl → b ≠ a → (∀ ps, o ≠ .tbl ps) → H' b = some o) → GlOk G dl H' → XRep G dl (cut H' Z) e cls dx H' → E cls dx H')
section
variable (P : Program) (w : World) (K : PySem.W.Frag) (mg : Str → Option Value) (base : Heap)
structure FnD (G : Gm) (k : Nat) (x : Str) (f : Addr) (n : Nat) (g : List D → R D) : Prop where
  ex : ∃ (fd : FuncData) (ps : List Str), ps.length = n ∧ FnOk P w K mg base (L2.CX P w) k f fd ps (spD G n g) ∧ Binds K fd ps []
  len : ∀ ds Q E, Wp (g ds) Q E → ds.length = n
  kp : PySem.W.keepIn K (.ref f) = true
  at_ : mg x = some (.ref f)
structure MeD (G : Gm) (k : Nat) (c : Nat) (m : Str) (n : Nat) (g : List D → R D) : Prop where
  ex : ∃ (f : Addr) (fd : FuncData) (ps : List Str), ps.length = n ∧ FnOk P w K mg base (L2.CX P w) k f fd ps (spD G n g) ∧ Binds K fd ps [] ∧ Meth K (G.cls c) m f
  len : ∀ ds Q E, Wp (g ds) Q E → ds.length = n
  cl : Cls K (G.cls c)
  nf : m ∉ G.flds c
structure MkD (G : Gm) (k : Nat) (c : Nat) (x : Str) (n : Nat) (g : List D → R D) : Prop where
  ex : ∃ (f : Addr) (fd : FuncData) (ps : List Str), ps.length = n + 1 ∧ FnOk P w K mg base (L2.CX P w) k f fd ps (spI G c n g) ∧ Binds K fd ps [] ∧ Mk K (G.cls c) f
  len : ∀ ds Q E, Wp (g ds) Q E → ds.length = n
  at_ : mg x = some (.ref (G.cls c))
end
section
variable {X : Cx} {G : Gm} {W : WX} {ex o : Expr} {es : List Expr} {f : LE → R D} {fs : LE → R (List D)} {g : List D → R D} {pos apos p : Pos} {x m : Str} {k n c : Nat} {fa : Addr}
theorem call_core (hl : ∀ ds Q E, Wp (g ds) Q E → ds.length = n) {sg : L2.St} {H : Hp} {Q : VK} (h : tD G W (fun r => fs r >>= g) sg H Q) : tCallS (spD G n g) (WE W) (tA G W fs) sg H Q := by
  obtain ⟨dl, Z, O, r, A, q⟩ := h
  refine ⟨dl, Z, O, r, A, q.bind.thn fun ds hd vs H1 g1 k1 rl => ?_⟩
  refine ⟨by rw [rl.length]; exact hl ds _ _ hd, dl, Z, ds, k1, A.dz, (A.grow g1 k1).live, rl, ?_⟩
  exact hd.mono (fun d q v H2 g2 k2 rp => q v H2 (g1.trans g2) k2 rp) fun e he cls dx H2 g2 k2 xr => he cls dx H2 (g1.trans g2) k2 xr
theorem de_call (F : FnD X.prog X.w X.K X.mg X.base G k x fa n g) (hr : Room k X.A) (tk : Takes X W) (ha : DA X G W (ex :: es) fs) (hg : Gl X x := by rfl)
    (hdb : (x == ("__debug__" : Str)) = false := by decide) (he : starEach (ex :: es) X.env = (false, eval ex X.env) :: starEach es X.env := by rfl) (hpl : (backTo pos (starEach es X.env)).any (·.1) = false := by rfl) :
    DE X G W (.Call (.Name x p) (ex :: es) [] pos) (fun r => fs r >>= g) := by
  obtain ⟨⟨fd, ps, hn, ok, hb⟩, hl, kp, hm⟩ := F
  exact PE_imp (pe_callS ok hr hg hm kp hb (fun sg => passAt tk sg) ha hdb he hpl) fun sg H Q h => call_core hl h
theorem lookup_none_zip {m : Str} : ∀ {ns : List Str} {vs : List V}, m ∉ ns → (ns.zip vs).lookup m = none
  | [], _, _ => by simp
  | _ :: _, [], _ => by simp
  | a :: ns, v :: vs, h => by
    rw [List.zip_cons_cons, List.lookup_cons]
    have : (m == a) = false := beq_eq_false_iff_ne.mpr fun e => h (e ▸ List.mem_cons_self)
    rw [this]
    exact lookup_none_zip fun z => h (List.mem_cons_of_mem _ z)
/-- the receiver is of the class c -/
def isC (c : Nat) : D → R D
  | .ins c' fs => if c' = c then .ok (.ins c fs) else .stuck
  | _ => .stuck
def tMethS (C : Addr) (m : Str) (sp : Sp) (E : L2.St → XK) (ta : TE) (t : TA) : TE := fun sg H Q => ta sg H fun x H1 => ∃ a dx fs, x = .ref a ∧ H1 a = some (.ins C dx fs) ∧ fs.lookup m = none ∧ t sg H1 fun vs H2 => sp (x :: vs) H2 Q (E sg)
section
variable {CX : CXT} {C fm : Addr} {fd : FuncData} {ps : List Str} {sp : Sp} {E : L2.St → XK} {ta : TE} {t : TA}
theorem pe_meth_s {pl : Sem Bool} (he : PE X o ta) (c : Cls X.K C) (hm : Meth X.K C m fm) (F : FnOk X.prog X.w X.K X.mg X.base CX k fm fd ps sp) (hr : Room k X.A) (hb : Binds X.K fd ps []) (hx : ∀ sg, PassesAt CX X sg (E sg)) (ha : PA X (ex :: es) t)
    (hst : starEach (ex :: es) X.env = (false, eval ex X.env) :: starEach es X.env) (hpl : (backTo pos (starEach es X.env)).any (·.1) = false)
    (ht : eval (.Call (.Attribute o m apos) (ex :: es) [] pos) X.env = (do
      let ov ← eval o X.env
      standAt apos.atName
      let (f, first) ← holding [ov] (getMethod ov m pl)
      callWith pos f first (backTo pos (starEach (ex :: es) X.env)) (backToKw pos (keywordEach [] X.env)))) :
    PE X (.Call (.Attribute o m apos) (ex :: es) [] pos) (tMethS C m sp E ta t) := by
  refine ⟨fun pins s sg H Q I h => PySem.W.methodCall_KW (pl := pl) (thn (he.run pins s sg H _ I h) fun u s1 ⟨x, H1, I1, rx, a, dx, fs, e1, ea, l, q⟩ => ?_) ht⟩
  subst e1
  obtain rfl : u = Value.ref a := rx
  refine getmeth_ok I1 ea c hm l (PySem.W.callWith_K (first := [.ref a]) (h₀ := X.base) I.ok.mod.kin hm.kp (thn (ha.run pos pins s1 sg H1 _ I1 q) fun us s2 ⟨vs, H2, I2, r, q2⟩ => ⟨I2.kIn, ?_⟩) hst hpl)
  exact run_fnS (us := .ref a :: us) (vs := .ref a :: vs) F hr hb (hx sg) I2 (.cons rfl r) q2
theorem pe_meth0_s {pl : Sem Bool} (he : PE X o ta) (c : Cls X.K C) (hm : Meth X.K C m fm) (F : FnOk X.prog X.w X.K X.mg X.base CX k fm fd ps sp) (hr : Room k X.A) (hb : Binds X.K fd ps []) (hx : ∀ sg, PassesAt CX X sg (E sg))
    (ht : eval (.Call (.Attribute o m apos) [] [] pos) X.env = (do
      let ov ← eval o X.env
      standAt apos.atName
      let (f, first) ← holding [ov] (getMethod ov m pl)
      callWith pos f first (backTo pos (starEach [] X.env)) (backToKw pos (keywordEach [] X.env)))) :
    PE X (.Call (.Attribute o m apos) [] [] pos) (tMethS C m sp E ta tNil) := by
  refine ⟨fun pins s sg H Q I h => PySem.W.methodCall_KW (pl := pl) (thn (he.run pins s sg H _ I h) fun u s1 ⟨x, H1, I1, rx, a, dx, fs, e1, ea, l, q⟩ => ?_) ht⟩
  subst e1
  obtain rfl : u = Value.ref a := rx
  exact getmeth_ok I1 ea c hm l (PySem.W.callWith_K0 (first := [.ref a]) I1.kIn hm.kp (run_fnS (us := [.ref a]) (vs := [.ref a]) F hr hb (hx sg) I1 (.cons rfl .nil) q))
/-- C(..), what is raised wished at the slots -/
def tMakeS (C : Addr) (sp : Sp) (E : L2.St → XK) (t : TA) : TE := fun sg H Q => t sg H fun vs H1 => ∀ x dx, H1 x = none → H1 dx = none → dx ≠ x →
  sp (.ref x :: vs) (upd (upd H1 dx (.own x)) x (.ins C dx [])) (fun v H2 => v = .non ∧ Q (.ref x) H2) (E sg)
theorem run_make_s {pins : List (Addr × Obj)} {sg : L2.St} {H : Hp} {s : Shared} {Q : VK} {us : List Value} {vs : List V} (M : Mk X.K C fm) (F : FnOk X.prog X.w X.K X.mg X.base CX k fm fd ps sp) (hr : Room (k + 1) X.A) (hb : Binds X.K fd ps [])
    (hx : PassesAt CX X sg (E sg)) (I : Inv X pins sg H s) (r : Vals vs us)
    (h : ∀ x dx, H x = none → H dx = none → dx ≠ x → sp (.ref x :: vs) (upd (upd H dx (.own x)) x (.ins C dx [])) (fun v H2 => v = .non ∧ Q (.ref x) H2) (E sg)) :
    wpAny (model X.prog X.w) X.A (call (.ref C) us) (EP X pins sg Q) X.xe s := by
  have hq := h (s.heap.objs.size + 1) s.heap.objs.size (I.hok.fresh (Nat.le_succ _)) (I.hok.fresh (Nat.le_refl _)) (Nat.ne_of_lt (Nat.lt_succ_self _))
  have I2 := Inv.made (C := C) I
  have r2 : Vals (V.ref (s.heap.objs.size + 1) :: vs) (Value.ref (s.heap.objs.size + 1) :: us) := .cons rfl r
  have hl : (Value.ref (s.heap.objs.size + 1) :: us).length = ps.length := by
    rw [← r2.length]; exact F.len _ _ _ _ hq
  have bd := hb _ (Value.ref (s.heap.objs.size + 1) :: us) I2.kIn (by rw [List.append_nil]; exact hl)
  rw [List.append_nil] at bd
  refine wpAny_call (make_map (f := fm) I.kIn M.makes M.init (beq_iff_eq.mp M.fn) (codeAny_mono (F.run _ X.stack _ _ ⟨Value.ref (s.heap.objs.size + 1) :: us, []⟩ _ _ _ (E sg) (hr.make C us []) (I2.env0.make C us []) bd r2 hq) fun r s' hq' => ?_))
  cases r with
  | error e => exact hx pins _ _ e s' I2 hq'
  | ok fl =>
    cases fl with
    | ret u =>
      obtain ⟨v, H', I3, rv, ev, q3⟩ := I2.after hq'
      subst ev
      exact ⟨rv, ⟨V.ref (s.heap.objs.size + 1), H', I3, rfl, q3⟩⟩
    | next => exact hq'.elim
    | brk => exact hq'.elim
    | cont => exact hq'.elim
theorem pe_make_s (M : Mk X.K C fm) (F : FnOk X.prog X.w X.K X.mg X.base CX k fm fd ps sp) (hr : Room (k + 1) X.A) (hg : Gl X x) (hm : X.mg x = some (.ref C)) (hb : Binds X.K fd ps []) (hx : ∀ sg, PassesAt CX X sg (E sg))
    (ha : PA X (ex :: es) t) (hdb : (x == ("__debug__" : Str)) = false) (he : starEach (ex :: es) X.env = (false, eval ex X.env) :: starEach es X.env) (hpl : (backTo pos (starEach es X.env)).any (·.1) = false) :
    PE X (.Call (.Name x p) (ex :: es) [] pos) (tMakeS C sp E t) :=
  ⟨fun pins s sg H Q I h => wpAny_Call_Name_kw (ld_glob I hg hm (PySem.W.callWith_K (h₀ := X.base) I.ok.mod.kin M.kp (thn (ha.run pos pins s sg H _ I h) fun us s1 ⟨vs, H1, I1, r, q⟩ => ⟨I1.kIn, run_make_s M F hr hb (hx sg) I1 r q⟩) he hpl) hdb)⟩
end
theorem isC_wp {d : D} {Q : D → Prop} {E : Exc → Prop} (h : Wp (isC c d) Q E) : ∃ fs, d = .ins c fs ∧ Q d := by
  unfold isC at h
  split at h
  · split at h
    · rename_i e
      subst e
      exact ⟨_, rfl, h⟩
    · exact h.elim
  · exact h.elim
theorem meth_core (nf : m ∉ G.flds c) (hl : ∀ ds Q E, Wp (g ds) Q E → ds.length = n) {sg : L2.St} {H : Hp} {Q : VK} (h : tD G W (fun r => do let x ← f r; let x ← isC c x; let ds ← fs r; g (x :: ds)) sg H Q) :
    tMethS (G.cls c) m (spD G n g) (WE W) (tD G W f) (tA G W fs) sg H Q := by
  obtain ⟨dl, Z, O, r, A, q⟩ := h
  refine ⟨dl, Z, O, r, A, q.bind.thn fun d hd v H1 g1 k1 rp => ?_⟩
  obtain ⟨fs', rfl, hd⟩ := isC_wp hd.bind
  have A1 := A.grow g1 k1
  have rp2 := rp
  unfold Rep at rp2
  obtain ⟨a, dx, vs, rfl, e, hlen, rl⟩ := rp2
  refine ⟨a, dx, _, rfl, (cut_some e).2, lookup_none_zip nf, dl, Z, O, r, A1, hd.bind.mono (fun ds hds us H2 g2 k2 ru => ?_) fun e => epost g1⟩
  have rl2 := RepL.cons (rp.mono (g2.cut A.dz)) ru
  refine ⟨by rw [rl2.length]; exact hl _ _ _ hds, dl, Z, _, k2, A.dz, (A1.grow g2 k2).live, rl2, ?_⟩
  exact hds.mono (fun d q v H3 g3 k3 rp => q v H3 ((g1.trans g2).trans g3) k3 rp) fun e he cls dx H3 g3 k3 xr => he cls dx H3 ((g1.trans g2).trans g3) k3 xr
theorem de_meth {pl : Sem Bool} (M : MeD X.prog X.w X.K X.mg X.base G k c m n g) (hr : Room k X.A) (tk : Takes X W) (ho : DE X G W o f) (ha : DA X G W (ex :: es) fs)
    (hst : starEach (ex :: es) X.env = (false, eval ex X.env) :: starEach es X.env := by rfl) (hpl : (backTo pos (starEach es X.env)).any (·.1) = false := by rfl)
    (ht : eval (.Call (.Attribute o m apos) (ex :: es) [] pos) X.env = (do
      let ov ← eval o X.env
      standAt apos.atName
      let (f, first) ← holding [ov] (getMethod ov m pl)
      callWith pos f first (backTo pos (starEach (ex :: es) X.env)) (backToKw pos (keywordEach [] X.env))) := by rfl) :
    DE X G W (.Call (.Attribute o m apos) (ex :: es) [] pos) (fun r => do let x ← f r; let x ← isC c x; let ds ← fs r; g (x :: ds)) := by
  obtain ⟨⟨fa, fd, ps, hn, ok, hb, mt⟩, hl, cl, nf⟩ := M
  exact PE_imp (pe_meth_s ho cl mt ok hr hb (fun sg => passAt tk sg) ha hst hpl ht) fun sg H Q h => meth_core nf hl h
theorem de_meth0 {pl : Sem Bool} (M : MeD X.prog X.w X.K X.mg X.base G k c m n g) (hr : Room k X.A) (tk : Takes X W) (ho : DE X G W o f)
    (ht : eval (.Call (.Attribute o m apos) [] [] pos) X.env = (do
      let ov ← eval o X.env
      standAt apos.atName
      let (f, first) ← holding [ov] (getMethod ov m pl)
      callWith pos f first (backTo pos (starEach [] X.env)) (backToKw pos (keywordEach [] X.env))) := by rfl) :
    DE X G W (.Call (.Attribute o m apos) [] [] pos) (fun r => do let x ← f r; let x ← isC c x; g [x]) := by
  obtain ⟨⟨fa, fd, ps, hn, ok, hb, mt⟩, hl, cl, nf⟩ := M
  refine PE_imp (pe_meth0_s ho cl mt ok hr hb (fun sg => passAt tk sg) ht) fun sg H Q ⟨dl, Z, O, r, A, q⟩ => ?_
  refine ⟨dl, Z, O, r, A, q.bind.thn fun d hd v H1 g1 k1 rp => ?_⟩
  obtain ⟨fs', rfl, hd⟩ := isC_wp hd.bind
  have rp2 := rp
  unfold Rep at rp2
  obtain ⟨a, dx, vs, rfl, e, hlen, rl⟩ := rp2
  refine ⟨a, dx, _, rfl, (cut_some e).2, lookup_none_zip nf, ?_⟩
  have rl2 := RepL.cons rp RepL.nil
  refine ⟨by rw [rl2.length]; exact hl _ _ _ hd, dl, Z, _, k1, A.dz, (A.grow g1 k1).live, rl2, ?_⟩
  exact hd.mono (fun d q v H3 g3 k3 rp => q v H3 (g1.trans g3) k3 rp) fun e he cls dx H3 g3 k3 xr => he cls dx H3 (g1.trans g3) k3 xr
theorem de_make (M : MkD X.prog X.w X.K X.mg X.base G k c x n g) (hr : Room (k + 1) X.A) (tk : Takes X W) (ha : DA X G W (ex :: es) fs) (hg : Gl X x := by rfl)
    (hdb : (x == ("__debug__" : Str)) = false := by decide) (he : starEach (ex :: es) X.env = (false, eval ex X.env) :: starEach es X.env := by rfl) (hpl : (backTo pos (starEach es X.env)).any (·.1) = false := by rfl) :
    DE X G W (.Call (.Name x p) (ex :: es) [] pos) (fun r => fs r >>= g) := by
  obtain ⟨⟨fa, fd, ps, hn, ok, hb, mk⟩, hl, hm⟩ := M
  refine PE_imp (pe_make_s mk ok hr hg hm hb (fun sg => passAt tk sg) ha hdb he hpl) fun sg H Q ⟨dl, Z, O, r, A, q⟩ => ?_
  refine ⟨dl, Z, O, r, A, q.bind.thn fun ds hd vs H1 g1 k1 rl a dx na nd nad => ?_⟩
  have A1 := A.grow g1 k1
  have same : ∀ b o, H1 b = some o → (upd (upd H1 dx (.own a)) a (.ins (G.cls c) dx [])) b = some o := fun b o e => by
    rw [upd_ne (ne_of_none e na), upd_ne (ne_of_none e nd)]; exact e
  have k2 : GlOk G dl (upd (upd H1 dx (.own a)) a (.ins (G.cls c) dx [])) := k1.same same
  have hcut : GrowS (cut H1 Z) (cut (upd (upd H1 dx (.own a)) a (.ins (G.cls c) dx [])) (a :: Z)) := fun b o e n => by
    obtain ⟨e1, e2⟩ := cut_some e
    have hb : b ∉ a :: Z := fun z => by
      rcases List.mem_cons.mp z with z | z
      · exact ne_of_none e2 na z
      · exact e1 z
    rw [cut_out hb]
    exact same b o e2
  refine ⟨by rw [List.length_cons, rl.length]; exact congrArg (· + 1) (hl ds _ _ hd), dl, Z, ds, a, dx, vs, rfl, upd_same, A1.out na, k2, A.dz, fun b hb => ?_, rl.mono hcut, ?_⟩
  · obtain ⟨o, e, nt⟩ := A1.live b hb
    exact ⟨o, same b o e, nt⟩
  · have fr : ∀ H2 : Hp, (∀ b o, (upd (upd H1 dx (.own a)) a (.ins (G.cls c) dx [])) b = some o → b ≠ dl → b ≠ a → (∀ ps, o ≠ .tbl ps) → H2 b = some o) → Grow dl H1 H2 := fun H2 h b o e n nt => h b o (same b o e) n (ne_of_none e na) nt
    exact hd.mono (fun d q H2 h2 k3 rp => ⟨rfl, q _ H2 (g1.trans (fr H2 h2)) k3 rp⟩) fun e he cls dx' H2 h2 k3 xr => he cls dx' H2 (g1.trans (fr H2 h2)) k3 xr
end
end DL
set_option Elab.async false
set_option linter.all false
set_option maxRecDepth 100000
namespace DL
open PySem L2 PySem.Spec PyProof.Rows
/-- an expression's result in a statement: what is raised ends it -/
def R.onS {α : Type} : R α → LE → (α → R Out) → R Out
  | .ok a, _, k => k a
  | .err e, r, _ => .ok (.ex e r)
  | .stuck, _, _ => .stuck
  | .roll m f, r, k => .roll m fun i => (f i).onS r k
section
variable {α : Type}
@[simp] theorem onS_ok (a : α) (r : LE) (k : α → R Out) : (R.ok a).onS r k = k a := rfl
@[simp] theorem onS_err (e : Exc) (r : LE) (k : α → R Out) : (R.err e : R α).onS r k = .ok (.ex e r) := rfl
@[simp] theorem onS_stuck (r : LE) (k : α → R Out) : (R.stuck : R α).onS r k = .stuck := rfl
@[simp] theorem onS_roll (m : Nat) (f : Nat → R α) (r : LE) (k : α → R Out) : (R.roll m f).onS r k = .roll m fun i => (f i).onS r k := rfl
theorem onS_wp {Q : Out → Prop} {E : Exc → Prop} {r : LE} {k : α → R Out} : ∀ {m : R α}, Wp (m.onS r k) Q E → Wp m (fun a => Wp (k a) Q E) (fun e => Q (.ex e r))
  | .ok _, h => h
  | .err _, h => h
  | .stuck, h => h
  | .roll _ _, h => fun i hi => onS_wp (h i hi)
end
def skipS : LE → R Out := fun r => .ok (.nx r)
def seqS (F K : LE → R Out) : LE → R Out := fun r => do
  match ← F r with
  | .nx r' => K r'
  | o => .ok o
def setS (i : Nat) (f : LE → R D) : LE → R Out := fun r => (f r).onS r fun d => .ok (.nx (r.set i (.val d)))
def retS (f : LE → R D) : LE → R Out := fun r => (f r).onS r fun d => .ok (.rt d)
def ifS (c : LE → R Bool) (F K : LE → R Out) : LE → R Out := fun r => (c r).onS r fun b => if b then F r else K r
def frz (i : Nat) (r : LE) : LE := match r[i]? with
  | some (.own (.lst ds)) => r.set i (.val (.lst ds))
  | some (.own (.dic ds)) => r.set i (.val (.dic ds))
  | _ => r
section
variable {G : Gm} {dl : Addr} {Z : List Addr} {O : List (Nat × Addr)} {r : LE} {sg : L2.St} {H H1 : Hp} {W : WX} {d : D} {v : V} {De : Ends}
/-- an expression's error, in a statement -/
theorem spost_ex (A : At G dl Z O r sg H) {e : Exc} (h : SPost G W De dl Z O H (.ex e r)) : ∀ cls dx H', Grow dl H H' → GlOk G dl H' → XRep G dl (cut H' Z) e cls dx H' → W cls dx sg H' :=
  fun cls dx H' g k x => h Z O sg H' cls dx (Stp.of_grow g k) (A.grow g k) x
theorem set_get {α : Type} {l : List α} {i j : Nat} {a b : α} (h : (l.set i a)[j]? = some b) : (j = i ∧ b = a ∧ i < l.length) ∨ (j ≠ i ∧ l[j]? = some b) := by
  by_cases e : i = j
  · subst e
    by_cases q : i < l.length
    · rw [List.getElem?_set_self q] at h
      exact .inl ⟨rfl, (Option.some.inj h).symm, q⟩
    · rw [List.getElem?_eq_none (by simpa using q)] at h; cases h
  · rw [List.getElem?_set_ne e] at h
    exact .inr ⟨fun z => e z.symm, h⟩
theorem At.set_val (A : At G dl Z O r sg H) (i : Nat) (rp : Rep G dl (cut H Z) d v) : At G dl Z O (r.set i (.val d)) (sg.set i (some v)) H := by
  refine ⟨A.gl, A.dz, A.live, A.own, A.inj, by rw [List.length_set, List.length_set, A.len], fun j c e => ?_⟩
  rcases set_get e with ⟨rfl, rfl, hl⟩ | ⟨hn, e2⟩
  · exact ⟨v, List.getElem?_set_self (by rw [← A.len]; exact hl), rp⟩
  · rw [List.getElem?_set_ne (fun z => hn z.symm)]
    exact A.slot j c e2
theorem At.set_un (A : At G dl Z O r sg H) (i : Nat) (x : Option V) : At G dl Z O (r.set i .un) (sg.set i x) H := by
  refine ⟨A.gl, A.dz, A.live, A.own, A.inj, by rw [List.length_set, List.length_set, A.len], fun j c e => ?_⟩
  rcases set_get e with ⟨rfl, rfl, hl⟩ | ⟨hn, e2⟩
  · trivial
  · rw [List.getElem?_set_ne (fun z => hn z.symm)]
    exact A.slot j c e2
theorem cut_new {p : Addr} {o : HO} (h : H p = none) : GrowS (cut H Z) (cut (upd H p o) (p :: Z)) := fun b u e n => by
  obtain ⟨e1, e2⟩ := cut_some e
  have hb : b ≠ p := ne_of_none e2 h
  rw [cut_out (by simp only [List.mem_cons, not_or]; exact ⟨hb, e1⟩), upd_ne hb]
  exact e2
theorem At.set_own (A : At G dl Z O r sg H) (i : Nat) {p : Addr} {o : HO} (hp : H p = none) (ow : OwnAt G dl (cut H Z) d (some o)) (hk : kee i d = i ∧ keeOk i d) : At G dl (p :: Z) ((i, p) :: O) (r.set i (.own d)) (sg.set i (some (.ref p))) (upd H p o) := by
  obtain ⟨u, hu, nt⟩ := ow.notTbl
  cases hu
  refine ⟨A.gl.new hp, List.mem_cons_of_mem _ A.dz, fun a ha => ?_, fun q hq => ?_, fun q hq q' hq' e => ?_, by rw [List.length_set, List.length_set, A.len], fun j c e => ?_⟩
  · rcases List.mem_cons.mp ha with rfl | ha
    · exact ⟨o, upd_same, nt⟩
    · obtain ⟨u, e, n⟩ := A.live a ha
      exact ⟨u, by rw [upd_ne (ne_of_none e hp)]; exact e, n⟩
  · rcases List.mem_cons.mp hq with rfl | hq
    · exact ⟨List.mem_cons_self, A.notdl hp⟩
    · exact ⟨List.mem_cons_of_mem _ (A.own q hq).1, (A.own q hq).2⟩
  · have no : ∀ q ∈ O, q.2 ≠ p := fun q hq z => A.out hp (z ▸ (A.own q hq).1)
    rcases List.mem_cons.mp hq with rfl | hq
    · rcases List.mem_cons.mp hq' with rfl | hq'
      · rfl
      · exact (no _ hq' e.symm).elim
    · rcases List.mem_cons.mp hq' with rfl | hq'
      · exact (no _ hq e).elim
      · exact A.inj q hq q' hq' e
  · rcases set_get e with ⟨rfl, rfl, hl⟩ | ⟨hn, e2⟩
    · refine ⟨p, by rw [hk.1]; exact List.mem_cons_self, List.getElem?_set_self (by rw [← A.len]; exact hl), ?_, hk.2⟩
      rw [upd_same]
      exact ow.mono (cut_new hp)
    · rw [List.getElem?_set_ne (fun z => hn z.symm)]
      have := A.slot j c e2
      cases c with
      | un => trivial
      | val d =>
        obtain ⟨v, e, q⟩ := this
        exact ⟨v, e, q.mono (cut_new hp)⟩
      | own d =>
        obtain ⟨a, ha, e, q, ko⟩ := this
        refine ⟨a, List.mem_cons_of_mem _ ha, e, ?_, ko⟩
        have hap : a ≠ p := fun z => A.out hp (by rw [← z]; exact (A.own _ ha).1)
        rw [upd_ne hap]
        exact q.mono (cut_new hp)
theorem Stp.new {p : Addr} {o : HO} {i : Nat} (A : At G dl Z O r sg H) (hp : H p = none) (hi : i ≠ 1000000) : Stp dl Z O H (p :: Z) ((i, p) :: O) (upd H p o) :=
  ⟨fun a u e _ _ _ => by rw [upd_ne (ne_of_none e hp)]; exact e, fun q hq => by
    rcases List.mem_cons.mp hq with rfl | hq
    · exact .inr (Free.of hp)
    · exact .inl ⟨q, hq, rfl⟩, fun a ha _ => List.mem_cons_of_mem _ ha, fun a ha => (List.mem_cons.mp ha).elim (fun e => .inr (by rw [e]; exact Free.of hp)) .inl, fun a ha => (List.mem_cons.mp ha).elim (fun e => (hi (congrArg Prod.fst e).symm).elim) id, fun a f u e => f u (by rw [upd_ne (ne_of_none e hp)]; exact e)⟩
/-- an owned thing is written -/
theorem At.write {d' : D} {o : HO} {i : Nat} {a : Addr} (A : At G dl Z O r sg H) (hi : r[i]? = some (.own d)) (ha : (kee i d, a) ∈ O) (hs : sg[i]? = some (some (.ref a))) (ow : OwnAt G dl (cut H Z) d' (some o)) (hk : kee i d' = kee i d) (ko' : keeOk i d') : At G dl Z O (r.set i (.own d')) sg (upd H a o) := by
  obtain ⟨u, hu, nt⟩ := ow.notTbl
  cases hu
  obtain ⟨haz, had⟩ := A.own _ ha
  obtain ⟨o0, ho0, nt0⟩ := A.live a haz
  have gcut : GrowS (cut H Z) (cut (upd H a o) Z) := fun b u e n => by
    obtain ⟨e1, e2⟩ := cut_some e
    have hba : b ≠ a := fun z => e1 (by rw [z]; exact haz)
    rw [cut_out e1, upd_ne hba]
    exact e2
  obtain ⟨x, y, z, hd⟩ := A.gl.dice
  refine ⟨⟨⟨x, y, z, by rw [upd_ne (fun e => had e.symm)]; exact hd⟩, fun p hp => ?_⟩, A.dz, fun b hb => ?_, A.own, A.inj, by rw [List.length_set, A.len], fun j c e => ?_⟩
  · obtain ⟨ps, h1, h2, h3⟩ := A.gl.tab p hp
    have hpa : p.1 ≠ a := fun e => by
      rw [e, ho0] at h1
      exact nt0 ps (Option.some.inj h1)
    refine ⟨ps, by rw [upd_ne hpa]; exact h1, h2, fun pos cv hc => ?_⟩
    · obtain ⟨c, e1, e2⟩ := h3 pos cv hc
      refine ⟨c, e1, ?_⟩
      have hca : c ≠ a := fun e => by
        have ow' := A.slot i _ hi
        obtain ⟨a', ha', hs', q, _⟩ := ow'
        have ea : a' = a := by rw [hs] at hs'; cases hs'; rfl
        subst ea
        rw [← e, e2] at q
        unfold OwnAt at q
        split at q
        · obtain ⟨_, z, _⟩ := q; cases z
        · obtain ⟨_, z, _⟩ := q; cases z
        · obtain ⟨_, _, z, _⟩ := q; cases z
        · exact q
      rw [upd_ne hca]
      exact e2
  · by_cases e : b = a
    · rw [e]; exact ⟨o, upd_same, nt⟩
    · obtain ⟨u, h1, h2⟩ := A.live b hb
      exact ⟨u, by rw [upd_ne e]; exact h1, h2⟩
  · rcases set_get e with ⟨rfl, rfl, hl⟩ | ⟨hn, e2⟩
    · exact ⟨a, by rw [hk]; exact ha, hs, by rw [upd_same]; exact ow.mono gcut, ko'⟩
    · have := A.slot j c e2
      cases c with
      | un => trivial
      | val d =>
        obtain ⟨v, e, q⟩ := this
        exact ⟨v, e, q.mono gcut⟩
      | own d =>
        obtain ⟨b, hb, e, q, ko⟩ := this
        refine ⟨b, hb, e, ?_, ko⟩
        obtain ⟨_, _, _, _, koi⟩ := A.slot i _ hi
        have hba : b ≠ a := fun z => hn (kee_inj ko koi (congrArg Prod.fst (A.inj _ hb _ ha z)))
        rw [upd_ne hba]
        exact q.mono gcut
theorem Stp.write {o : HO} {k : Nat} {a : Addr} (ha : (k, a) ∈ O) (nt : ∀ ps, o ≠ .tbl ps) : Stp dl Z O H Z O (upd H a o) :=
  ⟨fun b u e _ m _ => by rw [upd_ne fun z => m _ ha z.symm]; exact e, fun q hq => .inl ⟨q, hq, rfl⟩, fun _ h _ => h, fun _ h => .inl h, fun _ h => h, fun b f u e => by
    by_cases z : b = a
    · obtain ⟨ps, e2⟩ := f o (by rw [z, upd_same])
      exact (nt ps e2).elim
    · exact f u (by rw [upd_ne z]; exact e)⟩
/-- an owned thing is let go: from now on read alone -/
theorem At.freeze {i : Nat} (A : At G dl Z O r sg H) : ∃ Z' O', At G dl Z' O' (frz i r) sg H ∧ Stp dl Z O H Z' O' H := by
  have core : ∀ d, r[i]? = some (.own d) → (∀ S v, GrowS (cut H Z) S → OwnAt G dl (cut H Z) d (H v) → S v = H v → Rep G dl S d (.ref v)) → ∃ Z' O', At G dl Z' O' (r.set i (.val d)) sg H ∧ Stp dl Z O H Z' O' H := fun d hi hrep => by
    obtain ⟨a, ha, hs, ow, koi⟩ := A.slot i _ hi
    obtain ⟨haz, had⟩ := A.own _ ha
    have hsub : GrowS (cut H Z) (cut H (Z.filter (· ≠ a))) := cut_sub fun b hb => (List.mem_filter.mp hb).1
    have hout : cut H (Z.filter (· ≠ a)) a = H a := cut_out fun hb => by simp at hb
    refine ⟨Z.filter (· ≠ a), O.filter (·.2 ≠ a), ⟨A.gl, List.mem_filter.mpr ⟨A.dz, by simpa using fun e : dl = a => had e.symm⟩, fun b hb => A.live b (List.mem_filter.mp hb).1, fun q hq => ?_, fun q hq q' hq' => A.inj q (List.mem_filter.mp hq).1 q' (List.mem_filter.mp hq').1, by rw [List.length_set, A.len], fun j c e => ?_⟩, ⟨fun _ _ h _ _ _ => h, fun q hq => .inl ⟨q, (List.mem_filter.mp hq).1, rfl⟩, fun b hb m => List.mem_filter.mpr ⟨hb, by simpa using fun e : b = a => m _ ha e.symm⟩, fun b hb => .inl (List.mem_filter.mp hb).1, fun b hb => (List.mem_filter.mp hb).1, fun _ h => h⟩⟩
    · obtain ⟨h1, h2⟩ := List.mem_filter.mp hq
      exact ⟨List.mem_filter.mpr ⟨(A.own q h1).1, h2⟩, (A.own q h1).2⟩
    · rcases set_get e with ⟨rfl, rfl, hl⟩ | ⟨hn, e2⟩
      · exact ⟨.ref a, hs, hrep _ a hsub ow hout⟩
      · have := A.slot j c e2
        cases c with
        | un => trivial
        | val d =>
          obtain ⟨v, e, q⟩ := this
          exact ⟨v, e, q.mono hsub⟩
        | own d =>
          obtain ⟨b, hb, e, q, ko⟩ := this
          refine ⟨b, List.mem_filter.mpr ⟨hb, ?_⟩, e, q.mono hsub, ko⟩
          simpa using fun z : b = a => hn (kee_inj ko koi (congrArg Prod.fst (A.inj _ hb _ ha z)))
  unfold frz
  split
  · rename_i ds hi
    refine core _ hi fun S v g ⟨vs, e, rl⟩ hv => ?_
    unfold Rep
    exact ⟨v, vs, rfl, by rw [hv]; exact e, rl.mono g⟩
  · rename_i ds hi
    refine core _ hi fun S v g ⟨kv, e, rl⟩ hv => ?_
    unfold Rep
    exact ⟨v, kv, rfl, .inl (by rw [hv]; exact e), rl.mono g⟩
  · exact ⟨Z, O, A, Stp.refl⟩
end
end DL
set_option Elab.async false
set_option linter.all false
set_option maxRecDepth 100000
namespace DL
open PySem L2 PySem.Spec PyProof.Rows
/-- a value for a name: read alone (val), or a new list or dict of one's own (own) -/
def tK (G : Gm) (W : WX) (f : LE → R Cell) : TE := fun sg H Q => ∃ dl Z O r, At G dl Z O r sg H ∧
  Wp (f r) (fun c => match c with
    | .val d => ∀ v H', Grow dl H H' → GlOk G dl H' → Rep G dl (cut H' Z) d v → Q v H'
    | .own d => ∀ p o H', Grow dl H H' → GlOk G dl H' → H' p = none → OwnAt G dl (cut H' Z) d (some o) → (∀ i, i ≠ 1000000 → kee i d = i ∧ keeOk i d) → Q (.ref p) (upd H' p o)
    | .un => False)
    (fun e => ∀ cls dx H', Grow dl H H' → GlOk G dl H' → XRep G dl (cut H' Z) e cls dx H' → W cls dx sg H')
abbrev DK (X : Cx) (G : Gm) (W : WX) (e : Expr) (f : LE → R Cell) : Prop := PE X e (tK G W f)
def valK (f : LE → R D) : LE → R Cell := fun r => f r >>= fun d => .ok (.val d)
def ownK (f : LE → R (List D)) : LE → R Cell := fun r => f r >>= fun ds => .ok (.own (.lst ds))
def okK : Cell → R Cell
  | .un => .stuck
  | .val d => .ok (.val d)
  | .own d => .ok (.own d)
def setK (i : Nat) (f : LE → R Cell) : LE → R Out := fun r => (f r >>= okK).onS r fun c => .ok (.nx (r.set i c))
def parK (i j : Nat) (f g : LE → R Cell) : LE → R Out := fun r => (f r >>= okK).onS r fun c => (g r >>= okK).onS r fun c' => .ok (.nx ((r.set i c).set j c'))
def tGd (G : Gm) (gd : D → LE → Option LE) (is : List Nat) : TG := fun v sg H Q => ∃ dl Z O r d, At G dl Z O r sg H ∧ Rep G dl (cut H Z) d v ∧ ∃ r', gd d r = some r' ∧
  ∀ sg', sg'.length = sg.length → (∀ j, j ∉ is → sg'[j]? = sg[j]?) → At G dl Z O r' sg' H → Q sg' H
abbrev DG (X : Cx) (G : Gm) (tg : Expr) (gd : D → LE → Option LE) (is : List Nat) : Prop := PG X tg (tGd G gd is)
def tGs (G : Gm) (gs : List D → LE → Option LE) (is : List Nat) : TGs := fun vs sg H Q => ∃ dl Z O r ds, At G dl Z O r sg H ∧ RepL G dl (cut H Z) ds vs ∧ ∃ r', gs ds r = some r' ∧
  ∀ sg', sg'.length = sg.length → (∀ j, j ∉ is → sg'[j]? = sg[j]?) → At G dl Z O r' sg' H → Q sg' H
abbrev DGs (X : Cx) (G : Gm) (tg : List Expr) (gs : List D → LE → Option LE) (is : List Nat) : Prop := PGs X tg (tGs G gs is)
def gN (i : Nat) : D → LE → Option LE := fun d r => some (r.set i (.val d))
def gNil_ : List D → LE → Option LE
  | [], r => some r
  | _, _ => none
def gCons_ (g : D → LE → Option LE) (gs : List D → LE → Option LE) : List D → LE → Option LE
  | d :: ds, r => (g d r).bind (gs ds)
  | [], _ => none
def gTup_ (n : Nat) (gs : List D → LE → Option LE) : D → LE → Option LE
  | .tup ds, r => if ds.length = n then gs ds r else none
  | _, _ => none
def asgS (f : LE → R D) (gd : D → LE → Option LE) : LE → R Out := fun r => (f r).onS r fun d => match gd d r with
  | some r' => .ok (.nx r')
  | none => .stuck
theorem PG_imp {X : Cx} {e : Expr} {t t' : TG} (h : PG X e t) (i : ∀ v sg H Q, t' v sg H Q → t v sg H Q) : PG X e t' := ⟨fun pins s sg H v u Q I r q => h.run pins s sg H v u Q I r (i _ _ _ _ q)⟩
theorem PGs_imp {X : Cx} {e : List Expr} {t t' : TGs} (h : PGs X e t) (i : ∀ v sg H Q, t' v sg H Q → t v sg H Q) : PGs X e t' := ⟨fun pins s sg H v u Q I r q => h.run pins s sg H v u Q I r (i _ _ _ _ q)⟩
section
variable {X : Cx} {G : Gm} {W : WX} {ex a b c : Expr} {es : List Expr} {f : LE → R D} {fk fk2 : LE → R Cell} {fs : LE → R (List D)} {h : LE → R Bool} {F K : LE → R Out} {st : Stmt} {rest : List Stmt} {pos pos' : Pos} {x y : Str} {i j : Nat}
theorem DE.k (q : DE X G W ex f) : DK X G W ex (valK f) := PE_imp q fun sg H Q ⟨dl, Z, O, r, A, q⟩ => ⟨dl, Z, O, r, A, q.bind.thn fun d z => z⟩
theorem DF.k (q : DF X G W ex fs) : DK X G W ex (ownK fs) := PE_imp q fun sg H Q ⟨dl, Z, O, r, A, q⟩ => ⟨dl, Z, O, r, A, q.bind.thn fun ds z p vs H' g k hp rl => z p (.lst vs) H' g k hp ⟨vs, rfl, rl⟩ fun i hi => ⟨rfl, hi⟩⟩
theorem dss_nil : DSs X G W [] skipS := PSs_imp pss_nil fun De sg H ⟨dl, Z, O, r, A, q⟩ => q Z O sg H Stp.refl A
theorem dss_cons (h1 : DS X G W st F) (h2 : DSs X G W rest K) : DSs X G W (st :: rest) (seqS F K) := PSs_imp (pss_cons h1 h2) fun De sg H ⟨dl, Z, O, r, A, q⟩ => by
  refine ⟨dl, Z, O, r, A, q.bind.thn fun o ho => ?_⟩
  cases o with
  | nx r' => exact fun Z' O' sg' H' s A' => ⟨dl, Z', O', r', A', ho.thn fun o z => SPost.trans A s z⟩
  | bk r' => exact ho
  | ct r' => exact ho
  | rt d => exact ho
  | ex e r' => exact ho
theorem dss_one (h1 : DS X G W st F) : DSs X G W [st] F := PSs_imp (pss_one h1) fun _ _ _ z => z
/-- slot i is read alone from here on -/
theorem DS.frz_ (i : Nat) (h1 : DS X G W st F) : DS X G W st (fun r => F (frz i r)) := PS_imp h1 fun De sg H ⟨dl, Z, O, r, A, q⟩ => by
  obtain ⟨Z', O', A', s⟩ := A.freeze (i := i)
  exact ⟨dl, Z', O', _, A', q.thn fun o z => SPost.trans A s z⟩
theorem ds_set (i : Nat) (he : DK X G W ex fk) (hti : i ≠ 1000000 := by decide) (hN : X.N.Nodup) (hi : X.N[i]? = some x := by rfl) (hx : Loc X.env.scope x := by first | exact Or.inl rfl | exact Or.inr rfl) (hs : swapsWith ex (some (.Name x pos')) pos.line X.env = pure false := by rfl)
    (hf : X.fn x = true ∨ X.env.scope.names.lookup x = some .local := by first | exact .inl rfl | exact .inr rfl) : DS X G W (.Assign [.Name x pos'] ex pos) (setK i fk) := PS_imp (ps_set hN hi hx he hs hf) fun De sg H ⟨dl, Z, O, r, A, q⟩ => by
  refine ⟨dl, Z, O, r, A, (onS_wp q).bind.mono (fun c hc => ?_) fun e he => spost_ex A he⟩
  cases c with
  | val d => exact fun v H1 g1 k1 rp => hc Z O _ H1 (Stp.of_grow g1 k1) ((A.grow g1 k1).set_val i rp)
  | own d => exact fun p o H1 g1 k1 hp ow hk => hc _ _ _ _ (Stp.trans A (Stp.of_grow g1 k1) (Stp.new (A.grow g1 k1) hp hti)) ((A.grow g1 k1).set_own i hp ow (hk i hti))
  | un => exact hc.elim
theorem ds_asg {gd : D → LE → Option LE} {is : List Nat} {tg : Expr} (he : DE X G W ex f) (hg : DG X G tg gd is) (hs : swapsWithSole [tg] ex pos.line X.env = pure false := by rfl) (hw : swappedStores [tg] ex X.env = pure none := by rfl)
    (h1 : (assignEach [tg] X.env).map (·.2) = [assign tg X.env] := by rfl) : DS X G W (.Assign [tg] ex pos) (asgS f gd) := PS_imp (ps_asg he hg hs hw h1) fun De sg H ⟨dl, Z, O, r, A, q⟩ => by
  refine ⟨dl, Z, O, r, A, (onS_wp q).mono (fun d hd v H1 g1 k1 rp => ?_) fun e he => spost_ex A he⟩
  split at hd
  · rename_i r' hr
    exact ⟨dl, Z, O, r, d, A.grow g1 k1, rp, r', hr, fun sg' _ _ A' => hd Z O sg' H1 (Stp.of_grow g1 k1) A'⟩
  · exact hd.elim
theorem ds_ret (he : DE X G W ex f) : DS X G W (.Return (some ex) pos) (retS f) := PS_imp (ps_ret he) fun De sg H ⟨dl, Z, O, r, A, q⟩ =>
  ⟨dl, Z, O, r, A, (onS_wp q).mono (fun d hd v H1 g1 k1 rp => hd Z O v H1 (Stp.of_grow g1 k1) k1 rp) fun e he => spost_ex A he⟩
theorem ds_if {sa sb : List Stmt} (hc : DT X G W c h) (ha : DSs X G W sa F) (hb : DSs X G W sb K) : DS X G W (.If c sa sb pos) (ifS h F K) := PS_imp (ps_if hc ha hb) fun De sg H ⟨dl, Z, O, r, A, q⟩ => by
  refine ⟨dl, Z, O, r, A, (onS_wp q).mono (fun b hb H1 g1 k1 => ?_) fun e he => spost_ex A he⟩
  cases b with
  | true => exact ⟨dl, Z, O, r, A.grow g1 k1, hb.thn fun o z => SPost.trans A (Stp.of_grow g1 k1) z⟩
  | false => exact ⟨dl, Z, O, r, A.grow g1 k1, hb.thn fun o z => SPost.trans A (Stp.of_grow g1 k1) z⟩
theorem ds_continue : DS X G W (.Continue pos) (fun r => .ok (.ct r)) := PS_imp ps_continue fun De sg H ⟨dl, Z, O, r, A, q⟩ => q Z O sg H Stp.refl A
theorem dg_name (i : Nat) (hN : X.N.Nodup) (hi : X.N[i]? = some x := by rfl) (hx : Loc X.env.scope x := by first | exact Or.inl rfl | exact Or.inr rfl) (hf : X.fn x = true ∨ X.env.scope.names.lookup x = some .local := by first | exact .inl rfl | exact .inr rfl) :
    DG X G (.Name x pos) (gN i) [i] := PG_imp (pg_name hN hi hx hf) fun v sg H Q ⟨dl, Z, O, r, d, A, rp, r', hr, q⟩ => by
  cases hr
  exact q _ (List.length_set ..) (fun j hj => List.getElem?_set_ne (by simpa using fun e : i = j => hj (by simp [e]))) (A.set_val i rp)
theorem dgs_nil : DGs X G [] gNil_ [] := PGs_imp pgs_nil fun vs sg H Q ⟨dl, Z, O, r, ds, A, rl, r', hr, q⟩ => by
  cases ds with
  | nil =>
    cases hr
    unfold RepL at rl
    exact ⟨rl, q sg rfl (fun _ _ => rfl) A⟩
  | cons d ds => cases hr
theorem dgs_cons {g1 : D → LE → Option LE} {gs : List D → LE → Option LE} {is js : List Nat} (h1 : DG X G ex g1 is) (h2 : DGs X G es gs js)
    (hs : (assignEach (ex :: es) X.env).map (·.2) = assign ex X.env :: (assignEach es X.env).map (·.2) := by rfl) : DGs X G (ex :: es) (gCons_ g1 gs) (is ++ js) := PGs_imp (pgs_cons h1 h2 hs) fun vs sg H Q ⟨dl, Z, O, r, ds, A, rl, r', hr, q⟩ => by
  cases ds with
  | nil => cases hr
  | cons d ds =>
    unfold RepL at rl
    obtain ⟨v, us, rfl, rp, rl⟩ := rl
    change (g1 d r).bind (gs ds) = some r' at hr
    cases e : g1 d r with
    | none => rw [e] at hr; cases hr
    | some r1 =>
      rw [e] at hr
      refine ⟨v, us, rfl, dl, Z, O, r, d, A, rp, r1, e, fun sg1 l1 s1 A1 => ?_⟩
      refine ⟨dl, Z, O, r1, ds, A1, rl, r', hr, fun sg2 l2 s2 A2 => q sg2 (l2.trans l1) (fun j hj => ?_) A2⟩
      rw [List.mem_append, not_or] at hj
      rw [s2 j hj.2, s1 j hj.1]
theorem dg_tup {gs : List D → LE → Option LE} {is : List Nat} {k : Nat} {n : Nat} (hG : G.K = X.K) (hc : X.calm = true) (h : DGs X G es gs is) (hn : (assignEach es X.env).length = n := by rfl) (hst : (assignEach es X.env).findIdx? (·.1) = none := by rfl) :
    DG X G (.Tuple es k pos) (gTup_ n gs) is := PG_imp (pg_tup hc h hn hst) fun v sg H Q ⟨dl, Z, O, r, d, A, rp, r', hr, q⟩ => by
  cases d <;> first | (cases hr; done) | skip
  rename_i ds
  change (if ds.length = n then gs ds r else none) = some r' at hr
  split at hr
  · rename_i hl
    unfold Rep at rp
    obtain ⟨a, vs, rfl, e, rl⟩ := rp
    exact ⟨a, vs, rfl, hG ▸ (cut_grow H Z).sqt e, by rw [rl.length]; exact hl, dl, Z, O, r, ds, A, rl, r', hr, q⟩
  · cases hr
theorem At.aside {dl : Addr} {Z : List Addr} {O : List (Nat × Addr)} {r : LE} {sg : L2.St} {H : Hp} (A : At G dl Z O r sg H) {p : Addr} {o : HO} (hp : H p = none) (nt : ∀ ps, o ≠ .tbl ps) : At G dl (p :: Z) O r sg (upd H p o) := by
  refine ⟨A.gl.new hp, List.mem_cons_of_mem _ A.dz, fun a ha => ?_, fun q hq => ⟨List.mem_cons_of_mem _ (A.own q hq).1, (A.own q hq).2⟩, A.inj, A.len, fun j c e => ?_⟩
  · rcases List.mem_cons.mp ha with rfl | ha
    · exact ⟨o, upd_same, nt⟩
    · obtain ⟨u, e, n⟩ := A.live a ha
      exact ⟨u, by rw [upd_ne (ne_of_none e hp)]; exact e, n⟩
  · have := A.slot j c e
    cases c with
    | un => trivial
    | val d =>
      obtain ⟨v, e, q⟩ := this
      exact ⟨v, e, q.mono (cut_new hp)⟩
    | own d =>
      obtain ⟨a, ha, e, q, ko⟩ := this
      have hap : a ≠ p := fun z => A.out hp (by rw [← z]; exact (A.own _ ha).1)
      refine ⟨a, ha, e, ?_, ko⟩
      rw [upd_ne hap]
      exact q.mono (cut_new hp)
theorem XRep.mono {dl : Addr} {S S' : Hp} {e : Exc} {cls : Value} {dx : Option Addr} {H : Hp} (g : GrowS S S') (x : XRep G dl S e cls dx H) : XRep G dl S' e cls dx H := by
  unfold XRep at *
  refine ⟨x.1, ?_⟩
  have x2 := x.2
  split
  · rename_i hn; rw [hn] at x2; exact x2
  · rename_i f hf
    rw [hf] at x2
    obtain ⟨d, v, h1, h2, h3⟩ := x2
    exact ⟨d, v, h1, h2, h3.mono g⟩
theorem ds_par (i j : Nat) (hc : X.calm = true) (hN : X.N.Nodup) {px py pt pt2 : Pos} {kt k2 : Nat} (hij : i ≠ j) (hti : i ≠ 1000000) (htj : j ≠ 1000000) (ha : DK X G W a fk) (hb : DK X G W b fk2)
    (hx : X.env.scope.names.lookup x = some .local := by rfl) (hy : X.env.scope.names.lookup y = some .local := by rfl) (hi : X.N[i]? = some x := by rfl) (hj : X.N[j]? = some y := by rfl)
    (hw : swappedStores [.Tuple [.Name x px, .Name y py] kt pt] (.Tuple [a, b] k2 pt2) X.env = pure (some [x, y]) := by rfl)
    (hs : swapsWithSole [.Tuple [.Name x px, .Name y py] kt pt] (.Tuple [a, b] k2 pt2) pos.line X.env = pure false := by rfl)
    (s1 : starEach [a, b] X.env = (false, eval a X.env) :: starEach [b] X.env := by rfl) (s2 : starEach [b] X.env = (false, eval b X.env) :: starEach [] X.env := by rfl) :
    DS X G W (.Assign [.Tuple [.Name x px, .Name y py] kt pt] (.Tuple [a, b] k2 pt2) pos) (parK i j fk fk2) := PS_imp (ps_par hc hN hi hj hij hx hy (pa_cons ha (pa_cons hb pa_nil s2) s1) hw hs) fun De sg H ⟨dl, Z, O, r, A, q⟩ => by
  refine ⟨dl, Z, O, r, A, (onS_wp q).bind.mono (fun c hc => ?_) fun e he => spost_ex A he⟩
  cases c with
  | val d =>
    intro v H1 g1 k1 rp
    have A1 := A.grow g1 k1
    refine ⟨dl, Z, O, r, A1, (onS_wp hc).bind.mono (fun c' hc' => ?_) fun e he => epost g1 (spost_ex A he)⟩
    cases c' with
    | val d' =>
      intro v' H2 g2 k2 rp'
      exact ⟨v, v', rfl, hc' Z O _ H2 (Stp.of_grow (g1.trans g2) k2) (((A1.grow g2 k2).set_val i (rp.mono (g2.cut A.dz))).set_val j rp')⟩
    | own d' =>
      intro p o H2 g2 k2 hp ow hk
      have A2 := (A1.grow g2 k2).set_val i (rp.mono (g2.cut A.dz))
      exact ⟨v, _, rfl, hc' _ _ _ _ (Stp.trans A (Stp.of_grow (g1.trans g2) k2) (Stp.new A2 hp htj)) (A2.set_own j hp ow (hk j htj))⟩
    | un => exact hc'.elim
  | own d =>
    intro p o H1 g1 k1 hp ow hk
    obtain ⟨_, ho, nt⟩ := ow.notTbl
    cases ho
    have A1 := A.grow g1 k1
    have B1 := A1.aside hp nt
    have B2 := A1.set_own i hp ow (hk i hti)
    have hs1 : Stp dl Z O H (p :: Z) ((i, p) :: O) (upd H1 p o) := Stp.trans A (Stp.of_grow g1 k1) (Stp.new A1 hp hti)
    refine ⟨dl, p :: Z, O, r, B1, (onS_wp hc).bind.mono (fun c' hc' => ?_) fun e he cls dx H2 g2 k2 xr => ?_⟩
    · cases c' with
      | val d' =>
        intro v' H2 g2 k2 rp'
        exact ⟨_, v', rfl, hc' _ _ _ H2 (Stp.trans A hs1 (Stp.of_grow g2 k2)) ((B2.grow g2 k2).set_val j rp')⟩
      | own d' =>
        intro p' o' H2 g2 k2 hp' ow' hk'
        exact ⟨_, _, rfl, hc' _ _ _ _ (Stp.trans A hs1 (Stp.trans B2 (Stp.of_grow g2 k2) (Stp.new (B2.grow g2 k2) hp' htj))) ((B2.grow g2 k2).set_own j hp' ow' (hk' j htj))⟩
      | un => exact hc'.elim
    · exact spost_ex A he cls dx H2 ((g1.trans (.new hp)).trans g2) k2 (xr.mono (cut_sub fun a ha => List.mem_cons_of_mem _ ha))
  | un => exact hc.elim
end
end DL
set_option Elab.async false
set_option linter.all false
set_option maxRecDepth 100000
namespace DL
open PySem L2 PySem.Spec PyProof.Rows
/-- the iterator J hands out ds, as long as B -/
structure WalkE (G : Gm) (dl : Addr) (J : It) (ds : List D) (B : List Addr → Hp → Prop) : Prop where
  mono : ∀ Z Z' H H', GrowS (cut H Z) (cut H' Z') → Grow dl H H' → B Z H → B Z' H'
  go : ∀ i Z H, B Z H → i < ds.length → J.go i H
  stop : ∀ i Z H, B Z H → ds.length ≤ i → J.stop i H
  yld : ∀ i Z O r sg H x H', At G dl Z O r sg H → B Z H → J.yld i H x H' → ∀ d, ds[i]? = some d → Grow dl H H' ∧ GlOk G dl H' ∧ Rep G dl (cut H' Z) d x
structure WalkS (G : Gm) (dl : Addr) (J : It) (ds : List D) (B : List Addr → Hp → Prop) : Prop extends WalkE G dl J ds B where
  monoS : ∀ Z Z' H H', GrowS (cut H Z) (cut H' Z') → B Z H → B Z' H'
def tIs (G : Gm) (W : WX) (f : LE → R (List D)) : TI := fun sg H Rr => ∃ dl Z O r, At G dl Z O r sg H ∧
  Wp (f r) (fun ds => ∀ J B H', Grow dl H H' → GlOk G dl H' → WalkS G dl J ds B → B Z H' → Rr J H')
    (fun e => ∀ cls dx H', Grow dl H H' → GlOk G dl H' → XRep G dl (cut H' Z) e cls dx H' → W cls dx sg H')
def tIe (G : Gm) (W : WX) (f : LE → R (List D)) : TI := fun sg H Rr => ∃ dl Z O r, At G dl Z O r sg H ∧
  Wp (f r) (fun ds => ∀ J B H', Grow dl H H' → GlOk G dl H' → WalkE G dl J ds B → B Z H' → Rr J H')
    (fun e => ∀ cls dx H', Grow dl H H' → GlOk G dl H' → XRep G dl (cut H' Z) e cls dx H' → W cls dx sg H')
abbrev DI (X : Cx) (G : Gm) (W : WX) (tg iter : Expr) (f : LE → R (List D)) : Prop := PI X tg iter (tIs G W f)
abbrev DIe (X : Cx) (G : Gm) (W : WX) (tg iter : Expr) (f : LE → R (List D)) : Prop := PI X tg iter (tIe G W f)
theorem PI_imp {X : Cx} {tg e : Expr} {t t' : TI} (h : PI X tg e t) (i : ∀ sg H Q, t' sg H Q → t sg H Q) : PI X tg e t' := ⟨fun pins s sg H Q I q => h.run pins s sg H Q I (i _ _ _ q)⟩
theorem DI.e {X : Cx} {G : Gm} {W : WX} {tg iter : Expr} {f : LE → R (List D)} (h : DI X G W tg iter f) : DIe X G W tg iter f :=
  PI_imp h fun sg H Q ⟨dl, Z, O, r, A, q⟩ => ⟨dl, Z, O, r, A, q.thn fun ds z J B H' g k w b => z J B H' g k w.toWalkE b⟩
def lstD : D → R (List D)
  | .lst ds => .ok ds
  | _ => .stuck
def tupD : D → R (List D)
  | .tup ds => .ok ds
  | _ => .stuck
section
variable {X : Cx} {G : Gm} {W : WX} {tg iter : Expr} {f : LE → R D} {pos p : Pos}
theorem walk_list {dl a : Addr} {ds : List D} {vs : List V} : WalkS G dl (Itl G.K a) ds (fun Z H => cut H Z a = some (.lst vs) ∧ RepL G dl (cut H Z) ds vs) where
  mono := fun Z Z' H H' g _ h => ⟨g a _ h.1 (fun ps z => by cases z), h.2.mono g⟩
  monoS := fun Z Z' H H' g h => ⟨g a _ h.1 (fun ps z => by cases z), h.2.mono g⟩
  go := fun i Z H h hi => by
    have := h.2.length
    exact ⟨vs, vs[i]'(by omega), SqL.of (cut_some h.1).2, by simp⟩
  stop := fun i Z H h hi => ⟨vs, SqL.of (cut_some h.1).2, by have := h.2.length; omega⟩
  yld := fun i Z O r sg H x H' A h hy d hd => by
    obtain ⟨rfl, hy⟩ := hy
    obtain ⟨v, h1, h2⟩ := RepL.getD ds vs i d h.2 hd
    have h3 := hy vs (SqL.of (cut_some h.1).2)
    rw [h1] at h3
    cases h3
    exact ⟨.refl _ _, A.gl, h2⟩
theorem walk_listE {dl a : Addr} {ds : List D} {vs : List V} (had : a ≠ dl) : WalkE G dl (Itl G.K a) ds (fun Z H => H a = some (.lst vs) ∧ RepL G dl (cut H Z) ds vs) where
  mono := fun Z Z' H H' g g2 h => ⟨g2 a _ h.1 had (fun ps z => by cases z), h.2.mono g⟩
  go := fun i Z H h hi => by
    have := h.2.length
    exact ⟨vs, vs[i]'(by omega), SqL.of h.1, by simp⟩
  stop := fun i Z H h hi => ⟨vs, SqL.of h.1, by have := h.2.length; omega⟩
  yld := fun i Z O r sg H x H' A h hy d hd => by
    obtain ⟨rfl, hy⟩ := hy
    obtain ⟨v, h1, h2⟩ := RepL.getD ds vs i d h.2 hd
    have h3 := hy vs (SqL.of h.1)
    rw [h1] at h3
    cases h3
    exact ⟨.refl _ _, A.gl, h2⟩
theorem walk_tup {dl a : Addr} {ds : List D} {vs : List V} : WalkS G dl (Itt G.K a) ds (fun Z H => SqT G.K (cut H Z) a vs ∧ RepL G dl (cut H Z) ds vs) where
  mono := fun Z Z' H H' g _ h => ⟨g.sqt h.1, h.2.mono g⟩
  monoS := fun Z Z' H H' g h => ⟨g.sqt h.1, h.2.mono g⟩
  go := fun i Z H h hi => by
    have := h.2.length
    exact ⟨vs, vs[i]'(by omega), (cut_grow H Z).sqt h.1, by simp⟩
  stop := fun i Z H h hi => ⟨vs, (cut_grow H Z).sqt h.1, by have := h.2.length; omega⟩
  yld := fun i Z O r sg H x H' A h hy d hd => by
    obtain ⟨rfl, hy⟩ := hy
    obtain ⟨v, h1, h2⟩ := RepL.getD ds vs i d h.2 hd
    have h3 := hy vs ((cut_grow _ Z).sqt h.1)
    rw [h1] at h3
    cases h3
    exact ⟨.refl _ _, A.gl, h2⟩
theorem di_list (hG : G.K = X.K) (h : DE X G W iter f) : DI X G W tg iter (fun r => f r >>= lstD) := PI_imp (pi_list h) fun sg H Q ⟨dl, Z, O, r, A, q⟩ => by
  refine ⟨dl, Z, O, r, A, q.bind.thn fun d hd v H1 g1 k1 rp => ?_⟩
  unfold lstD at hd
  split at hd
  · unfold Rep at rp
    obtain ⟨a, vs, rfl, e, rl⟩ := rp
    refine ⟨a, rfl, ⟨vs, SqL.of (cut_some e).2⟩, ?_⟩
    rw [← hG]
    exact hd _ _ H1 g1 k1 walk_list ⟨e, rl⟩
  · exact hd.elim
theorem di_tup (hG : G.K = X.K) (h : DE X G W iter f) : DI X G W tg iter (fun r => f r >>= tupD) := PI_imp (pi_tup h) fun sg H Q ⟨dl, Z, O, r, A, q⟩ => by
  refine ⟨dl, Z, O, r, A, q.bind.thn fun d hd v H1 g1 k1 rp => ?_⟩
  unfold tupD at hd
  split at hd
  · unfold Rep at rp
    obtain ⟨a, vs, rfl, e, rl⟩ := rp
    refine ⟨a, rfl, ⟨vs, hG ▸ (cut_grow H1 Z).sqt e⟩, ?_⟩
    rw [← hG]
    exact hd _ _ H1 g1 k1 walk_tup ⟨e, rl⟩
  · exact hd.elim
theorem die_list (hG : G.K = X.K) (h : DP X G W iter f) : DIe X G W tg iter (fun r => f r >>= lstD) := PI_imp (pi_list h) fun sg H Q ⟨dl, Z, O, r, A, q⟩ => by
  refine ⟨dl, Z, O, r, A, q.bind.thn fun d hd v H1 g1 k1 rp => ?_⟩
  unfold lstD at hd
  split at hd
  · rcases rp with rp | ⟨a, rfl, haz, had, ow⟩
    · unfold Rep at rp
      obtain ⟨a, vs, rfl, e, rl⟩ := rp
      refine ⟨a, rfl, ⟨vs, SqL.of (cut_some e).2⟩, ?_⟩
      rw [← hG]
      exact hd _ _ H1 g1 k1 walk_list.toWalkE ⟨e, rl⟩
    · obtain ⟨vs, e, rl⟩ := ow
      refine ⟨a, rfl, ⟨vs, SqL.of e⟩, ?_⟩
      rw [← hG]
      exact hd _ _ H1 g1 k1 (walk_listE had) ⟨e, rl⟩
  · exact hd.elim
/-- range(..): the ints -/
def rangeL (lo : Int) (n : Nat) : List D := (List.range n).map fun (i : Nat) => D.int (lo + (i : Int))
def rng1 : List D → R (List D)
  | [.int j] => if j < 1073741824 ∧ -(1073741824) < j then .ok (rangeL 0 j.toNat) else .stuck
  | _ => .stuck
def rng2 : List D → R (List D)
  | [.int i, .int j] => if j < 1073741824 ∧ -(1073741824) < j ∧ i < 1073741824 ∧ -(1073741824) < i then .ok (rangeL i (j - i).toNat) else .stuck
  | _ => .stuck
theorem rangeL_get {lo : Int} {n i : Nat} {d : D} (h : (rangeL lo n)[i]? = some d) : d = .int (lo + (i : Int)) := by
  unfold rangeL at h
  rw [List.getElem?_map] at h
  cases e : (List.range n)[i]? with
  | none => rw [e] at h; cases h
  | some k =>
    rw [e] at h
    cases h
    obtain ⟨h1, h2⟩ := List.getElem?_eq_some_iff.mp e
    rw [List.getElem_range] at h2
    rw [h2]
theorem walk_rng {dl : Addr} {lo : Int} {n : Nat} : WalkS G dl (Itr lo n) (rangeL lo n) (fun _ _ => True) where
  mono := fun _ _ _ _ _ _ _ => trivial
  monoS := fun _ _ _ _ _ _ => trivial
  go := fun i Z H h hi => by
    show i < n
    unfold rangeL at hi; simpa using hi
  stop := fun i Z H h hi => by
    show n ≤ i
    unfold rangeL at hi; simpa using hi
  yld := fun i Z O r sg H x H' A h hy d hd => by
    obtain ⟨rfl, rfl⟩ := hy
    rw [rangeL_get hd]
    exact ⟨.refl _ _, A.gl, Rep.int_⟩
theorem RepL.one_int {dl : Addr} {S : Hp} {j : Int} {vs : List V} (h : RepL G dl S [.int j] vs) : vs = [.int j] := by
  unfold RepL at h
  obtain ⟨v, r, rfl, h1, h2⟩ := h
  unfold Rep at h1
  unfold RepL at h2
  rw [h1, h2]
theorem di_rng1 {a : Expr} {fs : LE → R (List D)} (hg : Gl X "range") (hm : X.mg "range" = none) (ha : DA X G W [a] fs) (hs : starEach [a] X.env = [(false, eval a X.env)] := by rfl) : DI X G W tg (.Call (.Name "range" p) [a] [] pos) (fun r => fs r >>= rng1) :=
  PI_imp (pi_range1 hg hm ha hs) fun sg H Q ⟨dl, Z, O, r, A, q⟩ => by
    refine ⟨dl, Z, O, r, A, q.bind.thn fun ds hd vs H1 g1 k1 rl => ?_⟩
    unfold rng1 at hd
    split at hd
    · split at hd
      · rename_i j hj
        exact ⟨j, rl.one_int, by omega, by omega, hd _ _ H1 g1 k1 walk_rng trivial⟩
      · exact hd.elim
    · exact hd.elim
theorem di_rng2 {a b : Expr} {fs : LE → R (List D)} (hg : Gl X "range") (hm : X.mg "range" = none) (ha : DA X G W [a, b] fs) (hs : starEach [a, b] X.env = [(false, eval a X.env), (false, eval b X.env)] := by rfl) (hs2 : starEach [b] X.env = [(false, eval b X.env)] := by rfl) :
    DI X G W tg (.Call (.Name "range" p) [a, b] [] pos) (fun r => fs r >>= rng2) :=
  PI_imp (pi_range2 hg hm ha hs hs2) fun sg H Q ⟨dl, Z, O, r, A, q⟩ => by
    refine ⟨dl, Z, O, r, A, q.bind.thn fun ds hd vs H1 g1 k1 rl => ?_⟩
    unfold rng2 at hd
    split at hd
    · split at hd
      · rename_i i j hj
        unfold RepL at rl
        obtain ⟨v, us, rfl, h1, rl⟩ := rl
        have := rl.one_int
        subst this
        unfold Rep at h1
        subst h1
        exact ⟨i, j, rfl, ⟨by omega, by omega, by omega, by omega⟩, hd _ _ H1 g1 k1 walk_rng trivial⟩
      · exact hd.elim
    · exact hd.elim
end
def loopS (gd : D → LE → Option LE) (body : LE → R Out) : List D → LE → R Out
  | [], r => .ok (.nx r)
  | d :: ds, r => match gd d r with
    | none => .stuck
    | some r' => do
      match ← body r' with
      | .nx r2 => loopS gd body ds r2
      | .ct r2 => loopS gd body ds r2
      | .bk r2 => .ok (.nx r2)
      | .rt d => .ok (.rt d)
      | .ex e r2 => .ok (.ex e r2)
def forS (fi : LE → R (List D)) (gd : D → LE → Option LE) (body : LE → R Out) : LE → R Out := fun r => (fi r).onS r fun ds => loopS gd body ds r
section
variable {X : Cx} {G : Gm} {W : WX} {tg iter : Expr} {fi : LE → R (List D)} {gd : D → LE → Option LE} {is : List Nat} {F : LE → R Out} {body : List Stmt} {pos : Pos}
theorem ds_for (hp : PassesOwn (model X.prog X.w) X.A X.env X.xe) (hc : X.calm = true) (hi : DI X G W tg iter fi) (hg : DG X G tg gd is) (hb : DSs X G W body F)
    (hs : ∀ x, foldedSetIterable iter X.env x = pure x := by intro _; rfl) : DS X G W (.For tg iter body [] pos) (forS fi gd F) := PS_imp (ps_for hp hc hi hg hb hs) fun De sg H ⟨dl, Z, O, r, A, q⟩ => by
  refine ⟨dl, Z, O, r, A, (onS_wp q).mono (fun ds hds J B H1 g1 k1 wk hB => ?_) fun e he => spost_ex A he⟩
  have A1 := A.grow g1 k1
  have s1 : Stp dl Z O H Z O H1 := Stp.of_grow g1 k1
  refine ⟨fun i m sg' H' => m = ds.length - i ∧ i ≤ ds.length ∧ ∃ Z' O' r', At G dl Z' O' r' sg' H' ∧ Stp dl Z O H Z' O' H' ∧ B Z' H' ∧ Wp (loopS gd F (ds.drop i) r') (SPost G W De dl Z O H) (fun _ => False),
    ⟨ds.length, by simp, Nat.zero_le _, Z, O, r, A1, s1, hB, by simpa using hds⟩, ?_⟩
  rintro i m sg' H' ⟨rfl, hi', Z', O', r', A', s', hB', hw⟩
  by_cases hlt : i < ds.length
  · have hdrop : ds.drop i = ds[i] :: ds.drop (i + 1) := List.drop_eq_getElem_cons hlt
    rw [hdrop] at hw
    refine .inr ⟨wk.go i Z' H' hB' hlt, fun sg2 H2 => i + 1 ≤ ds.length ∧ ∃ Z' O' r', At G dl Z' O' r' sg2 H2 ∧ Stp dl Z O H Z' O' H2 ∧ B Z' H2 ∧ Wp (loopS gd F (ds.drop (i + 1)) r') (SPost G W De dl Z O H) (fun _ => False), fun sg2 H2 h2 => ⟨ds.length - (i + 1), by omega, rfl, h2⟩, fun x H2 hy => ?_⟩
    obtain ⟨g2, k2, rp⟩ := wk.yld i Z' O' r' sg' H' x H2 A' hB' hy ds[i] (by simp)
    have A2 := A'.grow g2 k2
    have s2 : Stp dl Z O H Z' O' H2 := Stp.trans A s' (Stp.of_grow g2 k2)
    have hB2 : B Z' H2 := wk.mono _ _ _ _ (g2.cut A'.dz) g2 hB'
    unfold loopS at hw
    cases hgd : gd ds[i] r' with
    | none => rw [hgd] at hw; exact hw.elim
    | some r2 =>
      rw [hgd] at hw
      refine ⟨dl, Z', O', r', ds[i], A2, rp, r2, hgd, fun sg3 _ _ A3 => ⟨dl, Z', O', r2, A3, hw.bind.thn fun o ho => ?_⟩⟩
      have step : ∀ {r3 : LE}, Wp (loopS gd F (ds.drop (i + 1)) r3) (SPost G W De dl Z O H) (fun _ => False) → ∀ Z4 O4 sg4 H4, Stp dl Z' O' H2 Z4 O4 H4 → At G dl Z4 O4 r3 sg4 H4 →
          i + 1 ≤ ds.length ∧ ∃ Z' O' r', At G dl Z' O' r' sg4 H4 ∧ Stp dl Z O H Z' O' H4 ∧ B Z' H4 ∧ Wp (loopS gd F (ds.drop (i + 1)) r') (SPost G W De dl Z O H) (fun _ => False) := fun hw4 Z4 O4 sg4 H4 s4 A4 =>
        ⟨hlt, Z4, O4, _, A4, Stp.trans A s2 s4, wk.monoS _ _ _ _ (Stp.cut A3 s4) hB2, hw4⟩
      cases o with
      | nx r3 => exact step ho
      | ct r3 => exact step ho
      | bk r3 => exact fun Z4 O4 sg4 H4 s4 A4 => ho Z4 O4 sg4 H4 (Stp.trans A s2 s4) A4
      | rt d => exact SPost.trans A s2 ho
      | ex e r3 => exact SPost.trans A s2 ho
  · have e : i = ds.length := by omega
    subst e
    rw [List.drop_length] at hw
    exact .inl ⟨wk.stop _ Z' H' hB' (Nat.le_refl _), hw Z' O' sg' H' s' A'⟩
end
end DL
set_option Elab.async false
set_option linter.all false
set_option maxRecDepth 100000
namespace DL
open PySem L2 PySem.Spec PyProof.Rows
/-- what is raised is not served here -/
def R.calm {α : Type} : R α → R α
  | .ok a => .ok a
  | .err _ => .stuck
  | .stuck => .stuck
  | .roll m f => .roll m fun i => (f i).calm
@[simp] theorem calm_ok {α : Type} (a : α) : (R.ok a).calm = .ok a := rfl
@[simp] theorem calm_roll {α : Type} (m : Nat) (f : Nat → R α) : (R.roll m f).calm = .roll m fun i => (f i).calm := rfl
theorem calm_wp {α : Type} {Q : α → Prop} {E E' : Exc → Prop} : ∀ {m : R α}, Wp m.calm Q E → Wp m Q E'
  | .ok _, h => h
  | .err _, h => h.elim
  | .stuck, h => h.elim
  | .roll _ _, h => fun i hi => calm_wp (h i hi)
/-- the comprehension's own names forgotten -/
def wipeL (r : LE) : List Nat → LE
  | [] => r
  | v :: vs => (wipeL r vs).set v .un
def W0 : WX := fun _ _ _ _ => False
def loopC (gd : D → LE → Option LE) (tt : LE → R Bool) (te : LE → R D) (r : LE) : List D → R (List D)
  | [] => .ok []
  | d :: ds => match gd d r with
    | none => .stuck
    | some r' => do
      if (← (tt r').calm) then do
        let y ← (te r').calm
        let ys ← loopC gd tt te r ds
        .ok (y :: ys)
      else loopC gd tt te r ds
def compF (fi : LE → R (List D)) (gd : D → LE → Option LE) (tt : LE → R Bool) (te : LE → R D) (vs : List Nat) : LE → R (List D) := fun r => do
  let ds ← fi r
  if ds.length ≤ 16777216 then loopC gd tt te (wipeL r vs) ds else .stuck
def yesT : LE → R Bool := fun _ => .ok true
section
variable {G : Gm} {dl : Addr} {Z : List Addr} {O : List (Nat × Addr)} {r : LE} {sg : L2.St} {H : Hp}
theorem At.wipe (A : At G dl Z O r sg H) : ∀ vs : List Nat, At G dl Z O (wipeL r vs) (wipe sg vs) H
  | [] => A
  | v :: vs => (At.wipe A vs).set_un v none
theorem wipe_get {sg : L2.St} {j : Nat} : ∀ {vs : List Nat}, j ∉ vs → (wipe sg vs)[j]? = sg[j]?
  | [], _ => rfl
  | v :: vs, h => by
    rw [List.mem_cons, not_or] at h
    unfold wipe
    rw [List.getElem?_set_ne fun e => h.1 e.symm]
    exact wipe_get h.2
theorem wipe_at {sg : L2.St} {j : Nat} : ∀ {vs : List Nat}, j ∈ vs → j < sg.length → (wipe sg vs)[j]? = some none
  | [], h, _ => by cases h
  | v :: vs, h, hl => by
    unfold wipe
    by_cases e : v = j
    · subst e
      rw [List.getElem?_set_self (by rw [wipe_length]; exact hl)]
    · rw [List.getElem?_set_ne e]
      rcases List.mem_cons.mp h with h | h
      · exact (e h.symm).elim
      · exact wipe_at h hl
theorem wipe_same {sg sg' : L2.St} {vs : List Nat} (hl : sg'.length = sg.length) (h : ∀ j, j ∉ vs → sg'[j]? = sg[j]?) : L2.wipe sg' vs = L2.wipe sg vs := by
  refine List.ext_getElem? fun j => ?_
  by_cases e : j ∈ vs
  · by_cases q : j < sg.length
    · rw [wipe_at e q, wipe_at e (by omega)]
    · rw [List.getElem?_eq_none (by rw [wipe_length]; omega), List.getElem?_eq_none (by rw [wipe_length]; omega)]
  · rw [wipe_get e, wipe_get e, h j e]
theorem wipe_wipe {sg : L2.St} (vs : List Nat) : L2.wipe (L2.wipe sg vs) vs = L2.wipe sg vs := wipe_same (wipe_length ..) fun j h => wipe_get h
/-- H without p -/
theorem upd_cut {H : Hp} {p : Addr} {o : HO} (h : H p = some o) : upd (cut H [p]) p o = H := by
  funext b
  unfold upd cut
  by_cases e : b = p
  · subst e; simp [h]
  · simp [e]
end
section
variable {X : Cx} {G : Gm} {W : WX} {tg iter : Expr} {fi : LE → R (List D)} {gd : D → LE → Option LE} {is vs : List Nat} {tt : LE → R Bool} {te : LE → R D}
theorem lc_core_d (hsub : ∀ j ∈ is, j ∈ vs) {sg : L2.St} {H : Hp} {Q : VK} (h : tF G W (compF fi gd tt te vs) sg H Q) : tLc (tIe G W fi) (tGd G gd is) (tT G W0 tt) (tD G W0 te) vs sg H Q := by
  obtain ⟨dl, Z, O, r, A, q⟩ := h
  refine ⟨dl, Z, O, r, A, q.bind.thn fun ds hds J B H1 g1 k1 wk hB D hD => ?_⟩
  have A1 := A.grow g1 k1
  split at hds
  case isFalse => exact hds.elim
  rename_i hlen
  have nt : ∀ (xs : List V) ps, HO.lst xs ≠ HO.tbl ps := fun _ _ z => by cases z
  have B1 : At G dl (D :: Z) O r sg (upd H1 D (.lst [])) := A1.aside hD (nt _)
  have hDZ := A1.out hD
  have hDd := A1.notdl hD
  have hB1 : B (D :: Z) (upd H1 D (.lst [])) := wk.mono _ _ _ _ (cut_new hD) (.new hD) hB
  -- the state between turns
  let St : Nat → Hp → Prop := fun i H' => i ≤ ds.length ∧ ∃ acc us, At G dl (D :: Z) O r sg H' ∧ Grow dl H1 H' ∧ B (D :: Z) H' ∧ H' D = some (.lst us) ∧ RepL G dl (cut H' (D :: Z)) acc us ∧ acc.length ≤ i ∧
    Wp (loopC gd tt te (wipeL r vs) (ds.drop i)) (fun ys => ∀ p us H2, Grow dl H H2 → GlOk G dl H2 → H2 p = none → RepL G dl (cut H2 Z) (acc ++ ys) us → Q (.ref p) (upd H2 p (.lst us))) (fun e => ∀ cls dx H', Grow dl H H' → GlOk G dl H' → XRep G dl (cut H' Z) e cls dx H' → W cls dx sg H')
  refine ⟨fun i m H' => m = ds.length - i ∧ St i H', ⟨ds.length, by simp, Nat.zero_le _, [], [], B1, .new hD, hB1, upd_same, RepL.nil, Nat.le_refl _, by simpa using hds⟩, ?_⟩
  rintro i m H' ⟨rfl, hi', acc, us, A', gH, hB', hDu, rl, hal, hw⟩
  by_cases hlt : i < ds.length
  · have hdrop : ds.drop i = ds[i] :: ds.drop (i + 1) := List.drop_eq_getElem_cons hlt
    rw [hdrop] at hw
    refine .inr ⟨wk.go i _ H' hB' hlt, St (i + 1), fun H2 h2 => ⟨ds.length - (i + 1), by omega, rfl, h2⟩, fun x H2 hy => ?_⟩
    obtain ⟨g2, k2, rp⟩ := wk.yld i _ O r sg H' x H2 A' hB' hy ds[i] (by simp)
    have A2 := A'.grow g2 k2
    unfold loopC at hw
    cases hgd : gd ds[i] (wipeL r vs) with
    | none => rw [hgd] at hw; exact hw.elim
    | some r2 =>
      rw [hgd] at hw
      refine ⟨dl, D :: Z, O, wipeL r vs, ds[i], A2.wipe vs, rp, r2, hgd, fun sg3 hl3 hs3 A3 => ⟨?_, ?_⟩⟩
      · exact (wipe_same hl3 fun j hj => hs3 j fun z => hj (hsub j z)).trans (wipe_wipe vs)
      refine ⟨dl, D :: Z, O, r2, A3, (calm_wp hw.bind).mono (fun b hb H3 g3 k3 => ?_) fun e he => he⟩
      have A3' := A3.grow g3 k3
      have D3 : H2 D = some (.lst us) := g2 D _ hDu hDd (nt _)
      have D3' : H3 D = some (.lst us) := g3 D _ D3 hDd (nt _)
      have C3 : At G dl (D :: Z) O r sg H3 := A2.grow g3 k3
      cases b with
      | false =>
        refine ⟨hlt, acc, us, C3, (gH.trans g2).trans g3, wk.mono _ _ _ _ (g3.cut A2.dz) g3 (wk.mono _ _ _ _ (g2.cut A'.dz) g2 hB'), D3', rl.mono ((g2.trans g3).cut A'.dz), by omega, hb⟩
      | true =>
        refine ⟨dl, D :: Z, O, r2, A3', (calm_wp hb.bind).mono (fun y hy2 v H4 g4 k4 rp4 => ?_) fun e he => he⟩
        have D4 : H4 D = some (.lst us) := g4 D _ D3' hDd (nt _)
        have C4 : At G dl (D :: Z) O r sg H4 := C3.grow g4 k4
        have hz : us.length < sizeLine := by rw [sizeLine_eq, rl.length]; omega
        have gall : Grow dl H1 H4 := ((gH.trans g2).trans g3).trans g4
        have gcutD : ∀ xs, GrowS (cut H4 (D :: Z)) (cut (upd H4 D (.lst xs)) (D :: Z)) := fun xs b o e n => by
          obtain ⟨e1, e2⟩ := cut_some e
          have hbD : b ≠ D := fun z => e1 (by rw [z]; exact List.mem_cons_self)
          rw [cut_out e1, upd_ne hbD]; exact e2
        have gD : Grow dl H1 (upd H4 D (.lst (us ++ [v]))) := fun b o e n nt' => by
          rw [upd_ne (ne_of_none e hD)]; exact gall b o e n nt'
        have gl5 : GlOk G dl (upd H4 D (.lst (us ++ [v]))) := by
          obtain ⟨x1, y1, z1, hd1⟩ := k4.dice
          refine ⟨⟨x1, y1, z1, by rw [upd_ne fun e => hDd e.symm]; exact hd1⟩, fun p hp => ?_⟩
          obtain ⟨ps, h1, h2, h3⟩ := k4.tab p hp
          have hpD : p.1 ≠ D := fun e => by rw [e, D4] at h1; cases h1
          refine ⟨ps, by rw [upd_ne hpD]; exact h1, h2, fun pos cv hc => ?_⟩
          obtain ⟨c, e1, e2⟩ := h3 pos cv hc
          have hcD : c ≠ D := fun e => by
            rw [e, D4] at e2
            have e3 := Option.some.inj e2
            cases e3
          exact ⟨c, e1, by rw [upd_ne hcD]; exact e2⟩
        have A5 : At G dl (D :: Z) O r sg (upd H4 D (.lst (us ++ [v]))) := by
          refine ⟨gl5, C4.dz, fun b hb => ?_, C4.own, C4.inj, C4.len, fun j c e => ?_⟩
          · by_cases e : b = D
            · rw [e]; exact ⟨_, upd_same, nt _⟩
            · obtain ⟨u, h1, h2⟩ := C4.live b hb
              exact ⟨u, by rw [upd_ne e]; exact h1, h2⟩
          · have := C4.slot j c e
            cases c with
            | un => trivial
            | val d =>
              obtain ⟨v, e, q⟩ := this
              exact ⟨v, e, q.mono (gcutD _)⟩
            | own d =>
              obtain ⟨a, ha, e, q, ko⟩ := this
              have haD : a ≠ D := fun z => hDZ (by rw [← z]; exact (A.own _ ha).1)
              refine ⟨a, ha, e, ?_, ko⟩
              rw [upd_ne haD]; exact q.mono (gcutD _)
        refine ⟨us, D4, hz, hlt, acc ++ [y], us ++ [v], A5, gD, wk.mono _ _ _ _ (fun b o e n => ?_) gD hB, upd_same, ?_, by rw [List.length_append]; simp; omega, ?_⟩
        · obtain ⟨e1, e2⟩ := cut_some e
          have hbD : b ≠ D := ne_of_none e2 hD
          have hbl : b ≠ dl := fun z => e1 (by rw [z]; exact A.dz)
          rw [cut_out (by rw [List.mem_cons, not_or]; exact ⟨hbD, e1⟩)]
          exact gD b o e2 hbl n
        · exact RepL.append (rl.mono ((((g2.trans g3).trans g4).cut A'.dz).trans (gcutD _))) (RepL.cons (rp4.mono (gcutD _)) RepL.nil)
        · exact hy2.bind.thn fun ys hys => by rw [List.append_assoc]; exact hys
  · have e : i = ds.length := by omega
    subst e
    rw [List.drop_length] at hw
    refine .inl ⟨wk.stop _ _ H' hB' (Nat.le_refl _), ?_⟩
    have hw2 : ∀ p us H2, Grow dl H H2 → GlOk G dl H2 → H2 p = none → RepL G dl (cut H2 Z) (acc ++ []) us → Q (.ref p) (upd H2 p (.lst us)) := hw
    rw [List.append_nil] at hw2
    have := hw2 D us (cut H' [D]) (fun b o e n nt' => ?_) ?_ (cut_in (by simp)) ?_
    · rw [upd_cut hDu] at this; exact this
    · have e1 := g1 b o e n nt'
      rw [cut_out (by simpa using ne_of_none e1 hD)]
      exact gH b o e1 n nt'
    · obtain ⟨x1, y1, z1, hd1⟩ := A'.gl.dice
      refine ⟨⟨x1, y1, z1, by rw [cut_out (by simpa using fun e : dl = D => hDd e.symm)]; exact hd1⟩, fun p hp => ?_⟩
      obtain ⟨ps, h1, h2, h3⟩ := A'.gl.tab p hp
      have hpD : p.1 ≠ D := fun e => by rw [e, hDu] at h1; cases h1
      refine ⟨ps, by rw [cut_out (by simpa using hpD)]; exact h1, h2, fun pos cv hc => ?_⟩
      obtain ⟨c, e1, e2⟩ := h3 pos cv hc
      have hcD : c ≠ D := fun e => by
        rw [e, hDu] at e2
        have e3 := Option.some.inj e2
        cases e3
      exact ⟨c, e1, by rw [cut_out (by simpa using hcD)]; exact e2⟩
    · refine rl.mono fun b o e n => ?_
      obtain ⟨e1, e2⟩ := cut_some e
      rw [List.mem_cons, not_or] at e1
      rw [cut_out e1.2, cut_out (by simpa using e1.1)]
      exact e2
abbrev DTs (X : Cx) (G : Gm) (W : WX) (ifs : List Expr) (f : LE → R Bool) : Prop := PTs X ifs (tT G W f)
theorem dts_nil : DTs X G W [] yesT := ⟨fun pins s sg H Q I ⟨dl, Z, O, r, A, q⟩ => pts_nil.run pins s sg H Q I (q H (.refl _ _) A.gl)⟩
theorem dts_one {c : Expr} (h : DT X G W c tt) : DTs X G W [c] tt := pts_one h
/-- [elt for tg in iter if ..] -/
theorem df_comp {elt : Expr} {ifs : List Expr} {scope : Scope} {own : List (Str × Nat)} {pos : Pos} (hc : X.calm = true) (hN : X.N.Nodup) (hi : DIe X G W tg iter fi) (ok : BlkOk X.N X.env.scope scope own)
    (hg : ∀ (s : Shared) (H : Hp) (C : Addr) (cl : List (Str × Addr)) (fp : List Addr), DG (X.blk s H scope (compEnvC scope cl C X.env) fp) G tg gd is)
    (ht : ∀ (s : Shared) (H : Hp) (C : Addr) (cl : List (Str × Addr)) (fp : List Addr), DTs (X.blk s H scope (compEnvC scope cl C X.env) fp) G W0 ifs tt)
    (he : ∀ (s : Shared) (H : Hp) (C : Addr) (cl : List (Str × Addr)) (fp : List Addr), DE (X.blk s H scope (compEnvC scope cl C X.env) fp) G W0 elt te)
    (hsub : ∀ j ∈ is, j ∈ own.map (·.2)) (hs : ∀ x, foldedSetIterable iter X.env x = pure x := by intro _; rfl) :
    DF X G W (.ListComp elt [⟨tg, iter, ifs, 0⟩] scope pos) (compF fi gd tt te (own.map (·.2))) := PE_imp (pe_lc hc hN hi ok hg ht he hs) fun sg H Q h => lc_core_d hsub h
/-- y = [elt for tg in iter if ..], y a plain local, on one line: y one's own -/
theorem ds_setcomp (i : Nat) {y : Str} {py : Pos} {elt : Expr} {ifs : List Expr} {scope : Scope} {own : List (Str × Nat)} {pos spos : Pos} (hc : X.calm = true) (hN : X.N.Nodup) (hi : DIe X G W tg iter fi) (ok : BlkOk X.N X.env.scope scope own)
    (hg : ∀ (s : Shared) (H : Hp) (C : Addr) (cl : List (Str × Addr)) (fp : List Addr), DG (X.blk s H scope (compEnvC scope cl C X.env) fp) G tg gd is)
    (ht : ∀ (s : Shared) (H : Hp) (C : Addr) (cl : List (Str × Addr)) (fp : List Addr), DTs (X.blk s H scope (compEnvC scope cl C X.env) fp) G W0 ifs tt)
    (he : ∀ (s : Shared) (H : Hp) (C : Addr) (cl : List (Str × Addr)) (fp : List Addr), DE (X.blk s H scope (compEnvC scope cl C X.env) fp) G W0 elt te)
    (hsub : ∀ j ∈ is, j ∈ own.map (·.2)) (hti : i ≠ 1000000) (hsw : swapsWith (.ListComp elt [⟨tg, iter, ifs, 0⟩] scope pos) (some (.Name y py)) spos.line X.env = pure true)
    (hy : X.N[i]? = some y := by rfl) (hyl : X.env.scope.names.lookup y = some .local := by rfl) (hs : ∀ x, foldedSetIterable iter X.env x = pure x := by intro _; rfl) :
    DS X G W (.Assign [.Name y py] (.ListComp elt [⟨tg, iter, ifs, 0⟩] scope pos) spos) (setK i (ownK (compF fi gd tt te (own.map (·.2))))) := PS_imp (ps_setLc hc hN hy hyl hsw hi ok hg ht he hs) fun De sg H ⟨dl, Z, O, r, A, q⟩ => by
  refine lc_core_d (W := W) hsub ⟨dl, Z, O, r, A, (onS_wp q).bind.bind.mono (fun ds hd p us H1 g1 k1 hp rl => ?_) fun e he => spost_ex A he⟩
  exact hd _ _ _ _ (Stp.trans A (Stp.of_grow g1 k1) (Stp.new (A.grow g1 k1) hp hti)) ((A.grow g1 k1).set_own i hp ⟨us, rfl, rl⟩ ⟨rfl, hti⟩)
end
end DL
set_option Elab.async false
set_option linter.all false
set_option maxRecDepth 100000
namespace DL
open PySem L2 PySem.Spec PyProof.Rows
def appS (i : Nat) (f : LE → R D) : LE → R Out := fun r => match r[i]? with
  | some (.own (.lst ds)) => (f r).onS r fun d => if ds.length < 16777216 then .ok (.nx (r.set i (.own (.lst (ds ++ [d]))))) else .stuck
  | _ => .stuck
/-- self.x = ..: the next field -/
def fldS (fx : Nat → Option Nat) (f : LE → R D) : LE → R Out := fun r => match (r[0]? : Option Cell) with
  | some (Cell.own (D.ins c ds)) => (f r).onS r fun d => (match fx c with
    | some j => if ds.length = j then .ok (.nx (r.set 0 (.own (.ins c (ds ++ [d]))))) else .stuck
    | none => .stuck)
  | _ => .stuck
section
variable {X : Cx} {G : Gm} {W : WX} {ex ek : Expr} {f k : LE → R D} {pos apos p p1 p2 : Pos} {x m : Str}
theorem ds_append (i : Nat) (ha : DE X G W ex f) (hN : X.N[i]? = some x := by rfl) (hv : Vis X.env.scope x := by first | exact Or.inl rfl | exact Or.inr (Or.inl rfl) | exact Or.inr (Or.inr rfl)) (hd : (x == ("__debug__" : Str)) = false := by decide)
    (hcd : (x == ("__classdict__" : Str)) = false := by decide) (hs : swapsWith (.Call (.Attribute (.Name x p1) "append" apos) [ex] [] p) none pos.line X.env = pure false := by rfl)
    (hbase : attributeBase (.Name x p1) "append" X.env (eval (.Name x p1) X.env) = eval (.Name x p1) X.env := by rfl)
    (hfew : ((backTo p (starEach [ex] X.env)).all (fun x => !x.1) && (backToKw p (keywordEach [] X.env)).all (fun x => x.1.isSome)
      && decide ([ex].length + ([] : List Keyword).length + (if ([] : List Keyword).isEmpty then 0 else 1) < 30)) = true := by rfl)
    (hline : (apos.endLine == p.line) = true := by rfl) (hst : starEach [ex] X.env = (false, eval ex X.env) :: starEach [] X.env := by rfl) :
    DS X G W (.Expr (.Call (.Attribute (.Name x p1) "append" apos) [ex] [] p) pos) (appS i f) := by
  refine PS_imp (ps_expr (pe_bm PySem.F.plainAttrs_list PySem.F.slot_list_append PySem.F.type_list_append mt_append (pe_var hN hv hd hcd) (pa_cons ha pa_nil hst) hbase hfew hline hst (by rfl)) hs) fun De sg H ⟨dl, Z, O, r, A, q⟩ => ?_
  unfold appS at q
  split at q
  case h_2 => exact q.elim
  rename_i ds hr
  obtain ⟨a, ha', hs', ⟨vs, e, rl⟩, ko⟩ := A.slot i _ hr
  obtain ⟨haz, had⟩ := A.own _ ha'
  refine ⟨.ref a, hs', .inl ⟨rfl, vs, SqL.of e⟩, dl, Z, O, r, A, (onS_wp q).mono (fun d hd' v H1 g1 k1 rp => ?_) fun e he => spost_ex A he⟩
  have A1 := A.grow g1 k1
  have e1 : H1 a = some (.lst vs) := g1 a _ e had (fun ps z => by cases z)
  split at hd'
  case isFalse => exact hd'.elim
  rename_i hlen
  refine ⟨a, vs, v, rfl, rfl, e1, by rw [sizeLine_eq, rl.length]; exact hlen, ?_⟩
  refine hd' Z O sg _ (Stp.trans A (Stp.of_grow g1 k1) (Stp.write ha' fun ps z => by cases z)) (A1.write hr ha' hs' ⟨_, rfl, RepL.append (rl.mono (g1.cut A.dz)) (RepL.cons rp RepL.nil)⟩ rfl ko)
theorem putF_zip {m : Str} {v : V} : ∀ {ns : List Str} {vs : List V}, ns.Nodup → ns[vs.length]? = some m → putF m v (ns.zip vs) = ns.zip (vs ++ [v])
  | [], vs, _, h => by simp at h
  | n :: ns, [], _, h => by simp at h; subst h; simp [putF]
  | n :: ns, u :: vs, nd, h => by
    have hm : ns[vs.length]? = some m := by simpa using h
    have hne : n ≠ m := fun e => by
      subst e
      exact (List.nodup_cons.mp nd).1 (List.mem_of_getElem? hm)
    show (if n = m then _ else (n, u) :: putF m v (ns.zip vs)) = _
    rw [if_neg hne, putF_zip (List.nodup_cons.mp nd).2 hm]
    rfl
theorem ds_field {fx : Nat → Option Nat} (hx : FldOk X G m fx) (hsz : ∀ c, (G.flds c).length ≤ 900) (ha : DE X G W ex f) (hN : X.N[0]? = some x := by rfl) (hv : Vis X.env.scope x := by first | exact Or.inl rfl | exact Or.inr (Or.inl rfl) | exact Or.inr (Or.inr rfl)) (hd : (x == ("__debug__" : Str)) = false := by decide)
    (hcd : (x == ("__classdict__" : Str)) = false := by decide) (hs : swapsWith ex (some (.Attribute (.Name x p1) m p2)) pos.line X.env = pure false := by rfl) :
    DS X G W (.Assign [.Attribute (.Name x p1) m p2] ex pos) (fldS fx f) := by
  refine PS_imp (ps_fld (pe_var hN hv hd hcd) ha hs) fun De sg H ⟨dl, Z, O, r, A, q⟩ => ?_
  unfold fldS at q
  split at q
  case h_2 => exact q.elim
  rename_i c ds hr
  obtain ⟨a, ha', hs', ⟨dx, vs, e, hle, rl⟩, ko⟩ := A.slot 0 _ hr
  obtain ⟨haz, had⟩ := A.own _ ha'
  refine ⟨dl, Z, O, r, A, (onS_wp q).mono (fun d hd' v H1 g1 k1 rp => ?_) fun e he => spost_ex A he⟩
  have A1 := A.grow g1 k1
  have e1 := g1 a _ e had (fun ps z => by cases z)
  cases hj : fx c with
  | none => rw [hj] at hd'; exact hd'.elim
  | some j =>
    rw [hj] at hd'
    change Wp (if ds.length = j then R.ok (Out.nx (r.set 0 (Cell.own (D.ins c (ds ++ [d]))))) else R.stuck) _ _ at hd'
    split at hd'
    case isFalse => exact hd'.elim
    rename_i hl
    obtain ⟨h1, h2, h3, h4⟩ := hx c j hj
    have hvl := rl.length
    have hjl : j < (G.flds c).length := (List.getElem?_eq_some_iff.mp h3).1
    refine ⟨.ref a, hs', a, G.cls c, dx, _, rfl, e1, h1, h2, ?_, ?_⟩
    · rw [List.length_zip]
      have := hsz c
      omega
    · rw [putF_zip h4 (by rw [hvl, hl]; exact h3)]
      exact hd' Z O sg _ (Stp.trans A (Stp.of_grow g1 k1) (Stp.write ha' fun ps z => by cases z)) (A1.write hr ha' hs' ⟨dx, _, rfl, by rw [List.length_append, List.length_singleton]; omega, RepL.append (rl.mono (g1.cut A.dz)) (RepL.cons rp RepL.nil)⟩ rfl ko)
def errS (e : Exc) : LE → R Out := fun r => .ok (.ex e r)
theorem ds_raise {bmB : List Value} {B newId initId : String} {C : Addr} {s : Str} {j : Nat} (c : Nat) (tk : Takes X W) (hc : X.calm = true) (F : PySem.ExcBaseFacts B newId initId bmB) (hC : G.xcls c = C) (hx : G.xfld c = none) (hq : PySem.W.excIn X.K C bmB newId = true) (gC : X.mg x = some (.ref C)) (kC : PySem.W.keepIn X.K (.ref C) = true) (rs : Raises X (.ref C))
    (hg : Gl X x := by rfl) (hdb : (x == ("__debug__" : Str)) = false := by decide) : DS X G W (.Raise (some (.Call (.Name x p) [.Constant (.str s) j p2] [] p1)) none pos) (errS ⟨c, .non⟩) :=
  PS_imp (ps_raise hc tk (pmk_own F hq gC kC rs hg hdb)) fun De sg H ⟨dl, Z, O, r, A, q⟩ => by
    subst hC
    exact q Z O sg H _ none Stp.refl A ⟨rfl, by rw [hx]⟩
end
end DL
set_option Elab.async false
set_option linter.all false
set_option maxRecDepth 100000
namespace DL
open PySem L2 PySem.Spec PyProof.Rows
/-- a def of n arguments and m names, by its body -/
def runF (n m : Nat) (F : LE → R Out) (ds : List D) : R D := if ds.length = n then (do
  match ← (F (ds.map Cell.val ++ List.replicate (m - n) Cell.un)).calm with
  | .nx _ => .ok .non
  | .rt d => .ok d
  | .ex e _ => .err e
  | _ => .stuck) else .stuck
/-- an __init__: what self becomes -/
def runI (c k n m : Nat) (F : LE → R Out) (ds : List D) : R D := if ds.length = n then (do
  match ← (F (Cell.own (.ins c []) :: (ds.map Cell.val ++ List.replicate (m - n - 1) Cell.un))).calm with
  | .nx r => (match (r[0]? : Option Cell) with
    | some (Cell.own (D.ins c' fs)) => if c' = c ∧ fs.length = k then .ok (.ins c fs) else .stuck
    | _ => .stuck)
  | .ex e _ => .err e
  | _ => .stuck) else .stuck
theorem runF_len {n m : Nat} {F : LE → R Out} : ∀ ds Q E, Wp (runF n m F ds) Q E → ds.length = n := fun ds Q E h => by
  unfold runF at h
  split at h
  · assumption
  · exact h.elim
theorem runI_len {c k n m : Nat} {F : LE → R Out} : ∀ ds Q E, Wp (runI c k n m F ds) Q E → ds.length = n := fun ds Q E h => by
  unfold runI at h
  split at h
  · assumption
  · exact h.elim
/-- the wish of a def's body -/
abbrev WD (E : XK) : WX := fun cls d _ H' => E cls d H'
section
variable {P : Program} {w : World} {K : PySem.W.Frag} {mg : Str → Option Value} {base : Heap} {G : Gm} {x qual : Str} {st : Stmt} {f : Addr} {fd : FuncData} {N ps : List Str} {k n m c nf : Nat} {F : LE → R Out}
abbrev cxD (P : Program) (w : World) (K : PySem.W.Frag) (mg : Str → Option Value) (base : Heap) (N : List Str) (qual : Str) (st : Stmt) (f : Addr) (cdv : Value) (A : Around) (outer : List Env) (s : Shared) (H : Hp) (E : XK) : Cx :=
  cxOf (L2.CX P w) P w K mg base N qual (defScope st) f cdv A outer s H E
theorem takes_cxD {cdv A outer s H E} : Takes (cxD P w K mg base N qual st f cdv A outer s H E) (WD E) := takes_of rfl rfl rfl rfl
theorem owns_cxD {cdv A outer s H E} : PassesOwn (model P w) (cxD P w K mg base N qual st f cdv A outer s H E).A (cxD P w K mg base N qual st f cdv A outer s H E).env (cxD P w K mg base N qual st f cdv A outer s H E).xe := passes_of rfl
theorem start_get {vs : List V} {ds : List D} {dl : Addr} {Z : List Addr} {H : Hp} (rl : RepL G dl (cut H Z) ds vs) (hl : vs.length = n) (hN : N.length = m) {O : List (Nat × Addr)} : ∀ i c, (ds.map Cell.val ++ List.replicate (m - n) Cell.un)[i]? = some c → Slot G dl Z O H i (L2.start N vs)[i]? c := fun i c e => by
  have hl2 := rl.length
  by_cases hi : i < ds.length
  · rw [List.getElem?_append_left (by simpa using hi), List.getElem?_map, List.getElem?_eq_getElem hi] at e
    cases e
    obtain ⟨v, h1, h2⟩ := RepL.getD ds vs i ds[i] rl (by simp)
    refine ⟨v, ?_, h2⟩
    unfold L2.start
    rw [List.getElem?_append_left (by rw [List.length_map]; omega), List.getElem?_map, h1]
    rfl
  · rw [List.getElem?_append_right (by simpa using hi), List.getElem?_replicate] at e
    split at e
    · cases e; trivial
    · cases e
theorem fnOk_of (Fn : Fun K x qual st f fd) (S : FnScope N ps (defScope st)) (hn : ps.length = n) (hm : N.length = m)
    (hb : ∀ cdv A outer s H E, Room k (A.deeper (envOfC qual (defScope st) s.heap.objs.size f cdv)) → DSs (cxD P w K mg base N qual st f cdv A outer s H E) G (WD E) (defBody st) F) :
    FnOk P w K mg base (L2.CX P w) (k + 1) f fd ps (spD G n (runF n m F)) := by
  refine Fn.okX S (fun vs H Q E h => by rw [hn]; exact h.1) fun cdv A outer s H vs Q E hr h => ⟨_, hb cdv A outer s H E hr, ?_⟩
  obtain ⟨hl, dl, Z, ds, gl, dz, live, rl, hw⟩ := h
  unfold runF at hw
  split at hw
  case isFalse => exact hw.elim
  rename_i hdl
  have hpl : ps.length ≤ N.length := by have := congrArg List.length S.pre; rw [List.length_take] at this; omega
  have A0 : At G dl Z [] (ds.map Cell.val ++ List.replicate (m - n) Cell.un) (L2.start N vs) H := by
    refine ⟨gl, dz, live, fun p hp => (by cases hp), fun p hp => (by cases hp), ?_, start_get rl hl hm⟩
    unfold L2.start
    rw [List.length_append, List.length_map, List.length_replicate, List.length_append, List.length_map, List.length_replicate]
    omega
  have gr : ∀ {Z' O' H'}, Stp dl Z [] H Z' O' H' → Grow dl H H' := fun s a o e n nt => s.fr a o e n (fun p hp => (by cases hp)) nt
  have gz : ∀ {Z' O' H'}, Stp dl Z [] H Z' O' H' → GrowS (cut H' Z') (cut H' Z) := fun s => cut_sub fun a ha => s.zk a ha fun p hp => (by cases hp)
  refine ⟨dl, Z, [], _, A0, (calm_wp hw.bind).thn fun o ho => ?_⟩
  cases o with
  | nx r => exact fun Z' O' sg' H' s A' => ho _ _ (gr s) A'.gl Rep.non_
  | rt d => exact fun Z' O' v H' s g rp => ho _ _ (gr s) g (rp.mono (gz s))
  | ex e r => exact fun Z' O' sg' H' cls dx s A' xr => ho cls dx H' (gr s) A'.gl (xr.mono (gz s))
  | bk r => exact ho.elim
  | ct r => exact ho.elim
theorem fnD_of (Fn : Fun K x qual st f fd) (S : FnScope N ps (defScope st)) (bd : Binds K fd ps []) (hx : mg x = some (.ref f)) (hn : ps.length = n) (hm : N.length = m)
    (hb : ∀ cdv A outer s H E, Room k (A.deeper (envOfC qual (defScope st) s.heap.objs.size f cdv)) → DSs (cxD P w K mg base N qual st f cdv A outer s H E) G (WD E) (defBody st) F) :
    FnD P w K mg base G (k + 1) x f n (runF n m F) := ⟨⟨fd, ps, hn, fnOk_of Fn S hn hm hb, bd⟩, runF_len, Fn.kp, hx⟩
theorem meD_of (Fn : Fun K x qual st f fd) (S : FnScope N ps (defScope st)) (bd : Binds K fd ps []) (mt : Meth K (G.cls c) x f) (cl : Cls K (G.cls c)) (nf : x ∉ G.flds c) (hn : ps.length = n) (hm : N.length = m)
    (hb : ∀ cdv A outer s H E, Room k (A.deeper (envOfC qual (defScope st) s.heap.objs.size f cdv)) → DSs (cxD P w K mg base N qual st f cdv A outer s H E) G (WD E) (defBody st) F) :
    MeD P w K mg base G (k + 1) c x n (runF n m F) := ⟨⟨f, fd, ps, hn, fnOk_of Fn S hn hm hb, bd, mt⟩, runF_len, cl, nf⟩
theorem inOk_of (Fn : Fun K x qual st f fd) (S : FnScope N ps (defScope st)) (hn : ps.length = n + 1) (hm : N.length = m) (hf : (G.flds c).length = nf)
    (hb : ∀ cdv A outer s H E, Room k (A.deeper (envOfC qual (defScope st) s.heap.objs.size f cdv)) → DSs (cxD P w K mg base N qual st f cdv A outer s H E) G (WD E) (defBody st) F) :
    FnOk P w K mg base (L2.CX P w) (k + 1) f fd ps (spI G c n (runI c nf n m F)) := by
  refine Fn.okX S (fun vs H Q E h => by rw [hn]; exact h.1) fun cdv A outer s H vs Q E hr h => ⟨_, hb cdv A outer s H E hr, ?_⟩
  obtain ⟨hl, dl, Z, ds, a, dx, us, rfl, ha, haZ, gl, dz, live, rl, hw⟩ := h
  unfold runI at hw
  split at hw
  case isFalse => exact hw.elim
  rename_i hdl
  have hpl : ps.length ≤ N.length := by have := congrArg List.length S.pre; rw [List.length_take] at this; omega
  have nta : ∀ fs ps, HO.ins (G.cls c) dx fs ≠ HO.tbl ps := fun _ _ z => by cases z
  have hadl : a ≠ dl := fun e => haZ (by rw [e]; exact dz)
  have A0 : At G dl (a :: Z) [(1000000, a)] (Cell.own (.ins c []) :: (ds.map Cell.val ++ List.replicate (m - n - 1) Cell.un)) (L2.start N (V.ref a :: us)) H := by
    refine ⟨gl, List.mem_cons_of_mem _ dz, fun b hb => ?_, fun p hp => ?_, fun p hp q hq e => ?_, ?_, fun i c' e => ?_⟩
    · rcases List.mem_cons.mp hb with rfl | hb
      · exact ⟨_, ha, nta _⟩
      · exact live b hb
    · rw [List.mem_singleton] at hp
      subst hp
      exact ⟨List.mem_cons_self, hadl⟩
    · rw [List.mem_singleton] at hp hq
      rw [hp, hq]
    · unfold L2.start
      have := rl.length
      rw [List.length_cons] at hl
      simp only [List.length_cons, List.length_append, List.length_map, List.length_replicate]
      omega
    · cases i with
      | zero =>
        cases e
        refine ⟨a, List.mem_singleton.mpr rfl, rfl, ?_, rfl⟩
        exact ⟨dx, [], by rw [ha]; simp, Nat.zero_le _, RepL.nil⟩
      | succ i =>
        have e' : (ds.map Cell.val ++ List.replicate (m - n - 1) Cell.un)[i]? = some c' := e
        have hl2 := rl.length
        by_cases hi : i < ds.length
        · rw [List.getElem?_append_left (by simpa using hi), List.getElem?_map, List.getElem?_eq_getElem hi] at e'
          cases e'
          obtain ⟨v, h1, h2⟩ := RepL.getD ds us i ds[i] rl (by simp)
          refine ⟨v, ?_, h2⟩
          unfold L2.start
          rw [List.getElem?_append_left (by rw [List.length_map, List.length_cons]; omega), List.getElem?_map, List.getElem?_cons_succ, h1]
          rfl
        · rw [List.getElem?_append_right (by simpa using hi), List.getElem?_replicate] at e'
          split at e'
          · cases e'; trivial
          · cases e'
  have gr : ∀ {Z' O' H'}, Stp dl (a :: Z) [(1000000, a)] H Z' O' H' → ∀ b o, H b = some o → b ≠ dl → b ≠ a → (∀ ps, o ≠ .tbl ps) → H' b = some o := fun s b o e n na nt => s.fr b o e n (fun p hp => by
    rw [List.mem_singleton] at hp
    subst hp
    exact fun e => na e.symm) nt
  have gz : ∀ {Z' O' H'}, Stp dl (a :: Z) [(1000000, a)] H Z' O' H' → GrowS (cut H' Z') (cut H' Z) := fun s => cut_sub fun b hb => s.zk b (List.mem_cons_of_mem _ hb) fun p hp => by
    rw [List.mem_singleton] at hp
    subst hp
    exact fun (e : a = b) => haZ (by rw [e]; exact hb)
  refine ⟨dl, a :: Z, [(1000000, a)], _, A0, (calm_wp hw.bind).thn fun o ho => ?_⟩
  cases o with
  | nx r =>
    intro Z' O' sg' H' s A'
    show Q .non H'
    change Wp (match (r[0]? : Option Cell) with | some (Cell.own (D.ins c' fs)) => if c' = c ∧ fs.length = nf then R.ok (D.ins c fs) else R.stuck | _ => R.stuck) _ _ at ho
    split at ho
    · rename_i c' fs hr0
      split at ho
      · rename_i hc
        obtain ⟨rfl, hfl⟩ := hc
        refine ho H' (gr s) A'.gl ?_
        obtain ⟨a', ha', hs', ⟨dx', vs', e', hle', rl'⟩, ko⟩ := A'.slot 0 _ hr0
        have hm' := s.sf a' ha'
        rw [List.mem_singleton] at hm'
        have haa : a' = a := congrArg Prod.snd hm'
        subst haa
        unfold Rep
        refine ⟨a', dx', vs', rfl, by rw [cut_out haZ]; exact e', by rw [hf, rl'.length]; exact hfl.symm, rl'.mono (gz s)⟩
      · exact ho.elim
    · exact ho.elim
  | rt d => exact ho.elim
  | ex e r => exact fun Z' O' sg' H' cls dx s A' xr => ho cls dx H' (gr s) A'.gl (xr.mono (gz s))
  | bk r => exact ho.elim
  | ct r => exact ho.elim
theorem mkD_of (Fn : Fun K "__init__" qual st f fd) (S : FnScope N ps (defScope st)) (bd : Binds K fd ps []) (mk : Mk K (G.cls c) f) (hx : mg x = some (.ref (G.cls c))) (hn : ps.length = n + 1) (hm : N.length = m) (hf : (G.flds c).length = nf)
    (hb : ∀ cdv A outer s H E, Room k (A.deeper (envOfC qual (defScope st) s.heap.objs.size f cdv)) → DSs (cxD P w K mg base N qual st f cdv A outer s H E) G (WD E) (defBody st) F) :
    MkD P w K mg base G (k + 1) c x n (runI c nf n m F) := ⟨⟨f, fd, ps, hn, inOk_of Fn S hn hm hf hb, bd, mk⟩, runI_len, hx⟩
end
end DL
set_option Elab.async false
set_option linter.all false
set_option maxRecDepth 100000
namespace DL
open PySem L2 LamX PySem.Spec PyProof.Rows
/-- what the clauses give back, one after the other -/
def wSel (K : PySem.W.Frag) (Q : VK) : List (Addr × Str) → Value → Hp → Prop
  | [], _, _ => False
  | (C, s) :: r, cls, H => ∃ b, PySem.W.exmOne K cls (.ref C) = some b ∧ (b = true → Q (.str s) H) ∧ (b = false → wSel K Q r cls H)
def TTm (K : PySem.W.Frag) (l : List (Addr × Str)) : (XK → Hp → VK → Prop) → Hp → VK → Prop := fun tl H Q => tl (fun cls _ H' => wSel K Q l cls H') H Q
def hdl (l : List (Addr × Str)) : List (Value × (Addr → Value → Option Addr → TS)) := l.map fun p => (.ref p.1, fun _ _ _ => tRet (tC (.str p.2)))
theorem wSel_many {K : PySem.W.Frag} {Q : VK} {De : Ends} (hq : ∀ v H, Q v H → De.rt v H) : ∀ {l : List (Addr × Str)} {cls : Value} {d : Option Addr} {sg : L2.St} {H : Hp}, wSel K Q l cls H → wMany K (fun _ _ _ _ => False) De (hdl l) cls d sg H
  | [], _, _, _, _, h => h
  | (C, s) :: r, cls, d, sg, H, ⟨b, e, h1, h2⟩ => ⟨b, e, fun hb a _ => hq _ _ (h1 hb), fun hb => wSel_many hq (h2 hb)⟩
inductive HdT (X : Cx) (sg : Scope) : List ExceptHandler → List (Addr × Str) → Prop
  | nil : HdT X sg [] []
  | cons {e : Str} {C : Addr} {s : Str} {j : Nat} {p4 p5 p6 p7 : Pos} {hds : List ExceptHandler} {l : List (Addr × Str)} (h1 : sg.names.lookup e = some .globalImplicit) (h2 : X.mg e = some (.ref C)) (h3 : (e == ("__debug__" : Str)) = false) (t : HdT X sg hds l) :
      HdT X sg (.ExceptHandler (some (.Name e p4)) none [.Return (some (.Constant (.str s) j p5)) p6] p7 :: hds) ((C, s) :: l)
section
variable {X : Cx}
theorem told_many {Ng : List Str} {x a q : Str} {sg : Scope} {g : Addr} {cdg : Value} {p1 p2 p3 p8 : Pos} {h₀ : ExceptHandler} {hds : List ExceptHandler} {l : List (Addr × Str)} (hh : HdT X sg (h₀ :: hds) l) (h0 : ∀ f : Addr, (L2.start Ng [V.ref f])[0]? = some (some (V.ref f))) :
    GivesTo X Ng x sg g cdg [.Try [.Return (some (.Call (.Name a p1) [] [] p2)) p3] (h₀ :: hds) [] [] p8] a q (TTm X.K l) := by
  intro f c' s H Q tl act hc h
  have hk : ∀ {hs : List ExceptHandler} {l : List (Addr × Str)}, HdT X sg hs l → HdsOk (cxOf C8.CX0 X.prog X.w X.K X.mg X.base Ng x sg g cdg X.A X.stack s H C8.E0).nox hs (hdl l) := fun {hs l} hh => by
    induction hh with
    | nil => exact .nil
    | cons h1 h2 h3 t ih => exact .cons ⟨h1, h3, .inl h2⟩ (fun a oe cls d pn _ _ => pss_one (ps_ret pe_str)) ih
  refine ⟨_, pss_one (ps_try_many (X := (cxOf C8.CX0 X.prog X.w X.K X.mg X.base Ng x sg g cdg X.A X.stack s H C8.E0).nox)
      (tb := fun W De sg' H' => ∃ Ech : XK, (∀ cls d s2 H2, Ech cls d H2 → W cls d s2 H2) ∧ sg'[0]? = some (some (.ref f)) ∧ H' c' = some (CodeO c' q) ∧ tl Ech H' De.rt)
      rfl rfl LamX.takes0 (fun W pn xe tk _ => ?_) (hk hh)), ?_⟩
  · refine ⟨fun pins s' sg' H' De I ⟨Ech, hW, h1, h2, h3⟩ => ?_⟩
    exact (pss_one (ps_ret (pos := p3) (act W pn xe Ech p1 p2 tk hW))).run pins s' sg' H' De I ⟨h1, h2, h3⟩
  · exact ⟨fun cls _ H' => wSel X.K Q l cls H', fun cls d s2 H2 hw => wSel_many (fun _ _ z => z) hw, h0 f, hc, h⟩
/-- an error told by its word -/
def toldD (l : List (Nat × List Nat)) : R D → R D
  | .ok d => .ok d
  | .err e => match l.lookup e.cls with
    | some s => .ok (.str s)
    | none => .stuck
  | .stuck => .stuck
  | .roll m f => .roll m fun i => toldD l (f i)
@[simp] theorem toldD_ok (l : List (Nat × List Nat)) (d : D) : toldD l (.ok d) = .ok d := rfl
theorem toldD_wp {l : List (Nat × List Nat)} {Q : D → Prop} {E : Exc → Prop} : ∀ {m : R D}, Wp (toldD l m) Q E → Wp m Q (fun e => ∃ s, l.lookup e.cls = some s ∧ Q (.str s))
  | .ok _, h => h
  | .err e, h => by
    unfold toldD at h
    split at h
    · rename_i s hs; exact ⟨s, hs, h⟩
    · exact h.elim
  | .stuck, h => h
  | .roll _ _, h => fun i hi => toldD_wp (h i hi)
/-- the clauses part the classes -/
def ExmOk (K : PySem.W.Frag) (G : Gm) (ks : List Nat) : Prop := ∀ i ∈ ks, ∀ j ∈ ks, PySem.W.exmOne K (.ref (G.xcls i)) (.ref (G.xcls j)) = some (i == j)
theorem wSel_of {K : PySem.W.Frag} {G : Gm} {Q : VK} {H : Hp} {i : Nat} {s : List Nat} : ∀ {l : List (Nat × List Nat)} (ks : List Nat), ExmOk K G ks → i ∈ ks → (∀ j ∈ l.map (·.1), j ∈ ks) → l.lookup i = some s → Q (.str ⟨s.toArray⟩) H → wSel K Q (l.map fun p => (G.xcls p.1, (⟨p.2.toArray⟩ : Str))) (.ref (G.xcls i)) H
  | [], ks, _, _, _, h, _ => by cases h
  | (j, t) :: l, ks, hx, hi, hl, h, q => by
    refine ⟨i == j, hx i hi j (hl j (by simp)), fun hb => ?_, fun hb => ?_⟩
    · rw [List.lookup_cons, hb] at h
      cases h
      exact q
    · rw [List.lookup_cons, hb] at h
      exact wSel_of ks hx hi (fun j hj => hl j (List.mem_cons_of_mem _ hj)) h q
theorem lookup_mem {i : Nat} {s : List Nat} : ∀ {l : List (Nat × List Nat)}, l.lookup i = some s → i ∈ l.map (·.1)
  | [], h => by cases h
  | p :: l, h => by
    rw [List.lookup_cons] at h
    split at h
    · rename_i hh
      exact List.mem_map.mpr ⟨p, List.mem_cons_self, (beq_iff_eq.mp hh).symm⟩
    · exact List.mem_cons_of_mem _ (lookup_mem h)
theorem takes_lam {A outer s H E scope f c'} : Takes (lamCx X A outer s H E scope f c') (WD E) := takes_of rfl rfl rfl rfl
theorem Grow.ofExt {dl : Addr} {H H' : Hp} (e : ExtN H H') : Grow dl H H' := fun a o h _ nt => e a o h nt
theorem GlOk.ofExt {G : Gm} {dl : Addr} {H H' : Hp} (k : GlOk G dl H) (e : ExtN H H') (t : Tabs G.tabs H') : GlOk G dl H' := by
  obtain ⟨x, y, z, h⟩ := k.dice
  exact ⟨⟨x, y, z, e _ _ h fun ps z => by cases z⟩, t⟩
/-- x(lambda: body), x a def that tells -/
theorem de_told {G : Gm} {W : WX} {l : List (Nat × List Nat)} {x a : Str} {g c P : Addr} {k : Nat} {pg : Arguments} {bg : List Stmt} {sg : Scope} {dV kV doc pm cdv ct oc : Value} {an od : Option Addr} {osl : Array (Option Value)} {Ng : List Str}
    {params : Arguments} {body : Expr} {scope : Scope} {fb : LE → R D} {p lpos pos : Pos} (hm : X.mg x = some (.ref g)) (hk : PySem.W.keepIn X.K (.ref g) = true)
    (lk : X.K.lookup g = some ⟨oc, od, .func (PySem.W.fnOf x x pg bg sg dV kV doc pm an cdv ct), osl⟩) (hcg : PySem.W.codeIn X.K cdv x = true) (hb : L2.Binds X.K (PySem.W.fnOf x x pg bg sg dV kV doc pm an cdv ct) [a] []) (Sg : FnScope Ng [a] sg) (hNg : Ng[0]? = some a) (hva : Vis sg a)
    (hG : GivesTo X Ng x sg g cdv bg a (X.env.qual ++ "<lambda>") (TTm X.K (l.map fun p => (G.xcls p.1, (⟨p.2.toArray⟩ : Str)))))
    (hx : ExmOk X.K G (l.map (·.1))) (TB : TabB X.base X.mg c P) (hcode : X.env.code = .ref c) (hmT : (P, X.env.qual ++ "<lambda>") ∈ G.tabs) (hu : ∀ p ∈ G.tabs, p.1 = P → p.2 = X.env.qual ++ "<lambda>") (hr : Room (k + 2) X.A) (L : LamS X.env.scope scope)
    (hbody : ∀ (A : Around) (outer : List Env) (s : Shared) (H : Hp) (E : XK) (f c' : Addr), Room k (A.deeper (lamEnv X scope s.heap.objs.size f c')) → DE (lamCx X A outer s H E scope f c') G (WD E) body fb)
    (hg : Gl X x := by rfl) (hdef : defaultsOf params X.env = ([], []) := by rfl)
    (hbind : ∀ (q : Str) (cl : List (Str × Addr)) (pm cv ctv : Value), bindArgs (PySem.W.kla_fn "<lambda>" q params body scope cl pm cv ctv) ⟨[], []⟩ = pure [] := by intro _ _ _ _ _; rfl)
    (hdb : (x == ("__debug__" : Str)) = false := by decide) (hd : (a == ("__debug__" : Str)) = false := by decide) (hcd : (a == ("__classdict__" : Str)) = false := by decide) :
    DE X G W (.Call (.Name x p) [.Lambda params body scope lpos] [] pos) (fun r => toldD l (fb r)) := by
  refine PE_imp (pe_lamcall (T := G.tabs) (t := fun E => tD G (WD E) fb) hg hm hk lk hcg hb Sg hNg hva hG TB hcode hmT hu hr L hdef hbind hbody hdb hd hcd) fun sg H Q ⟨dl, Z, O, r, A, q⟩ => ⟨A.gl.tab, fun H1 e1 t1 => ?_⟩
  have g1 : Grow dl H H1 := Grow.ofExt e1
  have k1 := A.gl.ofExt e1 t1
  refine ⟨dl, Z, O, r, A.grow g1 k1, (toldD_wp q).mono (fun d hd v H2 g2 k2 rp => hd v H2 (g1.trans g2) k2 rp) fun e ⟨s, hs, hq⟩ cls dx H2 g2 k2 xr => ?_⟩
  obtain ⟨rfl, _⟩ := xr
  have hmem : e.cls ∈ l.map (·.1) := lookup_mem hs
  exact wSel_of _ hx hmem (fun j hj => hj) hs (hq _ H2 (g1.trans g2) k2 Rep.str_)
end
end DL
set_option Elab.async false
set_option linter.all false
set_option maxRecDepth 100000
namespace DL
open PySem L2 PySem.Spec PyProof.Rows
def RepPL (G : Gm) (dl : Addr) (H : Hp) (Z : List Addr) : List D → List V → Prop
  | [], vs => vs = []
  | d :: ds, vs => ∃ v r, vs = v :: r ∧ RepP G dl H Z d v ∧ RepPL G dl H Z ds r
theorem RepPL.grow {G : Gm} {dl : Addr} {Z : List Addr} {O : List (Nat × Addr)} {r : LE} {sg : L2.St} {H H' : Hp} (A : At G dl Z O r sg H) (g : Grow dl H H') : ∀ {ds : List D} {vs : List V}, RepPL G dl H Z ds vs → RepPL G dl H' Z ds vs
  | [], _, h => h
  | d :: ds, vs, ⟨v, r, e, h1, h2⟩ => ⟨v, r, e, h1.grow A g, RepPL.grow A g h2⟩
def tAp (G : Gm) (W : WX) (f : LE → R (List D)) : TA := fun sg H Q => ∃ dl Z O r, At G dl Z O r sg H ∧
  Wp (f r) (fun ds => ∀ vs H', Grow dl H H' → GlOk G dl H' → RepPL G dl H' Z ds vs → Q vs H')
    (fun e => ∀ cls dx H', Grow dl H H' → GlOk G dl H' → XRep G dl (cut H' Z) e cls dx H' → W cls dx sg H')
abbrev DAp (X : Cx) (G : Gm) (W : WX) (es : List Expr) (f : LE → R (List D)) : Prop := PA X es (tAp G W f)
/-- a call of a built-in by values -/
def CallD (X : Cx) (G : Gm) (fv : Value) (g : List D → R D) : Prop := ∃ rr : List V → Hp → VK → Prop, CallR X fv rr ∧
  ∀ (dl : Addr) (Z : List Addr) (O : List (Nat × Addr)) (r : LE) (sg : L2.St) (ds : List D) (vs : List V) (H : Hp) (Q : VK) (E : Exc → Prop), At G dl Z O r sg H → RepPL G dl H Z ds vs →
    Wp (g ds) (fun d => ∀ v H', Grow dl H H' → GlOk G dl H' → Rep G dl (cut H' Z) d v → Q v H') E → rr vs H Q
/-- .. that gives a new list -/
def CallF (X : Cx) (G : Gm) (fv : Value) (g : List D → R (List D)) : Prop := ∃ rr : List V → Hp → VK → Prop, CallR X fv rr ∧
  ∀ (dl : Addr) (Z : List Addr) (O : List (Nat × Addr)) (r : LE) (sg : L2.St) (ds : List D) (vs : List V) (H : Hp) (Q : VK) (E : Exc → Prop), At G dl Z O r sg H → RepPL G dl H Z ds vs →
    Wp (g ds) (fun ds => ∀ p vs H', Grow dl H H' → GlOk G dl H' → H' p = none → RepL G dl (cut H' Z) ds vs → Q (.ref p) (upd H' p (.lst vs))) E → rr vs H Q
section
variable {X : Cx} {G : Gm} {W : WX} {ex a b : Expr} {es : List Expr} {f : LE → R D} {fs : LE → R (List D)} {g : List D → R D} {gl : List D → R (List D)} {pos p : Pos} {x : Str} {id T : String}
theorem dap_nil : DAp X G W [] anil := PA_imp pa_nil fun sg H Q ⟨dl, Z, O, r, A, q⟩ => q [] H (.refl _ _) A.gl rfl
theorem dap_cons (ha : DP X G W a f) (hs : DAp X G W es fs) (hst : starEach (a :: es) X.env = (false, eval a X.env) :: starEach es X.env := by rfl) : DAp X G W (a :: es) (acons f fs) := PA_imp (pa_cons ha hs hst) fun sg H Q ⟨dl, Z, O, r, A, q⟩ => by
  refine ⟨dl, Z, O, r, A, q.bind.thn fun x hx v H1 g1 k1 rp => ?_⟩
  refine ⟨dl, Z, O, r, A.grow g1 k1, hx.bind.mono (fun xs hxs vs H2 g2 k2 rl => ?_) fun e => epost g1⟩
  exact hxs (v :: vs) H2 (g1.trans g2) k2 ⟨v, vs, rfl, rp.grow (A.grow g1 k1) g2, rl⟩
theorem de_callB (hc : CallD X G (.builtin id) g) (hm : X.mg x = none) (hv : bootBuiltins x = some (.builtin id)) (ha : DAp X G W (ex :: es) fs) (hg : Gl X x := by rfl) (hn : x ≠ "__name__" := by decide) (hdb : (x == ("__debug__" : Str)) = false := by decide)
    (he : starEach (ex :: es) X.env = (false, eval ex X.env) :: starEach es X.env := by rfl) (hpl : (backTo pos (starEach es X.env)).any (·.1) = false := by rfl) : DE X G W (.Call (.Name x p) (ex :: es) [] pos) (fun r => fs r >>= g) := by
  obtain ⟨rr, h1, h2⟩ := hc
  refine PE_imp (pe_callB h1 hg hm hv ha hn hdb he hpl) fun sg H Q ⟨dl, Z, O, r, A, q⟩ => ⟨dl, Z, O, r, A, q.bind.thn fun ds hd vs H1 g1 k1 rl => ?_⟩
  exact h2 dl Z O r sg ds vs H1 Q _ (A.grow g1 k1) rl (hd.thn fun d h v H' g' k' rp => h v H' (g1.trans g') k' rp)
theorem de_callT (hc : CallD X G (.type T) g) (hm : X.mg x = none) (hv : bootBuiltins x = some (.type T)) (ha : DAp X G W (ex :: es) fs) (hg : Gl X x := by rfl) (hn : x ≠ "__name__" := by decide) (hdb : (x == ("__debug__" : Str)) = false := by decide)
    (he : starEach (ex :: es) X.env = (false, eval ex X.env) :: starEach es X.env := by rfl) (hpl : (backTo pos (starEach es X.env)).any (·.1) = false := by rfl) : DE X G W (.Call (.Name x p) (ex :: es) [] pos) (fun r => fs r >>= g) := by
  obtain ⟨rr, h1, h2⟩ := hc
  refine PE_imp (pe_callTy h1 hg hm hv ha hn hdb he hpl) fun sg H Q ⟨dl, Z, O, r, A, q⟩ => ⟨dl, Z, O, r, A, q.bind.thn fun ds hd vs H1 g1 k1 rl => ?_⟩
  exact h2 dl Z O r sg ds vs H1 Q _ (A.grow g1 k1) rl (hd.thn fun d h v H' g' k' rp => h v H' (g1.trans g') k' rp)
theorem df_callT (hc : CallF X G (.type T) gl) (hm : X.mg x = none) (hv : bootBuiltins x = some (.type T)) (ha : DAp X G W (ex :: es) fs) (hg : Gl X x := by rfl) (hn : x ≠ "__name__" := by decide) (hdb : (x == ("__debug__" : Str)) = false := by decide)
    (he : starEach (ex :: es) X.env = (false, eval ex X.env) :: starEach es X.env := by rfl) (hpl : (backTo pos (starEach es X.env)).any (·.1) = false := by rfl) : DF X G W (.Call (.Name x p) (ex :: es) [] pos) (fun r => fs r >>= gl) := by
  obtain ⟨rr, h1, h2⟩ := hc
  refine PE_imp (pe_callTy h1 hg hm hv ha hn hdb he hpl) fun sg H Q ⟨dl, Z, O, r, A, q⟩ => ⟨dl, Z, O, r, A, q.bind.thn fun ds hd vs H1 g1 k1 rl => ?_⟩
  exact h2 dl Z O r sg ds vs H1 Q _ (A.grow g1 k1) rl (hd.thn fun d h p vs H' g' k' hp rl => h p vs H' (g1.trans g') k' hp rl)
def lenD : List D → R D
  | [.str s] => if s.length ≤ 16777216 then .ok (.int s.length) else .stuck
  | [.lst xs] => .ok (.int xs.length)
  | [.tup xs] => .ok (.int xs.length)
  | _ => .stuck
def absD : List D → R D
  | [.int i] => .ok (.int (if i < 0 then -i else i))
  | _ => .stuck
def tupleD : List D → R D
  | [.lst xs] => .ok (.tup xs)
  | [.tup xs] => .ok (.tup xs)
  | _ => .stuck
def listD : List D → R (List D)
  | [.lst xs] => .ok xs
  | [.tup xs] => .ok xs
  | _ => .stuck
theorem RepPL.one {dl : Addr} {H : Hp} {Z : List Addr} {d : D} {vs : List V} (h : RepPL G dl H Z [d] vs) : ∃ v, vs = [v] ∧ RepP G dl H Z d v := by
  obtain ⟨v, r, rfl, h1, h2⟩ := h
  cases (show r = [] from h2)
  exact ⟨v, rfl, h1⟩
theorem RepPL.two {dl : Addr} {H : Hp} {Z : List Addr} {d e : D} {vs : List V} (h : RepPL G dl H Z [d, e] vs) : ∃ v u, vs = [v, u] ∧ RepP G dl H Z d v ∧ RepP G dl H Z e u := by
  obtain ⟨v, r, rfl, h1, h2⟩ := h
  obtain ⟨u, rfl, h3⟩ := RepPL.one h2
  exact ⟨v, u, rfl, h1, h3⟩
theorem cd_len (hG : G.K = X.K) : CallD X G (.builtin "len") lenD := by
  refine ⟨_, call_len, fun dl Z O r sg ds vs H Q E A rl h => ?_⟩
  unfold lenD at h
  split at h
  · split at h
    · rename_i s hs
      obtain ⟨v, rfl, rp⟩ := rl.one
      refine ⟨v, s.length, rfl, ?_, h _ H (.refl _ _) A.gl Rep.int_⟩
      rw [rp.str]
      exact ⟨by rw [sizeLine_eq]; simpa [Str.length] using hs, by simp [Str.length]⟩
    · exact h.elim
  · obtain ⟨v, rfl, rp⟩ := rl.one
    obtain ⟨a, us, rfl, e, rl'⟩ := rp.lst
    refine ⟨_, us.length, rfl, .inl ⟨us, SqL.of e, rfl⟩, ?_⟩
    rw [rl'.length]
    exact h _ H (.refl _ _) A.gl Rep.int_
  · obtain ⟨v, rfl, rp⟩ := rl.one
    obtain ⟨a, us, rfl, e, rl'⟩ := rp.tup
    refine ⟨_, us.length, rfl, .inr ⟨us, hG ▸ e, rfl⟩, ?_⟩
    rw [rl'.length]
    exact h _ H (.refl _ _) A.gl Rep.int_
  · exact h.elim
theorem cd_abs : CallD X G (.builtin "abs") absD := by
  refine ⟨_, call_abs, fun dl Z O r sg ds vs H Q E A rl h => ?_⟩
  unfold absD at h
  split at h
  · obtain ⟨v, rfl, rp⟩ := rl.one
    exact ⟨_, by rw [rp.int], h _ H (.refl _ _) A.gl Rep.int_⟩
  · exact h.elim
theorem cd_tuple (hG : G.K = X.K) : CallD X G (.type "tuple") tupleD := by
  refine ⟨_, call_tuple_of, fun dl Z O r sg ds vs H Q E A rl h => ?_⟩
  unfold tupleD at h
  split at h
  · obtain ⟨v, rfl, rp⟩ := rl.one
    obtain ⟨a, us, rfl, e, rl'⟩ := rp.lst
    exact ⟨a, us, rfl, .inl ⟨SqL.of e, fun l hl => h _ _ (.new hl) (A.gl.new hl) (Rep.tup_new A hl rl')⟩⟩
  · obtain ⟨v, rfl, rp⟩ := rl.one
    obtain ⟨a, us, rfl, e, rl'⟩ := rp.tup
    rcases rp with rp | ⟨_, _, _, _, rp⟩
    · exact ⟨a, us, rfl, .inr ⟨hG ▸ e, h _ _ (.refl _ _) A.gl rp⟩⟩
    · exact rp.elim
  · exact h.elim
theorem cf_list (hG : G.K = X.K) : CallF X G (.type "list") listD := by
  refine ⟨_, call_list_of, fun dl Z O r sg ds vs H Q E A rl h => ?_⟩
  unfold listD at h
  split at h
  · obtain ⟨v, rfl, rp⟩ := rl.one
    obtain ⟨a, us, rfl, e, rl'⟩ := rp.lst
    exact ⟨a, us, rfl, .inl (SqL.of e), fun l hl => h l us H (.refl _ _) A.gl hl rl'⟩
  · obtain ⟨v, rfl, rp⟩ := rl.one
    obtain ⟨a, us, rfl, e, rl'⟩ := rp.tup
    exact ⟨a, us, rfl, .inr (hG ▸ e), fun l hl => h l us H (.refl _ _) A.gl hl rl'⟩
  · exact h.elim
def D.ltb (x y : D) : Bool := PySem.W.dataLt x.toP y.toP
def D.ali (x y : D) : Bool := PySem.W.alike x.toP y.toP
/-- all can be compared with one another -/
def alis (ds : List D) : Bool := ds.all fun x => x.sh 50 && (match x with | .non => false | _ => true) && ds.all fun y => x.ali y
def least (d : D) (ds : List D) : D := ds.foldl (fun a y => if y.ltb a then y else a) d
def most (d : D) (ds : List D) : D := ds.foldl (fun a y => if a.ltb y then y else a) d
theorem ReadsAll_get {h : Heap} : ∀ {us : List Value} {ds : List PyData} {as : List Addr} {i : Nat} {u : Value}, ReadsAll h us ds as → us[i]? = some u → ∃ d bs, ds[i]? = some d ∧ Reads h u d bs
  | _, _, _, i, u, .nil, e => by simp at e
  | _, _, _, 0, u, .cons r rs, e => by
    have e := Option.some.inj (show some _ = some u from e)
    subst e
    exact ⟨_, _, rfl, r⟩
  | _, _, _, i + 1, u, .cons r rs, e => by
    obtain ⟨d, bs, h1, h2⟩ := ReadsAll_get rs (i := i) (by simpa using e)
    exact ⟨d, bs, by simpa using h1, h2⟩
theorem Vals_back {xs : List V} {us : List Value} {i : Nat} {u : Value} (r : Vals xs us) (e : us[i]? = some u) : ∃ x, xs[i]? = some x ∧ RelV x u := by
  have hl := r.length
  obtain ⟨h1, h2⟩ := List.getElem?_eq_some_iff.mp e
  have hx : xs[i]? = some (xs[i]'(by omega)) := by simp
  obtain ⟨u', h3, h4⟩ := r.get hx
  rw [e] at h3
  cases h3
  exact ⟨_, hx, h4⟩
theorem minD_mem (x : PyData) (xs : List PyData) : PySem.W.minD x xs ∈ x :: xs := by
  unfold PySem.W.minD
  have : ∀ (ys : List PyData) (a : PyData), ys.foldl (fun a y => if PySem.W.dataLt y a then y else a) a = a ∨ ys.foldl (fun a y => if PySem.W.dataLt y a then y else a) a ∈ ys := by
    intro ys
    induction ys with
    | nil => intro a; exact .inl rfl
    | cons y ys ih =>
      intro a
      rw [List.foldl_cons]
      rcases ih (if PySem.W.dataLt y a then y else a) with e | e
      · rw [e]
        split
        · exact .inr List.mem_cons_self
        · exact .inl rfl
      · exact .inr (List.mem_cons_of_mem _ e)
  rcases this xs x with e | e
  · rw [e]; exact List.mem_cons_self
  · exact List.mem_cons_of_mem _ e
theorem maxD_mem (x : PyData) (xs : List PyData) : PySem.W.maxD x xs ∈ x :: xs := by
  unfold PySem.W.maxD
  have : ∀ (ys : List PyData) (a : PyData), ys.foldl (fun a y => if PySem.W.dataLt a y then y else a) a = a ∨ ys.foldl (fun a y => if PySem.W.dataLt a y then y else a) a ∈ ys := by
    intro ys
    induction ys with
    | nil => intro a; exact .inl rfl
    | cons y ys ih =>
      intro a
      rw [List.foldl_cons]
      rcases ih (if PySem.W.dataLt a y then y else a) with e | e
      · rw [e]
        split
        · exact .inr List.mem_cons_self
        · exact .inl rfl
      · exact .inr (List.mem_cons_of_mem _ e)
  rcases this xs x with e | e
  · rw [e]; exact List.mem_cons_self
  · exact List.mem_cons_of_mem _ e
/-- a list or a tuple of data, one item of which comes back -/
def rPick (K : PySem.W.Frag) (pk : PyData → List PyData → PyData) : List V → Hp → VK → Prop := fun vs H Q => ∃ (a : Addr) (us : List V) (x : PyData) (xs : List PyData), vs = [.ref a] ∧ (SqL K H a us ∨ SqT K H a us) ∧ DpAll K H us (x :: xs) ∧ PySem.W.AlikeAll (x :: xs) ∧
  PyData.depthAll (x :: xs) ≤ 64 ∧ ∀ (i : Nat) v, us[i]? = some v → (x :: xs)[i]? = some (pk x xs) → Q v H
theorem pick_core {pins : List (Addr × Obj)} {s : Shared} {sg : L2.St} {H : Hp} {Q : VK} {us : List V} {x pd : PyData} {xs : List PyData} {its : List Value} {as : List Addr} (I : Inv X pins sg H s) (rv : Vals us its) (hr : ReadsAll s.heap its (x :: xs) as) (ha : PySem.W.AlikeAll (x :: xs)) (hmem : pd ∈ x :: xs)
    (q : ∀ (i : Nat) v, us[i]? = some v → (x :: xs)[i]? = some pd → Q v H) (i : Nat) (u : Value) (h' : Heap) (tk : Nat) (bs : List Addr) (hi : its.toArray[i]? = some u) (hr' : Reads h' u pd bs) (hk : ∀ b o, s.heap.get? b = some o → h'.get? b = some o) : EP X pins sg Q u { s with heap := h', toks := tk } := by
  have hi' : its[i]? = some u := by simpa using hi
  obtain ⟨v, hv, rvu⟩ := Vals_back rv hi'
  obtain ⟨d, cs, hd, hrd⟩ := ReadsAll_get hr hi'
  have hdm : d ∈ x :: xs := List.mem_of_getElem? hd
  have e : d = pd := PySem.W.alike_unique d _ u _ _ (ha.1 d hdm _ hmem) (PySem.W.reads_keeps hk hrd) hr'
  subst e
  exact ⟨v, H, I.kept hk, rvu, q i v hv hd⟩
theorem cr_minP (hc : X.calm = true) (hu : X.A.units + 70 < cLine) : CallR X (.builtin "min") (rPick X.K PySem.W.minD) := by
  intro pins s sg H vs us0 Q I r ⟨a, us, x, xs, ev, hsq, hdp, ha, hdep, q⟩
  subst ev
  rw [Vals.ref1 r]
  rcases hsq with h | h
  · obtain ⟨its, rv, pl, _⟩ := I.list h
    obtain ⟨as, hr⟩ := Dp.readsAll I (x :: xs) us its hdp rv
    exact PySem.W.min_list_data (I.ok.hd hc) pl.isList hr ha (by omega) (pick_core I rv hr ha (minD_mem x xs) q)
  · obtain ⟨its, rv, pl, _⟩ := I.tuple h
    obtain ⟨as, hr⟩ := Dp.readsAll I (x :: xs) us its hdp rv
    exact PySem.W.min_tuple_data (I.ok.hd hc) pl hr ha (by omega) (pick_core I rv hr ha (minD_mem x xs) q)
theorem cr_maxP (hc : X.calm = true) (hu : X.A.units + 70 < cLine) : CallR X (.builtin "max") (rPick X.K PySem.W.maxD) := by
  intro pins s sg H vs us0 Q I r ⟨a, us, x, xs, ev, hsq, hdp, ha, hdep, q⟩
  subst ev
  rw [Vals.ref1 r]
  rcases hsq with h | h
  · obtain ⟨its, rv, pl, _⟩ := I.list h
    obtain ⟨as, hr⟩ := Dp.readsAll I (x :: xs) us its hdp rv
    exact PySem.W.max_list_data (I.ok.hd hc) pl.isList hr ha (by omega) (pick_core I rv hr ha (maxD_mem x xs) q)
  · obtain ⟨its, rv, pl, _⟩ := I.tuple h
    obtain ⟨as, hr⟩ := Dp.readsAll I (x :: xs) us its hdp rv
    exact PySem.W.max_tuple_data (I.ok.hd hc) pl hr ha (by omega) (pick_core I rv hr ha (maxD_mem x xs) q)
mutual
theorem toP_inj : ∀ (x y : D) (n m : Nat), x.sh n = true → y.sh m = true → x.toP = y.toP → x = y
  | .non, y, n, m, hx, hy, e => by cases y <;> simp_all [D.toP, D.sh]
  | .bl b, y, n, m, hx, hy, e => by cases y <;> simp_all [D.toP, D.sh]
  | .int i, y, n, m, hx, hy, e => by cases y <;> simp_all [D.toP, D.sh]
  | .str s, y, n, m, hx, hy, e => by cases y <;> simp_all [D.toP, D.sh]
  | .lst xs, y, n, m, hx, hy, e => by
    cases y <;> first | (simp [D.toP] at e; done) | skip
    rename_i ys
    cases n <;> first | (simp [D.sh] at hx; done) | skip
    cases m <;> first | (simp [D.sh] at hy; done) | skip
    simp only [D.sh] at hx hy
    simp only [D.toP, PyData.list.injEq] at e
    rw [toPs_inj xs ys _ _ hx hy e]
  | .tup xs, y, n, m, hx, hy, e => by
    cases y <;> first | (simp [D.toP] at e; done) | skip
    rename_i ys
    cases n <;> first | (simp [D.sh] at hx; done) | skip
    cases m <;> first | (simp [D.sh] at hy; done) | skip
    simp only [D.sh] at hx hy
    simp only [D.toP, PyData.tuple.injEq] at e
    rw [toPs_inj xs ys _ _ hx hy e]
  | .dic _, y, n, m, hx, hy, e => by simp [D.sh] at hx
  | .cdic _, y, n, m, hx, hy, e => by simp [D.sh] at hx
  | .ins _ _, y, n, m, hx, hy, e => by simp [D.sh] at hx
  | .dice, y, n, m, hx, hy, e => by simp [D.sh] at hx
  | .fn _, y, n, m, hx, hy, e => by simp [D.sh] at hx
theorem toPs_inj : ∀ (xs ys : List D) (n m : Nat), D.shs xs n = true → D.shs ys m = true → D.toPs xs = D.toPs ys → xs = ys
  | [], [], n, m, hx, hy, e => rfl
  | [], y :: ys, n, m, hx, hy, e => by simp [D.toPs] at e
  | x :: xs, [], n, m, hx, hy, e => by simp [D.toPs] at e
  | x :: xs, y :: ys, n, m, hx, hy, e => by
    simp only [D.shs, Bool.and_eq_true] at hx hy
    simp only [D.toPs, List.cons.injEq] at e
    rw [toP_inj x y n m hx.1 hy.1 e.1, toPs_inj xs ys n m hx.2 hy.2 e.2]
end
theorem toPs_map (ds : List D) : D.toPs ds = ds.map D.toP := by
  induction ds with
  | nil => rfl
  | cons d ds ih => simp only [D.toPs, List.map_cons, ih]
theorem shs_of {ds : List D} {n : Nat} (h : ∀ d ∈ ds, d.sh n = true) : D.shs ds n = true := by
  induction ds with
  | nil => rfl
  | cons d ds ih =>
    simp only [D.shs, h d List.mem_cons_self, Bool.true_and]
    exact ih fun e he => h e (List.mem_cons_of_mem _ he)
theorem alis_sh {ds : List D} (h : alis ds = true) : ∀ d ∈ ds, d.sh 50 = true := fun d hd => by
  have := List.all_eq_true.mp h d hd
  simp only [Bool.and_eq_true] at this
  exact this.1.1
theorem alis_alike {ds : List D} (h : alis ds = true) : PySem.W.AlikeAll (D.toPs ds) := by
  rw [toPs_map]
  refine ⟨fun x hx y hy => ?_, fun x hx => ?_⟩
  · obtain ⟨d, hd, rfl⟩ := List.mem_map.mp hx
    obtain ⟨e, he, rfl⟩ := List.mem_map.mp hy
    have := List.all_eq_true.mp h d hd
    simp only [Bool.and_eq_true, List.all_eq_true] at this
    exact this.2 e he
  · obtain ⟨d, hd, rfl⟩ := List.mem_map.mp hx
    have := List.all_eq_true.mp h d hd
    simp only [Bool.and_eq_true] at this
    intro e
    cases d <;> simp_all [D.toP, D.sh]
theorem least_toP (d : D) (ds : List D) : (least d ds).toP = PySem.W.minD d.toP (D.toPs ds) := by
  unfold least PySem.W.minD
  rw [toPs_map, List.foldl_map]
  induction ds generalizing d with
  | nil => rfl
  | cons e ds ih =>
    rw [List.foldl_cons, List.foldl_cons, ih]
    congr 1
    show (if e.ltb d then e else d).toP = if PySem.W.dataLt e.toP d.toP then e.toP else d.toP
    unfold D.ltb
    split <;> rfl
theorem most_toP (d : D) (ds : List D) : (most d ds).toP = PySem.W.maxD d.toP (D.toPs ds) := by
  unfold most PySem.W.maxD
  rw [toPs_map, List.foldl_map]
  induction ds generalizing d with
  | nil => rfl
  | cons e ds ih =>
    rw [List.foldl_cons, List.foldl_cons, ih]
    congr 1
    show (if d.ltb e then e else d).toP = if PySem.W.dataLt d.toP e.toP then e.toP else d.toP
    unfold D.ltb
    split <;> rfl
theorem fold_mem {pk : D → D → D} (hp : ∀ a b, pk a b = a ∨ pk a b = b) : ∀ (ds : List D) (d : D), ds.foldl pk d ∈ d :: ds
  | [], d => List.mem_cons_self
  | e :: ds, d => by
    rw [List.foldl_cons]
    rcases hp d e with q | q
    · rw [q]
      rcases List.mem_cons.mp (fold_mem hp ds d) with z | z
      · rw [z]; exact List.mem_cons_self
      · exact List.mem_cons_of_mem _ (List.mem_cons_of_mem _ z)
    · rw [q]
      exact List.mem_cons_of_mem _ (fold_mem hp ds e)
theorem least_mem (d : D) (ds : List D) : least d ds ∈ d :: ds := fold_mem (fun a b => by split <;> simp) ds d
theorem most_mem (d : D) (ds : List D) : most d ds ∈ d :: ds := fold_mem (fun a b => by split <;> simp) ds d
def minL : List D → R D
  | [.int i, .int j] => .ok (.int (if j < i then j else i))
  | [.lst (d :: ds)] => if alis (d :: ds) then .ok (least d ds) else .stuck
  | [.tup (d :: ds)] => if alis (d :: ds) then .ok (least d ds) else .stuck
  | _ => .stuck
def maxL : List D → R D
  | [.int i, .int j] => .ok (.int (if j > i then j else i))
  | [.lst (d :: ds)] => if alis (d :: ds) then .ok (most d ds) else .stuck
  | [.tup (d :: ds)] => if alis (d :: ds) then .ok (most d ds) else .stuck
  | _ => .stuck
theorem CallR.or {f : Value} {r1 r2 : List V → Hp → VK → Prop} (h1 : CallR X f r1) (h2 : CallR X f r2) : CallR X f (fun vs H Q => r1 vs H Q ∨ r2 vs H Q) := fun pins s sg H xs us Q I r h => by
  rcases h with h | h
  · exact h1 pins s sg H xs us Q I r h
  · exact h2 pins s sg H xs us Q I r h
theorem pick_of {pk : D → List D → D} {pp : PyData → List PyData → PyData} (htp : ∀ d ds, (pk d ds).toP = pp d.toP (D.toPs ds)) (hmem : ∀ d ds, pk d ds ∈ d :: ds) {dl : Addr} {Z : List Addr} {O : List (Nat × Addr)} {r : LE} {sg : L2.St} {H : Hp} {Q : VK} (hG : G.K = X.K) (A : At G dl Z O r sg H) {d : D} {ds : List D} {us : List V} {a : Addr}
    (hsq : SqL X.K H a us ∨ SqT X.K H a us) (rl : RepL G dl (cut H Z) (d :: ds) us) (hal : alis (d :: ds) = true) (h : ∀ v H', Grow dl H H' → GlOk G dl H' → Rep G dl (cut H' Z) (pk d ds) v → Q v H') : rPick X.K pp [.ref a] H Q := by
  have hs := alis_sh hal
  have hss := shs_of hs
  refine ⟨a, us, d.toP, D.toPs ds, rfl, hsq, ?_, ?_, ?_, fun i v hv hi => ?_⟩
  · have := RepL.dp (cut_grow H Z) (d :: ds) 50 hss rl
    rw [hG] at this
    exact this
  · exact alis_alike hal
  · exact Nat.le_trans (shs_lay (d :: ds) 50 hss).2 (by decide)
  · obtain ⟨e, he, rp⟩ := RepL.get (d :: ds) us i v rl hv
    have h1 : (D.toPs (d :: ds))[i]? = some (pp d.toP (D.toPs ds)) := hi
    rw [toPs_map, List.getElem?_map, he] at h1
    have h2 : e.toP = (pk d ds).toP := by rw [htp]; exact Option.some.inj h1
    have h3 := toP_inj e _ 50 50 (hs e (List.mem_of_getElem? he)) (hs _ (hmem d ds)) h2
    rw [← h3] at h
    exact h v H (.refl _ _) A.gl rp
theorem cd_min (hG : G.K = X.K) (hc : X.calm = true) (hu : X.A.units + 70 < cLine) : CallD X G (.builtin "min") minL := by
  refine ⟨_, CallR.or (call_min2 hc) (cr_minP hc hu), fun dl Z O r sg ds vs H Q E A rl h => ?_⟩
  unfold minL at h
  split at h
  · obtain ⟨v, u, rfl, r1, r2⟩ := rl.two
    exact .inl ⟨_, _, by rw [r1.int, r2.int], h _ H (.refl _ _) A.gl Rep.int_⟩
  · split at h
    · rename_i d ds hal
      obtain ⟨v, rfl, rp⟩ := rl.one
      obtain ⟨a, us, rfl, e, rl'⟩ := rp.lst
      exact .inr (pick_of least_toP least_mem hG A (.inl (SqL.of e)) rl' hal h)
    · exact h.elim
  · split at h
    · rename_i d ds hal
      obtain ⟨v, rfl, rp⟩ := rl.one
      obtain ⟨a, us, rfl, e, rl'⟩ := rp.tup
      exact .inr (pick_of least_toP least_mem hG A (.inr (hG ▸ e)) rl' hal h)
    · exact h.elim
  · exact h.elim
theorem cd_max (hG : G.K = X.K) (hc : X.calm = true) (hu : X.A.units + 70 < cLine) : CallD X G (.builtin "max") maxL := by
  refine ⟨_, CallR.or (call_max2 hc) (cr_maxP hc hu), fun dl Z O r sg ds vs H Q E A rl h => ?_⟩
  unfold maxL at h
  split at h
  · obtain ⟨v, u, rfl, r1, r2⟩ := rl.two
    exact .inl ⟨_, _, by rw [r1.int, r2.int], h _ H (.refl _ _) A.gl Rep.int_⟩
  · split at h
    · rename_i d ds hal
      obtain ⟨v, rfl, rp⟩ := rl.one
      obtain ⟨a, us, rfl, e, rl'⟩ := rp.lst
      exact .inr (pick_of most_toP most_mem hG A (.inl (SqL.of e)) rl' hal h)
    · exact h.elim
  · split at h
    · rename_i d ds hal
      obtain ⟨v, rfl, rp⟩ := rl.one
      obtain ⟨a, us, rfl, e, rl'⟩ := rp.tup
      exact .inr (pick_of most_toP most_mem hG A (.inr (hG ▸ e)) rl' hal h)
    · exact h.elim
  · exact h.elim
end
end DL
set_option Elab.async false
set_option linter.all false
set_option maxRecDepth 100000
namespace DL
open PySem L2 PySem.Spec PyProof.Rows
def D.key1 : D → Bool
  | .int _ => true
  | .str _ => true
  | _ => false
def D.keq : D → D → Bool
  | .int i, .int j => i == j
  | .str s, .str t => s == t
  | _, _ => false
theorem keq_key {a b : D} {x y : Key} (h1 : a.key = some x) (h2 : b.key = some y) : a.keq b = decide (x = y) := by
  cases a <;> simp [D.key] at h1 <;> subst h1 <;> cases b <;> simp [D.key] at h2 <;> subst h2 <;> rw [Bool.eq_iff_iff] <;> simp [D.keq]
def getD (kvs : List (D × D)) (k : D) : Option D := (kvs.find? fun p => p.1.keq k).map (·.2)
def putD (kvs : List (D × D)) (k d : D) : List (D × D) := if (kvs.any fun p => p.1.keq k) = true then kvs.map (fun p => if p.1.keq k then (p.1, d) else p) else kvs ++ [(k, d)]
/-- x in y -/
def inB (x : D) : D → R Bool
  | .lst ys => if x.sh 62 && D.shs ys 62 then .ok (ys.any fun z => z.eqb x) else .stuck
  | .tup ys => if x.sh 62 && D.shs ys 62 then .ok (ys.any fun z => z.eqb x) else .stuck
  | .str t => match x with
    | .str [c] => .ok (decide (c ∈ t))
    | _ => .stuck
  | .dic kvs => if x.key1 then .ok ((getD kvs x).isSome) else .stuck
  | _ => .stuck
def inD (x y : D) : R D := inB x y >>= fun b => .ok (.bl b)
def notInD (x y : D) : R D := inB x y >>= fun b => .ok (.bl (!b))
theorem toPs_any {x : D} {n : Nat} (hx : x.sh n = true) : ∀ {ys : List D} {m : Nat}, D.shs ys m = true → ((D.toPs ys).any fun z => PyData.eqv z x.toP) = ys.any fun z => z.eqb x
  | [], m, h => rfl
  | y :: ys, m, h => by
    simp only [D.shs, Bool.and_eq_true] at h
    simp only [D.toPs, List.any_cons, toPs_any hx h.2, eqb_eqv y x m n h.1 hx]
mutual
theorem sh_mono : ∀ (d : D) (n m : Nat), n ≤ m → d.sh n = true → d.sh m = true
  | .non, _, _, _, _ => rfl
  | .bl _, _, _, _, _ => rfl
  | .int _, _, _, _, _ => rfl
  | .str s, n, m, _, h => by simpa [D.sh] using h
  | .lst xs, n, m, h1, h2 => by
    cases n <;> first | (simp [D.sh] at h2; done) | skip
    cases m <;> first | omega | skip
    simp only [D.sh] at h2 ⊢
    exact shs_mono xs _ _ (by omega) h2
  | .tup xs, n, m, h1, h2 => by
    cases n <;> first | (simp [D.sh] at h2; done) | skip
    cases m <;> first | omega | skip
    simp only [D.sh] at h2 ⊢
    exact shs_mono xs _ _ (by omega) h2
  | .dic _, n, m, _, h => by simp [D.sh] at h
  | .cdic _, n, m, _, h => by simp [D.sh] at h
  | .ins _ _, n, m, _, h => by simp [D.sh] at h
  | .dice, n, m, _, h => by simp [D.sh] at h
  | .fn _, n, m, _, h => by simp [D.sh] at h
theorem shs_mono : ∀ (ds : List D) (n m : Nat), n ≤ m → D.shs ds n = true → D.shs ds m = true
  | [], _, _, _, _ => rfl
  | d :: ds, n, m, h1, h2 => by
    simp only [D.shs, Bool.and_eq_true] at h2 ⊢
    exact ⟨sh_mono d n m h1 h2.1, shs_mono ds n m h1 h2.2⟩
end
section
variable {X : Cx} {G : Gm} {W : WX}
/-- x in a tuple of data -/
def rInTD (K : PySem.W.Frag) (neg : Bool) : R2 := fun x y H Q => ∃ d ds, Dp K H x d ∧ Dp K H y (.tuple ds) ∧ SeqAt.shaped d = true ∧ SeqAt.shaped (.tuple ds) = true ∧ Q (.bl (if neg then !ds.any fun z => PyData.eqv z d else ds.any fun z => PyData.eqv z d)) H
theorem room_tup {A : Around} {ds : List PyData} {d : PyData} (sd : SeqAt.shaped d = true) (hu : A.units + 66 < cLine) : A.units + 1 + min (PyData.depthAll ds) d.depth < cLine := by
  have := SeqAt.depth_of_shaped sd
  omega
theorem op_inTD (hu : X.A.units + 66 < cLine) : OpR X (compareOp .In) (rInTD X.K false) := by
  intro pins s sg H x y v u Q I rx ry ⟨d, ds, hd, he, sd, se, q⟩
  obtain ⟨as, r1⟩ := Dp.reads I d x v hd rx
  obtain ⟨bs, r2⟩ := Dp.reads I (.tuple ds) y u he ry
  exact SeqAt.in_tuple_reads r2 r1 (SeqAt.canLay_of_shaped se) (SeqAt.canLay_of_shaped sd) (room_tup sd hu) ⟨.bl _, H, I, rfl, q⟩
theorem op_notInTD (hu : X.A.units + 66 < cLine) : OpR X (compareOp .NotIn) (rInTD X.K true) := by
  intro pins s sg H x y v u Q I rx ry ⟨d, ds, hd, he, sd, se, q⟩
  obtain ⟨as, r1⟩ := Dp.reads I d x v hd rx
  obtain ⟨bs, r2⟩ := Dp.reads I (.tuple ds) y u he ry
  exact SeqAt.notIn_tuple_reads r2 r1 (SeqAt.canLay_of_shaped se) (SeqAt.canLay_of_shaped sd) (room_tup sd hu) ⟨.bl _, H, I, rfl, q⟩
def rInDc (neg : Bool) : R2 := fun x y H Q => ∃ a o, y = .ref a ∧ DGet H a x o ∧ Q (.bl (if neg then !o.isSome else o.isSome)) H
theorem op_inDc (hu : X.A.units + 66 < cLine) : OpR X (compareOp .In) (rInDc false) := by
  intro pins s sg H x y v u Q I rx ry ⟨a, o, ey, g, q⟩
  subst ey
  obtain rfl : u = Value.ref a := ry
  exact d_in (by omega) I g rx fun s3 I3 => ⟨.bl o.isSome, H, I3, rfl, q⟩
theorem op_notInDc (hu : X.A.units + 66 < cLine) : OpR X (compareOp .NotIn) (rInDc true) := by
  intro pins s sg H x y v u Q I rx ry ⟨a, o, ey, g, q⟩
  subst ey
  obtain rfl : u = Value.ref a := ry
  exact d_notIn (by omega) I g rx fun s3 I3 => ⟨.bl (!o.isSome), H, I3, rfl, q⟩
theorem key_kV {d : D} {x : Key} {dl : Addr} {H : Hp} {Z : List Addr} {v : V} (h : d.key = some x) (rp : RepP G dl H Z d v) : v = kV x := by
  cases d <;> simp [D.key] at h <;> subst h
  · rw [rp.int]; rfl
  · rw [rp.str]; rfl
theorem key1_key {d : D} (h : d.key1 = true) : ∃ x, d.key = some x := by
  cases d <;> simp [D.key1] at h
  · exact ⟨_, rfl⟩
  · exact ⟨_, rfl⟩
theorem RepP.dic {dl : Addr} {H : Hp} {Z : List Addr} {v : V} {kvs : List (D × D)} (h : RepP G dl H Z (.dic kvs) v) : ∃ a kv, v = .ref a ∧ Rd H a (.dK kv) ∧ RepK G dl (cut H Z) kvs kv := by
  rcases h with h | ⟨a, e, hz, hd, q⟩
  · unfold Rep at h
    obtain ⟨a, kv, e, q, rl⟩ := h
    exact ⟨a, kv, e, (cut_grow H Z).rd (fun ps z => by cases z) q, rl⟩
  · obtain ⟨kv, e2, rl⟩ := q
    exact ⟨a, kv, e, .inl e2, rl⟩
theorem getD_of {dl : Addr} {S : Hp} {k : D} {x : Key} (hk : k.key = some x) : ∀ {kvs : List (D × D)} {kv : List (Key × V)}, RepK G dl S kvs kv → (getD kvs k = none ∧ valV kv x = none) ∨ ∃ d v, getD kvs k = some d ∧ valV kv x = some v ∧ Rep G dl S d v
  | [], kv, h => by
    unfold RepK at h
    subst h
    exact .inl ⟨rfl, rfl⟩
  | (k', d) :: kvs, kv, h => by
    unfold RepK at h
    obtain ⟨y, v, r, rfl, hk', rp, h2⟩ := h
    have e := keq_key hk' hk
    by_cases q : y = x
    · refine .inr ⟨d, v, ?_, valV_pos q, rp⟩
      unfold getD
      rw [List.find?_cons, show k'.keq k = true by rw [e]; exact decide_eq_true q]
      rfl
    · have e2 : k'.keq k = false := by rw [e]; exact decide_eq_false q
      have h3 : getD ((k', d) :: kvs) k = getD kvs k := by
        unfold getD
        rw [List.find?_cons, e2]
      rw [h3, valV_neg q]
      exact getD_of hk h2
theorem in_core {neg : Bool} {rr : R2} (hG : G.K = X.K)
    (hL : ∀ {x y : V} {H : Hp} {Q : VK} {d : PyData} {ds : List PyData}, Dp X.K H x d → Dp X.K H y (.list ds) → SeqAt.shaped d = true → SeqAt.shaped (.list ds) = true → Q (.bl (if neg then !ds.any fun z => PyData.eqv z d else ds.any fun z => PyData.eqv z d)) H → rr x y H Q)
    (hT : ∀ {x y : V} {H : Hp} {Q : VK}, rInTD X.K neg x y H Q → rr x y H Q) (hS : ∀ {c : Nat} {z : Str} {H : Hp} {Q : VK}, Q (.bl (if neg then !decide (c ∈ z.cps.toList) else decide (c ∈ z.cps.toList))) H → rr (.str ⟨#[c]⟩) (.str z) H Q) (hD : ∀ {x y : V} {H : Hp} {Q : VK}, rInDc neg x y H Q → rr x y H Q)
    (dl : Addr) (Z : List Addr) (O : List (Nat × Addr)) (r : LE) (sg : L2.St) (x y : D) (vx vy : V) (H : Hp) (Q : VK) (E : Exc → Prop) (A : At G dl Z O r sg H) (hx : RepP G dl H Z x vx) (hy : RepP G dl H Z y vy)
    (h : Wp (inB x y >>= fun b => R.ok (D.bl (if neg then !b else b))) (fun d => ∀ v H', Grow dl H H' → GlOk G dl H' → Rep G dl (cut H' Z) d v → Q v H') E) : rr vx vy H Q := by
  unfold inB at h
  split at h
  · split at h
    · rename_i ys hc
      rw [Bool.and_eq_true] at hc
      have e := toPs_any hc.1 hc.2
      refine hL (d := x.toP) (ds := D.toPs ys) (hG ▸ hx.dp hc.1) (hG ▸ (RepP.dp (n := 63) (by simpa [D.sh] using hc.2) hy)) (sh_shaped (sh_mono _ _ _ (by decide) hc.1)) (sh_shaped (d := .lst ys) (by simpa [D.sh] using shs_mono _ _ 63 (by decide) hc.2)) ?_
      rw [e]
      exact h _ H (.refl _ _) A.gl Rep.bl_
    · exact h.elim
  · split at h
    · rename_i ys hc
      rw [Bool.and_eq_true] at hc
      have e := toPs_any hc.1 hc.2
      refine hT ⟨x.toP, D.toPs ys, hG ▸ hx.dp hc.1, hG ▸ (RepP.dp (n := 63) (by simpa [D.sh] using hc.2) hy), sh_shaped (sh_mono _ _ _ (by decide) hc.1), sh_shaped (d := .tup ys) (by simpa [D.sh] using shs_mono _ _ 63 (by decide) hc.2), ?_⟩
      rw [e]
      exact h _ H (.refl _ _) A.gl Rep.bl_
    · exact h.elim
  · split at h
    · rename_i t _ c
      rw [hx.str, hy.str]
      refine hS ?_
      have := h (.bl (if neg then !decide (c ∈ t) else decide (c ∈ t))) H (.refl _ _) A.gl Rep.bl_
      simpa using this
    · exact h.elim
  · split at h
    · rename_i kvs hk1
      obtain ⟨k, hk⟩ := key1_key hk1
      obtain ⟨a, kv, rfl, hrd, rk⟩ := hy.dic
      refine hD ⟨a, valV kv k, rfl, .inl ⟨kv, k, hrd, key_kV hk hx, rfl⟩, ?_⟩
      have hsome : (valV kv k).isSome = (getD kvs x).isSome := by
        rcases getD_of hk rk with ⟨e1, e2⟩ | ⟨d, v, e1, e2, _⟩ <;> simp [e1, e2]
      rw [hsome]
      exact h _ H (.refl _ _) A.gl Rep.bl_
    · exact h.elim
  · exact h.elim
theorem op_in_d (hG : G.K = X.K) (hu : X.A.units + 70 < cLine) : OpD X G (compareOp .In) inD := by
  refine ⟨_, OpR.or (op_inD (by omega)) (OpR.or (op_inTD (by omega)) (OpR.or op_in_sign (op_inDc (by omega)))), ?_⟩
  exact in_core (neg := false) hG (fun h1 h2 h3 h4 q => .inl ⟨_, _, h1, h2, h3, h4, q⟩) (fun h => .inr (.inl h)) (fun q => .inr (.inr (.inl ⟨_, _, rfl, rfl, q⟩))) (fun h => .inr (.inr (.inr h)))
theorem op_notin_d (hG : G.K = X.K) (hu : X.A.units + 70 < cLine) : OpD X G (compareOp .NotIn) notInD := by
  refine ⟨_, OpR.or (op_notInD (by omega)) (OpR.or (op_notInTD (by omega)) (OpR.or op_notIn_sign (op_notInDc (by omega)))), ?_⟩
  exact in_core (neg := true) hG (fun h1 h2 h3 h4 q => .inl ⟨_, _, h1, h2, h3, h4, q⟩) (fun h => .inr (.inl h)) (fun q => .inr (.inr (.inl ⟨_, _, rfl, rfl, q⟩))) (fun h => .inr (.inr (.inr h)))
end
end DL
set_option Elab.async false
set_option linter.all false
set_option maxRecDepth 100000
namespace DL
open PySem L2 PySem.Spec PyProof.Rows
def getC (kvs : List (List Nat × D)) (k : List Nat) : Option D := (kvs.find? fun p => p.1 == k).map (·.2)
def subI (x y : D) : R D := match x with
  | .dic kvs => if y.key1 then (match getD kvs y with
    | some d => .ok d
    | none => .stuck) else .stuck
  | .cdic kvs => match y with
    | .str s => match getC kvs s with
      | some d => .ok d
      | none => .stuck
    | _ => .stuck
  | x => ixD x y
section
variable {X : Cx} {G : Gm} {W : WX} {ex a b : Expr} {es : List Expr} {f g : LE → R D} {fs : LE → R (List D)} {pos p : Pos} {dl : Addr} {S H : Hp} {Z : List Addr}
def rIxDK : R2 := fun x y H Q => ∃ a v, x = .ref a ∧ DGet H a y (some v) ∧ Q v H
theorem ix_dict (hu : X.A.units + 1 < cLine) : IxR X rIxDK := by
  intro value slice pins s sg H x y v u Q I rx ry h hs
  obtain ⟨p, r, rfl, g, q⟩ := h
  obtain rfl : v = Value.ref p := rx
  exact tail_any (dict_typeIs I g) PySem.F.slot_dict_getitem.lookup (d_getItem hu I g ry fun w' s3 I3 rw' => ⟨r, H, I3, rw', q⟩) hs
theorem RepP.cdic {v : V} {kvs : List (List Nat × D)} (h : RepP G dl H Z (.cdic kvs) v) : ∃ a, v = .ref a ∧ RepC G dl (cut H Z) a kvs := by
  rcases h with h | ⟨a, e, hz, hd, q⟩
  · unfold Rep at h
    exact h
  · exact q.elim
theorem getC_of {a : Addr} {k : List Nat} {d : D} : ∀ {kvs : List (List Nat × D)}, RepC G dl S a kvs → getC kvs k = some d → ∃ v, KDct G.K G.w a ⟨k.toArray⟩ v ∧ Rep G dl S d v
  | [], h, e => by simp [getC] at e
  | (k', d') :: kvs, h, e => by
    unfold RepC at h
    unfold getC at e
    rw [List.find?_cons] at e
    by_cases q : k' = k
    · subst q
      simp at e
      subst e
      exact h.1
    · rw [show (k' == k) = false from beq_eq_false_iff_ne.mpr q] at e
      exact getC_of h.2 e
theorem de_sub (hG : G.K = X.K) (hw : G.w = X.w) (hu : X.A.units + 70 < cLine) (ha : DP X G W a f) (hb : DP X G W b g) (hs : PlainIx b) : DE X G W (.Subscript a b pos) (fun r => do let x ← f r; let y ← g r; subI x y) := by
  refine PE_imp (pe_ix (IxR.or (ix_dict (by omega)) (IxR.or ix_kdict ix_seq)) ha hb hs) fun sg H Q h => ?_
  refine op_core (fun dl Z O r sg x y vx vy H Q E A hx hy h => ?_) h
  cases x with
  | dic kvs =>
    unfold subI at h
    dsimp only at h
    split at h
    · rename_i hk1
      obtain ⟨kk, hk⟩ := key1_key hk1
      obtain ⟨a, kv, rfl, hrd, rk⟩ := hx.dic
      split at h
      · rename_i d hd
        rcases getD_of hk rk with ⟨e1, e2⟩ | ⟨d', v, e1, e2, rp⟩
        · rw [e1] at hd; cases hd
        · rw [e1] at hd
          cases hd
          exact .inl ⟨a, v, rfl, .inl ⟨kv, kk, hrd, key_kV hk hy, e2.symm⟩, h v H (.refl _ _) A.gl rp⟩
      · exact h.elim
    · exact h.elim
  | cdic kvs =>
    cases y <;> first | exact h.elim | skip
    rename_i s
    unfold subI at h
    dsimp only at h
    split at h
    · rename_i d hd
      obtain ⟨a, rfl, rc⟩ := hx.cdic
      obtain ⟨v, kd, rp⟩ := getC_of rc hd
      exact .inr (.inl ⟨a, ⟨s.toArray⟩, v, rfl, hy.str, hG ▸ hw ▸ kd, h v H (.refl _ _) A.gl rp⟩)
    · exact h.elim
  | lst xs =>
    cases y <;> first | exact h.elim | skip
    rename_i i
    unfold subI ixD at h
    dsimp only at h
    split at h
    · rename_i d hd
      obtain ⟨p, vs, rfl, h1, rl⟩ := hx.lst
      obtain ⟨v, h2, rp⟩ := atI_rep rl hd
      exact .inr (.inr (.inl ⟨p, vs, i, v, rfl, hy.int, SqL.of h1, h2, h v H (.refl _ _) A.gl rp⟩))
    · exact h.elim
  | tup xs =>
    cases y <;> first | exact h.elim | skip
    rename_i i
    unfold subI ixD at h
    dsimp only at h
    split at h
    · rename_i d hd
      obtain ⟨p, vs, rfl, h1, rl⟩ := hx.tup
      obtain ⟨v, h2, rp⟩ := atI_rep rl hd
      exact .inr (.inr (.inr (.inl ⟨p, vs, i, v, rfl, hy.int, hG ▸ h1, h2, h v H (.refl _ _) A.gl rp⟩)))
    · exact h.elim
  | str s =>
    cases y <;> first | exact h.elim | skip
    rename_i i
    unfold subI ixD at h
    dsimp only at h
    split at h
    · rename_i hz
      split at h
      · rename_i c hc
        refine .inr (.inr (.inr (.inr ⟨_, i, c, hx.str, hy.int, by rw [sizeLine_eq]; simpa [Str.length] using hz, hc, ?_⟩)))
        exact h _ H (.refl _ _) A.gl (Rep.str_ (x := [c]))
      · exact h.elim
    · exact h.elim
  | non => cases y <;> exact h.elim
  | bl b => cases y <;> exact h.elim
  | int b => cases y <;> exact h.elim
  | ins c b => cases y <;> exact h.elim
  | dice => cases y <;> exact h.elim
  | fn b => cases y <;> exact h.elim
def negD : D → R D
  | .int i => .ok (.int (-i))
  | _ => .stuck
theorem de_neg (ha : DP X G W a f) : DE X G W (.UnaryOp .USub a pos) (fun r => do let x ← f r; negD x) := by
  refine PE_imp (pe_un un_neg ha) fun sg H Q ⟨dl, Z, O, r, A, q⟩ => ?_
  refine ⟨dl, Z, O, r, A, q.bind.thn fun d hd v H1 g1 k1 rp => ?_⟩
  unfold negD at hd
  split at hd
  · rename_i i
    exact ⟨i, rp.int, hd _ H1 g1 k1 Rep.int_⟩
  · exact hd.elim
def isT (T : String) : D → R D
  | .str s => if T = "str" then .ok (.str s) else .stuck
  | .lst xs => if T = "list" then .ok (.lst xs) else .stuck
  | .dic xs => if T = "dict" then .ok (.dic xs) else .stuck
  | _ => .stuck
def TyW (K : PySem.W.Frag) (T : String) (x : V) (H : Hp) : Prop := tyV K T x H ∨ (T = "dict" ∧ ∃ p kvs, x = .ref p ∧ Rd H p (.dK kvs))
theorem tyW_is {pins : List (Addr × Obj)} {sg : L2.St} {H : Hp} {s : Shared} {T : String} {x : V} {v : Value} (I : Inv X pins sg H s) (r : RelV x v) (ty : TyW X.K T x H) :
    s.TypeIs v T ∧ ∀ a, v = .ref a → ∃ ob, s.heap.get? a = some ob ∧ ob.dict = none := by
  rcases ty with ty | ⟨rfl, p, kvs, rfl, hd⟩
  · exact tyV_is I r ty
  · cases r
    obtain ⟨_, _, vs, _, dd⟩ := dk_rd I.hok hd
    refine ⟨dd.typeIs, fun b q => ?_⟩
    cases q
    obtain ⟨ob, _, _, h1, h2, _⟩ := dd
    exact ⟨ob, h1, h2.2.1⟩
theorem isT_wp {T : String} {d : D} {Q : D → Prop} {E : Exc → Prop} (h : Wp (isT T d) Q E) : Q d ∧ ∀ (hG : G.K = X.K) {v : V}, RepP G dl H Z d v → TyW X.K T v H := by
  unfold isT at h
  split at h
  all_goals first | exact h.elim | skip
  all_goals split at h
  all_goals first | exact h.elim | skip
  all_goals rename_i e
  all_goals subst e
  all_goals refine ⟨h, fun hG v rp => ?_⟩
  · rw [rp.str]; exact .inl rfl
  · obtain ⟨a, vs, rfl, h1, _⟩ := rp.lst
    exact .inl (.inl ⟨rfl, vs, SqL.of h1⟩)
  · obtain ⟨a, kv, rfl, h1, _⟩ := rp.dic
    exact .inr ⟨rfl, a, kv, rfl, h1⟩
def tBMW (K : PySem.W.Frag) (T : String) (r : V → List V → Hp → VK → Prop) (to : TE) (t : TA) : TE := fun sg H Q => to sg H fun x H1 => TyW K T x H1 ∧ t sg H1 fun xs H2 => r x xs H2 Q
variable {o e : Expr} {to : TE} {t : TA} {name : Str} {apos cpos : Pos} {T id : String} {r : V → List V → Hp → VK → Prop}
theorem pe_bmw (pa : PlainAttrs T) (slot : PySem.Slot T name id) (hty : typeOf (.builtin id) = pure (.type "method_descriptor")) (hm : MtR X id r) (ho : PE X o to) (ha : PA X (e :: es) t)
    (hbase : attributeBase o name X.env (eval o X.env) = eval o X.env)
    (hfew : ((backTo cpos (starEach (e :: es) X.env)).all (fun x => !x.1) && (backToKw cpos (keywordEach [] X.env)).all (fun x => x.1.isSome)
      && decide ((e :: es).length + ([] : List Keyword).length + (if ([] : List Keyword).isEmpty then 0 else 1) < 30)) = true)
    (hline : (apos.endLine == cpos.line) = true) (hs : starEach (e :: es) X.env = (false, eval e X.env) :: starEach es X.env) (hplain : (backTo cpos (starEach es X.env)).any (·.1) = false) :
    PE X (.Call (.Attribute o name apos) (e :: es) [] cpos) (tBMW X.K T r to t) := by
  refine ⟨fun pins s sg H Q I h => ?_⟩
  refine wpAny_Call_method_late hbase hfew hline rfl (thn (ho.run pins s sg H _ I h) fun v s1 ⟨x, H1, I1, r1, ty, q1⟩ => ?_)
  obtain ⟨h1, h2⟩ := tyW_is I1 r1 ty
  refine ⟨T, id, pa, slot, hty, h1, h2, ?_⟩
  have hA := ha.run cpos pins s1 sg H1 _ I1 q1
  rw [hs] at hA ⊢
  refine Calls.callWith_builtin (by show (false || (backTo cpos (starEach es X.env)).any (·.1)) = false; rw [hplain] <;> rfl) (Calls.evalArgs_plain ?_)
  exact thn hA fun us s2 ⟨vs, H2, I2, r2, q2⟩ => hm pins s2 sg H2 x vs v us Q I2 r1 r2 q2
/-- a method of a built-in type -/
structure BmD (X : Cx) (G : Gm) (T : String) (m : Str) (g : D → List D → R D) : Prop where
  ex : ∃ (id : String) (rr : V → List V → Hp → VK → Prop), PySem.Slot T m id ∧ typeOf (.builtin id) = pure (.type "method_descriptor") ∧ MtR X id rr ∧
    ∀ (dl : Addr) (Z : List Addr) (O : List (Nat × Addr)) (r : LE) (sg : L2.St) (x : D) (vx : V) (ds : List D) (vs : List V) (H : Hp) (Q : VK) (E : Exc → Prop), At G dl Z O r sg H → RepP G dl H Z x vx → RepPL G dl H Z ds vs →
      Wp (g x ds) (fun d => ∀ v H', Grow dl H H' → GlOk G dl H' → Rep G dl (cut H' Z) d v → Q v H') E → rr vx vs H Q
  pa : PlainAttrs T
theorem de_bm {gg : D → List D → R D} (B : BmD X G T name gg) (hG : G.K = X.K) (ho : DP X G W o f) (ha : DAp X G W (e :: es) fs) (hbase : attributeBase o name X.env (eval o X.env) = eval o X.env := by rfl)
    (hfew : ((backTo cpos (starEach (e :: es) X.env)).all (fun x => !x.1) && (backToKw cpos (keywordEach [] X.env)).all (fun x => x.1.isSome)
      && decide ((e :: es).length + ([] : List Keyword).length + (if ([] : List Keyword).isEmpty then 0 else 1) < 30)) = true := by rfl)
    (hline : (apos.endLine == cpos.line) = true := by rfl) (hs : starEach (e :: es) X.env = (false, eval e X.env) :: starEach es X.env := by rfl) (hplain : (backTo cpos (starEach es X.env)).any (·.1) = false := by rfl) :
    DE X G W (.Call (.Attribute o name apos) (e :: es) [] cpos) (fun r => do let x ← f r; let x ← isT T x; let ds ← fs r; gg x ds) := by
  obtain ⟨⟨id, rr, slot, hty, hm, hc⟩, pa⟩ := B
  refine PE_imp (pe_bmw pa slot hty hm ho ha hbase hfew hline hs hplain) fun sg H Q ⟨dl, Z, O, r, A, q⟩ => ?_
  refine ⟨dl, Z, O, r, A, q.bind.thn fun x hx v H1 g1 k1 rp => ?_⟩
  obtain ⟨hx, ht⟩ := isT_wp (G := G) (X := X) (dl := dl) (H := H1) (Z := Z) hx.bind
  have A1 := A.grow g1 k1
  refine ⟨ht hG rp, dl, Z, O, r, A1, hx.bind.mono (fun ds hd vs H2 g2 k2 rl => ?_) fun e => epost g1⟩
  exact hc dl Z O r sg x v ds vs H2 Q _ (A1.grow g2 k2) (rp.grow A1 g2) rl (hd.thn fun d h w H' g' k' rp => h w H' ((g1.trans g2).trans g') k' rp)
def idxL (xs : List D) (y : D) : Option Nat := xs.findIdx? fun z => z.eqb y
def idxLs : D → List D → R D
  | .lst xs, [y] => if y.sh 62 && D.shs xs 62 then (match idxL xs y with
    | some j => .ok (.int (j : Nat))
    | none => .stuck) else .stuck
  | _, _ => .stuck
def txt? : D → Option (List Nat)
  | .str s => some s
  | _ => none
def idxTp : D → List D → R D
  | .tup xs, [.str y] => if xs.all (fun z => (txt? z).isSome) then (match idxL xs (.str y) with
    | some j => .ok (.int (j : Nat))
    | none => .stuck) else .stuck
  | _, _ => .stuck
theorem idxL_some {xs : List D} {y : D} {j : Nat} (h : idxL xs y = some j) : ∃ z, xs[j]? = some z ∧ z.eqb y = true ∧ ∀ m z', m < j → xs[m]? = some z' → z'.eqb y = false := by
  unfold idxL at h
  rw [List.findIdx?_eq_some_iff_getElem] at h
  obtain ⟨hj, h1, h2⟩ := h
  refine ⟨xs[j], List.getElem?_eq_getElem hj, h1, fun m z' hm e => ?_⟩
  obtain ⟨hm', e2⟩ := List.getElem?_eq_some_iff.mp e
  have := h2 m hm
  rw [e2] at this
  simpa using this
theorem shs_get : ∀ {xs : List D} {n j : Nat} {z : D}, D.shs xs n = true → xs[j]? = some z → z.sh n = true
  | [], n, j, z, _, e => by simp at e
  | x :: xs, n, 0, z, h, e => by
    simp only [D.shs, Bool.and_eq_true] at h
    simp at e
    exact e ▸ h.1
  | x :: xs, n, j + 1, z, h, e => by
    simp only [D.shs, Bool.and_eq_true] at h
    exact shs_get h.2 (by simpa using e)
theorem bm_index_list (hG : G.K = X.K) (hu : X.A.units + 70 < cLine) : BmD X G "list" "index" idxLs := by
  refine ⟨⟨_, _, PySem.F.slot_list_index, PySem.F.type_list_index, mt_indexD (by omega), ?_⟩, PySem.F.plainAttrs_list⟩
  intro dl Z O r sg x vx ds vs H Q E A hx hds h
  unfold idxLs at h
  split at h
  · split at h
    · rename_i xs y hc
      rw [Bool.and_eq_true] at hc
      split at h
      · rename_i j hj
        obtain ⟨z, h1, h2, h3⟩ := idxL_some hj
        obtain ⟨v, rfl, hy⟩ := hds.one
        obtain ⟨a, us, rfl, hl, rl⟩ := hx.lst
        have hz := shs_get hc.2 h1
        have dd : Dp X.K H (.ref a) (PyData.list (D.toPs xs)) := hG ▸ (RepP.dp (d := .lst xs) (n := 63) (by simpa [D.sh] using hc.2) hx)
        refine ⟨a, v, y.toP, D.toPs xs, j, z.toP, rfl, rfl, dd, hG ▸ hy.dp hc.1, sh_shaped (d := .lst xs) (by simpa [D.sh] using shs_mono _ _ 63 (by decide) hc.2), sh_shaped (sh_mono _ _ _ (by decide) hc.1), by rw [toPs_map, List.getElem?_map, h1]; rfl, by rw [eqb_eqv z y 62 62 hz hc.1]; exact h2, fun m z' hm e => ?_, h _ H (.refl _ _) A.gl Rep.int_⟩
        rw [toPs_map, List.getElem?_map] at e
        cases e2 : xs[m]? with
        | none => rw [e2] at e; cases e
        | some w =>
          rw [e2] at e
          cases e
          rw [eqb_eqv w y 62 62 (shs_get hc.2 e2) hc.1]
          exact h3 m w hm e2
      · exact h.elim
    · exact h.elim
  · exact h.elim
theorem RepL.strs : ∀ {xs : List D} {vs : List V}, RepL G dl S xs vs → xs.all (fun z => (txt? z).isSome) = true → ∃ ys : List (List Nat), xs = ys.map D.str ∧ vs = (ys.map fun y => (⟨y.toArray⟩ : Str)).map V.str
  | [], vs, h, _ => by unfold RepL at h; exact ⟨[], rfl, h⟩
  | x :: xs, vs, h, e => by
    unfold RepL at h
    obtain ⟨v, r, rfl, h1, h2⟩ := h
    rw [List.all_cons, Bool.and_eq_true] at e
    obtain ⟨ys, rfl, rfl⟩ := RepL.strs h2 e.2
    cases x <;> simp [txt?] at e
    rename_i s
    unfold Rep at h1
    exact ⟨s :: ys, rfl, by rw [h1]; rfl⟩
theorem strq {a b : List Nat} : (⟨a.toArray⟩ : Str) = ⟨b.toArray⟩ ↔ a = b := by
  constructor
  · intro h
    simpa using h
  · rintro rfl; rfl
theorem bm_index_tuple (hG : G.K = X.K) : BmD X G "tuple" "index" idxTp := by
  refine ⟨⟨_, _, PySem.F.slot_tuple_index, PySem.F.type_tuple_index, mt_tup_index, ?_⟩, PySem.F.plainAttrs_tuple⟩
  intro dl Z O r sg x vx ds vs H Q E A hx hds h
  unfold idxTp at h
  split at h
  · split at h
    · rename_i xs y hc
      split at h
      · rename_i j hj
        obtain ⟨z, h1, h2, h3⟩ := idxL_some hj
        obtain ⟨v, rfl, hy⟩ := hds.one
        obtain ⟨a, us, rfl, hl, rl⟩ := hx.tup
        obtain ⟨ys, rfl, rfl⟩ := rl.strs hc
        rw [List.getElem?_map] at h1
        cases e1 : ys[j]? with
        | none => rw [e1] at h1; cases h1
        | some z0 =>
          rw [e1] at h1
          cases h1
          have e0 : z0 = y := by simpa [D.eqb] using h2
          refine ⟨a, ys.map fun y => ⟨y.toArray⟩, ⟨y.toArray⟩, j, rfl, by rw [hy.str], hG ▸ hl, by rw [List.getElem?_map, e1, e0]; rfl, fun m hm e => ?_, h _ H (.refl _ _) A.gl Rep.int_⟩
          rw [List.getElem?_map] at e
          cases e2 : ys[m]? with
          | none => rw [e2] at e; cases e
          | some w =>
            rw [e2] at e
            have e3 : w = y := strq.mp (Option.some.inj e)
            have := h3 m (.str w) hm (by rw [List.getElem?_map, e2]; rfl)
            rw [e3] at this
            simp [D.eqb] at this
      · exact h.elim
    · exact h.elim
  · exact h.elim
end
end DL
set_option Elab.async false
set_option linter.all false
set_option maxRecDepth 100000
namespace DL
open PySem L2 PySem.Spec PyProof.Rows
section
variable {X : Cx} {G : Gm} {W : WX} {ex a b o e : Expr} {es : List Expr} {f g : LE → R D} {fs : LE → R (List D)} {pos p apos cpos : Pos} {dl : Addr} {S H : Hp} {Z : List Addr} {name x : Str}
def KTup (X : Cx) (p : Addr) : Prop := ∃ o, X.K.lookup p = some o ∧ o.cls = .type "tuple" ∧ o.dict = none
theorem de_kbm {gg : D → List D → R D} {pa : Addr} {d : D} (B : BmD X G "tuple" name gg) (hm : X.mg x = some (.ref pa)) (kt : KTup X pa) (rp : ∀ dl S, Rep G dl S d (.ref pa)) (ha : DAp X G W (e :: es) fs) (hg : Gl X x := by rfl) (hd : (x == ("__debug__" : Str)) = false := by decide)
    (hbase : attributeBase (.Name x pos) name X.env (eval (.Name x pos) X.env) = eval (.Name x pos) X.env := by rfl)
    (hfew : ((backTo cpos (starEach (e :: es) X.env)).all (fun x => !x.1) && (backToKw cpos (keywordEach [] X.env)).all (fun x => x.1.isSome)
      && decide ((e :: es).length + ([] : List Keyword).length + (if ([] : List Keyword).isEmpty then 0 else 1) < 30)) = true := by rfl)
    (hline : (apos.endLine == cpos.line) = true := by rfl) (hs : starEach (e :: es) X.env = (false, eval e X.env) :: starEach es X.env := by rfl) (hplain : (backTo cpos (starEach es X.env)).any (·.1) = false := by rfl) :
    DE X G W (.Call (.Attribute (.Name x pos) name apos) (e :: es) [] cpos) (fun r => do let ds ← fs r; gg d ds) := by
  obtain ⟨⟨id, rr, slot, hty, hm', hc⟩, pa'⟩ := B
  have rv : RelV (.ref pa) (.ref pa) := rfl
  refine PE_imp (pe_bmw pa' slot hty hm' (pe_glob hg hm rv hd) ha hbase hfew hline hs hplain) fun sg H Q ⟨dl, Z, O, r, A, q⟩ => ?_
  refine ⟨.inl (.inr (.inl ⟨rfl, kt⟩)), dl, Z, O, r, A, q.bind.thn fun ds hd vs H1 g1 k1 rl => ?_⟩
  exact hc dl Z O r sg d (.ref pa) ds vs H1 Q _ (A.grow g1 k1) (.of (rp dl _)) rl (hd.thn fun d h w H' g' k' rp => h w H' (g1.trans g') k' rp)
theorem key_inj {a b : D} {x y : Key} (h1 : a.key = some x) (h2 : b.key = some y) : a.keq b = true ↔ x = y := by
  rw [keq_key h1 h2]; simp
theorem RepK.any : ∀ {kvs : List (D × D)} {kv : List (Key × V)} {k : D} {x : Key}, RepK G dl S kvs kv → k.key = some x → (kvs.any fun p => p.1.keq k) = (kv.any fun p => decide (p.1 = x))
  | [], kv, k, x, h, hk => by unfold RepK at h; subst h; rfl
  | (k', d) :: kvs, kv, k, x, h, hk => by
    unfold RepK at h
    obtain ⟨y, v, r, rfl, hk', rp, h2⟩ := h
    rw [List.any_cons, List.any_cons, keq_key hk' hk, RepK.any h2 hk]
theorem RepK.map : ∀ {kvs : List (D × D)} {kv : List (Key × V)} {k d : D} {x : Key} {v : V}, RepK G dl S kvs kv → k.key = some x → Rep G dl S d v →
    RepK G dl S (kvs.map fun p => if p.1.keq k then (p.1, d) else p) (kv.map fun p => if p.1 = x then (p.1, v) else p)
  | [], kv, k, d, x, v, h, hk, rv => by unfold RepK at h; subst h; unfold RepK; rfl
  | (k', d') :: kvs, kv, k, d, x, v, h, hk, rv => by
    unfold RepK at h
    obtain ⟨y, u, r, rfl, hk', rp, h2⟩ := h
    have q := RepK.map (v := v) (d := d) h2 hk rv
    rw [List.map_cons, List.map_cons]
    by_cases e : y = x
    · rw [if_pos ((key_inj hk' hk).mpr e), if_pos e]
      unfold RepK
      exact ⟨y, v, _, rfl, hk', rv, q⟩
    · rw [if_neg fun z => e ((key_inj hk' hk).mp z), if_neg e]
      unfold RepK
      exact ⟨y, u, _, rfl, hk', rp, q⟩
theorem RepK.app : ∀ {kvs : List (D × D)} {kv : List (Key × V)} {k d : D} {x : Key} {v : V}, RepK G dl S kvs kv → k.key = some x → Rep G dl S d v → RepK G dl S (kvs ++ [(k, d)]) (kv ++ [(x, v)])
  | [], kv, k, d, x, v, h, hk, rv => by
    unfold RepK at h
    subst h
    unfold RepK
    exact ⟨x, v, [], rfl, hk, rv, by unfold RepK; rfl⟩
  | (k', d') :: kvs, kv, k, d, x, v, h, hk, rv => by
    unfold RepK at h
    obtain ⟨y, u, r, rfl, hk', rp, h2⟩ := h
    rw [List.cons_append]
    unfold RepK
    exact ⟨y, u, r ++ [(x, v)], rfl, hk', rp, RepK.app h2 hk rv⟩
theorem RepK.put {kvs : List (D × D)} {kv : List (Key × V)} {k d : D} {x : Key} {v : V} (h : RepK G dl S kvs kv) (hk : k.key = some x) (rv : Rep G dl S d v) : RepK G dl S (putD kvs k d) (putK kv x v) := by
  unfold putD putK
  rw [RepK.any h hk]
  by_cases c : (kv.any fun p => decide (p.1 = x)) = true
  · rw [if_pos c, if_pos c]
    exact h.map hk rv
  · rw [if_neg c, if_neg c]
    exact h.app hk rv
theorem RepK.length : ∀ {kvs : List (D × D)} {kv : List (Key × V)}, RepK G dl S kvs kv → kv.length = kvs.length
  | [], kv, h => by unfold RepK at h; subst h; rfl
  | (k', d') :: kvs, kv, h => by
    unfold RepK at h
    obtain ⟨y, u, r, rfl, _, _, h2⟩ := h
    rw [List.length_cons, List.length_cons, RepK.length h2]
/-- the pairs of a display -/
inductive DPs (X : Cx) (G : Gm) (W : WX) (pos : Pos) : List (Option Expr) → List Expr → List ((LE → R D) × (LE → R D)) → Prop
  | nil : DPs X G W pos [] [] []
  | cons {k v : Expr} {ks : List (Option Expr)} {vs : List Expr} {f g : LE → R D} {fs : List ((LE → R D) × (LE → R D))} (hk : DE X G W k f) (hv : DE X G W v g) (h : DPs X G W pos ks vs fs) : DPs X G W pos (some k :: ks) (v :: vs) ((f, g) :: fs)
def prs : List ((LE → R D) × (LE → R D)) → LE → R (List (D × D))
  | [], _ => .ok []
  | (f, g) :: fs, r => do
    let k ← f r
    let v ← g r
    let t ← prs fs r
    if k.key1 then .ok ((k, v) :: t) else .stuck
def mergeD (kvs more : List (D × D)) : List (D × D) := more.foldl (fun acc p => putD acc p.1 p.2) kvs
theorem RepK_merge : ∀ (more : List (D × D)) {mv : List (Key × V)} {kvs : List (D × D)} {kv : List (Key × V)}, RepK G dl S more mv → RepK G dl S kvs kv → RepK G dl S (mergeD kvs more) (mergeK kv mv)
  | [], mv, kvs, kv, h, h2 => by unfold RepK at h; subst h; exact h2
  | (k, d) :: more, mv, kvs, kv, h, h2 => by
    unfold RepK at h
    obtain ⟨y, u, r, rfl, hk, rp, h3⟩ := h
    have z := RepK_merge more h3 (h2.put hk rp)
    exact z
def trsOf (G : Gm) (W : WX) : List ((LE → R D) × (LE → R D)) → List (TE × TE)
  | [] => []
  | (f, g) :: fs => (tD G W f, tD G W g) :: trsOf G W fs
theorem DPs.pps {ks : List (Option Expr)} {vs : List Expr} {fs : List ((LE → R D) × (LE → R D))} (h : DPs X G W pos ks vs fs) : PPs X pos ks vs (trsOf G W fs) := by
  induction h with
  | nil => exact pps_nil
  | cons hk hv h ih => exact pps_cons hk hv ih
theorem pairs_core : ∀ {fs : List ((LE → R D) × (LE → R D))} {dl : Addr} {Z : List Addr} {O : List (Nat × Addr)} {r : LE} {sg : L2.St} {H : Hp} {Q : List (V × V) → Hp → Prop} (A : At G dl Z O r sg H),
    Wp (prs fs r) (fun ds => ∀ kv H', Grow dl H H' → GlOk G dl H' → RepK G dl (cut H' Z) ds kv → Q (kv.map fun p => (kV p.1, p.2)) H')
      (fun e => ∀ cls dx H', Grow dl H H' → GlOk G dl H' → XRep G dl (cut H' Z) e cls dx H' → W cls dx sg H') → tPairs (trsOf G W fs) sg H Q
  | [], dl, Z, O, r, sg, H, Q, A, q => q [] H (.refl _ _) A.gl (by unfold RepK; rfl)
  | (f, g) :: fs, dl, Z, O, r, sg, H, Q, A, q => by
    refine ⟨dl, Z, O, r, A, q.bind.thn fun k hk v H1 g1 k1 rk => ?_⟩
    have A1 := A.grow g1 k1
    refine ⟨dl, Z, O, r, A1, hk.bind.mono (fun d hd u H2 g2 k2 rd => ?_) fun e => epost g1⟩
    have A2 := A1.grow g2 k2
    refine pairs_core A2 (hd.bind.mono (fun ds hds kv H3 g3 k3 rl => ?_) fun e => epost (g1.trans g2))
    split at hds
    · rename_i hk1
      obtain ⟨x, hx⟩ := key1_key hk1
      have rk3 := rk.mono ((g2.trans g3).cut A.dz)
      have e := key_kV hx (.of rk3)
      subst e
      refine hds ((x, u) :: kv) H3 ((g1.trans g2).trans g3) k3 ?_
      unfold RepK
      exact ⟨x, u, kv, rfl, hx, rd.mono (g3.cut A.dz), rl⟩
    · exact hds.elim
theorem prs_len : ∀ {fs : List ((LE → R D) × (LE → R D))} {r : LE} {Q : List (D × D) → Prop} {E : Exc → Prop}, Wp (prs fs r) Q E → Wp (prs fs r) (fun ps => Q ps ∧ ps.length = fs.length) E
  | [], r, Q, E, h => ⟨h, rfl⟩
  | (f, g) :: fs, r, Q, E, h => by
    refine Wp.of_bind (h.bind.thn fun k hk => Wp.of_bind (hk.bind.thn fun v hv => Wp.of_bind ((prs_len hv.bind).thn fun t ht => ?_)))
    obtain ⟨ht, hl⟩ := ht
    split at ht
    · rename_i c
      rw [if_pos c]
      exact ⟨ht, by rw [List.length_cons, List.length_cons, hl]⟩
    · exact ht.elim
theorem DPs.len {ks : List (Option Expr)} {vs : List Expr} {fs : List ((LE → R D) × (LE → R D))} (h : DPs X G W pos ks vs fs) : fs.length = ks.length := by
  induction h with
  | nil => rfl
  | cons _ _ _ ih => rw [List.length_cons, List.length_cons, ih]
end
end DL
set_option Elab.async false
set_option linter.all false
set_option maxRecDepth 100000
namespace DL
open PySem L2 PySem.Spec PyProof.Rows
/-- _law_roll -/
def rollD : List D → R D
  | [.dice, .int m] => if 0 < m ∧ m < 1000000000 then .roll m.toNat (fun i => .ok (.int (i : Nat))) else .stuck
  | _ => .stuck
theorem rollD_len : ∀ ds Q E, Wp (rollD ds) Q E → ds.length = 2 := fun ds Q E h => by
  unfold rollD at h
  split at h
  · rfl
  · exact h.elim
/-- what a roll is asked: any number below m may come -/
theorem roll_of {G : Gm} {dl : Addr} {Z : List Addr} {ds : List D} {vs : List V} {H : Hp} {Q : VK} {E : XK} (gl : GlOk G dl H) (dz : dl ∈ Z) (rl : RepL G dl (cut H Z) ds vs)
    (h : Wp (rollD ds) (fun d => ∀ v H', Grow dl H H' → GlOk G dl H' → Rep G dl (cut H' Z) d v → Q v H') (fun e => ∀ cls dx H', Grow dl H H' → GlOk G dl H' → XRep G dl (cut H' Z) e cls dx H' → E cls dx H')) :
    ∃ (m x y z : Int), vs = [.ref dl, .int m] ∧ 0 < m ∧ m < 1000000000 ∧ H dl = some (.lst [.int x, .int y, .int z]) ∧ ∀ (r : Int) (H' : Hp), 0 ≤ r → r < m → (∃ a b c : Int, H' = upd H dl (.lst [.int a, .int b, .int c])) → Q (.int r) H' := by
  unfold rollD at h
  split at h
  · rename_i m
    split at h
    · rename_i hm
      obtain ⟨x, y, z, hd⟩ := gl.dice
      unfold RepL at rl
      obtain ⟨v1, r1, rfl, h1, rl⟩ := rl
      unfold RepL at rl
      obtain ⟨v2, r2, rfl, h2, rl⟩ := rl
      unfold RepL at rl
      subst rl
      unfold Rep at h1 h2
      subst h1 h2
      refine ⟨m, x, y, z, rfl, hm.1, hm.2, hd, fun r H' h0 h1 ⟨a, b, c, e⟩ => ?_⟩
      subst e
      have e : r = ((r.toNat : Nat) : Int) := by omega
      rw [e]
      refine h r.toNat (by omega) _ _ (fun p o hp n nt => by rw [upd_ne n]; exact hp) ⟨⟨a, b, c, upd_same⟩, fun q hq => ?_⟩ Rep.int_
      obtain ⟨ps, h1, h2, h3⟩ := gl.tab q hq
      refine ⟨ps, ?_, h2, fun pos cv hc => ?_⟩
      · rw [upd_ne fun e => by rw [e, hd] at h1; cases h1]; exact h1
      · obtain ⟨c, e1, e2⟩ := h3 pos cv hc
        exact ⟨c, e1, by rw [upd_ne fun e => by rw [e, hd] at e2; cases e2]; exact e2⟩
    · exact h.elim
  · exact h.elim
/-- a new dice -/
def spDice : Sp := fun vs H Q _ => ∃ c : Int, vs = [.int c] ∧ ∀ p (x y z : Int), H p = none → Q (.ref p) (upd H p (.lst [.int x, .int y, .int z]))
/-- one round's dice -/
def spRounds (K : PySem.W.Frag) : Sp := fun vs H Q _ => ∃ (a : Addr) (ns : List Int), vs = [.ref a, .int 1] ∧ SqL K H a (ns.map V.int) ∧
  ∀ (H' : Hp) (l d : Addr) (x y z : Int), (∀ b o, H b = some o → H' b = some o) → l ≠ d → H' l = some (.lst [.ref d]) → H' d = some (.lst [.int x, .int y, .int z]) → Q (.ref l) H'
/-- what is asked of the law -/
def spLaw (K : PySem.W.Frag) (T : List (Addr × Str)) : Sp := fun vs H Q _ => ∃ (a : Addr) (ns : List Int), vs = [.ref a] ∧ SqL K H a (ns.map V.int) ∧ (∀ p ∈ T, H p.1 = some (.tbl #[])) ∧ ∀ H', Q (.bl true) H'
/-- the slots when the round begins -/
def r0 (m : Nat) : LE := .un :: .val .dice :: List.replicate (m - 2) .un
theorem law_core {G : Gm} {W : WX} {N : List Str} {F : LE → R Out} {m : Nat} {a : Addr} {ns : List Int} {H : Hp} {Q : VK} {E : L2.St → XK} {nx0 : L2.St → Hp → Prop} (hm : N.length = m) (h2 : 2 ≤ m) (hS : SqL G.K H a (ns.map V.int)) (hT : ∀ p ∈ G.tabs, H p.1 = some (.tbl #[])) (k : ∀ H', Q (.bl true) H')
    (hF : Wp (F (r0 m)) (fun o => ∃ r, o = .nx r ∨ o = .ct r) (fun _ => False)) :
    tSeq (tFor (iList G.K (tCallS (spRounds G.K) E (tCons (tVar 0) (tCons (tC (.int 1)) tNil)))) (gName 1) (tS G W F)) (tRet (tC (.bl true))) { nx := nx0, rt := Q } (L2.start N [.ref a]) H := by
  obtain ⟨b0, b1, N', rfl⟩ : ∃ b0 b1 N', N = b0 :: b1 :: N' := by
    match N, hm with
    | b0 :: b1 :: N', _ => exact ⟨b0, b1, N', rfl⟩
    | [_], hm => simp at hm; omega
    | [], hm => simp at hm; omega
  refine ⟨_, rfl, a, ns, rfl, hS, fun H1 l d x y z e1 nld hl hd => ⟨l, rfl, ⟨_, SqL.of hl⟩, ?_⟩⟩
  refine for_list (K := G.K) (a := l) (xs := [V.ref d]) (fun i sg H' => H' l = some (.lst [.ref d]) ∧ (i = 0 → sg = L2.start (b0 :: b1 :: N') [.ref a] ∧ H' = H1)) ⟨hl, fun _ => ⟨rfl, rfl⟩⟩ (fun i sg H' _ p => SqL.of p.1) (fun i v sg H' hi p => ?_) (fun sg H' p => k _)
  obtain ⟨p1, p2⟩ := p
  cases i with
  | succ i => simp at hi
  | zero =>
    cases hi
    obtain ⟨rfl, rfl⟩ := p2 rfl
    refine ⟨d, [d], [], r0 m, ?_, hF.mono (fun o ho => ?_) fun _ z => z⟩
    · refine ⟨⟨⟨x, y, z, hd⟩, fun p hp => LamX.TabS.nil (e1 _ _ (hT p hp))⟩, List.mem_singleton.mpr rfl, fun b hb => ?_, fun p hp => (by cases hp), fun p hp => (by cases hp), ?_, fun j c e => ?_⟩
      · rw [List.mem_singleton] at hb
        subst hb
        exact ⟨_, hd, fun ps z => by cases z⟩
      · simp [r0, L2.start] at hm ⊢
        omega
      · match j, e with
        | 0, e => cases e; trivial
        | 1, e =>
          cases e
          exact ⟨.ref d, rfl, by unfold Rep; rfl⟩
        | j + 2, e =>
          have e' : (List.replicate (m - 2) Cell.un)[j]? = some c := e
          rw [List.getElem?_replicate] at e'
          split at e'
          · cases e'; trivial
          · cases e'
    · have keep : ∀ {Z' O' H2}, Stp d [d] [] H' Z' O' H2 → H2 l = some (.lst [.ref d]) := fun s => s.fr l _ p1 nld (fun p hp => by cases hp) fun ps z => by cases z
      obtain ⟨r, rfl | rfl⟩ := ho
      · exact fun Z' O' sg' H2 s A => ⟨keep s, fun h => by cases h⟩
      · exact fun Z' O' sg' H2 s A => ⟨keep s, fun h => by cases h⟩
end DL
set_option Elab.async false
set_option linter.all false
set_option maxRecDepth 100000
namespace DL
open PySem L2 LamX PySem.Spec PyProof.Rows
section
variable {P : Program} {w : World} {K : PySem.W.Frag} {mg : Str → Option Value} {base : Heap} {G : Gm} {x qual : Str} {st : Stmt} {f : Addr} {fd : FuncData} {N ps : List Str} {k n m c nf : Nat} {F : LE → R Out}
structure FunE (K : PySem.W.Frag) (x qual : Str) (st : Stmt) (f : Addr) (ps : List Str) : Prop where
  ex : ∃ fd : FuncData, L2.Fun K x qual st f fd ∧ L2.Binds K fd ps []
/-- its code object stands at c -/
structure FunC (K : PySem.W.Frag) (x qual : Str) (st : Stmt) (f c : Addr) (ps : List Str) : Prop where
  ex : ∃ (oc : Value) (od : Option Addr) (kV doc pm : Value) (an : Option Addr) (ct : Value) (osl : Array (Option Value)),
    K.lookup f = some ⟨oc, od, .func (PySem.W.fnOf x qual (defArgs st) (defBody st) (defScope st) .none kV doc pm an (.ref c) ct), osl⟩ ∧
    ∀ us : List Value, us.length = ps.length → bindArgs (PySem.W.fnOf x qual (defArgs st) (defBody st) (defScope st) .none kV doc pm an (.ref c) ct) ⟨us, []⟩ = pure (ps.zip us)
  cd : PySem.W.codeIn K (.ref c) qual = true
  kp : PySem.W.keepIn K (.ref f) = true
theorem funE_of {oc : Value} {od an : Option Addr} {osl : Array (Option Value)} {kV doc pm cdv ct : Value} (l : K.lookup f = some ⟨oc, od, .func (PySem.W.fnOf x qual (defArgs st) (defBody st) (defScope st) .none kV doc pm an cdv ct), osl⟩) (c : PySem.W.codeIn K cdv qual = true) (kp : PySem.W.keepIn K (.ref f) = true)
    (h : ∀ us : List Value, us.length = ps.length → bindArgs (PySem.W.fnOf x qual (defArgs st) (defBody st) (defScope st) .none kV doc pm an cdv ct) ⟨us, []⟩ = pure (ps.zip us)) : FunE K x qual st f ps := ⟨_, L2.fun_mk l c kp, .all h⟩
theorem funC_of {c : Addr} {oc : Value} {od an : Option Addr} {osl : Array (Option Value)} {kV doc pm ct : Value} (l : K.lookup f = some ⟨oc, od, .func (PySem.W.fnOf x qual (defArgs st) (defBody st) (defScope st) .none kV doc pm an (.ref c) ct), osl⟩) (cd : PySem.W.codeIn K (.ref c) qual = true) (kp : PySem.W.keepIn K (.ref f) = true)
    (h : ∀ us : List Value, us.length = ps.length → bindArgs (PySem.W.fnOf x qual (defArgs st) (defBody st) (defScope st) .none kV doc pm an (.ref c) ct) ⟨us, []⟩ = pure (ps.zip us)) : FunC K x qual st f c ps := ⟨⟨oc, od, kV, doc, pm, an, ct, osl, l, h⟩, cd, kp⟩
theorem fn_read (S : FnScope N ps (defScope st)) (hn : ps.length = n) (hm : N.length = m) {vs : List V} {H : Hp} {Q : VK} {E : XK} (h : spD G n (runF n m F) vs H Q E) :
    tS G (WD E) F { nx := fun _ H' => Q .non H', rt := Q } (L2.start N vs) H := by
  obtain ⟨hl, dl, Z, ds, gl, dz, live, rl, hw⟩ := h
  unfold runF at hw
  split at hw
  case isFalse => exact hw.elim
  rename_i hdl
  have hpl : ps.length ≤ N.length := by have := congrArg List.length S.pre; rw [List.length_take] at this; omega
  have A0 : At G dl Z [] (ds.map Cell.val ++ List.replicate (m - n) Cell.un) (L2.start N vs) H := by
    refine ⟨gl, dz, live, fun p hp => (by cases hp), fun p hp => (by cases hp), ?_, start_get rl hl hm⟩
    unfold L2.start
    rw [List.length_append, List.length_map, List.length_replicate, List.length_append, List.length_map, List.length_replicate]
    omega
  have gr : ∀ {Z' O' H'}, Stp dl Z [] H Z' O' H' → Grow dl H H' := fun s a o e n nt => s.fr a o e n (fun p hp => (by cases hp)) nt
  have gz : ∀ {Z' O' H'}, Stp dl Z [] H Z' O' H' → GrowS (cut H' Z') (cut H' Z) := fun s => cut_sub fun a ha => s.zk a ha fun p hp => (by cases hp)
  refine ⟨dl, Z, [], _, A0, (calm_wp hw.bind).thn fun o ho => ?_⟩
  cases o with
  | nx r => exact fun Z' O' sg' H' s A' => ho _ _ (gr s) A'.gl Rep.non_
  | rt d => exact fun Z' O' v H' s g rp => ho _ _ (gr s) g (rp.mono (gz s))
  | ex e r => exact fun Z' O' sg' H' cls dx s A' xr => ho cls dx H' (gr s) A'.gl (xr.mono (gz s))
  | bk r => exact ho.elim
  | ct r => exact ho.elim
theorem fnD_E (Fn : FunE K x qual st f ps) (S : FnScope N ps (defScope st)) (hx : mg x = some (.ref f)) (hn : ps.length = n) (hm : N.length = m)
    (hb : ∀ cdv A outer s H E, Room k (A.deeper (envOfC qual (defScope st) s.heap.objs.size f cdv)) → DSs (cxD P w K mg base N qual st f cdv A outer s H E) G (WD E) (defBody st) F) :
    FnD P w K mg base G (k + 1) x f n (runF n m F) := by
  obtain ⟨fd, Fn, bd⟩ := Fn
  exact fnD_of Fn S bd hx hn hm hb
theorem fnD_C {c : Addr} (Fn : FunC K x qual st f c ps) (S : FnScope N ps (defScope st)) (hx : mg x = some (.ref f)) (hn : ps.length = n) (hm : N.length = m)
    (hb : ∀ A outer s H E, Room k (A.deeper (envOfC qual (defScope st) s.heap.objs.size f (.ref c))) → DSs (cxD P w K mg base N qual st f (.ref c) A outer s H E) G (WD E) (defBody st) F) :
    FnD P w K mg base G (k + 1) x f n (runF n m F) := by
  obtain ⟨⟨oc, od, kV, doc, pm, an, ct, osl, lk, bd⟩, cd, kp⟩ := Fn
  exact ⟨⟨_, ps, hn, fn_of lk cd S (fun vs H Q E h => by rw [hn]; exact h.1) fun A outer s H vs Q E hr h => ⟨_, hb A outer s H E hr, fn_read S hn hm h⟩, .all bd⟩, runF_len, kp, hx⟩
theorem meD_E (Fn : FunE K x qual st f ps) (S : FnScope N ps (defScope st)) (mt : Meth K (G.cls c) x f) (cl : Cls K (G.cls c)) (nf : x ∉ G.flds c) (hn : ps.length = n) (hm : N.length = m)
    (hb : ∀ cdv A outer s H E, Room k (A.deeper (envOfC qual (defScope st) s.heap.objs.size f cdv)) → DSs (cxD P w K mg base N qual st f cdv A outer s H E) G (WD E) (defBody st) F) :
    MeD P w K mg base G (k + 1) c x n (runF n m F) := by
  obtain ⟨fd, Fn, bd⟩ := Fn
  exact meD_of Fn S bd mt cl nf hn hm hb
theorem mkD_E (Fn : FunE K "__init__" qual st f ps) (S : FnScope N ps (defScope st)) (mk : Mk K (G.cls c) f) (hx : mg x = some (.ref (G.cls c))) (hn : ps.length = n + 1) (hm : N.length = m) (hf : (G.flds c).length = nf)
    (hb : ∀ cdv A outer s H E, Room k (A.deeper (envOfC qual (defScope st) s.heap.objs.size f cdv)) → DSs (cxD P w K mg base N qual st f cdv A outer s H E) G (WD E) (defBody st) F) :
    MkD P w K mg base G (k + 1) c x n (runI c nf n m F) := by
  obtain ⟨fd, Fn, bd⟩ := Fn
  exact mkD_of Fn S bd mk hx hn hm hf hb
/-- the law's own def -/
theorem law_C {c : Addr} {m : Nat} {oc : Value} {od : Option Addr} {kV doc pm : Value} {an : Option Addr} {ct : Value} {osl : Array (Option Value)} (lk : K.lookup f = some ⟨oc, od, .func (PySem.W.fnOf "law" "law" (defArgs st) (defBody st) (defScope st) .none kV doc pm an (.ref c) ct), osl⟩)
    (cd : PySem.W.codeIn K (.ref c) "law" = true) (S : FnScope N ["script"] (defScope st)) (hm : N.length = m) (h2 : 2 ≤ m) (hG : G.K = K) (hF : Wp (F (r0 m)) (fun o => ∃ r, o = .nx r ∨ o = .ct r) (fun _ => False))
    (hb : ∀ A outer s H E, Room k (A.deeper (envOfC "law" (defScope st) s.heap.objs.size f (.ref c))) → ∃ E', PSs (cxD P w K mg base N "law" st f (.ref c) A outer s H E) (defBody st) (tSeq (tFor (iList G.K (tCallS (spRounds G.K) E' (tCons (tVar 0) (tCons (tC (.int 1)) tNil)))) (gName 1) (tS G (WD E) F)) (tRet (tC (.bl true))))) :
    FnOk P w K mg base (L2.CX P w) (k + 1) f (PySem.W.fnOf "law" "law" (defArgs st) (defBody st) (defScope st) .none kV doc pm an (.ref c) ct) ["script"] (spLaw K G.tabs) := by
  refine fn_of lk cd S (fun vs H Q E h => by obtain ⟨a, ns, rfl, _⟩ := h; rfl) fun A outer s H vs Q E hr h => ?_
  obtain ⟨E', hp⟩ := hb A outer s H E hr
  obtain ⟨a, ns, rfl, hS, hT, kq⟩ := h
  exact ⟨_, hp, law_core hm h2 (hG.symm ▸ hS) hT kq hF⟩
def exmB (K : PySem.W.Frag) (xc : Nat → Addr) (ks : List Nat) : Bool := ks.all fun i => ks.all fun j => PySem.W.exmOne K (.ref (xc i)) (.ref (xc j)) == some (i == j)
theorem exm_by {ks : List Nat} (h : exmB K G.xcls ks = true) : ExmOk K G ks := fun i hi j hj => by
  unfold exmB at h
  rw [List.all_eq_true] at h
  have h2 := h i hi
  rw [List.all_eq_true] at h2
  exact beq_iff_eq.mp (h2 j hj)
end
end DL
set_option Elab.async false
set_option linter.all false
set_option maxRecDepth 100000
namespace DL
open PySem L2 PySem.Spec PyProof.Rows
def opE (g : D → D → R D) (f k : LE → R D) : LE → R D := fun r => do let x ← f r; let y ← k r; g x y
def cmpT (g : D → D → R D) (f k : LE → R D) : LE → R Bool := fun r => (do let x ← f r; let y ← k r; g x y) >>= asB
def valT (f : LE → R D) : LE → R Bool := fun r => f r >>= asB
def callE (g : List D → R D) (fs : LE → R (List D)) : LE → R D := fun r => fs r >>= g
def callF (g : List D → R (List D)) (fs : LE → R (List D)) : LE → R (List D) := fun r => fs r >>= g
def methE (c : Nat) (g : List D → R D) (f : LE → R D) (fs : LE → R (List D)) : LE → R D := fun r => do let x ← f r; let x ← isC c x; let ds ← fs r; g (x :: ds)
def meth0E (c : Nat) (g : List D → R D) (f : LE → R D) : LE → R D := fun r => do let x ← f r; let x ← isC c x; g [x]
def fldE (fx : Nat → Option Nat) (f : LE → R D) : LE → R D := fun r => f r >>= fldD fx
def subE (f k : LE → R D) : LE → R D := fun r => do let x ← f r; let y ← k r; subI x y
def negE (f : LE → R D) : LE → R D := fun r => do let x ← f r; negD x
def bmE (T : String) (gg : D → List D → R D) (f : LE → R D) (fs : LE → R (List D)) : LE → R D := fun r => do let x ← f r; let x ← isT T x; let ds ← fs r; gg x ds
def kbmE (d : D) (gg : D → List D → R D) (fs : LE → R (List D)) : LE → R D := fun r => do let ds ← fs r; gg d ds
def toldE (l : List (Nat × List Nat)) (f : LE → R D) : LE → R D := fun r => toldD l (f r)
def lE (f : LE → R (List D)) : LE → R D := fun r => (f r) >>= fun ds => .ok (.lst ds)
def itL (f : LE → R D) : LE → R (List D) := fun r => f r >>= lstD
def itT (f : LE → R D) : LE → R (List D) := fun r => f r >>= tupD
def rng1E (fs : LE → R (List D)) : LE → R (List D) := fun r => fs r >>= rng1
def rng2E (fs : LE → R (List D)) : LE → R (List D) := fun r => fs r >>= rng2
def frzS (i : Nat) (F : LE → R Out) : LE → R Out := fun r => F (frz i r)
def ctS : LE → R Out := fun r => .ok (.ct r)
def par3S (i j l : Nat) (f g h : LE → R D) : LE → R Out := fun r => (f r).onS r fun a => (g r).onS r fun b => (h r).onS r fun c => .ok (.nx (((r.set i (.val a)).set j (.val b)).set l (.val c)))
theorem huD {k : Nat} {A : Around} (hr : Room k A) : A.units + 70 < cLine := by have := hr.un; omega
theorem huD64 {k : Nat} {A : Around} (hr : Room k A) : A.units + 64 < cLine := by have := hr.un; omega
theorem takes0D {X : Cx} : Takes X W0 := L2.takes0
end DL
set_option Elab.async false
set_option linter.all false
set_option maxRecDepth 100000
namespace DL
open PySem L2 PySem.Spec PyProof.Rows
mutual
def isD (K : PySem.W.Frag) : D → Value → Bool
  | .non, u => match u with
    | .none => true
    | _ => false
  | .bl b, u => match u with
    | .bool c => b == c
    | _ => false
  | .int i, u => match u with
    | .int j _ => i == j
    | _ => false
  | .str s, u => match u with
    | .str z _ => z == ⟨s.toArray⟩
    | _ => false
  | .tup ds, u => match u with
    | .ref a => match K.lookup a with
      | some ⟨.type T, _, .seq its _, _⟩ => T == "tuple" && decide (its.size ≤ 16777216) && isDs K ds its.toList
      | _ => false
    | _ => false
  | _, _ => false
def isDs (K : PySem.W.Frag) : List D → List Value → Bool
  | [], us => match us with
    | [] => true
    | _ => false
  | d :: ds, us => match us with
    | u :: us => isD K d u && isDs K ds us
    | [] => false
end
section
variable {G : Gm} {K : PySem.W.Frag}
mutual
theorem isD_rep (hG : G.K = K) : ∀ (d : D) (u : Value), isD K d u = true → ∃ v, RelV v u ∧ ∀ dl S, Rep G dl S d v
  | .non, u, h => by
    unfold isD at h
    split at h
    · exact ⟨.non, rfl, fun _ _ => Rep.non_⟩
    · cases h
  | .bl b, u, h => by
    unfold isD at h
    split at h
    · rw [beq_iff_eq] at h; subst h; exact ⟨.bl _, rfl, fun _ _ => Rep.bl_⟩
    · cases h
  | .int i, u, h => by
    unfold isD at h
    split at h
    · rw [beq_iff_eq] at h; subst h; exact ⟨.int _, ⟨_, rfl⟩, fun _ _ => Rep.int_⟩
    · cases h
  | .str s, u, h => by
    unfold isD at h
    split at h
    · rw [beq_iff_eq] at h; subst h; exact ⟨.str _, ⟨_, rfl⟩, fun _ _ => Rep.str_⟩
    · cases h
  | .tup ds, u, h => by
    unfold isD at h
    split at h
    · rename_i a
      split at h
      · rename_i T dd its n sl hk
        rw [Bool.and_eq_true, Bool.and_eq_true, beq_iff_eq, decide_eq_true_eq] at h
        obtain ⟨⟨rfl, hz⟩, h⟩ := h
        obtain ⟨vs, r, q⟩ := isDs_rep hG ds _ h
        refine ⟨.ref a, rfl, fun dl S => ?_⟩
        unfold Rep
        exact ⟨a, vs, rfl, .inr ⟨_, its, n, hG ▸ hk, rfl, rfl, by rw [sizeLine_eq]; exact hz, r⟩, q dl S⟩
      · cases h
    · cases h
  | .lst _, _, h => by unfold isD at h; cases h
  | .dic _, _, h => by unfold isD at h; cases h
  | .cdic _, _, h => by unfold isD at h; cases h
  | .ins _ _, _, h => by unfold isD at h; cases h
  | .dice, _, h => by unfold isD at h; cases h
  | .fn _, _, h => by unfold isD at h; cases h
theorem isDs_rep (hG : G.K = K) : ∀ (ds : List D) (us : List Value), isDs K ds us = true → ∃ vs, Vals vs us ∧ ∀ dl S, RepL G dl S ds vs
  | [], us, h => by
    unfold isDs at h
    split at h
    · exact ⟨[], .nil, fun _ _ => RepL.nil⟩
    · cases h
  | d :: ds, us, h => by
    unfold isDs at h
    split at h
    · rename_i u us
      rw [Bool.and_eq_true] at h
      obtain ⟨v, r1, q1⟩ := isD_rep hG d u h.1
      obtain ⟨vs, r2, q2⟩ := isDs_rep hG ds us h.2
      exact ⟨v :: vs, .cons r1 r2, fun dl S => RepL.cons (q1 dl S) (q2 dl S)⟩
    · cases h
end
/-- a name of the top, written data -/
structure GlD (G : Gm) (mg : Str → Option Value) (x : Str) (d : D) : Prop where
  ex : ∃ (u : Value) (v : V), mg x = some u ∧ RelV v u ∧ ∀ dl S, Rep G dl S d v
theorem glD_of {mg : Str → Option Value} {x : Str} {d : D} {u : Value} (hG : G.K = K) (hm : mg x = some u) (h : isD K d u = true) : GlD G mg x d := by
  obtain ⟨v, r, q⟩ := isD_rep hG d u h
  exact ⟨u, v, hm, r, q⟩
end
section
variable {X : Cx} {G : Gm} {W : WX}
theorem de_gl {x : Str} {pos : Pos} {d : D} (h : GlD G X.mg x d) (hg : Gl X x := by rfl) (hd : (x == ("__debug__" : Str)) = false := by decide) : DE X G W (.Name x pos) (cst d) := by
  obtain ⟨u, v, hm, rv, rp⟩ := h
  exact de_glob hm rv rp hg hd
/-- a written tuple whose methods are called -/
structure KtD (G : Gm) (mg : Str → Option Value) (x : Str) (d : D) : Prop where
  ex : ∃ p : Addr, mg x = some (.ref p) ∧ (∃ o, G.K.lookup p = some o ∧ o.cls = .type "tuple" ∧ o.dict = none) ∧ ∀ dl S, Rep G dl S d (.ref p)
theorem ktD_of {K : PySem.W.Frag} {mg : Str → Option Value} {x : Str} {d : D} {p : Addr} {its : Array Value} {n : Nat} {sl : Array (Option Value)} (hG : G.K = K) (hm : mg x = some (.ref p)) (l : K.lookup p = some ⟨.type "tuple", none, .seq its n, sl⟩) (h : isD K d (.ref p) = true) : KtD G mg x d := by
  obtain ⟨v, r, q⟩ := isD_rep hG d _ h
  have : v = .ref p := by cases v <;> simp [L2.RelV] at r <;> rw [r]
  subst this
  exact ⟨p, hm, ⟨_, hG ▸ l, rfl, rfl⟩, q⟩
theorem de_ktm {gg : D → List D → R D} {x name : Str} {d : D} {e : Expr} {es : List Expr} {fs : LE → R (List D)} {pos apos cpos : Pos} (h : KtD G X.mg x d) (hG : G.K = X.K) (B : BmD X G "tuple" name gg) (ha : DAp X G W (e :: es) fs) (hg : Gl X x := by rfl) (hd : (x == ("__debug__" : Str)) = false := by decide)
    (hbase : attributeBase (.Name x pos) name X.env (eval (.Name x pos) X.env) = eval (.Name x pos) X.env := by rfl)
    (hfew : ((backTo cpos (starEach (e :: es) X.env)).all (fun x => !x.1) && (backToKw cpos (keywordEach [] X.env)).all (fun x => x.1.isSome)
      && decide ((e :: es).length + ([] : List Keyword).length + (if ([] : List Keyword).isEmpty then 0 else 1) < 30)) = true := by rfl)
    (hline : (apos.endLine == cpos.line) = true := by rfl) (hs : starEach (e :: es) X.env = (false, eval e X.env) :: starEach es X.env := by rfl) (hplain : (backTo cpos (starEach es X.env)).any (·.1) = false := by rfl) :
    DE X G W (.Call (.Attribute (.Name x pos) name apos) (e :: es) [] cpos) (fun r => do let ds ← fs r; gg d ds) := by
  obtain ⟨p, hm, kt, rp⟩ := h
  exact de_kbm B hm (by unfold KTup; rw [← hG]; exact kt) rp ha hg hd hbase hfew hline hs hplain
end
end DL
set_option Elab.async false
set_option linter.all false
set_option maxRecDepth 100000
namespace DL
theorem var_eq (i : Nat) (r : LE) : var i r = match r[i]? with
  | some (.val d) => .ok d
  | _ => .stuck := rfl
@[simp] theorem cst_eq (d : D) (r : LE) : cst d r = .ok d := rfl
@[simp] theorem opE_eq (g : D → D → R D) (f k : LE → R D) (r : LE) : opE g f k r = f r >>= fun x => k r >>= fun y => g x y := rfl
@[simp] theorem cmpT_eq (g : D → D → R D) (f k : LE → R D) (r : LE) : cmpT g f k r = (f r >>= fun x => k r >>= fun y => g x y) >>= asB := rfl
@[simp] theorem valT_eq (f : LE → R D) (r : LE) : valT f r = f r >>= asB := rfl
@[simp] theorem callE_eq (g : List D → R D) (fs : LE → R (List D)) (r : LE) : callE g fs r = fs r >>= g := rfl
@[simp] theorem methE_eq (c : Nat) (g : List D → R D) (f : LE → R D) (fs : LE → R (List D)) (r : LE) : methE c g f fs r = f r >>= fun x => isC c x >>= fun x => fs r >>= fun ds => g (x :: ds) := rfl
@[simp] theorem meth0E_eq (c : Nat) (g : List D → R D) (f : LE → R D) (r : LE) : meth0E c g f r = f r >>= fun x => isC c x >>= fun x => g [x] := rfl
@[simp] theorem fldE_eq (fx : Nat → Option Nat) (f : LE → R D) (r : LE) : fldE fx f r = f r >>= fldD fx := rfl
@[simp] theorem subE_eq (f k : LE → R D) (r : LE) : subE f k r = f r >>= fun x => k r >>= fun y => subI x y := rfl
@[simp] theorem negE_eq (f : LE → R D) (r : LE) : negE f r = f r >>= negD := rfl
@[simp] theorem negD_int (i : Int) : negD (.int i) = .ok (.int (-i)) := rfl
@[simp] theorem bmE_eq (T : String) (gg : D → List D → R D) (f : LE → R D) (fs : LE → R (List D)) (r : LE) : bmE T gg f fs r = f r >>= fun x => isT T x >>= fun x => fs r >>= fun ds => gg x ds := rfl
@[simp] theorem kbmE_eq (d : D) (gg : D → List D → R D) (fs : LE → R (List D)) (r : LE) : kbmE d gg fs r = fs r >>= fun ds => gg d ds := rfl
@[simp] theorem toldE_eq (l : List (Nat × List Nat)) (f : LE → R D) (r : LE) : toldE l f r = toldD l (f r) := rfl
@[simp] theorem lE_eq (f : LE → R (List D)) (r : LE) : lE f r = f r >>= fun ds => .ok (.lst ds) := rfl
@[simp] theorem itL_eq (f : LE → R D) (r : LE) : itL f r = f r >>= lstD := rfl
@[simp] theorem itT_eq (f : LE → R D) (r : LE) : itT f r = f r >>= tupD := rfl
@[simp] theorem lstD_eq (ds : List D) : lstD (.lst ds) = .ok ds := rfl
@[simp] theorem tupD_eq (ds : List D) : tupD (.tup ds) = .ok ds := rfl
@[simp] theorem rng1E_eq (fs : LE → R (List D)) (r : LE) : rng1E fs r = fs r >>= rng1 := rfl
@[simp] theorem frzS_eq (i : Nat) (F : LE → R Out) (r : LE) : frzS i F r = F (frz i r) := rfl
@[simp] theorem anil_eq (r : LE) : anil r = .ok [] := rfl
@[simp] theorem acons_eq (f : LE → R D) (fs : LE → R (List D)) (r : LE) : acons f fs r = f r >>= fun x => fs r >>= fun xs => .ok (x :: xs) := rfl
@[simp] theorem tupE_eq (fs : LE → R (List D)) (r : LE) : tupE fs r = fs r >>= fun ds => if ds.length ≤ 16777216 then .ok (.tup ds) else .stuck := rfl
@[simp] theorem lstE_eq (fs : LE → R (List D)) (r : LE) : lstE fs r = fs r >>= fun ds => if ds.length ≤ 16777216 then .ok ds else .stuck := rfl
@[simp] theorem iteE_eq (c : LE → R Bool) (f g : LE → R D) (r : LE) : iteE c f g r = c r >>= fun b => if b = true then f r else g r := rfl
@[simp] theorem andT_eq (f g : LE → R Bool) (r : LE) : andT f g r = f r >>= fun b => if b = true then g r else .ok false := rfl
@[simp] theorem orT_eq (f g : LE → R Bool) (r : LE) : orT f g r = f r >>= fun b => if b = true then .ok true else g r := rfl
@[simp] theorem notT_eq (f : LE → R Bool) (r : LE) : notT f r = f r >>= fun b => .ok (!b) := rfl
@[simp] theorem asB_bl (b : Bool) : asB (.bl b) = .ok b := rfl
def andK (x : D) (k : R D) : R D := match x with
  | .bl true => k
  | .bl false => .ok (.bl false)
  | _ => .stuck
def orK (x : D) (k : R D) : R D := match x with
  | .bl true => .ok (.bl true)
  | .bl false => k
  | _ => .stuck
@[simp] theorem andK_bl (b : Bool) (k : R D) : andK (.bl b) k = if b = true then k else .ok (.bl false) := by cases b <;> rfl
@[simp] theorem orK_bl (b : Bool) (k : R D) : orK (.bl b) k = if b = true then .ok (.bl true) else k := by cases b <;> rfl
@[simp] theorem andV_eq (f g : LE → R D) (r : LE) : andV f g r = f r >>= fun x => andK x (g r) := by
  unfold andV
  congr 1
@[simp] theorem orV_eq (f g : LE → R D) (r : LE) : orV f g r = f r >>= fun x => orK x (g r) := by
  unfold orV
  congr 1
@[simp] theorem notV_bl (f : LE → R D) (r : LE) (b : Bool) (h : f r = .ok (.bl b)) : notV f r = .ok (.bl (!b)) := by
  unfold notV
  rw [h]
  rfl
@[simp] theorem seqS_eq (F K : LE → R Out) (r : LE) : seqS F K r = F r >>= fun o => match o with
  | .nx r' => K r'
  | o => .ok o := rfl
@[simp] theorem skipS_eq (r : LE) : skipS r = .ok (.nx r) := rfl
@[simp] theorem retS_eq (f : LE → R D) (r : LE) : retS f r = (f r).onS r fun d => .ok (.rt d) := rfl
@[simp] theorem ifS_eq (c : LE → R Bool) (F K : LE → R Out) (r : LE) : ifS c F K r = (c r).onS r fun b => if b = true then F r else K r := by
  unfold ifS
  congr 1
@[simp] theorem valK_eq (f : LE → R D) (r : LE) : valK f r = f r >>= fun d => .ok (.val d) := rfl
@[simp] theorem ownK_eq (f : LE → R (List D)) (r : LE) : ownK f r = f r >>= fun d => .ok (.own (.lst d)) := rfl
@[simp] theorem okK_val (d : D) : okK (.val d) = .ok (.val d) := rfl
@[simp] theorem okK_own (d : D) : okK (.own d) = .ok (.own d) := rfl
@[simp] theorem setK_eq (i : Nat) (f : LE → R Cell) (r : LE) : setK i f r = (f r >>= okK).onS r fun c => .ok (.nx (r.set i c)) := rfl
@[simp] theorem parK_eq (i j : Nat) (f g : LE → R Cell) (r : LE) : parK i j f g r = (f r >>= okK).onS r fun c => (g r >>= okK).onS r fun c' => .ok (.nx ((r.set i c).set j c')) := rfl
@[simp] theorem par3S_eq (i j l : Nat) (f g h : LE → R D) (r : LE) : par3S i j l f g h r = (f r).onS r fun a => (g r).onS r fun b => (h r).onS r fun c => .ok (.nx (((r.set i (.val a)).set j (.val b)).set l (.val c))) := rfl
@[simp] theorem errS_eq (e : Exc) (r : LE) : errS e r = .ok (.ex e r) := rfl
@[simp] theorem forS_eq (fi : LE → R (List D)) (gd : D → LE → Option LE) (body : LE → R Out) (r : LE) : forS fi gd body r = (fi r).onS r fun ds => loopS gd body ds r := rfl
@[simp] theorem ite_onS {α : Type} (c : Prop) [Decidable c] (a b : R α) (r : LE) (k : α → R Out) : (if c then a else b).onS r k = if c then a.onS r k else b.onS r k := by split <;> rfl
@[simp] theorem ite_bind {α β : Type} (c : Prop) [Decidable c] (a b : R α) (k : α → R β) : (if c then a else b) >>= k = if c then a >>= k else b >>= k := by split <;> rfl
@[simp] theorem ite_calm {α : Type} (c : Prop) [Decidable c] (a b : R α) : (if c then a else b).calm = if c then a.calm else b.calm := by split <;> rfl
@[simp] theorem calm_err {α : Type} (e : Exc) : (R.err e : R α).calm = .stuck := rfl
@[simp] theorem calm_stuck {α : Type} : (R.stuck : R α).calm = .stuck := rfl
/-- what a body's end is to the caller -/
def fin : Out → R D
  | .nx _ => .ok .non
  | .rt d => .ok d
  | .ex e _ => .err e
  | _ => .stuck
@[simp] theorem fin_nx (r : LE) : fin (.nx r) = .ok .non := rfl
@[simp] theorem fin_rt (d : D) : fin (.rt d) = .ok d := rfl
@[simp] theorem fin_ex (e : Exc) (r : LE) : fin (.ex e r) = .err e := rfl
theorem runF_eq (n m : Nat) (F : LE → R Out) (ds : List D) (h : ds.length = n) : runF n m F ds = (F (ds.map Cell.val ++ List.replicate (m - n) Cell.un)).calm >>= fin := by
  unfold runF
  rw [if_pos h]
  rfl
@[simp] theorem isC_eq (c : Nat) (fs : List D) : isC c (.ins c fs) = .ok (.ins c fs) := by simp [isC]
@[simp] theorem addD_int (i j : Int) : addD (.int i) (.int j) = .ok (.int (i + j)) := rfl
@[simp] theorem subD_int (i j : Int) : subD (.int i) (.int j) = .ok (.int (i - j)) := rfl
@[simp] theorem ltD_int (i j : Int) : ltD (.int i) (.int j) = .ok (.bl (decide (i < j))) := rfl
@[simp] theorem leD_int (i j : Int) : leD (.int i) (.int j) = .ok (.bl (decide (i ≤ j))) := rfl
@[simp] theorem gtD_int (i j : Int) : gtD (.int i) (.int j) = .ok (.bl (decide (j < i))) := rfl
@[simp] theorem geD_int (i j : Int) : geD (.int i) (.int j) = .ok (.bl (decide (j ≤ i))) := rfl
@[simp] theorem eqD_int (i j : Int) : eqD (.int i) (.int j) = .ok (.bl (i == j)) := by simp [eqD, D.sc, D.eqb]
@[simp] theorem neD_int (i j : Int) : neD (.int i) (.int j) = .ok (.bl (!(i == j))) := by simp [neD, D.sc, D.eqb]
@[simp] theorem eqD_bl (i j : Bool) : eqD (.bl i) (.bl j) = .ok (.bl (i == j)) := by simp [eqD, D.sc, D.eqb]
@[simp] theorem neD_bl (i j : Bool) : neD (.bl i) (.bl j) = .ok (.bl (!(i == j))) := by simp [neD, D.sc, D.eqb]
@[simp] theorem eqD_str (i j : List Nat) : eqD (.str i) (.str j) = .ok (.bl (i == j)) := by simp [eqD, D.sc, D.eqb]
@[simp] theorem neD_str (i j : List Nat) : neD (.str i) (.str j) = .ok (.bl (!(i == j))) := by simp [neD, D.sc, D.eqb]
@[simp] theorem eqD_tup2 (a b c d : Int) : eqD (.tup [.int a, .int b]) (.tup [.int c, .int d]) = .ok (.bl (a == c && b == d)) := by simp [eqD, D.sc, D.sh, D.shs, D.eqb, D.eqbs]
@[simp] theorem neD_tup2 (a b c d : Int) : neD (.tup [.int a, .int b]) (.tup [.int c, .int d]) = .ok (.bl (!(a == c && b == d))) := by simp [neD, D.sc, D.sh, D.shs, D.eqb, D.eqbs]
/-- a text that may be laid -/
def okS (s : List Nat) : Bool := s.all (· < 0x110000)
@[simp] theorem compF_eq (fi : LE → R (List D)) (gd : D → LE → Option LE) (tt : LE → R Bool) (te : LE → R D) (vs : List Nat) (r : LE) : compF fi gd tt te vs r = fi r >>= fun ds => if ds.length ≤ 16777216 then loopC gd tt te (wipeL r vs) ds else .stuck := rfl
@[simp] theorem yesT_eq (r : LE) : yesT r = .ok true := rfl
@[simp] theorem loopC_nil (gd : D → LE → Option LE) (tt : LE → R Bool) (te : LE → R D) (r : LE) : loopC gd tt te r [] = .ok [] := rfl
theorem loopC_cons (gd : D → LE → Option LE) (tt : LE → R Bool) (te : LE → R D) (r : LE) (d : D) (ds : List D) : loopC gd tt te r (d :: ds) = match gd d r with
    | none => .stuck
    | some r' => (tt r').calm >>= fun b => if b = true then (te r').calm >>= fun y => loopC gd tt te r ds >>= fun ys => .ok (y :: ys) else loopC gd tt te r ds := by
  rw [loopC.eq_2]
  try (cases gd d r <;> rfl)
@[simp] theorem gN_eq (i : Nat) (d : D) (r : LE) : gN i d r = some (r.set i (.val d)) := rfl
@[simp] theorem subl2_0 (a b : D) : subI (.lst [a, b]) (.int 0) = .ok a := rfl
@[simp] theorem subl2_1 (a b : D) : subI (.lst [a, b]) (.int 1) = .ok b := rfl
@[simp] theorem sub2_0 (a b : D) : subI (.tup [a, b]) (.int 0) = .ok a := rfl
@[simp] theorem sub2_1 (a b : D) : subI (.tup [a, b]) (.int 1) = .ok b := rfl
theorem mul_ok {i j : Int} (h : -1000000 ≤ i) (h2 : i ≤ 1000000) : mulD (.int i) (.int j) = .ok (.int (i * j)) := by
  show (if _ then _ else _) = _
  rw [if_pos (.inl ⟨by omega, by omega⟩)]
@[simp] theorem Wp_ok {α : Type} (a : α) (Q : α → Prop) (E : Exc → Prop) : Wp (.ok a) Q E = Q a := rfl
@[simp] theorem Wp_err {α : Type} (e : Exc) (Q : α → Prop) (E : Exc → Prop) : Wp (.err e : R α) Q E = E e := rfl
@[simp] theorem Wp_stuck {α : Type} (Q : α → Prop) (E : Exc → Prop) : Wp (.stuck : R α) Q E = False := rfl
@[simp] theorem Wp_roll {α : Type} (m : Nat) (k : Nat → R α) (Q : α → Prop) (E : Exc → Prop) : Wp (.roll m k) Q E = ∀ i, i < m → Wp (k i) Q E := rfl
end DL
set_option Elab.async false
set_option linter.all false
set_option maxRecDepth 100000
namespace DL
open PySem L2 PySem.Spec PyProof.Rows
def whileS : Nat → (LE → R Bool) → (LE → R Out) → LE → R Out
  | 0, _, _, _ => .stuck
  | n + 1, c, F, r => (c r).onS r fun b => if b then (do
      match ← F r with
      | .nx r2 => whileS n c F r2
      | .ct r2 => whileS n c F r2
      | .bk r2 => .ok (.nx r2)
      | .rt d => .ok (.rt d)
      | .ex e r2 => .ok (.ex e r2)) else .ok (.nx r)
section
variable {X : Cx} {G : Gm} {W : WX} {c : Expr} {h : LE → R Bool} {F : LE → R Out} {body : List Stmt} {pos : Pos}
theorem ds_while (n : Nat) (hp : PassesOwn (model X.prog X.w) X.A X.env X.xe) (hc : DT X G W c h) (hb : DSs X G W body F) : DS X G W (.While c body [] pos) (whileS n h F) := PS_imp (ps_while hp hc hb) fun De sg H ⟨dl, Z, O, r, A, q⟩ => by
  refine ⟨fun m sg' H' => ∃ Z' O' r', At G dl Z' O' r' sg' H' ∧ Stp dl Z O H Z' O' H' ∧ Wp (whileS m h F r') (SPost G W De dl Z O H) (fun _ => False), ⟨n, Z, O, r, A, Stp.refl, q⟩, ?_⟩
  rintro m sg' H' ⟨Z', O', r', A', s', hw⟩
  cases m with
  | zero => exact hw.elim
  | succ m =>
    unfold whileS at hw
    refine ⟨dl, Z', O', r', A', (onS_wp hw).mono (fun b hb H1 g1 k1 => ?_) fun e he => spost_ex A' (SPost.trans A s' he)⟩
    have A1 := A'.grow g1 k1
    have s1 : Stp dl Z O H Z' O' H1 := Stp.trans A s' (Stp.of_grow g1 k1)
    cases b with
    | false =>
      show if false = true then _ else De.nx sg' H1
      rw [if_neg (by decide)]
      exact hb Z' O' sg' H1 s1 A1
    | true =>
      show if true = true then _ else De.nx sg' H1
      rw [if_pos rfl]
      refine ⟨fun sg2 H2 => ∃ Z' O' r', At G dl Z' O' r' sg2 H2 ∧ Stp dl Z O H Z' O' H2 ∧ Wp (whileS m h F r') (SPost G W De dl Z O H) (fun _ => False), fun sg2 H2 h2 => ⟨m, Nat.lt_succ_self m, h2⟩, ?_⟩
      rw [if_pos rfl] at hb
      refine ⟨dl, Z', O', r', A1, hb.bind.thn fun o ho => ?_⟩
      cases o with
      | nx r3 => exact fun Z4 O4 sg4 H4 s4 A4 => ⟨Z4, O4, r3, A4, Stp.trans A s1 s4, ho⟩
      | ct r3 => exact fun Z4 O4 sg4 H4 s4 A4 => ⟨Z4, O4, r3, A4, Stp.trans A s1 s4, ho⟩
      | bk r3 => exact fun Z4 O4 sg4 H4 s4 A4 => ho Z4 O4 sg4 H4 (Stp.trans A s1 s4) A4
      | rt d => exact SPost.trans A s1 ho
      | ex e r3 => exact SPost.trans A s1 ho
end
def tryS (ks : List Nat) (F : LE → R Out) (l : List (Nat × (LE → R Out))) : LE → R Out := fun r => do
  match ← F r with
  | .ex e r' => if ks.contains e.cls then (match l.lookup e.cls with
    | some K => K r'
    | none => .ok (.ex e r')) else .stuck
  | o => .ok o
section
variable {X : Cx} {G : Gm} {W : WX} {F : LE → R Out} {body : List Stmt} {h₀ : ExceptHandler} {hds : List ExceptHandler} {pos : Pos}
def hdD (G : Gm) (W : WX) (l : List (Nat × (LE → R Out))) : List (Value × (Addr → Value → Option Addr → TS)) := l.map fun p => (.ref (G.xcls p.1), fun _ _ _ => tS G W p.2)
theorem wMany_of {De : Ends} {dl : Addr} {Z' : List Addr} {O' : List (Nat × Addr)} {H' : Hp} {r' : LE} {sg' : L2.St} {e : Exc} {dx : Option Addr} (ks : List Nat) (hx : ExmOk X.K G ks) (hi : e.cls ∈ ks) (A : At G dl Z' O' r' sg' H') : ∀ {l : List (Nat × (LE → R Out))}, (∀ j ∈ l.map (·.1), j ∈ ks) →
    Wp (match l.lookup e.cls with
      | some K => K r'
      | none => .ok (.ex e r')) (SPost G W De dl Z' O' H') (fun _ => False) → (l.lookup e.cls = none → W (.ref (G.xcls e.cls)) dx sg' H') → wMany X.K W De (hdD G W l) (.ref (G.xcls e.cls)) dx sg' H'
  | [], _, q, h0 => h0 rfl
  | (j, K) :: l, hl, q, h0 => by
    refine ⟨e.cls == j, hx _ hi j (hl j (by simp)), fun hb a ha => ?_, fun hb => ?_⟩
    · rw [List.lookup_cons, hb] at q
      exact ⟨dl, Z', O', r', A, q⟩
    · rw [List.lookup_cons, hb] at q
      rw [List.lookup_cons, hb] at h0
      exact wMany_of ks hx hi A (fun j hj => hl j (List.mem_cons_of_mem _ hj)) q h0
theorem ds_try (ks : List Nat) {l : List (Nat × (LE → R Out))} (hx : ExmOk X.K G ks) (hl : ∀ j ∈ l.map (·.1), j ∈ ks) (hs : X.stack = X.env :: X.outer) (hf : X.env.frame = some X.env.locals) (tk : Takes X W)
    (hb : ∀ (W' : WX) (pn : List (Addr × Obj)) (xe : Value → Shared → Prop), Takes (X.tr pn xe) W' → PassesOwn (model X.prog X.w) X.A X.env xe → DSs (X.tr pn xe) G W' body F)
    (hh : HdsOk X (h₀ :: hds) (hdD G W l)) : DS X G W (.Try body (h₀ :: hds) [] [] pos) (tryS ks F l) := PS_imp (ps_try_many hs hf tk (tb := fun W' => tS G W' F) hb hh) fun De sg H ⟨dl, Z, O, r, A, q⟩ => by
  refine ⟨dl, Z, O, r, A, q.bind.thn fun o ho => ?_⟩
  cases o with
  | nx r' => exact ho
  | bk r' => exact ho
  | ct r' => exact ho
  | rt d => exact ho
  | ex e r' =>
    intro Z' O' sg' H' cls dx s' A' xr
    have ho2 : Wp (if ks.contains e.cls then (match l.lookup e.cls with
      | some K => K r'
      | none => .ok (.ex e r')) else .stuck) (SPost G W De dl Z O H) (fun _ => False) := ho
    split at ho2
    case isFalse => exact ho2.elim
    rename_i hk
    obtain ⟨rfl, xr2⟩ := id xr
    refine wMany_of ks hx (by simpa using hk) A' hl (ho2.thn fun o z => SPost.trans A s' z) fun hn => ?_
    rw [hn] at ho2
    exact ho2 Z' O' sg' H' _ dx s' A' xr
theorem hds_nil : HdsOk X [] (hdD G W []) := .nil
theorem hds_cons {i : Nat} {C : Addr} {x : Str} {b₀ : Stmt} {suite : List Stmt} {np pos' : Pos} {l : List (Nat × (LE → R Out))} {K : LE → R Out} (hC : G.xcls i = C) (hm : X.mg x = some (.ref C)) (hsu : ∀ (a : Addr) (pn : List (Addr × Obj)), DSs (X.suite a pn) G W (b₀ :: suite) K) (r : HdsOk X hds (hdD G W l))
    (hg : Gl X x := by rfl) (hdb : (x == ("__debug__" : Str)) = false := by decide) : HdsOk X (.ExceptHandler (some (.Name x np)) none (b₀ :: suite) pos' :: hds) (hdD G W ((i, K) :: l)) := by
  subst hC
  exact .cons ⟨hg, hdb, .inl hm⟩ (fun a oe cls d pn _ _ => hsu a _) r
end
def stodS (i : Nat) (f k : LE → R D) : LE → R Out := fun r => match r[i]? with
  | some (.own (.dic kvs)) => (f r).onS r fun d => (k r).onS r fun y => if y.key1 = true ∧ kvs.length < 16777216 then .ok (.nx (r.set i (.own (.dic (putD kvs y d))))) else .stuck
  | _ => .stuck
def nodic : LE → R Cell := fun _ => .ok (.own (.dic []))
section
variable {X : Cx} {G : Gm} {W : WX} {ex ek : Expr} {f k : LE → R D} {pos apos p p1 p2 : Pos} {x m : Str}
theorem dk_nodic : DK X G W (.Dict [] [] pos) nodic := PE_imp pe_dnewK fun sg H Q ⟨dl, Z, O, r, A, q⟩ p hp =>
  q p (.dK []) H (.refl _ _) A.gl hp ⟨[], rfl, by unfold RepK; rfl⟩ fun i hi => ⟨rfl, hi⟩
theorem ds_stored (i : Nat) (hu : X.A.units + 1 < cLine) (ha : DE X G W ex f) (hk : DE X G W ek k) (hN : X.N[i]? = some x := by rfl) (hv : Vis X.env.scope x := by first | exact Or.inl rfl | exact Or.inr (Or.inl rfl) | exact Or.inr (Or.inr rfl)) (hd : (x == ("__debug__" : Str)) = false := by decide)
    (hcd : (x == ("__classdict__" : Str)) = false := by decide) (hs : swapsWith ex (some (.Subscript (.Name x p1) ek p2)) pos.line X.env = pure false := by rfl) :
    DS X G W (.Assign [.Subscript (.Name x p1) ek p2] ex pos) (stodS i f k) := by
  refine PS_imp (ps_dput hu (pe_var hN hv hd hcd) hk ha hs) fun De sg H ⟨dl, Z, O, r, A, q⟩ => ?_
  unfold stodS at q
  split at q
  case h_2 => exact q.elim
  rename_i kvs hr
  obtain ⟨a, ha', hs', ⟨kv, e, rk⟩, ko⟩ := A.slot i _ hr
  obtain ⟨haz, had⟩ := A.own _ ha'
  refine ⟨dl, Z, O, r, A, (onS_wp q).mono (fun d hd' v H1 g1 k1 rp => ?_) fun e he => spost_ex A he⟩
  have A1 := A.grow g1 k1
  refine ⟨.ref a, hs', dl, Z, O, r, A1, (onS_wp hd').mono (fun y hy u H2 g2 k2 ru => ?_) fun e he => epost g1 (spost_ex A he)⟩
  have A2 := A1.grow g2 k2
  have e2 : H2 a = some (.dK kv) := g2 a _ (g1 a _ e had (fun ps z => by cases z)) had (fun ps z => by cases z)
  split at hy
  case isFalse => exact hy.elim
  rename_i hc
  obtain ⟨kx, hkx⟩ := key1_key hc.1
  have eu := key_kV hkx (.of ru)
  subst eu
  refine ⟨a, _, rfl, DPut.k e2 (by rw [sizeLine_eq, rk.length]; exact hc.2), ?_⟩
  refine hy Z O sg _ (Stp.trans A (Stp.of_grow (g1.trans g2) k2) (Stp.write ha' fun ps z => by cases z)) (A2.write hr ha' hs' ⟨_, rfl, RepK.put (rk.mono ((g1.trans g2).cut A.dz)) hkx (rp.mono (g2.cut A.dz))⟩ rfl ko)
end
end DL
set_option Elab.async false
set_option linter.all false
set_option maxRecDepth 100000
namespace DL
open PySem L2 PySem.Spec PyProof.Rows
/-- i = j.pop() -/
def popS (i j : Nat) : LE → R Out := fun r => match r[j]? with
  | some (.own (.lst ds)) => (match ds.getLast? with
    | some d => .ok (.nx ((r.set j (.own (.lst ds.dropLast))).set i (.val d)))
    | none => .stuck)
  | _ => .stuck
theorem RepL.dropLast {G : Gm} {dl : Addr} {S : Hp} {ds : List D} {vs : List V} (h : RepL G dl S ds vs) : RepL G dl S ds.dropLast vs.dropLast := by
  rw [List.dropLast_eq_take, List.dropLast_eq_take, h.length]
  exact RepL.take _ h
def par3oS (i j l : Nat) (f : LE → R Cell) (g h : LE → R D) : LE → R Out := fun r => (f r >>= okK).onS r fun a => (g r).onS r fun b => (h r).onS r fun c => .ok (.nx (((r.set i a).set j (.val b)).set l (.val c)))
section
variable {X : Cx} {G : Gm} {W : WX} {a b c : Expr} {f g h : LE → R D} {fk : LE → R Cell} {pos apos p p1 p2 : Pos} {x y z : Str}
theorem ds_setpop (i j : Nat) (hij : i ≠ j) (hN : X.N.Nodup) (hi : X.N[i]? = some y := by rfl) (hj : X.N[j]? = some x := by rfl) (hv : Vis X.env.scope x := by first | exact Or.inl rfl | exact Or.inr (Or.inl rfl) | exact Or.inr (Or.inr rfl)) (hd : (x == ("__debug__" : Str)) = false := by decide)
    (hcd : (x == ("__classdict__" : Str)) = false := by decide) (hy : Loc X.env.scope y := by first | exact Or.inl rfl | exact Or.inr rfl)
    (hbase : attributeBase (.Name x p1) "pop" X.env (eval (.Name x p1) X.env) = eval (.Name x p1) X.env := by rfl) (hline : (apos.endLine == p.line) = true := by rfl)
    (hs : swapsWith (.Call (.Attribute (.Name x p1) "pop" apos) [] [] p) (some (.Name y p2)) pos.line X.env = pure false := by rfl) (hf : X.fn y = true ∨ X.env.scope.names.lookup y = some .local := by first | exact .inl rfl | exact .inr rfl) :
    DS X G W (.Assign [.Name y p2] (.Call (.Attribute (.Name x p1) "pop" apos) [] [] p) pos) (popS i j) := by
  refine PS_imp (ps_set hN hi hy (pe_bm0 PySem.F.plainAttrs_list PySem.F.slot_list_pop PySem.F.type_list_pop mt_pop (pe_var hj hv hd hcd) hbase hline) hs hf) fun De sg H ⟨dl, Z, O, r, A, q⟩ => ?_
  unfold popS at q
  split at q
  case h_2 => exact q.elim
  rename_i ds hr
  obtain ⟨a, ha', hs', ⟨vs, e, rl⟩, ko⟩ := A.slot j _ hr
  split at q
  case h_2 => exact q.elim
  rename_i d hl
  rw [List.getLast?_eq_getElem?] at hl
  obtain ⟨v, hv1, rp⟩ := RepL.getD ds vs _ d rl hl
  have nt : ∀ ps, HO.lst vs.dropLast ≠ .tbl ps := fun ps z => by cases z
  refine ⟨.ref a, hs', .inl ⟨rfl, vs, SqL.of e⟩, a, vs, v, rfl, rfl, e, by rw [rl.length]; exact hv1, ?_⟩
  have B := A.write hr ha' hs' (d' := .lst ds.dropLast) (o := .lst vs.dropLast) ⟨_, rfl, rl.dropLast⟩ rfl ko
  exact q Z O _ _ (Stp.write ha' nt) (B.set_val i (rp.mono (Stp.cut A (Stp.write ha' nt))))
/-- a display of a dict, one's own -/
def dispK (fs : List ((LE → R D) × (LE → R D))) : LE → R Cell := fun r => do
  let ps ← prs fs r
  .ok (.own (.dic (mergeD [] ps)))
def del (H : Hp) (p : Addr) : Hp := fun a => if a = p then none else H a
theorem del_ne {H : Hp} {p a : Addr} (h : a ≠ p) : del H p a = H a := if_neg h
theorem del_at {H : Hp} {p : Addr} : del H p p = none := if_pos rfl
theorem upd_del {H : Hp} {p : Addr} {o : HO} : upd (del H p) p o = upd H p o := by
  funext a
  by_cases e : a = p
  · rw [e, upd_same, upd_same]
  · rw [upd_ne e, upd_ne e, del_ne e]
theorem dk_disp {ks : List (Option Expr)} {vs : List Expr} {fs : List ((LE → R D) × (LE → R D))} (h : DPs X G W pos ks vs fs) (hall : ks.all (·.isSome) = true := by rfl) (hl : ks.length = vs.length := by rfl) (h0 : ks ≠ [] := by exact nofun) (h15 : ks.length ≤ 15 := by decide) :
    DK X G W (.Dict ks vs pos) (dispK fs) := by
  refine PE_imp (pe_disp h.pps hall hl h0 h15) fun sg H Q ⟨dl, Z, O, r, A, q⟩ p hp => ?_
  have nt : ∀ ps, (HO.dK []) ≠ .tbl ps := fun ps z => by cases z
  have B := A.aside hp nt
  have g0 : Grow dl H (upd H p (.dK [])) := .new hp
  refine pairs_core B ((prs_len q.bind).mono (fun ds hd kv H2 g2 k2 rk => ?_) fun e he cls dx H' g k xr => he cls dx H' (g0.trans g) k (xr.mono (cut_sub fun a ha => List.mem_cons_of_mem _ ha)))
  obtain ⟨hd, hlen⟩ := hd
  have hpd : p ≠ dl := A.out hp |> fun z e => z (e ▸ A.dz)
  have h2p : H2 p = some (.dK []) := g2 p _ upd_same hpd nt
  refine ⟨h2p, kv, rfl, by rw [rk.length, hlen, h.len]; exact h15, ?_⟩
  have hgr : Grow dl H (del H2 p) := fun a u e n nt => by
    rw [del_ne (ne_of_none e hp)]
    exact g2 a u (by rw [upd_ne (ne_of_none e hp)]; exact e) n nt
  have kgl : GlOk G dl (del H2 p) := by
    obtain ⟨x, y, z, hdl⟩ := k2.dice
    refine ⟨⟨x, y, z, by rw [del_ne (fun e => hpd e.symm)]; exact hdl⟩, ?_⟩
    intro q hq
    obtain ⟨ps, h1, h2, h3⟩ := k2.tab q hq
    refine ⟨ps, ?_, h2, fun pos cv hc => ?_⟩
    · rw [del_ne fun e => by rw [e, h2p] at h1; cases h1]; exact h1
    · obtain ⟨c, e1, e2⟩ := h3 pos cv hc
      exact ⟨c, e1, by rw [del_ne fun e => by rw [e, h2p] at e2; cases e2]; exact e2⟩
  have hcut : GrowS (cut H2 (p :: Z)) (cut (del H2 p) Z) := fun a u e n => by
    obtain ⟨e1, e2⟩ := cut_some e
    rw [cut_out fun z => e1 (List.mem_cons_of_mem _ z), del_ne fun z => e1 (by rw [z]; exact List.mem_cons_self)]
    exact e2
  have fin := hd p (.dK (mergeK [] kv)) (del H2 p) hgr kgl del_at ⟨_, rfl, RepK_merge _ (RepK.mono hcut _ rk) (by unfold RepK; rfl)⟩ fun i hi => ⟨rfl, hi⟩
  rw [upd_del] at fin
  exact fin
end
end DL
set_option Elab.async false
set_option linter.all false
set_option maxRecDepth 100000
namespace DL
open PySem L2 PySem.Spec PyProof.Rows
section
variable {α : Type}
def insT (lt : α → α → Bool) (x : α) : List α → List α
  | [] => [x]
  | y :: l => if lt y x = true then y :: insT lt x l else x :: y :: l
def isort (lt : α → α → Bool) (l : List α) : List α := l.foldr (insT lt) []
structure Ord (lt : α → α → Bool) : Prop where
  tr : ∀ a b c, lt b a = false → lt c b = false → lt c a = false
  an : ∀ a b, lt a b = false → lt b a = false → a = b
  as : ∀ a b, lt a b = true → lt b a = false
abbrev Up (lt : α → α → Bool) (l : List α) : Prop := l.Pairwise fun a b => lt b a = false
variable {lt : α → α → Bool}
theorem insT_perm (x : α) : ∀ l : List α, (insT lt x l).Perm (x :: l)
  | [] => .refl _
  | y :: l => by
    unfold insT
    split
    · exact ((insT_perm x l).cons y).trans (.swap x y l)
    · exact .refl _
theorem isort_perm : ∀ l : List α, (isort lt l).Perm l
  | [] => .refl _
  | x :: l => (insT_perm x _).trans ((isort_perm l).cons x)
theorem insT_up (o : Ord lt) (x : α) : ∀ l : List α, Up lt l → Up lt (insT lt x l)
  | [], _ => List.pairwise_singleton ..
  | y :: l, h => by
    obtain ⟨h1, h2⟩ := List.pairwise_cons.mp h
    unfold insT
    split
    · rename_i c
      refine List.pairwise_cons.mpr ⟨fun z hz => ?_, insT_up o x l h2⟩
      rcases List.mem_cons.mp ((insT_perm x l).mem_iff.mp hz) with rfl | hz
      · exact o.as _ _ c
      · exact h1 z hz
    · rename_i c
      have c : lt y x = false := by simpa using c
      refine List.pairwise_cons.mpr ⟨fun z hz => ?_, h⟩
      rcases List.mem_cons.mp hz with rfl | hz
      · exact c
      · exact o.tr _ _ _ c (h1 z hz)
theorem isort_up (o : Ord lt) : ∀ l : List α, Up lt (isort lt l)
  | [] => .nil
  | x :: l => insT_up o x _ (isort_up o l)
theorem up_uniq (o : Ord lt) : ∀ l m : List α, Up lt l → Up lt m → l.Perm m → l = m
  | [], m, _, _, p => (List.nil_perm.mp p).symm
  | x :: l, [], _, _, p => (List.perm_nil.mp p)
  | x :: l, y :: m, h, k, p => by
    obtain ⟨h1, h2⟩ := List.pairwise_cons.mp h
    obtain ⟨k1, k2⟩ := List.pairwise_cons.mp k
    have e : x = y := by
      rcases List.mem_cons.mp (p.mem_iff.mp List.mem_cons_self) with e | hx
      · exact e
      rcases List.mem_cons.mp (p.mem_iff.mpr (List.mem_cons_self (a := y))) with e | hy
      · exact e.symm
      exact o.an _ _ (k1 x hx) (h1 y hy)
    subst e
    rw [up_uniq o l m h2 k2 ((List.perm_cons x).mp p)]
theorem isort_eq (o : Ord lt) {l m : List α} (h : Up lt m) (p : m.Perm l) : m = isort lt l := up_uniq o _ _ h (isort_up o l) (p.trans (isort_perm l).symm)
end
theorem ltCps_tr : ∀ a b c : List Nat, ltCps b a = false → ltCps c b = false → ltCps c a = false
  | [], [], c, _, h => h
  | [], _ :: _, [], _, _ => rfl
  | [], x :: b, y :: c, _, _ => rfl
  | x :: a, [], c, h, _ => by simp [ltCps] at h
  | x :: a, y :: b, [], h, k => by simp [ltCps] at k
  | x :: a, y :: b, z :: c, h, k => by
    simp only [ltCps, Bool.or_eq_false_iff, Bool.and_eq_false_iff, decide_eq_false_iff_not, beq_eq_false_iff_ne] at *
    obtain ⟨h1, h2⟩ := h
    obtain ⟨k1, k2⟩ := k
    refine ⟨by omega, ?_⟩
    by_cases e : z = x
    · subst e
      have e2 : y = z := by omega
      subst e2
      exact .inr (ltCps_tr a b c (h2.resolve_left fun q => q rfl) (k2.resolve_left fun q => q rfl))
    · exact .inl e
theorem ltCps_an : ∀ a b : List Nat, ltCps a b = false → ltCps b a = false → a = b
  | [], [], _, _ => rfl
  | [], y :: b, h, _ => by simp [ltCps] at h
  | x :: a, [], _, h => by simp [ltCps] at h
  | x :: a, y :: b, h, k => by
    simp only [ltCps, Bool.or_eq_false_iff, Bool.and_eq_false_iff, decide_eq_false_iff_not, beq_eq_false_iff_ne] at *
    have e : x = y := by omega
    subst e
    rw [ltCps_an a b (h.2.resolve_left fun q => q rfl) (k.2.resolve_left fun q => q rfl)]
theorem ltCps_as : ∀ a b : List Nat, ltCps a b = true → ltCps b a = false
  | [], [], h => by simp [ltCps] at h
  | [], y :: b, _ => rfl
  | x :: a, [], h => by simp [ltCps] at h
  | x :: a, y :: b, h => by
    simp only [ltCps, Bool.or_eq_true, Bool.and_eq_true, decide_eq_true_eq, beq_iff_eq, Bool.or_eq_false_iff, Bool.and_eq_false_iff, decide_eq_false_iff_not, beq_eq_false_iff_ne] at *
    rcases h with h | ⟨rfl, h⟩
    · exact ⟨by omega, .inl (by omega)⟩
    · exact ⟨by omega, .inr (ltCps_as a b h)⟩
theorem ord_str : Ord ltCps := ⟨ltCps_tr, ltCps_an, ltCps_as⟩
def ltI (i j : Int) : Bool := decide (i < j)
theorem ord_int : Ord ltI := ⟨fun a b c h k => by simp [ltI] at *; omega, fun a b h k => by simp [ltI] at *; omega, fun a b h => by simp [ltI] at *; omega⟩
theorem rising_up : ∀ (p : Str) (l : List Str), risingS p l = true → Up ltCps ((p :: l).map fun x => x.cps.toList)
  | p, [], _ => List.pairwise_singleton ..
  | p, x :: r, h => by
    simp only [risingS, Bool.and_eq_true, Bool.not_eq_true'] at h
    have ih := rising_up x r h.2
    rw [List.map_cons]
    refine List.pairwise_cons.mpr ⟨fun z hz => ?_, ih⟩
    rw [List.map_cons] at ih hz
    rcases List.mem_cons.mp hz with rfl | hz
    · exact h.1
    · exact ltCps_tr _ _ _ h.1 ((List.pairwise_cons.mp ih).1 z hz)
theorem sortedS_up : ∀ (l : List Str), sortedS l = true → Up ltCps (l.map fun x => x.cps.toList)
  | [], _ => .nil
  | x :: r, h => rising_up x r h
theorem sortedS_eq {ys : List Str} {zs : List (List Nat)} (h : sortedS ys = true) (p : ys.Perm (zs.map fun z => (⟨z.toArray⟩ : Str))) : ys = (isort ltCps zs).map fun z => ⟨z.toArray⟩ := by
  have q := p.map fun x : Str => x.cps.toList
  rw [List.map_map] at q
  have e0 : (fun x : Str => x.cps.toList) ∘ (fun z : List Nat => (⟨z.toArray⟩ : Str)) = id := by funext z; simp
  rw [e0, List.map_id] at q
  rw [← isort_eq ord_str (sortedS_up ys h) q, List.map_map]
  conv => lhs; rw [← List.map_id ys]
  apply List.map_congr_left
  intro x _
  simp
def txts? : List D → Option (List (List Nat))
  | [] => some []
  | .str s :: r => (txts? r).map (s :: ·)
  | _ => none
def ints? : List D → Option (List Int)
  | [] => some []
  | .int s :: r => (ints? r).map (s :: ·)
  | _ => none
theorem txts_eq : ∀ {xs : List D} {ss : List (List Nat)}, txts? xs = some ss → xs = ss.map D.str
  | [], ss, h => by cases h; rfl
  | x :: r, ss, h => by
    cases x <;> first | (simp [txts?] at h; done) | skip
    rename_i s
    cases e : txts? r with
    | none => simp [txts?, e] at h
    | some t =>
      simp [txts?, e] at h
      subst h
      rw [txts_eq e]; rfl
theorem ints_eq : ∀ {xs : List D} {ss : List Int}, ints? xs = some ss → xs = ss.map D.int
  | [], ss, h => by cases h; rfl
  | x :: r, ss, h => by
    cases x <;> first | (simp [ints?] at h; done) | skip
    rename_i s
    cases e : ints? r with
    | none => simp [ints?, e] at h
    | some t =>
      simp [ints?, e] at h
      subst h
      rw [ints_eq e]; rfl
def sortDs (xs : List D) : R (List D) := if xs.length < 64 then (match txts? xs with
  | some ss => .ok ((isort ltCps ss).map D.str)
  | none => match ints? xs with
    | some is => .ok ((isort ltI is).map D.int)
    | none => .stuck) else .stuck
def sortedL : List D → R (List D)
  | [.lst xs] => sortDs xs
  | [.dic kvs] => sortDs (kvs.map (·.1))
  | _ => .stuck
section
variable {X : Cx} {G : Gm} {W : WX} {dl : Addr} {S : Hp}
theorem RepL.of_strs : ∀ (ss : List (List Nat)), RepL G dl S (ss.map D.str) ((ss.map fun z => (⟨z.toArray⟩ : Str)).map V.str)
  | [] => RepL.nil
  | s :: r => RepL.cons Rep.str_ (RepL.of_strs r)
theorem RepL.of_ints : ∀ (ss : List Int), RepL G dl S (ss.map D.int) (ss.map V.int)
  | [] => RepL.nil
  | s :: r => RepL.cons Rep.int_ (RepL.of_ints r)
theorem RepL.are_strs : ∀ {ss : List (List Nat)} {vs : List V}, RepL G dl S (ss.map D.str) vs → vs = (ss.map fun z => (⟨z.toArray⟩ : Str)).map V.str
  | [], vs, h => by unfold RepL at h; exact h
  | s :: r, vs, h => by
    rw [List.map_cons] at h
    unfold RepL at h
    obtain ⟨v, t, rfl, h1, h2⟩ := h
    unfold Rep at h1
    rw [h1, RepL.are_strs h2]; rfl
theorem RepL.are_ints : ∀ {ss : List Int} {vs : List V}, RepL G dl S (ss.map D.int) vs → vs = ss.map V.int
  | [], vs, h => by unfold RepL at h; exact h
  | s :: r, vs, h => by
    rw [List.map_cons] at h
    unfold RepL at h
    obtain ⟨v, t, rfl, h1, h2⟩ := h
    unfold Rep at h1
    rw [h1, RepL.are_ints h2]; rfl
theorem RepK.keys_str : ∀ {kvs : List (D × D)} {kv : List (Key × V)} {ss : List (List Nat)}, RepK G dl S kvs kv → kvs.map (·.1) = ss.map D.str → kv.map (·.1) = (ss.map fun z => (⟨z.toArray⟩ : Str)).map Sum.inr
  | [], kv, ss, h, e => by
    unfold RepK at h
    subst h
    cases ss with
    | nil => rfl
    | cons s t => cases e
  | (k, d) :: r, kv, ss, h, e => by
    unfold RepK at h
    obtain ⟨x, v, t, rfl, hk, _, h2⟩ := h
    cases ss with
    | nil => cases e
    | cons s ss =>
      have e := List.cons.inj e
      obtain ⟨e1, e2⟩ := e
      change k = .str s at e1
      subst e1
      cases hk
      rw [List.map_cons, RepK.keys_str h2 e2]; rfl
theorem RepK.keys_int : ∀ {kvs : List (D × D)} {kv : List (Key × V)} {ss : List Int}, RepK G dl S kvs kv → kvs.map (·.1) = ss.map D.int → kv.map (·.1) = ss.map Sum.inl
  | [], kv, ss, h, e => by
    unfold RepK at h
    subst h
    cases ss with
    | nil => rfl
    | cons s t => cases e
  | (k, d) :: r, kv, ss, h, e => by
    unfold RepK at h
    obtain ⟨x, v, t, rfl, hk, _, h2⟩ := h
    cases ss with
    | nil => cases e
    | cons s ss =>
      have e := List.cons.inj e
      obtain ⟨e1, e2⟩ := e
      change k = .int s at e1
      subst e1
      cases hk
      rw [List.map_cons, RepK.keys_int h2 e2]; rfl
theorem CallR.or_ {f : Value} {r1 r2 : List V → Hp → VK → Prop} (h1 : CallR X f r1) (h2 : CallR X f r2) : CallR X f (fun vs H Q => r1 vs H Q ∨ r2 vs H Q) := fun pins s sg H vs us Q I r q => q.elim (h1 pins s sg H vs us Q I r) (h2 pins s sg H vs us Q I r)
theorem cf_sorted (hG : G.K = X.K) (hc : X.calm = true) : CallF X G (.builtin "sorted") sortedL := by
  refine ⟨_, CallR.or_ (CallR.or_ cr_sortedS cr_sorted) (CallR.or_ (call_sortedD hc) (call_sortedDI hc)), fun dl Z O r sg ds vs H Q E A rl h => ?_⟩
  unfold sortedL at h
  split at h
  · obtain ⟨v, rfl, rp⟩ := rl.one
    obtain ⟨a, us, rfl, e, rl'⟩ := rp.lst
    unfold sortDs at h
    split at h
    case isFalse => exact h.elim
    rename_i xs hlen
    split at h
    · rename_i ss hss
      have := txts_eq hss
      subst this
      have := rl'.are_strs
      subst this
      refine .inl (.inl ⟨a, ss.map fun z => ⟨z.toArray⟩, rfl, SqL.of e, by simpa using hlen, fun ys p hp hs hf => ?_⟩)
      rw [sortedS_eq hs hp]
      exact h p _ H (.refl _ _) A.gl hf (RepL.of_strs _)
    · split at h
      · rename_i is his
        have := ints_eq his
        subst this
        have := rl'.are_ints
        subst this
        refine .inl (.inr ⟨a, is, rfl, SqL.of e, by simpa using hlen, fun ys p hp hs hf => ?_⟩)
        rw [isort_eq ord_int (hs.imp fun {a b} q => by simpa [ltI] using q) hp]
        exact h p _ H (.refl _ _) A.gl hf (RepL.of_ints _)
      · exact h.elim
  · obtain ⟨v, rfl, rp⟩ := rl.one
    obtain ⟨a, kv, rfl, hrd, rk⟩ := rp.dic
    unfold sortDs at h
    split at h
    case isFalse => exact h.elim
    rename_i kvs hlen
    split at h
    · rename_i ss hss
      have e := txts_eq hss
      refine .inr (.inl ⟨a, kv, ss.map fun z => ⟨z.toArray⟩, rfl, hrd, RepK.keys_str rk e, by rw [e] at hlen; simpa using hlen, fun ys p hp hs hf => ?_⟩)
      rw [sortedS_eq hs hp]
      exact h p _ H (.refl _ _) A.gl hf (RepL.of_strs _)
    · split at h
      · rename_i is his
        have e := ints_eq his
        refine .inr (.inr ⟨a, kv, is, rfl, hrd, RepK.keys_int rk e, by rw [e] at hlen; simpa using hlen, fun ys p hp hs hf => ?_⟩)
        rw [isort_eq ord_int (hs.imp fun {a b} q => by simpa [ltI] using q) hp]
        exact h p _ H (.refl _ _) A.gl hf (RepL.of_ints _)
      · exact h.elim
  · exact h.elim
variable {ex : Expr} {es : List Expr} {fs : LE → R (List D)} {gl : List D → R (List D)} {pos p : Pos} {x : Str} {id : String}
theorem df_callB (hc : CallF X G (.builtin id) gl) (hm : X.mg x = none) (hv : bootBuiltins x = some (.builtin id)) (ha : DAp X G W (ex :: es) fs) (hg : Gl X x := by rfl) (hn : x ≠ "__name__" := by decide) (hdb : (x == ("__debug__" : Str)) = false := by decide)
    (he : starEach (ex :: es) X.env = (false, eval ex X.env) :: starEach es X.env := by rfl) (hpl : (backTo pos (starEach es X.env)).any (·.1) = false := by rfl) : DF X G W (.Call (.Name x p) (ex :: es) [] pos) (fun r => fs r >>= gl) := by
  obtain ⟨rr, h1, h2⟩ := hc
  refine PE_imp (pe_callB h1 hg hm hv ha hn hdb he hpl) fun sg H Q ⟨dl, Z, O, r, A, q⟩ => ⟨dl, Z, O, r, A, q.bind.thn fun ds hd vs H1 g1 k1 rl => ?_⟩
  exact h2 dl Z O r sg ds vs H1 Q _ (A.grow g1 k1) rl (hd.thn fun d h p vs H' g' k' hp rl => h p vs H' (g1.trans g') k' hp rl)
end
end DL
set_option Elab.async false
set_option linter.all false
set_option maxRecDepth 100000
namespace DL
open PySem L2 PySem.Spec PyProof.Rows
theorem ci_entry : entryFor table "proto.contains_iter" = some Builtin.«proto.contains_iter» := entryFor_of_tree (by kernel_rfl)
theorem ci_plain : plainId "proto.contains_iter" = true := by decide +kernel
theorem vals_contains : typeLookup (.type "dict_values") "__contains__" = pure none := am_miss_of_fast (by first | decide +kernel | rfl)
section
variable {prog : Program} {w : World} {A : Around}
theorem ci_loop {R : Result → Shared → Prop} {it d : Addr} {x : Value} {vs : List (Key × Value)} {ep : Nat} {h0 : Heap} {dx : PyData} {bs : List Addr} {ds : List PyData} (hh : A.handled = none) (hu : A.units + 66 < cLine) (rx : Reads h0 x dx bs) (cx : SeqAt.shaped dx = true)
    (dat : h0.DictAt (mixKind prog w) d vs ep) (hit0 : h0.objs.size ≤ it) (hlen : ds.length = vs.length)
    (each : ∀ (j : Nat) (k : Key) (v : Value) (z : PyData), vs[j]? = some (k, v) → ds[j]? = some z → ∃ as, Reads h0 v z as ∧ SeqAt.shaped z = true) :
    ∀ (n i : Nat) (s : Shared), vs.length = i + n → s.heap.IsValIter it d i vs.length ep → (∀ b o, h0.get? b = some o → s.heap.get? b = some o) →
      (∀ h' tk, (∀ b o, h0.get? b = some o → h'.get? b = some o) → R (.ok (.ret (.bool ((ds.drop i).any fun z => PyData.eqv z dx)))) { s with heap := h', toks := tk }) →
      codeAny (model prog w) A (.builtin "proto.contains_iter" ⟨[.ref it, x], []⟩) R s := by
  intro n
  induction n with
  | zero =>
    intro i s hn hit k hR
    have hd : ds.drop i = [] := List.drop_eq_nil_of_le (by omega)
    rw [hd] at hR
    refine codeAny_builtin ci_entry ?_
    rw [Around.under_plainId ci_plain _]
    show wpAny _ A.in1 (pyNext (.ref it) >>= _) _ _ s
    refine wpAny_bind (wpAny_pyNext_values_end (A := A.in1) hh hit (dat.keep k) (List.getElem?_eq_none (by omega)) fun h' he => ?_)
    refine wpAny_bind (wpAny_rule (wpAny_pure ?_))
    exact hR h' s.toks fun b o e => he b o (fun z => absurd (z ▸ Heap.lt_size e) (Nat.not_lt.mpr hit0)) (k b o e)
  | succ n ih =>
    intro i s hn hit k hR
    have hi : i < vs.length := by omega
    obtain ⟨kk, v, e1⟩ : ∃ kk v, vs[i]? = some (kk, v) := ⟨vs[i].1, vs[i].2, List.getElem?_eq_getElem hi⟩
    have e2 : ds[i]? = some ds[i] := List.getElem?_eq_getElem (by omega)
    obtain ⟨as, rv, sv⟩ := each i kk v _ e1 e2
    refine codeAny_builtin ci_entry ?_
    rw [Around.under_plainId ci_plain _]
    show wpAny _ A.in1 (pyNext (.ref it) >>= _) _ _ s
    refine wpAny_bind (wpAny_pyNext_values_item (A := A.in1) hit (dat.keep k) e1 fun h1 hit1 hs1 => ?_)
    have k1 : ∀ b o, h0.get? b = some o → h1.get? b = some o := fun b o e => hs1.extBut b o (fun z => absurd (z ▸ Heap.lt_size e) (Nat.not_lt.mpr hit0)) (k b o e)
    show wpAny _ A.in1 (eqBool v x >>= _) _ _ _
    have room : A.in1.units + min (ds[i]).depth dx.depth < cLine := SeqAt.room_of_shaped sv (show A.units + 1 + 64 < cLine by omega)
    refine wpAny_bind (SeqAt.eqBoolOverData prog w A.in1 _ _ v x _ dx as bs _ (Reads.keeps k1 rv) (Reads.keeps k1 rx) (SeqAt.canLay_of_shaped sv) (SeqAt.canLay_of_shaped cx) room ?_)
    have hdrop : ds.drop i = ds[i] :: ds.drop (i + 1) := List.drop_eq_getElem_cons (by omega)
    rw [hdrop] at hR
    by_cases hb : PyData.eqv ds[i] dx = true
    · rw [hb]
      refine wpAny_bind (wpAny_rule (wpAny_pure ?_))
      have := hR h1 s.toks k1
      rw [List.any_cons, hb, Bool.true_or] at this
      exact this
    · have hb : PyData.eqv ds[i] dx = false := by simpa using hb
      rw [hb]
      refine wpAny_pure ⟨plainId_quiet ci_plain _, ih (i + 1) _ (by omega) hit1 k1 fun h' tk k2 => ?_⟩
      have := hR h' tk k2
      rw [List.any_cons, hb, Bool.false_or] at this
      exact this
end
theorem DpAll.len_ {K : PySem.W.Frag} {H : Hp} : ∀ {us : List V} {ds : List PyData}, DpAll K H us ds → us.length = ds.length
  | _, _, .nil => rfl
  | _, _, .cons _ h => by rw [List.length_cons, List.length_cons, DpAll.len_ h]
theorem DpAll.at_ {K : PySem.W.Frag} {H : Hp} : ∀ {us : List V} {ds : List PyData} {j : Nat} {x : V} {z : PyData}, DpAll K H us ds → us[j]? = some x → ds[j]? = some z → Dp K H x z
  | _, _, j, x, z, .nil, e, _ => by simp at e
  | _, _, 0, x, z, .cons h _, e, e2 => by
    cases (show some _ = some x from e)
    cases (show some _ = some z from e2)
    exact h
  | _, _, j + 1, x, z, .cons _ h, e, e2 => DpAll.at_ (j := j) h (by simpa using e) (by simpa using e2)
def tInVals (K : PySem.W.Frag) (neg : Bool) (ta td : TE) : TE := fun sg H Q => ta sg H fun y H1 => td sg H1 fun x H2 => ∃ (a : Addr) (kv : List (Key × V)) (dy : PyData) (ds : List PyData), x = .ref a ∧ Rd H2 a (.dK kv) ∧ Dp K H2 y dy ∧ SeqAt.shaped dy = true ∧
  DpAll K H2 (kv.map (·.2)) ds ∧ (∀ z ∈ ds, SeqAt.shaped z = true) ∧ Q (.bl (Bool.xor neg (ds.any fun z => PyData.eqv z dy))) H2
section
variable {X : Cx} {e o : Expr} {ta td : TE} {apos mpos : Pos}
theorem run_invals {pins : List (Addr × Obj)} {sg : L2.St} {H : Hp} {s : Shared} (neg : Bool) {Q : VK} (hc : X.calm = true) (hu : X.A.units + 70 < cLine) (he : PE X e ta) (hd : PE X o td) (I : Inv X pins sg H s) (h : tInVals X.K neg ta td sg H Q)
    (hbase : attributeBase o "values" X.env (eval o X.env) = eval o X.env) (hline : (apos.endLine == mpos.line) = true) :
    wpAny (model X.prog X.w) X.A (eval e X.env) (fun v s₁ => wpAny (model X.prog X.w) X.A (eval (.Call (.Attribute o "values" apos) [] [] mpos) X.env) (fun u s₂ => wpAny (model X.prog X.w) X.A (contains u v) (fun b s3 => EP X pins sg Q (.bool (Bool.xor neg b)) s3) X.xe s₂) X.xe s₁) X.xe s := by
  refine thn (he.run pins s sg H _ I h) fun iv s1 ⟨y, H1, I1, ry, q1⟩ => ?_
  refine wpAny_Call_method0_late hbase hline (thn (hd.run pins s1 sg H1 _ I1 q1) fun v s2 ⟨x, H2, I2, rx, a, kv, dy, ds, ex, hrd, hy, sy, hds, sds, q⟩ => ?_)
  subst ex
  obtain rfl : v = Value.ref a := rx
  obtain ⟨_, hsys, vs, rel, dof⟩ := dk_rd I2.hok hrd
  obtain ⟨ep, dat⟩ := dof.dictAt
  have dat' := dat
  obtain ⟨ob, es, ho, ex, hdat, hko, hpr, hnd⟩ := dat'
  refine ⟨"dict", "dict.values", PySem.F.plainAttrs_dict, PySem.F.slot_dict_values, PySem.F.type_dict_values, ⟨ob, ho, ex.1⟩, fun b e => ?_, Calls.callWith_builtin rfl (PySem.evalArgs_none ?_)⟩
  · cases e
    exact ⟨ob, ho, ex.2.1⟩
  refine call_meetsIn PySem.F.slot_dict_values ⟨ob, ho, ex.1⟩ PySem.F.entry_dict_values (PySem.F.args_dict_values_1 _) (meets_dict_values (mixKind X.prog X.w) a hsys) ⟨⟨vs, dof⟩, ?_⟩
  have k1 : ∀ b u, s2.heap.get? b = some u → (s2.heap.push { cls := .type "dict_values", data := .fields #[.ref a] }).get? b = some u := fun b u e => Heap.get?_push_of_some _ e
  have dat1 : (s2.heap.push { cls := .type "dict_values", data := .fields #[.ref a] }).DictAt (mixKind X.prog X.w) a vs ep := dat.keep k1
  obtain ⟨bs, r2⟩ := Dp.reads I2 dy y iv hy ry
  have hlen : ds.length = vs.length := by
    have e1 : (kv.map (·.2)).length = ds.length := by
      clear q sds
      revert hds
      generalize kv.map (·.2) = us
      intro hds
      exact (DpAll.len_ hds)
    rw [← e1, List.length_map]
    exact KV.length rel
  unfold contains
  refine wpAny_holding ?_
  have hT : ({ s2 with heap := s2.heap.push { cls := .type "dict_values", data := .fields #[.ref a] } } : Shared).TypeIs (.ref s2.heap.objs.size) "dict_values" := ⟨_, Heap.get?_push_size _ rfl, rfl⟩
  rw [stdlibNamesSay?_of_typeIs hT]
  refine wpAny_bind (wpAny_specialOf hT vals_contains ?_)
  show wpAny _ _ (if (none == some Value.none) = true then _ else _) _ _ _
  rw [if_neg (by decide)]
  refine wpAny_bind (wpAny_callSpecialUnlessNone?_none hT vals_contains ?_)
  refine wpAny_bind (wpAny_rule ?_)
  refine wpAny_bind (wpAny_tryCatch ?_)
  refine wpAny_pyIter_values (v := s2.heap.objs.size) (d := a) ⟨_, Heap.get?_push_size _ rfl, rfl, rfl⟩ dat1 ?_
  have hsz : (s2.heap.push { cls := .type "dict_values", data := .fields #[.ref a] }).objs.size = s2.heap.objs.size + 1 := Heap.size_push _ _
  have k2 : ∀ b u, s2.heap.get? b = some u → ((s2.heap.push { cls := .type "dict_values", data := .fields #[.ref a] }).push { cls := .type "dict_valueiterator", data := .fields #[.ref a, .int 0 0, .int vs.length 0, .int ep 0] }).get? b = some u := fun b u e => Heap.get?_push_of_some _ (k1 b u e)
  refine wpAny_bind (wpAny_runValue (ci_loop (h0 := s2.heap) (dx := dy) (ds := ds) (vs := vs) (ep := ep) (d := a) (I.ok.hd hc) (by omega) r2 sy dat (by show s2.heap.objs.size ≤ _; rw [hsz]; exact Nat.le_succ _) hlen (fun j k v z e1 e2 => ?_) vs.length 0 _ (by omega) ⟨_, Heap.get?_push_size _ rfl, rfl, rfl⟩ k2 fun h' tk k3 => ?_))
  · obtain ⟨x, h1, h2⟩ := KV.at' rel e1
    have e3 : (kv.map (·.2))[j]? = some x := by rw [List.getElem?_map, h1]; rfl
    obtain ⟨as, r3⟩ := Dp.reads I2 z x v (DpAll.at_ hds e3 e2) h2
    exact ⟨as, r3, sds z (List.mem_of_getElem? e2)⟩
  · refine wpAny_pure ?_
    exact ⟨.bl _, H2, I2.kept (t' := tk) k3, rfl, by simpa using q⟩
theorem pt_in {neg : Bool} {ta td : TE} (hc : X.calm = true) (hu : X.A.units + 70 < cLine) (he : PE X e ta) (hd : PE X o td) (hbase : attributeBase o "values" X.env (eval o X.env) = eval o X.env := by rfl) (hline : (apos.endLine == mpos.line) = true := by rfl) :
    PC X (if neg then .NotIn else .In) e (.Call (.Attribute o "values" apos) [] [] mpos) (tInVals X.K neg ta td) := ⟨fun pins s sg H Q I h => by
  refine wpAny_mono (run_invals neg hc hu he hd I h hbase hline) (fun v s1 h1 => wpAny_mono h1 (fun u s2 h2 => ?_) fun _ _ z => z) fun _ _ z => z
  cases neg
  · show wpAny _ _ (do return Value.bool (← contains u v)) _ _ _
    refine wpAny_bind (wpAny_mono h2 (fun b s3 h3 => wpAny_pure (by simpa using h3)) fun _ _ z => z)
  · show wpAny _ _ (do return Value.bool (!(← contains u v))) _ _ _
    refine wpAny_bind (wpAny_mono h2 (fun b s3 h3 => wpAny_pure (by simpa using h3)) fun _ _ z => z)⟩
end
def inVals (neg : Bool) (x : D) : D → R D
  | .dic kvs => if x.sh 50 && D.shs (kvs.map (·.2)) 50 then .ok (.bl (Bool.xor neg ((kvs.map (·.2)).any fun z => z.eqb x))) else .stuck
  | _ => .stuck
section
variable {X : Cx} {G : Gm} {W : WX} {a b : Expr} {f g : LE → R D} {apos mpos pos : Pos}
theorem RepK.vals {dl : Addr} {S : Hp} : ∀ {kvs : List (D × D)} {kv : List (Key × V)}, RepK G dl S kvs kv → RepL G dl S (kvs.map (·.2)) (kv.map (·.2))
  | [], kv, h => by unfold RepK at h; subst h; exact RepL.nil
  | (k, d) :: r, kv, h => by
    unfold RepK at h
    obtain ⟨x, v, t, rfl, hk, h1, h2⟩ := h
    exact RepL.cons h1 (RepK.vals h2)
theorem any_toPs {x : D} : ∀ {ds : List D}, D.shs ds 50 = true → x.sh 50 = true → ((D.toPs ds).any fun z => PyData.eqv z x.toP) = ds.any fun z => z.eqb x := fun {ds} h hx => by
  rw [toPs_map, List.any_map]
  induction ds with
  | nil => rfl
  | cons d ds ih =>
    simp only [D.shs, Bool.and_eq_true] at h
    rw [List.any_cons, List.any_cons, ih h.2]
    congr 1
    exact eqb_eqv d x _ _ h.1 hx |>.symm ▸ rfl
theorem dt_invals (neg : Bool) (hG : G.K = X.K) (hc : X.calm = true) (hu : X.A.units + 70 < cLine) (ha : DP X G W a f) (hb : DP X G W b g) (hbase : attributeBase b "values" X.env (eval b X.env) = eval b X.env := by rfl) (hline : (apos.endLine == mpos.line) = true := by rfl) :
    DT X G W (.Compare a [if neg then .NotIn else .In] [.Call (.Attribute b "values" apos) [] [] mpos] pos) (fun r => (do let x ← f r; let y ← g r; inVals neg x y) >>= asB) := by
  refine PT_imp (pt_cmp (pt_in (neg := neg) hc hu ha hb hbase hline) (by cases neg <;> rfl)) fun sg H Q h => tT_of (t := tInVals X.K neg (tP G W f) (tP G W g)) (fun sg H Q ⟨dl, Z, O, r, A, q⟩ => ?_) h
  refine ⟨dl, Z, O, r, A, q.bind.thn fun x hx v H1 g1 k1 rx => ?_⟩
  have A1 := A.grow g1 k1
  refine ⟨dl, Z, O, r, A1, hx.bind.mono (fun y hy u H2 g2 k2 ry => ?_) fun e => epost g1⟩
  have A2 := A1.grow g2 k2
  cases y <;> first | exact hy.elim | skip
  rename_i kvs
  unfold inVals at hy
  dsimp only at hy
  split at hy
  case isFalse => exact hy.elim
  rename_i hc
  rw [Bool.and_eq_true] at hc
  obtain ⟨p, kv, rfl, hrd, rk⟩ := ry.dic
  have rx2 := rx.grow A1 g2
  refine ⟨p, kv, x.toP, D.toPs (kvs.map (·.2)), rfl, hrd, hG ▸ rx2.dp hc.1, sh_shaped (sh_mono _ _ _ (by decide) hc.1), hG ▸ RepL.dp (cut_grow H2 Z) _ _ hc.2 rk.vals, fun z hz => ?_, ?_⟩
  · rw [toPs_map] at hz
    obtain ⟨w, hw, rfl⟩ := List.mem_map.mp hz
    obtain ⟨j, hj⟩ := List.mem_iff_getElem?.mp hw
    exact sh_shaped (sh_mono _ _ _ (by decide) (shs_get hc.2 hj))
  · rw [any_toPs hc.2 hc.1]
    exact hy _ H2 (g1.trans g2) k2 Rep.bl_
end
end DL
set_option Elab.async false
set_option linter.all false
set_option maxRecDepth 100000
namespace DL
open PySem L2 PySem.Spec PyProof.Rows
section
variable {X : Cx} {G : Gm} {W : WX}
def rTupIxD (K : PySem.W.Frag) : V → List V → Hp → VK → Prop := fun x xs H Q => ∃ (a : Addr) (y : V) (us : List V) (d : PyData) (ds : List PyData) (j : Nat) (z : PyData), x = V.ref a ∧ xs = [y] ∧ SqT K H a us ∧ DpAll K H us ds ∧ Dp K H y d ∧
  SeqAt.shaped (.tuple ds) = true ∧ SeqAt.shaped d = true ∧ ds[j]? = some z ∧ PyData.eqv z d = true ∧ (∀ (m : Nat) (z' : PyData), m < j → ds[m]? = some z' → PyData.eqv z' d = false) ∧ Q (.int (j : Nat)) H
theorem mt_tupIxD (hu : X.A.units + 65 < cLine) : MtR X "tuple.index" (rTupIxD X.K) := by
  intro pins s sg H x xs v us Q I rx rxs h
  obtain ⟨p, y, ws, d, ds, j, z, rfl, rfl, hq, ha, hy, sl, sd, hz, hzj, hno, q⟩ := h
  cases rx
  obtain ⟨uy, rfl, ry⟩ := vals1 rxs
  obtain ⟨bs, r1⟩ := Dp.reads I d y uy hy ry
  have hxs : PyData.canLayAll0 ds = true := SeqAt.canLay_of_shaped sl
  have hroom : X.A.units + 1 + min (PyData.depthAll ds) d.depth < cLine := room_in_shaped sd hu
  obtain ⟨its, rv, pl, hlen⟩ := I.tuple hq
  obtain ⟨⟨cls, dd, dt, sls⟩, ho, hc, n, hd⟩ := pl
  simp only at hc hd
  subst hc
  subst hd
  obtain ⟨as, h4⟩ := Dp.readsAll I ds _ its ha rv
  have hn : its.length = ds.length := SeqAt.ReadsAll.length ds its as h4
  have hmap : its.map (SeqAt.readOf s.heap) = ds := SeqAt.readsAll_map ds its as hxs h4
  obtain ⟨hjd, _⟩ := List.getElem?_eq_some_iff.mp hz
  have hjl : j < its.length := by omega
  have hj : j < its.toArray.size := by simpa using hjl
  have at_ : ∀ (m : Nat) (hm : m < its.toArray.size) (z' : PyData), ds[m]? = some z' → SeqAt.readOf s.heap its.toArray[m] = z' := by
    intro m hm z' hz'
    have hml : m < its.length := by simpa using hm
    rw [← hmap, List.getElem?_map, List.getElem?_eq_getElem hml] at hz'
    have e1 : SeqAt.readOf s.heap its[m] = z' := Option.some.inj (show some (SeqAt.readOf s.heap its[m]) = some z' from hz')
    simpa using e1
  refine call_meets PySem.F.slot_tuple_index ⟨_, ho, rfl⟩ PySem.F.entry_tuple_index (PySem.F.args_tuple_index_2 _ _)
    (TI.tuple_indexAt p its.toArray n dd sls uy (fun u => PyData.eqv (SeqAt.readOf s.heap u) d) j hj ?_ ?_) ⟨ho, SeqAt.items_eqAt (vs := its.toArray) (show ReadsAll s.heap its.toArray.toList ds as from h4) r1 hxs (SeqAt.canLay_of_shaped sd) hroom, ?_⟩
  · show PyData.eqv (SeqAt.readOf s.heap its.toArray[j]) d = true
    rw [at_ j hj z hz]
    exact hzj
  · intro m hm hmj
    have hm' : m < its.length := by simpa using hm
    have hmd : m < ds.length := by omega
    have hz' : ds[m]? = some ds[m] := List.getElem?_eq_getElem hmd
    show PyData.eqv (SeqAt.readOf s.heap its.toArray[m]) d = false
    rw [at_ m hm _ hz']
    exact hno m _ hmj hz'
  · exact ⟨.int (j : Nat), H, I.tok _, ⟨_, rfl⟩, q⟩
def idxTd : D → List D → R D
  | .tup xs, [y] => if y.sh 62 && D.shs xs 62 then (match idxL xs y with
    | some j => .ok (.int (j : Nat))
    | none => .stuck) else .stuck
  | _, _ => .stuck
theorem bm_index_td (hG : G.K = X.K) (hu : X.A.units + 70 < cLine) : BmD X G "tuple" "index" idxTd := by
  refine ⟨⟨_, _, PySem.F.slot_tuple_index, PySem.F.type_tuple_index, mt_tupIxD (by omega), ?_⟩, PySem.F.plainAttrs_tuple⟩
  intro dl Z O r sg x vx ds vs H Q E A hx hds h
  unfold idxTd at h
  split at h
  · split at h
    · rename_i xs y hc
      rw [Bool.and_eq_true] at hc
      split at h
      · rename_i j hj
        obtain ⟨z, h1, h2, h3⟩ := idxL_some hj
        obtain ⟨v, rfl, hy⟩ := hds.one
        obtain ⟨a, us, rfl, hl, rl⟩ := hx.tup
        have hz := shs_get hc.2 h1
        refine ⟨a, v, us, y.toP, D.toPs xs, j, z.toP, rfl, rfl, hG ▸ hl, hG ▸ RepL.dp (cut_grow H Z) _ _ hc.2 rl, hG ▸ hy.dp hc.1, sh_shaped (d := .tup xs) (by simpa [D.sh] using shs_mono _ _ 63 (by decide) hc.2), sh_shaped (sh_mono _ _ _ (by decide) hc.1), by rw [toPs_map, List.getElem?_map, h1]; rfl, by rw [eqb_eqv z y 62 62 hz hc.1]; exact h2, fun m z' hm e => ?_, h _ H (.refl _ _) A.gl Rep.int_⟩
        rw [toPs_map, List.getElem?_map] at e
        cases e2 : xs[m]? with
        | none => rw [e2] at e; cases e
        | some w =>
          rw [e2] at e
          cases e
          rw [eqb_eqv w y 62 62 (shs_get hc.2 e2) hc.1]
          exact h3 m w hm e2
      · exact h.elim
    · exact h.elim
  · exact h.elim
end
end DL
set_option Elab.async false
set_option linter.all false
set_option maxRecDepth 100000
namespace DL
open PySem L2 PySem.Spec PyProof.Rows
/-- all stays, but dicts may be locked or unlocked -/
structure Lk (S S' : Hp) : Prop where
  l1 : ∀ a o, S a = some o → (∀ ps, o ≠ .tbl ps) → (∀ kv, o ≠ .dK kv) → (∀ ob kv, o ≠ .frz ob (.dK kv)) → S' a = some o
  l2 : ∀ a kv, Rd S a (.dK kv) → Rd S' a (.dK kv)
theorem Lk.sqt {K : PySem.W.Frag} {S S' : Hp} {a : Addr} {xs : List V} (g : Lk S S') (h : SqT K S a xs) : SqT K S' a xs := by
  rcases h with (h | ⟨o, h⟩) | h
  · exact .inl (.inl (g.l1 _ _ h (fun _ z => by cases z) (fun _ z => by cases z) (fun _ _ z => by cases z)))
  · exact .inl (.inr ⟨o, g.l1 _ _ h (fun _ z => by cases z) (fun _ z => by cases z) (fun _ _ z => by cases z)⟩)
  · exact .inr h
mutual
theorem Rep.lk {G : Gm} {dl : Addr} {S S' : Hp} (g : Lk S S') : ∀ (d : D) {v : V}, Rep G dl S d v → Rep G dl S' d v
  | .non, v, h => by unfold Rep at *; exact h
  | .bl b, v, h => by unfold Rep at *; exact h
  | .int i, v, h => by unfold Rep at *; exact h
  | .str s, v, h => by unfold Rep at *; exact h
  | .lst ds, v, h => by
    unfold Rep at *
    obtain ⟨a, vs, e, q, r⟩ := h
    exact ⟨a, vs, e, g.l1 a _ q (fun ps z => by cases z) (fun ps z => by cases z) (fun _ _ z => by cases z), RepL.lk g ds r⟩
  | .tup ds, v, h => by
    unfold Rep at *
    obtain ⟨a, vs, e, q, r⟩ := h
    exact ⟨a, vs, e, g.sqt q, RepL.lk g ds r⟩
  | .dic kvs, v, h => by
    unfold Rep at *
    obtain ⟨a, kv, e, q, r⟩ := h
    exact ⟨a, kv, e, g.l2 _ _ q, RepK.lk g kvs r⟩
  | .cdic kvs, v, h => by
    unfold Rep at *
    obtain ⟨a, e, r⟩ := h
    exact ⟨a, e, RepC.lk g kvs r⟩
  | .ins c ds, v, h => by
    unfold Rep at *
    obtain ⟨a, dx, vs, e, q, l, r⟩ := h
    exact ⟨a, dx, vs, e, g.l1 a _ q (fun ps z => by cases z) (fun ps z => by cases z) (fun _ _ z => by cases z), l, RepL.lk g ds r⟩
  | .dice, v, h => by unfold Rep at *; exact h
  | .fn n, v, h => by unfold Rep at *; exact h
theorem RepL.lk {G : Gm} {dl : Addr} {S S' : Hp} (g : Lk S S') : ∀ (ds : List D) {vs : List V}, RepL G dl S ds vs → RepL G dl S' ds vs
  | [], vs, h => by unfold RepL at *; exact h
  | d :: ds, vs, h => by
    unfold RepL at *
    obtain ⟨v, r, e, h1, h2⟩ := h
    exact ⟨v, r, e, Rep.lk g d h1, RepL.lk g ds h2⟩
theorem RepK.lk {G : Gm} {dl : Addr} {S S' : Hp} (g : Lk S S') : ∀ (ds : List (D × D)) {vs : List (Key × V)}, RepK G dl S ds vs → RepK G dl S' ds vs
  | [], vs, h => by unfold RepK at *; exact h
  | (k, d) :: ds, vs, h => by
    unfold RepK at *
    obtain ⟨x, v, r, e, k, h1, h2⟩ := h
    exact ⟨x, v, r, e, k, Rep.lk g d h1, RepK.lk g ds h2⟩
theorem RepC.lk {G : Gm} {dl : Addr} {S S' : Hp} (g : Lk S S') {a : Addr} : ∀ (ds : List (List Nat × D)), RepC G dl S a ds → RepC G dl S' a ds
  | [], h => by unfold RepC at *; exact h
  | (k, d) :: ds, h => by
    unfold RepC at *
    obtain ⟨⟨v, h1, h2⟩, h3⟩ := h
    exact ⟨⟨v, h1, Rep.lk g d h2⟩, RepC.lk g ds h3⟩
end
section
variable {G : Gm} {dl : Addr} {Z : List Addr} {O : List (Nat × Addr)} {r : LE} {sg : L2.St} {H : Hp}
theorem lk_cut {a : Addr} {od : Obj} {kv : List (Key × V)} (h : H a = some (.dK kv)) : Lk (cut H Z) (cut (upd H a (.frz od (.dK kv))) Z) := by
  refine ⟨fun b o e n1 n2 n3 => ?_, fun b kv' e => ?_⟩
  · obtain ⟨e1, e2⟩ := cut_some e
    have hb : b ≠ a := fun z => by rw [z, h] at e2; exact n2 kv (Option.some.inj e2).symm
    rw [cut_out e1, upd_ne hb]; exact e2
  · by_cases hb : b = a
    · subst hb
      rcases e with e | ⟨o, e⟩
      · obtain ⟨e1, e2⟩ := cut_some e
        rw [h] at e2
        cases e2
        exact .inr ⟨od, by rw [cut_out e1, upd_same]⟩
      · obtain ⟨e1, e2⟩ := cut_some e
        rw [h] at e2
        cases e2
    · rcases e with e | ⟨o, e⟩
      · obtain ⟨e1, e2⟩ := cut_some e
        exact .inl (by rw [cut_out e1, upd_ne hb]; exact e2)
      · obtain ⟨e1, e2⟩ := cut_some e
        exact .inr ⟨o, by rw [cut_out e1, upd_ne hb]; exact e2⟩
theorem lk_uncut {a : Addr} {od : Obj} {kv : List (Key × V)} (h : H a = some (.frz od (.dK kv))) : Lk (cut H Z) (cut (upd H a (.dK kv)) Z) := by
  refine ⟨fun b o e n1 n2 n3 => ?_, fun b kv' e => ?_⟩
  · obtain ⟨e1, e2⟩ := cut_some e
    have hb : b ≠ a := fun z => by rw [z, h] at e2; exact n3 od kv (Option.some.inj e2).symm
    rw [cut_out e1, upd_ne hb]; exact e2
  · by_cases hb : b = a
    · subst hb
      rcases e with e | ⟨o, e⟩
      · obtain ⟨e1, e2⟩ := cut_some e
        rw [h] at e2
        cases e2
      · obtain ⟨e1, e2⟩ := cut_some e
        rw [h] at e2
        cases e2
        exact .inl (by rw [cut_out e1, upd_same])
    · rcases e with e | ⟨o, e⟩
      · obtain ⟨e1, e2⟩ := cut_some e
        exact .inl (by rw [cut_out e1, upd_ne hb]; exact e2)
      · obtain ⟨e1, e2⟩ := cut_some e
        exact .inr ⟨o, by rw [cut_out e1, upd_ne hb]; exact e2⟩
theorem GlOk.repl {a : Addr} {o u : HO} (k : GlOk G dl H) (had : a ≠ dl) (h : H a = some o) (n1 : ∀ ps, o ≠ .tbl ps) (n2 : o = .dK [] ∨ (∃ kv, o = .dK kv) ∨ ∃ ob kv, o = .frz ob (.dK kv)) : GlOk G dl (upd H a u) := by
  obtain ⟨x, y, z, hd⟩ := k.dice
  refine ⟨⟨x, y, z, by rw [upd_ne fun e => had e.symm]; exact hd⟩, fun p hp => ?_⟩
  obtain ⟨ps, h1, h2, h3⟩ := k.tab p hp
  have hpD : p.1 ≠ a := fun e => by rw [e, h] at h1; exact n1 ps (Option.some.inj h1)
  refine ⟨ps, by rw [upd_ne hpD]; exact h1, h2, fun pos cv hc => ?_⟩
  obtain ⟨c, e1, e2⟩ := h3 pos cv hc
  have hcD : c ≠ a := fun e => by
    rw [e, h] at e2
    have e3 := Option.some.inj e2
    rcases n2 with n | ⟨kv, n⟩ | ⟨ob, kv, n⟩ <;> (rw [n] at e3; cases e3)
  exact ⟨c, e1, by rw [upd_ne hcD]; exact e2⟩
theorem At.lock (A : At G dl Z O r sg H) {a : Addr} {od : Obj} {kv : List (Key × V)} (h : H a = some (.dK kv)) (hz : a ∉ Z) : At G dl Z O r sg (upd H a (.frz od (.dK kv))) := by
  have had : a ≠ dl := fun e => hz (by rw [e]; exact A.dz)
  refine ⟨A.gl.repl had h (fun _ z => by cases z) (.inr (.inl ⟨_, rfl⟩)), A.dz, fun b hb => ?_, A.own, A.inj, A.len, fun j c e => ?_⟩
  · obtain ⟨o, e, n⟩ := A.live b hb
    exact ⟨o, by rw [upd_ne fun z => hz (by rw [← z]; exact hb)]; exact e, n⟩
  · have := A.slot j c e
    cases c with
    | un => trivial
    | val d =>
      obtain ⟨v, e, q⟩ := this
      exact ⟨v, e, Rep.lk (lk_cut h) d q⟩
    | own d =>
      obtain ⟨b, hb, e, q, ko⟩ := this
      have hba : b ≠ a := fun z => hz (by rw [← z]; exact (A.own _ hb).1)
      refine ⟨b, hb, e, ?_, ko⟩
      rw [upd_ne hba]
      unfold OwnAt at *
      split at q
      · obtain ⟨vs, e, r⟩ := q; exact ⟨vs, e, RepL.lk (lk_cut h) _ r⟩
      · obtain ⟨kv, e, r⟩ := q; exact ⟨kv, e, RepK.lk (lk_cut h) _ r⟩
      · obtain ⟨dx, vs, e, k, r⟩ := q; exact ⟨dx, vs, e, k, RepL.lk (lk_cut h) _ r⟩
      · exact q
theorem upd_comm {H : Hp} {a b : Addr} {o u : HO} (h : a ≠ b) : upd (upd H a o) b u = upd (upd H b u) a o := by
  funext c
  by_cases ca : c = a
  · subst ca; rw [upd_ne h, upd_same, upd_same]
  · by_cases cb : c = b
    · subst cb; rw [upd_same, upd_ne ca, upd_same]
    · rw [upd_ne cb, upd_ne ca, upd_ne ca, upd_ne cb]
end
def Mild {α : Type} (m : R α) : Prop := ∀ (Q : α → Prop) (E E' : Exc → Prop), Wp m Q E → Wp m Q E'
theorem Mild.ok {α : Type} (a : α) : Mild (R.ok a) := fun _ _ _ h => h
theorem Mild.stuck {α : Type} : Mild (R.stuck : R α) := fun _ _ _ h => h
theorem Mild.calm {α : Type} : ∀ (m : R α), Mild m.calm
  | .ok _ => fun _ _ _ h => h
  | .err _ => fun _ _ _ h => h
  | .stuck => fun _ _ _ h => h
  | .roll n k => fun Q E E' h i hi => Mild.calm (k i) Q E E' (h i hi)
theorem Mild.bind {α β : Type} {m : R α} {k : α → R β} (h : Mild m) (q : ∀ a, Mild (k a)) : Mild (m >>= k) := fun Q E E' w =>
  Wp.of_bind (h _ E E' (w.bind.thn fun a z => q a Q E E' z))
theorem Mild.loopC (gd : D → LE → Option LE) (tt : LE → R Bool) (te : LE → R D) (r : LE) : ∀ ds, Mild (loopC gd tt te r ds)
  | [] => .ok _
  | d :: ds => by
    rw [loopC_cons]
    split
    · exact .stuck
    · refine Mild.bind (.calm _) fun b => ?_
      split
      · exact Mild.bind (.calm _) fun y => Mild.bind (Mild.loopC gd tt te r ds) fun ys => .ok _
      · exact Mild.loopC gd tt te r ds
def itKV (i : Nat) : LE → R (List D) := fun r => match r[i]? with
  | some (.val (.dic kvs)) => .ok (kvs.map (·.1))
  | _ => .stuck
section
variable {X : Cx} {G : Gm} {W : WX} {tg : Expr} {gd : D → LE → Option LE} {is vs : List Nat} {tt : LE → R Bool} {te : LE → R D} {dl : Addr}
theorem keys_at {S S' : Hp} : ∀ {kvs : List (D × D)} {kv : List (Key × V)}, RepK G dl S kvs kv → ∀ (i : Nat) {e : D} {k : Key} {v : V}, (kvs.map (·.1))[i]? = some e → kv[i]? = some (k, v) → Rep G dl S' e (kV k)
  | [], kv, h, i, e, k, v, he, h1 => by simp at he
  | (q1, q2) :: kvs, kv, h, i, e, k, v, he, h1 => by
    unfold RepK at h
    obtain ⟨x, w, t, rfl, hk1, _, hk2⟩ := h
    cases i with
    | zero =>
      cases he
      cases h1
      cases q1 <;> first | (cases hk1; done) | skip
      · cases hk1; exact Rep.int_
      · cases hk1; exact Rep.str_
    | succ i => exact keys_at hk2 i (by simpa using he) (by simpa using h1)
theorem walk_keys {d : Addr} {o : Obj} {kv : List (Key × V)} {kvs : List (D × D)} (hd : d ≠ dl) (hk : ∃ (S : Hp), RepK G dl S kvs kv) : WalkE G dl (Itk d o kv) (kvs.map (·.1)) (fun _ H => H d = some (.frz o (.dK kv))) where
  mono := fun Z Z' H H' _ g2 h => g2 d _ h hd (fun ps z => by cases z)
  go := fun i Z H h hi => by
    obtain ⟨S, hk⟩ := hk
    have := hk.length
    rw [List.length_map] at hi
    exact ⟨h, by omega⟩
  stop := fun i Z H h hi => by
    obtain ⟨S, hk⟩ := hk
    have := hk.length
    rw [List.length_map] at hi
    exact ⟨h, by omega⟩
  yld := fun i Z O r sg H x H' A h hy e he => by
    obtain ⟨rfl, k, v, h1, rfl⟩ := hy
    refine ⟨.refl _ _, A.gl, ?_⟩
    obtain ⟨S, hk⟩ := hk
    exact keys_at hk i he h1
theorem df_compK (i : Nat) {x : Str} {elt : Expr} {ifs : List Expr} {scope : Scope} {own : List (Str × Nat)} {p pos : Pos} (hc : X.calm = true) (hN : X.N.Nodup) (hx : X.N[i]? = some x) (hv : Vis X.env.scope x) (ok : BlkOk X.N X.env.scope scope own)
    (hg : ∀ (s : Shared) (H : Hp) (C : Addr) (cl : List (Str × Addr)) (fp : List Addr), DG (X.blk s H scope (compEnvC scope cl C X.env) fp) G tg gd is)
    (ht : ∀ (s : Shared) (H : Hp) (C : Addr) (cl : List (Str × Addr)) (fp : List Addr), DTs (X.blk s H scope (compEnvC scope cl C X.env) fp) G W0 ifs tt)
    (he : ∀ (s : Shared) (H : Hp) (C : Addr) (cl : List (Str × Addr)) (fp : List Addr), DE (X.blk s H scope (compEnvC scope cl C X.env) fp) G W0 elt te)
    (hsub : ∀ j ∈ is, j ∈ own.map (·.2)) (hs : ∀ z, foldedSetIterable (.Name x p) X.env z = pure z := by intro _; rfl) (hd : (x == ("__debug__" : Str)) = false := by decide) (hcd : (x == ("__classdict__" : Str)) = false := by decide) :
    DF X G W (.ListComp elt [⟨tg, .Name x p, ifs, 0⟩] scope pos) (compF (itKV i) gd tt te (own.map (·.2))) := by
  have P1 := pe_lc (pos := pos) (elt := elt) hc hN (pi_keys (tg := tg) (pe_var (pos := p) hx hv hd hcd)) ok hg ht he hs
  have P2 := pe_lock P1
  -- one walk over the locked dict
  have core : ∀ {sg : L2.St} {H : Hp} {Q : VK} {a : Addr} {o : Obj} {kv : List (Key × V)}, sg[i]? = some (some (.ref a)) → H a = some (.frz o (.dK kv)) → tF G (fun _ _ _ _ => False) (compF (itKV i) gd tt te (own.map (·.2))) sg H Q →
      tLc (iKeys (tVar i)) (tGd G gd is) (tT G W0 tt) (tD G W0 te) (own.map (·.2)) sg H Q := by
    intro sg H Q a o kv hsg hfr q
    have q3 := lc_core_d hsub q
    obtain ⟨dl', Z', O', r', A', q4⟩ := q3
    refine ⟨.ref a, hsg, a, o, rfl, .inl ⟨kv, hfr, ?_⟩⟩
    unfold itKV at q4
    split at q4
    case h_2 => exact q4.elim
    rename_i kvs hr
    obtain ⟨v, e1, rp⟩ := A'.slot i _ hr
    rw [hsg] at e1
    cases e1
    unfold Rep at rp
    obtain ⟨b, kv', eb, hrd, rk⟩ := rp
    cases eb
    have hz : a ∉ Z' := by
      rcases hrd with e | ⟨_, e⟩
      · exact (cut_some e).1
      · exact (cut_some e).1
    have ekv : kv' = kv := by
      rcases hrd with e | ⟨_, e⟩
      · have := (cut_some e).2; rw [hfr] at this; cases this
      · have := (cut_some e).2; rw [hfr] at this; cases this; rfl
    subst ekv
    exact q4 _ _ H (.refl _ _) A'.gl (walk_keys (kvs := kvs) (fun e => hz (by rw [e]; exact A'.dz)) ⟨_, rk⟩) hfr
  refine ⟨fun pins s sg H Q I q => ?_⟩
  obtain ⟨dl, Z, O, r, A, q⟩ := q
  have hmild : Wp (compF (itKV i) gd tt te (own.map (·.2)) r) (fun ds => ∀ p vs H', Grow dl H H' → GlOk G dl H' → H' p = none → RepL G dl (cut H' Z) ds vs → Q (.ref p) (upd H' p (.lst vs))) (fun _ => False) := by
    unfold compF at q ⊢
    unfold itKV at q ⊢
    split at q
    · rw [R.ok_bind] at q ⊢
      split
      · rename_i hl; rw [if_pos hl] at q; exact Mild.loopC _ _ _ _ _ _ _ _ q
      · rename_i hl; rw [if_neg hl] at q; exact q
    · exact q
  have hq := hmild
  unfold compF itKV at hq
  split at hq
  case h_2 => exact hq.elim
  rename_i kvs hr
  clear hq
  obtain ⟨v, hsg, rp⟩ := A.slot i _ hr
  unfold Rep at rp
  obtain ⟨a, kv, rfl, hrd, rk⟩ := rp
  rcases hrd with e | ⟨od, e⟩
  · obtain ⟨hz, e⟩ := cut_some e
    have had : a ≠ dl := fun e => hz (by rw [e]; exact A.dz)
    refine P2.run pins s sg H Q I ⟨a, .dK kv, e, trivial, fun od => core hsg upd_same ⟨dl, Z, O, r, A.lock e hz, hmild.mono (fun ds hds p vs H' g k hp rl => ?_) fun _ z => z.elim⟩⟩
    have hf : H' a = some (.frz od (.dK kv)) := g a _ upd_same had (fun ps z => by cases z)
    have hpa : a ≠ p := ne_of_none hf hp
    refine ⟨by rw [upd_ne hpa]; exact hf, ?_⟩
    rw [upd_comm hpa.symm]
    refine hds p vs (upd H' a (.dK kv)) (fun b u eb n nt => ?_) (k.repl had hf (fun _ z => by cases z) (.inr (.inr ⟨_, _, rfl⟩))) (by rw [upd_ne hpa.symm]; exact hp) (RepL.lk (lk_uncut hf) _ rl)
    by_cases hb : b = a
    · subst hb; rw [e] at eb; cases eb; exact upd_same
    · rw [upd_ne hb]
      exact g b u (by rw [upd_ne hb]; exact eb) n nt
  · obtain ⟨hz, e⟩ := cut_some e
    exact P1.run pins s sg H Q I (core hsg e ⟨dl, Z, O, r, A, hmild.mono (fun _ z => z) fun _ z => z.elim⟩)
end
theorem hu1 {k : Nat} {A : Around} (hr : Room k A) : A.units + 1 < cLine := by have := hr.un; omega
end DL
set_option Elab.async false
set_option linter.all false
set_option maxRecDepth 100000
namespace DL
open PySem L2 PySem.Spec PyProof.Rows
section
variable {X : Cx} {G : Gm} {W : WX} {a b c : Expr} {g h : LE → R D} {fk : LE → R Cell} {pos : Pos} {x y z : Str}
theorem ds_asg3o (i j l : Nat) (hG : G.K = X.K) (hc : X.calm = true) (hN : X.N.Nodup) {px py pz pt pt2 : Pos} {kt k2 : Nat} (hti : i ≠ 1000000) (ha : DK X G W a fk) (hb : DE X G W b g) (hd : DE X G W c h)
    (hi : X.N[i]? = some x := by rfl) (hj : X.N[j]? = some y := by rfl) (hl : X.N[l]? = some z := by rfl)
    (hx : Loc X.env.scope x := by first | exact Or.inl rfl | exact Or.inr rfl) (hy : Loc X.env.scope y := by first | exact Or.inl rfl | exact Or.inr rfl) (hz : Loc X.env.scope z := by first | exact Or.inl rfl | exact Or.inr rfl)
    (fx : X.fn x = true ∨ X.env.scope.names.lookup x = some .local := by first | exact .inl rfl | exact .inr rfl) (fy : X.fn y = true ∨ X.env.scope.names.lookup y = some .local := by first | exact .inl rfl | exact .inr rfl) (fz : X.fn z = true ∨ X.env.scope.names.lookup z = some .local := by first | exact .inl rfl | exact .inr rfl)
    (hs : swapsWithSole [.Tuple [.Name x px, .Name y py, .Name z pz] kt pt] (.Tuple [a, b, c] k2 pt2) pos.line X.env = pure false := by rfl) (hw : swappedStores [.Tuple [.Name x px, .Name y py, .Name z pz] kt pt] (.Tuple [a, b, c] k2 pt2) X.env = pure none := by rfl)
    (h1 : (assignEach [.Tuple [.Name x px, .Name y py, .Name z pz] kt pt] X.env).map (·.2) = [assign (.Tuple [.Name x px, .Name y py, .Name z pz] kt pt) X.env] := by rfl)
    (hn : (assignEach [.Name x px, .Name y py, .Name z pz] X.env).length = 3 := by rfl) (hst : (assignEach [.Name x px, .Name y py, .Name z pz] X.env).findIdx? (·.1) = none := by rfl)
    (t1 : (assignEach [.Name x px, .Name y py, .Name z pz] X.env).map (·.2) = assign (.Name x px) X.env :: (assignEach [.Name y py, .Name z pz] X.env).map (·.2) := by rfl)
    (t2 : (assignEach [.Name y py, .Name z pz] X.env).map (·.2) = assign (.Name y py) X.env :: (assignEach [.Name z pz] X.env).map (·.2) := by rfl)
    (t3 : (assignEach [.Name z pz] X.env).map (·.2) = assign (.Name z pz) X.env :: (assignEach [] X.env).map (·.2) := by rfl)
    (s1 : starEach [a, b, c] X.env = (false, eval a X.env) :: starEach [b, c] X.env := by rfl) (s2 : starEach [b, c] X.env = (false, eval b X.env) :: starEach [c] X.env := by rfl) (s3 : starEach [c] X.env = (false, eval c X.env) :: starEach [] X.env := by rfl) :
    DS X G W (.Assign [.Tuple [.Name x px, .Name y py, .Name z pz] kt pt] (.Tuple [a, b, c] k2 pt2) pos) (par3oS i j l fk g h) :=
  PS_imp (ps_asg (pe_tup (pa_cons ha (pa_cons hb (pa_cons hd pa_nil s3) s2) s1)) (pg_tup hc (pgs_cons (pg_name hN hi hx fx) (pgs_cons (pg_name hN hj hy fy) (pgs_cons (pg_name hN hl hz fz) pgs_nil t3) t2) t1) hn hst) hs hw h1) fun De sg H ⟨dl, Z, O, r, A, q⟩ => by
  have sub : ∀ {Hx : Hp} {p : Addr}, GrowS (cut Hx (p :: Z)) (cut Hx Z) := cut_sub fun a ha => List.mem_cons_of_mem _ ha
  have ntT : ∀ (xs : List V) ps, HO.tup xs ≠ .tbl ps := fun _ _ z => by cases z
  refine ⟨dl, Z, O, r, A, (onS_wp q).bind.mono (fun c1 q1 => ?_) fun e he => spost_ex A he⟩
  cases c1 with
  | un => exact q1.elim
  | val d1 =>
    intro v1 H1 g1 k1 r1
    have A1 := A.grow g1 k1
    refine ⟨dl, Z, O, r, A1, (onS_wp q1).mono (fun d2 q2 v2 H2 g2 k2 r2 => ?_) fun e he => epost g1 (spost_ex A he)⟩
    have A2 := A1.grow g2 k2
    refine ⟨dl, Z, O, r, A2, (onS_wp q2).mono (fun d3 q3 v3 H3 g3 k3 r3 => ?_) fun e he => epost (g1.trans g2) (spost_ex A he)⟩
    have A3 := A2.grow g3 k3
    refine ⟨by rw [sizeLine_eq]; show 3 ≤ 16777216; decide, fun t ht => ⟨t, [v1, v2, v3], rfl, .inl (.inl upd_same), rfl, v1, [v2, v3], rfl, v2, [v3], rfl, v3, [], rfl, rfl, ?_⟩⟩
    have g4 : Grow dl H3 (upd H3 t (.tup [v1, v2, v3])) := .new ht
    have k4 := k3.new (o := .tup [v1, v2, v3]) ht
    exact q3 Z O _ _ (Stp.of_grow (((g1.trans g2).trans g3).trans g4) k4) ((((A3.grow g4 k4).set_val i (r1.mono (((g2.trans g3).trans g4).cut A.dz))).set_val j (r2.mono ((g3.trans g4).cut A.dz))).set_val l (r3.mono (g4.cut A.dz)))
  | own d1 =>
    intro p o H1 g1 k1 hp ow hk
    obtain ⟨_, ho, nt⟩ := ow.notTbl
    cases ho
    have A1 := A.grow g1 k1
    have B1 := A1.aside hp nt
    have B2 := A1.set_own i hp ow (hk i hti)
    have hs1 : Stp dl Z O H (p :: Z) ((i, p) :: O) (upd H1 p o) := Stp.trans A (Stp.of_grow g1 k1) (Stp.new A1 hp hti)
    refine ⟨dl, p :: Z, O, r, B1, (onS_wp q1).mono (fun d2 q2 v2 H2 g2 k2 r2 => ?_) fun e he cls dx H2 g2 k2 xr => ?_⟩
    · have A2 := B1.grow g2 k2
      refine ⟨dl, p :: Z, O, r, A2, (onS_wp q2).mono (fun d3 q3 v3 H3 g3 k3 r3 => ?_) fun e he cls dx H3 g3 k3 xr => ?_⟩
      · refine ⟨by rw [sizeLine_eq]; show 3 ≤ 16777216; decide, fun t ht => ⟨t, [_, v2, v3], rfl, .inl (.inl upd_same), rfl, _, [v2, v3], rfl, v2, [v3], rfl, v3, [], rfl, rfl, ?_⟩⟩
        have g4 : Grow dl H3 (upd H3 t (.tup [.ref p, v2, v3])) := .new ht
        have k4 := k3.new (o := .tup [.ref p, v2, v3]) ht
        exact q3 _ _ _ _ (Stp.trans A hs1 (Stp.of_grow ((g2.trans g3).trans g4) k4)) (((B2.grow ((g2.trans g3).trans g4) k4).set_val j (r2.mono ((g3.trans g4).cut B1.dz))).set_val l (r3.mono (g4.cut B1.dz)))
      · exact spost_ex A he cls dx H3 (((g1.trans (.new hp)).trans g2).trans g3) k3 (xr.mono sub)
    · exact spost_ex A he cls dx H2 ((g1.trans (.new hp)).trans g2) k2 (xr.mono sub)
end
end DL
set_option Elab.async false
set_option linter.all false
set_option maxRecDepth 100000
namespace DL
open PySem
theorem onS_cf {α : Type} (r : LE) (k : α → R Out) : ∀ m : R α, (m.onS r k).calm >>= fin = m >>= fun a => (k a).calm >>= fin
  | .ok a => rfl
  | .err e => rfl
  | .stuck => rfl
  | .roll n f => by
    show R.roll n _ = R.roll n _
    congr 1
    funext i
    exact onS_cf r k (f i)
theorem onS_sq {α : Type} (r : LE) (k : α → R Out) (h : Out → R Out) (hx : ∀ e, h (.ex e r) = .ok (.ex e r)) : ∀ m : R α, ((m.onS r k) >>= h).calm >>= fin = m >>= fun a => ((k a) >>= h).calm >>= fin
  | .ok a => rfl
  | .err e => by
    show (h (.ex e r)).calm >>= fin = _
    rw [hx]
    rfl
  | .stuck => rfl
  | .roll n f => by
    show R.roll n _ = R.roll n _
    congr 1
    funext i
    exact onS_sq r k h hx (f i)
theorem R_as {α β γ : Type} (f : α → R β) (g : β → R γ) : ∀ m : R α, (m >>= f) >>= g = m >>= fun x => f x >>= g
  | .ok _ => rfl
  | .err _ => rfl
  | .stuck => rfl
  | .roll n k => by
    show R.roll n _ = R.roll n _
    congr 1
    funext i
    exact R_as f g (k i)
theorem abs_eq (i : Int) : absD [.int i] = .ok (.int (if i < 0 then -i else i)) := rfl
def absI (i : Int) : Int := if i < 0 then -i else i
theorem abs_eqI (i : Int) : absD [.int i] = .ok (.int (absI i)) := rfl
theorem max_eq (i j : Int) : maxL [.int i, .int j] = .ok (.int (if j > i then j else i)) := rfl
def maxI (i j : Int) : Int := if j > i then j else i
theorem max_eqI (i j : Int) : maxL [.int i, .int j] = .ok (.int (maxI i j)) := rfl
theorem in2_eq (x i j : Int) : inD (.int x) (.lst [.int i, .int j]) = .ok (.bl (i == x || j == x)) := by simp [inD, inB, D.sh, D.shs, D.eqb]
theorem notin2_eq (x i j : Int) : notInD (.int x) (.lst [.int i, .int j]) = .ok (.bl (!(i == x || j == x))) := by simp [notInD, inB, D.sh, D.shs, D.eqb]
end DL
set_option Elab.async false
set_option linter.all false
set_option maxRecDepth 100000
namespace DL
open PySem L2 PySem.Spec PyProof.Rows
def lenX : List D → R D
  | [.dic kvs] => .ok (.int kvs.length)
  | ds => lenD ds
section
variable {X : Cx} {G : Gm} {W : WX}
theorem cr_lenK : CallR X (.builtin "len") (fun xs H Q => ∃ (a : Addr) (kvs : List (Key × V)), xs = [.ref a] ∧ Rd H a (.dK kvs) ∧ Q (.int kvs.length) H) := by
  intro pins s sg H xs us Q I r h
  obtain ⟨a, kvs, rfl, e, q⟩ := h
  obtain ⟨u, rfl, ru⟩ := vals1 r
  obtain rfl : u = Value.ref a := ru
  exact d_len I e fun t s' I' => ⟨.int _, H, I', ⟨t, rfl⟩, q⟩
theorem cd_lenX (hG : G.K = X.K) : CallD X G (.builtin "len") lenX := by
  obtain ⟨rr, h1, h2⟩ := cd_len (X := X) (G := G) hG
  refine ⟨_, CallR.or cr_lenK h1, fun dl Z O r sg ds vs H Q E A rl h => ?_⟩
  unfold lenX at h
  split at h
  · obtain ⟨v, rfl, rp⟩ := rl.one
    obtain ⟨a, kv, rfl, hrd, rk⟩ := rp.dic
    refine .inl ⟨a, kv, rfl, hrd, ?_⟩
    rw [rk.length]
    exact h _ H (.refl _ _) A.gl Rep.int_
  · exact .inr (h2 dl Z O r sg ds vs H Q E A rl h)
end
/-- a loop by its invariant, with dice -/
theorem loopS_wp {gd : D → LE → Option LE} {body : LE → R Out} {Q : Out → Prop} {E : Exc → Prop} (Inv : Nat → LE → Prop) : ∀ (ds : List D) (i : Nat) (r : LE), Inv i r → (∀ j d r, ds[j]? = some d → Inv (i + j) r → ∃ r2, gd d r = some r2 ∧ Wp (body r2) (fun o => ∃ r3, o = .nx r3 ∧ Inv (i + j + 1) r3) E) →
    (∀ r, Inv (i + ds.length) r → Q (.nx r)) → Wp (loopS gd body ds r) Q E
  | [], i, r, h, _, q => q r h
  | d :: ds, i, r, h, hs, q => by
    obtain ⟨r2, e1, e2⟩ := hs 0 d r rfl h
    unfold loopS
    rw [e1]
    refine Wp.of_bind (e2.thn fun o ho => ?_)
    obtain ⟨r3, rfl, h3⟩ := ho
    refine loopS_wp Inv ds (i + 1) r3 h3 (fun j d' r'' hd hi => ?_) fun r hr => ?_
    · have := hs (j + 1) d' r'' (by simpa using hd) (by rw [show i + (j + 1) = i + 1 + j by omega]; exact hi)
      rw [show i + (j + 1) + 1 = i + 1 + j + 1 by omega] at this
      exact this
    · exact q r (by rw [List.length_cons, show i + (ds.length + 1) = i + 1 + ds.length by omega]; exact hr)
/-- a comprehension over dice: every item right -/
theorem loopC_wp {gd : D → LE → Option LE} {te : LE → R D} {r : LE} {E : Exc → Prop} (P : D → Prop) : ∀ (ds : List D) (Q : List D → Prop), (∀ d ∈ ds, ∃ r', gd d r = some r' ∧ Wp (te r') P (fun _ => False)) →
    (∀ ys : List D, ys.length = ds.length → (∀ y ∈ ys, P y) → Q ys) → Wp (loopC gd yesT te r ds) Q E
  | [], Q, _, q => q [] rfl (fun _ h => by cases h)
  | d :: ds, Q, h, q => by
    obtain ⟨r', h1, h2⟩ := h d List.mem_cons_self
    rw [loopC_cons, h1]
    dsimp only
    refine Wp.of_bind ?_
    rw [yesT_eq, calm_ok, Wp_ok, if_pos rfl]
    refine Wp.of_bind ?_
    have calm : ∀ {m : R D} {Q' : D → Prop}, Wp m Q' (fun _ => False) → Wp m.calm Q' E := fun {m} {Q'} hm => by
      induction m with
      | ok a => exact hm
      | err e => exact hm.elim
      | stuck => exact hm
      | roll n k ih => exact fun i hi => ih i (hm i hi)
    refine calm (h2.thn fun y hy => ?_)
    refine Wp.of_bind (loopC_wp P ds _ (fun x hx => h x (List.mem_cons_of_mem _ hx)) fun ys hl hys => ?_)
    refine q (y :: ys) (by rw [List.length_cons, List.length_cons, hl]) fun z hz => ?_
    rcases List.mem_cons.mp hz with rfl | hz
    · exact hy
    · exact hys z hz
end DL
set_option Elab.async false
set_option linter.all false
set_option maxRecDepth 100000
namespace DL
theorem Wp_onS {α : Type} {Q : Out → Prop} {r : LE} {k : α → R Out} : ∀ {m : R α}, Wp m (fun a => Wp (k a) Q (fun _ => False)) (fun e => Q (.ex e r)) → Wp (m.onS r k) Q (fun _ => False)
  | .ok _, h => h
  | .err _, h => h
  | .stuck, h => h
  | .roll _ _, h => fun i hi => Wp_onS (h i hi)
theorem Wp_seq {F K : LE → R Out} {r : LE} {Q : Out → Prop} : Wp (F r) (fun o => match o with
    | .nx r' => Wp (K r') Q (fun _ => False)
    | o => Q o) (fun _ => False) → Wp (seqS F K r) Q (fun _ => False) := fun h => by
  rw [seqS_eq]
  refine Wp.of_bind (h.thn fun o ho => ?_)
  cases o <;> exact ho
theorem Wp_setK {i : Nat} {f : LE → R D} {r : LE} {Q : Out → Prop} (h : Wp (f r) (fun d => Q (.nx (r.set i (.val d)))) (fun e => Q (.ex e r))) : Wp (setK i (valK f) r) Q (fun _ => False) := by
  rw [setK_eq, valK_eq]
  refine Wp_onS ?_
  refine Wp.of_bind (Wp.of_bind (h.thn fun d hd => ?_))
  exact hd
theorem Wp_fin {Q : D → Prop} {E : Exc → Prop} : ∀ {m : R Out}, Wp m (fun o => Wp (fin o) Q E) (fun _ => False) → Wp (m.calm >>= fin) Q E
  | .ok o, h => h
  | .err e, h => h.elim
  | .stuck, h => h.elim
  | .roll m k, h => fun i hi => Wp_fin (h i hi)
theorem roll_eq (m : Nat) (h : 0 < m) (h2 : m < 1000000000) : rollD [.dice, .int (m : Nat)] = .roll m fun i => .ok (.int (i : Nat)) := by
  simp only [rollD]
  rw [if_pos ⟨by omega, by omega⟩]
  rfl
structure Sure (m : R Out) (Q : Out → Prop) : Prop where
  h : Wp m Q (fun _ => False)
/-- the ends of a body: ways P lets through -/
structure Go (P : Out → Prop) (F : LE → R Out) (r : LE) : Prop where
  h : Wp (F r) P (fun _ => False)
theorem Go.cons {P : Out → Prop} {S F K : LE → R Out} {r r2 : LE} (e : S = seqS F K) (h : F r = .ok (.nx r2)) (k : Go P K r2) : Go P S r := by
  subst e
  refine ⟨Wp_seq ?_⟩
  rw [h]
  exact k.h
theorem Go.nxt {P : Out → Prop} {S F K : LE → R Out} {r : LE} (e : S = seqS F K) (h : ∀ Q : Out → Prop, (∀ r2, Go P K r2 → Q (.nx r2)) → Sure (F r) Q) : Go P S r := by
  subst e
  exact ⟨Wp_seq (h _ fun r2 k => k.h).h⟩
theorem Go.last {P : Out → Prop} {F : LE → R Out} {r : LE} {o : Out} (h : F r = .ok o) (k : P o) : Go P F r := ⟨by
  rw [h]
  exact k⟩
theorem for_roll {n : Nat} {fi : LE → R (List D)} {gd : D → LE → Option LE} {body : LE → R Out} {r : LE} {Q : Out → Prop} {ff : Nat → R (List D)} {rg : Nat → List D} (h : fi r = .roll n ff) (hf : ∀ m, m < n → ff m = .ok (rg m)) (q : ∀ m, m < n → Sure (loopS gd body (rg m) r) Q) : Sure (forS fi gd body r) Q := by
  refine ⟨?_⟩
  rw [forS_eq, h]
  intro m hm
  show Wp ((ff m).onS _ _) _ _
  rw [hf m hm]
  exact (q m hm).h
theorem call1 {F : List D → R D} {f1 : LE → R D} {r : LE} {x : D} (h1 : f1 r = .ok x) : callE F (acons f1 anil) r = F [x] := by
  rw [callE_eq, acons_eq, h1]; rfl
theorem call2 {F : List D → R D} {f1 f2 : LE → R D} {r : LE} {x y : D} (h1 : f1 r = .ok x) (h2 : f2 r = .ok y) : callE F (acons f1 (acons f2 anil)) r = F [x, y] := by
  rw [callE_eq, acons_eq, h1, R.ok_bind, acons_eq, h2]; rfl
theorem call3 {F : List D → R D} {f1 f2 f3 : LE → R D} {r : LE} {x y z : D} (h1 : f1 r = .ok x) (h2 : f2 r = .ok y) (h3 : f3 r = .ok z) : callE F (acons f1 (acons f2 (acons f3 anil))) r = F [x, y, z] := by
  rw [callE_eq, acons_eq, h1, R.ok_bind, acons_eq, h2, R.ok_bind, acons_eq, h3]; rfl
theorem call4 {F : List D → R D} {f1 f2 f3 f4 : LE → R D} {r : LE} {x y z u : D} (h1 : f1 r = .ok x) (h2 : f2 r = .ok y) (h3 : f3 r = .ok z) (h4 : f4 r = .ok u) : callE F (acons f1 (acons f2 (acons f3 (acons f4 anil)))) r = F [x, y, z, u] := by
  rw [callE_eq, acons_eq, h1, R.ok_bind, acons_eq, h2, R.ok_bind, acons_eq, h3, R.ok_bind, acons_eq, h4]; rfl
theorem opE_ok {g : D → D → R D} {f k : LE → R D} {r : LE} {x y : D} {o : R D} (hf : f r = .ok x) (hk : k r = .ok y) (h : g x y = o) : opE g f k r = o := by
  rw [opE_eq, hf, R.ok_bind, hk, R.ok_bind, h]
theorem subE_ok {f k : LE → R D} {r : LE} {x y : D} {o : R D} (hf : f r = .ok x) (hk : k r = .ok y) (h : subI x y = o) : subE f k r = o := by
  rw [subE_eq, hf, R.ok_bind, hk, R.ok_bind, h]
theorem kbm1 {d x : D} {gg : D → List D → R D} {f : LE → R D} {r : LE} (h : f r = .ok x) : kbmE d gg (acons f anil) r = gg d [x] := by
  rw [kbmE_eq, acons_eq, h]; rfl
abbrev Done (o : Out) : Prop := ∃ r, o = .nx r ∨ o = .ct r
end DL
set_option Elab.async false
set_option linter.all false
set_option maxRecDepth 100000
namespace K14
open PySem L2 DL LamX PySem.Spec PyProof.Rows
def top (i : Nat) : Stmt := PySem.Challenge.pw_flaghall_k14_winds.main.body.getD i (.Pass ⟨0, 0, 0, 0⟩)
abbrev s_law_dice : Stmt := top 26
abbrev s_law_roll : Stmt := top 27
abbrev s_law_rounds : Stmt := top 28
abbrev s_law_told : Stmt := top 29
abbrev s_law_way : Stmt := top 30
abbrev s_way_between : Stmt := top 16
abbrev s_eighth_of : Stmt := top 14
abbrev s_shows_side : Stmt := top 17
abbrev s_reads_in_wind : Stmt := top 18
abbrev s_law_reads : Stmt := top 31
abbrev s_streams_to : Stmt := top 15
abbrev s_readers : Stmt := top 19
abbrev s_told_by_repeats : Stmt := top 20
abbrev s_law_known : Stmt := top 32
abbrev s_best_wind : Stmt := top 21
abbrev s_Air_init : Stmt := inClass (top 22) 0
abbrev s_Air_felt : Stmt := inClass (top 22) 1
abbrev s_Air_key : Stmt := inClass (top 22) 7
abbrev s_Air_true_air : Stmt := inClass (top 22) 2
abbrev s_Air_squared_force : Stmt := inClass (top 22) 3
abbrev s_Air_is_calm : Stmt := inClass (top 22) 4
abbrev s_Air_helps : Stmt := inClass (top 22) 6
abbrev s_score : Stmt := top 23
abbrev s_Air_comes_from : Stmt := inClass (top 22) 5
abbrev s_backs_or_veers : Stmt := top 24
abbrev s_law_rest1 : Stmt := top 33
abbrev s_law : Stmt := top 34
structure Adr where
  f_law_dice : Addr
  f_law_roll : Addr
  f_law_rounds : Addr
  f_law_told : Addr
  f_law_way : Addr
  f_way_between : Addr
  f_eighth_of : Addr
  f_shows_side : Addr
  f_reads_in_wind : Addr
  f_law_reads : Addr
  f_streams_to : Addr
  f_readers : Addr
  f_told_by_repeats : Addr
  f_law_known : Addr
  f_best_wind : Addr
  f_Air_init : Addr
  f_Air_felt : Addr
  f_Air_key : Addr
  f_Air_true_air : Addr
  f_Air_squared_force : Addr
  f_Air_is_calm : Addr
  f_Air_helps : Addr
  f_score : Addr
  f_Air_comes_from : Addr
  f_backs_or_veers : Addr
  f_law_rest1 : Addr
  f_law : Addr
  c_Air : Addr
  x_BadBook : Addr
  x_BadFlag : Addr
  x_BadFleet : Addr
  x_BadHoist : Addr
  x_Foul : Addr
  x_NoWay : Addr
  x_TooLarge : Addr
  x_Unclear : Addr
  x_BadText : Addr
  k_law_rest1 : Addr
  t_law_rest1 : Addr
  k_law : Addr
  t_law : Addr
def flds : Nat → List Str
  | 0 => ["down", "right"]
  | _ => []
def clsA (a : Adr) : Nat → Addr
  | 0 => a.c_Air
  | _ => 0
def excA (a : Adr) : Nat → Addr
  | 3 => a.x_BadBook
  | 1 => a.x_BadFlag
  | 4 => a.x_BadFleet
  | 2 => a.x_BadHoist
  | 5 => a.x_Foul
  | 7 => a.x_NoWay
  | 8 => a.x_TooLarge
  | 6 => a.x_Unclear
  | 9 => a.x_BadText
  | _ => 0
def excF : Nat → Option Str
  | 5 => some "step"
  | 6 => some "many"
  | 9 => some "row"
  | _ => none
def tabsA (a : Adr) : List (Addr × Str) := [(a.t_law_rest1, ("_law_rest1" : Str) ++ ".<locals>." ++ "<lambda>"), (a.t_law, ("law" : Str) ++ ".<locals>." ++ "<lambda>")]
abbrev gm (K : PySem.W.Frag) (w : World) (a : Adr) : Gm := { K := K, w := w, cls := clsA a, flds := flds, fns := fun _ => 0, xcls := excA a, xfld := excF, tabs := tabsA a }
theorem hsz : ∀ c, (flds c).length ≤ 900 := fun c => by unfold flds; split <;> decide
def fx_down : Nat → Option Nat
  | 0 => some 0
  | _ => none
def fx_right : Nat → Option Nat
  | 0 => some 1
  | _ => none
def d_EIGHTS : D := .tup [.str [110], .str [110, 101], .str [101], .str [115, 101], .str [115], .str [115, 119], .str [119], .str [110, 119]]
def d_STEPS : D := .tup [.tup [.int (-1), .int 0], .tup [.int (-1), .int 1], .tup [.int 0, .int 1], .tup [.int 1, .int 1], .tup [.int 1, .int 0], .tup [.int 1, .int (-1)], .tup [.int 0, .int (-1)], .tup [.int (-1), .int (-1)]]
def toldL : List (Nat × List Nat) := [(3, [98, 111, 111, 107]), (1, [102, 108, 97, 103]), (4, [102, 108, 101, 101, 116]), (2, [104, 111, 105, 115, 116]), (5, [102, 111, 117, 108]), (7, [110, 111, 32, 119, 97, 121]), (8, [108, 97, 114, 103, 101]), (6, [117, 110, 99, 108, 101, 97, 114]), (9, [116, 101, 120, 116])]
def FunL (K : PySem.W.Frag) (x : Str) (st : Stmt) (f : Addr) (ps : List Str) : Prop := ∃ (oc : Value) (od : Option Addr) (kV doc pm : Value) (an : Option Addr) (cdv ct : Value) (osl : Array (Option Value)),
  K.lookup f = some ⟨oc, od, .func (PySem.W.fnOf x x (defArgs st) (defBody st) (defScope st) .none kV doc pm an cdv ct), osl⟩ ∧ PySem.W.codeIn K cdv x = true ∧ PySem.W.keepIn K (.ref f) = true ∧ L2.Binds K (PySem.W.fnOf x x (defArgs st) (defBody st) (defScope st) .none kV doc pm an cdv ct) ps []
/-- what the head knows -/
structure Txt (w : World) (K : PySem.W.Frag) (mg : Str → Option Value) (base : Heap) (a : Adr) : Prop where
  b_range : mg "range" = none
  b_abs : mg "abs" = none
  b_max : mg "max" = none
  b_sorted : mg "sorted" = none
  b_tuple : mg "tuple" = none
  b_list : mg "list" = none
  b_len : mg "len" = none
  b_min : mg "min" = none
  b_int : mg "int" = none
  g_law_dice : mg "_law_dice" = some (.ref a.f_law_dice)
  e_law_dice : FunE K "_law_dice" "_law_dice" s_law_dice a.f_law_dice ["cell"]
  g_law_roll : mg "_law_roll" = some (.ref a.f_law_roll)
  e_law_roll : FunE K "_law_roll" "_law_roll" s_law_roll a.f_law_roll ["dice", "many"]
  g_law_rounds : mg "_law_rounds" = some (.ref a.f_law_rounds)
  e_law_rounds : FunE K "_law_rounds" "_law_rounds" s_law_rounds a.f_law_rounds ["script", "most"]
  g_law_told : mg "_law_told" = some (.ref a.f_law_told)
  l_told : FunL K "_law_told" s_law_told a.f_law_told ["what"]
  g_law_way : mg "_law_way" = some (.ref a.f_law_way)
  e_law_way : FunE K "_law_way" "_law_way" s_law_way a.f_law_way ["one", "other"]
  g_way_between : mg "way_between" = some (.ref a.f_way_between)
  e_way_between : FunE K "way_between" "way_between" s_way_between a.f_way_between ["one", "other"]
  g_eighth_of : mg "eighth_of" = some (.ref a.f_eighth_of)
  e_eighth_of : FunE K "eighth_of" "eighth_of" s_eighth_of a.f_eighth_of ["name"]
  g_shows_side : mg "shows_side" = some (.ref a.f_shows_side)
  e_shows_side : FunE K "shows_side" "shows_side" s_shows_side a.f_shows_side ["wind", "one", "other"]
  g_reads_in_wind : mg "reads_in_wind" = some (.ref a.f_reads_in_wind)
  e_reads_in_wind : FunE K "reads_in_wind" "reads_in_wind" s_reads_in_wind a.f_reads_in_wind ["wind", "one", "other", "reach"]
  g_law_reads : mg "_law_reads" = some (.ref a.f_law_reads)
  e_law_reads : FunE K "_law_reads" "_law_reads" s_law_reads a.f_law_reads ["wind", "one", "other", "reach"]
  g_streams_to : mg "streams_to" = some (.ref a.f_streams_to)
  e_streams_to : FunE K "streams_to" "streams_to" s_streams_to a.f_streams_to ["wind"]
  g_readers : mg "readers" = some (.ref a.f_readers)
  e_readers : FunE K "readers" "readers" s_readers a.f_readers ["wind", "ships", "name", "reach"]
  g_told_by_repeats : mg "told_by_repeats" = some (.ref a.f_told_by_repeats)
  e_told_by_repeats : FunE K "told_by_repeats" "told_by_repeats" s_told_by_repeats a.f_told_by_repeats ["wind", "ships", "start", "reach"]
  g_law_known : mg "_law_known" = some (.ref a.f_law_known)
  e_law_known : FunE K "_law_known" "_law_known" s_law_known a.f_law_known ["wind", "ships", "start", "reach"]
  g_best_wind : mg "best_wind" = some (.ref a.f_best_wind)
  e_best_wind : FunE K "best_wind" "best_wind" s_best_wind a.f_best_wind ["ships", "start", "reach"]
  e_Air_init : FunE K "__init__" "Air.__init__" s_Air_init a.f_Air_init ["self", "down", "right"]
  mk_Air : Mk K a.c_Air a.f_Air_init
  e_Air_felt : FunE K "felt" "Air.felt" s_Air_felt a.f_Air_felt ["self", "steps"]
  mt_Air_felt : Meth K a.c_Air "felt" a.f_Air_felt
  e_Air_key : FunE K "key" "Air.key" s_Air_key a.f_Air_key ["self"]
  mt_Air_key : Meth K a.c_Air "key" a.f_Air_key
  e_Air_true_air : FunE K "true_air" "Air.true_air" s_Air_true_air a.f_Air_true_air ["self", "steps"]
  mt_Air_true_air : Meth K a.c_Air "true_air" a.f_Air_true_air
  e_Air_squared_force : FunE K "squared_force" "Air.squared_force" s_Air_squared_force a.f_Air_squared_force ["self"]
  mt_Air_squared_force : Meth K a.c_Air "squared_force" a.f_Air_squared_force
  e_Air_is_calm : FunE K "is_calm" "Air.is_calm" s_Air_is_calm a.f_Air_is_calm ["self"]
  mt_Air_is_calm : Meth K a.c_Air "is_calm" a.f_Air_is_calm
  e_Air_helps : FunE K "helps" "Air.helps" s_Air_helps a.f_Air_helps ["self", "steps"]
  mt_Air_helps : Meth K a.c_Air "helps" a.f_Air_helps
  g_score : mg "score" = some (.ref a.f_score)
  e_score : FunE K "score" "score" s_score a.f_score ["up", "right", "eighth"]
  e_Air_comes_from : FunE K "comes_from" "Air.comes_from" s_Air_comes_from a.f_Air_comes_from ["self"]
  mt_Air_comes_from : Meth K a.c_Air "comes_from" a.f_Air_comes_from
  g_backs_or_veers : mg "backs_or_veers" = some (.ref a.f_backs_or_veers)
  e_backs_or_veers : FunE K "backs_or_veers" "backs_or_veers" s_backs_or_veers a.f_backs_or_veers ["winds"]
  g_law_rest1 : mg "_law_rest1" = some (.ref a.f_law_rest1)
  e_law_rest1 : FunC K "_law_rest1" "_law_rest1" s_law_rest1 a.f_law_rest1 a.k_law_rest1 ["dice", "ships", "wind"]
  g_law : mg "law" = some (.ref a.f_law)
  e_law : FunC K "law" "law" s_law a.f_law a.k_law ["script"]
  g_Air : mg "Air" = some (.ref a.c_Air)
  c_Air : Cls K a.c_Air
  n_Air_down : NoAttr K a.c_Air "down"
  n_Air_right : NoAttr K a.c_Air "right"
  x_BadBook : PySem.W.excIn K a.x_BadBook [.type "ValueError", .type "Exception", .type "BaseException", .type "object"] "ValueError.__new__" = true ∧ mg "BadBook" = some (.ref a.x_BadBook) ∧ PySem.W.keepIn K (.ref a.x_BadBook) = true ∧ PySem.W.subIn K (.ref a.x_BadBook) (.type "BaseException") = some true ∧ PySem.W.typeIn K (.ref a.x_BadBook) = some (.type "type")
  x_BadFlag : PySem.W.excIn K a.x_BadFlag [.type "ValueError", .type "Exception", .type "BaseException", .type "object"] "ValueError.__new__" = true ∧ mg "BadFlag" = some (.ref a.x_BadFlag) ∧ PySem.W.keepIn K (.ref a.x_BadFlag) = true ∧ PySem.W.subIn K (.ref a.x_BadFlag) (.type "BaseException") = some true ∧ PySem.W.typeIn K (.ref a.x_BadFlag) = some (.type "type")
  x_BadFleet : PySem.W.excIn K a.x_BadFleet [.type "ValueError", .type "Exception", .type "BaseException", .type "object"] "ValueError.__new__" = true ∧ mg "BadFleet" = some (.ref a.x_BadFleet) ∧ PySem.W.keepIn K (.ref a.x_BadFleet) = true ∧ PySem.W.subIn K (.ref a.x_BadFleet) (.type "BaseException") = some true ∧ PySem.W.typeIn K (.ref a.x_BadFleet) = some (.type "type")
  x_BadHoist : PySem.W.excIn K a.x_BadHoist [.type "ValueError", .type "Exception", .type "BaseException", .type "object"] "ValueError.__new__" = true ∧ mg "BadHoist" = some (.ref a.x_BadHoist) ∧ PySem.W.keepIn K (.ref a.x_BadHoist) = true ∧ PySem.W.subIn K (.ref a.x_BadHoist) (.type "BaseException") = some true ∧ PySem.W.typeIn K (.ref a.x_BadHoist) = some (.type "type")
  x_Foul : mg "Foul" = some (.ref a.x_Foul)
  x_NoWay : PySem.W.excIn K a.x_NoWay [.type "ValueError", .type "Exception", .type "BaseException", .type "object"] "ValueError.__new__" = true ∧ mg "NoWay" = some (.ref a.x_NoWay) ∧ PySem.W.keepIn K (.ref a.x_NoWay) = true ∧ PySem.W.subIn K (.ref a.x_NoWay) (.type "BaseException") = some true ∧ PySem.W.typeIn K (.ref a.x_NoWay) = some (.type "type")
  x_TooLarge : PySem.W.excIn K a.x_TooLarge [.type "ValueError", .type "Exception", .type "BaseException", .type "object"] "ValueError.__new__" = true ∧ mg "TooLarge" = some (.ref a.x_TooLarge) ∧ PySem.W.keepIn K (.ref a.x_TooLarge) = true ∧ PySem.W.subIn K (.ref a.x_TooLarge) (.type "BaseException") = some true ∧ PySem.W.typeIn K (.ref a.x_TooLarge) = some (.type "type")
  x_Unclear : mg "Unclear" = some (.ref a.x_Unclear)
  x_BadText : mg "BadText" = some (.ref a.x_BadText)
  exm : ExmOk K (gm K w a) (toldL.map (·.1))
  v_EIGHTS : GlD (gm K w a) mg "EIGHTS" d_EIGHTS
  v_STEPS : GlD (gm K w a) mg "STEPS" d_STEPS
  kt_STEPS : KtD (gm K w a) mg "STEPS" d_STEPS
  kt_EIGHTS : KtD (gm K w a) mg "EIGHTS" d_EIGHTS
  tb_law_rest1 : TabB base mg a.k_law_rest1 a.t_law_rest1
  tb_law : TabB base mg a.k_law a.t_law
  ne_law_rest1_law : a.t_law_rest1 ≠ a.t_law
theorem sc_law_dice : FnScope ["cell"] ["cell"] (defScope s_law_dice) := ⟨rfl, rfl, rfl, by decide +kernel, rfl, by decide +kernel, by decide +kernel⟩
theorem sc_law_roll : FnScope ["dice", "many", "found"] ["dice", "many"] (defScope s_law_roll) := ⟨rfl, rfl, rfl, by decide +kernel, rfl, by decide +kernel, by decide +kernel⟩
theorem sc_law_rounds : FnScope ["script", "most", "cells", "cell"] ["script", "most"] (defScope s_law_rounds) := ⟨rfl, rfl, rfl, by decide +kernel, rfl, by decide +kernel, by decide +kernel⟩
theorem sc_law_told : FnScope ["what"] ["what"] (defScope s_law_told) := ⟨rfl, rfl, rfl, by decide +kernel, rfl, by decide +kernel, by decide +kernel⟩
theorem sc_law_way : FnScope ["one", "other", "down", "right"] ["one", "other"] (defScope s_law_way) := ⟨rfl, rfl, rfl, by decide +kernel, rfl, by decide +kernel, by decide +kernel⟩
theorem sc_way_between : FnScope ["one", "other", "down", "right", "size"] ["one", "other"] (defScope s_way_between) := ⟨rfl, rfl, rfl, by decide +kernel, rfl, by decide +kernel, by decide +kernel⟩
theorem sc_eighth_of : FnScope ["name"] ["name"] (defScope s_eighth_of) := ⟨rfl, rfl, rfl, by decide +kernel, rfl, by decide +kernel, by decide +kernel⟩
theorem sc_shows_side : FnScope ["wind", "one", "other", "gap"] ["wind", "one", "other"] (defScope s_shows_side) := ⟨rfl, rfl, rfl, by decide +kernel, rfl, by decide +kernel, by decide +kernel⟩
theorem sc_reads_in_wind : FnScope ["wind", "one", "other", "reach", "far", "side"] ["wind", "one", "other", "reach"] (defScope s_reads_in_wind) := ⟨rfl, rfl, rfl, by decide +kernel, rfl, by decide +kernel, by decide +kernel⟩
theorem sc_law_reads : FnScope ["wind", "one", "other", "reach", "order", "way", "gap", "far"] ["wind", "one", "other", "reach"] (defScope s_law_reads) := ⟨rfl, rfl, rfl, by decide +kernel, rfl, by decide +kernel, by decide +kernel⟩
theorem sc_streams_to : FnScope ["wind"] ["wind"] (defScope s_streams_to) := ⟨rfl, rfl, rfl, by decide +kernel, rfl, by decide +kernel, by decide +kernel⟩
theorem sc_readers : FnScope ["wind", "ships", "name", "reach", "found", "other"] ["wind", "ships", "name", "reach"] (defScope s_readers) := ⟨rfl, rfl, rfl, by decide +kernel, rfl, by decide +kernel, by decide +kernel⟩
theorem sc_told_by_repeats : FnScope ["wind", "ships", "start", "reach", "seen", "work", "here", "other"] ["wind", "ships", "start", "reach"] (defScope s_told_by_repeats) := ⟨rfl, rfl, rfl, by decide +kernel, rfl, by decide +kernel, by decide +kernel⟩
theorem sc_law_known : FnScope ["wind", "ships", "start", "reach", "known", "turn", "name", "one"] ["wind", "ships", "start", "reach"] (defScope s_law_known) := ⟨rfl, rfl, rfl, by decide +kernel, rfl, by decide +kernel, by decide +kernel⟩
theorem sc_best_wind : FnScope ["ships", "start", "reach", "counts", "wind"] ["ships", "start", "reach"] (defScope s_best_wind) := ⟨rfl, rfl, rfl, by decide +kernel, rfl, by decide +kernel, by decide +kernel⟩
theorem sc_Air_init : FnScope ["self", "down", "right"] ["self", "down", "right"] (defScope s_Air_init) := ⟨rfl, rfl, rfl, by decide +kernel, rfl, by decide +kernel, by decide +kernel⟩
theorem sc_Air_felt : FnScope ["self", "steps"] ["self", "steps"] (defScope s_Air_felt) := ⟨rfl, rfl, rfl, by decide +kernel, rfl, by decide +kernel, by decide +kernel⟩
theorem sc_Air_key : FnScope ["self"] ["self"] (defScope s_Air_key) := ⟨rfl, rfl, rfl, by decide +kernel, rfl, by decide +kernel, by decide +kernel⟩
theorem sc_Air_true_air : FnScope ["self", "steps"] ["self", "steps"] (defScope s_Air_true_air) := ⟨rfl, rfl, rfl, by decide +kernel, rfl, by decide +kernel, by decide +kernel⟩
theorem sc_Air_squared_force : FnScope ["self"] ["self"] (defScope s_Air_squared_force) := ⟨rfl, rfl, rfl, by decide +kernel, rfl, by decide +kernel, by decide +kernel⟩
theorem sc_Air_is_calm : FnScope ["self"] ["self"] (defScope s_Air_is_calm) := ⟨rfl, rfl, rfl, by decide +kernel, rfl, by decide +kernel, by decide +kernel⟩
theorem sc_Air_helps : FnScope ["self", "steps", "along"] ["self", "steps"] (defScope s_Air_helps) := ⟨rfl, rfl, rfl, by decide +kernel, rfl, by decide +kernel, by decide +kernel⟩
theorem sc_score : FnScope ["up", "right", "eighth", "down", "across", "part"] ["up", "right", "eighth"] (defScope s_score) := ⟨rfl, rfl, rfl, by decide +kernel, rfl, by decide +kernel, by decide +kernel⟩
theorem sc_Air_comes_from : FnScope ["self", "up", "right", "best", "k", "top", "places", "one"] ["self"] (defScope s_Air_comes_from) := ⟨rfl, rfl, rfl, by decide +kernel, rfl, by decide +kernel, by decide +kernel⟩
theorem sc_backs_or_veers : FnScope ["winds", "words", "k"] ["winds"] (defScope s_backs_or_veers) := ⟨rfl, rfl, rfl, by decide +kernel, rfl, by decide +kernel, by decide +kernel⟩
theorem sc_law_rest1 : FnScope ["dice", "ships", "wind", "air", "steps", "felt", "along", "tops", "k", "straight", "winds", "gaps", "gap"] ["dice", "ships", "wind"] (defScope s_law_rest1) := ⟨rfl, rfl, rfl, by decide +kernel, rfl, by decide +kernel, by decide +kernel⟩
theorem sc_law : FnScope ["script", "dice", "ships", "wind", "reach", "k", "spot", "one", "other", "way", "gap", "start", "name", "counts", "blown"] ["script"] (defScope s_law) := ⟨rfl, rfl, rfl, by decide +kernel, rfl, by decide +kernel, by decide +kernel⟩
section
variable {P : Program} {w : World} {K : PySem.W.Frag} {mg : Str → Option Value} {base : Heap} {G : Gm} {a : Adr}
theorem ok_roll {f : Addr} {fd : FuncData} (F : Fun K "_law_roll" "_law_roll" s_law_roll f fd) (mi : mg "int" = none) : FnOk P w K mg base (L2.CX P w) 1 f fd ["dice", "many"] (spD G 2 rollD) := by
  refine F.okX sc_law_roll (fun vs H Q E h => h.1) (fun cdv A outer s H vs Q E hr h => ?_)
  obtain ⟨hl, dl, Z, ds, gl, dz, live, rl, hw⟩ := h
  obtain ⟨m, x, y, z, rfl, m0, m1, hd, k⟩ := roll_of gl dz rl hw
  refine ⟨_, pss_cons (ps_if (pw_or (pt_cmpR op_eq (pe_ix ix_list (pv 0) pe_int fun _ _ => rfl) pe_int (nomark _)) (pw_or1 (pw_and (pt_cmpR op_eq (pe_ix ix_list (pv 0) pe_int fun _ _ => rfl) pe_int (nomark _)) (pw_and1 (pt_cmpR op_gt (pe_ix ix_list (pv 0) pe_int fun _ _ => rfl) pe_int (nomark _)))).pt)).pt
      (pss_cons (ps_set (i := 2) sc_law_roll.nd rfl (Or.inl rfl) (pe_op op_mod (pe_callTy call_int1 rfl mi rfl (pa_cons (pe_ix ix_list (pv 0) pe_int fun _ _ => rfl) pa_nil)) (pv 1)))
        (pss_cons (ps_asg (pe_op op_fdiv (pe_ix ix_list (pv 0) pe_int fun _ _ => rfl) (pv 1)) (pg_sub (pv 0) pe_int set_list))
          (pss_one (ps_ret (pv 2))))) pss_nil)
    (pss_cons (ps_asg pe_int (pg_sub (pv 0) pe_int set_list))
      (pss_cons (ps_asg (pe_op op_mod (pe_callTy call_int1 rfl mi rfl (pa_cons (pe_op op_add (pe_op op_add (pe_op op_mul (pe_ix ix_list (pv 0) pe_int fun _ _ => rfl) pe_int) (pe_op op_mul (pe_ix ix_list (pv 0) pe_int fun _ _ => rfl) pe_int)) pe_int) pa_nil)) pe_int) (pg_sub (pv 0) pe_int set_list))
        (pss_cons (ps_asg (pe_op op_add (pe_ix ix_list (pv 0) pe_int fun _ _ => rfl) pe_int) (pg_sub (pv 0) pe_int set_list))
          (pss_one (ps_ret (pe_op op_mod (pe_callTy call_int1 rfl mi rfl (pa_cons (pe_op op_add (pe_op op_fdiv (pe_ix ix_list (pv 0) pe_int fun _ _ => rfl) pe_int) (pe_ix ix_list (pv 0) pe_int fun _ _ => rfl)) pa_nil)) (pv 1))))))), ?_⟩
  have hm1 : m < 1073741824 := by omega
  have r0 : 0 ≤ x % m := Int.emod_nonneg _ (by omega)
  have r1 : x % m < m := Int.emod_lt_of_pos _ m0
  refine ⟨_, rfl, dl, _, _, _, rfl, rfl, SqL.of hd, rfl, rfl, _, rfl, ?_⟩
  refine ite2 (fun _ => ite2 (fun _ => ?y1) (fun h => absurd rfl h)) (fun _ => ⟨_, rfl, dl, _, _, _, rfl, rfl, SqL.of hd, rfl, rfl, _, rfl, ite2 (fun _ => ⟨_, rfl, dl, _, _, _, rfl, rfl, SqL.of hd, rfl, _, _, rfl, rfl, _, rfl, ite2 (fun _ => ?y2) (fun _ => ?n1)⟩) (fun _ => ite2 (fun h => nomatch h) (fun _ => ?n2))⟩)
  case y1 =>
    refine ⟨_, rfl, dl, _, _, _, rfl, rfl, SqL.of hd, rfl, .inl ⟨_, rfl, _, rfl, _, _, rfl, rfl, m0, ?_⟩⟩
    refine ⟨_, rfl, dl, _, _, _, rfl, rfl, SqL.of hd, rfl, _, rfl, _, _, rfl, rfl, ⟨m0, hm1⟩, _, rfl, dl, _, _, _, rfl, rfl, hd, rfl, _, rfl, ?_⟩
    exact k _ _ r0 r1 ⟨_, _, _, rfl⟩
  case y2 =>
    refine ⟨_, rfl, dl, _, _, _, rfl, rfl, SqL.of hd, rfl, .inl ⟨_, rfl, _, rfl, _, _, rfl, rfl, m0, ?_⟩⟩
    refine ⟨_, rfl, dl, _, _, _, rfl, rfl, SqL.of hd, rfl, _, rfl, _, _, rfl, rfl, ⟨m0, hm1⟩, _, rfl, dl, _, _, _, rfl, rfl, hd, rfl, _, rfl, ?_⟩
    exact k _ _ r0 r1 ⟨_, _, _, rfl⟩
  all_goals
    refine ⟨_, rfl, dl, _, _, _, rfl, rfl, hd, rfl, ?_⟩
    have h2 : (upd H dl (.lst [V.int x, V.int y, V.int 0])) dl = some (.lst [V.int x, V.int y, V.int 0]) := upd_same
    refine ⟨_, rfl, dl, _, _, _, rfl, rfl, SqL.of h2, rfl, _, _, rfl, rfl, .inr ⟨by decide, by decide⟩, _, rfl, dl, _, _, _, rfl, rfl, SqL.of h2, rfl, _, _, rfl, rfl, .inr ⟨by decide, by decide⟩, _, _, rfl, rfl, _, _, rfl, rfl, .inl ⟨_, rfl, _, _, rfl, rfl, (by show (0 : Int) < 2147483647; decide), _, rfl, dl, _, _, _, rfl, rfl, h2, rfl, ?_⟩⟩
    refine ⟨_, rfl, dl, _, _, _, rfl, rfl, SqL.of upd_same, rfl, _, _, rfl, rfl, _, rfl, dl, _, _, _, rfl, rfl, upd_same, rfl, ?_⟩
    refine ⟨_, rfl, dl, _, _, _, rfl, rfl, SqL.of upd_same, rfl, _, _, rfl, rfl, ⟨(by show (0 : Int) < 7; decide), (by show (7 : Int) < 1073741824; decide)⟩, _, rfl, dl, _, _, _, rfl, rfl, SqL.of upd_same, rfl, _, _, rfl, rfl, .inl ⟨_, rfl, _, rfl, _, _, rfl, rfl, m0, ?_⟩⟩
    refine k _ _ (Int.emod_nonneg _ (by omega)) (Int.emod_lt_of_pos _ m0) ⟨(x * 48271 + y * 69621 + 11) % 2147483647, y + 1, 0, ?_⟩
    rw [upd_upd, upd_upd]
    rfl
theorem ok_dice {f : Addr} {fd : FuncData} (F : Fun K "_law_dice" "_law_dice" s_law_dice f fd) (mi : mg "int" = none) (ma : mg "abs" = none) : FnOk P w K mg base (L2.CX P w) 1 f fd ["cell"] spDice := by
  refine F.okX sc_law_dice (fun vs H Q E h => by obtain ⟨c, rfl, _⟩ := h; rfl) (fun cdv A outer s H vs Q E hr h => ?_)
  obtain ⟨c, rfl, k⟩ := h
  refine ⟨_, pss_cons (ps_if (pt_chain op_lt op_lt (pe_op op_sub pe_int pe_int) (pv 0) pe_int) (pss_one (ps_ret (pe_lst (pa_cons (pe_callB call_abs rfl ma rfl (pa_cons (pv 0) pa_nil)) (pa_cons pe_int (pa_cons pe_int pa_nil)))))) pss_nil)
    (pss_one (ps_ret (pe_lst (pa_cons (pv 0) (pa_cons (pe_op op_add pe_int (pe_op op_mod (pe_callTy call_int1 rfl mi rfl (pa_cons (pv 0) pa_nil)) pe_int)) (pa_cons (pe_callTy call_int1 rfl mi rfl (pa_cons (pe_cmpR op_ge (pv 0) (pe_op op_pow pe_int pe_int) (nomark _)) pa_nil)) pa_nil)))))), ?_⟩
  have kk : ∀ a : Int, [V.int a, V.int 0, V.int 2].length ≤ sizeLine ∧ ∀ p, H p = none → Q (.ref p) (upd H p (.lst [V.int a, V.int 0, V.int 2])) := fun a => ⟨by rw [sizeLine_eq]; exact Nat.le_of_ble_eq_true rfl, fun p hp => k p a 0 2 hp⟩
  have kn : ∀ b : Bool, [V.int c, V.int (1 + c % 1009), V.int (if b = true then 1 else 0)].length ≤ sizeLine ∧ ∀ p, H p = none → Q (.ref p) (upd H p (.lst [V.int c, V.int (1 + c % 1009), V.int (if b = true then 1 else 0)])) := fun b => ⟨by rw [sizeLine_eq]; exact Nat.le_of_ble_eq_true rfl, fun p hp => k p c _ _ hp⟩
  have no : tRet
      (tLst
        (tCons (tVar 0)
          (tCons
            (tOp (rI0 fun i j => V.int (i + j)) (tC (V.int 1))
              (tOp (rI (fun x j => 0 < j) fun i j => V.int (i % j))
                (tCB
                  (fun xs H Q =>
                    (∃ i, xs = [V.int i] ∧ Q (V.int i) H) ∨
                      ∃ k, xs = [V.bl k] ∧ Q (V.int (if k = true then 1 else 0)) H)
                  (tCons (tVar 0) tNil))
                (tC (V.int 1009))))
            (tCons
              (tCB
                (fun xs H Q =>
                  (∃ i, xs = [V.int i] ∧ Q (V.int i) H) ∨ ∃ k, xs = [V.bl k] ∧ Q (V.int (if k = true then 1 else 0)) H)
                (tCons
                  (tOp (rI0 fun i j => V.bl (decide (j ≤ i))) (tVar 0)
                    (tOp (rI CPow fun i j => V.int (i ^ j.toNat)) (tC (V.int 10)) (tC (V.int 18))))
                  tNil))
              tNil)))) { nx := fun x H' => Q V.non H', rt := Q } (L2.start [Str.ofString "cell"] [V.int c]) H := by
    exact ⟨_, rfl, _, rfl, .inl ⟨_, rfl, _, _, rfl, rfl, (by show (0 : Int) < 1009; decide), _, _, rfl, rfl, _, rfl, _, _, rfl, rfl, ⟨by decide, by decide, by decide⟩, _, _, rfl, rfl, .inr ⟨_, rfl, kn _⟩⟩⟩
  refine ⟨_, _, rfl, rfl, _, rfl, _, _, rfl, rfl, _, rfl, ite2 (fun _ => ⟨_, _, rfl, rfl, _, rfl, ite2 (fun _ => ⟨_, rfl, _, rfl, kk _⟩) (fun _ => no)⟩) (fun _ => ⟨_, rfl, ite2 (fun h => nomatch h) (fun _ => no)⟩)⟩
theorem ok_rounds {f fD : Addr} {fd fdD : FuncData} (F : Fun K "_law_rounds" "_law_rounds" s_law_rounds f fd) (D : FnOk P w K mg base (L2.CX P w) 1 fD fdD ["cell"] spDice) (kD : PySem.W.keepIn K (.ref fD) = true) (bD : Binds K fdD ["cell"] []) (mD : mg "_law_dice" = some (.ref fD)) : FnOk P w K mg base (L2.CX P w) 2 f fd ["script", "most"] (spRounds K) := by
  refine F.okX sc_law_rounds (fun vs H Q E h => by obtain ⟨a, ns, rfl, _⟩ := h; rfl) (fun cdv A outer s H vs Q E hr h => ?_)
  obtain ⟨a, ns, rfl, hS, k⟩ := h
  have hu : (A.deeper (PyProof.Rows.envOfC "_law_rounds" (defScope s_law_rounds) s.heap.objs.size f cdv)).units + 64 < cLine := by have := hr.un; omega
  refine ⟨_, pss_cons (ps_set (i := 2) sc_law_rounds.nd rfl (Or.inl rfl) (pe_slice sl_list (pv 0) po_none (po_some (pv 1))))
    (pss_cons (ps_if (pt_cmpR (op_eqD hu) (pv 2) (pe_lst pa_nil) (nomark _)) (pss_one (ps_set (i := 2) sc_law_rounds.nd rfl (Or.inl rfl) (pe_lst (pa_cons pe_int pa_nil)))) pss_nil)
      (pss_one (ps_ret (pe_lc (own := [("cell", 3)]) (g := gName 3) (tt := tYes) rfl sc_law_rounds.nd (pi_list (pv 2)) (blkOk_by (N := ["script", "most", "cells", "cell"]) (sc := defScope s_law_rounds) (by decide +kernel)) (fun _ _ _ _ _ => pg_name (i := 3) sc_law_rounds.nd rfl (Or.inl rfl)) (fun _ _ _ _ _ => pts_nil)
        (fun _ _ _ _ _ => pe_callS D hr rfl mD kD bD (fun sg => passAt takes0D sg) (pa_cons (pv 3) pa_nil)))))), ?_⟩
  have fin : ∀ (H1 : Hp) (l : Addr) (c : Int), (∀ b o, H b = some o → H1 b = some o) → H1 l = some (.lst [.int c]) →
      (tRet (tLc (iList K (tVar 2)) (gName 3) tYes (tCallS spDice (WE W0) (tCons (tVar 3) tNil)) [3])) { nx := fun x H' => Q V.non H', rt := Q } [some (.ref a), some (.int 1), some (.ref l), none] H1 := fun H1 l c e1 hl => by
    refine ⟨_, rfl, l, rfl, ⟨_, SqL.of hl⟩, fun D hD => ?_⟩
    have hlD : l ≠ D := ne_of_none hl hD
    refine lc_list (xs := [V.int c]) (fun i H' => (∀ b o, H1 b = some o → H' b = some o) ∧ ((i = 0 ∧ H' D = some (.lst [])) ∨ (i = 1 ∧ ∃ (d : Addr) (x y z : Int), D ≠ d ∧ H' D = some (.lst [.ref d]) ∧ H' d = some (.lst [.int x, .int y, .int z])))) ⟨fun b o e => by rw [upd_ne (ne_of_none e hD)]; exact e, .inl ⟨rfl, upd_same⟩⟩
      (fun i H' _ p => SqL.of (p.1 _ _ hl)) (fun i x H' hx p => ?_) fun H' p => ?_
    · obtain ⟨p1, p2⟩ := p
      cases i with
      | succ i => simp at hx
      | zero =>
        cases hx
        rcases p2 with ⟨_, hDl⟩ | ⟨h, _⟩
        case inr => cases h
        refine ⟨rfl, _, rfl, c, rfl, fun d x y z hd => ?_⟩
        have hDd : D ≠ d := ne_of_none hDl hd
        refine ⟨[], by rw [upd_ne hDd]; exact hDl, by rw [sizeLine_eq]; decide, fun b o e => ?_, .inr ⟨rfl, d, x, y, z, hDd, upd_same, by rw [upd_ne hDd.symm]; exact upd_same⟩⟩
        rw [upd_ne (ne_of_none e hD), upd_ne (ne_of_none (p1 b o e) hd)]
        exact p1 b o e
    · obtain ⟨p1, p2⟩ := p
      rcases p2 with ⟨h, _⟩ | ⟨_, d, x, y, z, n, h1, h2⟩
      · cases h
      · exact k H' D d x y z (fun b o e => p1 b o (e1 b o e)) n h1 h2
  refine ⟨_, rfl, _, rfl, _, rfl, a, _, rfl, hS, fun l hl => ?_⟩
  have dnil : ∀ {H2 : Hp} {q : Addr}, H2 q = some (.lst []) → Dp K H2 (.ref q) (.list []) := fun h => .lst (SqL.of h) .nil
  cases ns with
  | nil =>
    refine ⟨_, rfl, Nat.zero_le _, fun l2 hl2 => ⟨.list [], .list [], dnil ?_, dnil upd_same, by decide, by decide, _, rfl, ite2 (fun _ => ⟨by rw [sizeLine_eq]; decide, fun l3 hl3 => fin _ l3 0 (fun b o e => ?_) upd_same⟩) (fun h => absurd rfl h)⟩⟩
    · have n : l ≠ l2 := fun e => by rw [← e, upd_same] at hl2; cases hl2
      rw [upd_ne n]; exact upd_same
    · have e1 := (upd_ne (o := .lst (cutV ([].map V.int) none (some 1))) (ne_of_none e hl)).trans e
      have e2 := (upd_ne (o := .lst []) (ne_of_none e1 hl2)).trans e1
      exact (upd_ne (o := .lst [V.int 0]) (ne_of_none e2 hl3)).trans e2
  | cons c r =>
    have cv : cutV ((c :: r).map V.int) none (some 1) = [V.int c] := by
      show (List.take (HT.sIx _ _ (some ((1 : Nat) : Int)) - 0) _) = _
      rw [HT.sIx_nat, HT.sIx_none]
      simp
    rw [cv] at *
    refine ⟨_, rfl, Nat.zero_le _, fun l2 hl2 => ⟨.list [.int c], .list [], .lst (xs := [V.int c]) (SqL.of ?_) (.cons (.int c) .nil), dnil upd_same, rfl, by decide, _, rfl, ite2 (fun h => nomatch h) (fun _ => fin _ l c (fun b o e => ?_) ?_)⟩⟩
    · have n : l ≠ l2 := fun e => by rw [← e, upd_same] at hl2; cases hl2
      rw [upd_ne n]; exact upd_same
    · have e1 := (upd_ne (o := .lst [V.int c]) (ne_of_none e hl)).trans e
      exact (upd_ne (o := .lst []) (ne_of_none e1 hl2)).trans e1
    · have n : l ≠ l2 := fun e => by rw [← e, upd_same] at hl2; cases hl2
      rw [upd_ne n]; exact upd_same
theorem fo_down {X : Cx} (T : Txt w X.K mg base a) : FldOk X (gm X.K w a) "down" fx_down := fun c j e => by
  unfold fx_down at e
  split at e
  · cases e; exact ⟨T.c_Air, T.n_Air_down, rfl, show (["down", "right"] : List Str).Nodup by decide +kernel⟩
  · cases e
theorem fo_right {X : Cx} (T : Txt w X.K mg base a) : FldOk X (gm X.K w a) "right" fx_right := fun c j e => by
  unfold fx_right at e
  split at e
  · cases e; exact ⟨T.c_Air, T.n_Air_right, rfl, show (["down", "right"] : List Str).Nodup by decide +kernel⟩
  · cases e
theorem tm_law_rest1 : (a.t_law_rest1, ("_law_rest1" : Str) ++ ".<locals>." ++ "<lambda>") ∈ tabsA a := by unfold tabsA; simp
theorem tu_law_rest1 (T : Txt w K mg base a) : ∀ p ∈ tabsA a, p.1 = a.t_law_rest1 → p.2 = ("_law_rest1" : Str) ++ ".<locals>." ++ "<lambda>" := fun p hp e => by
  unfold tabsA at hp
  simp only [List.mem_cons, List.not_mem_nil, or_false] at hp
  rcases hp with rfl | rfl
  · rfl
  · exact (T.ne_law_rest1_law e.symm).elim
theorem tm_law : (a.t_law, ("law" : Str) ++ ".<locals>." ++ "<lambda>") ∈ tabsA a := by unfold tabsA; simp
theorem tu_law (T : Txt w K mg base a) : ∀ p ∈ tabsA a, p.1 = a.t_law → p.2 = ("law" : Str) ++ ".<locals>." ++ "<lambda>" := fun p hp e => by
  unfold tabsA at hp
  simp only [List.mem_cons, List.not_mem_nil, or_false] at hp
  rcases hp with rfl | rfl
  · exact (T.ne_law_rest1_law e).elim
  · rfl
theorem gives_told {X : Cx} {cdg : Value} {g : Addr} {q : Str} (T : Txt w K mg base a) (hK : X.K = K) (hm : X.mg = mg) : GivesTo X ["what"] "_law_told" (defScope s_law_told) g cdg (defBody s_law_told) "what" q (TTm X.K (toldL.map fun p => ((gm K w a).xcls p.1, (⟨p.2.toArray⟩ : Str)))) := by
  subst hm
  exact told_many (X := X) (.cons (by rfl) T.x_BadBook.2.1 (by decide) (.cons (by rfl) T.x_BadFlag.2.1 (by decide) (.cons (by rfl) T.x_BadFleet.2.1 (by decide) (.cons (by rfl) T.x_BadHoist.2.1 (by decide) (.cons (by rfl) T.x_Foul (by decide) (.cons (by rfl) T.x_NoWay.2.1 (by decide) (.cons (by rfl) T.x_TooLarge.2.1 (by decide) (.cons (by rfl) T.x_Unclear (by decide) (.cons (by rfl) T.x_BadText (by decide) .nil))))))))) (fun _ => rfl)
theorem k_law_roll (T : Txt w K mg base a) : FnD P w K mg base (gm K w a) 1 "_law_roll" a.f_law_roll 2 rollD := by
  obtain ⟨fd, F, bd⟩ := T.e_law_roll
  exact ⟨⟨fd, _, rfl, ok_roll F T.b_int, bd⟩, rollD_len, F.kp, T.g_law_roll⟩
def F_law_way : LE → R Out :=
    (seqS (parK 2 3 (valK (opE subD (subE (var 1) (cst (.int 0))) (subE (var 0) (cst (.int 0))))) (valK (opE subD (subE (var 1) (cst (.int 1))) (subE (var 0) (cst (.int 1))))))
    (seqS (ifS (andT (cmpT eqD (var 2) (cst (.int 0))) (cmpT eqD (var 3) (cst (.int 0))))
    (retS (cst (.str [102, 108, 101, 101, 116])))
    skipS)
    (seqS (ifS (andT (cmpT notInD (cst (.int 0)) (lE (lstE (acons (var 2) (acons (var 3) anil))))) (cmpT neD (callE absD (acons (var 2) anil)) (callE absD (acons (var 3) anil))))
    (retS (cst (.str [110, 111, 32, 119, 97, 121])))
    skipS)
    (retS (opE addD (iteE (cmpT ltD (var 2) (cst (.int 0))) (cst (.str [110])) (iteE (cmpT gtD (var 2) (cst (.int 0))) (cst (.str [115])) (cst (.str [])))) (iteE (cmpT ltD (var 3) (cst (.int 0))) (cst (.str [119])) (iteE (cmpT gtD (var 3) (cst (.int 0))) (cst (.str [101])) (cst (.str [])))))))))
def D_law_way : List D → R D := runF 2 4 F_law_way
theorem k_law_way (T : Txt w K mg base a) : FnD P w K mg base (gm K w a) 1 "_law_way" a.f_law_way 2 D_law_way := by
  exact fnD_E T.e_law_way sc_law_way T.g_law_way rfl rfl fun cdv A outer s H E hr =>
    (dss_cons (ds_par 2 3 rfl sc_law_way.nd (by decide) (by decide) (by decide) (DE.k (de_op (op_sub_d) (DE.p (de_sub rfl rfl (huD hr) (DE.p (de_var 1)) (DE.p de_int) fun _ _ => rfl)) (DE.p (de_sub rfl rfl (huD hr) (DE.p (de_var 0)) (DE.p de_int) fun _ _ => rfl)))) (DE.k (de_op (op_sub_d) (DE.p (de_sub rfl rfl (huD hr) (DE.p (de_var 1)) (DE.p de_int) fun _ _ => rfl)) (DE.p (de_sub rfl rfl (huD hr) (DE.p (de_var 0)) (DE.p de_int) fun _ _ => rfl)))))
    (dss_cons (ds_if (dt_w (dw_and (dt_cmp (op_eq_d rfl (huD64 hr)) (DE.p (de_var 2)) (DE.p de_int)) (dw_and1 (dt_cmp (op_eq_d rfl (huD64 hr)) (DE.p (de_var 3)) (DE.p de_int)))))
    (dss_one (ds_ret (de_str [102, 108, 101, 101, 116])))
    dss_nil)
    (dss_cons (ds_if (dt_w (dw_and (dt_cmp (op_notin_d rfl (huD hr)) (DE.p de_int) (DE.p (DF.e (df_lst (da_cons (de_var 2) (da_cons (de_var 3) da_nil)))))) (dw_and1 (dt_cmp (op_ne_d rfl (huD64 hr)) (DE.p (de_callB (cd_abs) T.b_abs rfl (dap_cons (DE.p (de_var 2)) dap_nil))) (DE.p (de_callB (cd_abs) T.b_abs rfl (dap_cons (DE.p (de_var 3)) dap_nil)))))))
    (dss_one (ds_ret (de_str [110, 111, 32, 119, 97, 121])))
    dss_nil)
    (dss_one (ds_ret (de_op (op_add_d rfl) (DE.p (de_if (dt_cmp (op_lt_d) (DE.p (de_var 2)) (DE.p de_int)) (de_str [110]) (de_if (dt_cmp (op_gt_d) (DE.p (de_var 2)) (DE.p de_int)) (de_str [115]) (de_str [])))) (DE.p (de_if (dt_cmp (op_lt_d) (DE.p (de_var 3)) (DE.p de_int)) (de_str [119]) (de_if (dt_cmp (op_gt_d) (DE.p (de_var 3)) (DE.p de_int)) (de_str [101]) (de_str []))))))))))
def F_way_between : LE → R Out :=
    (seqS (parK 2 3 (valK (opE subD (subE (var 1) (cst (.int 0))) (subE (var 0) (cst (.int 0))))) (valK (opE subD (subE (var 1) (cst (.int 1))) (subE (var 0) (cst (.int 1))))))
    (seqS (ifS (andT (cmpT eqD (var 2) (cst (.int 0))) (cmpT eqD (var 3) (cst (.int 0))))
    (errS ⟨4, .non⟩)
    skipS)
    (seqS (ifS (andT (cmpT neD (var 2) (cst (.int 0))) (andT (cmpT neD (var 3) (cst (.int 0))) (cmpT neD (callE absD (acons (var 2) anil)) (callE absD (acons (var 3) anil)))))
    (errS ⟨7, .non⟩)
    skipS)
    (seqS (setK 4 (valK (callE maxL (acons (callE absD (acons (var 2) anil)) (acons (callE absD (acons (var 3) anil)) anil)))))
    (retS (subE (cst d_EIGHTS) (kbmE d_STEPS idxTd (acons (tupE (acons (opE fdivD (var 2) (var 4)) (acons (opE fdivD (var 3) (var 4)) anil))) anil))))))))
def D_way_between : List D → R D := runF 2 5 F_way_between
theorem k_way_between (T : Txt w K mg base a) : FnD P w K mg base (gm K w a) 1 "way_between" a.f_way_between 2 D_way_between := by
  exact fnD_E T.e_way_between sc_way_between T.g_way_between rfl rfl fun cdv A outer s H E hr =>
    (dss_cons (ds_par 2 3 rfl sc_way_between.nd (by decide) (by decide) (by decide) (DE.k (de_op (op_sub_d) (DE.p (de_sub rfl rfl (huD hr) (DE.p (de_var 1)) (DE.p de_int) fun _ _ => rfl)) (DE.p (de_sub rfl rfl (huD hr) (DE.p (de_var 0)) (DE.p de_int) fun _ _ => rfl)))) (DE.k (de_op (op_sub_d) (DE.p (de_sub rfl rfl (huD hr) (DE.p (de_var 1)) (DE.p de_int) fun _ _ => rfl)) (DE.p (de_sub rfl rfl (huD hr) (DE.p (de_var 0)) (DE.p de_int) fun _ _ => rfl)))))
    (dss_cons (ds_if (dt_w (dw_and (dt_cmp (op_eq_d rfl (huD64 hr)) (DE.p (de_var 2)) (DE.p de_int)) (dw_and1 (dt_cmp (op_eq_d rfl (huD64 hr)) (DE.p (de_var 3)) (DE.p de_int)))))
    (dss_one (ds_raise 4 takes_cxD rfl PySem.F.excBase_ValueError rfl rfl T.x_BadFleet.1 T.x_BadFleet.2.1 T.x_BadFleet.2.2.1 (raises_own T.x_BadFleet.2.2.2.1 T.x_BadFleet.2.2.2.2)))
    dss_nil)
    (dss_cons (ds_if (dt_w (dw_and (dt_cmp (op_ne_d rfl (huD64 hr)) (DE.p (de_var 2)) (DE.p de_int)) (dw_and (dt_cmp (op_ne_d rfl (huD64 hr)) (DE.p (de_var 3)) (DE.p de_int)) (dw_and1 (dt_cmp (op_ne_d rfl (huD64 hr)) (DE.p (de_callB (cd_abs) T.b_abs rfl (dap_cons (DE.p (de_var 2)) dap_nil))) (DE.p (de_callB (cd_abs) T.b_abs rfl (dap_cons (DE.p (de_var 3)) dap_nil))))))))
    (dss_one (ds_raise 7 takes_cxD rfl PySem.F.excBase_ValueError rfl rfl T.x_NoWay.1 T.x_NoWay.2.1 T.x_NoWay.2.2.1 (raises_own T.x_NoWay.2.2.2.1 T.x_NoWay.2.2.2.2)))
    dss_nil)
    (dss_cons (ds_set 4 (DE.k (de_callB (cd_max rfl rfl (huD hr)) T.b_max rfl (dap_cons (DE.p (de_callB (cd_abs) T.b_abs rfl (dap_cons (DE.p (de_var 2)) dap_nil))) (dap_cons (DE.p (de_callB (cd_abs) T.b_abs rfl (dap_cons (DE.p (de_var 3)) dap_nil))) dap_nil)))) (by decide) sc_way_between.nd)
    (dss_one (ds_ret (de_sub rfl rfl (huD hr) (DE.p (de_gl T.v_EIGHTS)) (DE.p (de_ktm T.kt_STEPS rfl (bm_index_td rfl (huD hr)) (dap_cons (DE.p (de_tup (da_cons (de_op (op_fdiv_d) (DE.p (de_var 2)) (DE.p (de_var 4))) (da_cons (de_op (op_fdiv_d) (DE.p (de_var 3)) (DE.p (de_var 4))) da_nil)))) dap_nil))) fun _ _ => rfl)))))))
def F_eighth_of : LE → R Out :=
    (seqS (ifS (cmpT notInD (var 0) (cst d_EIGHTS))
    (errS ⟨4, .non⟩)
    skipS)
    (retS (kbmE d_EIGHTS idxTp (acons (var 0) anil))))
def D_eighth_of : List D → R D := runF 1 1 F_eighth_of
theorem k_eighth_of (T : Txt w K mg base a) : FnD P w K mg base (gm K w a) 1 "eighth_of" a.f_eighth_of 1 D_eighth_of := by
  exact fnD_E T.e_eighth_of sc_eighth_of T.g_eighth_of rfl rfl fun cdv A outer s H E hr =>
    (dss_cons (ds_if (dt_cmp (op_notin_d rfl (huD hr)) (DE.p (de_var 0)) (DE.p (de_gl T.v_EIGHTS)))
    (dss_one (ds_raise 4 takes_cxD rfl PySem.F.excBase_ValueError rfl rfl T.x_BadFleet.1 T.x_BadFleet.2.1 T.x_BadFleet.2.2.1 (raises_own T.x_BadFleet.2.2.2.1 T.x_BadFleet.2.2.2.2)))
    dss_nil)
    (dss_one (ds_ret (de_ktm T.kt_EIGHTS rfl (bm_index_tuple rfl) (dap_cons (DE.p (de_var 0)) dap_nil)))))
def F_shows_side : LE → R Out :=
    (seqS (setK 3 (valK (opE modD (opE subD (callE D_eighth_of (acons (callE D_way_between (acons (var 1) (acons (var 2) anil))) anil)) (callE D_eighth_of (acons (var 0) anil))) (cst (.int 4)))))
    (retS (subE (tupE (acons (cst (.str [101, 110, 100, 32, 111, 110])) (acons (cst (.str [115, 108, 97, 110, 116, 105, 110, 103])) (acons (cst (.str [98, 114, 111, 97, 100, 115, 105, 100, 101])) (acons (cst (.str [115, 108, 97, 110, 116, 105, 110, 103])) anil))))) (var 3))))
def D_shows_side : List D → R D := runF 3 4 F_shows_side
theorem k_shows_side (T : Txt w K mg base a) : FnD P w K mg base (gm K w a) 2 "shows_side" a.f_shows_side 3 D_shows_side := by
  exact fnD_E T.e_shows_side sc_shows_side T.g_shows_side rfl rfl fun cdv A outer s H E hr =>
    (dss_cons (ds_set 3 (DE.k (de_op (op_mod_d) (DE.p (de_op (op_sub_d) (DE.p (de_call (k_eighth_of T) (hr.mono (by decide)) takes_cxD (da_cons (de_call (k_way_between T) (hr.mono (by decide)) takes_cxD (da_cons (de_var 1) (da_cons (de_var 2) da_nil))) da_nil))) (DE.p (de_call (k_eighth_of T) (hr.mono (by decide)) takes_cxD (da_cons (de_var 0) da_nil))))) (DE.p de_int))) (by decide) sc_shows_side.nd)
    (dss_one (ds_ret (de_sub rfl rfl (huD hr) (DE.p (de_tup (da_cons (de_str [101, 110, 100, 32, 111, 110]) (da_cons (de_str [115, 108, 97, 110, 116, 105, 110, 103]) (da_cons (de_str [98, 114, 111, 97, 100, 115, 105, 100, 101]) (da_cons (de_str [115, 108, 97, 110, 116, 105, 110, 103]) da_nil)))))) (DE.p (de_var 3)) fun _ _ => rfl))))
def F_reads_in_wind : LE → R Out :=
    (seqS (setK 4 (valK (callE maxL (acons (callE absD (acons (opE subD (subE (var 2) (cst (.int 0))) (subE (var 1) (cst (.int 0)))) anil)) (acons (callE absD (acons (opE subD (subE (var 2) (cst (.int 1))) (subE (var 1) (cst (.int 1)))) anil)) anil)))))
    (seqS (setK 5 (valK (callE D_shows_side (acons (var 0) (acons (var 1) (acons (var 2) anil))))))
    (retS (orV (andV (opE eqD (var 5) (cst (.str [98, 114, 111, 97, 100, 115, 105, 100, 101]))) (opE leD (var 4) (var 3))) (andV (opE eqD (var 5) (cst (.str [115, 108, 97, 110, 116, 105, 110, 103]))) (opE leD (opE mulD (cst (.int 2)) (var 4)) (var 3)))))))
def D_reads_in_wind : List D → R D := runF 4 6 F_reads_in_wind
theorem k_reads_in_wind (T : Txt w K mg base a) : FnD P w K mg base (gm K w a) 3 "reads_in_wind" a.f_reads_in_wind 4 D_reads_in_wind := by
  exact fnD_E T.e_reads_in_wind sc_reads_in_wind T.g_reads_in_wind rfl rfl fun cdv A outer s H E hr =>
    (dss_cons (ds_set 4 (DE.k (de_callB (cd_max rfl rfl (huD hr)) T.b_max rfl (dap_cons (DE.p (de_callB (cd_abs) T.b_abs rfl (dap_cons (DE.p (de_op (op_sub_d) (DE.p (de_sub rfl rfl (huD hr) (DE.p (de_var 2)) (DE.p de_int) fun _ _ => rfl)) (DE.p (de_sub rfl rfl (huD hr) (DE.p (de_var 1)) (DE.p de_int) fun _ _ => rfl)))) dap_nil))) (dap_cons (DE.p (de_callB (cd_abs) T.b_abs rfl (dap_cons (DE.p (de_op (op_sub_d) (DE.p (de_sub rfl rfl (huD hr) (DE.p (de_var 2)) (DE.p de_int) fun _ _ => rfl)) (DE.p (de_sub rfl rfl (huD hr) (DE.p (de_var 1)) (DE.p de_int) fun _ _ => rfl)))) dap_nil))) dap_nil)))) (by decide) sc_reads_in_wind.nd)
    (dss_cons (ds_set 5 (DE.k (de_call (k_shows_side T) (hr.mono (by decide)) takes_cxD (da_cons (de_var 0) (da_cons (de_var 1) (da_cons (de_var 2) da_nil))))) (by decide) sc_reads_in_wind.nd)
    (dss_one (ds_ret (de_or (de_and (de_cmp (op_eq_d rfl (huD64 hr)) (DE.p (de_var 5)) (DE.p (de_str [98, 114, 111, 97, 100, 115, 105, 100, 101]))) (de_one (de_cmp (op_le_d) (DE.p (de_var 4)) (DE.p (de_var 3))))) (de_one (de_and (de_cmp (op_eq_d rfl (huD64 hr)) (DE.p (de_var 5)) (DE.p (de_str [115, 108, 97, 110, 116, 105, 110, 103]))) (de_one (de_cmp (op_le_d) (DE.p (de_op (op_mul_d) (DE.p de_int) (DE.p (de_var 4)))) (DE.p (de_var 3)))))))))))
def F_law_reads : LE → R Out :=
    (seqS (setK 4 (valK (lE (lstE (acons (cst (.str [110])) (acons (cst (.str [110, 101])) (acons (cst (.str [101])) (acons (cst (.str [115, 101])) (acons (cst (.str [115])) (acons (cst (.str [115, 119])) (acons (cst (.str [119])) (acons (cst (.str [110, 119])) anil))))))))))))
    (seqS (setK 5 (valK (callE D_law_way (acons (var 1) (acons (var 2) anil)))))
    (seqS (ifS (cmpT notInD (var 5) (var 4))
    (retS (cst (.bl false)))
    skipS)
    (seqS (parK 6 7 (valK (opE modD (opE subD (bmE "list" idxLs (var 4) (acons (var 5) anil)) (bmE "list" idxLs (var 4) (acons (var 0) anil))) (cst (.int 4)))) (valK (callE maxL (acons (callE absD (acons (opE subD (subE (var 1) (cst (.int 0))) (subE (var 2) (cst (.int 0)))) anil)) (acons (callE absD (acons (opE subD (subE (var 1) (cst (.int 1))) (subE (var 2) (cst (.int 1)))) anil)) anil)))))
    (retS (orV (andV (opE eqD (var 6) (cst (.int 2))) (opE leD (var 7) (var 3))) (andV (opE inD (var 6) (lE (lstE (acons (cst (.int 1)) (acons (cst (.int 3)) anil))))) (opE leD (opE mulD (cst (.int 2)) (var 7)) (var 3)))))))))
def D_law_reads : List D → R D := runF 4 8 F_law_reads
theorem k_law_reads (T : Txt w K mg base a) : FnD P w K mg base (gm K w a) 2 "_law_reads" a.f_law_reads 4 D_law_reads := by
  exact fnD_E T.e_law_reads sc_law_reads T.g_law_reads rfl rfl fun cdv A outer s H E hr =>
    (dss_cons (ds_set 4 (DE.k (DF.e (df_lst (da_cons (de_str [110]) (da_cons (de_str [110, 101]) (da_cons (de_str [101]) (da_cons (de_str [115, 101]) (da_cons (de_str [115]) (da_cons (de_str [115, 119]) (da_cons (de_str [119]) (da_cons (de_str [110, 119]) da_nil))))))))))) (by decide) sc_law_reads.nd)
    (dss_cons (ds_set 5 (DE.k (de_call (k_law_way T) (hr.mono (by decide)) takes_cxD (da_cons (de_var 1) (da_cons (de_var 2) da_nil)))) (by decide) sc_law_reads.nd)
    (dss_cons (ds_if (dt_cmp (op_notin_d rfl (huD hr)) (DE.p (de_var 5)) (DE.p (de_var 4)))
    (dss_one (ds_ret de_bl))
    dss_nil)
    (dss_cons (ds_par 6 7 rfl sc_law_reads.nd (by decide) (by decide) (by decide) (DE.k (de_op (op_mod_d) (DE.p (de_op (op_sub_d) (DE.p (de_bm (bm_index_list rfl (huD hr)) rfl (DE.p (de_var 4)) (dap_cons (DE.p (de_var 5)) dap_nil))) (DE.p (de_bm (bm_index_list rfl (huD hr)) rfl (DE.p (de_var 4)) (dap_cons (DE.p (de_var 0)) dap_nil))))) (DE.p de_int))) (DE.k (de_callB (cd_max rfl rfl (huD hr)) T.b_max rfl (dap_cons (DE.p (de_callB (cd_abs) T.b_abs rfl (dap_cons (DE.p (de_op (op_sub_d) (DE.p (de_sub rfl rfl (huD hr) (DE.p (de_var 1)) (DE.p de_int) fun _ _ => rfl)) (DE.p (de_sub rfl rfl (huD hr) (DE.p (de_var 2)) (DE.p de_int) fun _ _ => rfl)))) dap_nil))) (dap_cons (DE.p (de_callB (cd_abs) T.b_abs rfl (dap_cons (DE.p (de_op (op_sub_d) (DE.p (de_sub rfl rfl (huD hr) (DE.p (de_var 1)) (DE.p de_int) fun _ _ => rfl)) (DE.p (de_sub rfl rfl (huD hr) (DE.p (de_var 2)) (DE.p de_int) fun _ _ => rfl)))) dap_nil))) dap_nil)))))
    (dss_one (ds_ret (de_or (de_and (de_cmp (op_eq_d rfl (huD64 hr)) (DE.p (de_var 6)) (DE.p de_int)) (de_one (de_cmp (op_le_d) (DE.p (de_var 7)) (DE.p (de_var 3))))) (de_one (de_and (de_cmp (op_in_d rfl (huD hr)) (DE.p (de_var 6)) (DE.p (DF.e (df_lst (da_cons de_int (da_cons de_int da_nil)))))) (de_one (de_cmp (op_le_d) (DE.p (de_op (op_mul_d) (DE.p de_int) (DE.p (de_var 7)))) (DE.p (de_var 3)))))))))))))
def F_streams_to : LE → R Out :=
    (retS (subE (cst d_EIGHTS) (opE modD (opE addD (callE D_eighth_of (acons (var 0) anil)) (cst (.int 4))) (cst (.int 8)))))
def D_streams_to : List D → R D := runF 1 1 F_streams_to
theorem k_streams_to (T : Txt w K mg base a) : FnD P w K mg base (gm K w a) 2 "streams_to" a.f_streams_to 1 D_streams_to := by
  exact fnD_E T.e_streams_to sc_streams_to T.g_streams_to rfl rfl fun cdv A outer s H E hr =>
    (dss_one (ds_ret (de_sub rfl rfl (huD hr) (DE.p (de_gl T.v_EIGHTS)) (DE.p (de_op (op_mod_d) (DE.p (de_op (op_add_d rfl) (DE.p (de_call (k_eighth_of T) (hr.mono (by decide)) takes_cxD (da_cons (de_var 0) da_nil))) (DE.p de_int))) (DE.p de_int))) fun _ _ => rfl)))
def F_readers : LE → R Out :=
    (seqS (ifS (cmpT notInD (var 2) (var 1))
    (errS ⟨4, .non⟩)
    skipS)
    (seqS (setK 4 (ownK (lstE anil)))
    (seqS (forS (itL (lE (callF sortedL (acons (var 1) anil)))) (gN 5)
    (ifS (cmpT neD (var 5) (var 2))
    (tryS (toldL.map (·.1))
    (ifS (valT (callE D_reads_in_wind (acons (var 0) (acons (subE (var 1) (var 2)) (acons (subE (var 1) (var 5)) (acons (var 3) anil))))))
    (appS 4 (var 5))
    skipS) [(7, ctS)])
    skipS))
    (retS (callE tupleD (acons (varP 4) anil))))))
def D_readers : List D → R D := runF 4 6 F_readers
theorem k_readers (T : Txt w K mg base a) : FnD P w K mg base (gm K w a) 4 "readers" a.f_readers 4 D_readers := by
  exact fnD_E T.e_readers sc_readers T.g_readers rfl rfl fun cdv A outer s H E hr =>
    (dss_cons (ds_if (dt_cmp (op_notin_d rfl (huD hr)) (DE.p (de_var 2)) (DE.p (de_var 1)))
    (dss_one (ds_raise 4 takes_cxD rfl PySem.F.excBase_ValueError rfl rfl T.x_BadFleet.1 T.x_BadFleet.2.1 T.x_BadFleet.2.2.1 (raises_own T.x_BadFleet.2.2.2.1 T.x_BadFleet.2.2.2.2)))
    dss_nil)
    (dss_cons (ds_set 4 (DF.k (df_lst da_nil)) (by decide) sc_readers.nd)
    (dss_cons (ds_for owns_cxD rfl (di_list rfl (DF.e (df_callB (cf_sorted rfl rfl) T.b_sorted rfl (dap_cons (DE.p (de_var 1)) dap_nil)))) (dg_name 5 sc_readers.nd)
    (dss_one (ds_if (dt_cmp (op_ne_d rfl (huD64 hr)) (DE.p (de_var 5)) (DE.p (de_var 2)))
    (dss_one (ds_try (toldL.map (·.1)) (l := [(7, ctS)]) T.exm (by decide) rfl rfl takes_cxD (fun _ _ _ tk1 ow1 => (dss_one (ds_if (dt_val (de_call (k_reads_in_wind T) (hr.mono (by decide)) tk1 (da_cons (de_var 0) (da_cons (de_sub rfl rfl (huD hr) (DE.p (de_var 1)) (DE.p (de_var 2)) fun _ _ => rfl) (da_cons (de_sub rfl rfl (huD hr) (DE.p (de_var 1)) (DE.p (de_var 5)) fun _ _ => rfl) (da_cons (de_var 3) da_nil))))))
    (dss_one (ds_append 4 (de_var 5)))
    dss_nil))) (hds_cons (i := 7) rfl T.x_NoWay.2.1 (fun _ _ => (dss_one ds_continue)) hds_nil)))
    dss_nil)))
    (dss_one (ds_ret (de_callT (cd_tuple rfl) T.b_tuple rfl (dap_cons (dp_var 4) dap_nil)))))))
def F_told_by_repeats : LE → R Out :=
    (seqS (parK 4 5 (dispK [((var 2), (cst (.bl true)))]) (ownK (lstE (acons (var 2) anil))))
    (seqS (whileS 100 (cmpT neD (varP 5) (lE (lstE anil)))
    (seqS (popS 6 5)
    (forS (itT (callE D_readers (acons (var 0) (acons (var 1) (acons (var 6) (acons (var 3) anil)))))) (gN 7)
    (ifS (cmpT notInD (var 7) (varP 4))
    (seqS (stodS 4 (cst (.bl true)) (var 7))
    (appS 5 (var 7)))
    skipS))))
    (retS (callE tupleD (acons (lE (callF sortedL (acons (varP 4) anil))) anil)))))
def D_told_by_repeats : List D → R D := runF 4 8 F_told_by_repeats
theorem k_told_by_repeats (T : Txt w K mg base a) : FnD P w K mg base (gm K w a) 5 "told_by_repeats" a.f_told_by_repeats 4 D_told_by_repeats := by
  exact fnD_E T.e_told_by_repeats sc_told_by_repeats T.g_told_by_repeats rfl rfl fun cdv A outer s H E hr =>
    (dss_cons (ds_par 4 5 rfl sc_told_by_repeats.nd (by decide) (by decide) (by decide) (dk_disp (.cons (de_var 2) de_bl .nil)) (DF.k (df_lst (da_cons (de_var 2) da_nil))))
    (dss_cons (ds_while 100 owns_cxD (dt_cmp (op_ne_d rfl (huD64 hr)) (dp_var 5) (DE.p (DF.e (df_lst da_nil))))
    (dss_cons (ds_setpop 6 5 (by decide) sc_told_by_repeats.nd)
    (dss_one (ds_for owns_cxD rfl (di_tup rfl (de_call (k_readers T) (hr.mono (by decide)) takes_cxD (da_cons (de_var 0) (da_cons (de_var 1) (da_cons (de_var 6) (da_cons (de_var 3) da_nil)))))) (dg_name 7 sc_told_by_repeats.nd)
    (dss_one (ds_if (dt_cmp (op_notin_d rfl (huD hr)) (DE.p (de_var 7)) (dp_var 4))
    (dss_cons (ds_stored 4 (hu1 hr) de_bl (de_var 7))
    (dss_one (ds_append 5 (de_var 7))))
    dss_nil))))))
    (dss_one (ds_ret (de_callT (cd_tuple rfl) T.b_tuple rfl (dap_cons (DE.p (DF.e (df_callB (cf_sorted rfl rfl) T.b_sorted rfl (dap_cons (dp_var 4) dap_nil)))) dap_nil))))))
def F_law_known : LE → R Out :=
    (seqS (setK 4 (valK (lE (lstE (acons (var 2) anil)))))
    (seqS (forS (rng1E (acons (callE lenX (acons (var 1) anil)) anil)) (gN 5)
    (setK 4 (valK (opE addD (var 4) (lE (compF (itKV 1) (gN 6) (andT (cmpT notInD (var 6) (var 4)) (cmpT neD (lE (compF (itL (var 4)) (gN 7) (valT (callE D_law_reads (acons (var 0) (acons (subE (var 1) (var 7)) (acons (subE (var 1) (var 6)) (acons (var 3) anil)))))) (var 7) [7])) (lE (lstE anil)))) (var 6) [6]))))))
    (retS (lE (callF sortedL (acons (var 4) anil))))))
def D_law_known : List D → R D := runF 4 8 F_law_known
theorem k_law_known (T : Txt w K mg base a) : FnD P w K mg base (gm K w a) 3 "_law_known" a.f_law_known 4 D_law_known := by
  exact fnD_E T.e_law_known sc_law_known T.g_law_known rfl rfl fun cdv A outer s H E hr =>
    (dss_cons (ds_set 4 (DE.k (DF.e (df_lst (da_cons (de_var 2) da_nil)))) (by decide) sc_law_known.nd)
    (dss_cons (ds_for owns_cxD rfl (di_rng1 rfl T.b_range (da_cons (de_callB (cd_lenX rfl) T.b_len rfl (dap_cons (DE.p (de_var 1)) dap_nil)) da_nil)) (dg_name 5 sc_law_known.nd)
    (dss_one (ds_set 4 (DE.k (de_op (op_add_d rfl) (DE.p (de_var 4)) (DE.p (DF.e (df_compK 1 (own := [("name", 6)]) rfl sc_law_known.nd rfl (by first | exact Or.inl rfl | exact Or.inr (Or.inl rfl) | exact Or.inr (Or.inr rfl)) (blkOk_by (N := ["wind", "ships", "start", "reach", "known", "turn", "name", "one"]) (sc := defScope s_law_known) (by decide +kernel)) (fun _ _ _ _ _ => (dg_name 6 sc_law_known.nd)) (fun _ _ _ _ _ => (dts_one (dt_w (dw_and (dt_cmp (op_notin_d rfl (huD hr)) (DE.p (de_var 6)) (DE.p (de_var 4))) (dw_and1 (dt_cmp (op_ne_d rfl (huD64 hr)) (DE.p (DF.e (df_comp (own := [("one", 7)]) rfl sc_law_known.nd (die_list rfl (DE.p (de_var 4))) (blkOk_by (N := ["wind", "ships", "start", "reach", "known", "turn", "name", "one"]) (sc := _) (by rfl)) (fun _ _ _ _ _ => (dg_name 7 sc_law_known.nd)) (fun _ _ _ _ _ => (dts_one (dt_val (de_call (k_law_reads T) (hr.mono (by decide)) takes0D (da_cons (de_var 0) (da_cons (de_sub rfl rfl (huD hr) (DE.p (de_var 1)) (DE.p (de_var 7)) fun _ _ => rfl) (da_cons (de_sub rfl rfl (huD hr) (DE.p (de_var 1)) (DE.p (de_var 6)) fun _ _ => rfl) (da_cons (de_var 3) da_nil)))))))) (fun _ _ _ _ _ => (de_var 7)) (by decide)))) (DE.p (DF.e (df_lst da_nil))))))))) (fun _ _ _ _ _ => (de_var 6)) (by decide)))))) (by decide) sc_law_known.nd)))
    (dss_one (ds_ret (DF.e (df_callB (cf_sorted rfl rfl) T.b_sorted rfl (dap_cons (DE.p (de_var 4)) dap_nil)))))))
def F_best_wind : LE → R Out :=
    (seqS (setK 3 (ownK (compF (itT (cst d_EIGHTS)) (gN 4) yesT (callE lenX (acons (callE D_told_by_repeats (acons (var 4) (acons (var 0) (acons (var 1) (acons (var 2) anil))))) anil)) [4])))
    (retS (subE (cst d_EIGHTS) (bmE "list" idxLs (varP 3) (acons (callE maxL (acons (varP 3) anil)) anil)))))
def D_best_wind : List D → R D := runF 3 5 F_best_wind
theorem k_best_wind (T : Txt w K mg base a) : FnD P w K mg base (gm K w a) 6 "best_wind" a.f_best_wind 3 D_best_wind := by
  exact fnD_E T.e_best_wind sc_best_wind T.g_best_wind rfl rfl fun cdv A outer s H E hr =>
    (dss_cons (ds_setcomp 3 (own := [("wind", 4)]) rfl sc_best_wind.nd (DI.e (di_tup rfl (de_gl T.v_EIGHTS))) (blkOk_by (N := ["ships", "start", "reach", "counts", "wind"]) (sc := defScope s_best_wind) (by decide +kernel)) (fun _ _ _ _ _ => (dg_name 4 sc_best_wind.nd)) (fun _ _ _ _ _ => dts_nil) (fun _ _ _ _ _ => (de_callB (cd_lenX rfl) T.b_len rfl (dap_cons (DE.p (de_call (k_told_by_repeats T) (hr.mono (by decide)) takes0D (da_cons (de_var 4) (da_cons (de_var 0) (da_cons (de_var 1) (da_cons (de_var 2) da_nil)))))) dap_nil))) (by decide) (by decide) (sw_true rfl rfl rfl (by decide +kernel)))
    (dss_one (ds_ret (de_sub rfl rfl (huD hr) (DE.p (de_gl T.v_EIGHTS)) (DE.p (de_bm (bm_index_list rfl (huD hr)) rfl (dp_var 3) (dap_cons (DE.p (de_callB (cd_max rfl rfl (huD hr)) T.b_max rfl (dap_cons (dp_var 3) dap_nil))) dap_nil))) fun _ _ => rfl))))
def F_Air_init : LE → R Out :=
    (seqS (fldS fx_down (var 1))
    (fldS fx_right (var 2)))
def D_Air_init : List D → R D := runI 0 2 2 3 F_Air_init
theorem k_Air_init (T : Txt w K mg base a) : MkD P w K mg base (gm K w a) 1 0 "Air" 2 D_Air_init := by
  exact mkD_E (G := gm K w a) (c := 0) T.e_Air_init sc_Air_init T.mk_Air T.g_Air rfl rfl rfl fun cdv A outer s H E hr =>
    (dss_cons (ds_field (fo_down T) hsz (de_var 1))
    (dss_one (ds_field (fo_right T) hsz (de_var 2))))
def F_Air_felt : LE → R Out :=
    (retS (callE D_Air_init (acons (opE subD (fldE fx_down (var 0)) (subE (var 1) (cst (.int 0)))) (acons (opE subD (fldE fx_right (var 0)) (subE (var 1) (cst (.int 1)))) anil))))
def D_Air_felt : List D → R D := runF 2 2 F_Air_felt
theorem k_Air_felt (T : Txt w K mg base a) : MeD P w K mg base (gm K w a) 3 0 "felt" 2 D_Air_felt := by
  exact meD_E (G := gm K w a) (c := 0) T.e_Air_felt sc_Air_felt T.mt_Air_felt T.c_Air (show ("felt" : Str) ∉ (["down", "right"] : List Str) by decide +kernel) rfl rfl fun cdv A outer s H E hr =>
    (dss_one (ds_ret (de_make (k_Air_init T) (hr.mono (by decide)) takes_cxD (da_cons (de_op (op_sub_d) (DE.p (de_fld (fo_down T) (de_var 0))) (DE.p (de_sub rfl rfl (huD hr) (DE.p (de_var 1)) (DE.p de_int) fun _ _ => rfl))) (da_cons (de_op (op_sub_d) (DE.p (de_fld (fo_right T) (de_var 0))) (DE.p (de_sub rfl rfl (huD hr) (DE.p (de_var 1)) (DE.p de_int) fun _ _ => rfl))) da_nil)))))
def F_Air_key : LE → R Out :=
    (retS (tupE (acons (fldE fx_down (var 0)) (acons (fldE fx_right (var 0)) anil))))
def D_Air_key : List D → R D := runF 1 1 F_Air_key
theorem k_Air_key (T : Txt w K mg base a) : MeD P w K mg base (gm K w a) 1 0 "key" 1 D_Air_key := by
  exact meD_E (G := gm K w a) (c := 0) T.e_Air_key sc_Air_key T.mt_Air_key T.c_Air (show ("key" : Str) ∉ (["down", "right"] : List Str) by decide +kernel) rfl rfl fun cdv A outer s H E hr =>
    (dss_one (ds_ret (de_tup (da_cons (de_fld (fo_down T) (de_var 0)) (da_cons (de_fld (fo_right T) (de_var 0)) da_nil)))))
def F_Air_true_air : LE → R Out :=
    (retS (callE D_Air_init (acons (opE addD (fldE fx_down (var 0)) (subE (var 1) (cst (.int 0)))) (acons (opE addD (fldE fx_right (var 0)) (subE (var 1) (cst (.int 1)))) anil))))
def D_Air_true_air : List D → R D := runF 2 2 F_Air_true_air
theorem k_Air_true_air (T : Txt w K mg base a) : MeD P w K mg base (gm K w a) 3 0 "true_air" 2 D_Air_true_air := by
  exact meD_E (G := gm K w a) (c := 0) T.e_Air_true_air sc_Air_true_air T.mt_Air_true_air T.c_Air (show ("true_air" : Str) ∉ (["down", "right"] : List Str) by decide +kernel) rfl rfl fun cdv A outer s H E hr =>
    (dss_one (ds_ret (de_make (k_Air_init T) (hr.mono (by decide)) takes_cxD (da_cons (de_op (op_add_d rfl) (DE.p (de_fld (fo_down T) (de_var 0))) (DE.p (de_sub rfl rfl (huD hr) (DE.p (de_var 1)) (DE.p de_int) fun _ _ => rfl))) (da_cons (de_op (op_add_d rfl) (DE.p (de_fld (fo_right T) (de_var 0))) (DE.p (de_sub rfl rfl (huD hr) (DE.p (de_var 1)) (DE.p de_int) fun _ _ => rfl))) da_nil)))))
def F_Air_squared_force : LE → R Out :=
    (retS (opE addD (opE mulD (fldE fx_down (var 0)) (fldE fx_down (var 0))) (opE mulD (fldE fx_right (var 0)) (fldE fx_right (var 0)))))
def D_Air_squared_force : List D → R D := runF 1 1 F_Air_squared_force
theorem k_Air_squared_force (T : Txt w K mg base a) : MeD P w K mg base (gm K w a) 1 0 "squared_force" 1 D_Air_squared_force := by
  exact meD_E (G := gm K w a) (c := 0) T.e_Air_squared_force sc_Air_squared_force T.mt_Air_squared_force T.c_Air (show ("squared_force" : Str) ∉ (["down", "right"] : List Str) by decide +kernel) rfl rfl fun cdv A outer s H E hr =>
    (dss_one (ds_ret (de_op (op_add_d rfl) (DE.p (de_op (op_mul_d) (DE.p (de_fld (fo_down T) (de_var 0))) (DE.p (de_fld (fo_down T) (de_var 0))))) (DE.p (de_op (op_mul_d) (DE.p (de_fld (fo_right T) (de_var 0))) (DE.p (de_fld (fo_right T) (de_var 0))))))))
def F_Air_is_calm : LE → R Out :=
    (retS (andV (opE eqD (fldE fx_down (var 0)) (cst (.int 0))) (opE eqD (fldE fx_right (var 0)) (cst (.int 0)))))
def D_Air_is_calm : List D → R D := runF 1 1 F_Air_is_calm
theorem k_Air_is_calm (T : Txt w K mg base a) : MeD P w K mg base (gm K w a) 1 0 "is_calm" 1 D_Air_is_calm := by
  exact meD_E (G := gm K w a) (c := 0) T.e_Air_is_calm sc_Air_is_calm T.mt_Air_is_calm T.c_Air (show ("is_calm" : Str) ∉ (["down", "right"] : List Str) by decide +kernel) rfl rfl fun cdv A outer s H E hr =>
    (dss_one (ds_ret (de_and (de_cmp (op_eq_d rfl (huD64 hr)) (DE.p (de_fld (fo_down T) (de_var 0))) (DE.p de_int)) (de_one (de_cmp (op_eq_d rfl (huD64 hr)) (DE.p (de_fld (fo_right T) (de_var 0))) (DE.p de_int))))))
def F_Air_helps : LE → R Out :=
    (seqS (setK 2 (valK (opE addD (opE mulD (fldE fx_down (var 0)) (subE (var 1) (cst (.int 0)))) (opE mulD (fldE fx_right (var 0)) (subE (var 1) (cst (.int 1)))))))
    (retS (iteE (cmpT gtD (var 2) (cst (.int 0))) (cst (.str [97, 115, 116, 101, 114, 110])) (iteE (cmpT ltD (var 2) (cst (.int 0))) (cst (.str [97, 104, 101, 97, 100])) (cst (.str [97, 98, 101, 97, 109]))))))
def D_Air_helps : List D → R D := runF 2 3 F_Air_helps
theorem k_Air_helps (T : Txt w K mg base a) : MeD P w K mg base (gm K w a) 1 0 "helps" 2 D_Air_helps := by
  exact meD_E (G := gm K w a) (c := 0) T.e_Air_helps sc_Air_helps T.mt_Air_helps T.c_Air (show ("helps" : Str) ∉ (["down", "right"] : List Str) by decide +kernel) rfl rfl fun cdv A outer s H E hr =>
    (dss_cons (ds_set 2 (DE.k (de_op (op_add_d rfl) (DE.p (de_op (op_mul_d) (DE.p (de_fld (fo_down T) (de_var 0))) (DE.p (de_sub rfl rfl (huD hr) (DE.p (de_var 1)) (DE.p de_int) fun _ _ => rfl)))) (DE.p (de_op (op_mul_d) (DE.p (de_fld (fo_right T) (de_var 0))) (DE.p (de_sub rfl rfl (huD hr) (DE.p (de_var 1)) (DE.p de_int) fun _ _ => rfl)))))) (by decide) sc_Air_helps.nd)
    (dss_one (ds_ret (de_if (dt_cmp (op_gt_d) (DE.p (de_var 2)) (DE.p de_int)) (de_str [97, 115, 116, 101, 114, 110]) (de_if (dt_cmp (op_lt_d) (DE.p (de_var 2)) (DE.p de_int)) (de_str [97, 104, 101, 97, 100]) (de_str [97, 98, 101, 97, 109]))))))
def F_score : LE → R Out :=
    (seqS (asgS (subE (cst d_STEPS) (var 2)) (gTup_ 2 (gCons_ (gN 3) (gCons_ (gN 4) gNil_))))
    (seqS (setK 5 (valK (iteE (cmpT eqD (opE modD (var 2) (cst (.int 2))) (cst (.int 0))) (cst (.int 10000)) (cst (.int 7071)))))
    (retS (opE mulD (var 5) (opE subD (opE mulD (var 1) (var 4)) (opE mulD (var 0) (var 3)))))))
def D_score : List D → R D := runF 3 6 F_score
theorem k_score (T : Txt w K mg base a) : FnD P w K mg base (gm K w a) 1 "score" a.f_score 3 D_score := by
  exact fnD_E T.e_score sc_score T.g_score rfl rfl fun cdv A outer s H E hr =>
    (dss_cons (ds_asg (de_sub rfl rfl (huD hr) (DE.p (de_gl T.v_STEPS)) (DE.p (de_var 2)) fun _ _ => rfl) (dg_tup rfl rfl (dgs_cons (dg_name 3 sc_score.nd) (dgs_cons (dg_name 4 sc_score.nd) dgs_nil))))
    (dss_cons (ds_set 5 (DE.k (de_if (dt_cmp (op_eq_d rfl (huD64 hr)) (DE.p (de_op (op_mod_d) (DE.p (de_var 2)) (DE.p de_int))) (DE.p de_int)) de_int de_int)) (by decide) sc_score.nd)
    (dss_one (ds_ret (de_op (op_mul_d) (DE.p (de_var 5)) (DE.p (de_op (op_sub_d) (DE.p (de_op (op_mul_d) (DE.p (de_var 1)) (DE.p (de_var 4)))) (DE.p (de_op (op_mul_d) (DE.p (de_var 0)) (DE.p (de_var 3)))))))))))
def F_Air_comes_from : LE → R Out :=
    (seqS (ifS (valT (meth0E 0 D_Air_is_calm (var 0)))
    (errS ⟨7, .non⟩)
    skipS)
    (seqS (asgS (tupE (acons (fldE fx_down (var 0)) (acons (opE subD (cst (.int 0)) (fldE fx_right (var 0))) anil))) (gTup_ 2 (gCons_ (gN 1) (gCons_ (gN 2) gNil_))))
    (seqS (setK 3 (ownK (compF (rng1E (acons (cst (.int 8)) anil)) (gN 4) yesT (tupE (acons (opE subD (cst (.int 0)) (callE D_score (acons (var 1) (acons (var 2) (acons (var 4) anil))))) (acons (var 4) anil))) [4])))
    (seqS (setK 5 (valK (subE (callE minL (acons (varP 3) anil)) (cst (.int 0)))))
    (seqS (setK 6 (ownK (compF (itL (varP 3)) (gTup_ 2 (gCons_ (gN 7) (gCons_ (gN 4) gNil_))) (cmpT eqD (var 7) (var 5)) (var 4) [7, 4])))
    (retS (subE (cst d_EIGHTS) (iteE (cmpT neD (varP 6) (lE (lstE (acons (cst (.int 0)) (acons (cst (.int 7)) anil))))) (subE (varP 6) (negE (cst (.int 1)))) (cst (.int 0))))))))))
def D_Air_comes_from : List D → R D := runF 1 8 F_Air_comes_from
theorem k_Air_comes_from (T : Txt w K mg base a) : MeD P w K mg base (gm K w a) 2 0 "comes_from" 1 D_Air_comes_from := by
  exact meD_E (G := gm K w a) (c := 0) T.e_Air_comes_from sc_Air_comes_from T.mt_Air_comes_from T.c_Air (show ("comes_from" : Str) ∉ (["down", "right"] : List Str) by decide +kernel) rfl rfl fun cdv A outer s H E hr =>
    (dss_cons (ds_if (dt_val (de_meth0 (k_Air_is_calm T) (hr.mono (by decide)) takes_cxD (de_var 0)))
    (dss_one (ds_raise 7 takes_cxD rfl PySem.F.excBase_ValueError rfl rfl T.x_NoWay.1 T.x_NoWay.2.1 T.x_NoWay.2.2.1 (raises_own T.x_NoWay.2.2.2.1 T.x_NoWay.2.2.2.2)))
    dss_nil)
    (dss_cons (ds_asg (de_tup (da_cons (de_fld (fo_down T) (de_var 0)) (da_cons (de_op (op_sub_d) (DE.p de_int) (DE.p (de_fld (fo_right T) (de_var 0)))) da_nil))) (dg_tup rfl rfl (dgs_cons (dg_name 1 sc_Air_comes_from.nd) (dgs_cons (dg_name 2 sc_Air_comes_from.nd) dgs_nil))))
    (dss_cons (ds_setcomp 3 (own := [("k", 4)]) rfl sc_Air_comes_from.nd (DI.e (di_rng1 rfl T.b_range (da_cons de_int da_nil))) (blkOk_by (N := ["self", "up", "right", "best", "k", "top", "places", "one"]) (sc := defScope s_Air_comes_from) (by decide +kernel)) (fun _ _ _ _ _ => (dg_name 4 sc_Air_comes_from.nd)) (fun _ _ _ _ _ => dts_nil) (fun _ _ _ _ _ => (de_tup (da_cons (de_op (op_sub_d) (DE.p de_int) (DE.p (de_call (k_score T) (hr.mono (by decide)) takes0D (da_cons (de_var 1) (da_cons (de_var 2) (da_cons (de_var 4) da_nil)))))) (da_cons (de_var 4) da_nil)))) (by decide) (by decide) (sw_true rfl rfl rfl (by decide +kernel)))
    (dss_cons (ds_set 5 (DE.k (de_sub rfl rfl (huD hr) (DE.p (de_callB (cd_min rfl rfl (huD hr)) T.b_min rfl (dap_cons (dp_var 3) dap_nil))) (DE.p de_int) fun _ _ => rfl)) (by decide) sc_Air_comes_from.nd)
    (dss_cons (ds_setcomp 6 (own := [("one", 7), ("k", 4)]) rfl sc_Air_comes_from.nd (die_list rfl (dp_var 3)) (blkOk_by (N := ["self", "up", "right", "best", "k", "top", "places", "one"]) (sc := defScope s_Air_comes_from) (by decide +kernel)) (fun _ _ _ _ _ => (dg_tup rfl rfl (dgs_cons (dg_name 7 sc_Air_comes_from.nd) (dgs_cons (dg_name 4 sc_Air_comes_from.nd) dgs_nil)))) (fun _ _ _ _ _ => (dts_one (dt_cmp (op_eq_d rfl (huD64 hr)) (DE.p (de_var 7)) (DE.p (de_var 5))))) (fun _ _ _ _ _ => (de_var 4)) (by decide) (by decide) (sw_true rfl rfl rfl (by decide +kernel)))
    (dss_one (ds_ret (de_sub rfl rfl (huD hr) (DE.p (de_gl T.v_EIGHTS)) (DE.p (de_if (dt_cmp (op_ne_d rfl (huD64 hr)) (dp_var 6) (DE.p (DF.e (df_lst (da_cons de_int (da_cons de_int da_nil)))))) (de_sub rfl rfl (huD hr) (dp_var 6) (DE.p (de_neg (DE.p de_int))) fun _ _ => rfl) de_int)) fun _ _ => rfl))))))))
def F_backs_or_veers : LE → R Out :=
    (seqS (setK 1 (valK (tupE (acons (cst (.str [115, 116, 97, 121, 115])) (acons (cst (.str [118, 101, 101, 114, 115])) (acons (cst (.str [118, 101, 101, 114, 115])) (acons (cst (.str [118, 101, 101, 114, 115])) (acons (cst (.str [116, 117, 114, 110, 115])) (acons (cst (.str [98, 97, 99, 107, 115])) (acons (cst (.str [98, 97, 99, 107, 115])) (acons (cst (.str [98, 97, 99, 107, 115])) anil)))))))))))
    (retS (callE tupleD (acons (lE (compF (rng2E (acons (cst (.int 1)) (acons (callE lenX (acons (var 0) anil)) anil))) (gN 2) yesT (subE (var 1) (opE modD (opE subD (callE D_eighth_of (acons (subE (var 0) (var 2)) anil)) (callE D_eighth_of (acons (subE (var 0) (opE subD (var 2) (cst (.int 1)))) anil))) (cst (.int 8)))) [2])) anil))))
def D_backs_or_veers : List D → R D := runF 1 3 F_backs_or_veers
theorem k_backs_or_veers (T : Txt w K mg base a) : FnD P w K mg base (gm K w a) 2 "backs_or_veers" a.f_backs_or_veers 1 D_backs_or_veers := by
  exact fnD_E T.e_backs_or_veers sc_backs_or_veers T.g_backs_or_veers rfl rfl fun cdv A outer s H E hr =>
    (dss_cons (ds_set 1 (DE.k (de_tup (da_cons (de_str [115, 116, 97, 121, 115]) (da_cons (de_str [118, 101, 101, 114, 115]) (da_cons (de_str [118, 101, 101, 114, 115]) (da_cons (de_str [118, 101, 101, 114, 115]) (da_cons (de_str [116, 117, 114, 110, 115]) (da_cons (de_str [98, 97, 99, 107, 115]) (da_cons (de_str [98, 97, 99, 107, 115]) (da_cons (de_str [98, 97, 99, 107, 115]) da_nil)))))))))) (by decide) sc_backs_or_veers.nd)
    (dss_one (ds_ret (de_callT (cd_tuple rfl) T.b_tuple rfl (dap_cons (DE.p (DF.e (df_comp (own := [("k", 2)]) rfl sc_backs_or_veers.nd (DI.e (di_rng2 rfl T.b_range (da_cons de_int (da_cons (de_callB (cd_lenX rfl) T.b_len rfl (dap_cons (DE.p (de_var 0)) dap_nil)) da_nil)))) (blkOk_by (N := ["winds", "words", "k"]) (sc := defScope s_backs_or_veers) (by decide +kernel)) (fun _ _ _ _ _ => (dg_name 2 sc_backs_or_veers.nd)) (fun _ _ _ _ _ => dts_nil) (fun _ _ _ _ _ => (de_sub rfl rfl (huD hr) (DE.p (de_var 1)) (DE.p (de_op (op_mod_d) (DE.p (de_op (op_sub_d) (DE.p (de_call (k_eighth_of T) (hr.mono (by decide)) takes0D (da_cons (de_sub rfl rfl (huD hr) (DE.p (de_var 0)) (DE.p (de_var 2)) fun _ _ => rfl) da_nil))) (DE.p (de_call (k_eighth_of T) (hr.mono (by decide)) takes0D (da_cons (de_sub rfl rfl (huD hr) (DE.p (de_var 0)) (DE.p (de_op (op_sub_d) (DE.p (de_var 2)) (DE.p de_int))) fun _ _ => rfl) da_nil))))) (DE.p de_int))) fun _ _ => rfl)) (by decide)))) dap_nil)))))
def F_law_rest1 : LE → R Out :=
    (seqS (asgS (tupE (acons (callE D_Air_init (acons (opE subD (callE rollD (acons (var 0) (acons (cst (.int 9)) anil))) (cst (.int 4))) (acons (opE subD (callE rollD (acons (var 0) (acons (cst (.int 9)) anil))) (cst (.int 4))) anil))) (acons (tupE (acons (opE subD (callE rollD (acons (var 0) (acons (cst (.int 5)) anil))) (cst (.int 2))) (acons (opE subD (callE rollD (acons (var 0) (acons (cst (.int 5)) anil))) (cst (.int 2))) anil))) anil))) (gTup_ 2 (gCons_ (gN 3) (gCons_ (gN 4) gNil_))))
    (seqS (setK 5 (valK (methE 0 D_Air_felt (var 3) (acons (var 4) anil))))
    (seqS (ifS (orT (cmpT neD (meth0E 0 D_Air_key (var 5)) (tupE (acons (opE subD (fldE fx_down (var 3)) (subE (var 4) (cst (.int 0)))) (acons (opE subD (fldE fx_right (var 3)) (subE (var 4) (cst (.int 1)))) anil)))) (cmpT neD (meth0E 0 D_Air_key (methE 0 D_Air_true_air (var 5) (acons (var 4) anil))) (meth0E 0 D_Air_key (var 3))))
    (retS (cst (.bl false)))
    skipS)
    (seqS (ifS (orT (cmpT neD (meth0E 0 D_Air_squared_force (var 3)) (opE addD (opE mulD (fldE fx_down (var 3)) (fldE fx_down (var 3))) (opE mulD (fldE fx_right (var 3)) (fldE fx_right (var 3))))) (cmpT neD (meth0E 0 D_Air_is_calm (var 3)) (opE eqD (meth0E 0 D_Air_key (var 3)) (tupE (acons (cst (.int 0)) (acons (cst (.int 0)) anil))))))
    (retS (cst (.bl false)))
    skipS)
    (seqS (setK 6 (valK (opE addD (opE mulD (fldE fx_down (var 3)) (subE (var 4) (cst (.int 0)))) (opE mulD (fldE fx_right (var 3)) (subE (var 4) (cst (.int 1)))))))
    (seqS (ifS (cmpT neD (methE 0 D_Air_helps (var 3) (acons (var 4) anil)) (iteE (cmpT gtD (var 6) (cst (.int 0))) (cst (.str [97, 115, 116, 101, 114, 110])) (iteE (cmpT ltD (var 6) (cst (.int 0))) (cst (.str [97, 104, 101, 97, 100])) (cst (.str [97, 98, 101, 97, 109])))))
    (retS (cst (.bl false)))
    skipS)
    (seqS (ifS (valT (meth0E 0 D_Air_is_calm (var 3)))
    (ifS (cmpT neD (toldE toldL (meth0E 0 D_Air_comes_from (var 3))) (cst (.str [110, 111, 32, 119, 97, 121])))
    (retS (cst (.bl false)))
    skipS)
    (seqS (setK 7 (ownK (compF (rng1E (acons (cst (.int 8)) anil)) (gN 8) yesT (callE D_score (acons (fldE fx_down (var 3)) (acons (opE subD (cst (.int 0)) (fldE fx_right (var 3))) (acons (var 8) anil)))) [8])))
    (seqS (ifS (cmpT neD (subE (varP 7) (callE D_eighth_of (acons (meth0E 0 D_Air_comes_from (var 3)) anil))) (callE maxL (acons (varP 7) anil)))
    (retS (cst (.bl false)))
    skipS)
    (seqS (setK 9 (valK (callE D_law_way (acons (tupE (acons (cst (.int 0)) (acons (cst (.int 0)) anil))) (acons (tupE (acons (opE subD (cst (.int 0)) (fldE fx_down (var 3))) (acons (opE subD (cst (.int 0)) (fldE fx_right (var 3))) anil))) anil)))))
    (ifS (andT (cmpT inD (var 9) (cst d_EIGHTS)) (cmpT neD (meth0E 0 D_Air_comes_from (var 3)) (var 9)))
    (retS (cst (.bl false)))
    skipS)))))
    (seqS (setK 10 (valK (lE (compF (rng1E (acons (callE rollD (acons (var 0) (acons (cst (.int 6)) anil))) anil)) (gN 8) yesT (subE (cst d_EIGHTS) (callE rollD (acons (var 0) (acons (cst (.int 8)) anil)))) [8]))))
    (seqS (setK 11 (ownK (compF (rng2E (acons (cst (.int 1)) (acons (callE lenX (acons (var 10) anil)) anil))) (gN 8) yesT (opE modD (opE subD (kbmE d_EIGHTS idxTp (acons (subE (var 10) (var 8)) anil)) (kbmE d_EIGHTS idxTp (acons (subE (var 10) (opE subD (var 8) (cst (.int 1)))) anil))) (cst (.int 8))) [8])))
    (seqS (ifS (cmpT neD (lE (callF listD (acons (callE D_backs_or_veers (acons (var 10) anil)) anil))) (lE (compF (itL (varP 11)) (gN 12) yesT (iteE (cmpT eqD (var 12) (cst (.int 0))) (cst (.str [115, 116, 97, 121, 115])) (iteE (cmpT eqD (var 12) (cst (.int 4))) (cst (.str [116, 117, 114, 110, 115])) (iteE (cmpT ltD (var 12) (cst (.int 4))) (cst (.str [118, 101, 101, 114, 115])) (cst (.str [98, 97, 99, 107, 115]))))) [12])))
    (retS (cst (.bl false)))
    skipS)
    (seqS (ifS (cmpT neD (toldE toldL (callE D_eighth_of (acons (cst (.str [120])) anil))) (cst (.str [102, 108, 101, 101, 116])))
    (retS (cst (.bl false)))
    skipS)
    (seqS (ifS (cmpT neD (toldE toldL (callE D_readers (acons (var 2) (acons (var 1) (acons (cst (.str [122])) (acons (cst (.int 1)) anil)))))) (cst (.str [102, 108, 101, 101, 116])))
    (retS (cst (.bl false)))
    skipS)
    (retS (cst (.bl true)))))))))))))))
def D_law_rest1 : List D → R D := runF 3 13 F_law_rest1
theorem k_law_rest1 (T : Txt w K mg base a) : FnD P w K mg base (gm K w a) 7 "_law_rest1" a.f_law_rest1 3 D_law_rest1 := by
  obtain ⟨oc0, od0, kV0, doc0, pm0, an0, cdv0, ct0, osl0, lk0, cd0, kp0, bd0⟩ := T.l_told
  exact fnD_C T.e_law_rest1 sc_law_rest1 T.g_law_rest1 rfl rfl fun A outer s H E hr =>
    (dss_cons (ds_asg (de_tup (da_cons (de_make (k_Air_init T) (hr.mono (by decide)) takes_cxD (da_cons (de_op (op_sub_d) (DE.p (de_call (k_law_roll T) (hr.mono (by decide)) takes_cxD (da_cons (de_var 0) (da_cons de_int da_nil)))) (DE.p de_int)) (da_cons (de_op (op_sub_d) (DE.p (de_call (k_law_roll T) (hr.mono (by decide)) takes_cxD (da_cons (de_var 0) (da_cons de_int da_nil)))) (DE.p de_int)) da_nil))) (da_cons (de_tup (da_cons (de_op (op_sub_d) (DE.p (de_call (k_law_roll T) (hr.mono (by decide)) takes_cxD (da_cons (de_var 0) (da_cons de_int da_nil)))) (DE.p de_int)) (da_cons (de_op (op_sub_d) (DE.p (de_call (k_law_roll T) (hr.mono (by decide)) takes_cxD (da_cons (de_var 0) (da_cons de_int da_nil)))) (DE.p de_int)) da_nil))) da_nil))) (dg_tup rfl rfl (dgs_cons (dg_name 3 sc_law_rest1.nd) (dgs_cons (dg_name 4 sc_law_rest1.nd) dgs_nil))))
    (dss_cons (ds_set 5 (DE.k (de_meth (k_Air_felt T) (hr.mono (by decide)) takes_cxD (de_var 3) (da_cons (de_var 4) da_nil))) (by decide) sc_law_rest1.nd)
    (dss_cons (ds_if (dt_w (dw_or (dt_cmp (op_ne_d rfl (huD64 hr)) (DE.p (de_meth0 (k_Air_key T) (hr.mono (by decide)) takes_cxD (de_var 5))) (DE.p (de_tup (da_cons (de_op (op_sub_d) (DE.p (de_fld (fo_down T) (de_var 3))) (DE.p (de_sub rfl rfl (huD hr) (DE.p (de_var 4)) (DE.p de_int) fun _ _ => rfl))) (da_cons (de_op (op_sub_d) (DE.p (de_fld (fo_right T) (de_var 3))) (DE.p (de_sub rfl rfl (huD hr) (DE.p (de_var 4)) (DE.p de_int) fun _ _ => rfl))) da_nil))))) (dw_or1 (dt_cmp (op_ne_d rfl (huD64 hr)) (DE.p (de_meth0 (k_Air_key T) (hr.mono (by decide)) takes_cxD (de_meth (k_Air_true_air T) (hr.mono (by decide)) takes_cxD (de_var 5) (da_cons (de_var 4) da_nil)))) (DE.p (de_meth0 (k_Air_key T) (hr.mono (by decide)) takes_cxD (de_var 3)))))))
    (dss_one (ds_ret de_bl))
    dss_nil)
    (dss_cons (ds_if (dt_w (dw_or (dt_cmp (op_ne_d rfl (huD64 hr)) (DE.p (de_meth0 (k_Air_squared_force T) (hr.mono (by decide)) takes_cxD (de_var 3))) (DE.p (de_op (op_add_d rfl) (DE.p (de_op (op_mul_d) (DE.p (de_fld (fo_down T) (de_var 3))) (DE.p (de_fld (fo_down T) (de_var 3))))) (DE.p (de_op (op_mul_d) (DE.p (de_fld (fo_right T) (de_var 3))) (DE.p (de_fld (fo_right T) (de_var 3)))))))) (dw_or1 (dt_cmp (op_ne_d rfl (huD64 hr)) (DE.p (de_meth0 (k_Air_is_calm T) (hr.mono (by decide)) takes_cxD (de_var 3))) (DE.p (de_cmp (op_eq_d rfl (huD64 hr)) (DE.p (de_meth0 (k_Air_key T) (hr.mono (by decide)) takes_cxD (de_var 3))) (DE.p (de_tup (da_cons de_int (da_cons de_int da_nil))))))))))
    (dss_one (ds_ret de_bl))
    dss_nil)
    (dss_cons (ds_set 6 (DE.k (de_op (op_add_d rfl) (DE.p (de_op (op_mul_d) (DE.p (de_fld (fo_down T) (de_var 3))) (DE.p (de_sub rfl rfl (huD hr) (DE.p (de_var 4)) (DE.p de_int) fun _ _ => rfl)))) (DE.p (de_op (op_mul_d) (DE.p (de_fld (fo_right T) (de_var 3))) (DE.p (de_sub rfl rfl (huD hr) (DE.p (de_var 4)) (DE.p de_int) fun _ _ => rfl)))))) (by decide) sc_law_rest1.nd)
    (dss_cons (ds_if (dt_cmp (op_ne_d rfl (huD64 hr)) (DE.p (de_meth (k_Air_helps T) (hr.mono (by decide)) takes_cxD (de_var 3) (da_cons (de_var 4) da_nil))) (DE.p (de_if (dt_cmp (op_gt_d) (DE.p (de_var 6)) (DE.p de_int)) (de_str [97, 115, 116, 101, 114, 110]) (de_if (dt_cmp (op_lt_d) (DE.p (de_var 6)) (DE.p de_int)) (de_str [97, 104, 101, 97, 100]) (de_str [97, 98, 101, 97, 109])))))
    (dss_one (ds_ret de_bl))
    dss_nil)
    (dss_cons (ds_if (dt_val (de_meth0 (k_Air_is_calm T) (hr.mono (by decide)) takes_cxD (de_var 3)))
    (dss_one (ds_if (dt_cmp (op_ne_d rfl (huD64 hr)) (DE.p (de_told (k := 2) (l := toldL) T.g_law_told kp0 lk0 cd0 bd0 sc_law_told rfl (Or.inl rfl) (gives_told T rfl rfl) T.exm T.tb_law_rest1 rfl tm_law_rest1 (tu_law_rest1 T) (hr.mono (by decide)) (lamS_by (sc := defScope s_law_rest1) (by decide +kernel)) (fun _ _ _ _ _ _ _ hr' => (de_meth0 (k_Air_comes_from T) (hr'.mono (by decide)) takes_lam (de_var 3))))) (DE.p (de_str [110, 111, 32, 119, 97, 121])))
    (dss_one (ds_ret de_bl))
    dss_nil))
    (dss_cons (ds_setcomp 7 (own := [("k", 8)]) rfl sc_law_rest1.nd (DI.e (di_rng1 rfl T.b_range (da_cons de_int da_nil))) (blkOk_by (N := ["dice", "ships", "wind", "air", "steps", "felt", "along", "tops", "k", "straight", "winds", "gaps", "gap"]) (sc := defScope s_law_rest1) (by decide +kernel)) (fun _ _ _ _ _ => (dg_name 8 sc_law_rest1.nd)) (fun _ _ _ _ _ => dts_nil) (fun _ _ _ _ _ => (de_call (k_score T) (hr.mono (by decide)) takes0D (da_cons (de_fld (fo_down T) (de_var 3)) (da_cons (de_op (op_sub_d) (DE.p de_int) (DE.p (de_fld (fo_right T) (de_var 3)))) (da_cons (de_var 8) da_nil))))) (by decide) (by decide) (sw_true rfl rfl rfl (by decide +kernel)))
    (dss_cons (ds_if (dt_cmp (op_ne_d rfl (huD64 hr)) (DE.p (de_sub rfl rfl (huD hr) (dp_var 7) (DE.p (de_call (k_eighth_of T) (hr.mono (by decide)) takes_cxD (da_cons (de_meth0 (k_Air_comes_from T) (hr.mono (by decide)) takes_cxD (de_var 3)) da_nil))) fun _ _ => rfl)) (DE.p (de_callB (cd_max rfl rfl (huD hr)) T.b_max rfl (dap_cons (dp_var 7) dap_nil))))
    (dss_one (ds_ret de_bl))
    dss_nil)
    (dss_cons (ds_set 9 (DE.k (de_call (k_law_way T) (hr.mono (by decide)) takes_cxD (da_cons (de_tup (da_cons de_int (da_cons de_int da_nil))) (da_cons (de_tup (da_cons (de_op (op_sub_d) (DE.p de_int) (DE.p (de_fld (fo_down T) (de_var 3)))) (da_cons (de_op (op_sub_d) (DE.p de_int) (DE.p (de_fld (fo_right T) (de_var 3)))) da_nil))) da_nil)))) (by decide) sc_law_rest1.nd)
    (dss_one (ds_if (dt_w (dw_and (dt_cmp (op_in_d rfl (huD hr)) (DE.p (de_var 9)) (DE.p (de_gl T.v_EIGHTS))) (dw_and1 (dt_cmp (op_ne_d rfl (huD64 hr)) (DE.p (de_meth0 (k_Air_comes_from T) (hr.mono (by decide)) takes_cxD (de_var 3))) (DE.p (de_var 9))))))
    (dss_one (ds_ret de_bl))
    dss_nil))))))
    (dss_cons (ds_set 10 (DE.k (DF.e (df_comp (own := [("k", 8)]) rfl sc_law_rest1.nd (DI.e (di_rng1 rfl T.b_range (da_cons (de_call (k_law_roll T) (hr.mono (by decide)) takes_cxD (da_cons (de_var 0) (da_cons de_int da_nil))) da_nil))) (blkOk_by (N := ["dice", "ships", "wind", "air", "steps", "felt", "along", "tops", "k", "straight", "winds", "gaps", "gap"]) (sc := defScope s_law_rest1) (by decide +kernel)) (fun _ _ _ _ _ => (dg_name 8 sc_law_rest1.nd)) (fun _ _ _ _ _ => dts_nil) (fun _ _ _ _ _ => (de_sub rfl rfl (huD hr) (DE.p (de_gl T.v_EIGHTS)) (DE.p (de_call (k_law_roll T) (hr.mono (by decide)) takes0D (da_cons (de_var 0) (da_cons de_int da_nil)))) fun _ _ => rfl)) (by decide)))) (by decide) sc_law_rest1.nd)
    (dss_cons (ds_setcomp 11 (own := [("k", 8)]) rfl sc_law_rest1.nd (DI.e (di_rng2 rfl T.b_range (da_cons de_int (da_cons (de_callB (cd_lenX rfl) T.b_len rfl (dap_cons (DE.p (de_var 10)) dap_nil)) da_nil)))) (blkOk_by (N := ["dice", "ships", "wind", "air", "steps", "felt", "along", "tops", "k", "straight", "winds", "gaps", "gap"]) (sc := defScope s_law_rest1) (by decide +kernel)) (fun _ _ _ _ _ => (dg_name 8 sc_law_rest1.nd)) (fun _ _ _ _ _ => dts_nil) (fun _ _ _ _ _ => (de_op (op_mod_d) (DE.p (de_op (op_sub_d) (DE.p (de_ktm T.kt_EIGHTS rfl (bm_index_tuple rfl) (dap_cons (DE.p (de_sub rfl rfl (huD hr) (DE.p (de_var 10)) (DE.p (de_var 8)) fun _ _ => rfl)) dap_nil))) (DE.p (de_ktm T.kt_EIGHTS rfl (bm_index_tuple rfl) (dap_cons (DE.p (de_sub rfl rfl (huD hr) (DE.p (de_var 10)) (DE.p (de_op (op_sub_d) (DE.p (de_var 8)) (DE.p de_int))) fun _ _ => rfl)) dap_nil))))) (DE.p de_int))) (by decide) (by decide) (sw_true rfl rfl rfl (by decide +kernel)))
    (dss_cons (ds_if (dt_cmp (op_ne_d rfl (huD64 hr)) (DE.p (DF.e (df_callT (cf_list rfl) T.b_list rfl (dap_cons (DE.p (de_call (k_backs_or_veers T) (hr.mono (by decide)) takes_cxD (da_cons (de_var 10) da_nil))) dap_nil)))) (DE.p (DF.e (df_comp (own := [("gap", 12)]) rfl sc_law_rest1.nd (die_list rfl (dp_var 11)) (blkOk_by (N := ["dice", "ships", "wind", "air", "steps", "felt", "along", "tops", "k", "straight", "winds", "gaps", "gap"]) (sc := defScope s_law_rest1) (by decide +kernel)) (fun _ _ _ _ _ => (dg_name 12 sc_law_rest1.nd)) (fun _ _ _ _ _ => dts_nil) (fun _ _ _ _ _ => (de_if (dt_cmp (op_eq_d rfl (huD64 hr)) (DE.p (de_var 12)) (DE.p de_int)) (de_str [115, 116, 97, 121, 115]) (de_if (dt_cmp (op_eq_d rfl (huD64 hr)) (DE.p (de_var 12)) (DE.p de_int)) (de_str [116, 117, 114, 110, 115]) (de_if (dt_cmp (op_lt_d) (DE.p (de_var 12)) (DE.p de_int)) (de_str [118, 101, 101, 114, 115]) (de_str [98, 97, 99, 107, 115]))))) (by decide)))))
    (dss_one (ds_ret de_bl))
    dss_nil)
    (dss_cons (ds_if (dt_cmp (op_ne_d rfl (huD64 hr)) (DE.p (de_told (k := 1) (l := toldL) T.g_law_told kp0 lk0 cd0 bd0 sc_law_told rfl (Or.inl rfl) (gives_told T rfl rfl) T.exm T.tb_law_rest1 rfl tm_law_rest1 (tu_law_rest1 T) (hr.mono (by decide)) (lamS_by (sc := defScope s_law_rest1) (by decide +kernel)) (fun _ _ _ _ _ _ _ hr' => (de_call (k_eighth_of T) (hr'.mono (by decide)) takes_lam (da_cons (de_str [120]) da_nil))))) (DE.p (de_str [102, 108, 101, 101, 116])))
    (dss_one (ds_ret de_bl))
    dss_nil)
    (dss_cons (ds_if (dt_cmp (op_ne_d rfl (huD64 hr)) (DE.p (de_told (k := 4) (l := toldL) T.g_law_told kp0 lk0 cd0 bd0 sc_law_told rfl (Or.inl rfl) (gives_told T rfl rfl) T.exm T.tb_law_rest1 rfl tm_law_rest1 (tu_law_rest1 T) (hr.mono (by decide)) (lamS_by (sc := defScope s_law_rest1) (by decide +kernel)) (fun _ _ _ _ _ _ _ hr' => (de_call (k_readers T) (hr'.mono (by decide)) takes_lam (da_cons (de_var 2) (da_cons (de_var 1) (da_cons (de_str [122]) (da_cons de_int da_nil)))))))) (DE.p (de_str [102, 108, 101, 101, 116])))
    (dss_one (ds_ret de_bl))
    dss_nil)
    (dss_one (ds_ret de_bl))))))))))))))
def F_law : LE → R Out :=
    (seqS (par3oS 2 3 4 nodic (subE (cst d_EIGHTS) (callE rollD (acons (var 1) (acons (cst (.int 8)) anil)))) (opE addD (cst (.int 1)) (callE rollD (acons (var 1) (acons (cst (.int 6)) anil)))))
    (seqS (forS (rng1E (acons (opE addD (cst (.int 1)) (callE rollD (acons (var 1) (acons (cst (.int 5)) anil)))) anil)) (gN 5)
    (seqS (setK 6 (valK (tupE (acons (callE rollD (acons (var 1) (acons (cst (.int 5)) anil))) (acons (callE rollD (acons (var 1) (acons (cst (.int 5)) anil))) anil)))))
    (ifS (cmpT (inVals true) (var 6) (varP 2))
    (stodS 2 (var 6) (subE (cst (.str [97, 98, 99, 100, 101])) (var 5)))
    skipS)))
    (seqS (asgS (tupE (acons (tupE (acons (callE rollD (acons (var 1) (acons (cst (.int 6)) anil))) (acons (callE rollD (acons (var 1) (acons (cst (.int 6)) anil))) anil))) (acons (tupE (acons (callE rollD (acons (var 1) (acons (cst (.int 6)) anil))) (acons (callE rollD (acons (var 1) (acons (cst (.int 6)) anil))) anil))) anil))) (gTup_ 2 (gCons_ (gN 7) (gCons_ (gN 8) gNil_))))
    (seqS (setK 9 (valK (callE D_law_way (acons (var 7) (acons (var 8) anil)))))
    (seqS (ifS (cmpT neD (toldE toldL (callE D_way_between (acons (var 7) (acons (var 8) anil)))) (var 9))
    (retS (cst (.bl false)))
    skipS)
    (seqS (ifS (cmpT inD (var 9) (cst d_EIGHTS))
    (seqS (setK 10 (valK (opE modD (opE subD (kbmE d_EIGHTS idxTp (acons (var 9) anil)) (kbmE d_EIGHTS idxTp (acons (var 3) anil))) (cst (.int 4)))))
    (seqS (ifS (cmpT neD (callE D_shows_side (acons (var 3) (acons (var 7) (acons (var 8) anil)))) (subE (lE (lstE (acons (cst (.str [101, 110, 100, 32, 111, 110])) (acons (cst (.str [115, 108, 97, 110, 116, 105, 110, 103])) (acons (cst (.str [98, 114, 111, 97, 100, 115, 105, 100, 101])) (acons (cst (.str [115, 108, 97, 110, 116, 105, 110, 103])) anil)))))) (var 10)))
    (retS (cst (.bl false)))
    skipS)
    (seqS (ifS (cmpT neD (callE D_reads_in_wind (acons (var 3) (acons (var 7) (acons (var 8) (acons (var 4) anil))))) (callE D_law_reads (acons (var 3) (acons (var 7) (acons (var 8) (acons (var 4) anil))))))
    (retS (cst (.bl false)))
    skipS)
    (ifS (cmpT neD (callE D_way_between (acons (var 8) (acons (var 7) anil))) (subE (cst d_EIGHTS) (opE modD (opE addD (kbmE d_EIGHTS idxTp (acons (var 9) anil)) (cst (.int 4))) (cst (.int 8)))))
    (retS (cst (.bl false)))
    skipS))))
    skipS)
    (seqS (ifS (orT (cmpT neD (callE D_streams_to (acons (callE D_streams_to (acons (var 3) anil)) anil)) (var 3)) (cmpT neD (callE D_eighth_of (acons (callE D_streams_to (acons (var 3) anil)) anil)) (opE modD (opE addD (callE D_eighth_of (acons (var 3) anil)) (cst (.int 4))) (cst (.int 8)))))
    (retS (cst (.bl false)))
    skipS)
    (seqS (setK 11 (valK (subE (lE (callF sortedL (acons (varP 2) anil))) (cst (.int 0)))))
    (seqS (frzS 2 (ifS (cmpT neD (lE (callF listD (acons (callE D_readers (acons (var 3) (acons (var 2) (acons (var 11) (acons (var 4) anil))))) anil))) (lE (compF (itL (lE (callF sortedL (acons (varP 2) anil)))) (gN 12) (andT (cmpT neD (var 12) (var 11)) (valT (callE D_law_reads (acons (var 3) (acons (subE (varP 2) (var 11)) (acons (subE (varP 2) (var 12)) (acons (var 4) anil))))))) (var 12) [12])))
    (retS (cst (.bl false)))
    skipS))
    (seqS (frzS 2 (ifS (cmpT neD (lE (callF listD (acons (callE D_told_by_repeats (acons (var 3) (acons (var 2) (acons (var 11) (acons (var 4) anil))))) anil))) (callE D_law_known (acons (var 3) (acons (var 2) (acons (var 11) (acons (var 4) anil))))))
    (retS (cst (.bl false)))
    skipS))
    (seqS (frzS 2 (setK 13 (ownK (compF (itT (cst d_EIGHTS)) (gN 14) yesT (callE lenX (acons (callE D_law_known (acons (var 14) (acons (var 2) (acons (var 11) (acons (var 4) anil))))) anil)) [14]))))
    (seqS (frzS 2 (ifS (cmpT neD (callE D_best_wind (acons (var 2) (acons (var 11) (acons (var 4) anil)))) (subE (cst d_EIGHTS) (bmE "list" idxLs (varP 13) (acons (callE maxL (acons (varP 13) anil)) anil))))
    (retS (cst (.bl false)))
    skipS))
    (frzS 2 (ifS (notT (valT (callE D_law_rest1 (acons (var 1) (acons (var 2) (acons (var 3) anil))))))
    (retS (cst (.bl false)))
    skipS))))))))))))))
theorem ok_law (T : Txt w K mg base a) {oc : Value} {od : Option Addr} {kV doc pm : Value} {an : Option Addr} {ct : Value} {osl : Array (Option Value)} (lk : K.lookup a.f_law = some ⟨oc, od, .func (PySem.W.fnOf "law" "law" (defArgs s_law) (defBody s_law) (defScope s_law) .none kV doc pm an (.ref a.k_law) ct), osl⟩)
    (cd : PySem.W.codeIn K (.ref a.k_law) "law" = true) (hF : Wp (F_law (r0 15)) (fun o => ∃ r, o = .nx r ∨ o = .ct r) (fun _ => False)) :
    FnOk P w K mg base (L2.CX P w) 8 a.f_law (PySem.W.fnOf "law" "law" (defArgs s_law) (defBody s_law) (defScope s_law) .none kV doc pm an (.ref a.k_law) ct) ["script"] (spLaw K (gm K w a).tabs) := by
  obtain ⟨oc0, od0, kV0, doc0, pm0, an0, cdv0, ct0, osl0, lk0, cd0, kp0, bd0⟩ := T.l_told
  obtain ⟨fdD, FD, bD⟩ := T.e_law_dice
  obtain ⟨fdR, FR, bR⟩ := T.e_law_rounds
  have hD := ok_dice (P := P) (w := w) (base := base) FD T.b_int T.b_abs
  have hR := ok_rounds (P := P) (w := w) (base := base) FR hD FD.kp bD T.g_law_dice
  exact law_C (G := gm K w a) lk cd sc_law rfl (by decide) rfl hF fun A outer s H E hr => ⟨_, pss_cons (ps_for owns_cxD rfl (pi_list (pe_callS hR (hr.mono (by decide)) rfl T.g_law_rounds FR.kp bR (fun sg => passAt (takes_cxD (N := ["script", "dice", "ships", "wind", "reach", "k", "spot", "one", "other", "way", "gap", "start", "name", "counts", "blown"]) (st := s_law) (f := a.f_law)) sg) (pa_cons (pv 0) (pa_cons pe_int pa_nil)))) (pg_name (i := 1) sc_law.nd rfl (Or.inl rfl))
    (dss_cons (ds_asg3o 2 3 4 rfl rfl sc_law.nd (by decide) dk_nodic (de_sub rfl rfl (huD hr) (DE.p (de_gl T.v_EIGHTS)) (DE.p (de_call (k_law_roll T) (hr.mono (by decide)) takes_cxD (da_cons (de_var 1) (da_cons de_int da_nil)))) fun _ _ => rfl) (de_op (op_add_d rfl) (DE.p de_int) (DE.p (de_call (k_law_roll T) (hr.mono (by decide)) takes_cxD (da_cons (de_var 1) (da_cons de_int da_nil))))))
    (dss_cons (ds_for owns_cxD rfl (di_rng1 rfl T.b_range (da_cons (de_op (op_add_d rfl) (DE.p de_int) (DE.p (de_call (k_law_roll T) (hr.mono (by decide)) takes_cxD (da_cons (de_var 1) (da_cons de_int da_nil))))) da_nil)) (dg_name 5 sc_law.nd)
    (dss_cons (ds_set 6 (DE.k (de_tup (da_cons (de_call (k_law_roll T) (hr.mono (by decide)) takes_cxD (da_cons (de_var 1) (da_cons de_int da_nil))) (da_cons (de_call (k_law_roll T) (hr.mono (by decide)) takes_cxD (da_cons (de_var 1) (da_cons de_int da_nil))) da_nil)))) (by decide) sc_law.nd)
    (dss_one (ds_if (dt_invals true rfl rfl (huD hr) (DE.p (de_var 6)) (dp_var 2))
    (dss_one (ds_stored 2 (hu1 hr) (de_var 6) (de_sub rfl rfl (huD hr) (DE.p (de_str [97, 98, 99, 100, 101])) (DE.p (de_var 5)) fun _ _ => rfl)))
    dss_nil))))
    (dss_cons (ds_asg (de_tup (da_cons (de_tup (da_cons (de_call (k_law_roll T) (hr.mono (by decide)) takes_cxD (da_cons (de_var 1) (da_cons de_int da_nil))) (da_cons (de_call (k_law_roll T) (hr.mono (by decide)) takes_cxD (da_cons (de_var 1) (da_cons de_int da_nil))) da_nil))) (da_cons (de_tup (da_cons (de_call (k_law_roll T) (hr.mono (by decide)) takes_cxD (da_cons (de_var 1) (da_cons de_int da_nil))) (da_cons (de_call (k_law_roll T) (hr.mono (by decide)) takes_cxD (da_cons (de_var 1) (da_cons de_int da_nil))) da_nil))) da_nil))) (dg_tup rfl rfl (dgs_cons (dg_name 7 sc_law.nd) (dgs_cons (dg_name 8 sc_law.nd) dgs_nil))))
    (dss_cons (ds_set 9 (DE.k (de_call (k_law_way T) (hr.mono (by decide)) takes_cxD (da_cons (de_var 7) (da_cons (de_var 8) da_nil)))) (by decide) sc_law.nd)
    (dss_cons (ds_if (dt_cmp (op_ne_d rfl (huD64 hr)) (DE.p (de_told (k := 1) (l := toldL) T.g_law_told kp0 lk0 cd0 bd0 sc_law_told rfl (Or.inl rfl) (gives_told T rfl rfl) T.exm T.tb_law rfl tm_law (tu_law T) (hr.mono (by decide)) (lamS_by (sc := defScope s_law) (by decide +kernel)) (fun _ _ _ _ _ _ _ hr' => (de_call (k_way_between T) (hr'.mono (by decide)) takes_lam (da_cons (de_var 7) (da_cons (de_var 8) da_nil)))))) (DE.p (de_var 9)))
    (dss_one (ds_ret de_bl))
    dss_nil)
    (dss_cons (ds_if (dt_cmp (op_in_d rfl (huD hr)) (DE.p (de_var 9)) (DE.p (de_gl T.v_EIGHTS)))
    (dss_cons (ds_set 10 (DE.k (de_op (op_mod_d) (DE.p (de_op (op_sub_d) (DE.p (de_ktm T.kt_EIGHTS rfl (bm_index_tuple rfl) (dap_cons (DE.p (de_var 9)) dap_nil))) (DE.p (de_ktm T.kt_EIGHTS rfl (bm_index_tuple rfl) (dap_cons (DE.p (de_var 3)) dap_nil))))) (DE.p de_int))) (by decide) sc_law.nd)
    (dss_cons (ds_if (dt_cmp (op_ne_d rfl (huD64 hr)) (DE.p (de_call (k_shows_side T) (hr.mono (by decide)) takes_cxD (da_cons (de_var 3) (da_cons (de_var 7) (da_cons (de_var 8) da_nil))))) (DE.p (de_sub rfl rfl (huD hr) (DE.p (DF.e (df_lst (da_cons (de_str [101, 110, 100, 32, 111, 110]) (da_cons (de_str [115, 108, 97, 110, 116, 105, 110, 103]) (da_cons (de_str [98, 114, 111, 97, 100, 115, 105, 100, 101]) (da_cons (de_str [115, 108, 97, 110, 116, 105, 110, 103]) da_nil))))))) (DE.p (de_var 10)) fun _ _ => rfl)))
    (dss_one (ds_ret de_bl))
    dss_nil)
    (dss_cons (ds_if (dt_cmp (op_ne_d rfl (huD64 hr)) (DE.p (de_call (k_reads_in_wind T) (hr.mono (by decide)) takes_cxD (da_cons (de_var 3) (da_cons (de_var 7) (da_cons (de_var 8) (da_cons (de_var 4) da_nil)))))) (DE.p (de_call (k_law_reads T) (hr.mono (by decide)) takes_cxD (da_cons (de_var 3) (da_cons (de_var 7) (da_cons (de_var 8) (da_cons (de_var 4) da_nil)))))))
    (dss_one (ds_ret de_bl))
    dss_nil)
    (dss_one (ds_if (dt_cmp (op_ne_d rfl (huD64 hr)) (DE.p (de_call (k_way_between T) (hr.mono (by decide)) takes_cxD (da_cons (de_var 8) (da_cons (de_var 7) da_nil)))) (DE.p (de_sub rfl rfl (huD hr) (DE.p (de_gl T.v_EIGHTS)) (DE.p (de_op (op_mod_d) (DE.p (de_op (op_add_d rfl) (DE.p (de_ktm T.kt_EIGHTS rfl (bm_index_tuple rfl) (dap_cons (DE.p (de_var 9)) dap_nil))) (DE.p de_int))) (DE.p de_int))) fun _ _ => rfl)))
    (dss_one (ds_ret de_bl))
    dss_nil)))))
    dss_nil)
    (dss_cons (ds_if (dt_w (dw_or (dt_cmp (op_ne_d rfl (huD64 hr)) (DE.p (de_call (k_streams_to T) (hr.mono (by decide)) takes_cxD (da_cons (de_call (k_streams_to T) (hr.mono (by decide)) takes_cxD (da_cons (de_var 3) da_nil)) da_nil))) (DE.p (de_var 3))) (dw_or1 (dt_cmp (op_ne_d rfl (huD64 hr)) (DE.p (de_call (k_eighth_of T) (hr.mono (by decide)) takes_cxD (da_cons (de_call (k_streams_to T) (hr.mono (by decide)) takes_cxD (da_cons (de_var 3) da_nil)) da_nil))) (DE.p (de_op (op_mod_d) (DE.p (de_op (op_add_d rfl) (DE.p (de_call (k_eighth_of T) (hr.mono (by decide)) takes_cxD (da_cons (de_var 3) da_nil))) (DE.p de_int))) (DE.p de_int)))))))
    (dss_one (ds_ret de_bl))
    dss_nil)
    (dss_cons (ds_set 11 (DE.k (de_sub rfl rfl (huD hr) (DE.p (DF.e (df_callB (cf_sorted rfl rfl) T.b_sorted rfl (dap_cons (dp_var 2) dap_nil)))) (DE.p de_int) fun _ _ => rfl)) (by decide) sc_law.nd)
    (dss_cons (DS.frz_ 2 (ds_if (dt_cmp (op_ne_d rfl (huD64 hr)) (DE.p (DF.e (df_callT (cf_list rfl) T.b_list rfl (dap_cons (DE.p (de_call (k_readers T) (hr.mono (by decide)) takes_cxD (da_cons (de_var 3) (da_cons (de_var 2) (da_cons (de_var 11) (da_cons (de_var 4) da_nil)))))) dap_nil)))) (DE.p (DF.e (df_comp (own := [("name", 12)]) rfl sc_law.nd (die_list rfl (DE.p (DF.e (df_callB (cf_sorted rfl rfl) T.b_sorted rfl (dap_cons (dp_var 2) dap_nil))))) (blkOk_by (N := ["script", "dice", "ships", "wind", "reach", "k", "spot", "one", "other", "way", "gap", "start", "name", "counts", "blown"]) (sc := defScope s_law) (by decide +kernel)) (fun _ _ _ _ _ => (dg_name 12 sc_law.nd)) (fun _ _ _ _ _ => (dts_one (dt_w (dw_and (dt_cmp (op_ne_d rfl (huD64 hr)) (DE.p (de_var 12)) (DE.p (de_var 11))) (dw_and1 (dt_val (de_call (k_law_reads T) (hr.mono (by decide)) takes0D (da_cons (de_var 3) (da_cons (de_sub rfl rfl (huD hr) (dp_var 2) (DE.p (de_var 11)) fun _ _ => rfl) (da_cons (de_sub rfl rfl (huD hr) (dp_var 2) (DE.p (de_var 12)) fun _ _ => rfl) (da_cons (de_var 4) da_nil))))))))))) (fun _ _ _ _ _ => (de_var 12)) (by decide)))))
    (dss_one (ds_ret de_bl))
    dss_nil))
    (dss_cons (DS.frz_ 2 (ds_if (dt_cmp (op_ne_d rfl (huD64 hr)) (DE.p (DF.e (df_callT (cf_list rfl) T.b_list rfl (dap_cons (DE.p (de_call (k_told_by_repeats T) (hr.mono (by decide)) takes_cxD (da_cons (de_var 3) (da_cons (de_var 2) (da_cons (de_var 11) (da_cons (de_var 4) da_nil)))))) dap_nil)))) (DE.p (de_call (k_law_known T) (hr.mono (by decide)) takes_cxD (da_cons (de_var 3) (da_cons (de_var 2) (da_cons (de_var 11) (da_cons (de_var 4) da_nil)))))))
    (dss_one (ds_ret de_bl))
    dss_nil))
    (dss_cons (DS.frz_ 2 (ds_setcomp 13 (own := [("blown", 14)]) rfl sc_law.nd (DI.e (di_tup rfl (de_gl T.v_EIGHTS))) (blkOk_by (N := ["script", "dice", "ships", "wind", "reach", "k", "spot", "one", "other", "way", "gap", "start", "name", "counts", "blown"]) (sc := defScope s_law) (by decide +kernel)) (fun _ _ _ _ _ => (dg_name 14 sc_law.nd)) (fun _ _ _ _ _ => dts_nil) (fun _ _ _ _ _ => (de_callB (cd_lenX rfl) T.b_len rfl (dap_cons (DE.p (de_call (k_law_known T) (hr.mono (by decide)) takes0D (da_cons (de_var 14) (da_cons (de_var 2) (da_cons (de_var 11) (da_cons (de_var 4) da_nil)))))) dap_nil))) (by decide) (by decide) (sw_true rfl rfl rfl (by decide +kernel))))
    (dss_cons (DS.frz_ 2 (ds_if (dt_cmp (op_ne_d rfl (huD64 hr)) (DE.p (de_call (k_best_wind T) (hr.mono (by decide)) takes_cxD (da_cons (de_var 2) (da_cons (de_var 11) (da_cons (de_var 4) da_nil))))) (DE.p (de_sub rfl rfl (huD hr) (DE.p (de_gl T.v_EIGHTS)) (DE.p (de_bm (bm_index_list rfl (huD hr)) rfl (dp_var 13) (dap_cons (DE.p (de_callB (cd_max rfl rfl (huD hr)) T.b_max rfl (dap_cons (dp_var 13) dap_nil))) dap_nil))) fun _ _ => rfl)))
    (dss_one (ds_ret de_bl))
    dss_nil))
    (dss_one (DS.frz_ 2 (ds_if (dt_not (dt_val (de_call (k_law_rest1 T) (hr.mono (by decide)) takes_cxD (da_cons (de_var 1) (da_cons (de_var 2) (da_cons (de_var 3) da_nil))))))
    (dss_one (ds_ret de_bl))
    dss_nil))))))))))))))))
    (pss_one (ps_ret pe_bl))⟩
end
theorem all_mk {l : PySem.W.OpenLaw} {w : World} {K : PySem.W.Frag} {h : Heap} {mg : Str → Option Value} {fa : Addr} {ts : List Addr} (X : K.In h) (hN : h.Ns mainGlobals mg) (hfa : mg "law" = some (.ref fa)) (hTS : ∀ P ∈ ts, h.get? P = some { cls := .none, data := .fields #[] })
    (hF : Wp (F_law (r0 15)) (fun o => ∃ r, o = .nx r ∨ o = .ct r) (fun _ => False))
    {f_law_dice f_law_roll f_law_rounds f_law_told f_law_way f_way_between f_eighth_of f_shows_side f_reads_in_wind f_law_reads f_streams_to f_readers f_told_by_repeats f_law_known f_best_wind f_Air_init f_Air_felt f_Air_key f_Air_true_air f_Air_squared_force f_Air_is_calm f_Air_helps f_score f_Air_comes_from f_backs_or_veers f_law_rest1 f_law c_Air x_BadBook x_BadFlag x_BadFleet x_BadHoist x_Foul x_NoWay x_TooLarge x_Unclear x_BadText k_law_rest1 t_law_rest1 k_law t_law : Addr} {oc_law_dice kV_law_dice dc_law_dice pm_law_dice ct_law_dice cd_law_dice : Value} {od_law_dice an_law_dice : Option Addr} {sl_law_dice : Array (Option Value)} {oc_law_roll kV_law_roll dc_law_roll pm_law_roll ct_law_roll cd_law_roll : Value} {od_law_roll an_law_roll : Option Addr} {sl_law_roll : Array (Option Value)} {oc_law_rounds kV_law_rounds dc_law_rounds pm_law_rounds ct_law_rounds cd_law_rounds : Value} {od_law_rounds an_law_rounds : Option Addr} {sl_law_rounds : Array (Option Value)} {oc_law_told kV_law_told dc_law_told pm_law_told ct_law_told cd_law_told : Value} {od_law_told an_law_told : Option Addr} {sl_law_told : Array (Option Value)} {oc_law_way kV_law_way dc_law_way pm_law_way ct_law_way cd_law_way : Value} {od_law_way an_law_way : Option Addr} {sl_law_way : Array (Option Value)} {oc_way_between kV_way_between dc_way_between pm_way_between ct_way_between cd_way_between : Value} {od_way_between an_way_between : Option Addr} {sl_way_between : Array (Option Value)} {oc_eighth_of kV_eighth_of dc_eighth_of pm_eighth_of ct_eighth_of cd_eighth_of : Value} {od_eighth_of an_eighth_of : Option Addr} {sl_eighth_of : Array (Option Value)} {oc_shows_side kV_shows_side dc_shows_side pm_shows_side ct_shows_side cd_shows_side : Value} {od_shows_side an_shows_side : Option Addr} {sl_shows_side : Array (Option Value)} {oc_reads_in_wind kV_reads_in_wind dc_reads_in_wind pm_reads_in_wind ct_reads_in_wind cd_reads_in_wind : Value} {od_reads_in_wind an_reads_in_wind : Option Addr} {sl_reads_in_wind : Array (Option Value)} {oc_law_reads kV_law_reads dc_law_reads pm_law_reads ct_law_reads cd_law_reads : Value} {od_law_reads an_law_reads : Option Addr} {sl_law_reads : Array (Option Value)} {oc_streams_to kV_streams_to dc_streams_to pm_streams_to ct_streams_to cd_streams_to : Value} {od_streams_to an_streams_to : Option Addr} {sl_streams_to : Array (Option Value)} {oc_readers kV_readers dc_readers pm_readers ct_readers cd_readers : Value} {od_readers an_readers : Option Addr} {sl_readers : Array (Option Value)} {oc_told_by_repeats kV_told_by_repeats dc_told_by_repeats pm_told_by_repeats ct_told_by_repeats cd_told_by_repeats : Value} {od_told_by_repeats an_told_by_repeats : Option Addr} {sl_told_by_repeats : Array (Option Value)} {oc_law_known kV_law_known dc_law_known pm_law_known ct_law_known cd_law_known : Value} {od_law_known an_law_known : Option Addr} {sl_law_known : Array (Option Value)} {oc_best_wind kV_best_wind dc_best_wind pm_best_wind ct_best_wind cd_best_wind : Value} {od_best_wind an_best_wind : Option Addr} {sl_best_wind : Array (Option Value)} {oc_Air_init kV_Air_init dc_Air_init pm_Air_init ct_Air_init cd_Air_init : Value} {od_Air_init an_Air_init : Option Addr} {sl_Air_init : Array (Option Value)} {oc_Air_felt kV_Air_felt dc_Air_felt pm_Air_felt ct_Air_felt cd_Air_felt : Value} {od_Air_felt an_Air_felt : Option Addr} {sl_Air_felt : Array (Option Value)} {oc_Air_key kV_Air_key dc_Air_key pm_Air_key ct_Air_key cd_Air_key : Value} {od_Air_key an_Air_key : Option Addr} {sl_Air_key : Array (Option Value)} {oc_Air_true_air kV_Air_true_air dc_Air_true_air pm_Air_true_air ct_Air_true_air cd_Air_true_air : Value} {od_Air_true_air an_Air_true_air : Option Addr} {sl_Air_true_air : Array (Option Value)} {oc_Air_squared_force kV_Air_squared_force dc_Air_squared_force pm_Air_squared_force ct_Air_squared_force cd_Air_squared_force : Value} {od_Air_squared_force an_Air_squared_force : Option Addr} {sl_Air_squared_force : Array (Option Value)} {oc_Air_is_calm kV_Air_is_calm dc_Air_is_calm pm_Air_is_calm ct_Air_is_calm cd_Air_is_calm : Value} {od_Air_is_calm an_Air_is_calm : Option Addr} {sl_Air_is_calm : Array (Option Value)} {oc_Air_helps kV_Air_helps dc_Air_helps pm_Air_helps ct_Air_helps cd_Air_helps : Value} {od_Air_helps an_Air_helps : Option Addr} {sl_Air_helps : Array (Option Value)} {oc_score kV_score dc_score pm_score ct_score cd_score : Value} {od_score an_score : Option Addr} {sl_score : Array (Option Value)} {oc_Air_comes_from kV_Air_comes_from dc_Air_comes_from pm_Air_comes_from ct_Air_comes_from cd_Air_comes_from : Value} {od_Air_comes_from an_Air_comes_from : Option Addr} {sl_Air_comes_from : Array (Option Value)} {oc_backs_or_veers kV_backs_or_veers dc_backs_or_veers pm_backs_or_veers ct_backs_or_veers cd_backs_or_veers : Value} {od_backs_or_veers an_backs_or_veers : Option Addr} {sl_backs_or_veers : Array (Option Value)} {oc_law_rest1 kV_law_rest1 dc_law_rest1 pm_law_rest1 ct_law_rest1 : Value} {od_law_rest1 an_law_rest1 : Option Addr} {sl_law_rest1 : Array (Option Value)} {oc_law kV_law dc_law pm_law ct_law : Value} {od_law an_law : Option Addr} {sl_law : Array (Option Value)} {u_EIGHTS : Value} {u_STEPS : Value} {q_STEPS : Addr} {its_STEPS : Array Value} {m_STEPS : Nat} {l_STEPS : Array (Option Value)} {q_EIGHTS : Addr} {its_EIGHTS : Array Value} {m_EIGHTS : Nat} {l_EIGHTS : Array (Option Value)} {vs_law_rest1 : Array Value} {zo_law_rest1 : Option Addr} {zs_law_rest1 : Array (Option Value)} {vs_law : Array Value} {zo_law : Option Addr} {zs_law : Array (Option Value)}
    (nk_law_dice : PySem.W.nsIn K mainGlobals "_law_dice" = some (some (.ref f_law_dice)))
    (lk_law_dice : K.lookup f_law_dice = some ⟨oc_law_dice, od_law_dice, .func (PySem.W.fnOf "_law_dice" "_law_dice" (defArgs s_law_dice) (defBody s_law_dice) (defScope s_law_dice) .none kV_law_dice dc_law_dice pm_law_dice an_law_dice cd_law_dice ct_law_dice), sl_law_dice⟩)
    (dk_law_dice : PySem.W.codeIn K cd_law_dice "_law_dice" = true)
    (kk_law_dice : PySem.W.keepIn K (.ref f_law_dice) = true)
    (nk_law_roll : PySem.W.nsIn K mainGlobals "_law_roll" = some (some (.ref f_law_roll)))
    (lk_law_roll : K.lookup f_law_roll = some ⟨oc_law_roll, od_law_roll, .func (PySem.W.fnOf "_law_roll" "_law_roll" (defArgs s_law_roll) (defBody s_law_roll) (defScope s_law_roll) .none kV_law_roll dc_law_roll pm_law_roll an_law_roll cd_law_roll ct_law_roll), sl_law_roll⟩)
    (dk_law_roll : PySem.W.codeIn K cd_law_roll "_law_roll" = true)
    (kk_law_roll : PySem.W.keepIn K (.ref f_law_roll) = true)
    (nk_law_rounds : PySem.W.nsIn K mainGlobals "_law_rounds" = some (some (.ref f_law_rounds)))
    (lk_law_rounds : K.lookup f_law_rounds = some ⟨oc_law_rounds, od_law_rounds, .func (PySem.W.fnOf "_law_rounds" "_law_rounds" (defArgs s_law_rounds) (defBody s_law_rounds) (defScope s_law_rounds) .none kV_law_rounds dc_law_rounds pm_law_rounds an_law_rounds cd_law_rounds ct_law_rounds), sl_law_rounds⟩)
    (dk_law_rounds : PySem.W.codeIn K cd_law_rounds "_law_rounds" = true)
    (kk_law_rounds : PySem.W.keepIn K (.ref f_law_rounds) = true)
    (nk_law_told : PySem.W.nsIn K mainGlobals "_law_told" = some (some (.ref f_law_told)))
    (lk_law_told : K.lookup f_law_told = some ⟨oc_law_told, od_law_told, .func (PySem.W.fnOf "_law_told" "_law_told" (defArgs s_law_told) (defBody s_law_told) (defScope s_law_told) .none kV_law_told dc_law_told pm_law_told an_law_told cd_law_told ct_law_told), sl_law_told⟩)
    (dk_law_told : PySem.W.codeIn K cd_law_told "_law_told" = true)
    (kk_law_told : PySem.W.keepIn K (.ref f_law_told) = true)
    (nk_law_way : PySem.W.nsIn K mainGlobals "_law_way" = some (some (.ref f_law_way)))
    (lk_law_way : K.lookup f_law_way = some ⟨oc_law_way, od_law_way, .func (PySem.W.fnOf "_law_way" "_law_way" (defArgs s_law_way) (defBody s_law_way) (defScope s_law_way) .none kV_law_way dc_law_way pm_law_way an_law_way cd_law_way ct_law_way), sl_law_way⟩)
    (dk_law_way : PySem.W.codeIn K cd_law_way "_law_way" = true)
    (kk_law_way : PySem.W.keepIn K (.ref f_law_way) = true)
    (nk_way_between : PySem.W.nsIn K mainGlobals "way_between" = some (some (.ref f_way_between)))
    (lk_way_between : K.lookup f_way_between = some ⟨oc_way_between, od_way_between, .func (PySem.W.fnOf "way_between" "way_between" (defArgs s_way_between) (defBody s_way_between) (defScope s_way_between) .none kV_way_between dc_way_between pm_way_between an_way_between cd_way_between ct_way_between), sl_way_between⟩)
    (dk_way_between : PySem.W.codeIn K cd_way_between "way_between" = true)
    (kk_way_between : PySem.W.keepIn K (.ref f_way_between) = true)
    (nk_eighth_of : PySem.W.nsIn K mainGlobals "eighth_of" = some (some (.ref f_eighth_of)))
    (lk_eighth_of : K.lookup f_eighth_of = some ⟨oc_eighth_of, od_eighth_of, .func (PySem.W.fnOf "eighth_of" "eighth_of" (defArgs s_eighth_of) (defBody s_eighth_of) (defScope s_eighth_of) .none kV_eighth_of dc_eighth_of pm_eighth_of an_eighth_of cd_eighth_of ct_eighth_of), sl_eighth_of⟩)
    (dk_eighth_of : PySem.W.codeIn K cd_eighth_of "eighth_of" = true)
    (kk_eighth_of : PySem.W.keepIn K (.ref f_eighth_of) = true)
    (nk_shows_side : PySem.W.nsIn K mainGlobals "shows_side" = some (some (.ref f_shows_side)))
    (lk_shows_side : K.lookup f_shows_side = some ⟨oc_shows_side, od_shows_side, .func (PySem.W.fnOf "shows_side" "shows_side" (defArgs s_shows_side) (defBody s_shows_side) (defScope s_shows_side) .none kV_shows_side dc_shows_side pm_shows_side an_shows_side cd_shows_side ct_shows_side), sl_shows_side⟩)
    (dk_shows_side : PySem.W.codeIn K cd_shows_side "shows_side" = true)
    (kk_shows_side : PySem.W.keepIn K (.ref f_shows_side) = true)
    (nk_reads_in_wind : PySem.W.nsIn K mainGlobals "reads_in_wind" = some (some (.ref f_reads_in_wind)))
    (lk_reads_in_wind : K.lookup f_reads_in_wind = some ⟨oc_reads_in_wind, od_reads_in_wind, .func (PySem.W.fnOf "reads_in_wind" "reads_in_wind" (defArgs s_reads_in_wind) (defBody s_reads_in_wind) (defScope s_reads_in_wind) .none kV_reads_in_wind dc_reads_in_wind pm_reads_in_wind an_reads_in_wind cd_reads_in_wind ct_reads_in_wind), sl_reads_in_wind⟩)
    (dk_reads_in_wind : PySem.W.codeIn K cd_reads_in_wind "reads_in_wind" = true)
    (kk_reads_in_wind : PySem.W.keepIn K (.ref f_reads_in_wind) = true)
    (nk_law_reads : PySem.W.nsIn K mainGlobals "_law_reads" = some (some (.ref f_law_reads)))
    (lk_law_reads : K.lookup f_law_reads = some ⟨oc_law_reads, od_law_reads, .func (PySem.W.fnOf "_law_reads" "_law_reads" (defArgs s_law_reads) (defBody s_law_reads) (defScope s_law_reads) .none kV_law_reads dc_law_reads pm_law_reads an_law_reads cd_law_reads ct_law_reads), sl_law_reads⟩)
    (dk_law_reads : PySem.W.codeIn K cd_law_reads "_law_reads" = true)
    (kk_law_reads : PySem.W.keepIn K (.ref f_law_reads) = true)
    (nk_streams_to : PySem.W.nsIn K mainGlobals "streams_to" = some (some (.ref f_streams_to)))
    (lk_streams_to : K.lookup f_streams_to = some ⟨oc_streams_to, od_streams_to, .func (PySem.W.fnOf "streams_to" "streams_to" (defArgs s_streams_to) (defBody s_streams_to) (defScope s_streams_to) .none kV_streams_to dc_streams_to pm_streams_to an_streams_to cd_streams_to ct_streams_to), sl_streams_to⟩)
    (dk_streams_to : PySem.W.codeIn K cd_streams_to "streams_to" = true)
    (kk_streams_to : PySem.W.keepIn K (.ref f_streams_to) = true)
    (nk_readers : PySem.W.nsIn K mainGlobals "readers" = some (some (.ref f_readers)))
    (lk_readers : K.lookup f_readers = some ⟨oc_readers, od_readers, .func (PySem.W.fnOf "readers" "readers" (defArgs s_readers) (defBody s_readers) (defScope s_readers) .none kV_readers dc_readers pm_readers an_readers cd_readers ct_readers), sl_readers⟩)
    (dk_readers : PySem.W.codeIn K cd_readers "readers" = true)
    (kk_readers : PySem.W.keepIn K (.ref f_readers) = true)
    (nk_told_by_repeats : PySem.W.nsIn K mainGlobals "told_by_repeats" = some (some (.ref f_told_by_repeats)))
    (lk_told_by_repeats : K.lookup f_told_by_repeats = some ⟨oc_told_by_repeats, od_told_by_repeats, .func (PySem.W.fnOf "told_by_repeats" "told_by_repeats" (defArgs s_told_by_repeats) (defBody s_told_by_repeats) (defScope s_told_by_repeats) .none kV_told_by_repeats dc_told_by_repeats pm_told_by_repeats an_told_by_repeats cd_told_by_repeats ct_told_by_repeats), sl_told_by_repeats⟩)
    (dk_told_by_repeats : PySem.W.codeIn K cd_told_by_repeats "told_by_repeats" = true)
    (kk_told_by_repeats : PySem.W.keepIn K (.ref f_told_by_repeats) = true)
    (nk_law_known : PySem.W.nsIn K mainGlobals "_law_known" = some (some (.ref f_law_known)))
    (lk_law_known : K.lookup f_law_known = some ⟨oc_law_known, od_law_known, .func (PySem.W.fnOf "_law_known" "_law_known" (defArgs s_law_known) (defBody s_law_known) (defScope s_law_known) .none kV_law_known dc_law_known pm_law_known an_law_known cd_law_known ct_law_known), sl_law_known⟩)
    (dk_law_known : PySem.W.codeIn K cd_law_known "_law_known" = true)
    (kk_law_known : PySem.W.keepIn K (.ref f_law_known) = true)
    (nk_best_wind : PySem.W.nsIn K mainGlobals "best_wind" = some (some (.ref f_best_wind)))
    (lk_best_wind : K.lookup f_best_wind = some ⟨oc_best_wind, od_best_wind, .func (PySem.W.fnOf "best_wind" "best_wind" (defArgs s_best_wind) (defBody s_best_wind) (defScope s_best_wind) .none kV_best_wind dc_best_wind pm_best_wind an_best_wind cd_best_wind ct_best_wind), sl_best_wind⟩)
    (dk_best_wind : PySem.W.codeIn K cd_best_wind "best_wind" = true)
    (kk_best_wind : PySem.W.keepIn K (.ref f_best_wind) = true)
    (ck_Air : PySem.W.nsIn K mainGlobals "Air" = some (some (.ref c_Air)))
    (nk_Air_init : PySem.W.findIn K (.ref c_Air) "__init__" = some (some (.ref f_Air_init)))
    (ik_Air_init : PySem.W.isFn K (.ref f_Air_init) = true)
    (lk_Air_init : K.lookup f_Air_init = some ⟨oc_Air_init, od_Air_init, .func (PySem.W.fnOf "__init__" "Air.__init__" (defArgs s_Air_init) (defBody s_Air_init) (defScope s_Air_init) .none kV_Air_init dc_Air_init pm_Air_init an_Air_init cd_Air_init ct_Air_init), sl_Air_init⟩)
    (dk_Air_init : PySem.W.codeIn K cd_Air_init "Air.__init__" = true)
    (kk_Air_init : PySem.W.keepIn K (.ref f_Air_init) = true)
    (nk_Air_felt : PySem.W.findIn K (.ref c_Air) "felt" = some (some (.ref f_Air_felt)))
    (ik_Air_felt : PySem.W.isFn K (.ref f_Air_felt) = true)
    (lk_Air_felt : K.lookup f_Air_felt = some ⟨oc_Air_felt, od_Air_felt, .func (PySem.W.fnOf "felt" "Air.felt" (defArgs s_Air_felt) (defBody s_Air_felt) (defScope s_Air_felt) .none kV_Air_felt dc_Air_felt pm_Air_felt an_Air_felt cd_Air_felt ct_Air_felt), sl_Air_felt⟩)
    (dk_Air_felt : PySem.W.codeIn K cd_Air_felt "Air.felt" = true)
    (kk_Air_felt : PySem.W.keepIn K (.ref f_Air_felt) = true)
    (nk_Air_key : PySem.W.findIn K (.ref c_Air) "key" = some (some (.ref f_Air_key)))
    (ik_Air_key : PySem.W.isFn K (.ref f_Air_key) = true)
    (lk_Air_key : K.lookup f_Air_key = some ⟨oc_Air_key, od_Air_key, .func (PySem.W.fnOf "key" "Air.key" (defArgs s_Air_key) (defBody s_Air_key) (defScope s_Air_key) .none kV_Air_key dc_Air_key pm_Air_key an_Air_key cd_Air_key ct_Air_key), sl_Air_key⟩)
    (dk_Air_key : PySem.W.codeIn K cd_Air_key "Air.key" = true)
    (kk_Air_key : PySem.W.keepIn K (.ref f_Air_key) = true)
    (nk_Air_true_air : PySem.W.findIn K (.ref c_Air) "true_air" = some (some (.ref f_Air_true_air)))
    (ik_Air_true_air : PySem.W.isFn K (.ref f_Air_true_air) = true)
    (lk_Air_true_air : K.lookup f_Air_true_air = some ⟨oc_Air_true_air, od_Air_true_air, .func (PySem.W.fnOf "true_air" "Air.true_air" (defArgs s_Air_true_air) (defBody s_Air_true_air) (defScope s_Air_true_air) .none kV_Air_true_air dc_Air_true_air pm_Air_true_air an_Air_true_air cd_Air_true_air ct_Air_true_air), sl_Air_true_air⟩)
    (dk_Air_true_air : PySem.W.codeIn K cd_Air_true_air "Air.true_air" = true)
    (kk_Air_true_air : PySem.W.keepIn K (.ref f_Air_true_air) = true)
    (nk_Air_squared_force : PySem.W.findIn K (.ref c_Air) "squared_force" = some (some (.ref f_Air_squared_force)))
    (ik_Air_squared_force : PySem.W.isFn K (.ref f_Air_squared_force) = true)
    (lk_Air_squared_force : K.lookup f_Air_squared_force = some ⟨oc_Air_squared_force, od_Air_squared_force, .func (PySem.W.fnOf "squared_force" "Air.squared_force" (defArgs s_Air_squared_force) (defBody s_Air_squared_force) (defScope s_Air_squared_force) .none kV_Air_squared_force dc_Air_squared_force pm_Air_squared_force an_Air_squared_force cd_Air_squared_force ct_Air_squared_force), sl_Air_squared_force⟩)
    (dk_Air_squared_force : PySem.W.codeIn K cd_Air_squared_force "Air.squared_force" = true)
    (kk_Air_squared_force : PySem.W.keepIn K (.ref f_Air_squared_force) = true)
    (nk_Air_is_calm : PySem.W.findIn K (.ref c_Air) "is_calm" = some (some (.ref f_Air_is_calm)))
    (ik_Air_is_calm : PySem.W.isFn K (.ref f_Air_is_calm) = true)
    (lk_Air_is_calm : K.lookup f_Air_is_calm = some ⟨oc_Air_is_calm, od_Air_is_calm, .func (PySem.W.fnOf "is_calm" "Air.is_calm" (defArgs s_Air_is_calm) (defBody s_Air_is_calm) (defScope s_Air_is_calm) .none kV_Air_is_calm dc_Air_is_calm pm_Air_is_calm an_Air_is_calm cd_Air_is_calm ct_Air_is_calm), sl_Air_is_calm⟩)
    (dk_Air_is_calm : PySem.W.codeIn K cd_Air_is_calm "Air.is_calm" = true)
    (kk_Air_is_calm : PySem.W.keepIn K (.ref f_Air_is_calm) = true)
    (nk_Air_helps : PySem.W.findIn K (.ref c_Air) "helps" = some (some (.ref f_Air_helps)))
    (ik_Air_helps : PySem.W.isFn K (.ref f_Air_helps) = true)
    (lk_Air_helps : K.lookup f_Air_helps = some ⟨oc_Air_helps, od_Air_helps, .func (PySem.W.fnOf "helps" "Air.helps" (defArgs s_Air_helps) (defBody s_Air_helps) (defScope s_Air_helps) .none kV_Air_helps dc_Air_helps pm_Air_helps an_Air_helps cd_Air_helps ct_Air_helps), sl_Air_helps⟩)
    (dk_Air_helps : PySem.W.codeIn K cd_Air_helps "Air.helps" = true)
    (kk_Air_helps : PySem.W.keepIn K (.ref f_Air_helps) = true)
    (nk_score : PySem.W.nsIn K mainGlobals "score" = some (some (.ref f_score)))
    (lk_score : K.lookup f_score = some ⟨oc_score, od_score, .func (PySem.W.fnOf "score" "score" (defArgs s_score) (defBody s_score) (defScope s_score) .none kV_score dc_score pm_score an_score cd_score ct_score), sl_score⟩)
    (dk_score : PySem.W.codeIn K cd_score "score" = true)
    (kk_score : PySem.W.keepIn K (.ref f_score) = true)
    (nk_Air_comes_from : PySem.W.findIn K (.ref c_Air) "comes_from" = some (some (.ref f_Air_comes_from)))
    (ik_Air_comes_from : PySem.W.isFn K (.ref f_Air_comes_from) = true)
    (lk_Air_comes_from : K.lookup f_Air_comes_from = some ⟨oc_Air_comes_from, od_Air_comes_from, .func (PySem.W.fnOf "comes_from" "Air.comes_from" (defArgs s_Air_comes_from) (defBody s_Air_comes_from) (defScope s_Air_comes_from) .none kV_Air_comes_from dc_Air_comes_from pm_Air_comes_from an_Air_comes_from cd_Air_comes_from ct_Air_comes_from), sl_Air_comes_from⟩)
    (dk_Air_comes_from : PySem.W.codeIn K cd_Air_comes_from "Air.comes_from" = true)
    (kk_Air_comes_from : PySem.W.keepIn K (.ref f_Air_comes_from) = true)
    (nk_backs_or_veers : PySem.W.nsIn K mainGlobals "backs_or_veers" = some (some (.ref f_backs_or_veers)))
    (lk_backs_or_veers : K.lookup f_backs_or_veers = some ⟨oc_backs_or_veers, od_backs_or_veers, .func (PySem.W.fnOf "backs_or_veers" "backs_or_veers" (defArgs s_backs_or_veers) (defBody s_backs_or_veers) (defScope s_backs_or_veers) .none kV_backs_or_veers dc_backs_or_veers pm_backs_or_veers an_backs_or_veers cd_backs_or_veers ct_backs_or_veers), sl_backs_or_veers⟩)
    (dk_backs_or_veers : PySem.W.codeIn K cd_backs_or_veers "backs_or_veers" = true)
    (kk_backs_or_veers : PySem.W.keepIn K (.ref f_backs_or_veers) = true)
    (nk_law_rest1 : PySem.W.nsIn K mainGlobals "_law_rest1" = some (some (.ref f_law_rest1)))
    (lk_law_rest1 : K.lookup f_law_rest1 = some ⟨oc_law_rest1, od_law_rest1, .func (PySem.W.fnOf "_law_rest1" "_law_rest1" (defArgs s_law_rest1) (defBody s_law_rest1) (defScope s_law_rest1) .none kV_law_rest1 dc_law_rest1 pm_law_rest1 an_law_rest1 (.ref k_law_rest1) ct_law_rest1), sl_law_rest1⟩)
    (dk_law_rest1 : PySem.W.codeIn K (.ref k_law_rest1) "_law_rest1" = true)
    (kk_law_rest1 : PySem.W.keepIn K (.ref f_law_rest1) = true)
    (nk_law : PySem.W.nsIn K mainGlobals "law" = some (some (.ref f_law)))
    (lk_law : K.lookup f_law = some ⟨oc_law, od_law, .func (PySem.W.fnOf "law" "law" (defArgs s_law) (defBody s_law) (defScope s_law) .none kV_law dc_law pm_law an_law (.ref k_law) ct_law), sl_law⟩)
    (dk_law : PySem.W.codeIn K (.ref k_law) "law" = true)
    (kk_law : PySem.W.keepIn K (.ref f_law) = true)
    (pg_Air : PySem.W.plainGet K c_Air Str.empty = true)
    (hd_Air : PySem.W.hasDictIn K c_Air = true)
    (po_Air : PySem.W.plainOver K c_Air = true)
    (sa_Air : PySem.W.findIn K (.ref c_Air) "__setattr__" = some (some (.builtin "object.__setattr__")))
    (mi_Air : PySem.W.makesIn K c_Air = true)
    (kc_Air : PySem.W.keepIn K (.ref c_Air) = true)
    (nf_Air_down : PySem.W.findIn K (.ref c_Air) "down" = some none)
    (nf_Air_right : PySem.W.findIn K (.ref c_Air) "right" = some none)
    (xn_BadBook : PySem.W.nsIn K mainGlobals "BadBook" = some (some (.ref x_BadBook)))
    (xe_BadBook : PySem.W.excIn K x_BadBook [.type "ValueError", .type "Exception", .type "BaseException", .type "object"] "ValueError.__new__" = true)
    (xk_BadBook : PySem.W.keepIn K (.ref x_BadBook) = true)
    (xs_BadBook : PySem.W.subIn K (.ref x_BadBook) (.type "BaseException") = some true)
    (xt_BadBook : PySem.W.typeIn K (.ref x_BadBook) = some (.type "type"))
    (xn_BadFlag : PySem.W.nsIn K mainGlobals "BadFlag" = some (some (.ref x_BadFlag)))
    (xe_BadFlag : PySem.W.excIn K x_BadFlag [.type "ValueError", .type "Exception", .type "BaseException", .type "object"] "ValueError.__new__" = true)
    (xk_BadFlag : PySem.W.keepIn K (.ref x_BadFlag) = true)
    (xs_BadFlag : PySem.W.subIn K (.ref x_BadFlag) (.type "BaseException") = some true)
    (xt_BadFlag : PySem.W.typeIn K (.ref x_BadFlag) = some (.type "type"))
    (xn_BadFleet : PySem.W.nsIn K mainGlobals "BadFleet" = some (some (.ref x_BadFleet)))
    (xe_BadFleet : PySem.W.excIn K x_BadFleet [.type "ValueError", .type "Exception", .type "BaseException", .type "object"] "ValueError.__new__" = true)
    (xk_BadFleet : PySem.W.keepIn K (.ref x_BadFleet) = true)
    (xs_BadFleet : PySem.W.subIn K (.ref x_BadFleet) (.type "BaseException") = some true)
    (xt_BadFleet : PySem.W.typeIn K (.ref x_BadFleet) = some (.type "type"))
    (xn_BadHoist : PySem.W.nsIn K mainGlobals "BadHoist" = some (some (.ref x_BadHoist)))
    (xe_BadHoist : PySem.W.excIn K x_BadHoist [.type "ValueError", .type "Exception", .type "BaseException", .type "object"] "ValueError.__new__" = true)
    (xk_BadHoist : PySem.W.keepIn K (.ref x_BadHoist) = true)
    (xs_BadHoist : PySem.W.subIn K (.ref x_BadHoist) (.type "BaseException") = some true)
    (xt_BadHoist : PySem.W.typeIn K (.ref x_BadHoist) = some (.type "type"))
    (xn_Foul : PySem.W.nsIn K mainGlobals "Foul" = some (some (.ref x_Foul)))
    (xn_NoWay : PySem.W.nsIn K mainGlobals "NoWay" = some (some (.ref x_NoWay)))
    (xe_NoWay : PySem.W.excIn K x_NoWay [.type "ValueError", .type "Exception", .type "BaseException", .type "object"] "ValueError.__new__" = true)
    (xk_NoWay : PySem.W.keepIn K (.ref x_NoWay) = true)
    (xs_NoWay : PySem.W.subIn K (.ref x_NoWay) (.type "BaseException") = some true)
    (xt_NoWay : PySem.W.typeIn K (.ref x_NoWay) = some (.type "type"))
    (xn_TooLarge : PySem.W.nsIn K mainGlobals "TooLarge" = some (some (.ref x_TooLarge)))
    (xe_TooLarge : PySem.W.excIn K x_TooLarge [.type "ValueError", .type "Exception", .type "BaseException", .type "object"] "ValueError.__new__" = true)
    (xk_TooLarge : PySem.W.keepIn K (.ref x_TooLarge) = true)
    (xs_TooLarge : PySem.W.subIn K (.ref x_TooLarge) (.type "BaseException") = some true)
    (xt_TooLarge : PySem.W.typeIn K (.ref x_TooLarge) = some (.type "type"))
    (xn_Unclear : PySem.W.nsIn K mainGlobals "Unclear" = some (some (.ref x_Unclear)))
    (xn_BadText : PySem.W.nsIn K mainGlobals "BadText" = some (some (.ref x_BadText)))
    (exq : exmB K (excA ⟨f_law_dice, f_law_roll, f_law_rounds, f_law_told, f_law_way, f_way_between, f_eighth_of, f_shows_side, f_reads_in_wind, f_law_reads, f_streams_to, f_readers, f_told_by_repeats, f_law_known, f_best_wind, f_Air_init, f_Air_felt, f_Air_key, f_Air_true_air, f_Air_squared_force, f_Air_is_calm, f_Air_helps, f_score, f_Air_comes_from, f_backs_or_veers, f_law_rest1, f_law, c_Air, x_BadBook, x_BadFlag, x_BadFleet, x_BadHoist, x_Foul, x_NoWay, x_TooLarge, x_Unclear, x_BadText, k_law_rest1, t_law_rest1, k_law, t_law⟩) (toldL.map (·.1)) = true)
    (bz_range : PySem.W.nsIn K mainGlobals "range" = some none)
    (bz_abs : PySem.W.nsIn K mainGlobals "abs" = some none)
    (bz_max : PySem.W.nsIn K mainGlobals "max" = some none)
    (bz_sorted : PySem.W.nsIn K mainGlobals "sorted" = some none)
    (bz_tuple : PySem.W.nsIn K mainGlobals "tuple" = some none)
    (bz_list : PySem.W.nsIn K mainGlobals "list" = some none)
    (bz_len : PySem.W.nsIn K mainGlobals "len" = some none)
    (bz_min : PySem.W.nsIn K mainGlobals "min" = some none)
    (bz_int : PySem.W.nsIn K mainGlobals "int" = some none)
    (cn_EIGHTS : PySem.W.nsIn K mainGlobals "EIGHTS" = some (some u_EIGHTS))
    (cq_EIGHTS : isD K d_EIGHTS u_EIGHTS = true)
    (cn_STEPS : PySem.W.nsIn K mainGlobals "STEPS" = some (some u_STEPS))
    (cq_STEPS : isD K d_STEPS u_STEPS = true)
    (tn_STEPS : PySem.W.nsIn K mainGlobals "STEPS" = some (some (.ref q_STEPS)))
    (tl_STEPS : K.lookup q_STEPS = some ⟨.type "tuple", none, .seq its_STEPS m_STEPS, l_STEPS⟩)
    (tq_STEPS : isD K d_STEPS (.ref q_STEPS) = true)
    (tn_EIGHTS : PySem.W.nsIn K mainGlobals "EIGHTS" = some (some (.ref q_EIGHTS)))
    (tl_EIGHTS : K.lookup q_EIGHTS = some ⟨.type "tuple", none, .seq its_EIGHTS m_EIGHTS, l_EIGHTS⟩)
    (tq_EIGHTS : isD K d_EIGHTS (.ref q_EIGHTS) = true)
    (zl_law_rest1 : K.lookup k_law_rest1 = some ⟨.type "code", zo_law_rest1, .fields vs_law_rest1, zs_law_rest1⟩)
    (zv_law_rest1 : (vs_law_rest1[11]? : Option Value) = some (.ref t_law_rest1))
    (zh_law_rest1 : PySem.W.codeHdIn K k_law_rest1 t_law_rest1 = true)
    (zn_law_rest1 : K.lookup t_law_rest1 = none)
    (zt_law_rest1 : t_law_rest1 ∈ ts)
    (zl_law : K.lookup k_law = some ⟨.type "code", zo_law, .fields vs_law, zs_law⟩)
    (zv_law : (vs_law[11]? : Option Value) = some (.ref t_law))
    (zh_law : PySem.W.codeHdIn K k_law t_law = true)
    (zn_law : K.lookup t_law = none)
    (zt_law : t_law ∈ ts)
    (ne_law_rest1_law : t_law_rest1 ≠ t_law) :
    LawAtS l w K (L2.CX l.prog w) 8 63 "script" mg fa h := by
  have M : ∀ {x : Str} {v : Value}, PySem.W.nsIn K mainGlobals x = some (some v) → mg x = some v := fun e => PySem.W.mg_of X hN e
  have M0 : ∀ {x : Str}, PySem.W.nsIn K mainGlobals x = some none → mg x = none := fun e => PySem.W.mg_none_of X hN e
  have e := hfa.symm.trans (M nk_law)
  have e2 : f_law = fa := by injection e with e; injection e with e; exact e.symm
  subst e2
  have TT : ∀ base : Heap, (∀ p ∈ ([(k_law_rest1, t_law_rest1), (k_law, t_law)] : List (Addr × Addr)), TabB base mg p.1 p.2) → Txt w K mg base ⟨f_law_dice, f_law_roll, f_law_rounds, f_law_told, f_law_way, f_way_between, f_eighth_of, f_shows_side, f_reads_in_wind, f_law_reads, f_streams_to, f_readers, f_told_by_repeats, f_law_known, f_best_wind, f_Air_init, f_Air_felt, f_Air_key, f_Air_true_air, f_Air_squared_force, f_Air_is_calm, f_Air_helps, f_score, f_Air_comes_from, f_backs_or_veers, f_law_rest1, f_law, c_Air, x_BadBook, x_BadFlag, x_BadFleet, x_BadHoist, x_Foul, x_NoWay, x_TooLarge, x_Unclear, x_BadText, k_law_rest1, t_law_rest1, k_law, t_law⟩ := fun base hTB => {
    b_range := M0 bz_range,
    b_abs := M0 bz_abs,
    b_max := M0 bz_max,
    b_sorted := M0 bz_sorted,
    b_tuple := M0 bz_tuple,
    b_list := M0 bz_list,
    b_len := M0 bz_len,
    b_min := M0 bz_min,
    b_int := M0 bz_int,
    g_law_dice := M nk_law_dice,
    e_law_dice := funE_of lk_law_dice dk_law_dice kk_law_dice (fun us hl => match us, hl with | [_], _ => rfl),
    g_law_roll := M nk_law_roll,
    e_law_roll := funE_of lk_law_roll dk_law_roll kk_law_roll (fun us hl => match us, hl with | [_, _], _ => rfl),
    g_law_rounds := M nk_law_rounds,
    e_law_rounds := funE_of lk_law_rounds dk_law_rounds kk_law_rounds (fun us hl => match us, hl with | [_, _], _ => rfl),
    g_law_told := M nk_law_told,
    l_told := ⟨_, _, _, _, _, _, _, _, _, lk_law_told, dk_law_told, kk_law_told, .all (fun us hl => match us, hl with | [_], _ => rfl)⟩,
    g_law_way := M nk_law_way,
    e_law_way := funE_of lk_law_way dk_law_way kk_law_way (fun us hl => match us, hl with | [_, _], _ => rfl),
    g_way_between := M nk_way_between,
    e_way_between := funE_of lk_way_between dk_way_between kk_way_between (fun us hl => match us, hl with | [_, _], _ => rfl),
    g_eighth_of := M nk_eighth_of,
    e_eighth_of := funE_of lk_eighth_of dk_eighth_of kk_eighth_of (fun us hl => match us, hl with | [_], _ => rfl),
    g_shows_side := M nk_shows_side,
    e_shows_side := funE_of lk_shows_side dk_shows_side kk_shows_side (fun us hl => match us, hl with | [_, _, _], _ => rfl),
    g_reads_in_wind := M nk_reads_in_wind,
    e_reads_in_wind := funE_of lk_reads_in_wind dk_reads_in_wind kk_reads_in_wind (fun us hl => match us, hl with | [_, _, _, _], _ => rfl),
    g_law_reads := M nk_law_reads,
    e_law_reads := funE_of lk_law_reads dk_law_reads kk_law_reads (fun us hl => match us, hl with | [_, _, _, _], _ => rfl),
    g_streams_to := M nk_streams_to,
    e_streams_to := funE_of lk_streams_to dk_streams_to kk_streams_to (fun us hl => match us, hl with | [_], _ => rfl),
    g_readers := M nk_readers,
    e_readers := funE_of lk_readers dk_readers kk_readers (fun us hl => match us, hl with | [_, _, _, _], _ => rfl),
    g_told_by_repeats := M nk_told_by_repeats,
    e_told_by_repeats := funE_of lk_told_by_repeats dk_told_by_repeats kk_told_by_repeats (fun us hl => match us, hl with | [_, _, _, _], _ => rfl),
    g_law_known := M nk_law_known,
    e_law_known := funE_of lk_law_known dk_law_known kk_law_known (fun us hl => match us, hl with | [_, _, _, _], _ => rfl),
    g_best_wind := M nk_best_wind,
    e_best_wind := funE_of lk_best_wind dk_best_wind kk_best_wind (fun us hl => match us, hl with | [_, _, _], _ => rfl),
    e_Air_init := funE_of lk_Air_init dk_Air_init kk_Air_init (fun us hl => match us, hl with | [_, _, _], _ => rfl),
    mk_Air := ⟨mi_Air, nk_Air_init, ik_Air_init, kc_Air⟩,
    e_Air_felt := funE_of lk_Air_felt dk_Air_felt kk_Air_felt (fun us hl => match us, hl with | [_, _], _ => rfl),
    mt_Air_felt := ⟨nk_Air_felt, ik_Air_felt, kk_Air_felt⟩,
    e_Air_key := funE_of lk_Air_key dk_Air_key kk_Air_key (fun us hl => match us, hl with | [_], _ => rfl),
    mt_Air_key := ⟨nk_Air_key, ik_Air_key, kk_Air_key⟩,
    e_Air_true_air := funE_of lk_Air_true_air dk_Air_true_air kk_Air_true_air (fun us hl => match us, hl with | [_, _], _ => rfl),
    mt_Air_true_air := ⟨nk_Air_true_air, ik_Air_true_air, kk_Air_true_air⟩,
    e_Air_squared_force := funE_of lk_Air_squared_force dk_Air_squared_force kk_Air_squared_force (fun us hl => match us, hl with | [_], _ => rfl),
    mt_Air_squared_force := ⟨nk_Air_squared_force, ik_Air_squared_force, kk_Air_squared_force⟩,
    e_Air_is_calm := funE_of lk_Air_is_calm dk_Air_is_calm kk_Air_is_calm (fun us hl => match us, hl with | [_], _ => rfl),
    mt_Air_is_calm := ⟨nk_Air_is_calm, ik_Air_is_calm, kk_Air_is_calm⟩,
    e_Air_helps := funE_of lk_Air_helps dk_Air_helps kk_Air_helps (fun us hl => match us, hl with | [_, _], _ => rfl),
    mt_Air_helps := ⟨nk_Air_helps, ik_Air_helps, kk_Air_helps⟩,
    g_score := M nk_score,
    e_score := funE_of lk_score dk_score kk_score (fun us hl => match us, hl with | [_, _, _], _ => rfl),
    e_Air_comes_from := funE_of lk_Air_comes_from dk_Air_comes_from kk_Air_comes_from (fun us hl => match us, hl with | [_], _ => rfl),
    mt_Air_comes_from := ⟨nk_Air_comes_from, ik_Air_comes_from, kk_Air_comes_from⟩,
    g_backs_or_veers := M nk_backs_or_veers,
    e_backs_or_veers := funE_of lk_backs_or_veers dk_backs_or_veers kk_backs_or_veers (fun us hl => match us, hl with | [_], _ => rfl),
    g_law_rest1 := M nk_law_rest1,
    e_law_rest1 := funC_of lk_law_rest1 dk_law_rest1 kk_law_rest1 (fun us hl => match us, hl with | [_, _, _], _ => rfl),
    g_law := M nk_law,
    e_law := funC_of lk_law dk_law kk_law (fun us hl => match us, hl with | [_], _ => rfl),
    g_Air := M ck_Air,
    c_Air := ⟨pg_Air, hd_Air, po_Air, sa_Air⟩,
    n_Air_down := nf_Air_down,
    n_Air_right := nf_Air_right,
    x_BadBook := ⟨xe_BadBook, M xn_BadBook, xk_BadBook, xs_BadBook, xt_BadBook⟩,
    x_BadFlag := ⟨xe_BadFlag, M xn_BadFlag, xk_BadFlag, xs_BadFlag, xt_BadFlag⟩,
    x_BadFleet := ⟨xe_BadFleet, M xn_BadFleet, xk_BadFleet, xs_BadFleet, xt_BadFleet⟩,
    x_BadHoist := ⟨xe_BadHoist, M xn_BadHoist, xk_BadHoist, xs_BadHoist, xt_BadHoist⟩,
    x_Foul := M xn_Foul,
    x_NoWay := ⟨xe_NoWay, M xn_NoWay, xk_NoWay, xs_NoWay, xt_NoWay⟩,
    x_TooLarge := ⟨xe_TooLarge, M xn_TooLarge, xk_TooLarge, xs_TooLarge, xt_TooLarge⟩,
    x_Unclear := M xn_Unclear,
    x_BadText := M xn_BadText,
    exm := exm_by exq,
    v_EIGHTS := glD_of rfl (M cn_EIGHTS) cq_EIGHTS,
    v_STEPS := glD_of rfl (M cn_STEPS) cq_STEPS,
    kt_STEPS := ktD_of rfl (M tn_STEPS) tl_STEPS tq_STEPS,
    kt_EIGHTS := ktD_of rfl (M tn_EIGHTS) tl_EIGHTS tq_EIGHTS,
    tb_law_rest1 := hTB (k_law_rest1, t_law_rest1) (by simp),
    tb_law := hTB (k_law, t_law) (by simp),
    ne_law_rest1_law := ne_law_rest1_law }
  refine ⟨_, [(k_law_rest1, t_law_rest1), (k_law, t_law)], spLaw K (tabsA ⟨f_law_dice, f_law_roll, f_law_rounds, f_law_told, f_law_way, f_way_between, f_eighth_of, f_shows_side, f_reads_in_wind, f_law_reads, f_streams_to, f_readers, f_told_by_repeats, f_law_known, f_best_wind, f_Air_init, f_Air_felt, f_Air_key, f_Air_true_air, f_Air_squared_force, f_Air_is_calm, f_Air_helps, f_score, f_Air_comes_from, f_backs_or_veers, f_law_rest1, f_law, c_Air, x_BadBook, x_BadFlag, x_BadFleet, x_BadHoist, x_Foul, x_NoWay, x_TooLarge, x_Unclear, x_BadText, k_law_rest1, t_law_rest1, k_law, t_law⟩), fun p hp => ?_, fun p hp => ?_, fun p hp => ?_, fun s u => .of_eq rfl, fun H a ns hl hb hT hS => ⟨a, ns, rfl, hS, fun p hp => ?_, fun _ => rfl⟩, fun base _ _ hTB => ok_law (TT base hTB) lk_law dk_law hF⟩
  · simp only [List.mem_cons, List.not_mem_nil, or_false] at hp
    rcases hp with rfl | rfl
    · exact hTS _ zt_law_rest1
    · exact hTS _ zt_law
  · simp only [List.mem_cons, List.not_mem_nil, or_false] at hp
    rcases hp with rfl | rfl
    · exact zn_law_rest1
    · exact zn_law
  · simp only [List.mem_cons, List.not_mem_nil, or_false] at hp
    rcases hp with rfl | rfl
    · exact PySem.W.codeHd_of_K X zh_law_rest1
    · exact PySem.W.codeHd_of_K X zh_law
  · unfold tabsA at hp
    simp only [List.mem_cons, List.not_mem_nil, or_false] at hp
    rcases hp with rfl | rfl
    · exact hT (k_law_rest1, t_law_rest1) (by simp)
    · exact hT (k_law, t_law) (by simp)
end K14
set_option Elab.async false
set_option linter.all false
set_option maxRecDepth 100000
namespace K14
open DL
abbrev sp (r c : Int) : D := .tup [.int r, .int c]
theorem way_tr (a b c d : Int) : D_law_way [sp a b, sp c d] = D_law_way [sp 0 0, sp (c - a) (d - b)] := by
  rw [D_law_way, runF_eq _ _ _ _ (by rfl), runF_eq _ _ _ _ (by rfl)]
  simp [F_law_way, var_eq, sp, abs_eq, notin2_eq, onS_cf, onS_sq, R_as]
theorem btw_tr (a b c d : Int) : D_way_between [sp a b, sp c d] = D_way_between [sp 0 0, sp (c - a) (d - b)] := by
  rw [D_way_between, runF_eq _ _ _ _ (by rfl), runF_eq _ _ _ _ (by rfl)]
  simp [F_way_between, var_eq, sp, abs_eq, max_eq, onS_cf, onS_sq, R_as]
theorem side_tr (w : D) (a b c d : Int) : D_shows_side [w, sp a b, sp c d] = D_shows_side [w, sp 0 0, sp (c - a) (d - b)] := by
  rw [D_shows_side, runF_eq _ _ _ _ (by rfl), runF_eq _ _ _ _ (by rfl)]
  simp [F_shows_side, var_eq, btw_tr a b c d, onS_cf, onS_sq, R_as]
theorem riw_tr (w q : D) (a b c d : Int) : D_reads_in_wind [w, sp a b, sp c d, q] = D_reads_in_wind [w, sp 0 0, sp (c - a) (d - b), q] := by
  rw [D_reads_in_wind, runF_eq _ _ _ _ (by rfl), runF_eq _ _ _ _ (by rfl)]
  simp [F_reads_in_wind, var_eq, side_tr w a b c d, abs_eq, max_eq, onS_cf, onS_sq, R_as]
theorem lr_tr (w q : D) (a b c d : Int) : D_law_reads [w, sp a b, sp c d, q] = D_law_reads [w, sp 0 0, sp (c - a) (d - b), q] := by
  rw [D_law_reads, runF_eq _ _ _ _ (by rfl), runF_eq _ _ _ _ (by rfl)]
  have e1 : -(c - a) = a - c := by omega
  have e2 : -(d - b) = b - d := by omega
  simp [F_law_reads, var_eq, way_tr a b c d, e1, e2, abs_eqI, max_eq, onS_cf, onS_sq, R_as]
end K14
set_option Elab.async false
set_option linter.all false
set_option maxRecDepth 100000
namespace K14
open DL
def wnm : Nat → List Nat
  | 0 => [110] | 1 => [110, 101] | 2 => [101] | 3 => [115, 101] | 4 => [115] | 5 => [115, 119] | 6 => [119] | _ => [110, 119]
/-- eight cases -/
theorem eight {P : Nat → Prop} (h : P 0 ∧ P 1 ∧ P 2 ∧ P 3 ∧ P 4 ∧ P 5 ∧ P 6 ∧ P 7) (k : Nat) (hk : k < 8) : P k := by
  obtain ⟨h0, h1, h2, h3, h4, h5, h6, h7⟩ := h
  match k, hk with
  | 0, _ => exact h0
  | 1, _ => exact h1
  | 2, _ => exact h2
  | 3, _ => exact h3
  | 4, _ => exact h4
  | 5, _ => exact h5
  | 6, _ => exact h6
  | 7, _ => exact h7
abbrev EL : D := .lst [.str [110], .str [110, 101], .str [101], .str [115, 101], .str [115], .str [115, 119], .str [119], .str [110, 119]]
theorem notin_EL (k : Nat) (hk : k < 8) : notInD (.str (wnm k)) EL = .ok (.bl false) := eight (P := fun k => notInD (.str (wnm k)) EL = .ok (.bl false)) ⟨rfl, rfl, rfl, rfl, rfl, rfl, rfl, rfl⟩ k hk
theorem isT_EL : isT "list" EL = .ok EL := rfl
theorem idx_EL (k : Nat) (hk : k < 8) : idxLs EL [.str (wnm k)] = .ok (.int (k : Nat)) := eight (P := fun k => idxLs EL [.str (wnm k)] = .ok (.int (k : Nat))) ⟨rfl, rfl, rfl, rfl, rfl, rfl, rfl, rfl⟩ k hk
theorem eighth_eq (k : Nat) (hk : k < 8) : D_eighth_of [.str (wnm k)] = .ok (.int (k : Nat)) := eight (P := fun k => D_eighth_of [.str (wnm k)] = .ok (.int (k : Nat))) ⟨rfl, rfl, rfl, rfl, rfl, rfl, rfl, rfl⟩ k hk
theorem idx_EI (k : Nat) (hk : k < 8) : idxTp d_EIGHTS [.str (wnm k)] = .ok (.int (k : Nat)) := eight (P := fun k => idxTp d_EIGHTS [.str (wnm k)] = .ok (.int (k : Nat))) ⟨rfl, rfl, rfl, rfl, rfl, rfl, rfl, rfl⟩ k hk
theorem sub_EI (k : Nat) (hk : k < 8) : subI d_EIGHTS (.int (k : Nat)) = .ok (.str (wnm k)) := eight (P := fun k => subI d_EIGHTS (.int (k : Nat)) = .ok (.str (wnm k))) ⟨rfl, rfl, rfl, rfl, rfl, rfl, rfl, rfl⟩ k hk
theorem in_EI (k : Nat) (hk : k < 8) : inD (.str (wnm k)) d_EIGHTS = .ok (.bl true) := eight (P := fun k => inD (.str (wnm k)) d_EIGHTS = .ok (.bl true)) ⟨rfl, rfl, rfl, rfl, rfl, rfl, rfl, rfl⟩ k hk
def far (dr dc : Int) : Int := maxI (absI dr) (absI dc)
def gp (k w : Nat) : Int := ((k : Int) - (w : Int)) % 4
def rdF (g f q : Int) : Bool := (g == 2 && decide (f ≤ q)) || ((g == 1 || g == 3) && decide (2 * f ≤ q))
def sideS (g : Int) : List Nat := if g = 0 then [101, 110, 100, 32, 111, 110] else if g = 2 then [98, 114, 111, 97, 100, 115, 105, 100, 101] else [115, 108, 97, 110, 116, 105, 110, 103]
theorem modD_int (i j : Int) (h : 0 < j) : modD (.int i) (.int j) = .ok (.int (i % j)) := if_pos h
theorem gp_cases (k w : Nat) : gp k w = 0 ∨ gp k w = 1 ∨ gp k w = 2 ∨ gp k w = 3 := by unfold gp; omega
theorem sideL (g : Int) (h : g = 0 ∨ g = 1 ∨ g = 2 ∨ g = 3) : subI (.tup [.str [101, 110, 100, 32, 111, 110], .str [115, 108, 97, 110, 116, 105, 110, 103], .str [98, 114, 111, 97, 100, 115, 105, 100, 101], .str [115, 108, 97, 110, 116, 105, 110, 103]]) (.int g) = .ok (.str (sideS g)) := by
  rcases h with rfl | rfl | rfl | rfl <;> rfl
theorem sideLL (g : Int) (h : g = 0 ∨ g = 1 ∨ g = 2 ∨ g = 3) : subI (.lst [.str [101, 110, 100, 32, 111, 110], .str [115, 108, 97, 110, 116, 105, 110, 103], .str [98, 114, 111, 97, 100, 115, 105, 100, 101], .str [115, 108, 97, 110, 116, 105, 110, 103]]) (.int g) = .ok (.str (sideS g)) := by
  rcases h with rfl | rfl | rfl | rfl <;> rfl
theorem lreads (k w : Nat) (hk : k < 8) (hw : w < 8) (dr dc q : Int) (h : D_law_way [sp 0 0, sp dr dc] = .ok (.str (wnm k))) : D_law_reads [.str (wnm w), sp 0 0, sp dr dc, .int q] = .ok (.bl (rdF (gp k w) (far dr dc) q)) := by
  have n1 : absI (-dr) = absI dr := by unfold absI; split <;> split <;> omega
  have n2 : absI (-dc) = absI dc := by unfold absI; split <;> split <;> omega
  have m2 : ∀ z, mulD (.int 2) (.int z) = .ok (.int (2 * z)) := fun z => mul_ok (by omega) (by omega)
  rw [D_law_reads, runF_eq _ _ _ _ (by rfl)]
  simp [F_law_reads, var_eq, h, abs_eqI, max_eqI, onS_cf, onS_sq, R_as, notin_EL k hk, isT_EL, idx_EL k hk, idx_EL w hw, modD_int, in2_eq, m2, n1, n2]
  have g := gp_cases k w
  unfold gp at g
  simp only [rdF, gp, far]
  rcases g with g | g | g | g <;> by_cases hF : maxI (absI dr) (absI dc) ≤ q <;> by_cases hF2 : 2 * maxI (absI dr) (absI dc) ≤ q <;> simp [g, hF, hF2]
theorem shows (k w : Nat) (hk : k < 8) (hw : w < 8) (dr dc : Int) (h : D_way_between [sp 0 0, sp dr dc] = .ok (.str (wnm k))) : D_shows_side [.str (wnm w), sp 0 0, sp dr dc] = .ok (.str (sideS (gp k w))) := by
  rw [D_shows_side, runF_eq _ _ _ _ (by rfl)]
  have g := gp_cases k w
  unfold gp at g
  simp [F_shows_side, var_eq, h, onS_cf, onS_sq, R_as, eighth_eq k hk, eighth_eq w hw, modD_int, sideL _ g, gp]
theorem preads (k w : Nat) (hk : k < 8) (hw : w < 8) (dr dc q : Int) (h : D_way_between [sp 0 0, sp dr dc] = .ok (.str (wnm k))) : D_reads_in_wind [.str (wnm w), sp 0 0, sp dr dc, .int q] = .ok (.bl (rdF (gp k w) (far dr dc) q)) := by
  have m2 : ∀ z, mulD (.int 2) (.int z) = .ok (.int (2 * z)) := fun z => mul_ok (by omega) (by omega)
  rw [D_reads_in_wind, runF_eq _ _ _ _ (by rfl)]
  have g := gp_cases k w
  simp [F_reads_in_wind, var_eq, shows k w hk hw dr dc h, abs_eqI, max_eqI, onS_cf, onS_sq, R_as, m2]
  simp only [rdF, far]
  rcases g with g | g | g | g <;> by_cases hF : maxI (absI dr) (absI dc) ≤ q <;> by_cases hF2 : 2 * maxI (absI dr) (absI dc) ≤ q <;> simp [g, sideS, hF, hF2]
theorem preads_e (w : Nat) (dr dc q : Int) (e : Exc) (h : D_way_between [sp 0 0, sp dr dc] = .err e) : D_reads_in_wind [.str (wnm w), sp 0 0, sp dr dc, .int q] = .err e := by
  rw [D_reads_in_wind, runF_eq _ _ _ _ (by rfl)]
  have s : D_shows_side [.str (wnm w), sp 0 0, sp dr dc] = .err e := by
    rw [D_shows_side, runF_eq _ _ _ _ (by rfl)]
    simp [F_shows_side, var_eq, h, onS_cf, onS_sq, R_as]
  simp [F_reads_in_wind, var_eq, s, abs_eqI, max_eqI, onS_cf, onS_sq, R_as]
theorem lreads_no (w : Nat) (dr dc q : Int) (s : List Nat) (h : D_law_way [sp 0 0, sp dr dc] = .ok (.str s)) (hs : notInD (.str s) EL = .ok (.bl true)) : D_law_reads [.str (wnm w), sp 0 0, sp dr dc, .int q] = .ok (.bl false) := by
  rw [D_law_reads, runF_eq _ _ _ _ (by rfl)]
  simp [F_law_reads, var_eq, h, abs_eqI, max_eqI, onS_cf, onS_sq, R_as, hs]
def strOf : R D → Option (List Nat)
  | .ok (.str s) => some s
  | _ => none
theorem strOf_ok {x : R D} {s : List Nat} (h : strOf x = some s) : x = .ok (.str s) := by
  unfold strOf at h; split at h
  · cases h; rfl
  · cases h
def errOf : R D → Option Nat
  | .err ⟨n, .non⟩ => some n
  | _ => none
theorem errOf_ok {x : R D} {n : Nat} (h : errOf x = some n) : x = .err ⟨n, .non⟩ := by
  unfold errOf at h; split at h
  · cases h; rfl
  · cases h
def S_fleet : List Nat := [102, 108, 101, 101, 116]
def S_noway : List Nat := [110, 111, 32, 119, 97, 121]
/-- which of the eight -/
def wix (dr dc : Int) : Option Nat := (List.range 8).find? fun k => strOf (D_way_between [sp 0 0, sp dr dc]) == some (wnm k)
def chkW (dr dc : Int) : Bool := match wix dr dc with
  | some k => decide (k < 8) && strOf (D_law_way [sp 0 0, sp dr dc]) == some (wnm k) && strOf (D_way_between [sp 0 0, sp dr dc]) == some (wnm k) && wix (-dr) (-dc) == some ((k + 4) % 8) && !(dr == 0 && dc == 0)
  | none => if dr = 0 ∧ dc = 0 then strOf (D_law_way [sp 0 0, sp dr dc]) == some S_fleet && errOf (D_way_between [sp 0 0, sp dr dc]) == some 4
    else strOf (D_law_way [sp 0 0, sp dr dc]) == some S_noway && errOf (D_way_between [sp 0 0, sp dr dc]) == some 7 && wix (-dr) (-dc) == none
def fl (i : Nat) : Int := (i : Int) - 5
def allW : Bool := (List.range 11).all fun i => (List.range 11).all fun j => chkW (fl i) (fl j)
theorem allW_ok : allW = true := by decide +kernel
theorem chkW_at {dr dc : Int} (h1 : -5 ≤ dr) (h2 : dr ≤ 5) (h3 : -5 ≤ dc) (h4 : dc ≤ 5) : chkW dr dc = true := by
  have h := allW_ok
  unfold allW at h
  rw [List.all_eq_true] at h
  have h := h (dr + 5).toNat (by rw [List.mem_range]; omega)
  rw [List.all_eq_true] at h
  have h := h (dc + 5).toNat (by rw [List.mem_range]; omega)
  have e1 : fl (dr + 5).toNat = dr := by unfold fl; omega
  have e2 : fl (dc + 5).toNat = dc := by unfold fl; omega
  rw [e1, e2] at h
  exact h
end K14
set_option Elab.async false
set_option linter.all false
set_option maxRecDepth 100000
namespace K14
open DL
def rdB (w : Nat) (dr dc q : Int) : Bool := match wix dr dc with
  | some k => rdF (gp k w) (far dr dc) q
  | none => false
theorem abs_neg (i : Int) : absI (-i) = absI i := by unfold absI; split <;> split <;> omega
theorem far_neg (a b : Int) : far (-a) (-b) = far a b := by unfold far; rw [abs_neg, abs_neg]
theorem chk_some {dr dc : Int} {k : Nat} (h : chkW dr dc = true) (e : wix dr dc = some k) : k < 8 ∧ D_law_way [sp 0 0, sp dr dc] = .ok (.str (wnm k)) ∧ D_way_between [sp 0 0, sp dr dc] = .ok (.str (wnm k)) ∧ wix (-dr) (-dc) = some ((k + 4) % 8) ∧ ¬ (dr = 0 ∧ dc = 0) := by
  unfold chkW at h
  rw [e] at h
  simp only [Bool.and_eq_true, decide_eq_true_eq, beq_iff_eq, Bool.not_eq_true', Bool.and_eq_false_iff, beq_eq_false_iff_ne] at h
  obtain ⟨⟨⟨⟨h1, h2⟩, h3⟩, h4⟩, h5⟩ := h
  exact ⟨h1, strOf_ok h2, strOf_ok h3, h4, fun ⟨a, b⟩ => h5.elim (fun q => q a) (fun q => q b)⟩
theorem chk_none {dr dc : Int} (h : chkW dr dc = true) (e : wix dr dc = none) (n : ¬ (dr = 0 ∧ dc = 0)) : D_law_way [sp 0 0, sp dr dc] = .ok (.str S_noway) ∧ D_way_between [sp 0 0, sp dr dc] = .err ⟨7, .non⟩ ∧ wix (-dr) (-dc) = none := by
  unfold chkW at h
  rw [e] at h
  simp only [if_neg n, Bool.and_eq_true, beq_iff_eq] at h
  obtain ⟨⟨h1, h2⟩, h3⟩ := h
  exact ⟨strOf_ok h1, errOf_ok h2, h3⟩
theorem chk_zero {dr dc : Int} (h : chkW dr dc = true) (n : dr = 0 ∧ dc = 0) : wix dr dc = none ∧ D_law_way [sp 0 0, sp dr dc] = .ok (.str S_fleet) ∧ D_way_between [sp 0 0, sp dr dc] = .err ⟨4, .non⟩ := by
  cases e : wix dr dc with
  | some k => exact absurd n (chk_some h e).2.2.2.2
  | none =>
    unfold chkW at h
    rw [e] at h
    simp only [if_pos n, Bool.and_eq_true, beq_iff_eq] at h
    exact ⟨rfl, strOf_ok h.1, errOf_ok h.2⟩
theorem notin_no : notInD (.str S_noway) EL = .ok (.bl true) := rfl
theorem notin_fl : notInD (.str S_fleet) EL = .ok (.bl true) := rfl
structure In5 (i : Int) : Prop where
  a : -5 ≤ i
  b : i ≤ 5
theorem law_rd (w : Nat) (hw : w < 8) (a b c d q : Int) (h1 : In5 (c - a)) (h2 : In5 (d - b)) : D_law_reads [.str (wnm w), sp a b, sp c d, .int q] = .ok (.bl (rdB w (c - a) (d - b) q)) := by
  rw [lr_tr]
  have hc := chkW_at h1.a h1.b h2.a h2.b
  unfold rdB
  cases e : wix (c - a) (d - b) with
  | some k =>
    obtain ⟨g1, g2, _⟩ := chk_some hc e
    exact lreads k w g1 hw _ _ q g2
  | none =>
    by_cases n : c - a = 0 ∧ d - b = 0
    · exact lreads_no w _ _ q _ (chk_zero hc n).2.1 notin_fl
    · exact lreads_no w _ _ q _ (chk_none hc e n).1 notin_no
theorem prog_rd (w : Nat) (hw : w < 8) (a b c d q : Int) (h1 : In5 (c - a)) (h2 : In5 (d - b)) (n : ¬ (c - a = 0 ∧ d - b = 0)) : D_reads_in_wind [.str (wnm w), sp a b, sp c d, .int q] = .ok (.bl (rdB w (c - a) (d - b) q)) ∨
    (D_reads_in_wind [.str (wnm w), sp a b, sp c d, .int q] = .err ⟨7, .non⟩ ∧ rdB w (c - a) (d - b) q = false) := by
  rw [riw_tr]
  have hc := chkW_at h1.a h1.b h2.a h2.b
  unfold rdB
  cases e : wix (c - a) (d - b) with
  | some k =>
    obtain ⟨g1, g2, g3, _⟩ := chk_some hc e
    exact .inl (preads k w g1 hw _ _ q g3)
  | none => exact .inr ⟨preads_e w _ _ q _ (chk_none hc e n).2.1, rfl⟩
theorem rdB_sym (w : Nat) (dr dc q : Int) (h1 : In5 dr) (h2 : In5 dc) : rdB w (-dr) (-dc) q = rdB w dr dc q := by
  have hc := chkW_at h1.a h1.b h2.a h2.b
  unfold rdB
  cases e : wix dr dc with
  | some k =>
    obtain ⟨g1, _, _, g4, _⟩ := chk_some hc e
    rw [g4]
    dsimp only
    rw [far_neg]
    have : gp ((k + 4) % 8) w = gp k w := by unfold gp; omega
    rw [this]
  | none =>
    by_cases n : dr = 0 ∧ dc = 0
    · obtain ⟨rfl, rfl⟩ := n
      rw [show (-0 : Int) = 0 from rfl, e]
    · rw [(chk_none hc e n).2.2]
def rdrs (G : Nat → Nat → Bool) (N : List Nat) (i : Nat) : List Nat := N.filter fun j => (j != i) && G i j
def stepD (G : Nat → Nat → Bool) (sw : List Nat × List Nat) (o : Nat) : List Nat × List Nat := if sw.1.contains o then sw else (sw.1 ++ [o], sw.2 ++ [o])
def dfs (G : Nat → Nat → Bool) (N : List Nat) : Nat → List Nat → List Nat → Option (List Nat)
  | 0, _, _ => none
  | n + 1, seen, work => match work.getLast? with
    | none => some seen
    | some i => dfs G N n ((rdrs G N i).foldl (stepD G) (seen, work.dropLast)).1 ((rdrs G N i).foldl (stepD G) (seen, work.dropLast)).2
def kst (G : Nat → Nat → Bool) (N : List Nat) (known : List Nat) : List Nat := known ++ N.filter fun j => !known.contains j && !(known.filter fun i => G i j).isEmpty
def kns (G : Nat → Nat → Bool) (N : List Nat) : Nat → List Nat → List Nat
  | 0, k => k
  | n + 1, k => kns G N n (kst G N k)
def ltN (a b : Nat) : Bool := decide (a < b)
def G10 (a b c d e f g h i j : Bool) : Nat → Nat → Bool
  | 0, 1 => a | 1, 0 => a | 0, 2 => b | 2, 0 => b | 0, 3 => c | 3, 0 => c | 0, 4 => d | 4, 0 => d
  | 1, 2 => e | 2, 1 => e | 1, 3 => f | 3, 1 => f | 1, 4 => g | 4, 1 => g
  | 2, 3 => h | 3, 2 => h | 2, 4 => i | 4, 2 => i | 3, 4 => j | 4, 3 => j
  | _, _ => false
def subs : List (List Nat) := [[0], [0,1], [0,2], [0,3], [0,4], [0,1,2], [0,1,3], [0,1,4], [0,2,3], [0,2,4], [0,3,4], [0,1,2,3], [0,1,2,4], [0,1,3,4], [0,2,3,4], [0,1,2,3,4]]
def chkG (G : Nat → Nat → Bool) (N : List Nat) : Bool := match dfs G N 100 [0] [0] with
  | some s => isort ltN s == isort ltN (kns G N N.length [0]) && (isort ltN s).all (N.contains ·) && decide (1 ≤ s.length) && decide (s.length ≤ 5)
  | none => false
def bq (N : List Nat) (i j : Nat) : List Bool := if N.contains i && N.contains j then [false, true] else [false]
def allG (N : List Nat) : Bool := (bq N 0 1).all fun a => (bq N 0 2).all fun b => (bq N 0 3).all fun c => (bq N 0 4).all fun d => (bq N 1 2).all fun e => (bq N 1 3).all fun f => (bq N 1 4).all fun g => (bq N 2 3).all fun h => (bq N 2 4).all fun i => (bq N 3 4).all fun j => chkG (G10 a b c d e f g h i j) N
theorem allG_ok : subs.all allG = true := by decide +kernel
theorem bq_mem (N : List Nat) (i j : Nat) (b : Bool) (h : b = true → N.contains i = true ∧ N.contains j = true) : b ∈ bq N i j := by
  unfold bq
  cases b with
  | false => split <;> simp
  | true =>
    obtain ⟨h1, h2⟩ := h rfl
    rw [h1, h2]
    simp
theorem chkG_at {N : List Nat} (hN : N ∈ subs) {a b c d e f g h i j : Bool} (ha : a ∈ bq N 0 1) (hb : b ∈ bq N 0 2) (hc : c ∈ bq N 0 3) (hd : d ∈ bq N 0 4) (he : e ∈ bq N 1 2) (hf : f ∈ bq N 1 3) (hg : g ∈ bq N 1 4) (hh : h ∈ bq N 2 3) (hi : i ∈ bq N 2 4) (hj : j ∈ bq N 3 4) : chkG (G10 a b c d e f g h i j) N = true := by
  have q := List.all_eq_true.mp allG_ok N hN
  unfold allG at q
  have q := List.all_eq_true.mp q a ha
  have q := List.all_eq_true.mp q b hb
  have q := List.all_eq_true.mp q c hc
  have q := List.all_eq_true.mp q d hd
  have q := List.all_eq_true.mp q e he
  have q := List.all_eq_true.mp q f hf
  have q := List.all_eq_true.mp q g hg
  have q := List.all_eq_true.mp q h hh
  have q := List.all_eq_true.mp q i hi
  exact List.all_eq_true.mp q j hj
/-- the graph of a way of reading, on N -/
def grN (N : List Nat) (A : Nat → Nat → Bool) : Nat → Nat → Bool :=
  let m := fun i j => N.contains i && (N.contains j && A i j)
  G10 (m 0 1) (m 0 2) (m 0 3) (m 0 4) (m 1 2) (m 1 3) (m 1 4) (m 2 3) (m 2 4) (m 3 4)
theorem grN_ok {N : List Nat} (hN : N ∈ subs) (A : Nat → Nat → Bool) : chkG (grN N A) N = true := by
  have k : ∀ i j, (N.contains i && (N.contains j && A i j)) ∈ bq N i j := fun i j => bq_mem N i j _ fun h => by
    simp only [Bool.and_eq_true] at h
    exact ⟨h.1, h.2.1⟩
  exact chkG_at hN (k 0 1) (k 0 2) (k 0 3) (k 0 4) (k 1 2) (k 1 3) (k 1 4) (k 2 3) (k 2 4) (k 3 4)
theorem grN_eq {N : List Nat} {A : Nat → Nat → Bool} (h5 : ∀ i ∈ N, i < 5) (sym : ∀ i ∈ N, ∀ j ∈ N, i ≠ j → A i j = A j i) {i j : Nat} (hi : i ∈ N) (hj : j ∈ N) (n : i ≠ j) : grN N A i j = A i j := by
  have ci : N.contains i = true := by simpa using hi
  have cj : N.contains j = true := by simpa using hj
  have s := sym i hi j hj n
  have li := h5 i hi
  have lj := h5 j hj
  match i, j, li, lj with
  | 0, 0, _, _ => exact absurd rfl n
  | 1, 1, _, _ => exact absurd rfl n
  | 2, 2, _, _ => exact absurd rfl n
  | 3, 3, _, _ => exact absurd rfl n
  | 4, 4, _, _ => exact absurd rfl n
  | 0, 1, _, _ => exact (show (N.contains 0 && (N.contains 1 && A 0 1)) = A 0 1 from by rw [ci, cj]; rfl)
  | 0, 2, _, _ => exact (show (N.contains 0 && (N.contains 2 && A 0 2)) = A 0 2 from by rw [ci, cj]; rfl)
  | 0, 3, _, _ => exact (show (N.contains 0 && (N.contains 3 && A 0 3)) = A 0 3 from by rw [ci, cj]; rfl)
  | 0, 4, _, _ => exact (show (N.contains 0 && (N.contains 4 && A 0 4)) = A 0 4 from by rw [ci, cj]; rfl)
  | 1, 0, _, _ => exact (show (N.contains 0 && (N.contains 1 && A 0 1)) = A 1 0 from by rw [ci, cj, s]; rfl)
  | 1, 2, _, _ => exact (show (N.contains 1 && (N.contains 2 && A 1 2)) = A 1 2 from by rw [ci, cj]; rfl)
  | 1, 3, _, _ => exact (show (N.contains 1 && (N.contains 3 && A 1 3)) = A 1 3 from by rw [ci, cj]; rfl)
  | 1, 4, _, _ => exact (show (N.contains 1 && (N.contains 4 && A 1 4)) = A 1 4 from by rw [ci, cj]; rfl)
  | 2, 0, _, _ => exact (show (N.contains 0 && (N.contains 2 && A 0 2)) = A 2 0 from by rw [ci, cj, s]; rfl)
  | 2, 1, _, _ => exact (show (N.contains 1 && (N.contains 2 && A 1 2)) = A 2 1 from by rw [ci, cj, s]; rfl)
  | 2, 3, _, _ => exact (show (N.contains 2 && (N.contains 3 && A 2 3)) = A 2 3 from by rw [ci, cj]; rfl)
  | 2, 4, _, _ => exact (show (N.contains 2 && (N.contains 4 && A 2 4)) = A 2 4 from by rw [ci, cj]; rfl)
  | 3, 0, _, _ => exact (show (N.contains 0 && (N.contains 3 && A 0 3)) = A 3 0 from by rw [ci, cj, s]; rfl)
  | 3, 1, _, _ => exact (show (N.contains 1 && (N.contains 3 && A 1 3)) = A 3 1 from by rw [ci, cj, s]; rfl)
  | 3, 2, _, _ => exact (show (N.contains 2 && (N.contains 3 && A 2 3)) = A 3 2 from by rw [ci, cj, s]; rfl)
  | 3, 4, _, _ => exact (show (N.contains 3 && (N.contains 4 && A 3 4)) = A 3 4 from by rw [ci, cj]; rfl)
  | 4, 0, _, _ => exact (show (N.contains 0 && (N.contains 4 && A 0 4)) = A 4 0 from by rw [ci, cj, s]; rfl)
  | 4, 1, _, _ => exact (show (N.contains 1 && (N.contains 4 && A 1 4)) = A 4 1 from by rw [ci, cj, s]; rfl)
  | 4, 2, _, _ => exact (show (N.contains 2 && (N.contains 4 && A 2 4)) = A 4 2 from by rw [ci, cj, s]; rfl)
  | 4, 3, _, _ => exact (show (N.contains 3 && (N.contains 4 && A 3 4)) = A 4 3 from by rw [ci, cj, s]; rfl)
end K14
set_option Elab.async false
set_option linter.all false
set_option maxRecDepth 100000
namespace K14
open DL PySem PySem.Spec PyProof.Rows
abbrev nm (k : Nat) : D := .str [97 + k]
theorem keq_nm (a b : Nat) : (nm a).keq (nm b) = decide (a = b) := by
  show ([97 + a] == [97 + b]) = _
  rw [Bool.eq_iff_iff]; simp
abbrev dcD (v : Nat → D) (N : List Nat) : List (D × D) := N.map fun k => (nm k, v k)
theorem getD_nm (v : Nat → D) (k : Nat) : ∀ N : List Nat, getD (dcD v N) (nm k) = if k ∈ N then some (v k) else none
  | [] => rfl
  | a :: N => by
    have ih := getD_nm v k N
    unfold getD at ih ⊢
    show Option.map _ (List.find? _ ((nm a, v a) :: dcD v N)) = _
    rw [List.find?_cons]
    dsimp only
    rw [keq_nm]
    by_cases h : a = k
    · subst h; simp
    · have h2 : ¬ k = a := fun e => h e.symm
      simp only [h, decide_false, List.mem_cons, h2, false_or]
      exact ih
theorem putD_nm (v : Nat → D) (k : Nat) (N : List Nat) (h : k ∉ N) : putD (dcD v N) (nm k) (v k) = dcD v (N ++ [k]) := by
  unfold putD
  have : ((dcD v N).any fun p => p.1.keq (nm k)) = false := by
    rw [List.any_map, List.any_eq_false]
    intro x hx
    show ¬ ((nm x).keq (nm k)) = true
    rw [keq_nm]
    simp only [decide_eq_true_eq]
    exact fun e => h (e ▸ hx)
  rw [this, if_neg (by decide)]
  simp
theorem notin_nm (v : Nat → D) (k : Nat) (N : List Nat) : notInD (nm k) (.dic (dcD v N)) = .ok (.bl (!N.contains k)) := by
  unfold notInD inB
  dsimp only
  rw [if_pos (by rfl), getD_nm]
  by_cases h : k ∈ N
  · simp [h]
  · simp [h]
theorem subI_nm (v : Nat → D) (k : Nat) (N : List Nat) (h : k ∈ N) : subI (.dic (dcD v N)) (nm k) = .ok (v k) := by
  unfold subI
  dsimp only
  rw [if_pos (by rfl), getD_nm, if_pos h]
theorem txts_nm : ∀ l : List Nat, txts? (l.map nm) = some (l.map fun k => [97 + k])
  | [] => rfl
  | k :: l => by
    rw [List.map_cons, List.map_cons]
    unfold txts?
    rw [txts_nm l]
    rfl
theorem lt_nm (a b : Nat) : ltCps [97 + a] [97 + b] = ltN a b := by
  unfold ltN
  rw [Bool.eq_iff_iff]; simp [ltCps]
theorem ins_nm (x : Nat) : ∀ l : List Nat, insT ltCps [97 + x] (l.map fun k => [97 + k]) = (insT ltN x l).map fun k => [97 + k]
  | [] => rfl
  | y :: l => by
    rw [List.map_cons]
    unfold insT
    rw [lt_nm]
    by_cases h : ltN y x = true
    · rw [if_pos h, if_pos h, ins_nm x l]; rfl
    · rw [if_neg h, if_neg h]; rfl
theorem isort_nm : ∀ l : List Nat, isort ltCps (l.map fun k => [97 + k]) = (isort ltN l).map fun k => [97 + k]
  | [] => rfl
  | x :: l => by
    show insT ltCps [97 + x] (isort ltCps (l.map fun k => [97 + k])) = _
    rw [isort_nm l, ins_nm]
    rfl
theorem sort_nm (l : List Nat) (h : l.length < 64) : sortDs (l.map nm) = .ok ((isort ltN l).map nm) := by
  unfold sortDs
  rw [if_pos (by simpa using h), txts_nm]
  dsimp only
  rw [isort_nm, List.map_map]
  rfl
theorem sorted_dic (v : Nat → D) (N : List Nat) (h : N.length < 64) : sortedL [.dic (dcD v N)] = .ok ((isort ltN N).map nm) := by
  show sortDs ((dcD v N).map (·.1)) = _
  rw [List.map_map]
  exact sort_nm N h
theorem sorted_lst (l : List Nat) (h : l.length < 64) : sortedL [.lst (l.map nm)] = .ok ((isort ltN l).map nm) := sort_nm l h
theorem shs_nm {n : Nat} : ∀ l : List Nat, (∀ k ∈ l, k < 5) → D.shs (l.map nm) n = true
  | [], _ => by simp [D.shs]
  | k :: l, h => by
    have hk := h k List.mem_cons_self
    rw [List.map_cons]
    simp only [D.shs, Bool.and_eq_true]
    refine ⟨?_, shs_nm l fun x hx => h x (List.mem_cons_of_mem _ hx)⟩
    simp [D.sh]
    omega
theorem ne_nil (l : List Nat) (h : ∀ k ∈ l, k < 5) : neD (.lst (l.map nm)) (.lst []) = .ok (.bl (!l.isEmpty)) := by
  unfold neD
  have h1 : (D.lst (l.map nm)).sh 64 = true := by simp only [D.sh]; exact shs_nm l h
  have h2 : (D.lst []).sh 64 = true := by simp [D.sh, D.shs]
  rw [if_pos (by rw [h1, h2]; simp)]
  cases l with
  | nil => rfl
  | cons x l => rfl
theorem eqbs_nm : ∀ l m : List Nat, D.eqbs (l.map nm) (m.map nm) = (l == m)
  | [], [] => rfl
  | [], _ :: _ => rfl
  | _ :: _, [] => rfl
  | x :: l, y :: m => by
    rw [List.map_cons, List.map_cons]
    unfold D.eqbs
    rw [eqbs_nm l m]
    show (([97 + x] == [97 + y]) && (l == m)) = ((x == y) && (l == m))
    congr 1
    rw [Bool.eq_iff_iff]; simp
theorem ne_lst (l m : List Nat) (h : ∀ k ∈ l, k < 5) (k : ∀ k ∈ m, k < 5) : neD (.lst (l.map nm)) (.lst (m.map nm)) = .ok (.bl (!(l == m))) := by
  unfold neD
  have h1 : (D.lst (l.map nm)).sh 64 = true := by simp only [D.sh]; exact shs_nm l h
  have h2 : (D.lst (m.map nm)).sh 64 = true := by simp only [D.sh]; exact shs_nm m k
  rw [if_pos (by rw [h1, h2]; simp)]
  show R.ok (D.bl (!D.eqbs (l.map nm) (m.map nm))) = _
  rw [eqbs_nm]
theorem in_nm (k : Nat) (l : List Nat) (hk : k < 5) (h : ∀ k ∈ l, k < 5) : notInD (nm k) (.lst (l.map nm)) = .ok (.bl (!l.contains k)) := by
  unfold notInD inB
  have h1 : (nm k).sh 62 = true := by simp [D.sh]; omega
  dsimp only
  rw [if_pos (by rw [h1, shs_nm l h]; rfl), List.any_map]
  have : (l.any ((fun z => z.eqb (nm k)) ∘ nm)) = l.contains k := by
    rw [Bool.eq_iff_iff]
    simp only [List.any_eq_true, Function.comp, List.contains_iff_mem]
    constructor
    · rintro ⟨x, hx, e⟩
      have e : ([97 + x] == [97 + k]) = true := e
      have e : x = k := by simpa using e
      exact e ▸ hx
    · intro hx
      exact ⟨k, hx, by show ([97 + k] == [97 + k]) = true; simp⟩
  rw [this]
  rfl
theorem loopC_nm {gd : D → LE → Option LE} {tt : LE → R Bool} {te : LE → R D} {r : LE} (p : Nat → Bool) (f : Nat → D) : ∀ L : List Nat, (∀ j ∈ L, ∃ r', gd (nm j) r = some r' ∧ tt r' = .ok (p j) ∧ (p j = true → te r' = .ok (f j))) → loopC gd tt te r (L.map nm) = .ok ((L.filter p).map f)
  | [], _ => rfl
  | d :: ds, h => by
    obtain ⟨r', h1, h2, h3⟩ := h d List.mem_cons_self
    have ih := loopC_nm p f ds fun x hx => h x (List.mem_cons_of_mem _ hx)
    rw [List.map_cons, loopC_cons, h1]
    dsimp only
    rw [h2, ih]
    by_cases hp : p d = true
    · rw [List.filter_cons_of_pos hp, hp, h3 hp]
      rfl
    · rw [List.filter_cons_of_neg hp]
      have : p d = false := by simpa using hp
      rw [this]
      rfl
theorem if_no {c : LE → R Bool} {F K : LE → R Out} {r : LE} (h : c r = .ok false) : ifS c F K r = K r := by
  rw [ifS_eq, h]; rfl
theorem if_yes {c : LE → R Bool} {F K : LE → R Out} {r : LE} (h : c r = .ok true) : ifS c F K r = F r := by
  rw [ifS_eq, h]; rfl
theorem cmp_eq {g : D → D → R D} {f k : LE → R D} {r : LE} {x y : D} {b : Bool} (hf : f r = .ok x) (hk : k r = .ok y) (h : g x y = .ok (.bl b)) : cmpT g f k r = .ok b := by
  rw [cmpT_eq, hf, R.ok_bind, hk, R.ok_bind, h]; rfl
theorem seq_eq {F K : LE → R Out} {r r2 : LE} {o : R Out} (h : F r = .ok (.nx r2)) (k : K r2 = o) : seqS F K r = o := by
  rw [seqS_eq, h]
  exact k
end K14
set_option Elab.async false
set_option linter.all false
set_option maxRecDepth 100000
namespace K14
open DL PySem PySem.Spec PyProof.Rows
abbrev spv (s : Nat → Int × Int) (k : Nat) : D := sp (s k).1 (s k).2
structure Gr (N : List Nat) (s : Nat → Int × Int) (w : Nat) (q : Int) (G : Nat → Nat → Bool) : Prop where
  h5 : ∀ k ∈ N, k < 5
  len : N.length ≤ 5
  srt : isort ltN N = N
  pr : ∀ i ∈ N, ∀ j ∈ N, i ≠ j → D_reads_in_wind [.str (wnm w), spv s i, spv s j, .int q] = .ok (.bl (G i j)) ∨ (D_reads_in_wind [.str (wnm w), spv s i, spv s j, .int q] = .err ⟨7, .non⟩ ∧ G i j = false)
  lw : ∀ i ∈ N, ∀ j ∈ N, i ≠ j → D_law_reads [.str (wnm w), spv s i, spv s j, .int q] = .ok (.bl (G i j))
def RA1 : LE → R Out := (ifS (cmpT notInD (var 2) (var 1))
    (errS ⟨4, .non⟩)
    skipS)
def RA2 : LE → R Out := (setK 4 (ownK (lstE anil)))
def RA3 : LE → R Out := (forS (itL (lE (callF sortedL (acons (var 1) anil)))) (gN 5)
    (ifS (cmpT neD (var 5) (var 2))
    (tryS (toldL.map (·.1))
    (ifS (valT (callE D_reads_in_wind (acons (var 0) (acons (subE (var 1) (var 2)) (acons (subE (var 1) (var 5)) (acons (var 3) anil))))))
    (appS 4 (var 5))
    skipS) [(7, ctS)])
    skipS))
def RA4 : LE → R Out := (retS (callE tupleD (acons (varP 4) anil)))
def RAs4 : LE → R Out := RA4
def RAs3 : LE → R Out := seqS RA3 RAs4
def RAs2 : LE → R Out := seqS RA2 RAs3
def RAs1 : LE → R Out := seqS RA1 RAs2
theorem F_readers_split : F_readers = RAs1 := rfl
def RB : LE → R Out := (ifS (cmpT neD (var 5) (var 2))
    (tryS (toldL.map (·.1))
    (ifS (valT (callE D_reads_in_wind (acons (var 0) (acons (subE (var 1) (var 2)) (acons (subE (var 1) (var 5)) (acons (var 3) anil))))))
    (appS 4 (var 5))
    skipS) [(7, ctS)])
    skipS)
def RBi : LE → R Out := (ifS (valT (callE D_reads_in_wind (acons (var 0) (acons (subE (var 1) (var 2)) (acons (subE (var 1) (var 5)) (acons (var 3) anil))))))
    (appS 4 (var 5))
    skipS)
variable {N : List Nat} {s : Nat → Int × Int} {w : Nat} {q : Int} {G : Nat → Nat → Bool}
abbrev rs (N : List Nat) (s : Nat → Int × Int) (w : Nat) (q : Int) (i : Nat) (c4 c5 : Cell) : LE := [.val (.str (wnm w)), .val (.dic (dcD (spv s) N)), .val (nm i), .val (.int q), c4, c5]
theorem rb_val (hg : Gr N s w q G) {i j : Nat} (hi : i ∈ N) (hj : j ∈ N) (acc : List D) : (valT (callE D_reads_in_wind (acons (var 0) (acons (subE (var 1) (var 2)) (acons (subE (var 1) (var 5)) (acons (var 3) anil)))))) (rs N s w q i (.own (.lst acc)) (.val (nm j))) = D_reads_in_wind [.str (wnm w), spv s i, spv s j, .int q] >>= asB := by
  have e1 := subI_nm (spv s) i N hi
  have e2 := subI_nm (spv s) j N hj
  show ((subI (.dic (dcD (spv s) N)) (nm i) >>= fun x => (subI (.dic (dcD (spv s) N)) (nm j) >>= fun y => R.ok [y, .int q]) >>= fun xs => R.ok (x :: xs)) >>= fun xs => R.ok (D.str (wnm w) :: xs)) >>= D_reads_in_wind >>= asB = _
  rw [e1, e2]
  simp only [R.ok_bind]
theorem rb_app (acc : List D) (h : acc.length < 16777216) (i j : Nat) : appS 4 (var 5) (rs N s w q i (.own (.lst acc)) (.val (nm j))) = .ok (.nx (rs N s w q i (.own (.lst (acc ++ [nm j]))) (.val (nm j)))) := by
  unfold appS
  show (if acc.length < 16777216 then _ else _) = _
  rw [if_pos h]
  rfl
theorem rb_eq (hg : Gr N s w q G) {i j : Nat} (hi : i ∈ N) (hj : j ∈ N) (acc : List D) (h : acc.length < 16777216) :
    RB (rs N s w q i (.own (.lst acc)) (.val (nm j))) = .ok (.nx (rs N s w q i (.own (.lst (if ((j != i) && G i j) = true then acc ++ [nm j] else acc))) (.val (nm j)))) ∨ RB (rs N s w q i (.own (.lst acc)) (.val (nm j))) = .ok (.ct (rs N s w q i (.own (.lst (if ((j != i) && G i j) = true then acc ++ [nm j] else acc))) (.val (nm j)))) := by
  have ne : (cmpT neD (var 5) (var 2)) (rs N s w q i (.own (.lst acc)) (.val (nm j))) = .ok (j != i) := by
    show neD (nm j) (nm i) >>= asB = _
    rw [neD_str]
    show R.ok (!([97 + j] == [97 + i])) = _
    have : ([97 + j] == [97 + i]) = (j == i) := by rw [Bool.eq_iff_iff]; simp
    rw [this]
    rfl
  by_cases hij : j = i
  · subst hij
    left
    show (cmpT neD (var 5) (var 2) _).onS _ _ = _
    rw [ne]
    simp
  · have hb : (j != i) = true := by simpa using hij
    have hv := rb_val hg hi hj acc
    have run : ∀ o, RBi (rs N s w q i (.own (.lst acc)) (.val (nm j))) = .ok o → RB (rs N s w q i (.own (.lst acc)) (.val (nm j))) = (match o with
      | .ex e r' => if (toldL.map (·.1)).contains e.cls then (match ([(7, ctS)] : List (Nat × (LE → R Out))).lookup e.cls with
        | some K => K r'
        | none => .ok (.ex e r')) else .stuck
      | o => .ok o) := fun o ho => by
      show (cmpT neD (var 5) (var 2) _).onS _ _ = _
      rw [ne, hb]
      show tryS _ RBi _ _ = _
      unfold tryS
      rw [ho]
      rfl
    rcases hg.pr i hi j hj (fun e => hij e.symm) with h1 | ⟨h1, h2⟩
    · left
      rw [h1] at hv
      have hi : RBi (rs N s w q i (.own (.lst acc)) (.val (nm j))) = .ok (.nx (rs N s w q i (.own (.lst (if ((j != i) && G i j) = true then acc ++ [nm j] else acc))) (.val (nm j)))) := by
        show ((valT _) _).onS _ _ = _
        rw [hv, hb]
        cases G i j with
        | true => exact rb_app acc h i j
        | false => rfl
      rw [run _ hi]
    · right
      rw [h1] at hv
      have hi : RBi (rs N s w q i (.own (.lst acc)) (.val (nm j))) = .ok (.ex ⟨7, .non⟩ (rs N s w q i (.own (.lst acc)) (.val (nm j)))) := by
        show ((valT _) _).onS _ _ = _
        rw [hv]
        rfl
      rw [run _ hi, h2, hb]
      rfl
theorem rb_loop (hg : Gr N s w q G) {i : Nat} (hi : i ∈ N) : ∀ (L : List Nat) (acc : List D) (c5 : Cell), (∀ j ∈ L, j ∈ N) → acc.length + L.length < 1000 →
    ∃ c5', loopS (gN 5) RB (L.map nm) (rs N s w q i (.own (.lst acc)) c5) = .ok (.nx (rs N s w q i (.own (.lst (acc ++ (L.filter fun j => (j != i) && G i j).map nm))) c5'))
  | [], acc, c5, _, _ => ⟨c5, by simp [loopS]⟩
  | j :: L, acc, c5, hL, hl => by
    rw [List.length_cons] at hl
    have hj := hL j List.mem_cons_self
    have step := rb_eq hg hi hj acc (by omega)
    have hlen : (if ((j != i) && G i j) = true then acc ++ [nm j] else acc).length + L.length < 1000 := by
      split
      · rw [List.length_append, List.length_singleton]; omega
      · omega
    obtain ⟨c5', e⟩ := rb_loop hg hi L (if ((j != i) && G i j) = true then acc ++ [nm j] else acc) (.val (nm j)) (fun k hk => hL k (List.mem_cons_of_mem _ hk)) hlen
    refine ⟨c5', ?_⟩
    have e2 : (if ((j != i) && G i j) = true then acc ++ [nm j] else acc) ++ (L.filter fun j => (j != i) && G i j).map nm = acc ++ ((j :: L).filter fun j => (j != i) && G i j).map nm := by
      by_cases hp : ((j != i) && G i j) = true
      · rw [if_pos hp, List.filter_cons, if_pos hp, List.map_cons, List.append_assoc]; rfl
      · rw [if_neg hp, List.filter_cons, if_neg hp]
    rw [e2] at e
    rw [List.map_cons]
    unfold loopS
    show (RB (rs N s w q i (.own (.lst acc)) (.val (nm j))) >>= _) = _
    rcases step with h | h <;> (rw [h]; exact e)
theorem readers_eq (hg : Gr N s w q G) {i : Nat} (hi : i ∈ N) : D_readers [.str (wnm w), .dic (dcD (spv s) N), nm i, .int q] = .ok (.tup ((rdrs G N i).map nm)) := by
  rw [D_readers, runF_eq _ _ _ _ (by rfl), F_readers_split]
  show ((RAs1 (rs N s w q i .un .un)).calm >>= fin) = _
  have e1 : RA1 (rs N s w q i .un .un) = .ok (.nx (rs N s w q i .un .un)) := by
    have hb : notInD (nm i) (.dic (dcD (spv s) N)) = .ok (.bl false) := by
      rw [notin_nm]
      have : N.contains i = true := by simpa using hi
      rw [this]
      rfl
    exact if_no (cmp_eq rfl rfl hb)
  obtain ⟨c5, e3⟩ := rb_loop hg hi N [] .un (fun _ h => h) (by have := hg.len; simp only [List.length_nil]; omega)
  have e4 : RA3 (rs N s w q i (.own (.lst [])) .un) = .ok (.nx (rs N s w q i (.own (.lst ([] ++ (N.filter fun j => (j != i) && G i j).map nm))) c5)) := by
    have hs := sorted_dic (spv s) N (by have := hg.len; omega)
    rw [hg.srt] at hs
    show (((sortedL [.dic (dcD (spv s) N)] >>= fun ds => R.ok (D.lst ds)) >>= lstD)).onS _ _ = _
    rw [hs]
    exact e3
  have : RAs1 (rs N s w q i .un .un) = .ok (.rt (.tup ((rdrs G N i).map nm))) := seq_eq e1 (seq_eq (r2 := rs N s w q i (.own (.lst [])) .un) rfl (seq_eq e4 rfl))
  rw [this]
  rfl
end K14
set_option Elab.async false
set_option linter.all false
set_option maxRecDepth 100000
namespace K14
open DL PySem PySem.Spec PyProof.Rows
def TA1 : LE → R Out := (parK 4 5 (dispK [((var 2), (cst (.bl true)))]) (ownK (lstE (acons (var 2) anil))))
def TA2 : LE → R Out := (whileS 100 (cmpT neD (varP 5) (lE (lstE anil)))
    (seqS (popS 6 5)
    (forS (itT (callE D_readers (acons (var 0) (acons (var 1) (acons (var 6) (acons (var 3) anil)))))) (gN 7)
    (ifS (cmpT notInD (var 7) (varP 4))
    (seqS (stodS 4 (cst (.bl true)) (var 7))
    (appS 5 (var 7)))
    skipS))))
def TA3 : LE → R Out := (retS (callE tupleD (acons (lE (callF sortedL (acons (varP 4) anil))) anil)))
def TAs3 : LE → R Out := TA3
def TAs2 : LE → R Out := seqS TA2 TAs3
def TAs1 : LE → R Out := seqS TA1 TAs2
theorem F_told_by_repeats_split : F_told_by_repeats = TAs1 := rfl
def TC : LE → R Bool := cmpT neD (varP 5) (lE (lstE anil))
def TF : LE → R Out := (forS (itT (callE D_readers (acons (var 0) (acons (var 1) (acons (var 6) (acons (var 3) anil)))))) (gN 7)
    (ifS (cmpT notInD (var 7) (varP 4))
    (seqS (stodS 4 (cst (.bl true)) (var 7))
    (appS 5 (var 7)))
    skipS))
def TD : LE → R Out := (ifS (cmpT notInD (var 7) (varP 4))
    (seqS (stodS 4 (cst (.bl true)) (var 7))
    (appS 5 (var 7)))
    skipS)
variable {N : List Nat} {s : Nat → Int × Int} {w : Nat} {q : Int} {G : Nat → Nat → Bool}
abbrev tv (_ : Nat) : D := .bl true
abbrev ts (N : List Nat) (s : Nat → Int × Int) (w : Nat) (q : Int) (i : Nat) (seen work : List Nat) (c6 c7 : Cell) : LE := [.val (.str (wnm w)), .val (.dic (dcD (spv s) N)), .val (nm i), .val (.int q), .own (.dic (dcD tv seen)), .own (.lst (work.map nm)), c6, c7]
theorem td_eq {i o : Nat} (seen work : List Nat) (c6 : Cell) (h1 : seen.length < 1000000) (h2 : work.length < 1000000) :
    TD (ts N s w q i seen work c6 (.val (nm o))) = .ok (.nx (ts N s w q i (stepD G (seen, work) o).1 (stepD G (seen, work) o).2 c6 (.val (nm o)))) := by
  have hb := notin_nm tv o seen
  unfold stepD
  dsimp only
  cases hc : seen.contains o with
  | true =>
    rw [hc] at hb
    rw [if_pos rfl]
    exact (if_no (cmp_eq rfl rfl hb)).trans rfl
  | false =>
    rw [hc] at hb
    rw [if_neg (by decide)]
    have hn : o ∉ seen := by simpa using hc
    refine (if_yes (cmp_eq rfl rfl hb)).trans ?_
    refine seq_eq (r2 := ts N s w q i (seen ++ [o]) work c6 (.val (nm o))) ?_ ?_
    · unfold stodS
      show (if (nm o).key1 = true ∧ (dcD tv seen).length < 16777216 then R.ok (Out.nx _) else R.stuck) = _
      rw [if_pos ⟨rfl, by rw [List.length_map]; omega⟩]
      show R.ok (Out.nx (List.set _ 4 (.own (.dic (putD (dcD tv seen) (nm o) (tv o)))))) = _
      rw [putD_nm tv o seen hn]
      rfl
    · unfold appS
      show (if (work.map nm).length < 16777216 then R.ok (Out.nx _) else R.stuck) = _
      rw [if_pos (by rw [List.length_map]; omega)]
      show R.ok (Out.nx (List.set _ 5 (.own (.lst (work.map nm ++ [nm o]))))) = _
      rw [show work.map nm ++ [nm o] = (work ++ [o]).map nm by rw [List.map_append]; rfl]
      rfl
theorem stepD_len (sw : List Nat × List Nat) (o : Nat) : (stepD G sw o).1.length ≤ sw.1.length + 1 ∧ (stepD G sw o).2.length ≤ sw.2.length + 1 := by
  unfold stepD
  split
  · exact ⟨by omega, by omega⟩
  · exact ⟨by simp, by simp⟩
theorem td_loop {i : Nat} : ∀ (L : List Nat) (sw : List Nat × List Nat) (c6 c7 : Cell), sw.1.length + L.length < 1000000 → sw.2.length + L.length < 1000000 →
    ∃ c7', loopS (gN 7) TD (L.map nm) (ts N s w q i sw.1 sw.2 c6 c7) = .ok (.nx (ts N s w q i (L.foldl (stepD G) sw).1 (L.foldl (stepD G) sw).2 c6 c7'))
  | [], sw, c6, c7, _, _ => ⟨c7, rfl⟩
  | o :: L, sw, c6, c7, h1, h2 => by
    rw [List.length_cons] at h1 h2
    have e := td_eq (N := N) (s := s) (w := w) (q := q) (G := G) (i := i) (o := o) sw.1 sw.2 c6 (by omega) (by omega)
    have hl := stepD_len (G := G) sw o
    obtain ⟨c7', e2⟩ := td_loop L (stepD G sw o) c6 (.val (nm o)) (by omega) (by omega)
    refine ⟨c7', ?_⟩
    rw [List.map_cons, List.foldl_cons]
    unfold loopS
    show (TD (ts N s w q i sw.1 sw.2 c6 (.val (nm o))) >>= _) = _
    rw [e]
    exact e2
theorem fold_len : ∀ (L : List Nat) (sw : List Nat × List Nat), (L.foldl (stepD G) sw).1.length ≤ sw.1.length + L.length ∧ (L.foldl (stepD G) sw).2.length ≤ sw.2.length + L.length
  | [], sw => ⟨by simp, by simp⟩
  | o :: L, sw => by
    have h1 := stepD_len (G := G) sw o
    have h2 := fold_len L (stepD G sw o)
    rw [List.foldl_cons, List.length_cons]
    omega
theorem fold_in : ∀ (L : List Nat) (sw : List Nat × List Nat), (∀ k ∈ L, k ∈ N) → (∀ k ∈ sw.2, k ∈ N) → ∀ k ∈ (L.foldl (stepD G) sw).2, k ∈ N
  | [], sw, _, h => h
  | o :: L, sw, hL, h => by
    rw [List.foldl_cons]
    refine fold_in L _ (fun k hk => hL k (List.mem_cons_of_mem _ hk)) fun k hk => ?_
    unfold stepD at hk
    split at hk
    · exact h k hk
    · rcases List.mem_append.mp hk with hk | hk
      · exact h k hk
      · rw [List.mem_singleton.mp hk]; exact hL o List.mem_cons_self
theorem rdrs_in {i : Nat} : ∀ k ∈ rdrs G N i, k ∈ N := fun k hk => (List.mem_filter.mp hk).1
theorem rdrs_len {i : Nat} : (rdrs G N i).length ≤ N.length := List.length_filter_le _ _
theorem tc_eq (hg : Gr N s w q G) {i : Nat} (seen work : List Nat) (c6 c7 : Cell) (hw : ∀ k ∈ work, k ∈ N) : TC (ts N s w q i seen work c6 c7) = .ok (!work.isEmpty) :=
  cmp_eq rfl rfl (ne_nil work fun k hk => hg.h5 k (hw k hk))
theorem tw_loop (hg : Gr N s w q G) {i : Nat} : ∀ (n : Nat) (seen work : List Nat) (c6 c7 : Cell) (sN : List Nat), seen.length + 5 * n < 100000 → work.length + 5 * n < 100000 → (∀ k ∈ work, k ∈ N) → dfs G N n seen work = some sN →
    ∃ c6' c7', whileS n TC (seqS (popS 6 5) TF) (ts N s w q i seen work c6 c7) = .ok (.nx (ts N s w q i sN [] c6' c7'))
  | 0, _, _, _, _, _, _, _, _, h => by cases h
  | n + 1, seen, work, c6, c7, sN, h1, h2, hw, h => by
    have tc := tc_eq hg (i := i) seen work c6 c7 hw
    unfold dfs at h
    unfold whileS
    rw [tc]
    cases hl : work.getLast? with
    | none =>
      rw [hl] at h
      cases h
      have : work = [] := List.getLast?_eq_none_iff.mp hl
      subst this
      exact ⟨c6, c7, rfl⟩
    | some u =>
      rw [hl] at h
      dsimp only at h
      have hne : work ≠ [] := fun e => by rw [e] at hl; cases hl
      have hu : u ∈ N := hw u (List.mem_of_getLast? hl)
      have hlen : (work.dropLast).length + 1 = work.length := by
        rw [List.length_dropLast]
        have := List.length_pos_iff.mpr hne
        omega
      have rl := rdrs_len (G := G) (N := N) (i := u)
      have nl := hg.len
      have fl := fold_len (G := G) (rdrs G N u) (seen, work.dropLast)
      obtain ⟨c7', e⟩ := td_loop (N := N) (s := s) (w := w) (q := q) (G := G) (i := i) (rdrs G N u) (seen, work.dropLast) (.val (nm u)) c7 (by dsimp only; omega) (by dsimp only; omega)
      obtain ⟨c6'', c7'', e2⟩ := tw_loop hg (i := i) n _ _ (.val (nm u)) c7' sN (by dsimp only at fl; omega) (by dsimp only at fl; omega) (fold_in _ _ rdrs_in fun k hk => hw k ((List.dropLast_sublist work).subset hk)) h
      refine ⟨c6'', c7'', ?_⟩
      have pop : popS 6 5 (ts N s w q i seen work c6 c7) = .ok (.nx (ts N s w q i seen work.dropLast (.val (nm u)) c7)) := by
        unfold popS
        show (match (work.map nm).getLast? with | some d => _ | none => _) = _
        rw [List.getLast?_map, hl]
        show R.ok (Out.nx (List.set (List.set _ 5 (.own (.lst (work.map nm).dropLast))) 6 _)) = _
        rw [← List.map_dropLast]
        rfl
      have tf : TF (ts N s w q i seen work.dropLast (.val (nm u)) c7) = .ok (.nx (ts N s w q i ((rdrs G N u).foldl (stepD G) (seen, work.dropLast)).1 ((rdrs G N u).foldl (stepD G) (seen, work.dropLast)).2 (.val (nm u)) c7')) := by
        have hr := readers_eq hg hu
        have hit : (itT (callE D_readers (acons (var 0) (acons (var 1) (acons (var 6) (acons (var 3) anil)))))) (ts N s w q i seen work.dropLast (.val (nm u)) c7) = .ok ((rdrs G N u).map nm) := by
          show (D_readers [.str (wnm w), .dic (dcD (spv s) N), nm u, .int q] >>= tupD) = _
          rw [hr]
          rfl
        show R.onS _ _ _ = _
        rw [hit]
        exact e
      have hb : (!work.isEmpty) = true := by
        cases work with
        | nil => exact absurd rfl hne
        | cons a l => rfl
      rw [hb]
      show (seqS (popS 6 5) TF (ts N s w q i seen work c6 c7) >>= _) = _
      rw [seq_eq pop tf]
      exact e2
theorem told_eq (hg : Gr N s w q G) {i : Nat} (hi : i ∈ N) {sN : List Nat} (h : dfs G N 100 [i] [i] = some sN) (hl : sN.length < 64) : D_told_by_repeats [.str (wnm w), .dic (dcD (spv s) N), nm i, .int q] = .ok (.tup ((isort ltN sN).map nm)) := by
  rw [D_told_by_repeats, runF_eq _ _ _ _ (by rfl), F_told_by_repeats_split]
  obtain ⟨c6, c7, e⟩ := tw_loop hg (i := i) 100 [i] [i] .un .un sN (by simp) (by simp) (fun k hk => by rw [List.mem_singleton.mp hk]; exact hi) h
  have e1 : TA1 [.val (.str (wnm w)), .val (.dic (dcD (spv s) N)), .val (nm i), .val (.int q), .un, .un, .un, .un] = .ok (.nx (ts N s w q i [i] [i] .un .un)) := rfl
  have e3 : TA3 (ts N s w q i sN [] c6 c7) = .ok (.rt (.tup ((isort ltN sN).map nm))) := by
    have hs := sorted_dic tv sN hl
    show R.onS (((sortedL [.dic (dcD tv sN)] >>= fun ds => R.ok (D.lst ds)) >>= fun d => R.ok [d]) >>= tupleD) _ _ = _
    rw [hs]
    rfl
  have : TAs1 [.val (.str (wnm w)), .val (.dic (dcD (spv s) N)), .val (nm i), .val (.int q), .un, .un, .un, .un] = .ok (.rt (.tup ((isort ltN sN).map nm))) := seq_eq e1 (seq_eq (F := TA2) e e3)
  show ((TAs1 [.val (.str (wnm w)), .val (.dic (dcD (spv s) N)), .val (nm i), .val (.int q), .un, .un, .un, .un]).calm >>= fin) = _
  rw [this]
  rfl
end K14
set_option Elab.async false
set_option linter.all false
set_option maxRecDepth 100000
namespace K14
open DL PySem PySem.Spec PyProof.Rows
def KA1 : LE → R Out := (setK 4 (valK (lE (lstE (acons (var 2) anil)))))
def KA2 : LE → R Out := (forS (rng1E (acons (callE lenX (acons (var 1) anil)) anil)) (gN 5)
    (setK 4 (valK (opE addD (var 4) (lE (compF (itKV 1) (gN 6) (andT (cmpT notInD (var 6) (var 4)) (cmpT neD (lE (compF (itL (var 4)) (gN 7) (valT (callE D_law_reads (acons (var 0) (acons (subE (var 1) (var 7)) (acons (subE (var 1) (var 6)) (acons (var 3) anil)))))) (var 7) [7])) (lE (lstE anil)))) (var 6) [6]))))))
def KA3 : LE → R Out := (retS (lE (callF sortedL (acons (var 4) anil))))
def KAs3 : LE → R Out := KA3
def KAs2 : LE → R Out := seqS KA2 KAs3
def KAs1 : LE → R Out := seqS KA1 KAs2
theorem F_law_known_split : F_law_known = KAs1 := rfl
def KB : LE → R Out := (setK 4 (valK (opE addD (var 4) (lE (compF (itKV 1) (gN 6) (andT (cmpT notInD (var 6) (var 4)) (cmpT neD (lE (compF (itL (var 4)) (gN 7) (valT (callE D_law_reads (acons (var 0) (acons (subE (var 1) (var 7)) (acons (subE (var 1) (var 6)) (acons (var 3) anil)))))) (var 7) [7])) (lE (lstE anil)))) (var 6) [6])))))
def KI : LE → R (List D) := (compF (itL (var 4)) (gN 7) (valT (callE D_law_reads (acons (var 0) (acons (subE (var 1) (var 7)) (acons (subE (var 1) (var 6)) (acons (var 3) anil)))))) (var 7) [7])
def KO : LE → R (List D) := (compF (itKV 1) (gN 6) (andT (cmpT notInD (var 6) (var 4)) (cmpT neD (lE KI) (lE (lstE anil)))) (var 6) [6])
variable {N : List Nat} {s : Nat → Int × Int} {w : Nat} {q : Int} {G : Nat → Nat → Bool}
abbrev ks (N : List Nat) (s : Nat → Int × Int) (w : Nat) (q : Int) (i : Nat) (known : List Nat) (c5 c6 c7 : Cell) : LE := [.val (.str (wnm w)), .val (.dic (dcD (spv s) N)), .val (nm i), .val (.int q), .val (.lst (known.map nm)), c5, c6, c7]
theorem ki_eq (hg : Gr N s w q G) {i j : Nat} (known : List Nat) (c5 c7 : Cell) (hk : ∀ k ∈ known, k ∈ N) (hj : j ∈ N) (hn : j ∉ known) (hl : known.length ≤ 1000000) :
    KI (ks N s w q i known c5 (.val (nm j)) c7) = .ok ((known.filter fun k => G k j).map nm) := by
  unfold KI
  rw [compF_eq]
  have e0 : itL (var 4) (ks N s w q i known c5 (.val (nm j)) c7) = .ok (known.map nm) := rfl
  rw [e0, R.ok_bind, if_pos (by rw [List.length_map]; omega)]
  refine loopC_nm (fun k => G k j) nm known fun k hkm => ⟨_, rfl, ?_, fun _ => rfl⟩
  have h1 := subI_nm (spv s) k N (hk k hkm)
  have h2 := subI_nm (spv s) j N hj
  have h3 := hg.lw k (hk k hkm) j hj (fun e => hn (e ▸ hkm))
  show ((subI (.dic (dcD (spv s) N)) (nm k) >>= fun x => (subI (.dic (dcD (spv s) N)) (nm j) >>= fun y => R.ok [y, .int q]) >>= fun xs => R.ok (x :: xs)) >>= fun xs => R.ok (D.str (wnm w) :: xs)) >>= D_law_reads >>= asB = _
  rw [h1, h2]
  simp only [R.ok_bind]
  rw [h3]
  rfl
theorem ko_eq (hg : Gr N s w q G) {i : Nat} (known : List Nat) (c5 c6 c7 : Cell) (hk : ∀ k ∈ known, k ∈ N) (hl : known.length ≤ 1000000) :
    KO (ks N s w q i known c5 c6 c7) = .ok ((N.filter fun j => !known.contains j && !(known.filter fun k => G k j).isEmpty).map nm) := by
  unfold KO
  rw [compF_eq]
  have e0 : itKV 1 (ks N s w q i known c5 c6 c7) = .ok (N.map nm) := by
    show R.ok ((dcD (spv s) N).map (·.1)) = _
    rw [List.map_map]
    rfl
  rw [e0, R.ok_bind, if_pos (by rw [List.length_map]; have := hg.len; omega)]
  refine loopC_nm (fun j => !known.contains j && !(known.filter fun k => G k j).isEmpty) nm N fun j hj => ⟨_, rfl, ?_, fun _ => rfl⟩
  have hin := in_nm j known (hg.h5 j hj) fun k hkm => hg.h5 k (hk k hkm)
  have c1 : (cmpT notInD (var 6) (var 4)) (ks N s w q i known c5 (.val (nm j)) c7) = .ok (!known.contains j) := cmp_eq rfl rfl hin
  show (andT (cmpT notInD (var 6) (var 4)) (cmpT neD (lE KI) (lE (lstE anil)))) (ks N s w q i known c5 (.val (nm j)) c7) = _
  rw [andT_eq, c1, R.ok_bind]
  cases hc : known.contains j with
  | true => rfl
  | false =>
    have hn : j ∉ known := by simpa using hc
    have k1 := ki_eq hg (i := i) known c5 c7 hk hj hn hl
    rw [show (!false) = true from rfl, if_pos rfl, Bool.true_and]
    have l1 : lE KI (ks N s w q i known c5 (.val (nm j)) c7) = .ok (.lst ((known.filter fun k => G k j).map nm)) := by
      rw [lE_eq, k1]; rfl
    exact cmp_eq l1 rfl (ne_nil _ fun k hkm => hg.h5 k (hk k (List.mem_filter.mp hkm).1))
theorem kst_in (known : List Nat) (hk : ∀ k ∈ known, k ∈ N) : ∀ k ∈ kst G N known, k ∈ N := fun k h => by
  unfold kst at h
  rcases List.mem_append.mp h with h | h
  · exact hk k h
  · exact (List.mem_filter.mp h).1
theorem kst_len (known : List Nat) : (kst G N known).length ≤ known.length + N.length := by
  unfold kst
  rw [List.length_append]
  have := List.length_filter_le (fun j => !known.contains j && !(known.filter fun k => G k j).isEmpty) N
  omega
theorem kb_eq (hg : Gr N s w q G) {i : Nat} (known : List Nat) (c5 c6 c7 : Cell) (hk : ∀ k ∈ known, k ∈ N) (hl : known.length ≤ 1000000) :
    KB (ks N s w q i known c5 c6 c7) = .ok (.nx (ks N s w q i (kst G N known) c5 c6 c7)) := by
  have k1 := ko_eq hg (i := i) known c5 c6 c7 hk hl
  have l1 : lE KO (ks N s w q i known c5 c6 c7) = .ok (.lst ((N.filter fun j => !known.contains j && !(known.filter fun k => G k j).isEmpty).map nm)) := by
    rw [lE_eq, k1]; rfl
  have fl := List.length_filter_le (fun j => !known.contains j && !(known.filter fun k => G k j).isEmpty) N
  have nl := hg.len
  have a1 : (opE addD (var 4) (lE KO)) (ks N s w q i known c5 c6 c7) = .ok (.lst ((kst G N known).map nm)) := by
    rw [opE_eq, show var 4 (ks N s w q i known c5 c6 c7) = .ok (.lst (known.map nm)) from rfl, R.ok_bind, l1, R.ok_bind]
    show (if (known.map nm).length + ((N.filter fun j => !known.contains j && !(known.filter fun k => G k j).isEmpty).map nm).length ≤ 16777216 then R.ok (D.lst _) else R.stuck) = _
    rw [if_pos (by rw [List.length_map, List.length_map]; omega), ← List.map_append]
    rfl
  show setK 4 (valK (opE addD (var 4) (lE KO))) _ = _
  rw [setK_eq, valK_eq, a1]
  rfl
theorem kb_loop (hg : Gr N s w q G) {i : Nat} : ∀ (ds : List D) (known : List Nat) (c5 c6 c7 : Cell), (∀ k ∈ known, k ∈ N) → known.length + 5 * ds.length ≤ 1000000 →
    ∃ c5', loopS (gN 5) KB ds (ks N s w q i known c5 c6 c7) = .ok (.nx (ks N s w q i (kns G N ds.length known) c5' c6 c7))
  | [], known, c5, c6, c7, _, _ => ⟨c5, rfl⟩
  | d :: ds, known, c5, c6, c7, hk, hl => by
    rw [List.length_cons] at hl
    have e := kb_eq hg (i := i) known (.val d) c6 c7 hk (by omega)
    have nl := hg.len
    have kl := kst_len (G := G) (N := N) known
    obtain ⟨c5', e2⟩ := kb_loop hg ds (kst G N known) (.val d) c6 c7 (kst_in known hk) (by omega)
    refine ⟨c5', ?_⟩
    unfold loopS
    show (KB (ks N s w q i known (.val d) c6 c7) >>= _) = _
    rw [e]
    exact e2
theorem rng1_nat (n : Nat) (h : n < 1000) : rng1 [.int (n : Nat)] = .ok (rangeL 0 n) := by
  show (if ((n : Nat) : Int) < 1073741824 ∧ -1073741824 < ((n : Nat) : Int) then R.ok (rangeL 0 ((n : Nat) : Int).toNat) else R.stuck) = _
  rw [if_pos ⟨by omega, by omega⟩]
  rfl
theorem known_eq (hg : Gr N s w q G) {i : Nat} (hi : i ∈ N) (hl : (kns G N N.length [i]).length < 64) : D_law_known [.str (wnm w), .dic (dcD (spv s) N), nm i, .int q] = .ok (.lst ((isort ltN (kns G N N.length [i])).map nm)) := by
  rw [D_law_known, runF_eq _ _ _ _ (by rfl), F_law_known_split]
  have nl := hg.len
  have rl : (rangeL 0 N.length).length = N.length := by simp [rangeL]
  obtain ⟨c5, e⟩ := kb_loop hg (i := i) (rangeL 0 N.length) [i] .un .un .un (fun k hk => by rw [List.mem_singleton.mp hk]; exact hi) (by rw [rl]; simp only [List.length_singleton]; omega)
  rw [rl] at e
  have e1 : KA1 [.val (.str (wnm w)), .val (.dic (dcD (spv s) N)), .val (nm i), .val (.int q), .un, .un, .un, .un] = .ok (.nx (ks N s w q i [i] .un .un .un)) := rfl
  have e2 : KA2 (ks N s w q i [i] .un .un .un) = .ok (.nx (ks N s w q i (kns G N N.length [i]) c5 .un .un)) := by
    have hr : (rng1E (acons (callE lenX (acons (var 1) anil)) anil)) (ks N s w q i [i] .un .un .un) = .ok (rangeL 0 N.length) := by
      have hln : callE lenX (acons (var 1) anil) (ks N s w q i [i] .un .un .un) = .ok (.int (N.length : Nat)) := by
        show R.ok (D.int ((dcD (spv s) N).length : Nat)) = _
        rw [List.length_map]
      rw [rng1E_eq, acons_eq, hln, R.ok_bind, anil_eq, R.ok_bind, R.ok_bind]
      exact rng1_nat N.length (by omega)
    show R.onS _ _ _ = _
    rw [hr]
    exact e
  have e3 : KA3 (ks N s w q i (kns G N N.length [i]) c5 .un .un) = .ok (.rt (.lst ((isort ltN (kns G N N.length [i])).map nm))) := by
    have hs := sorted_lst (kns G N N.length [i]) hl
    show R.onS (sortedL [.lst ((kns G N N.length [i]).map nm)] >>= fun ds => R.ok (D.lst ds)) _ _ = _
    rw [hs]
    rfl
  have : KAs1 [.val (.str (wnm w)), .val (.dic (dcD (spv s) N)), .val (nm i), .val (.int q), .un, .un, .un, .un] = .ok (.rt (.lst ((isort ltN (kns G N N.length [i])).map nm))) := seq_eq e1 (seq_eq e2 e3)
  show ((KAs1 [.val (.str (wnm w)), .val (.dic (dcD (spv s) N)), .val (nm i), .val (.int q), .un, .un, .un, .un]).calm >>= fin) = _
  rw [this]
  rfl
end K14
set_option Elab.async false
set_option linter.all false
set_option maxRecDepth 100000
namespace K14
open DL PySem PySem.Spec PyProof.Rows
def LW1 : LE → R Out := (par3oS 2 3 4 nodic (subE (cst d_EIGHTS) (callE rollD (acons (var 1) (acons (cst (.int 8)) anil)))) (opE addD (cst (.int 1)) (callE rollD (acons (var 1) (acons (cst (.int 6)) anil)))))
def LW2 : LE → R Out := (forS (rng1E (acons (opE addD (cst (.int 1)) (callE rollD (acons (var 1) (acons (cst (.int 5)) anil)))) anil)) (gN 5)
    (seqS (setK 6 (valK (tupE (acons (callE rollD (acons (var 1) (acons (cst (.int 5)) anil))) (acons (callE rollD (acons (var 1) (acons (cst (.int 5)) anil))) anil)))))
    (ifS (cmpT (inVals true) (var 6) (varP 2))
    (stodS 2 (var 6) (subE (cst (.str [97, 98, 99, 100, 101])) (var 5)))
    skipS)))
def LW3 : LE → R Out := (asgS (tupE (acons (tupE (acons (callE rollD (acons (var 1) (acons (cst (.int 6)) anil))) (acons (callE rollD (acons (var 1) (acons (cst (.int 6)) anil))) anil))) (acons (tupE (acons (callE rollD (acons (var 1) (acons (cst (.int 6)) anil))) (acons (callE rollD (acons (var 1) (acons (cst (.int 6)) anil))) anil))) anil))) (gTup_ 2 (gCons_ (gN 7) (gCons_ (gN 8) gNil_))))
def LW4 : LE → R Out := (setK 9 (valK (callE D_law_way (acons (var 7) (acons (var 8) anil)))))
def LW5 : LE → R Out := (ifS (cmpT neD (toldE toldL (callE D_way_between (acons (var 7) (acons (var 8) anil)))) (var 9))
    (retS (cst (.bl false)))
    skipS)
def LW6 : LE → R Out := (ifS (cmpT inD (var 9) (cst d_EIGHTS))
    (seqS (setK 10 (valK (opE modD (opE subD (kbmE d_EIGHTS idxTp (acons (var 9) anil)) (kbmE d_EIGHTS idxTp (acons (var 3) anil))) (cst (.int 4)))))
    (seqS (ifS (cmpT neD (callE D_shows_side (acons (var 3) (acons (var 7) (acons (var 8) anil)))) (subE (lE (lstE (acons (cst (.str [101, 110, 100, 32, 111, 110])) (acons (cst (.str [115, 108, 97, 110, 116, 105, 110, 103])) (acons (cst (.str [98, 114, 111, 97, 100, 115, 105, 100, 101])) (acons (cst (.str [115, 108, 97, 110, 116, 105, 110, 103])) anil)))))) (var 10)))
    (retS (cst (.bl false)))
    skipS)
    (seqS (ifS (cmpT neD (callE D_reads_in_wind (acons (var 3) (acons (var 7) (acons (var 8) (acons (var 4) anil))))) (callE D_law_reads (acons (var 3) (acons (var 7) (acons (var 8) (acons (var 4) anil))))))
    (retS (cst (.bl false)))
    skipS)
    (ifS (cmpT neD (callE D_way_between (acons (var 8) (acons (var 7) anil))) (subE (cst d_EIGHTS) (opE modD (opE addD (kbmE d_EIGHTS idxTp (acons (var 9) anil)) (cst (.int 4))) (cst (.int 8)))))
    (retS (cst (.bl false)))
    skipS))))
    skipS)
def LW7 : LE → R Out := (ifS (orT (cmpT neD (callE D_streams_to (acons (callE D_streams_to (acons (var 3) anil)) anil)) (var 3)) (cmpT neD (callE D_eighth_of (acons (callE D_streams_to (acons (var 3) anil)) anil)) (opE modD (opE addD (callE D_eighth_of (acons (var 3) anil)) (cst (.int 4))) (cst (.int 8)))))
    (retS (cst (.bl false)))
    skipS)
def LW8 : LE → R Out := (setK 11 (valK (subE (lE (callF sortedL (acons (varP 2) anil))) (cst (.int 0)))))
def LW9 : LE → R Out := (frzS 2 (ifS (cmpT neD (lE (callF listD (acons (callE D_readers (acons (var 3) (acons (var 2) (acons (var 11) (acons (var 4) anil))))) anil))) (lE (compF (itL (lE (callF sortedL (acons (varP 2) anil)))) (gN 12) (andT (cmpT neD (var 12) (var 11)) (valT (callE D_law_reads (acons (var 3) (acons (subE (varP 2) (var 11)) (acons (subE (varP 2) (var 12)) (acons (var 4) anil))))))) (var 12) [12])))
    (retS (cst (.bl false)))
    skipS))
def LW10 : LE → R Out := (frzS 2 (ifS (cmpT neD (lE (callF listD (acons (callE D_told_by_repeats (acons (var 3) (acons (var 2) (acons (var 11) (acons (var 4) anil))))) anil))) (callE D_law_known (acons (var 3) (acons (var 2) (acons (var 11) (acons (var 4) anil))))))
    (retS (cst (.bl false)))
    skipS))
def LW11 : LE → R Out := (frzS 2 (setK 13 (ownK (compF (itT (cst d_EIGHTS)) (gN 14) yesT (callE lenX (acons (callE D_law_known (acons (var 14) (acons (var 2) (acons (var 11) (acons (var 4) anil))))) anil)) [14]))))
def LW12 : LE → R Out := (frzS 2 (ifS (cmpT neD (callE D_best_wind (acons (var 2) (acons (var 11) (acons (var 4) anil)))) (subE (cst d_EIGHTS) (bmE "list" idxLs (varP 13) (acons (callE maxL (acons (varP 13) anil)) anil))))
    (retS (cst (.bl false)))
    skipS))
def LW13 : LE → R Out := (frzS 2 (ifS (notT (valT (callE D_law_rest1 (acons (var 1) (acons (var 2) (acons (var 3) anil))))))
    (retS (cst (.bl false)))
    skipS))
def LWs13 : LE → R Out := LW13
def LWs12 : LE → R Out := seqS LW12 LWs13
def LWs11 : LE → R Out := seqS LW11 LWs12
def LWs10 : LE → R Out := seqS LW10 LWs11
def LWs9 : LE → R Out := seqS LW9 LWs10
def LWs8 : LE → R Out := seqS LW8 LWs9
def LWs7 : LE → R Out := seqS LW7 LWs8
def LWs6 : LE → R Out := seqS LW6 LWs7
def LWs5 : LE → R Out := seqS LW5 LWs6
def LWs4 : LE → R Out := seqS LW4 LWs5
def LWs3 : LE → R Out := seqS LW3 LWs4
def LWs2 : LE → R Out := seqS LW2 LWs3
theorem subs_srt : ∀ N ∈ subs, isort ltN N = N := by decide +kernel
theorem ord_nat : Ord ltN := ⟨fun a b c h k => by simp [ltN] at *; omega, fun a b h k => by simp [ltN] at *; omega, fun a b h => by simp [ltN] at *; omega⟩
/-- ships laid so far: names below j -/
structure Good (j : Nat) (N : List Nat) (s : Nat → Int × Int) : Prop where
  lt : ∀ k ∈ N, k < j
  up : N.Pairwise (· < ·)
  box : ∀ k ∈ N, 0 ≤ (s k).1 ∧ (s k).1 ≤ 4 ∧ 0 ≤ (s k).2 ∧ (s k).2 ≤ 4
  ne : ∀ i ∈ N, ∀ k ∈ N, i ≠ k → s i ≠ s k
  hd : 0 < j → 0 ∈ N
theorem good_fil {j : Nat} {N : List Nat} {s : Nat → Int × Int} (h : Good j N s) (h5 : j ≤ 5) : N = (List.range 5).filter fun k => N.contains k := by
    refine up_uniq ord_nat _ _ (h.up.imp fun {a b} q => by simp [ltN]; omega) ?_ ?_
    · refine (List.Pairwise.filter _ ?_)
      decide
    · refine (List.perm_ext_iff_of_nodup (h.up.imp fun {a b} q => Nat.ne_of_lt q) ((List.nodup_range).filter _)).mpr fun k => ?_
      rw [List.mem_filter, List.mem_range, List.contains_iff_mem]
      exact ⟨fun q => ⟨by have := h.lt k q; omega, q⟩, fun q => q.2⟩
theorem good_len {j : Nat} {N : List Nat} {s : Nat → Int × Int} (h : Good j N s) (h5 : j ≤ 5) : N.length ≤ 5 := by
  rw [good_fil h h5]
  exact Nat.le_trans (List.length_filter_le _ _) (by simp)
theorem good_subs {j : Nat} {N : List Nat} {s : Nat → Int × Int} (h : Good j N s) (h0 : 0 < j) (h5 : j ≤ 5) : N ∈ subs := by
  have e := good_fil h h5
  have z : N.contains 0 = true := by simpa using h.hd h0
  rw [e]
  generalize N.contains = f at *
  have : ∀ a b c d : Bool, (([0, 1, 2, 3, 4] : List Nat).filter fun k => match k with
    | 0 => true | 1 => a | 2 => b | 3 => c | _ => d) ∈ subs := by decide +kernel
  have q := this (f 1) (f 2) (f 3) (f 4)
  have e2 : ((List.range 5).filter fun k => f k) = ([0, 1, 2, 3, 4] : List Nat).filter fun k => match k with
    | 0 => true | 1 => f 1 | 2 => f 2 | 3 => f 3 | _ => f 4 := by
    show ([0, 1, 2, 3, 4] : List Nat).filter (fun k => f k) = _
    refine List.filter_congr fun k hk => ?_
    simp only [List.mem_cons, List.not_mem_nil, or_false] at hk
    rcases hk with rfl | rfl | rfl | rfl | rfl
    · exact z
    · rfl
    · rfl
    · rfl
    · rfl
  rw [e2]
  exact q
theorem any_sp (s : Nat → Int × Int) (a b : Int) : ∀ N : List Nat, ((dcD (spv s) N).map (·.2)).any (fun z => z.eqb (sp a b)) = N.any fun k => decide (s k = (a, b))
  | [] => rfl
  | k :: N => by
    show (((sp (s k).1 (s k).2) :: ((dcD (spv s) N).map (·.2))).any fun z => z.eqb (sp a b)) = _
    rw [List.any_cons, List.any_cons, any_sp s a b N]
    congr 1
    show (((s k).1 == a) && (((s k).2 == b) && true)) = _
    rw [Bool.eq_iff_iff]
    simp [Prod.ext_iff]
theorem shs_sp (s : Nat → Int × Int) : ∀ N : List Nat, D.shs ((dcD (spv s) N).map (·.2)) 50 = true
  | [] => rfl
  | k :: N => by
    show D.shs (sp (s k).1 (s k).2 :: ((dcD (spv s) N).map (·.2))) 50 = true
    unfold D.shs
    rw [shs_sp s N]
    rfl
theorem invals_eq (s : Nat → Int × Int) (a b : Int) (N : List Nat) : inVals true (sp a b) (.dic (dcD (spv s) N)) = .ok (.bl (!(N.any fun k => decide (s k = (a, b))))) := by
  unfold inVals
  dsimp only
  rw [if_pos (by rw [shs_sp]; rfl), any_sp]
  simp
theorem sub_abc (j : Nat) (h : j < 5) : subI (.str [97, 98, 99, 100, 101]) (.int (j : Nat)) = .ok (nm j) := by
  match j, h with
  | 0, _ => rfl
  | 1, _ => rfl
  | 2, _ => rfl
  | 3, _ => rfl
  | 4, _ => rfl
abbrev ls (N : List Nat) (s : Nat → Int × Int) (w : Nat) (q : Int) (c5 c6 c7 c8 c9 c10 c11 c12 c13 c14 : Cell) : LE := [.un, .val .dice, .own (.dic (dcD (spv s) N)), .val (.str (wnm w)), .val (.int q), c5, c6, c7, c8, c9, c10, c11, c12, c13, c14]
def LB : LE → R Out := (seqS (setK 6 (valK (tupE (acons (callE rollD (acons (var 1) (acons (cst (.int 5)) anil))) (acons (callE rollD (acons (var 1) (acons (cst (.int 5)) anil))) anil)))))
    (ifS (cmpT (inVals true) (var 6) (varP 2))
    (stodS 2 (var 6) (subE (cst (.str [97, 98, 99, 100, 101])) (var 5)))
    skipS))
def LBi : LE → R Out := (ifS (cmpT (inVals true) (var 6) (varP 2))
    (stodS 2 (var 6) (subE (cst (.str [97, 98, 99, 100, 101])) (var 5)))
    skipS)
theorem sp_congr {s s' : Nat → Int × Int} {N : List Nat} (h : ∀ k ∈ N, s k = s' k) : dcD (spv s) N = dcD (spv s') N := by
  refine List.map_congr_left fun k hk => ?_
  dsimp only [spv]
  rw [h k hk]
def setS (s : Nat → Int × Int) (j : Nat) (ab : Int × Int) : Nat → Int × Int := fun k => if k = j then ab else s k
theorem setS_at (s : Nat → Int × Int) (j : Nat) (ab : Int × Int) : setS s j ab j = ab := if_pos rfl
theorem setS_ne (s : Nat → Int × Int) {j k : Nat} (ab : Int × Int) (h : k ≠ j) : setS s j ab k = s k := if_neg h
theorem lbi_eq {j : Nat} (hj : j < 5) {N : List Nat} {s : Nat → Int × Int} (hg : Good j N s) (w : Nat) (q : Int) (a b : Int) (ha : 0 ≤ a ∧ a ≤ 4) (hb : 0 ≤ b ∧ b ≤ 4) (c7 c8 c9 c10 c11 c12 c13 c14 : Cell) :
    ∃ N' s', Good (j + 1) N' s' ∧ LBi (ls N s w q (.val (.int (j : Nat))) (.val (sp a b)) c7 c8 c9 c10 c11 c12 c13 c14) = .ok (.nx (ls N' s' w q (.val (.int (j : Nat))) (.val (sp a b)) c7 c8 c9 c10 c11 c12 c13 c14)) := by
  have hv := invals_eq s a b N
  cases hc : N.any fun k => decide (s k = (a, b)) with
  | true =>
    rw [hc] at hv
    refine ⟨N, s, ⟨fun k hk => Nat.lt_succ_of_lt (hg.lt k hk), hg.up, hg.box, hg.ne, fun _ => ?_⟩, (if_no (cmp_eq rfl rfl hv)).trans rfl⟩
    obtain ⟨k, hk, _⟩ := List.any_eq_true.mp hc
    have := hg.lt k hk
    exact hg.hd (by omega)
  | false =>
    rw [hc] at hv
    have hn : ∀ k ∈ N, s k ≠ (a, b) := fun k hk e => by
      have := List.any_eq_false.mp hc k hk
      exact this (by simpa using e)
    have hjn : j ∉ N := fun h => Nat.lt_irrefl _ (hg.lt j h)
    have agree : ∀ k ∈ N, s k = setS s j (a, b) k := fun k hk => (setS_ne (j := j) (k := k) s (a, b) fun e => hjn (e ▸ hk)).symm
    refine ⟨N ++ [j], setS s j (a, b), ⟨fun k hk => ?_, ?_, fun k hk => ?_, fun i hi k hk n => ?_, fun _ => ?_⟩, (if_yes (cmp_eq rfl rfl hv)).trans ?_⟩
    · rcases List.mem_append.mp hk with hk | hk
      · exact Nat.lt_succ_of_lt (hg.lt k hk)
      · rw [List.mem_singleton.mp hk]; exact Nat.lt_succ_self j
    · rw [List.pairwise_append]
      exact ⟨hg.up, List.pairwise_singleton .., fun x hx y hy => by rw [List.mem_singleton.mp hy]; exact hg.lt x hx⟩
    · rcases List.mem_append.mp hk with hk | hk
      · rw [← agree k hk]; exact hg.box k hk
      · rw [List.mem_singleton.mp hk]
        rw [setS_at]
        exact ⟨ha.1, ha.2, hb.1, hb.2⟩
    · rcases List.mem_append.mp hi with hi | hi <;> rcases List.mem_append.mp hk with hk | hk
      · rw [← agree i hi, ← agree k hk]; exact hg.ne i hi k hk n
      · rw [← agree i hi, List.mem_singleton.mp hk]
        rw [setS_at]
        exact hn i hi
      · rw [← agree k hk, List.mem_singleton.mp hi]
        rw [setS_at]
        exact fun e => hn k hk e.symm
      · exact absurd ((List.mem_singleton.mp hi).trans (List.mem_singleton.mp hk).symm) n
    · by_cases h0 : 0 < j
      · exact List.mem_append_left _ (hg.hd h0)
      · have : j = 0 := by omega
        subst this
        exact List.mem_append_right _ (List.mem_singleton.mpr rfl)
    · have hs := sub_abc j hj
      have hN : N.length < 16777216 := by
        have := good_len hg (by omega)
        omega
      unfold stodS
      show R.onS (R.ok (sp a b)) _ (fun d => R.onS (subI (.str [97, 98, 99, 100, 101]) (.int (j : Nat))) _ _) = _
      rw [hs]
      show (if (nm j).key1 = true ∧ (dcD (spv s) N).length < 16777216 then R.ok (Out.nx (List.set _ 2 (.own (.dic (putD (dcD (spv s) N) (nm j) (sp a b)))))) else R.stuck) = _
      rw [if_pos ⟨rfl, by rw [List.length_map]; exact hN⟩]
      have hput := putD_nm (spv (setS s j (a, b))) j N hjn
      have e3 : spv (setS s j (a, b)) j = sp a b := by
        dsimp only [spv]
        rw [setS_at]
      rw [e3, ← sp_congr agree] at hput
      rw [hput]
      rfl
end K14
set_option Elab.async false
set_option linter.all false
set_option maxRecDepth 100000
namespace K14
open DL PySem PySem.Spec PyProof.Rows
abbrev q0 : LE := [.un, .val .dice, .un, .un, .un, .un, .un, .un, .un, .un, .un, .un, .un, .un, .un]
theorem R5 : rollD [.dice, .int 5] = .roll 5 fun i => .ok (.int (i : Nat)) := roll_eq 5 (by decide) (by decide)
theorem R6 : rollD [.dice, .int 6] = .roll 6 fun i => .ok (.int (i : Nat)) := roll_eq 6 (by decide) (by decide)
theorem R8 : rollD [.dice, .int 8] = .roll 8 fun i => .ok (.int (i : Nat)) := roll_eq 8 (by decide) (by decide)
theorem R9 : rollD [.dice, .int 9] = .roll 9 fun i => .ok (.int (i : Nat)) := roll_eq 9 (by decide) (by decide)
def s0 : Nat → Int × Int := fun _ => (0, 0)
theorem par3o_eq (i j l : Nat) (f : LE → R Cell) (g h : LE → R D) (r : LE) : par3oS i j l f g h r = (f r >>= okK).onS r fun a => (g r).onS r fun b => (h r).onS r fun c => .ok (.nx (((r.set i a).set j (.val b)).set l (.val c))) := rfl
theorem lw1 {Q : Out → Prop} (h : ∀ w, w < 8 → ∀ q : Int, 1 ≤ q ∧ q ≤ 6 → Q (.nx (ls [] s0 w q .un .un .un .un .un .un .un .un .un .un))) : Sure (LW1 q0) Q := by
  refine ⟨?_⟩
  have g1 : (subE (cst d_EIGHTS) (callE rollD (acons (var 1) (acons (cst (.int 8)) anil)))) q0 = .roll 8 fun i => subI d_EIGHTS (.int (i : Nat)) := by
    show (rollD [.dice, .int 8] >>= fun y => subI d_EIGHTS y) = _
    rw [R8]
    rfl
  have g2 : (opE addD (cst (.int 1)) (callE rollD (acons (var 1) (acons (cst (.int 6)) anil)))) q0 = .roll 6 fun i => .ok (.int (1 + (i : Nat))) := by
    show (rollD [.dice, .int 6] >>= fun y => addD (.int 1) y) = _
    rw [R6]
    rfl
  unfold LW1
  rw [par3o_eq, show (nodic q0 >>= okK) = R.ok (Cell.own (.dic [])) from rfl, onS_ok, g1]
  intro w hw
  show Wp (R.onS (subI d_EIGHTS (.int (w : Nat))) q0 _) _ _
  rw [sub_EI w hw, onS_ok, g2]
  intro q hq
  show Wp (R.ok _) _ _
  exact h w hw _ ⟨by omega, by omega⟩
theorem lb_wp {Q : Out → Prop} {j : Nat} (hj : j < 5) {N : List Nat} {s : Nat → Int × Int} (hg : Good j N s) (w : Nat) (q : Int) (c6 c7 c8 c9 c10 c11 c12 c13 c14 : Cell) (h : ∀ N' s' c5' c6', Good (j + 1) N' s' → Q (.nx (ls N' s' w q c5' c6' c7 c8 c9 c10 c11 c12 c13 c14))) :
    Wp (LB (ls N s w q (.val (.int (j : Nat))) c6 c7 c8 c9 c10 c11 c12 c13 c14)) Q (fun _ => False) := by
  have g1 : (tupE (acons (callE rollD (acons (var 1) (acons (cst (.int 5)) anil))) (acons (callE rollD (acons (var 1) (acons (cst (.int 5)) anil))) anil))) (ls N s w q (.val (.int (j : Nat))) c6 c7 c8 c9 c10 c11 c12 c13 c14) = .roll 5 fun a => .roll 5 fun b => .ok (sp (a : Nat) (b : Nat)) := by
    show (((rollD [.dice, .int 5]) >>= fun x => ((rollD [.dice, .int 5]) >>= fun y => R.ok [y]) >>= fun xs => R.ok (x :: xs)) >>= fun ds => if ds.length ≤ 16777216 then R.ok (D.tup ds) else R.stuck) = _
    rw [R5]
    rfl
  show Wp (seqS _ LBi _) _ _
  refine Wp_seq (Wp_setK ?_)
  rw [g1]
  intro a ha b hb
  obtain ⟨N', s', hg', e⟩ := lbi_eq hj hg w q (a : Nat) (b : Nat) ⟨by omega, by omega⟩ ⟨by omega, by omega⟩ c7 c8 c9 c10 c11 c12 c13 c14
  show Wp (LBi (ls N s w q (.val (.int (j : Nat))) (.val (sp (a : Nat) (b : Nat))) c7 c8 c9 c10 c11 c12 c13 c14)) _ _
  rw [e]
  exact h N' s' _ _ hg'
theorem lw2 {Q : Out → Prop} (w : Nat) (q : Int) (h : ∀ N s c5 c6, N ∈ subs → (∀ k ∈ N, 0 ≤ (s k).1 ∧ (s k).1 ≤ 4 ∧ 0 ≤ (s k).2 ∧ (s k).2 ≤ 4) → (∀ i ∈ N, ∀ k ∈ N, i ≠ k → s i ≠ s k) → Q (.nx (ls N s w q c5 c6 .un .un .un .un .un .un .un .un))) :
    Sure (LW2 (ls [] s0 w q .un .un .un .un .un .un .un .un .un .un)) Q := by
  have g1 : (rng1E (acons (opE addD (cst (.int 1)) (callE rollD (acons (var 1) (acons (cst (.int 5)) anil)))) anil)) (ls [] s0 w q .un .un .un .un .un .un .un .un .un .un) = .roll 5 fun m => rng1 [.int (1 + (m : Nat))] := by
    have o : (opE addD (cst (.int 1)) (callE rollD (acons (var 1) (acons (cst (.int 5)) anil)))) (ls [] s0 w q .un .un .un .un .un .un .un .un .un .un) = .roll 5 fun i => .ok (.int (1 + (i : Nat))) := by
      show (rollD [.dice, .int 5] >>= fun y => addD (.int 1) y) = _
      rw [R5]
      rfl
    rw [rng1E_eq, acons_eq, o]
    simp only [R.roll_bind, R.ok_bind, anil_eq]
  have g2 : ∀ m, m < 5 → rng1 [.int (1 + (m : Nat))] = .ok (rangeL 0 (1 + m)) := fun m hm => by
    have e : (1 + ((m : Nat) : Int)) = ((1 + m : Nat) : Int) := by omega
    rw [e]
    exact rng1_nat (1 + m) (by omega)
  have fin : ∀ m, m < 5 → Sure (loopS (gN 5) LB (rangeL 0 (1 + m)) (ls [] s0 w q .un .un .un .un .un .un .un .un .un .un)) Q := by
    intro m hm
    refine ⟨?_⟩
    have rl : (rangeL 0 (1 + m)).length = 1 + m := by simp [rangeL]
    refine loopS_wp (fun j r => ∃ N s c5 c6, Good j N s ∧ r = ls N s w q c5 c6 .un .un .un .un .un .un .un .un) (rangeL 0 (1 + m)) 0 _ ⟨[], s0, .un, .un, ⟨fun _ h => (by cases h), List.Pairwise.nil, fun _ h => (by cases h), fun _ h => (by cases h), fun h => absurd h (Nat.lt_irrefl 0)⟩, rfl⟩ ?_ ?_
    · rintro j d r hd ⟨N, s, c5, c6, hg, rfl⟩
      rw [Nat.zero_add] at hg
      rw [Nat.zero_add]
      have hj : j < 1 + m := by
        have := (List.getElem?_eq_some_iff.mp hd).1
        omega
      have e := rangeL_get hd
      have e2 : (0 : Int) + (j : Int) = (j : Int) := by omega
      rw [e2] at e
      subst e
      refine ⟨_, rfl, ?_⟩
      exact lb_wp (j := j) (by omega) hg w q c6 .un .un .un .un .un .un .un .un fun N' s' c5' c6' hg' => ⟨_, rfl, N', s', c5', c6', hg', rfl⟩
    · rintro r ⟨N, s, c5, c6, hg, rfl⟩
      rw [rl, Nat.zero_add] at hg
      exact h N s c5 c6 (good_subs hg (by omega) (by omega)) hg.box hg.ne
  obtain ⟨ff, hff⟩ : ∃ ff : Nat → R (List D), ff = fun m => rng1 [.int (1 + (m : Nat))] := ⟨_, rfl⟩
  have g3 : ∀ m, m < 5 → ff m = .ok (rangeL 0 (1 + m)) := fun m hm => by rw [hff]; exact g2 m hm
  rw [← hff] at g1
  clear hff g2
  have z := for_roll (n := 5) (ff := ff) (rg := fun m => rangeL 0 (1 + m)) (r := ls [] s0 w q .un .un .un .un .un .un .un .un .un .un) (Q := Q) (fi := (rng1E (acons (opE addD (cst (.int 1)) (callE rollD (acons (var 1) (acons (cst (.int 5)) anil)))) anil))) (gd := gN 5) (body := LB) g1 g3 fin
  rw [show LW2 = forS (rng1E (acons (opE addD (cst (.int 1)) (callE rollD (acons (var 1) (acons (cst (.int 5)) anil)))) anil)) (gN 5) LB from rfl]
  exact z
theorem lw3 {Q : Out → Prop} (N : List Nat) (s : Nat → Int × Int) (w : Nat) (q : Int) (c5 c6 c9 c10 c11 c12 c13 c14 : Cell) (h : ∀ a b c d : Int, (0 ≤ a ∧ a ≤ 5) → (0 ≤ b ∧ b ≤ 5) → (0 ≤ c ∧ c ≤ 5) → (0 ≤ d ∧ d ≤ 5) → Q (.nx (ls N s w q c5 c6 (.val (sp a b)) (.val (sp c d)) c9 c10 c11 c12 c13 c14))) :
    Sure (LW3 (ls N s w q c5 c6 .un .un c9 c10 c11 c12 c13 c14)) Q := by
  refine ⟨?_⟩
  have g1 : (tupE (acons (tupE (acons (callE rollD (acons (var 1) (acons (cst (.int 6)) anil))) (acons (callE rollD (acons (var 1) (acons (cst (.int 6)) anil))) anil))) (acons (tupE (acons (callE rollD (acons (var 1) (acons (cst (.int 6)) anil))) (acons (callE rollD (acons (var 1) (acons (cst (.int 6)) anil))) anil))) anil))) (ls N s w q c5 c6 .un .un c9 c10 c11 c12 c13 c14) = .roll 6 fun a => .roll 6 fun b => .roll 6 fun c => .roll 6 fun d => .ok (.tup [sp (a : Nat) (b : Nat), sp (c : Nat) (d : Nat)]) := by
    have t : ∀ r : LE, callE rollD (acons (var 1) (acons (cst (.int 6)) anil)) (ls N s w q c5 c6 .un .un c9 c10 c11 c12 c13 c14) = .roll 6 fun i => .ok (.int (i : Nat)) := fun _ => R6
    simp only [tupE_eq, acons_eq, t q0, anil_eq]
    rfl
  show Wp (R.onS _ _ _) _ _
  rw [g1]
  intro a ha b hb c hc d hd
  exact h (a : Nat) (b : Nat) (c : Nat) (d : Nat) ⟨by omega, by omega⟩ ⟨by omega, by omega⟩ ⟨by omega, by omega⟩ ⟨by omega, by omega⟩
end K14
set_option Elab.async false
set_option linter.all false
set_option maxRecDepth 100000
namespace K14
open DL PySem PySem.Spec PyProof.Rows
theorem no_ok {c : LE → R Bool} {F : LE → R Out} {r : LE} (h : c r = .ok false) : ifS c F skipS r = .ok (.nx r) := (if_no h).trans rfl
theorem set_ok {i : Nat} {f : LE → R D} {r : LE} {d : D} (h : f r = .ok d) : setK i (valK f) r = .ok (.nx (r.set i (.val d))) := by
  rw [setK_eq, valK_eq, h]
  rfl
theorem ne_str_self (s : List Nat) : neD (.str s) (.str s) = .ok (.bl false) := by rw [neD_str]; simp
theorem ne_int_self (i : Int) : neD (.int i) (.int i) = .ok (.bl false) := by rw [neD_int]; simp
theorem ne_bl_self (i : Bool) : neD (.bl i) (.bl i) = .ok (.bl false) := by rw [neD_bl]; simp
def wyS (dr dc : Int) : List Nat := match wix dr dc with
  | some k => wnm k
  | none => if dr = 0 ∧ dc = 0 then S_fleet else S_noway
variable {N : List Nat} {s : Nat → Int × Int} {w : Nat} {q a b c d : Int} {c5 c6 c9 c10 c11 c12 c13 c14 : Cell}
/-- the two spots -/
structure Two (a b c d : Int) : Prop where
  r : In5 (c - a)
  c : In5 (d - b)
theorem Two.chk (h : Two a b c d) : chkW (c - a) (d - b) = true := chkW_at h.r.a h.r.b h.c.a h.c.b
theorem way_eq (h : Two a b c d) : D_law_way [sp a b, sp c d] = .ok (.str (wyS (c - a) (d - b))) := by
  rw [way_tr]
  unfold wyS
  cases e : wix (c - a) (d - b) with
  | some k => exact (chk_some h.chk e).2.1
  | none =>
    dsimp only
    by_cases n : c - a = 0 ∧ d - b = 0
    · rw [if_pos n]; exact (chk_zero h.chk n).2.1
    · rw [if_neg n]; exact (chk_none h.chk e n).1
theorem btw_told (h : Two a b c d) : toldD toldL (D_way_between [sp a b, sp c d]) = .ok (.str (wyS (c - a) (d - b))) := by
  rw [btw_tr]
  unfold wyS
  cases e : wix (c - a) (d - b) with
  | some k => rw [(chk_some h.chk e).2.2.1]; rfl
  | none =>
    dsimp only
    by_cases n : c - a = 0 ∧ d - b = 0
    · rw [if_pos n, (chk_zero h.chk n).2.2]; rfl
    · rw [if_neg n, (chk_none h.chk e n).2.1]; rfl
abbrev lt (N : List Nat) (s : Nat → Int × Int) (w : Nat) (q a b c d : Int) (c5 c6 c9 c10 c11 c12 c13 c14 : Cell) : LE := ls N s w q c5 c6 (.val (sp a b)) (.val (sp c d)) c9 c10 c11 c12 c13 c14
theorem l4 (h : Two a b c d) : LW4 (lt N s w q a b c d c5 c6 c9 c10 c11 c12 c13 c14) = .ok (.nx (lt N s w q a b c d c5 c6 (.val (.str (wyS (c - a) (d - b)))) c10 c11 c12 c13 c14)) := by
  have e : (callE D_law_way (acons (var 7) (acons (var 8) anil))) (lt N s w q a b c d c5 c6 c9 c10 c11 c12 c13 c14) = .ok (.str (wyS (c - a) (d - b))) := (call2 rfl rfl).trans (way_eq h)
  exact (set_ok e).trans rfl
theorem l5 (h : Two a b c d) : LW5 (lt N s w q a b c d c5 c6 (.val (.str (wyS (c - a) (d - b)))) c10 c11 c12 c13 c14) = .ok (.nx (lt N s w q a b c d c5 c6 (.val (.str (wyS (c - a) (d - b)))) c10 c11 c12 c13 c14)) := by
  have e : (toldE toldL (callE D_way_between (acons (var 7) (acons (var 8) anil)))) (lt N s w q a b c d c5 c6 (.val (.str (wyS (c - a) (d - b)))) c10 c11 c12 c13 c14) = .ok (.str (wyS (c - a) (d - b))) := by
    rw [toldE_eq, call2 (F := D_way_between) (x := sp a b) (y := sp c d) rfl rfl]
    exact btw_told h
  exact no_ok (cmp_eq e rfl (ne_str_self _))
theorem l6 (h : Two a b c d) (hw : w < 8) : ∃ c10', LW6 (lt N s w q a b c d c5 c6 (.val (.str (wyS (c - a) (d - b)))) c10 c11 c12 c13 c14) = .ok (.nx (lt N s w q a b c d c5 c6 (.val (.str (wyS (c - a) (d - b)))) c10' c11 c12 c13 c14)) := by
  cases e : wix (c - a) (d - b) with
  | none =>
    have hin : inD (.str (wyS (c - a) (d - b))) d_EIGHTS = .ok (.bl false) := by
      unfold wyS
      rw [e]
      dsimp only
      split <;> rfl
    exact ⟨c10, no_ok (cmp_eq rfl rfl hin)⟩
  | some k =>
    obtain ⟨hk, g2, g3, g4, g5⟩ := chk_some h.chk e
    have ew : wyS (c - a) (d - b) = wnm k := by unfold wyS; rw [e]
    rw [ew]
    have hin := in_EI k hk
    have gc := gp_cases k w
    -- the gap
    have x1 : (opE modD (opE subD (kbmE d_EIGHTS idxTp (acons (var 9) anil)) (kbmE d_EIGHTS idxTp (acons (var 3) anil))) (cst (.int 4))) (lt N s w q a b c d c5 c6 (.val (.str (wnm k))) c10 c11 c12 c13 c14) = .ok (.int (gp k w)) := by
      refine opE_ok (opE_ok ((kbm1 rfl).trans (idx_EI k hk)) ((kbm1 rfl).trans (idx_EI w hw)) (subD_int _ _)) rfl (modD_int _ _ (by decide))
    have x2 : (callE D_shows_side (acons (var 3) (acons (var 7) (acons (var 8) anil)))) (lt N s w q a b c d c5 c6 (.val (.str (wnm k))) (.val (.int (gp k w))) c11 c12 c13 c14) = .ok (.str (sideS (gp k w))) := by
      refine (call3 (x := .str (wnm w)) (y := sp a b) (z := sp c d) rfl rfl rfl).trans ?_
      rw [side_tr]
      exact shows k w hk hw _ _ g3
    have x3 : (subE (lE (lstE (acons (cst (.str [101, 110, 100, 32, 111, 110])) (acons (cst (.str [115, 108, 97, 110, 116, 105, 110, 103])) (acons (cst (.str [98, 114, 111, 97, 100, 115, 105, 100, 101])) (acons (cst (.str [115, 108, 97, 110, 116, 105, 110, 103])) anil)))))) (var 10)) (lt N s w q a b c d c5 c6 (.val (.str (wnm k))) (.val (.int (gp k w))) c11 c12 c13 c14) = .ok (.str (sideS (gp k w))) := sideLL _ gc
    have x4 : (callE D_reads_in_wind (acons (var 3) (acons (var 7) (acons (var 8) (acons (var 4) anil))))) (lt N s w q a b c d c5 c6 (.val (.str (wnm k))) (.val (.int (gp k w))) c11 c12 c13 c14) = .ok (.bl (rdF (gp k w) (far (c - a) (d - b)) q)) := by
      refine (call4 (x := .str (wnm w)) (y := sp a b) (z := sp c d) (u := .int q) rfl rfl rfl rfl).trans ?_
      rw [riw_tr]
      exact preads k w hk hw _ _ q g3
    have x5 : (callE D_law_reads (acons (var 3) (acons (var 7) (acons (var 8) (acons (var 4) anil))))) (lt N s w q a b c d c5 c6 (.val (.str (wnm k))) (.val (.int (gp k w))) c11 c12 c13 c14) = .ok (.bl (rdF (gp k w) (far (c - a) (d - b)) q)) := by
      refine (call4 (x := .str (wnm w)) (y := sp a b) (z := sp c d) (u := .int q) rfl rfl rfl rfl).trans ?_
      rw [lr_tr]
      exact lreads k w hk hw _ _ q g2
    have hk4 : (k + 4) % 8 < 8 := Nat.mod_lt _ (by decide)
    have x6 : (callE D_way_between (acons (var 8) (acons (var 7) anil))) (lt N s w q a b c d c5 c6 (.val (.str (wnm k))) (.val (.int (gp k w))) c11 c12 c13 c14) = .ok (.str (wnm ((k + 4) % 8))) := by
      refine (call2 (x := sp c d) (y := sp a b) rfl rfl).trans ?_
      rw [btw_tr]
      have e1 : a - c = -(c - a) := by omega
      have e2 : b - d = -(d - b) := by omega
      rw [e1, e2]
      have r1 := h.r.a
      have r2 := h.r.b
      have r3 := h.c.a
      have r4 := h.c.b
      exact (chk_some (chkW_at (by omega) (by omega) (by omega) (by omega)) g4).2.2.1
    have x7 : (subE (cst d_EIGHTS) (opE modD (opE addD (kbmE d_EIGHTS idxTp (acons (var 9) anil)) (cst (.int 4))) (cst (.int 8)))) (lt N s w q a b c d c5 c6 (.val (.str (wnm k))) (.val (.int (gp k w))) c11 c12 c13 c14) = .ok (.str (wnm ((k + 4) % 8))) := by
      refine subE_ok rfl (opE_ok (opE_ok ((kbm1 rfl).trans (idx_EI k hk)) rfl (addD_int _ _)) rfl (modD_int _ _ (by decide))) ?_
      have e1 : ((k : Int) + 4) % 8 = (((k + 4) % 8 : Nat) : Int) := by omega
      rw [e1]
      exact sub_EI _ hk4
    refine ⟨.val (.int (gp k w)), (if_yes (cmp_eq rfl rfl hin)).trans ?_⟩
    refine seq_eq (r2 := lt N s w q a b c d c5 c6 (.val (.str (wnm k))) (.val (.int (gp k w))) c11 c12 c13 c14) ((set_ok x1).trans rfl) ?_
    refine seq_eq (no_ok (cmp_eq x2 x3 (ne_str_self _))) ?_
    refine seq_eq (no_ok (cmp_eq x4 x5 (ne_bl_self _))) ?_
    exact no_ok (cmp_eq x6 x7 (ne_str_self _))
theorem streams (hw : w < 8) : D_streams_to [.str (wnm w)] = .ok (.str (wnm ((w + 4) % 8))) := eight (P := fun w => D_streams_to [.str (wnm w)] = .ok (.str (wnm ((w + 4) % 8)))) ⟨rfl, rfl, rfl, rfl, rfl, rfl, rfl, rfl⟩ w hw
theorem l7 (hw : w < 8) {c7 c8 : Cell} : LW7 (ls N s w q c5 c6 c7 c8 c9 c10 c11 c12 c13 c14) = .ok (.nx (ls N s w q c5 c6 c7 c8 c9 c10 c11 c12 c13 c14)) := by
  have h4 : (w + 4) % 8 < 8 := Nat.mod_lt _ (by decide)
  have x1 : (callE D_streams_to (acons (callE D_streams_to (acons (var 3) anil)) anil)) (ls N s w q c5 c6 c7 c8 c9 c10 c11 c12 c13 c14) = .ok (.str (wnm w)) := by
    refine (call1 ((call1 rfl).trans (streams hw))).trans ?_
    rw [streams h4]
    have : ((w + 4) % 8 + 4) % 8 = w := by omega
    rw [this]
  have x2 : (callE D_eighth_of (acons (callE D_streams_to (acons (var 3) anil)) anil)) (ls N s w q c5 c6 c7 c8 c9 c10 c11 c12 c13 c14) = .ok (.int (((w + 4) % 8 : Nat) : Int)) := by
    refine (call1 ((call1 rfl).trans (streams hw))).trans ?_
    exact eighth_eq _ h4
  have x3 : (opE modD (opE addD (callE D_eighth_of (acons (var 3) anil)) (cst (.int 4))) (cst (.int 8))) (ls N s w q c5 c6 c7 c8 c9 c10 c11 c12 c13 c14) = .ok (.int (((w + 4) % 8 : Nat) : Int)) := by
    refine opE_ok (opE_ok ((call1 rfl).trans (eighth_eq w hw)) rfl (addD_int _ _)) rfl ((modD_int _ _ (by decide)).trans ?_)
    have e1 : ((w : Int) + 4) % 8 = (((w + 4) % 8 : Nat) : Int) := by omega
    rw [e1]
  refine no_ok ?_
  rw [orT_eq, cmp_eq x1 rfl (ne_str_self _), R.ok_bind, if_neg (by decide)]
  exact cmp_eq x2 x3 (ne_int_self _)
theorem subs_hd : ∀ N ∈ subs, N = 0 :: N.tail := by decide +kernel
theorem at0 (x : D) (xs : List D) : subI (.lst (x :: xs)) (.int 0) = .ok x := by
  simp [subI, ixD, L2.atI, L2.ixN]
theorem subs_len : ∀ N ∈ subs, N.length ≤ 5 := by decide +kernel
theorem l8 (hN : N ∈ subs) {c7 c8 : Cell} : LW8 (ls N s w q c5 c6 c7 c8 c9 c10 c11 c12 c13 c14) = .ok (.nx (ls N s w q c5 c6 c7 c8 c9 c10 (.val (nm 0)) c12 c13 c14)) := by
  have hs := sorted_dic (spv s) N (by have := subs_len N hN; omega)
  rw [subs_srt N hN] at hs
  have x1 : (subE (lE (callF sortedL (acons (varP 2) anil))) (cst (.int 0))) (ls N s w q c5 c6 c7 c8 c9 c10 c11 c12 c13 c14) = .ok (nm 0) := by
    show ((sortedL [.dic (dcD (spv s) N)] >>= fun ds => R.ok (D.lst ds)) >>= fun x => subI x (.int 0)) = _
    rw [hs, subs_hd N hN]
    exact at0 _ _
  exact (set_ok x1).trans rfl
end K14
set_option Elab.async false
set_option linter.all false
set_option maxRecDepth 100000
namespace K14
open DL PySem PySem.Spec PyProof.Rows
/-- the ships' spots -/
structure Fine (N : List Nat) (s : Nat → Int × Int) : Prop where
  sub : N ∈ subs
  box : ∀ k ∈ N, 0 ≤ (s k).1 ∧ (s k).1 ≤ 4 ∧ 0 ≤ (s k).2 ∧ (s k).2 ≤ 4
  ne : ∀ i ∈ N, ∀ k ∈ N, i ≠ k → s i ≠ s k
variable {N : List Nat} {s : Nat → Int × Int} {w : Nat} {q : Int}
def adj (s : Nat → Int × Int) (w : Nat) (q : Int) (i j : Nat) : Bool := rdB w ((s j).1 - (s i).1) ((s j).2 - (s i).2) q
theorem subs_lt : ∀ N ∈ subs, ∀ k ∈ N, k < 5 := by decide +kernel
theorem Fine.in5 (h : Fine N s) {i j : Nat} (hi : i ∈ N) (hj : j ∈ N) : In5 ((s j).1 - (s i).1) ∧ In5 ((s j).2 - (s i).2) := by
  have h1 := h.box i hi
  have h2 := h.box j hj
  exact ⟨⟨by omega, by omega⟩, ⟨by omega, by omega⟩⟩
theorem Fine.gr (h : Fine N s) (hw : w < 8) : Gr N s w q (grN N (adj s w q)) := by
  have sym : ∀ i ∈ N, ∀ j ∈ N, i ≠ j → adj s w q i j = adj s w q j i := fun i hi j hj _ => by
    obtain ⟨h1, h2⟩ := h.in5 hi hj
    unfold adj
    rw [← rdB_sym w _ _ q h1 h2, Int.neg_sub, Int.neg_sub]
  have ge : ∀ i ∈ N, ∀ j ∈ N, i ≠ j → grN N (adj s w q) i j = adj s w q i j := fun i hi j hj n => grN_eq (subs_lt N h.sub) sym hi hj n
  refine ⟨subs_lt N h.sub, subs_len N h.sub, subs_srt N h.sub, fun i hi j hj n => ?_, fun i hi j hj n => ?_⟩
  · obtain ⟨h1, h2⟩ := h.in5 hi hj
    rw [ge i hi j hj n]
    refine prog_rd w hw _ _ _ _ q h1 h2 fun ⟨e1, e2⟩ => h.ne i hi j hj n ?_
    exact Prod.ext (by omega) (by omega)
  · obtain ⟨h1, h2⟩ := h.in5 hi hj
    rw [ge i hi j hj n]
    exact law_rd w hw _ _ _ _ q h1 h2
/-- told and known come to one list -/
theorem Fine.both (h : Fine N s) (hw : w < 8) : ∃ L : List Nat, D_told_by_repeats [.str (wnm w), .dic (dcD (spv s) N), nm 0, .int q] = .ok (.tup (L.map nm)) ∧ D_law_known [.str (wnm w), .dic (dcD (spv s) N), nm 0, .int q] = .ok (.lst (L.map nm)) ∧ ∀ k ∈ L, k < 5 := by
  have hg := h.gr (q := q) hw
  have c := grN_ok h.sub (adj s w q)
  have h0 : 0 ∈ N := by rw [subs_hd N h.sub]; exact List.mem_cons_self
  unfold chkG at c
  split at c
  case h_2 => cases c
  rename_i sN hd
  simp only [Bool.and_eq_true, beq_iff_eq, decide_eq_true_eq, List.all_eq_true] at c
  obtain ⟨⟨⟨c1, c2⟩, c3⟩, c4⟩ := c
  have hk : (kns (grN N (adj s w q)) N N.length [0]).length = sN.length := by
    rw [← (isort_perm (lt := ltN) (kns (grN N (adj s w q)) N N.length [0])).length_eq, ← c1]
    exact (isort_perm sN).length_eq
  refine ⟨isort ltN sN, told_eq hg h0 hd (by omega), ?_, fun k hk => ?_⟩
  · rw [c1]
    exact known_eq hg h0 (by omega)
  · have := c2 k hk
    exact subs_lt N h.sub k (by simpa using this)
abbrev lf (N : List Nat) (s : Nat → Int × Int) (w : Nat) (q : Int) (c5 c6 c7 c8 c9 c10 c11 c12 c13 c14 : Cell) : LE := [.un, .val .dice, .val (.dic (dcD (spv s) N)), .val (.str (wnm w)), .val (.int q), c5, c6, c7, c8, c9, c10, c11, c12, c13, c14]
variable {c5 c6 c7 c8 c9 c10 c12 c13 c14 : Cell}
def X9 : LE → R Out := (ifS (cmpT neD (lE (callF listD (acons (callE D_readers (acons (var 3) (acons (var 2) (acons (var 11) (acons (var 4) anil))))) anil))) (lE (compF (itL (lE (callF sortedL (acons (varP 2) anil)))) (gN 12) (andT (cmpT neD (var 12) (var 11)) (valT (callE D_law_reads (acons (var 3) (acons (subE (varP 2) (var 11)) (acons (subE (varP 2) (var 12)) (acons (var 4) anil))))))) (var 12) [12])))
    (retS (cst (.bl false)))
    skipS)
theorem lst_call {F : List D → R D} {fs : LE → R (List D)} {r : LE} {xs : List D} (h : callE F fs r = .ok (.tup xs)) : lE (callF listD (acons (callE F fs) anil)) r = .ok (.lst xs) := by
  rw [lE_eq]
  show ((callE F fs r >>= fun x => R.ok [x]) >>= listD) >>= _ = _
  rw [h]
  rfl
theorem x9 (h : Fine N s) (hw : w < 8) : X9 (lf N s w q c5 c6 c7 c8 c9 c10 (.val (nm 0)) c12 c13 c14) = .ok (.nx (lf N s w q c5 c6 c7 c8 c9 c10 (.val (nm 0)) c12 c13 c14)) := by
  have hg := h.gr (q := q) hw
  have h0 : 0 ∈ N := by rw [subs_hd N h.sub]; exact List.mem_cons_self
  have y1 : (lE (callF listD (acons (callE D_readers (acons (var 3) (acons (var 2) (acons (var 11) (acons (var 4) anil))))) anil))) (lf N s w q c5 c6 c7 c8 c9 c10 (.val (nm 0)) c12 c13 c14) = .ok (.lst ((rdrs (grN N (adj s w q)) N 0).map nm)) :=
    lst_call ((call4 rfl rfl rfl rfl).trans (readers_eq hg h0))
  have hs := sorted_dic (spv s) N (by have := hg.len; omega)
  rw [hg.srt] at hs
  have y2 : (lE (compF (itL (lE (callF sortedL (acons (varP 2) anil)))) (gN 12) (andT (cmpT neD (var 12) (var 11)) (valT (callE D_law_reads (acons (var 3) (acons (subE (varP 2) (var 11)) (acons (subE (varP 2) (var 12)) (acons (var 4) anil))))))) (var 12) [12])) (lf N s w q c5 c6 c7 c8 c9 c10 (.val (nm 0)) c12 c13 c14) = .ok (.lst ((rdrs (grN N (adj s w q)) N 0).map nm)) := by
    rw [lE_eq, compF_eq]
    have e0 : (itL (lE (callF sortedL (acons (varP 2) anil)))) (lf N s w q c5 c6 c7 c8 c9 c10 (.val (nm 0)) c12 c13 c14) = .ok (N.map nm) := by
      show (sortedL [.dic (dcD (spv s) N)] >>= fun ds => R.ok (D.lst ds)) >>= lstD = _
      rw [hs]
      rfl
    rw [e0, R.ok_bind, if_pos (by rw [List.length_map]; have := hg.len; omega)]
    have fin := loopC_nm (gd := gN 12) (tt := (andT (cmpT neD (var 12) (var 11)) (valT (callE D_law_reads (acons (var 3) (acons (subE (varP 2) (var 11)) (acons (subE (varP 2) (var 12)) (acons (var 4) anil)))))))) (te := var 12) (r := wipeL (lf N s w q c5 c6 c7 c8 c9 c10 (.val (nm 0)) c12 c13 c14) [12]) (fun j => (j != 0) && grN N (adj s w q) 0 j) nm N fun j hj => ⟨_, rfl, ?_, fun _ => rfl⟩
    · rw [fin]
      rfl
    · show (andT _ _) (lf N s w q c5 c6 c7 c8 c9 c10 (.val (nm 0)) (.val (nm j)) c13 c14) = _
      have ne : neD (nm j) (nm 0) = .ok (.bl (j != 0)) := by
        rw [neD_str]
        have : ([97 + j] == [97 + 0]) = (j == 0) := by rw [Bool.eq_iff_iff]; simp
        rw [this]
        rfl
      rw [andT_eq, cmp_eq rfl rfl ne, R.ok_bind]
      cases hj0 : (j != 0) with
      | false => rfl
      | true =>
        have hj0' : ¬ j = 0 := by simpa using hj0
        rw [if_pos rfl, valT_eq]
        have e4 := call4 (F := D_law_reads) (f1 := var 3) (f2 := subE (varP 2) (var 11)) (f3 := subE (varP 2) (var 12)) (f4 := var 4) (r := lf N s w q c5 c6 c7 c8 c9 c10 (.val (nm 0)) (.val (nm j)) c13 c14) (x := .str (wnm w)) (u := .int q) rfl (subE_ok rfl rfl (subI_nm (spv s) 0 N h0)) (subE_ok rfl rfl (subI_nm (spv s) j N hj)) rfl
        rw [e4, hg.lw 0 h0 j hj (fun e => hj0' e.symm)]
        rfl
  exact no_ok (cmp_eq y1 y2 (by rw [ne_lst _ _ (fun k hk => hg.h5 k (rdrs_in k hk)) (fun k hk => hg.h5 k (rdrs_in k hk))]; simp))
theorem l9 (h : Fine N s) (hw : w < 8) : LW9 (ls N s w q c5 c6 c7 c8 c9 c10 (.val (nm 0)) c12 c13 c14) = .ok (.nx (lf N s w q c5 c6 c7 c8 c9 c10 (.val (nm 0)) c12 c13 c14)) := x9 h hw
theorem l10 (h : Fine N s) (hw : w < 8) : LW10 (lf N s w q c5 c6 c7 c8 c9 c10 (.val (nm 0)) c12 c13 c14) = .ok (.nx (lf N s w q c5 c6 c7 c8 c9 c10 (.val (nm 0)) c12 c13 c14)) := by
  obtain ⟨L, t1, t2, t3⟩ := h.both (q := q) hw
  have y1 : (lE (callF listD (acons (callE D_told_by_repeats (acons (var 3) (acons (var 2) (acons (var 11) (acons (var 4) anil))))) anil))) (lf N s w q c5 c6 c7 c8 c9 c10 (.val (nm 0)) c12 c13 c14) = .ok (.lst (L.map nm)) := lst_call ((call4 rfl rfl rfl rfl).trans t1)
  have y2 : (callE D_law_known (acons (var 3) (acons (var 2) (acons (var 11) (acons (var 4) anil))))) (lf N s w q c5 c6 c7 c8 c9 c10 (.val (nm 0)) c12 c13 c14) = .ok (.lst (L.map nm)) := (call4 rfl rfl rfl rfl).trans t2
  show (ifS (cmpT neD _ _) _ skipS) (lf N s w q c5 c6 c7 c8 c9 c10 (.val (nm 0)) c12 c13 c14) = _
  exact no_ok (cmp_eq y1 y2 (by rw [ne_lst _ _ t3 t3]; simp))
end K14
set_option Elab.async false
set_option linter.all false
set_option maxRecDepth 100000
namespace K14
open DL PySem PySem.Spec PyProof.Rows
variable {N : List Nat} {s : Nat → Int × Int} {w : Nat} {q : Int} {c5 c6 c7 c8 c9 c10 c12 c13 c14 : Cell}
theorem ali_int (i j : Int) : D.ali (.int i) (.int j) = true := by
  unfold D.ali
  simp [D.toP, PySem.W.alike]
theorem alis_ints (l : List Int) : alis (l.map D.int) = true := by
  unfold alis
  rw [List.all_eq_true]
  intro d hd
  rw [List.mem_map] at hd
  obtain ⟨i, _, rfl⟩ := hd
  rw [Bool.and_eq_true, List.all_eq_true]
  refine ⟨rfl, fun e he => ?_⟩
  rw [List.mem_map] at he
  obtain ⟨j, _, rfl⟩ := he
  exact ali_int i j
theorem most_in : ∀ (l : List Int) (x : Int), ∃ m, most (.int x) (l.map D.int) = .int m ∧ m ∈ x :: l
  | [], x => ⟨x, rfl, List.mem_cons_self⟩
  | y :: l, x => by
    show ∃ m, most (if (D.int x).ltb (.int y) then .int y else .int x) (l.map D.int) = .int m ∧ _
    split
    · obtain ⟨m, h1, h2⟩ := most_in l y
      exact ⟨m, h1, List.mem_cons_of_mem _ h2⟩
    · obtain ⟨m, h1, h2⟩ := most_in l x
      refine ⟨m, h1, ?_⟩
      rcases List.mem_cons.mp h2 with rfl | h2
      · exact List.mem_cons_self
      · exact List.mem_cons_of_mem _ (List.mem_cons_of_mem _ h2)
theorem shs_int {n : Nat} : ∀ l : List Int, D.shs (l.map D.int) n = true
  | [] => by simp [D.shs]
  | x :: l => by
    rw [List.map_cons]
    simp only [D.shs, Bool.and_eq_true]
    exact ⟨rfl, shs_int l⟩
theorem max_ix (x : Int) (l : List Int) : ∃ m : Int, maxL [.lst ((x :: l).map D.int)] = .ok (.int m) ∧ ∃ j : Nat, j < (x :: l).length ∧ idxLs (.lst ((x :: l).map D.int)) [.int m] = .ok (.int (j : Nat)) := by
  obtain ⟨m, h1, h2⟩ := most_in l x
  refine ⟨m, ?_, ?_⟩
  · show (if alis ((x :: l).map D.int) = true then R.ok (most (.int x) (l.map D.int)) else R.stuck) = _
    rw [if_pos (alis_ints (x :: l)), h1]
  · cases e : idxL ((x :: l).map D.int) (.int m) with
    | none =>
      unfold idxL at e
      rw [List.findIdx?_eq_none_iff] at e
      have := e (.int m) (List.mem_map.mpr ⟨m, h2, rfl⟩)
      exact absurd this (by simp [D.eqb])
    | some j =>
      refine ⟨j, ?_, ?_⟩
      · unfold idxL at e
        rw [List.findIdx?_eq_some_iff_getElem] at e
        obtain ⟨hj, _⟩ := e
        simpa using hj
      · unfold idxLs
        dsimp only
        rw [if_pos (by rw [shs_int]; rfl), e]
theorem loopC_ix {gd : D → LE → Option LE} {te : LE → R D} {r : LE} (g f : Nat → D) : ∀ L : List Nat, (∀ j ∈ L, ∃ r', gd (g j) r = some r' ∧ te r' = .ok (f j)) → loopC gd yesT te r (L.map g) = .ok (L.map f)
  | [], _ => rfl
  | d :: ds, h => by
    obtain ⟨r', h1, h3⟩ := h d List.mem_cons_self
    have ih := loopC_ix g f ds fun x hx => h x (List.mem_cons_of_mem _ hx)
    rw [List.map_cons, loopC_cons, h1]
    dsimp only
    rw [ih, yesT_eq, h3]
    rfl
abbrev W8 : List Nat := [0, 1, 2, 3, 4, 5, 6, 7]
theorem W8_lt : ∀ w ∈ W8, w < 8 := by decide
theorem known_len (h : Fine N s) : ∃ f : Nat → Nat, ∀ w ∈ W8, ∃ L : List Nat, f w = L.length ∧ D_told_by_repeats [.str (wnm w), .dic (dcD (spv s) N), nm 0, .int q] = .ok (.tup (L.map nm)) ∧ D_law_known [.str (wnm w), .dic (dcD (spv s) N), nm 0, .int q] = .ok (.lst (L.map nm)) := by
  have key : ∀ w : Nat, ∃ L : List Nat, w ∈ W8 → (D_told_by_repeats [.str (wnm w), .dic (dcD (spv s) N), nm 0, .int q] = .ok (.tup (L.map nm)) ∧ D_law_known [.str (wnm w), .dic (dcD (spv s) N), nm 0, .int q] = .ok (.lst (L.map nm))) := fun w => by
    by_cases hw : w ∈ W8
    · obtain ⟨L, h1, h2, _⟩ := h.both (q := q) (W8_lt w hw)
      exact ⟨L, fun _ => ⟨h1, h2⟩⟩
    · exact ⟨[], fun x => absurd x hw⟩
  exact ⟨fun w => (Classical.choose (key w)).length, fun w hw => ⟨Classical.choose (key w), rfl, Classical.choose_spec (key w) hw⟩⟩
def cnt (f : Nat → Nat) : List D := (W8.map fun w => ((f w : Nat) : Int)).map D.int
theorem cnt_eq (f : Nat → Nat) : cnt f = W8.map fun w => .int ((f w : Nat) : Int) := by unfold cnt; rw [List.map_map]; rfl
theorem len_call {F : List D → R D} {fs : LE → R (List D)} {r : LE} {d : D} {o : R D} (h : callE F fs r = .ok d) (k : lenX [d] = o) : callE lenX (acons (callE F fs) anil) r = o := by
  rw [callE_eq, acons_eq, h]
  exact k
theorem l1112 (h : Fine N s) : ∃ f : Nat → Nat, ∀ w c5 c6 c7 c8 c9 c10 c12 c13 c14, LW11 (lf N s w q c5 c6 c7 c8 c9 c10 (.val (nm 0)) c12 c13 c14) = .ok (.nx (lf N s w q c5 c6 c7 c8 c9 c10 (.val (nm 0)) c12 (.own (.lst (cnt f))) c14)) ∧
    LW12 (lf N s w q c5 c6 c7 c8 c9 c10 (.val (nm 0)) c12 (.own (.lst (cnt f))) c14) = .ok (.nx (lf N s w q c5 c6 c7 c8 c9 c10 (.val (nm 0)) c12 (.own (.lst (cnt f))) c14)) := by
  obtain ⟨f, hf⟩ := known_len (q := q) h
  refine ⟨f, fun w c5 c6 c7 c8 c9 c10 c12 c13 c14 => ⟨?_, ?_⟩⟩
  · have y : (compF (itT (cst d_EIGHTS)) (gN 14) yesT (callE lenX (acons (callE D_law_known (acons (var 14) (acons (var 2) (acons (var 11) (acons (var 4) anil))))) anil)) [14]) (lf N s w q c5 c6 c7 c8 c9 c10 (.val (nm 0)) c12 c13 c14) = .ok (cnt f) := by
      rw [compF_eq, show itT (cst d_EIGHTS) (lf N s w q c5 c6 c7 c8 c9 c10 (.val (nm 0)) c12 c13 c14) = .ok (W8.map fun w => .str (wnm w)) from rfl, R.ok_bind, if_pos (by decide), cnt_eq]
      refine loopC_ix _ _ W8 fun j hj => ⟨_, rfl, ?_⟩
      obtain ⟨L, e1, e2, e3⟩ := hf j hj
      refine len_call ((call4 (x := .str (wnm j)) (y := .dic (dcD (spv s) N)) (z := nm 0) (u := .int q) rfl rfl rfl rfl).trans e3) ?_
      show R.ok (D.int ((L.map nm).length : Nat)) = _
      rw [List.length_map, e1]
    show setK 13 (ownK _) (lf N s w q c5 c6 c7 c8 c9 c10 (.val (nm 0)) c12 c13 c14) = _
    rw [setK_eq, ownK_eq, y]
    rfl
  · obtain ⟨m, hm, j, hj, hi⟩ := max_ix (f 0 : Nat) ([1, 2, 3, 4, 5, 6, 7].map fun w => ((f w : Nat) : Int))
    have hm : maxL [.lst (cnt f)] = .ok (.int m) := hm
    have hi : idxLs (.lst (cnt f)) [.int m] = .ok (.int (j : Nat)) := hi
    have hj8 : j < 8 := hj
    have y2 : (subE (cst d_EIGHTS) (bmE "list" idxLs (varP 13) (acons (callE maxL (acons (varP 13) anil)) anil))) (lf N s w q c5 c6 c7 c8 c9 c10 (.val (nm 0)) c12 (.own (.lst (cnt f))) c14) = .ok (.str (wnm j)) := by
      refine subE_ok rfl ?_ (sub_EI j hj8)
      rw [bmE_eq, show varP 13 (lf N s w q c5 c6 c7 c8 c9 c10 (.val (nm 0)) c12 (.own (.lst (cnt f))) c14) = .ok (.lst (cnt f)) from rfl, R.ok_bind, show isT "list" (.lst (cnt f)) = .ok (.lst (cnt f)) from rfl, R.ok_bind, acons_eq, call1 (F := maxL) (x := .lst (cnt f)) rfl, hm, R.ok_bind, anil_eq, R.ok_bind, R.ok_bind]
      exact hi
    have y1 : (callE D_best_wind (acons (var 2) (acons (var 11) (acons (var 4) anil)))) (lf N s w q c5 c6 c7 c8 c9 c10 (.val (nm 0)) c12 (.own (.lst (cnt f))) c14) = .ok (.str (wnm j)) := by
      refine (call3 (x := .dic (dcD (spv s) N)) (y := nm 0) (z := .int q) rfl rfl rfl).trans ?_
      rw [D_best_wind, runF_eq _ _ _ _ (by rfl)]
      have b1 : (compF (itT (cst d_EIGHTS)) (gN 4) yesT (callE lenX (acons (callE D_told_by_repeats (acons (var 4) (acons (var 0) (acons (var 1) (acons (var 2) anil))))) anil)) [4]) [.val (.dic (dcD (spv s) N)), .val (nm 0), .val (.int q), .un, .un] = .ok (cnt f) := by
        rw [compF_eq, show itT (cst d_EIGHTS) [.val (.dic (dcD (spv s) N)), .val (nm 0), .val (.int q), .un, .un] = .ok (W8.map fun w => .str (wnm w)) from rfl, R.ok_bind, if_pos (by decide), cnt_eq]
        refine loopC_ix _ _ W8 fun j hj => ⟨_, rfl, ?_⟩
        obtain ⟨L, e1, e2, e3⟩ := hf j hj
        refine len_call ((call4 (x := .str (wnm j)) (y := .dic (dcD (spv s) N)) (z := nm 0) (u := .int q) rfl rfl rfl rfl).trans e2) ?_
        show R.ok (D.int ((L.map nm).length : Nat)) = _
        rw [List.length_map, e1]
      have b2 : (subE (cst d_EIGHTS) (bmE "list" idxLs (varP 3) (acons (callE maxL (acons (varP 3) anil)) anil))) [.val (.dic (dcD (spv s) N)), .val (nm 0), .val (.int q), .own (.lst (cnt f)), .un] = .ok (.str (wnm j)) := by
        refine subE_ok rfl ?_ (sub_EI j hj8)
        rw [bmE_eq, show varP 3 [.val (.dic (dcD (spv s) N)), .val (nm 0), .val (.int q), .own (.lst (cnt f)), .un] = .ok (.lst (cnt f)) from rfl, R.ok_bind, show isT "list" (.lst (cnt f)) = .ok (.lst (cnt f)) from rfl, R.ok_bind, acons_eq, call1 (F := maxL) (x := .lst (cnt f)) rfl, hm, R.ok_bind, anil_eq, R.ok_bind, R.ok_bind]
        exact hi
      have run : F_best_wind [.val (.dic (dcD (spv s) N)), .val (nm 0), .val (.int q), .un, .un] = .ok (.rt (.str (wnm j))) := by
        refine seq_eq (r2 := [.val (.dic (dcD (spv s) N)), .val (nm 0), .val (.int q), .own (.lst (cnt f)), .un]) ?_ ?_
        · rw [setK_eq, ownK_eq, b1]; rfl
        · rw [retS_eq, b2]; rfl
      show ((F_best_wind [.val (.dic (dcD (spv s) N)), .val (nm 0), .val (.int q), .un, .un]).calm >>= fin) = _
      rw [run]
      rfl
    show (ifS (cmpT neD _ _) _ skipS) (lf N s w q c5 c6 c7 c8 c9 c10 (.val (nm 0)) c12 (.own (.lst (cnt f))) c14) = _
    exact no_ok (cmp_eq y1 y2 (ne_str_self _))
end K14
set_option Elab.async false
set_option linter.all false
set_option maxRecDepth 100000
namespace K14
open DL PySem PySem.Spec PyProof.Rows
abbrev air (dn rt : Int) : D := .ins 0 [.int dn, .int rt]
def intOf : R D → Option Int
  | .ok (.int i) => some i
  | _ => none
theorem intOf_ok {x : R D} {i : Int} (h : intOf x = some i) : x = .ok (.int i) := by
  unfold intOf at h; split at h
  · cases h; rfl
  · cases h
def sc (dn rt : Int) (k : Nat) : Int := (intOf (D_score [.int dn, .int (0 - rt), .int (k : Nat)])).getD 0
def cfx (dn rt : Int) : Option Nat := W8.find? fun k => strOf (D_Air_comes_from [air dn rt]) == some (wnm k)
def chkA (dn rt : Int) : Bool := if dn = 0 ∧ rt = 0 then errOf (D_Air_comes_from [air dn rt]) == some 7 else
  (W8.all fun k => intOf (D_score [.int dn, .int (0 - rt), .int (k : Nat)]) == some (sc dn rt k)) && (match cfx dn rt with
    | some k => decide (k < 8) && strOf (D_Air_comes_from [air dn rt]) == some (wnm k) && intOf (maxL [.lst (W8.map fun k => .int (sc dn rt k))]) == some (sc dn rt k) && (match wix (0 - dn) (0 - rt) with
      | some j => j == k
      | none => true)
    | none => false)
def f4 (i : Nat) : Int := (i : Int) - 4
def allA : Bool := (List.range 9).all fun i => (List.range 9).all fun j => chkA (f4 i) (f4 j)
theorem allA_ok : allA = true := by decide +kernel
theorem chkA_at {dr dc : Int} (h1 : -4 ≤ dr) (h2 : dr ≤ 4) (h3 : -4 ≤ dc) (h4 : dc ≤ 4) : chkA dr dc = true := by
  have h := allA_ok
  unfold allA at h
  rw [List.all_eq_true] at h
  have h := h (dr + 4).toNat (by rw [List.mem_range]; omega)
  rw [List.all_eq_true] at h
  have h := h (dc + 4).toNat (by rw [List.mem_range]; omega)
  have e1 : f4 (dr + 4).toNat = dr := by unfold f4; omega
  have e2 : f4 (dc + 4).toNat = dc := by unfold f4; omega
  rw [e1, e2] at h
  exact h
end K14
set_option Elab.async false
set_option linter.all false
set_option maxRecDepth 100000
namespace K14
open DL PySem PySem.Spec PyProof.Rows
def RW1 : LE → R Out := (asgS (tupE (acons (callE D_Air_init (acons (opE subD (callE rollD (acons (var 0) (acons (cst (.int 9)) anil))) (cst (.int 4))) (acons (opE subD (callE rollD (acons (var 0) (acons (cst (.int 9)) anil))) (cst (.int 4))) anil))) (acons (tupE (acons (opE subD (callE rollD (acons (var 0) (acons (cst (.int 5)) anil))) (cst (.int 2))) (acons (opE subD (callE rollD (acons (var 0) (acons (cst (.int 5)) anil))) (cst (.int 2))) anil))) anil))) (gTup_ 2 (gCons_ (gN 3) (gCons_ (gN 4) gNil_))))
def RW2 : LE → R Out := (setK 5 (valK (methE 0 D_Air_felt (var 3) (acons (var 4) anil))))
def RW3 : LE → R Out := (ifS (orT (cmpT neD (meth0E 0 D_Air_key (var 5)) (tupE (acons (opE subD (fldE fx_down (var 3)) (subE (var 4) (cst (.int 0)))) (acons (opE subD (fldE fx_right (var 3)) (subE (var 4) (cst (.int 1)))) anil)))) (cmpT neD (meth0E 0 D_Air_key (methE 0 D_Air_true_air (var 5) (acons (var 4) anil))) (meth0E 0 D_Air_key (var 3))))
    (retS (cst (.bl false)))
    skipS)
def RW4 : LE → R Out := (ifS (orT (cmpT neD (meth0E 0 D_Air_squared_force (var 3)) (opE addD (opE mulD (fldE fx_down (var 3)) (fldE fx_down (var 3))) (opE mulD (fldE fx_right (var 3)) (fldE fx_right (var 3))))) (cmpT neD (meth0E 0 D_Air_is_calm (var 3)) (opE eqD (meth0E 0 D_Air_key (var 3)) (tupE (acons (cst (.int 0)) (acons (cst (.int 0)) anil))))))
    (retS (cst (.bl false)))
    skipS)
def RW5 : LE → R Out := (setK 6 (valK (opE addD (opE mulD (fldE fx_down (var 3)) (subE (var 4) (cst (.int 0)))) (opE mulD (fldE fx_right (var 3)) (subE (var 4) (cst (.int 1)))))))
def RW6 : LE → R Out := (ifS (cmpT neD (methE 0 D_Air_helps (var 3) (acons (var 4) anil)) (iteE (cmpT gtD (var 6) (cst (.int 0))) (cst (.str [97, 115, 116, 101, 114, 110])) (iteE (cmpT ltD (var 6) (cst (.int 0))) (cst (.str [97, 104, 101, 97, 100])) (cst (.str [97, 98, 101, 97, 109])))))
    (retS (cst (.bl false)))
    skipS)
def RW7 : LE → R Out := (ifS (valT (meth0E 0 D_Air_is_calm (var 3)))
    (ifS (cmpT neD (toldE toldL (meth0E 0 D_Air_comes_from (var 3))) (cst (.str [110, 111, 32, 119, 97, 121])))
    (retS (cst (.bl false)))
    skipS)
    (seqS (setK 7 (ownK (compF (rng1E (acons (cst (.int 8)) anil)) (gN 8) yesT (callE D_score (acons (fldE fx_down (var 3)) (acons (opE subD (cst (.int 0)) (fldE fx_right (var 3))) (acons (var 8) anil)))) [8])))
    (seqS (ifS (cmpT neD (subE (varP 7) (callE D_eighth_of (acons (meth0E 0 D_Air_comes_from (var 3)) anil))) (callE maxL (acons (varP 7) anil)))
    (retS (cst (.bl false)))
    skipS)
    (seqS (setK 9 (valK (callE D_law_way (acons (tupE (acons (cst (.int 0)) (acons (cst (.int 0)) anil))) (acons (tupE (acons (opE subD (cst (.int 0)) (fldE fx_down (var 3))) (acons (opE subD (cst (.int 0)) (fldE fx_right (var 3))) anil))) anil)))))
    (ifS (andT (cmpT inD (var 9) (cst d_EIGHTS)) (cmpT neD (meth0E 0 D_Air_comes_from (var 3)) (var 9)))
    (retS (cst (.bl false)))
    skipS)))))
def RW8 : LE → R Out := (setK 10 (valK (lE (compF (rng1E (acons (callE rollD (acons (var 0) (acons (cst (.int 6)) anil))) anil)) (gN 8) yesT (subE (cst d_EIGHTS) (callE rollD (acons (var 0) (acons (cst (.int 8)) anil)))) [8]))))
def RW9 : LE → R Out := (setK 11 (ownK (compF (rng2E (acons (cst (.int 1)) (acons (callE lenX (acons (var 10) anil)) anil))) (gN 8) yesT (opE modD (opE subD (kbmE d_EIGHTS idxTp (acons (subE (var 10) (var 8)) anil)) (kbmE d_EIGHTS idxTp (acons (subE (var 10) (opE subD (var 8) (cst (.int 1)))) anil))) (cst (.int 8))) [8])))
def RW10 : LE → R Out := (ifS (cmpT neD (lE (callF listD (acons (callE D_backs_or_veers (acons (var 10) anil)) anil))) (lE (compF (itL (varP 11)) (gN 12) yesT (iteE (cmpT eqD (var 12) (cst (.int 0))) (cst (.str [115, 116, 97, 121, 115])) (iteE (cmpT eqD (var 12) (cst (.int 4))) (cst (.str [116, 117, 114, 110, 115])) (iteE (cmpT ltD (var 12) (cst (.int 4))) (cst (.str [118, 101, 101, 114, 115])) (cst (.str [98, 97, 99, 107, 115]))))) [12])))
    (retS (cst (.bl false)))
    skipS)
def RW11 : LE → R Out := (ifS (cmpT neD (toldE toldL (callE D_eighth_of (acons (cst (.str [120])) anil))) (cst (.str [102, 108, 101, 101, 116])))
    (retS (cst (.bl false)))
    skipS)
def RW12 : LE → R Out := (ifS (cmpT neD (toldE toldL (callE D_readers (acons (var 2) (acons (var 1) (acons (cst (.str [122])) (acons (cst (.int 1)) anil)))))) (cst (.str [102, 108, 101, 101, 116])))
    (retS (cst (.bl false)))
    skipS)
def RW13 : LE → R Out := (retS (cst (.bl true)))
def RWs13 : LE → R Out := RW13
def RWs12 : LE → R Out := seqS RW12 RWs13
def RWs11 : LE → R Out := seqS RW11 RWs12
def RWs10 : LE → R Out := seqS RW10 RWs11
def RWs9 : LE → R Out := seqS RW9 RWs10
def RWs8 : LE → R Out := seqS RW8 RWs9
def RWs7 : LE → R Out := seqS RW7 RWs8
def RWs6 : LE → R Out := seqS RW6 RWs7
def RWs5 : LE → R Out := seqS RW5 RWs6
def RWs4 : LE → R Out := seqS RW4 RWs5
def RWs3 : LE → R Out := seqS RW3 RWs4
def RWs2 : LE → R Out := seqS RW2 RWs3
theorem meth0_ok {k : Nat} {F : List D → R D} {f : LE → R D} {r : LE} {fs : List D} (h : f r = .ok (.ins k fs)) : meth0E k F f r = F [.ins k fs] := by
  rw [meth0E_eq, h, R.ok_bind, isC_eq, R.ok_bind]
theorem meth1_ok {k : Nat} {F : List D → R D} {f g : LE → R D} {r : LE} {fs : List D} {x : D} (h : f r = .ok (.ins k fs)) (h2 : g r = .ok x) : methE k F f (acons g anil) r = F [.ins k fs, x] := by
  rw [methE_eq, h, R.ok_bind, isC_eq, R.ok_bind, acons_eq, h2]; rfl
theorem air_init (x y : Int) : D_Air_init [.int x, .int y] = .ok (air x y) := rfl
theorem air_felt (x y a b : Int) : D_Air_felt [air x y, sp a b] = .ok (air (x - a) (y - b)) := by
  rw [D_Air_felt, runF_eq _ _ _ _ (by rfl)]
  rfl
theorem air_true (x y a b : Int) : D_Air_true_air [air x y, sp a b] = .ok (air (x + a) (y + b)) := by
  rw [D_Air_true_air, runF_eq _ _ _ _ (by rfl)]
  rfl
theorem air_key (x y : Int) : D_Air_key [air x y] = .ok (sp x y) := by
  rw [D_Air_key, runF_eq _ _ _ _ (by rfl)]
  rfl
structure In4 (i : Int) : Prop where
  a : -4 ≤ i
  b : i ≤ 4
theorem In4.mul {i : Int} (h : In4 i) (z : Int) : mulD (.int i) (.int z) = .ok (.int (i * z)) := by
  have := h.a
  have := h.b
  exact mul_ok (by omega) (by omega)
theorem air_sq (x y : Int) (hx : In4 x) (hy : In4 y) : D_Air_squared_force [air x y] = .ok (.int (x * x + y * y)) := by
  rw [D_Air_squared_force, runF_eq _ _ _ _ (by rfl)]
  have e : F_Air_squared_force ([air x y].map Cell.val ++ List.replicate (1 - 1) Cell.un) = .ok (.rt (.int (x * x + y * y))) := by
    show R.onS ((mulD (.int x) (.int x)) >>= fun u => (mulD (.int y) (.int y)) >>= fun v => addD u v) _ _ = _
    rw [hx.mul, hy.mul]
    rfl
  rw [e]
  rfl
theorem air_calm (x y : Int) : D_Air_is_calm [air x y] = .ok (.bl (x == 0 && y == 0)) := by
  rw [D_Air_is_calm, runF_eq _ _ _ _ (by rfl)]
  have e : F_Air_is_calm ([air x y].map Cell.val ++ List.replicate (1 - 1) Cell.un) = .ok (.rt (.bl (x == 0 && y == 0))) := by
    show R.onS (andV _ _ _) _ _ = _
    have h1 : (opE eqD (fldE fx_down (var 0)) (cst (.int 0))) ([air x y].map Cell.val ++ List.replicate (1 - 1) Cell.un) = .ok (.bl (x == 0)) := opE_ok (x := .int x) rfl rfl (eqD_int _ _)
    have h2 : (opE eqD (fldE fx_right (var 0)) (cst (.int 0))) ([air x y].map Cell.val ++ List.replicate (1 - 1) Cell.un) = .ok (.bl (y == 0)) := opE_ok (x := .int y) rfl rfl (eqD_int _ _)
    rw [andV_eq, h1, R.ok_bind, andK_bl, h2]
    cases (x == 0) <;> rfl
  rw [e]
  rfl
def hp (i : Int) : List Nat := if 0 < i then [97, 115, 116, 101, 114, 110] else if i < 0 then [97, 104, 101, 97, 100] else [97, 98, 101, 97, 109]
theorem hp_ite {f : LE → R D} {r : LE} {i : Int} (h : f r = .ok (.int i)) : (iteE (cmpT gtD f (cst (.int 0))) (cst (.str [97, 115, 116, 101, 114, 110])) (iteE (cmpT ltD f (cst (.int 0))) (cst (.str [97, 104, 101, 97, 100])) (cst (.str [97, 98, 101, 97, 109])))) r = .ok (.str (hp i)) := by
  rw [iteE_eq, cmp_eq h rfl (gtD_int _ _), R.ok_bind, iteE_eq, cmp_eq h rfl (ltD_int _ _), R.ok_bind]
  unfold hp
  by_cases h1 : 0 < i
  · simp [h1]
  · by_cases h2 : i < 0
    · simp [h1, h2]
    · simp [h1, h2]
theorem air_helps (x y a b : Int) (hx : In4 x) (hy : In4 y) : D_Air_helps [air x y, sp a b] = .ok (.str (hp (x * a + y * b))) := by
  rw [D_Air_helps, runF_eq _ _ _ _ (by rfl)]
  show ((F_Air_helps [.val (air x y), .val (sp a b), .un]).calm >>= fin) = _
  have e : F_Air_helps [.val (air x y), .val (sp a b), .un] = .ok (.rt (.str (hp (x * a + y * b)))) := by
    refine seq_eq (r2 := [.val (air x y), .val (sp a b), .val (.int (x * a + y * b))]) ((set_ok (d := .int (x * a + y * b)) ?_).trans rfl) ?_
    · show ((mulD (.int x) (.int a)) >>= fun u => (mulD (.int y) (.int b)) >>= fun v => addD u v) = _
      rw [hx.mul, hy.mul]
      rfl
    · rw [retS_eq, hp_ite (i := x * a + y * b) rfl]
      rfl
  rw [e]
  rfl
variable {N : List Nat} {s : Nat → Int × Int} {w : Nat} {x y a b : Int} {c5 c6 c7 c8 c9 c10 c11 c12 : Cell}
abbrev rt (N : List Nat) (s : Nat → Int × Int) (w : Nat) (x y a b : Int) (c5 c6 c7 c8 c9 c10 c11 c12 : Cell) : LE := [.val .dice, .val (.dic (dcD (spv s) N)), .val (.str (wnm w)), .val (air x y), .val (sp a b), c5, c6, c7, c8, c9, c10, c11, c12]
theorem r2 : RW2 (rt N s w x y a b c5 c6 c7 c8 c9 c10 c11 c12) = .ok (.nx (rt N s w x y a b (.val (air (x - a) (y - b))) c6 c7 c8 c9 c10 c11 c12)) :=
  (set_ok ((meth1_ok rfl rfl).trans (air_felt x y a b))).trans rfl
theorem ne_sp (a b c d : Int) (h1 : a = c) (h2 : b = d) : neD (sp a b) (sp c d) = .ok (.bl false) := by
  subst h1 h2
  rw [neD_tup2]; simp
theorem r3 : RW3 (rt N s w x y a b (.val (air (x - a) (y - b))) c6 c7 c8 c9 c10 c11 c12) = .ok (.nx (rt N s w x y a b (.val (air (x - a) (y - b))) c6 c7 c8 c9 c10 c11 c12)) := by
  refine no_ok ?_
  have h1 : (meth0E 0 D_Air_key (var 5)) (rt N s w x y a b (.val (air (x - a) (y - b))) c6 c7 c8 c9 c10 c11 c12) = .ok (sp (x - a) (y - b)) := (meth0_ok rfl).trans (air_key _ _)
  have h2 : (tupE (acons (opE subD (fldE fx_down (var 3)) (subE (var 4) (cst (.int 0)))) (acons (opE subD (fldE fx_right (var 3)) (subE (var 4) (cst (.int 1)))) anil))) (rt N s w x y a b (.val (air (x - a) (y - b))) c6 c7 c8 c9 c10 c11 c12) = .ok (sp (x - a) (y - b)) := rfl
  have h3 : (methE 0 D_Air_true_air (var 5) (acons (var 4) anil)) (rt N s w x y a b (.val (air (x - a) (y - b))) c6 c7 c8 c9 c10 c11 c12) = .ok (air (x - a + a) (y - b + b)) := (meth1_ok rfl rfl).trans (air_true _ _ _ _)
  have h4 : (meth0E 0 D_Air_key (methE 0 D_Air_true_air (var 5) (acons (var 4) anil))) (rt N s w x y a b (.val (air (x - a) (y - b))) c6 c7 c8 c9 c10 c11 c12) = .ok (sp (x - a + a) (y - b + b)) := (meth0_ok h3).trans (air_key _ _)
  have h5 : (meth0E 0 D_Air_key (var 3)) (rt N s w x y a b (.val (air (x - a) (y - b))) c6 c7 c8 c9 c10 c11 c12) = .ok (sp x y) := (meth0_ok rfl).trans (air_key _ _)
  rw [orT_eq, cmp_eq h1 h2 (ne_sp _ _ _ _ rfl rfl), R.ok_bind, if_neg (by decide)]
  exact cmp_eq h4 h5 (ne_sp _ _ _ _ (by omega) (by omega))
theorem r4 (hx : In4 x) (hy : In4 y) : RW4 (rt N s w x y a b c5 c6 c7 c8 c9 c10 c11 c12) = .ok (.nx (rt N s w x y a b c5 c6 c7 c8 c9 c10 c11 c12)) := by
  refine no_ok ?_
  have h1 : (meth0E 0 D_Air_squared_force (var 3)) (rt N s w x y a b c5 c6 c7 c8 c9 c10 c11 c12) = .ok (.int (x * x + y * y)) := (meth0_ok rfl).trans (air_sq _ _ hx hy)
  have h2 : (opE addD (opE mulD (fldE fx_down (var 3)) (fldE fx_down (var 3))) (opE mulD (fldE fx_right (var 3)) (fldE fx_right (var 3)))) (rt N s w x y a b c5 c6 c7 c8 c9 c10 c11 c12) = .ok (.int (x * x + y * y)) :=
    opE_ok (opE_ok (x := .int x) (y := .int x) rfl rfl (hx.mul x)) (opE_ok (x := .int y) (y := .int y) rfl rfl (hy.mul y)) (addD_int _ _)
  have h3 : (meth0E 0 D_Air_is_calm (var 3)) (rt N s w x y a b c5 c6 c7 c8 c9 c10 c11 c12) = .ok (.bl (x == 0 && y == 0)) := (meth0_ok rfl).trans (air_calm _ _)
  have h4 : (opE eqD (meth0E 0 D_Air_key (var 3)) (tupE (acons (cst (.int 0)) (acons (cst (.int 0)) anil)))) (rt N s w x y a b c5 c6 c7 c8 c9 c10 c11 c12) = .ok (.bl (x == 0 && y == 0)) := opE_ok ((meth0_ok rfl).trans (air_key _ _)) rfl (eqD_tup2 x y 0 0)
  rw [orT_eq, cmp_eq h1 h2 (ne_int_self _), R.ok_bind, if_neg (by decide)]
  exact cmp_eq h3 h4 (ne_bl_self _)
theorem r5 (hx : In4 x) (hy : In4 y) : RW5 (rt N s w x y a b c5 c6 c7 c8 c9 c10 c11 c12) = .ok (.nx (rt N s w x y a b c5 (.val (.int (x * a + y * b))) c7 c8 c9 c10 c11 c12)) := by
  have h2 : (opE addD (opE mulD (fldE fx_down (var 3)) (subE (var 4) (cst (.int 0)))) (opE mulD (fldE fx_right (var 3)) (subE (var 4) (cst (.int 1))))) (rt N s w x y a b c5 c6 c7 c8 c9 c10 c11 c12) = .ok (.int (x * a + y * b)) :=
    opE_ok (opE_ok (x := .int x) (y := .int a) rfl rfl (hx.mul a)) (opE_ok (x := .int y) (y := .int b) rfl rfl (hy.mul b)) (addD_int _ _)
  exact (set_ok h2).trans rfl
theorem r6 (hx : In4 x) (hy : In4 y) : RW6 (rt N s w x y a b c5 (.val (.int (x * a + y * b))) c7 c8 c9 c10 c11 c12) = .ok (.nx (rt N s w x y a b c5 (.val (.int (x * a + y * b))) c7 c8 c9 c10 c11 c12)) := by
  have h1 : (methE 0 D_Air_helps (var 3) (acons (var 4) anil)) (rt N s w x y a b c5 (.val (.int (x * a + y * b))) c7 c8 c9 c10 c11 c12) = .ok (.str (hp (x * a + y * b))) := (meth1_ok rfl rfl).trans (air_helps x y a b hx hy)
  exact no_ok (cmp_eq h1 (hp_ite rfl) (ne_str_self _))
end K14
set_option Elab.async false
set_option linter.all false
set_option maxRecDepth 100000
namespace K14
open DL PySem PySem.Spec PyProof.Rows
variable {N : List Nat} {s : Nat → Int × Int} {w : Nat} {x y a b : Int} {c5 c6 c7 c8 c9 c10 c11 c12 : Cell}
def tops (x y : Int) : List D := W8.map fun k => .int (sc x y k)
theorem chkA_zero {x y : Int} (h : chkA x y = true) (n : x = 0 ∧ y = 0) : D_Air_comes_from [air x y] = .err ⟨7, .non⟩ := by
  unfold chkA at h
  rw [if_pos n] at h
  exact errOf_ok (by simpa using h)
theorem chkA_some {x y : Int} (h : chkA x y = true) (n : ¬ (x = 0 ∧ y = 0)) : (∀ k ∈ W8, D_score [.int x, .int (0 - y), .int (k : Nat)] = .ok (.int (sc x y k))) ∧ ∃ k, k < 8 ∧ D_Air_comes_from [air x y] = .ok (.str (wnm k)) ∧ maxL [.lst (tops x y)] = .ok (.int (sc x y k)) ∧ ∀ j, wix (0 - x) (0 - y) = some j → j = k := by
  unfold chkA at h
  rw [if_neg n, Bool.and_eq_true] at h
  obtain ⟨h1, h2⟩ := h
  refine ⟨fun k hk => ?_, ?_⟩
  · have := List.all_eq_true.mp h1 k hk
    exact intOf_ok (by simpa using this)
  · split at h2
    case h_2 => cases h2
    rename_i k hk
    simp only [Bool.and_eq_true, decide_eq_true_eq, beq_iff_eq] at h2
    obtain ⟨⟨⟨g1, g2⟩, g3⟩, g4⟩ := h2
    refine ⟨k, g1, strOf_ok g2, intOf_ok g3, fun j hj => ?_⟩
    rw [hj] at g4
    simpa using g4
theorem tops_at (x y : Int) (k : Nat) (hk : k < 8) : subI (.lst (tops x y)) (.int (k : Nat)) = .ok (.int (sc x y k)) := eight (P := fun k => subI (.lst (tops x y)) (.int (k : Nat)) = .ok (.int (sc x y k))) ⟨rfl, rfl, rfl, rfl, rfl, rfl, rfl, rfl⟩ k hk
theorem rng8 : rng1 [.int 8] = .ok (W8.map fun k => .int ((k : Nat) : Int)) := by
  have h := rng1_nat 8 (by decide)
  rw [show ((8 : Nat) : Int) = 8 from rfl] at h
  rw [h]
  rfl
theorem r7 (hx : In4 x) (hy : In4 y) : ∃ c7' c8' c9', RW7 (rt N s w x y a b c5 c6 c7 c8 c9 c10 c11 c12) = .ok (.nx (rt N s w x y a b c5 c6 c7' c8' c9' c10 c11 c12)) := by
  have hc := chkA_at hx.a hx.b hy.a hy.b
  have hcalm : (valT (meth0E 0 D_Air_is_calm (var 3))) (rt N s w x y a b c5 c6 c7 c8 c9 c10 c11 c12) = .ok (x == 0 && y == 0) := by
    rw [valT_eq, (meth0_ok (F := D_Air_is_calm) (f := var 3) (r := rt N s w x y a b c5 c6 c7 c8 c9 c10 c11 c12) (fs := [.int x, .int y]) rfl).trans (air_calm x y)]
    rfl
  by_cases n : x = 0 ∧ y = 0
  · refine ⟨c7, c8, c9, (if_yes (hcalm.trans (by rw [n.1, n.2]; rfl))).trans ?_⟩
    have h1 : (toldE toldL (meth0E 0 D_Air_comes_from (var 3))) (rt N s w x y a b c5 c6 c7 c8 c9 c10 c11 c12) = .ok (.str S_noway) := by
      rw [toldE_eq, (meth0_ok (F := D_Air_comes_from) (f := var 3) (r := rt N s w x y a b c5 c6 c7 c8 c9 c10 c11 c12) (fs := [.int x, .int y]) rfl).trans (chkA_zero hc n)]
      rfl
    exact no_ok (cmp_eq h1 rfl (ne_str_self _))
  · obtain ⟨hs, k, hk, g2, g3, g4⟩ := chkA_some hc n
    have nb : (x == 0 && y == 0) = false := by
      cases h : (x == 0 && y == 0) with
      | false => rfl
      | true => exact absurd (by simpa using h) n
    have e7 : (compF (rng1E (acons (cst (.int 8)) anil)) (gN 8) yesT (callE D_score (acons (fldE fx_down (var 3)) (acons (opE subD (cst (.int 0)) (fldE fx_right (var 3))) (acons (var 8) anil)))) [8]) (rt N s w x y a b c5 c6 c7 c8 c9 c10 c11 c12) = .ok (tops x y) := by
      have e0 : (rng1E (acons (cst (.int 8)) anil)) (rt N s w x y a b c5 c6 c7 c8 c9 c10 c11 c12) = rng1 [.int 8] := by
        rw [rng1E_eq, acons_eq, cst_eq, R.ok_bind, anil_eq, R.ok_bind, R.ok_bind]
      rw [compF_eq, e0, rng8, R.ok_bind, if_pos (by decide)]
      refine loopC_ix (fun k => .int ((k : Nat) : Int)) (fun k => .int (sc x y k)) W8 fun j hj => ⟨_, rfl, ?_⟩
      exact (call3 (x := .int x) (y := .int (0 - y)) (z := .int (j : Nat)) rfl rfl rfl).trans (hs j hj)
    have st7 : (setK 7 (ownK (compF (rng1E (acons (cst (.int 8)) anil)) (gN 8) yesT (callE D_score (acons (fldE fx_down (var 3)) (acons (opE subD (cst (.int 0)) (fldE fx_right (var 3))) (acons (var 8) anil)))) [8]))) (rt N s w x y a b c5 c6 c7 c8 c9 c10 c11 c12) = .ok (.nx (rt N s w x y a b c5 c6 (.own (.lst (tops x y))) c8 c9 c10 c11 c12)) := by
      rw [setK_eq, ownK_eq, e7]
      rfl
    have cf : ∀ c9, (meth0E 0 D_Air_comes_from (var 3)) (rt N s w x y a b c5 c6 (.own (.lst (tops x y))) c8 c9 c10 c11 c12) = .ok (.str (wnm k)) := fun c9 => (meth0_ok (F := D_Air_comes_from) (f := var 3) (r := rt N s w x y a b c5 c6 (.own (.lst (tops x y))) c8 c9 c10 c11 c12) (fs := [.int x, .int y]) rfl).trans g2
    have t1 : (subE (varP 7) (callE D_eighth_of (acons (meth0E 0 D_Air_comes_from (var 3)) anil))) (rt N s w x y a b c5 c6 (.own (.lst (tops x y))) c8 c9 c10 c11 c12) = .ok (.int (sc x y k)) := subE_ok (x := .lst (tops x y)) rfl ((call1 (cf c9)).trans (eighth_eq k hk)) (tops_at x y k hk)
    have t2 : (callE maxL (acons (varP 7) anil)) (rt N s w x y a b c5 c6 (.own (.lst (tops x y))) c8 c9 c10 c11 c12) = .ok (.int (sc x y k)) := (call1 (x := .lst (tops x y)) rfl).trans g3
    have hx1 := hx.a
    have hx2 := hx.b
    have hy1 := hy.a
    have hy2 := hy.b
    have hch : chkW (0 - x) (0 - y) = true := chkW_at (by omega) (by omega) (by omega) (by omega)
    have nz : ¬ (0 - x = 0 ∧ 0 - y = 0) := fun ⟨p, q⟩ => n ⟨by omega, by omega⟩
    have wv : (tupE (acons (cst (.int 0)) (acons (cst (.int 0)) anil))) (rt N s w x y a b c5 c6 (.own (.lst (tops x y))) c8 c9 c10 c11 c12) = .ok (sp 0 0) := rfl
    have wu : (tupE (acons (opE subD (cst (.int 0)) (fldE fx_down (var 3))) (acons (opE subD (cst (.int 0)) (fldE fx_right (var 3))) anil))) (rt N s w x y a b c5 c6 (.own (.lst (tops x y))) c8 c9 c10 c11 c12) = .ok (sp (0 - x) (0 - y)) := rfl
    have fin : ∀ S : List Nat, D_law_way [sp 0 0, sp (0 - x) (0 - y)] = .ok (.str S) → (andT (cmpT inD (var 9) (cst d_EIGHTS)) (cmpT neD (meth0E 0 D_Air_comes_from (var 3)) (var 9))) (rt N s w x y a b c5 c6 (.own (.lst (tops x y))) c8 (.val (.str S)) c10 c11 c12) = .ok false →
        RW7 (rt N s w x y a b c5 c6 c7 c8 c9 c10 c11 c12) = .ok (.nx (rt N s w x y a b c5 c6 (.own (.lst (tops x y))) c8 (.val (.str S)) c10 c11 c12)) := fun S hS hT => by
      refine (if_no (hcalm.trans (by rw [nb]))).trans (seq_eq st7 (seq_eq (no_ok (cmp_eq t1 t2 (ne_int_self _))) ?_))
      exact seq_eq (r2 := rt N s w x y a b c5 c6 (.own (.lst (tops x y))) c8 (.val (.str S)) c10 c11 c12) ((set_ok ((call2 wv wu).trans hS)).trans rfl) (no_ok hT)
    cases e : wix (0 - x) (0 - y) with
    | some j =>
      obtain ⟨hj, q2, _⟩ := chk_some hch e
      have ejk := g4 j e
      subst ejk
      refine ⟨_, _, _, fin _ q2 ?_⟩
      rw [andT_eq, cmp_eq rfl rfl (in_EI j hj), R.ok_bind, if_pos rfl]
      exact cmp_eq (cf _) rfl (ne_str_self _)
    | none =>
      refine ⟨_, _, _, fin _ (chk_none hch e nz).1 ?_⟩
      rw [andT_eq, cmp_eq (b := false) rfl rfl rfl, R.ok_bind, if_neg (by decide)]
theorem r11 : RW11 (rt N s w x y a b c5 c6 c7 c8 c9 c10 c11 c12) = .ok (.nx (rt N s w x y a b c5 c6 c7 c8 c9 c10 c11 c12)) := by
  have h1 : (toldE toldL (callE D_eighth_of (acons (cst (.str [120])) anil))) (rt N s w x y a b c5 c6 c7 c8 c9 c10 c11 c12) = .ok (.str S_fleet) := by
    rw [toldE_eq, call1 (F := D_eighth_of) (x := .str [120]) rfl]
    rfl
  exact no_ok (cmp_eq h1 rfl (ne_str_self _))
theorem readers_z (h : ∀ k ∈ N, k < 5) : D_readers [.str (wnm w), .dic (dcD (spv s) N), .str [122], .int 1] = .err ⟨4, .non⟩ := by
  rw [D_readers, runF_eq _ _ _ _ (by rfl), F_readers_split]
  have hn := notin_nm (spv s) 25 N
  have e : N.contains 25 = false := by
    cases hc : N.contains 25 with
    | false => rfl
    | true =>
      have := h 25 (by simpa using hc)
      omega
  rw [e] at hn
  have run : RAs1 [.val (.str (wnm w)), .val (.dic (dcD (spv s) N)), .val (.str [122]), .val (.int 1), .un, .un] = .ok (.ex ⟨4, .non⟩ [.val (.str (wnm w)), .val (.dic (dcD (spv s) N)), .val (.str [122]), .val (.int 1), .un, .un]) := by
    have e1 : RA1 [.val (.str (wnm w)), .val (.dic (dcD (spv s) N)), .val (.str [122]), .val (.int 1), .un, .un] = .ok (.ex ⟨4, .non⟩ [.val (.str (wnm w)), .val (.dic (dcD (spv s) N)), .val (.str [122]), .val (.int 1), .un, .un]) := (if_yes (cmp_eq rfl rfl hn)).trans rfl
    show seqS RA1 RAs2 _ = _
    rw [seqS_eq, e1]
    rfl
  show ((RAs1 [.val (.str (wnm w)), .val (.dic (dcD (spv s) N)), .val (.str [122]), .val (.int 1), .un, .un]).calm >>= fin) = _
  rw [run]
  rfl
theorem r12 (h : ∀ k ∈ N, k < 5) : RW12 (rt N s w x y a b c5 c6 c7 c8 c9 c10 c11 c12) = .ok (.nx (rt N s w x y a b c5 c6 c7 c8 c9 c10 c11 c12)) := by
  have h1 : (toldE toldL (callE D_readers (acons (var 2) (acons (var 1) (acons (cst (.str [122])) (acons (cst (.int 1)) anil)))))) (rt N s w x y a b c5 c6 c7 c8 c9 c10 c11 c12) = .ok (.str S_fleet) := by
    rw [toldE_eq, call4 (F := D_readers) (x := .str (wnm w)) (y := .dic (dcD (spv s) N)) (z := .str [122]) (u := .int 1) rfl rfl rfl rfl, readers_z h]
    rfl
  exact no_ok (cmp_eq h1 rfl (ne_str_self _))
end K14
set_option Elab.async false
set_option linter.all false
set_option maxRecDepth 100000
namespace K14
open DL PySem PySem.Spec PyProof.Rows
variable {N : List Nat} {s : Nat → Int × Int} {w : Nat} {x y a b : Int} {c5 c6 c7 c8 c9 c10 c11 c12 : Cell}
abbrev wD (k : Nat) : D := .str (wnm k)
theorem all_wD : ∀ ys : List D, (∀ d ∈ ys, ∃ k, k < 8 ∧ d = wD k) → ∃ ws : List Nat, ys = ws.map wD ∧ ws.length = ys.length ∧ ∀ k ∈ ws, k < 8
  | [], _ => ⟨[], rfl, rfl, fun _ h => by cases h⟩
  | d :: ys, h => by
    obtain ⟨k, hk, rfl⟩ := h d List.mem_cons_self
    obtain ⟨ws, rfl, e2, e3⟩ := all_wD ys fun x hx => h x (List.mem_cons_of_mem _ hx)
    refine ⟨k :: ws, rfl, by rw [List.length_cons, List.length_cons, e2], fun j hj => ?_⟩
    rcases List.mem_cons.mp hj with rfl | hj
    · exact hk
    · exact e3 j hj
theorem r8 {Q : Out → Prop} (h : ∀ ws : List Nat, ws.length ≤ 5 → (∀ k ∈ ws, k < 8) → Q (.nx (rt N s w x y a b c5 c6 c7 c8 c9 (.val (.lst (ws.map wD))) c11 c12))) : Sure (RW8 (rt N s w x y a b c5 c6 c7 c8 c9 c10 c11 c12)) Q := by
  have g0 : (callE rollD (acons (var 0) (acons (cst (.int 6)) anil))) (rt N s w x y a b c5 c6 c7 c8 c9 c10 c11 c12) = .roll 6 fun i => .ok (.int (i : Nat)) := (call2 (x := .dice) (y := .int 6) rfl rfl).trans R6
  obtain ⟨ff, hff⟩ : ∃ ff : Nat → R (List D), ff = fun m => rng1 [.int ((m : Nat) : Int)] := ⟨_, rfl⟩
  have g1 : (rng1E (acons (callE rollD (acons (var 0) (acons (cst (.int 6)) anil))) anil)) (rt N s w x y a b c5 c6 c7 c8 c9 c10 c11 c12) = .roll 6 ff := by
    rw [rng1E_eq, acons_eq, g0, hff]
    simp only [R.roll_bind, R.ok_bind, anil_eq]
  have g2 : ∀ m, m < 6 → ff m = .ok (rangeL 0 m) := fun m hm => by rw [hff]; exact rng1_nat m (by omega)
  clear hff
  refine ⟨Wp_setK ?_⟩
  rw [lE_eq, compF_eq, g1]
  refine Wp.of_bind (Wp.of_bind ?_)
  intro m hm
  show Wp (ff m) _ _
  rw [g2 m hm]
  have rl : (rangeL 0 m).length = m := by simp [rangeL]
  show Wp (if (rangeL 0 m).length ≤ 16777216 then _ else _) _ _
  rw [if_pos (by rw [rl]; omega)]
  refine loopC_wp (fun d => ∃ k, k < 8 ∧ d = wD k) _ _ (fun d hd => ⟨_, rfl, ?_⟩) fun ys hl hys => ?_
  · have e : (subE (cst d_EIGHTS) (callE rollD (acons (var 0) (acons (cst (.int 8)) anil)))) (rt N s w x y a b c5 c6 c7 (.val d) c9 c10 c11 c12) = .roll 8 fun i => subI d_EIGHTS (.int (i : Nat)) := by
      rw [subE_eq, cst_eq, R.ok_bind, (call2 (F := rollD) (f1 := var 0) (f2 := cst (.int 8)) (r := rt N s w x y a b c5 c6 c7 (.val d) c9 c10 c11 c12) (x := .dice) (y := .int 8) rfl rfl).trans R8]
      simp only [R.roll_bind, R.ok_bind]
    show Wp ((subE (cst d_EIGHTS) (callE rollD (acons (var 0) (acons (cst (.int 8)) anil)))) (rt N s w x y a b c5 c6 c7 (.val d) c9 c10 c11 c12)) _ _
    rw [e]
    intro i hi
    show Wp (subI d_EIGHTS (.int (i : Nat))) _ _
    rw [sub_EI i hi]
    exact ⟨i, hi, rfl⟩
  · obtain ⟨ws, rfl, e2, e3⟩ := all_wD ys hys
    exact h ws (by omega) e3
def gW (ws : List Nat) (k : Nat) : Int := ((ws.getD k 0 : Nat) - (ws.getD (k - 1) 0 : Nat) : Int) % 8
theorem gW_lt (ws : List Nat) (k : Nat) : 0 ≤ gW ws k ∧ gW ws k < 8 := by unfold gW; omega
theorem lst_at (ws : List Nat) (k : Nat) (h : k < ws.length) : subI (.lst (ws.map wD)) (.int (k : Nat)) = .ok (wD (ws.getD k 0)) := by
  have e : L2.atI (ws.map wD) (k : Int) = some (wD (ws.getD k 0)) := by
    unfold L2.atI L2.ixN
    rw [List.length_map]
    have h1 : (0 : Int) ≤ (k : Int) := by omega
    have h2 : (k : Int) < (ws.length : Int) := by omega
    simp [h1, h2, h]
  show (match L2.atI (ws.map wD) (k : Int) with | some d => R.ok d | none => R.stuck) = _
  rw [e]
theorem getD_lt (ws : List Nat) (hws : ∀ k ∈ ws, k < 8) (k : Nat) : ws.getD k 0 < 8 := by
  rw [List.getD_eq_getElem?_getD]
  cases e : ws[k]? with
  | none => decide
  | some v => exact hws v (List.mem_of_getElem? e)
theorem rng2_eq (n : Nat) (h : n < 1000) : rng2 [.int 1, .int (n : Nat)] = .ok ((List.range (n - 1)).map fun i => .int (1 + (i : Nat))) := by
  show (if ((n : Nat) : Int) < 1073741824 ∧ -(1073741824) < ((n : Nat) : Int) ∧ (1 : Int) < 1073741824 ∧ -(1073741824) < (1 : Int) then R.ok (rangeL 1 (((n : Nat) : Int) - 1).toNat) else R.stuck) = _
  rw [if_pos ⟨by omega, by omega, by omega, by omega⟩]
  have : (((n : Nat) : Int) - 1).toNat = n - 1 := by omega
  rw [this]
  rfl
def gaps (ws : List Nat) : List D := (List.range (ws.length - 1)).map fun i => .int (gW ws (i + 1))
theorem r9 {ws : List Nat} (hl : ws.length ≤ 5) (hws : ∀ k ∈ ws, k < 8) : ∃ c8', RW9 (rt N s w x y a b c5 c6 c7 c8 c9 (.val (.lst (ws.map wD))) c11 c12) = .ok (.nx (rt N s w x y a b c5 c6 c7 c8' c9 (.val (.lst (ws.map wD))) (.own (.lst (gaps ws))) c12)) := by
  refine ⟨c8, ?_⟩
  have e0 : (rng2E (acons (cst (.int 1)) (acons (callE lenX (acons (var 10) anil)) anil))) (rt N s w x y a b c5 c6 c7 c8 c9 (.val (.lst (ws.map wD))) c11 c12) = .ok ((List.range (ws.length - 1)).map fun i => .int (1 + (i : Nat))) := by
    have hln : (callE lenX (acons (var 10) anil)) (rt N s w x y a b c5 c6 c7 c8 c9 (.val (.lst (ws.map wD))) c11 c12) = .ok (.int (ws.length : Nat)) := by
      refine (call1 (x := .lst (ws.map wD)) rfl).trans ?_
      show R.ok (D.int ((ws.map wD).length : Nat)) = _
      rw [List.length_map]
    show (acons (cst (.int 1)) (acons (callE lenX (acons (var 10) anil)) anil)) _ >>= rng2 = _
    rw [acons_eq, cst_eq, R.ok_bind, acons_eq, hln, R.ok_bind, anil_eq, R.ok_bind, R.ok_bind, R.ok_bind]
    exact rng2_eq _ (by omega)
  have e1 : (compF (rng2E (acons (cst (.int 1)) (acons (callE lenX (acons (var 10) anil)) anil))) (gN 8) yesT (opE modD (opE subD (kbmE d_EIGHTS idxTp (acons (subE (var 10) (var 8)) anil)) (kbmE d_EIGHTS idxTp (acons (subE (var 10) (opE subD (var 8) (cst (.int 1)))) anil))) (cst (.int 8))) [8]) (rt N s w x y a b c5 c6 c7 c8 c9 (.val (.lst (ws.map wD))) c11 c12) = .ok (gaps ws) := by
    rw [compF_eq, e0, R.ok_bind, if_pos (by rw [List.length_map, List.length_range]; omega)]
    refine loopC_ix (fun i => .int (1 + (i : Nat))) (fun i => .int (gW ws (i + 1))) _ fun i hi => ⟨_, rfl, ?_⟩
    rw [List.mem_range] at hi
    show (opE modD _ _) (rt N s w x y a b c5 c6 c7 (.val (.int (1 + (i : Nat)))) c9 (.val (.lst (ws.map wD))) c11 c12) = _
    have i1 : (1 + ((i : Nat) : Int)) = ((i + 1 : Nat) : Int) := by omega
    have i2 : (1 + ((i : Nat) : Int)) - 1 = ((i : Nat) : Int) := by omega
    have k1 : (subE (var 10) (var 8)) (rt N s w x y a b c5 c6 c7 (.val (.int (1 + (i : Nat)))) c9 (.val (.lst (ws.map wD))) c11 c12) = .ok (wD (ws.getD (i + 1) 0)) := subE_ok (x := .lst (ws.map wD)) (y := .int (1 + (i : Nat))) rfl rfl (by rw [i1]; exact lst_at ws (i + 1) (by omega))
    have k2 : (subE (var 10) (opE subD (var 8) (cst (.int 1)))) (rt N s w x y a b c5 c6 c7 (.val (.int (1 + (i : Nat)))) c9 (.val (.lst (ws.map wD))) c11 c12) = .ok (wD (ws.getD i 0)) := subE_ok (x := .lst (ws.map wD)) (y := .int ((1 + (i : Nat)) - 1)) rfl (opE_ok (x := .int (1 + (i : Nat))) rfl rfl (subD_int _ _)) (by rw [i2]; exact lst_at ws i (by omega))
    refine opE_ok (opE_ok ((kbm1 k1).trans (idx_EI _ (getD_lt ws hws _))) ((kbm1 k2).trans (idx_EI _ (getD_lt ws hws _))) (subD_int _ _)) rfl ((modD_int _ _ (by decide)).trans ?_)
    rfl
  show setK 11 (ownK _) (rt N s w x y a b c5 c6 c7 c8 c9 (.val (.lst (ws.map wD))) c11 c12) = _
  rw [setK_eq, ownK_eq, e1]
  rfl
def bw (g : Int) : List Nat := if g = 0 then [115, 116, 97, 121, 115] else if g = 4 then [116, 117, 114, 110, 115] else if g < 4 then [118, 101, 101, 114, 115] else [98, 97, 99, 107, 115]
abbrev wordsT : D := .tup [.str [115, 116, 97, 121, 115], .str [118, 101, 101, 114, 115], .str [118, 101, 101, 114, 115], .str [118, 101, 101, 114, 115], .str [116, 117, 114, 110, 115], .str [98, 97, 99, 107, 115], .str [98, 97, 99, 107, 115], .str [98, 97, 99, 107, 115]]
theorem word_at (g : Int) (h : 0 ≤ g ∧ g < 8) : subI wordsT (.int g) = .ok (.str (bw g)) := by
  have : g = 0 ∨ g = 1 ∨ g = 2 ∨ g = 3 ∨ g = 4 ∨ g = 5 ∨ g = 6 ∨ g = 7 := by omega
  rcases this with rfl | rfl | rfl | rfl | rfl | rfl | rfl | rfl <;> rfl
theorem bw_ite {f : LE → R D} {r : LE} {i : Int} (h : f r = .ok (.int i)) : (iteE (cmpT eqD f (cst (.int 0))) (cst (.str [115, 116, 97, 121, 115])) (iteE (cmpT eqD f (cst (.int 4))) (cst (.str [116, 117, 114, 110, 115])) (iteE (cmpT ltD f (cst (.int 4))) (cst (.str [118, 101, 101, 114, 115])) (cst (.str [98, 97, 99, 107, 115]))))) r = .ok (.str (bw i)) := by
  rw [iteE_eq, cmp_eq h rfl (eqD_int _ _), R.ok_bind, iteE_eq, cmp_eq h rfl (eqD_int _ _), R.ok_bind, iteE_eq, cmp_eq h rfl (ltD_int _ _), R.ok_bind]
  unfold bw
  by_cases h1 : i = 0
  · simp [h1]
  · by_cases h2 : i = 4
    · simp [h2]
    · by_cases h3 : i < 4
      · simp [h1, h2, h3]
      · simp [h1, h2, h3]
def bws (ws : List Nat) : List D := (List.range (ws.length - 1)).map fun i => .str (bw (gW ws (i + 1)))
theorem bv_eq {ws : List Nat} (hl : ws.length ≤ 5) (hws : ∀ k ∈ ws, k < 8) : D_backs_or_veers [.lst (ws.map wD)] = .ok (.tup (bws ws)) := by
  rw [D_backs_or_veers, runF_eq _ _ _ _ (by rfl)]
  show ((F_backs_or_veers [.val (.lst (ws.map wD)), .un, .un]).calm >>= fin) = _
  have e0 : (rng2E (acons (cst (.int 1)) (acons (callE lenX (acons (var 0) anil)) anil))) [.val (.lst (ws.map wD)), .val wordsT, .un] = .ok ((List.range (ws.length - 1)).map fun i => .int (1 + (i : Nat))) := by
    have hln : (callE lenX (acons (var 0) anil)) [.val (.lst (ws.map wD)), .val wordsT, .un] = .ok (.int (ws.length : Nat)) := by
      refine (call1 (x := .lst (ws.map wD)) rfl).trans ?_
      show R.ok (D.int ((ws.map wD).length : Nat)) = _
      rw [List.length_map]
    show (acons (cst (.int 1)) (acons (callE lenX (acons (var 0) anil)) anil)) _ >>= rng2 = _
    rw [acons_eq, cst_eq, R.ok_bind, acons_eq, hln, R.ok_bind, anil_eq, R.ok_bind, R.ok_bind, R.ok_bind]
    exact rng2_eq _ (by omega)
  have e1 : (compF (rng2E (acons (cst (.int 1)) (acons (callE lenX (acons (var 0) anil)) anil))) (gN 2) yesT (subE (var 1) (opE modD (opE subD (callE D_eighth_of (acons (subE (var 0) (var 2)) anil)) (callE D_eighth_of (acons (subE (var 0) (opE subD (var 2) (cst (.int 1)))) anil))) (cst (.int 8)))) [2]) [.val (.lst (ws.map wD)), .val wordsT, .un] = .ok (bws ws) := by
    rw [compF_eq, e0, R.ok_bind, if_pos (by rw [List.length_map, List.length_range]; omega)]
    refine loopC_ix (fun i => .int (1 + (i : Nat))) (fun i => .str (bw (gW ws (i + 1)))) _ fun i hi => ⟨_, rfl, ?_⟩
    rw [List.mem_range] at hi
    show (subE _ _) [.val (.lst (ws.map wD)), .val wordsT, .val (.int (1 + (i : Nat)))] = _
    have i1 : (1 + ((i : Nat) : Int)) = ((i + 1 : Nat) : Int) := by omega
    have i2 : (1 + ((i : Nat) : Int)) - 1 = ((i : Nat) : Int) := by omega
    have k1 : (subE (var 0) (var 2)) [.val (.lst (ws.map wD)), .val wordsT, .val (.int (1 + (i : Nat)))] = .ok (wD (ws.getD (i + 1) 0)) := subE_ok (x := .lst (ws.map wD)) (y := .int (1 + (i : Nat))) rfl rfl (by rw [i1]; exact lst_at ws (i + 1) (by omega))
    have k2 : (subE (var 0) (opE subD (var 2) (cst (.int 1)))) [.val (.lst (ws.map wD)), .val wordsT, .val (.int (1 + (i : Nat)))] = .ok (wD (ws.getD i 0)) := subE_ok (x := .lst (ws.map wD)) (y := .int ((1 + (i : Nat)) - 1)) rfl (opE_ok (x := .int (1 + (i : Nat))) rfl rfl (subD_int _ _)) (by rw [i2]; exact lst_at ws i (by omega))
    refine subE_ok (x := wordsT) rfl (opE_ok (opE_ok ((call1 k1).trans (eighth_eq _ (getD_lt ws hws _))) ((call1 k2).trans (eighth_eq _ (getD_lt ws hws _))) (subD_int _ _)) rfl (modD_int _ _ (by decide))) ?_
    exact word_at _ (gW_lt ws (i + 1))
  have run : F_backs_or_veers [.val (.lst (ws.map wD)), .un, .un] = .ok (.rt (.tup (bws ws))) := by
    refine seq_eq (r2 := [.val (.lst (ws.map wD)), .val wordsT, .un]) rfl ?_
    rw [retS_eq, call1 (F := tupleD) (x := .lst (bws ws)) (by rw [lE_eq, e1]; rfl)]
    rfl
  rw [run]
  rfl
theorem bw_ok (g : Int) : okS (bw g) = true := by unfold bw; split <;> (try split) <;> (try split) <;> rfl
theorem shs_f {n : Nat} (f : Nat → List Nat) (hf : ∀ i, okS (f i) = true) : ∀ L : List Nat, D.shs (L.map fun i => .str (f i)) n = true
  | [] => by simp [D.shs]
  | k :: L => by
    rw [List.map_cons]
    simp only [D.shs, Bool.and_eq_true]
    exact ⟨hf k, shs_f f hf L⟩
theorem eqbs_f (f : Nat → List Nat) : ∀ L : List Nat, D.eqbs (L.map fun i => .str (f i)) (L.map fun i => .str (f i)) = true
  | [] => rfl
  | k :: L => by
    rw [List.map_cons]
    unfold D.eqbs
    rw [eqbs_f f L]
    simp [D.eqb]
theorem ne_f (f : Nat → List Nat) (hf : ∀ i, okS (f i) = true) (L : List Nat) : neD (.lst (L.map fun i => .str (f i))) (.lst (L.map fun i => .str (f i))) = .ok (.bl false) := by
  unfold neD
  have h1 : (D.lst (L.map fun i => .str (f i))).sh 64 = true := by simp only [D.sh]; exact shs_f f hf L
  rw [if_pos (by rw [h1]; simp)]
  show R.ok (D.bl (!D.eqbs _ _)) = _
  rw [eqbs_f]
  rfl
theorem r10 {ws : List Nat} (hl : ws.length ≤ 5) (hws : ∀ k ∈ ws, k < 8) : RW10 (rt N s w x y a b c5 c6 c7 c8 c9 (.val (.lst (ws.map wD))) (.own (.lst (gaps ws))) c12) = .ok (.nx (rt N s w x y a b c5 c6 c7 c8 c9 (.val (.lst (ws.map wD))) (.own (.lst (gaps ws))) c12)) := by
  have y1 : (lE (callF listD (acons (callE D_backs_or_veers (acons (var 10) anil)) anil))) (rt N s w x y a b c5 c6 c7 c8 c9 (.val (.lst (ws.map wD))) (.own (.lst (gaps ws))) c12) = .ok (.lst (bws ws)) := lst_call ((call1 (x := .lst (ws.map wD)) rfl).trans (bv_eq hl hws))
  have y2 : (lE (compF (itL (varP 11)) (gN 12) yesT (iteE (cmpT eqD (var 12) (cst (.int 0))) (cst (.str [115, 116, 97, 121, 115])) (iteE (cmpT eqD (var 12) (cst (.int 4))) (cst (.str [116, 117, 114, 110, 115])) (iteE (cmpT ltD (var 12) (cst (.int 4))) (cst (.str [118, 101, 101, 114, 115])) (cst (.str [98, 97, 99, 107, 115]))))) [12])) (rt N s w x y a b c5 c6 c7 c8 c9 (.val (.lst (ws.map wD))) (.own (.lst (gaps ws))) c12) = .ok (.lst (bws ws)) := by
    rw [lE_eq, compF_eq, show (itL (varP 11)) (rt N s w x y a b c5 c6 c7 c8 c9 (.val (.lst (ws.map wD))) (.own (.lst (gaps ws))) c12) = .ok (gaps ws) from rfl, R.ok_bind, if_pos (by unfold gaps; rw [List.length_map, List.length_range]; omega)]
    have fin := loopC_ix (gd := gN 12) (te := iteE (cmpT eqD (var 12) (cst (.int 0))) (cst (.str [115, 116, 97, 121, 115])) (iteE (cmpT eqD (var 12) (cst (.int 4))) (cst (.str [116, 117, 114, 110, 115])) (iteE (cmpT ltD (var 12) (cst (.int 4))) (cst (.str [118, 101, 101, 114, 115])) (cst (.str [98, 97, 99, 107, 115]))))) (r := wipeL (rt N s w x y a b c5 c6 c7 c8 c9 (.val (.lst (ws.map wD))) (.own (.lst (gaps ws))) c12) [12]) (fun i => .int (gW ws (i + 1))) (fun i => .str (bw (gW ws (i + 1)))) (List.range (ws.length - 1)) fun i hi => ⟨_, rfl, bw_ite rfl⟩
    unfold gaps at fin ⊢
    rw [fin]
    rfl
  exact no_ok (cmp_eq y1 y2 (ne_f _ (fun i => bw_ok _) _))
end K14
set_option Elab.async false
set_option linter.all false
set_option maxRecDepth 100000
namespace K14
open DL PySem PySem.Spec PyProof.Rows
variable {N : List Nat} {s : Nat → Int × Int} {w : Nat} {q : Int}
abbrev rz (N : List Nat) (s : Nat → Int × Int) (w : Nat) : LE := [.val .dice, .val (.dic (dcD (spv s) N)), .val (.str (wnm w)), .un, .un, .un, .un, .un, .un, .un, .un, .un, .un]
theorem r1 {Q : Out → Prop} (h : ∀ x y a b : Int, In4 x → In4 y → Q (.nx (rt N s w x y a b .un .un .un .un .un .un .un .un))) : Sure (RW1 (rz N s w)) Q := by
  have n9 : (callE rollD (acons (var 0) (acons (cst (.int 9)) anil))) (rz N s w) = .roll 9 fun i => .ok (.int (i : Nat)) := (call2 (x := .dice) (y := .int 9) rfl rfl).trans R9
  have n5 : (callE rollD (acons (var 0) (acons (cst (.int 5)) anil))) (rz N s w) = .roll 5 fun i => .ok (.int (i : Nat)) := (call2 (x := .dice) (y := .int 5) rfl rfl).trans R5
  have g : (tupE (acons (callE D_Air_init (acons (opE subD (callE rollD (acons (var 0) (acons (cst (.int 9)) anil))) (cst (.int 4))) (acons (opE subD (callE rollD (acons (var 0) (acons (cst (.int 9)) anil))) (cst (.int 4))) anil))) (acons (tupE (acons (opE subD (callE rollD (acons (var 0) (acons (cst (.int 5)) anil))) (cst (.int 2))) (acons (opE subD (callE rollD (acons (var 0) (acons (cst (.int 5)) anil))) (cst (.int 2))) anil))) anil))) (rz N s w) =
      .roll 9 fun i => .roll 9 fun j => .roll 5 fun k => .roll 5 fun l => .ok (.tup [air ((i : Nat) - 4) ((j : Nat) - 4), sp ((k : Nat) - 2) ((l : Nat) - 2)]) := by
    simp only [tupE_eq, acons_eq, callE_eq, opE_eq, cst_eq, anil_eq] at n9 n5 ⊢
    rw [n9, n5]
    simp only [R.roll_bind, R.ok_bind, subD_int, air_init]
    rfl
  refine ⟨?_⟩
  show Wp (R.onS _ _ _) _ _
  rw [g]
  intro i hi j hj k hk l hl
  exact h _ _ _ _ ⟨by omega, by omega⟩ ⟨by omega, by omega⟩
theorem rw1 : F_law_rest1 = seqS RW1 RWs2 := rfl
theorem rw2 : RWs2 = seqS RW2 RWs3 := rfl
theorem rw3 : RWs3 = seqS RW3 RWs4 := rfl
theorem rw4 : RWs4 = seqS RW4 RWs5 := rfl
theorem rw5 : RWs5 = seqS RW5 RWs6 := rfl
theorem rw6 : RWs6 = seqS RW6 RWs7 := rfl
theorem rw7 : RWs7 = seqS RW7 RWs8 := rfl
theorem rw8 : RWs8 = seqS RW8 RWs9 := rfl
theorem rw9 : RWs9 = seqS RW9 RWs10 := rfl
theorem rw10 : RWs10 = seqS RW10 RWs11 := rfl
theorem rw11 : RWs11 = seqS RW11 RWs12 := rfl
theorem rw12 : RWs12 = seqS RW12 RW13 := rfl
abbrev Tru (o : Out) : Prop := o = .rt (.bl true)
theorem rest_go (h5 : ∀ k ∈ N, k < 5) : Go Tru F_law_rest1 (rz N s w) := by
  refine Go.nxt rw1 fun Q hQ => r1 fun x y a b hx hy => hQ _ ?_
  refine Go.cons rw2 (r2 (x := x) (y := y) (a := a) (b := b)) ?_
  refine Go.cons rw3 (r3 (x := x) (y := y) (a := a) (b := b)) ?_
  refine Go.cons rw4 (r4 (a := a) (b := b) hx hy) ?_
  refine Go.cons rw5 (r5 (a := a) (b := b) hx hy) ?_
  refine Go.cons rw6 (r6 (a := a) (b := b) hx hy) ?_
  obtain ⟨c7, c8, c9, e⟩ := r7 (N := N) (s := s) (w := w) (a := a) (b := b) (c5 := .val (air (x - a) (y - b))) (c6 := .val (.int (x * a + y * b))) (c7 := .un) (c8 := .un) (c9 := .un) (c10 := .un) (c11 := .un) (c12 := .un) hx hy
  refine Go.cons rw7 e ?_
  refine Go.nxt rw8 fun Q hQ => r8 fun ws hl hws => hQ _ ?_
  obtain ⟨c8', e9⟩ := r9 (N := N) (s := s) (w := w) (x := x) (y := y) (a := a) (b := b) (c5 := .val (air (x - a) (y - b))) (c6 := .val (.int (x * a + y * b))) (c7 := c7) (c8 := c8) (c9 := c9) (c11 := .un) (c12 := .un) hl hws
  refine Go.cons rw9 e9 ?_
  refine Go.cons rw10 (r10 hl hws) ?_
  refine Go.cons rw11 r11 ?_
  refine Go.cons rw12 (r12 h5) ?_
  exact Go.last (o := .rt (.bl true)) rfl rfl
structure SureD (m : R D) (Q : D → Prop) : Prop where
  h : Wp m Q (fun _ => False)
theorem runF_go {n m : Nat} {F : LE → R Out} {ds : List D} {r : LE} (h : ds.length = n) (hr : ds.map Cell.val ++ List.replicate (m - n) Cell.un = r) (g : Go Tru F r) : SureD (runF n m F ds) (fun d => d = .bl true) := by
  subst hr
  rw [runF_eq _ _ _ _ h]
  exact ⟨Wp_fin (g.h.thn fun o ho => by rw [ho]; rfl)⟩
theorem rest_wp (h5 : ∀ k ∈ N, k < 5) : SureD (D_law_rest1 [.dice, .dic (dcD (spv s) N), .str (wnm w)]) (fun d => d = .bl true) :=
  runF_go (n := 3) (m := 13) (F := F_law_rest1) (ds := [.dice, .dic (dcD (spv s) N), .str (wnm w)]) (r := rz N s w) rfl rfl (rest_go h5)
structure SureB (m : R Bool) (Q : Bool → Prop) : Prop where
  h : Wp m Q (fun _ => False)
theorem not_call {f : LE → R D} {r : LE} {m : R D} (h : f r = m) (e : SureD m (fun d => d = .bl true)) : SureB (notT (valT f) r) (fun b => b = false) := by
  refine ⟨?_⟩
  rw [notT_eq, valT_eq, h]
  refine Wp.of_bind (Wp.of_bind (e.h.thn fun d hd => ?_))
  rw [hd]
  exact rfl
theorem if_rest {c : LE → R Bool} {F : LE → R Out} {r : LE} (h : SureB (c r) (fun b => b = false)) : Go Done (ifS c F skipS) r := by
  refine ⟨?_⟩
  rw [ifS_eq]
  refine Wp_onS (h.h.mono (fun b hb => ?_) fun _ z => z.elim)
  rw [hb, if_neg (by decide), skipS_eq]
  exact ⟨_, .inl rfl⟩
theorem Go.congr {P : Out → Prop} {F F' : LE → R Out} {r r' : LE} (e : F r = F' r') (g : Go P F' r') : Go P F r := ⟨by rw [e]; exact g.h⟩
theorem l13 {c5 c6 c7 c8 c9 c10 c11 c12 c13 c14 : Cell} (h5 : ∀ k ∈ N, k < 5) : Go Done LW13 (lf N s w q c5 c6 c7 c8 c9 c10 c11 c12 c13 c14) := by
  refine Go.congr (F' := (ifS (notT (valT (callE D_law_rest1 (acons (var 1) (acons (var 2) (acons (var 3) anil))))))
    (retS (cst (.bl false)))
    skipS)) (r' := lf N s w q c5 c6 c7 c8 c9 c10 c11 c12 c13 c14) rfl ?_
  exact if_rest (not_call (call3 (x := .dice) (y := .dic (dcD (spv s) N)) (z := .str (wnm w)) rfl rfl rfl) (rest_wp h5))
theorem lw1e : F_law = seqS LW1 LWs2 := rfl
theorem lw2e : LWs2 = seqS LW2 LWs3 := rfl
theorem lw3e : LWs3 = seqS LW3 LWs4 := rfl
theorem lw4e : LWs4 = seqS LW4 LWs5 := rfl
theorem lw5e : LWs5 = seqS LW5 LWs6 := rfl
theorem lw6e : LWs6 = seqS LW6 LWs7 := rfl
theorem lw7e : LWs7 = seqS LW7 LWs8 := rfl
theorem lw8e : LWs8 = seqS LW8 LWs9 := rfl
theorem lw9e : LWs9 = seqS LW9 LWs10 := rfl
theorem lw10e : LWs10 = seqS LW10 LWs11 := rfl
theorem lw11e : LWs11 = seqS LW11 LWs12 := rfl
theorem lw12e : LWs12 = seqS LW12 LW13 := rfl
theorem law_go : Go Done F_law q0 := by
  refine Go.nxt lw1e fun Q hQ => lw1 fun w hw q hq => hQ _ ?_
  refine Go.nxt lw2e fun Q hQ => lw2 w q fun N s c5 c6 hN hbox hne => hQ _ ?_
  have hf : Fine N s := ⟨hN, hbox, hne⟩
  refine Go.nxt lw3e fun Q hQ => lw3 N s w q c5 c6 .un .un .un .un .un .un fun a b c d ha hb hc hd => hQ _ ?_
  have h2 : Two a b c d := ⟨⟨by omega, by omega⟩, ⟨by omega, by omega⟩⟩
  refine Go.cons lw4e (l4 h2) ?_
  refine Go.cons lw5e (l5 h2) ?_
  obtain ⟨c10, e6⟩ := l6 (N := N) (s := s) (w := w) (q := q) (c5 := c5) (c6 := c6) (c10 := .un) (c11 := .un) (c12 := .un) (c13 := .un) (c14 := .un) h2 hw
  refine Go.cons lw6e e6 ?_
  refine Go.cons lw7e (l7 hw) ?_
  refine Go.cons lw8e (l8 hN) ?_
  refine Go.cons lw9e (l9 hf hw) ?_
  refine Go.cons lw10e (l10 hf hw) ?_
  obtain ⟨f, hf2⟩ := l1112 (q := q) hf
  refine Go.cons lw11e (hf2 w _ _ _ _ _ _ _ .un _).1 ?_
  refine Go.cons lw12e (hf2 w _ _ _ _ _ _ _ .un _).2 ?_
  exact l13 (subs_lt N hN)
theorem holds : Wp (F_law (r0 15)) (fun o => ∃ r, o = .nx r ∨ o = .ct r) (fun _ => False) := law_go.h
end K14
open PySem PySem.W PyProof.Rows in
set_option maxRecDepth 100000 in
set_option maxHeartbeats 0 in
theorem PySem.Challenge.cw_flaghall_k14_winds_holds : PySem.Challenge.rw_flaghall_k14_winds.Holds := by
  w_on; o_law; k_head; (case hw => w_witness2)
  k_fill
  refine LamX.walk_ofTs (l := PySem.Challenge.rw_flaghall_k14_winds) (n := 63) (k := 8) (x := "script") (CX := fun w => L2.CX PySem.Challenge.rw_flaghall_k14_winds.prog w) rfl (by decide) rfl ⟨rfl, by decide, by decide⟩ (fun w h Y => PySem.W.km_in_of Y) ?F (fun w H s e s' z => by obtain ⟨_, _, _, _, _, _, _, _, _, _, _, _, z⟩ := z; exact z)
  case F =>
    intro w mg fa h Y KX hN hmg
    refine' K14.all_mk KX hN hmg (PySem.W.km_tabs_of Y) K14.holds ?nk_law_dice ?lk_law_dice ?dk_law_dice ?kk_law_dice ?nk_law_roll ?lk_law_roll ?dk_law_roll ?kk_law_roll ?nk_law_rounds ?lk_law_rounds ?dk_law_rounds ?kk_law_rounds ?nk_law_told ?lk_law_told ?dk_law_told ?kk_law_told ?nk_law_way ?lk_law_way ?dk_law_way ?kk_law_way ?nk_way_between ?lk_way_between ?dk_way_between ?kk_way_between ?nk_eighth_of ?lk_eighth_of ?dk_eighth_of ?kk_eighth_of ?nk_shows_side ?lk_shows_side ?dk_shows_side ?kk_shows_side ?nk_reads_in_wind ?lk_reads_in_wind ?dk_reads_in_wind ?kk_reads_in_wind ?nk_law_reads ?lk_law_reads ?dk_law_reads ?kk_law_reads ?nk_streams_to ?lk_streams_to ?dk_streams_to ?kk_streams_to ?nk_readers ?lk_readers ?dk_readers ?kk_readers ?nk_told_by_repeats ?lk_told_by_repeats ?dk_told_by_repeats ?kk_told_by_repeats ?nk_law_known ?lk_law_known ?dk_law_known ?kk_law_known ?nk_best_wind ?lk_best_wind ?dk_best_wind ?kk_best_wind ?ck_Air ?nk_Air_init ?ik_Air_init ?lk_Air_init ?dk_Air_init ?kk_Air_init ?nk_Air_felt ?ik_Air_felt ?lk_Air_felt ?dk_Air_felt ?kk_Air_felt ?nk_Air_key ?ik_Air_key ?lk_Air_key ?dk_Air_key ?kk_Air_key ?nk_Air_true_air ?ik_Air_true_air ?lk_Air_true_air ?dk_Air_true_air ?kk_Air_true_air ?nk_Air_squared_force ?ik_Air_squared_force ?lk_Air_squared_force ?dk_Air_squared_force ?kk_Air_squared_force ?nk_Air_is_calm ?ik_Air_is_calm ?lk_Air_is_calm ?dk_Air_is_calm ?kk_Air_is_calm ?nk_Air_helps ?ik_Air_helps ?lk_Air_helps ?dk_Air_helps ?kk_Air_helps ?nk_score ?lk_score ?dk_score ?kk_score ?nk_Air_comes_from ?ik_Air_comes_from ?lk_Air_comes_from ?dk_Air_comes_from ?kk_Air_comes_from ?nk_backs_or_veers ?lk_backs_or_veers ?dk_backs_or_veers ?kk_backs_or_veers ?nk_law_rest1 ?lk_law_rest1 ?dk_law_rest1 ?kk_law_rest1 ?nk_law ?lk_law ?dk_law ?kk_law ?pg_Air ?hd_Air ?po_Air ?sa_Air ?mi_Air ?kc_Air ?nf_Air_down ?nf_Air_right ?xn_BadBook ?xe_BadBook ?xk_BadBook ?xs_BadBook ?xt_BadBook ?xn_BadFlag ?xe_BadFlag ?xk_BadFlag ?xs_BadFlag ?xt_BadFlag ?xn_BadFleet ?xe_BadFleet ?xk_BadFleet ?xs_BadFleet ?xt_BadFleet ?xn_BadHoist ?xe_BadHoist ?xk_BadHoist ?xs_BadHoist ?xt_BadHoist ?xn_Foul ?xn_NoWay ?xe_NoWay ?xk_NoWay ?xs_NoWay ?xt_NoWay ?xn_TooLarge ?xe_TooLarge ?xk_TooLarge ?xs_TooLarge ?xt_TooLarge ?xn_Unclear ?xn_BadText ?exq ?bz_range ?bz_abs ?bz_max ?bz_sorted ?bz_tuple ?bz_list ?bz_len ?bz_min ?bz_int ?cn_EIGHTS ?cq_EIGHTS ?cn_STEPS ?cq_STEPS ?tn_STEPS ?tl_STEPS ?tq_STEPS ?tn_EIGHTS ?tl_EIGHTS ?tq_EIGHTS ?zl_law_rest1 ?zv_law_rest1 ?zh_law_rest1 ?zn_law_rest1 ?zt_law_rest1 ?zl_law ?zv_law ?zh_law ?zn_law ?zt_law ?ne_law_rest1_law
    (case nk_law_dice => k_is)
    (case lk_law_dice => k_is)
    (case dk_law_dice => k_is)
    (case kk_law_dice => k_is)
    (case nk_law_roll => k_is)
    (case lk_law_roll => k_is)
    (case dk_law_roll => k_is)
    (case kk_law_roll => k_is)
    (case nk_law_rounds => k_is)
    (case lk_law_rounds => k_is)
    (case dk_law_rounds => k_is)
    (case kk_law_rounds => k_is)
    (case nk_law_told => k_is)
    (case lk_law_told => k_is)
    (case dk_law_told => k_is)
    (case kk_law_told => k_is)
    (case nk_law_way => k_is)
    (case lk_law_way => k_is)
    (case dk_law_way => k_is)
    (case kk_law_way => k_is)
    (case nk_way_between => k_is)
    (case lk_way_between => k_is)
    (case dk_way_between => k_is)
    (case kk_way_between => k_is)
    (case nk_eighth_of => k_is)
    (case lk_eighth_of => k_is)
    (case dk_eighth_of => k_is)
    (case kk_eighth_of => k_is)
    (case nk_shows_side => k_is)
    (case lk_shows_side => k_is)
    (case dk_shows_side => k_is)
    (case kk_shows_side => k_is)
    (case nk_reads_in_wind => k_is)
    (case lk_reads_in_wind => k_is)
    (case dk_reads_in_wind => k_is)
    (case kk_reads_in_wind => k_is)
    (case nk_law_reads => k_is)
    (case lk_law_reads => k_is)
    (case dk_law_reads => k_is)
    (case kk_law_reads => k_is)
    (case nk_streams_to => k_is)
    (case lk_streams_to => k_is)
    (case dk_streams_to => k_is)
    (case kk_streams_to => k_is)
    (case nk_readers => k_is)
    (case lk_readers => k_is)
    (case dk_readers => k_is)
    (case kk_readers => k_is)
    (case nk_told_by_repeats => k_is)
    (case lk_told_by_repeats => k_is)
    (case dk_told_by_repeats => k_is)
    (case kk_told_by_repeats => k_is)
    (case nk_law_known => k_is)
    (case lk_law_known => k_is)
    (case dk_law_known => k_is)
    (case kk_law_known => k_is)
    (case nk_best_wind => k_is)
    (case lk_best_wind => k_is)
    (case dk_best_wind => k_is)
    (case kk_best_wind => k_is)
    (case ck_Air => k_is)
    (case nk_Air_init => k_is)
    (case ik_Air_init => k_is)
    (case lk_Air_init => k_is)
    (case dk_Air_init => k_is)
    (case kk_Air_init => k_is)
    (case nk_Air_felt => k_is)
    (case ik_Air_felt => k_is)
    (case lk_Air_felt => k_is)
    (case dk_Air_felt => k_is)
    (case kk_Air_felt => k_is)
    (case nk_Air_key => k_is)
    (case ik_Air_key => k_is)
    (case lk_Air_key => k_is)
    (case dk_Air_key => k_is)
    (case kk_Air_key => k_is)
    (case nk_Air_true_air => k_is)
    (case ik_Air_true_air => k_is)
    (case lk_Air_true_air => k_is)
    (case dk_Air_true_air => k_is)
    (case kk_Air_true_air => k_is)
    (case nk_Air_squared_force => k_is)
    (case ik_Air_squared_force => k_is)
    (case lk_Air_squared_force => k_is)
    (case dk_Air_squared_force => k_is)
    (case kk_Air_squared_force => k_is)
    (case nk_Air_is_calm => k_is)
    (case ik_Air_is_calm => k_is)
    (case lk_Air_is_calm => k_is)
    (case dk_Air_is_calm => k_is)
    (case kk_Air_is_calm => k_is)
    (case nk_Air_helps => k_is)
    (case ik_Air_helps => k_is)
    (case lk_Air_helps => k_is)
    (case dk_Air_helps => k_is)
    (case kk_Air_helps => k_is)
    (case nk_score => k_is)
    (case lk_score => k_is)
    (case dk_score => k_is)
    (case kk_score => k_is)
    (case nk_Air_comes_from => k_is)
    (case ik_Air_comes_from => k_is)
    (case lk_Air_comes_from => k_is)
    (case dk_Air_comes_from => k_is)
    (case kk_Air_comes_from => k_is)
    (case nk_backs_or_veers => k_is)
    (case lk_backs_or_veers => k_is)
    (case dk_backs_or_veers => k_is)
    (case kk_backs_or_veers => k_is)
    (case nk_law_rest1 => k_is)
    (case lk_law_rest1 => k_is)
    (case dk_law_rest1 => k_is)
    (case kk_law_rest1 => k_is)
    (case nk_law => k_is)
    (case lk_law => k_is)
    (case dk_law => k_is)
    (case kk_law => k_is)
    (case pg_Air => k_is)
    (case hd_Air => k_is)
    (case po_Air => k_is)
    (case sa_Air => k_is)
    (case mi_Air => k_is)
    (case kc_Air => k_is)
    (case nf_Air_down => k_is)
    (case nf_Air_right => k_is)
    (case xn_BadBook => k_is)
    (case xe_BadBook => k_exc)
    (case xk_BadBook => k_is)
    (case xs_BadBook => k_is)
    (case xt_BadBook => k_is)
    (case xn_BadFlag => k_is)
    (case xe_BadFlag => k_exc)
    (case xk_BadFlag => k_is)
    (case xs_BadFlag => k_is)
    (case xt_BadFlag => k_is)
    (case xn_BadFleet => k_is)
    (case xe_BadFleet => k_exc)
    (case xk_BadFleet => k_is)
    (case xs_BadFleet => k_is)
    (case xt_BadFleet => k_is)
    (case xn_BadHoist => k_is)
    (case xe_BadHoist => k_exc)
    (case xk_BadHoist => k_is)
    (case xs_BadHoist => k_is)
    (case xt_BadHoist => k_is)
    (case xn_Foul => k_is)
    (case xn_NoWay => k_is)
    (case xe_NoWay => k_exc)
    (case xk_NoWay => k_is)
    (case xs_NoWay => k_is)
    (case xt_NoWay => k_is)
    (case xn_TooLarge => k_is)
    (case xe_TooLarge => k_exc)
    (case xk_TooLarge => k_is)
    (case xs_TooLarge => k_is)
    (case xt_TooLarge => k_is)
    (case xn_Unclear => k_is)
    (case xn_BadText => k_is)
    (case exq => kernel_rfl)
    (case bz_range => k_is)
    (case bz_abs => k_is)
    (case bz_max => k_is)
    (case bz_sorted => k_is)
    (case bz_tuple => k_is)
    (case bz_list => k_is)
    (case bz_len => k_is)
    (case bz_min => k_is)
    (case bz_int => k_is)
    (case cn_EIGHTS => k_is)
    (case cq_EIGHTS => kernel_rfl)
    (case cn_STEPS => k_is)
    (case cq_STEPS => kernel_rfl)
    (case tn_STEPS => k_is)
    (case tl_STEPS => k_is)
    (case tq_STEPS => kernel_rfl)
    (case tn_EIGHTS => k_is)
    (case tl_EIGHTS => k_is)
    (case tq_EIGHTS => kernel_rfl)
    (case zl_law_rest1 => k_is)
    (case zv_law_rest1 => rfl)
    (case zh_law_rest1 => kernel_rfl)
    (case zn_law_rest1 => kernel_rfl)
    (case zt_law_rest1 => decide)
    (case zl_law => k_is)
    (case zv_law => rfl)
    (case zh_law => kernel_rfl)
    (case zn_law => kernel_rfl)
    (case zt_law => decide)
    (case ne_law_rest1_law => decide)
