import PyProof.Rows.All
import Wide.All
import OpenK.AllK
import Wide.FinOn
import HandS.ForMost
import HandS.ForSpec
import HandS.CallSlots
import HandS.Lambda
import HandS.TryMany
import HandS.ExcInit
import HandS.TupAny
import HandS.TupLe
import HandS.Deep
import HandS.More
import HandS.WrittenGet
import HandS.ExcOwn
import KE.DataMinMax
import KE.DataCmp
import HandS.Strs
import HandS.Style
import HandS.EndTab
import KE.KNestM
import PySem.Challenge.RW_flaghall_k17_shapes
set_option Elab.async false
set_option linter.all false
set_option maxRecDepth 100000
namespace DL
open PySem L2
/-- deep values -/
inductive D where
  | non
  | bl (b : Bool)
  | int (i : Int)
  | str (s : List Nat)
  | lst (xs : List D)
  | tup (xs : List D)
  | dic (kvs : List (D × D))
  | cdic (kvs : List (List Nat × D))
  | ins (c : Nat) (fs : List D)
  | dice
  | fn (n : Nat)
  deriving Inhabited
structure Exc where
  cls : Nat
  arg : D
/-- what a computation comes to; roll m k: some number below m is drawn -/
inductive R (α : Type) where
  | ok (a : α)
  | err (e : Exc)
  | stuck
  | roll (m : Nat) (k : Nat → R α)
namespace R
variable {α β : Type}
def bind : R α → (α → R β) → R β
  | .ok a, k => k a
  | .err e, _ => .err e
  | .stuck, _ => .stuck
  | .roll m f, k => .roll m fun i => (f i).bind k
instance : Monad R where
  pure := .ok
  bind := R.bind
@[simp] theorem ok_bind (a : α) (k : α → R β) : (R.ok a >>= k) = k a := rfl
@[simp] theorem err_bind (e : Exc) (k : α → R β) : ((R.err e : R α) >>= k) = .err e := rfl
@[simp] theorem stuck_bind (k : α → R β) : ((R.stuck : R α) >>= k) = .stuck := rfl
@[simp] theorem roll_bind (m : Nat) (f : Nat → R α) (k : α → R β) : (R.roll m f >>= k) = .roll m fun i => f i >>= k := rfl
@[simp] theorem pure_eq (a : α) : (pure a : R α) = .ok a := rfl
end R
def Wp {α : Type} : R α → (α → Prop) → (Exc → Prop) → Prop
  | .ok a, Q, _ => Q a
  | .err e, _, E => E e
  | .stuck, _, _ => False
  | .roll m k, Q, E => ∀ i, i < m → Wp (k i) Q E
section
variable {α β : Type} {Q Q' : α → Prop} {E E' : Exc → Prop}
theorem Wp.mono : ∀ {m : R α}, Wp m Q E → (∀ a, Q a → Q' a) → (∀ e, E e → E' e) → Wp m Q' E'
  | .ok a, h, q, _ => q a h
  | .err e, h, _, q => q e h
  | .stuck, h, _, _ => h
  | .roll _ _, h, q, q' => fun i hi => Wp.mono (h i hi) q q'
theorem Wp.thn {m : R α} (h : Wp m Q E) (q : ∀ a, Q a → Q' a) : Wp m Q' E := h.mono q fun _ x => x
theorem Wp.bind {k : α → R β} {Qb : β → Prop} : ∀ {m : R α}, Wp (m >>= k) Qb E → Wp m (fun a => Wp (k a) Qb E) E
  | .ok _, h => h
  | .err _, h => h
  | .stuck, h => h
  | .roll _ _, h => fun i hi => Wp.bind (h i hi)
theorem Wp.of_bind {k : α → R β} {Qb : β → Prop} : ∀ {m : R α}, Wp m (fun a => Wp (k a) Qb E) E → Wp (m >>= k) Qb E
  | .ok _, h => h
  | .err _, h => h
  | .stuck, h => h
  | .roll _ _, h => fun i hi => Wp.of_bind (h i hi)
end
structure Gm where
  K : PySem.W.Frag
  w : World
  cls : Nat → Addr
  flds : Nat → List Str
  fns : Nat → Addr
  xcls : Nat → Addr
  xfld : Nat → Option Str
  tabs : List (Addr × Str)
/-- a key of a dict -/
def D.key : D → Option Key
  | .int i => some (.inl i)
  | .str s => some (.inr ⟨s.toArray⟩)
  | _ => none
mutual
def Rep (G : Gm) (dl : Addr) (S : Hp) : D → V → Prop
  | .non, v => v = .non
  | .bl b, v => v = .bl b
  | .int i, v => v = .int i
  | .str s, v => v = .str ⟨s.toArray⟩
  | .lst ds, v => ∃ a vs, v = .ref a ∧ S a = some (.lst vs) ∧ RepL G dl S ds vs
  | .tup ds, v => ∃ a vs, v = .ref a ∧ SqT G.K S a vs ∧ RepL G dl S ds vs
  | .dic kvs, v => ∃ (a : Addr) (kv : List (Key × V)), v = .ref a ∧ Rd S a (.dK kv) ∧ RepK G dl S kvs kv
  | .cdic kvs, v => ∃ a, v = .ref a ∧ RepC G dl S a kvs
  | .ins c ds, v => ∃ a dx vs, v = .ref a ∧ S a = some (.ins (G.cls c) dx ((G.flds c).zip vs)) ∧ (G.flds c).length = vs.length ∧ RepL G dl S ds vs
  | .dice, v => v = .ref dl
  | .fn n, v => v = .ref (G.fns n)
def RepL (G : Gm) (dl : Addr) (S : Hp) : List D → List V → Prop
  | [], vs => vs = []
  | d :: ds, vs => ∃ v r, vs = v :: r ∧ Rep G dl S d v ∧ RepL G dl S ds r
def RepK (G : Gm) (dl : Addr) (S : Hp) : List (D × D) → List (Key × V) → Prop
  | [], vs => vs = []
  | (k, d) :: ds, vs => ∃ x v r, vs = (x, v) :: r ∧ k.key = some x ∧ Rep G dl S d v ∧ RepK G dl S ds r
def RepC (G : Gm) (dl : Addr) (S : Hp) (a : Addr) : List (List Nat × D) → Prop
  | [] => True
  | (k, d) :: ds => (∃ v, KDct G.K G.w a ⟨k.toArray⟩ v ∧ Rep G dl S d v) ∧ RepC G dl S a ds
end
/-- all but tables of code objects stays -/
abbrev GrowS (S S' : Hp) : Prop := LamX.ExtN S S'
theorem GrowS.rd {S S' : Hp} {a : Addr} {u : HO} (g : GrowS S S') (n : ∀ ps, u ≠ .tbl ps) (h : Rd S a u) : Rd S' a u := by
  rcases h with h | ⟨o, h⟩
  · exact .inl (g a _ h n)
  · exact .inr ⟨o, g a _ h fun ps z => by cases z⟩
theorem GrowS.sqt {K : PySem.W.Frag} {S S' : Hp} {a : Addr} {xs : List V} (g : GrowS S S') (h : SqT K S a xs) : SqT K S' a xs := by
  rcases h with h | h
  · exact .inl (g.rd (fun ps z => by cases z) h)
  · exact .inr h
mutual
theorem Rep.mono {G : Gm} {dl : Addr} {S S' : Hp} (g : GrowS S S') : ∀ (d : D) {v : V}, Rep G dl S d v → Rep G dl S' d v
  | .non, v, h => by unfold Rep at *; exact h
  | .bl b, v, h => by unfold Rep at *; exact h
  | .int i, v, h => by unfold Rep at *; exact h
  | .str s, v, h => by unfold Rep at *; exact h
  | .lst ds, v, h => by
    unfold Rep at *
    obtain ⟨a, vs, e, q, r⟩ := h
    exact ⟨a, vs, e, g a _ q (fun ps z => by cases z), RepL.mono g ds r⟩
  | .tup ds, v, h => by
    unfold Rep at *
    obtain ⟨a, vs, e, q, r⟩ := h
    exact ⟨a, vs, e, g.sqt q, RepL.mono g ds r⟩
  | .dic kvs, v, h => by
    unfold Rep at *
    obtain ⟨a, kv, e, q, r⟩ := h
    exact ⟨a, kv, e, g.rd (fun ps z => by cases z) q, RepK.mono g kvs r⟩
  | .cdic kvs, v, h => by
    unfold Rep at *
    obtain ⟨a, e, r⟩ := h
    exact ⟨a, e, RepC.mono g kvs r⟩
  | .ins c ds, v, h => by
    unfold Rep at *
    obtain ⟨a, dx, vs, e, q, l, r⟩ := h
    exact ⟨a, dx, vs, e, g a _ q (fun ps z => by cases z), l, RepL.mono g ds r⟩
  | .dice, v, h => by unfold Rep at *; exact h
  | .fn n, v, h => by unfold Rep at *; exact h
theorem RepL.mono {G : Gm} {dl : Addr} {S S' : Hp} (g : GrowS S S') : ∀ (ds : List D) {vs : List V}, RepL G dl S ds vs → RepL G dl S' ds vs
  | [], vs, h => by unfold RepL at *; exact h
  | d :: ds, vs, h => by
    unfold RepL at *
    obtain ⟨v, r, e, h1, h2⟩ := h
    exact ⟨v, r, e, Rep.mono g d h1, RepL.mono g ds h2⟩
theorem RepK.mono {G : Gm} {dl : Addr} {S S' : Hp} (g : GrowS S S') : ∀ (ds : List (D × D)) {vs : List (Key × V)}, RepK G dl S ds vs → RepK G dl S' ds vs
  | [], vs, h => by unfold RepK at *; exact h
  | (k, d) :: ds, vs, h => by
    unfold RepK at *
    obtain ⟨x, v, r, e, k, h1, h2⟩ := h
    exact ⟨x, v, r, e, k, Rep.mono g d h1, RepK.mono g ds h2⟩
theorem RepC.mono {G : Gm} {dl : Addr} {S S' : Hp} (g : GrowS S S') {a : Addr} : ∀ (ds : List (List Nat × D)), RepC G dl S a ds → RepC G dl S' a ds
  | [], h => by unfold RepC at *; exact h
  | (k, d) :: ds, h => by
    unfold RepC at *
    obtain ⟨⟨v, h1, h2⟩, h3⟩ := h
    exact ⟨⟨v, h1, Rep.mono g d h2⟩, RepC.mono g ds h3⟩
end
section
variable {G : Gm} {dl : Addr} {S : Hp}
theorem RepL.length : ∀ {ds : List D} {vs : List V}, RepL G dl S ds vs → vs.length = ds.length
  | [], vs, h => by unfold RepL at h; subst h; rfl
  | d :: ds, vs, h => by
    unfold RepL at h
    obtain ⟨v, r, rfl, _, h2⟩ := h
    rw [List.length_cons, List.length_cons, RepL.length h2]
theorem RepL.nil : RepL G dl S [] [] := by unfold RepL; rfl
theorem RepL.cons {d : D} {ds : List D} {v : V} {vs : List V} (h : Rep G dl S d v) (r : RepL G dl S ds vs) : RepL G dl S (d :: ds) (v :: vs) := by
  unfold RepL; exact ⟨v, vs, rfl, h, r⟩
theorem RepL.append : ∀ {ds es : List D} {vs us : List V}, RepL G dl S ds vs → RepL G dl S es us → RepL G dl S (ds ++ es) (vs ++ us)
  | [], es, vs, us, h, q => by unfold RepL at h; subst h; exact q
  | d :: ds, es, vs, us, h, q => by
    unfold RepL at h
    obtain ⟨v, r, rfl, h1, h2⟩ := h
    exact RepL.cons h1 (RepL.append h2 q)
theorem RepL.get : ∀ (ds : List D) (vs : List V) (i : Nat) (v : V), RepL G dl S ds vs → vs[i]? = some v → ∃ d, ds[i]? = some d ∧ Rep G dl S d v
  | [], vs, i, v, h, e => by unfold RepL at h; subst h; simp at e
  | d :: ds, vs, i, v, h, e => by
    unfold RepL at h
    obtain ⟨u, r, rfl, h1, h2⟩ := h
    cases i with
    | zero => simp at e; subst e; exact ⟨d, rfl, h1⟩
    | succ i => exact RepL.get ds r i v h2 (by simpa using e)
theorem RepL.getD : ∀ (ds : List D) (vs : List V) (i : Nat) (d : D), RepL G dl S ds vs → ds[i]? = some d → ∃ v, vs[i]? = some v ∧ Rep G dl S d v
  | [], vs, i, v, h, e => by simp at e
  | d' :: ds, vs, i, d, h, e => by
    unfold RepL at h
    obtain ⟨u, r, rfl, h1, h2⟩ := h
    cases i with
    | zero => simp at e; subst e; exact ⟨u, rfl, h1⟩
    | succ i => exact RepL.getD ds r i d h2 (by simpa using e)
theorem RepL.take : ∀ {ds : List D} {vs : List V} (n : Nat), RepL G dl S ds vs → RepL G dl S (ds.take n) (vs.take n)
  | _, _, 0, _ => by simp only [List.take_zero]; exact RepL.nil
  | [], vs, n + 1, h => by unfold RepL at h; subst h; exact RepL.nil
  | d :: ds, vs, n + 1, h => by
    unfold RepL at h
    obtain ⟨u, r, rfl, h1, h2⟩ := h
    exact RepL.cons h1 (RepL.take n h2)
theorem RepL.drop : ∀ {ds : List D} {vs : List V} (n : Nat), RepL G dl S ds vs → RepL G dl S (ds.drop n) (vs.drop n)
  | _, _, 0, h => h
  | [], vs, n + 1, h => by unfold RepL at h; subst h; exact RepL.nil
  | d :: ds, vs, n + 1, h => by
    unfold RepL at h
    obtain ⟨u, r, rfl, h1, h2⟩ := h
    exact RepL.drop n h2
theorem RepL.set : ∀ {ds : List D} {vs : List V} {d : D} {v : V} (n : Nat), RepL G dl S ds vs → Rep G dl S d v → RepL G dl S (ds.set n d) (vs.set n v)
  | [], vs, d, v, n, h, _ => by unfold RepL at h; subst h; exact RepL.nil
  | d' :: ds, vs, d, v, 0, h, q => by
    unfold RepL at h
    obtain ⟨u, r, rfl, h1, h2⟩ := h
    exact RepL.cons q h2
  | d' :: ds, vs, d, v, n + 1, h, q => by
    unfold RepL at h
    obtain ⟨u, r, rfl, h1, h2⟩ := h
    exact RepL.cons h1 (RepL.set n h2 q)
end
/-- without some addresses -/
def cut (H : Hp) (Z : List Addr) : Hp := fun a => if a ∈ Z then none else H a
theorem cut_in {H : Hp} {Z : List Addr} {a : Addr} (h : a ∈ Z) : cut H Z a = none := if_pos h
theorem cut_out {H : Hp} {Z : List Addr} {a : Addr} (h : a ∉ Z) : cut H Z a = H a := if_neg h
theorem cut_some {H : Hp} {Z : List Addr} {a : Addr} {o : HO} (h : cut H Z a = some o) : a ∉ Z ∧ H a = some o := by
  unfold cut at h
  split at h
  · cases h
  · exact ⟨by assumption, h⟩
theorem cut_grow (H : Hp) (Z : List Addr) : GrowS (cut H Z) H := fun a o h _ => (cut_some h).2
theorem cut_sub {H : Hp} {Z Z' : List Addr} (h : ∀ a ∈ Z', a ∈ Z) : GrowS (cut H Z) (cut H Z') := fun a o e _ => by
  obtain ⟨h1, h2⟩ := cut_some e
  rw [cut_out fun q => h1 (h a q)]
  exact h2
def Grow (dl : Addr) (H H' : Hp) : Prop := ∀ a o, H a = some o → a ≠ dl → (∀ ps, o ≠ .tbl ps) → H' a = some o
theorem Grow.refl (dl : Addr) (H : Hp) : Grow dl H H := fun _ _ h _ _ => h
theorem Grow.trans {dl : Addr} {H H1 H2 : Hp} (a : Grow dl H H1) (b : Grow dl H1 H2) : Grow dl H H2 := fun c o h n m => b c o (a c o h n m) n m
theorem Grow.new {dl : Addr} {H : Hp} {p : Addr} {o : HO} (h : H p = none) : Grow dl H (upd H p o) := fun a u e _ _ => by
  rw [upd_ne (ne_of_none e h)]; exact e
theorem Grow.cut {dl : Addr} {H H' : Hp} {Z : List Addr} (g : Grow dl H H') (hz : dl ∈ Z) : GrowS (cut H Z) (cut H' Z) := fun a o e n => by
  obtain ⟨h1, h2⟩ := cut_some e
  rw [cut_out h1]
  exact g a o h2 (fun q => h1 (q ▸ hz)) n
def DiceOk (H : Hp) (dl : Addr) : Prop := ∃ x y z : Int, H dl = some (.lst [.int x, .int y, .int z])
structure GlOk (G : Gm) (dl : Addr) (H : Hp) : Prop where
  dice : DiceOk H dl
  tab : LamX.Tabs G.tabs H
theorem GlOk.same {G : Gm} {dl : Addr} {H H' : Hp} (g : GlOk G dl H) (e : ∀ b o, H b = some o → H' b = some o) : GlOk G dl H' := by
  obtain ⟨x, y, z, h⟩ := g.dice
  exact ⟨⟨x, y, z, e _ _ h⟩, g.tab.ext e⟩
theorem same_new {H : Hp} {p : Addr} {o : HO} (h : H p = none) : ∀ b u, H b = some u → (upd H p o) b = some u := fun b u e => by
  rw [upd_ne (ne_of_none e h)]; exact e
theorem GlOk.new {G : Gm} {dl : Addr} {H : Hp} {p : Addr} {o : HO} (g : GlOk G dl H) (h : H p = none) : GlOk G dl (upd H p o) := g.same (same_new h)
inductive Cell where
  | un
  | val (d : D)
  | own (d : D)
abbrev LE := List Cell
def OwnAt (G : Gm) (dl : Addr) (S : Hp) (d : D) (o : Option HO) : Prop := match d with
  | .lst ds => ∃ vs, o = some (.lst vs) ∧ RepL G dl S ds vs
  | .dic kvs => ∃ (kv : List (Key × V)), o = some (.dK kv) ∧ RepK G dl S kvs kv
  | .ins c ds => ∃ (dx : Addr) (vs : List V), o = some (.ins (G.cls c) dx ((G.flds c).zip vs)) ∧ vs.length ≤ (G.flds c).length ∧ RepL G dl S ds vs
  | _ => False
/-- the self of an __init__ stands in slot 0, under a mark of its own -/
def kee (i : Nat) : D → Nat
  | .ins _ _ => 1000000
  | _ => i
def keeOk (i : Nat) : D → Prop
  | .ins _ _ => i = 0
  | _ => i ≠ 1000000
theorem kee_inj {i j : Nat} {d e : D} (h1 : keeOk i d) (h2 : keeOk j e) (h : kee i d = kee j e) : i = j := by
  cases d <;> cases e <;> simp_all [kee, keeOk]
def Slot (G : Gm) (dl : Addr) (Z : List Addr) (O : List (Nat × Addr)) (H : Hp) (i : Nat) (x : Option (Option V)) : Cell → Prop
  | .un => True
  | .val d => ∃ v, x = some (some v) ∧ Rep G dl (cut H Z) d v
  | .own d => ∃ a, (kee i d, a) ∈ O ∧ x = some (some (.ref a)) ∧ OwnAt G dl (cut H Z) d (H a) ∧ keeOk i d
/-- the state at hand: r the slots as data, O the addresses of owned lists and dicts, Z all that is not to be leant on -/
structure At (G : Gm) (dl : Addr) (Z : List Addr) (O : List (Nat × Addr)) (r : LE) (sg : St) (H : Hp) : Prop where
  gl : GlOk G dl H
  dz : dl ∈ Z
  live : ∀ a ∈ Z, ∃ o, H a = some o ∧ ∀ ps, o ≠ .tbl ps
  own : ∀ p ∈ O, p.2 ∈ Z ∧ p.2 ≠ dl
  inj : ∀ p ∈ O, ∀ q ∈ O, p.2 = q.2 → p = q
  len : r.length = sg.length
  slot : ∀ i c, r[i]? = some c → Slot G dl Z O H i sg[i]? c
theorem OwnAt.mono {G : Gm} {dl : Addr} {S S' : Hp} {d : D} {o : Option HO} (g : GrowS S S') (h : OwnAt G dl S d o) : OwnAt G dl S' d o := by
  unfold OwnAt at *
  split at h
  · obtain ⟨vs, e, r⟩ := h; exact ⟨vs, e, r.mono g⟩
  · obtain ⟨kv, e, r⟩ := h; exact ⟨kv, e, r.mono g⟩
  · obtain ⟨dx, vs, e, k, r⟩ := h; exact ⟨dx, vs, e, k, r.mono g⟩
  · exact h
theorem OwnAt.notTbl {G : Gm} {dl : Addr} {S : Hp} {d : D} {o : Option HO} (h : OwnAt G dl S d o) : ∃ u, o = some u ∧ ∀ ps, u ≠ .tbl ps := by
  unfold OwnAt at h
  split at h
  · obtain ⟨vs, e, r⟩ := h; exact ⟨_, e, fun ps z => by cases z⟩
  · obtain ⟨kv, e, r⟩ := h; exact ⟨_, e, fun ps z => by cases z⟩
  · obtain ⟨dx, vs, e, k, r⟩ := h; exact ⟨_, e, fun ps z => by cases z⟩
  · exact h.elim
theorem At.grow {G : Gm} {dl : Addr} {Z : List Addr} {O : List (Nat × Addr)} {r : LE} {sg : St} {H H' : Hp} (h : At G dl Z O r sg H) (g : Grow dl H H') (gl : GlOk G dl H') : At G dl Z O r sg H' := by
  refine ⟨gl, h.dz, fun a ha => ?_, h.own, h.inj, h.len, fun i c e => ?_⟩
  · by_cases q : a = dl
    · obtain ⟨x, y, z, e⟩ := gl.dice
      exact ⟨_, by rw [q]; exact e, fun ps z => by cases z⟩
    · obtain ⟨o, e, n⟩ := h.live a ha
      exact ⟨o, g a o e q n, n⟩
  · have := h.slot i c e
    cases c with
    | un => trivial
    | val d =>
      obtain ⟨v, e, q⟩ := this
      exact ⟨v, e, q.mono (g.cut h.dz)⟩
    | own d =>
      obtain ⟨a, ha, e, q, ko⟩ := this
      obtain ⟨u, hu, nt⟩ := q.notTbl
      refine ⟨a, ha, e, ?_, ko⟩
      rw [g a u hu (h.own _ ha).2 nt, ← hu]
      exact q.mono (g.cut h.dz)
/-- what of an exception is known -/
def XRep (G : Gm) (dl : Addr) (S : Hp) (e : Exc) (cls : Value) (dx : Option Addr) (H : Hp) : Prop :=
  cls = .ref (G.xcls e.cls) ∧ match G.xfld e.cls with
    | none => e.arg = .non
    | some f => ∃ d v, dx = some d ∧ H d = some (.xd [(f, v)]) ∧ Rep G dl S e.arg v
def tD (G : Gm) (W : WX) (f : LE → R D) : TE := fun sg H Q => ∃ dl Z O r, At G dl Z O r sg H ∧
  Wp (f r) (fun d => ∀ v H', Grow dl H H' → GlOk G dl H' → Rep G dl (cut H' Z) d v → Q v H')
    (fun e => ∀ cls dx H', Grow dl H H' → GlOk G dl H' → XRep G dl (cut H' Z) e cls dx H' → W cls dx sg H')
/-- a new list -/
def tF (G : Gm) (W : WX) (f : LE → R (List D)) : TE := fun sg H Q => ∃ dl Z O r, At G dl Z O r sg H ∧
  Wp (f r) (fun ds => ∀ p vs H', Grow dl H H' → GlOk G dl H' → H' p = none → RepL G dl (cut H' Z) ds vs → Q (.ref p) (upd H' p (.lst vs)))
    (fun e => ∀ cls dx H', Grow dl H H' → GlOk G dl H' → XRep G dl (cut H' Z) e cls dx H' → W cls dx sg H')
def tT (G : Gm) (W : WX) (f : LE → R Bool) : TT := fun sg H Q => ∃ dl Z O r, At G dl Z O r sg H ∧
  Wp (f r) (fun b => ∀ H', Grow dl H H' → GlOk G dl H' → Q b H')
    (fun e => ∀ cls dx H', Grow dl H H' → GlOk G dl H' → XRep G dl (cut H' Z) e cls dx H' → W cls dx sg H')
def tA (G : Gm) (W : WX) (f : LE → R (List D)) : TA := fun sg H Q => ∃ dl Z O r, At G dl Z O r sg H ∧
  Wp (f r) (fun ds => ∀ vs H', Grow dl H H' → GlOk G dl H' → RepL G dl (cut H' Z) ds vs → Q vs H')
    (fun e => ∀ cls dx H', Grow dl H H' → GlOk G dl H' → XRep G dl (cut H' Z) e cls dx H' → W cls dx sg H')
/-- an expression that may be an owned list or dict, read at once -/
def RepP (G : Gm) (dl : Addr) (H : Hp) (Z : List Addr) (d : D) (v : V) : Prop :=
  Rep G dl (cut H Z) d v ∨ ∃ a, v = .ref a ∧ a ∈ Z ∧ a ≠ dl ∧ OwnAt G dl (cut H Z) d (H a)
def tP (G : Gm) (W : WX) (f : LE → R D) : TE := fun sg H Q => ∃ dl Z O r, At G dl Z O r sg H ∧
  Wp (f r) (fun d => ∀ v H', Grow dl H H' → GlOk G dl H' → RepP G dl H' Z d v → Q v H')
    (fun e => ∀ cls dx H', Grow dl H H' → GlOk G dl H' → XRep G dl (cut H' Z) e cls dx H' → W cls dx sg H')
abbrev DE (X : Cx) (G : Gm) (W : WX) (e : Expr) (f : LE → R D) : Prop := PE X e (tD G W f)
abbrev DF (X : Cx) (G : Gm) (W : WX) (e : Expr) (f : LE → R (List D)) : Prop := PE X e (tF G W f)
abbrev DP (X : Cx) (G : Gm) (W : WX) (e : Expr) (f : LE → R D) : Prop := PE X e (tP G W f)
abbrev DT (X : Cx) (G : Gm) (W : WX) (e : Expr) (f : LE → R Bool) : Prop := PT X e (tT G W f)
abbrev DW (X : Cx) (G : Gm) (W : WX) (e : Expr) (f : LE → R Bool) : Prop := PW X e (tT G W f)
abbrev DA (X : Cx) (G : Gm) (W : WX) (es : List Expr) (f : LE → R (List D)) : Prop := PA X es (tA G W f)
theorem PE_imp {X : Cx} {e : Expr} {t t' : TE} (h : PE X e t) (i : ∀ sg H Q, t' sg H Q → t sg H Q) : PE X e t' := ⟨fun pins s sg H Q I q => h.run pins s sg H Q I (i _ _ _ q)⟩
theorem PT_imp {X : Cx} {e : Expr} {t t' : TT} (h : PT X e t) (i : ∀ sg H Q, t' sg H Q → t sg H Q) : PT X e t' := ⟨fun pins s sg H Q I q => h.run pins s sg H Q I (i _ _ _ q)⟩
theorem PW_imp {X : Cx} {e : Expr} {t t' : TT} (h : PW X e t) (i : ∀ sg H Q, t' sg H Q → t sg H Q) : PW X e t' := ⟨fun wh pins s sg H Q I q => h.run wh pins s sg H Q I (i _ _ _ q)⟩
theorem PA_imp {X : Cx} {e : List Expr} {t t' : TA} (h : PA X e t) (i : ∀ sg H Q, t' sg H Q → t sg H Q) : PA X e t' := ⟨fun pos pins s sg H Q I q => h.run pos pins s sg H Q I (i _ _ _ q)⟩
theorem PS_imp {X : Cx} {e : Stmt} {t t' : TS} (h : PS X e t) (i : ∀ De sg H, t' De sg H → t De sg H) : PS X e t' := ⟨fun pins s sg H De I q => h.run pins s sg H De I (i _ _ _ q)⟩
theorem PSs_imp {X : Cx} {e : List Stmt} {t t' : TS} (h : PSs X e t) (i : ∀ De sg H, t' De sg H → t De sg H) : PSs X e t' := ⟨fun pins s sg H De I q => h.run pins s sg H De I (i _ _ _ q)⟩
inductive Out where
  | nx (r : LE)
  | rt (d : D)
  | bk (r : LE)
  | ct (r : LE)
  | ex (e : Exc) (r : LE)
def Free (H : Hp) (a : Addr) : Prop := ∀ o, H a = some o → ∃ ps, o = .tbl ps
theorem Free.of {H : Hp} {a : Addr} (h : H a = none) : Free H a := fun o e => by rw [h] at e; cases e
structure Stp (dl : Addr) (Z : List Addr) (O : List (Nat × Addr)) (H : Hp) (Z' : List Addr) (O' : List (Nat × Addr)) (H' : Hp) : Prop where
  fr : ∀ a o, H a = some o → a ≠ dl → (∀ p ∈ O, p.2 ≠ a) → (∀ ps, o ≠ .tbl ps) → H' a = some o
  op : ∀ p ∈ O', (∃ q ∈ O, q.2 = p.2) ∨ Free H p.2
  zk : ∀ a ∈ Z, (∀ p ∈ O, p.2 ≠ a) → a ∈ Z'
  zn : ∀ a ∈ Z', a ∈ Z ∨ Free H a
  sf : ∀ a, (1000000, a) ∈ O' → (1000000, a) ∈ O
  dom : ∀ a, Free H' a → Free H a
theorem Stp.refl {dl : Addr} {Z : List Addr} {O : List (Nat × Addr)} {H : Hp} : Stp dl Z O H Z O H :=
  ⟨fun _ _ h _ _ _ => h, fun p hp => .inl ⟨p, hp, rfl⟩, fun _ h _ => h, fun _ h => .inl h, fun _ h => h, fun _ h => h⟩
theorem Grow.dom {G : Gm} {dl : Addr} {H H' : Hp} (g : Grow dl H H') (gl : GlOk G dl H') : ∀ a, Free H' a → Free H a := fun a f o q => by
  by_cases d : a = dl
  · obtain ⟨x, y, z, h⟩ := gl.dice
    obtain ⟨ps, e⟩ := f _ (d ▸ h)
    cases e
  · by_cases t : ∃ ps, o = .tbl ps
    · exact t
    · exact f o (g a o q d fun ps z => t ⟨ps, z⟩)
theorem Stp.of_grow {G : Gm} {dl : Addr} {Z : List Addr} {O : List (Nat × Addr)} {H H' : Hp} (g : Grow dl H H') (gl : GlOk G dl H') : Stp dl Z O H Z O H' :=
  ⟨fun a o h n _ t => g a o h n t, fun p hp => .inl ⟨p, hp, rfl⟩, fun _ h _ => h, fun _ h => .inl h, fun _ h => h, g.dom gl⟩
theorem Stp.trans {G : Gm} {dl : Addr} {Z Z1 Z2 : List Addr} {O O1 O2 : List (Nat × Addr)} {r : LE} {sg : St} {H H1 H2 : Hp} (hz : At G dl Z O r sg H) (a : Stp dl Z O H Z1 O1 H1) (b : Stp dl Z1 O1 H1 Z2 O2 H2) : Stp dl Z O H Z2 O2 H2 := by
  have key : ∀ c, (∃ o, H c = some o ∧ ∀ ps, o ≠ .tbl ps) → (∀ p ∈ O, p.2 ≠ c) → ∀ p ∈ O1, p.2 ≠ c := fun c ⟨o, ho, nt⟩ hn p hp e => by
    rcases a.op p hp with ⟨q, hq, eq⟩ | q
    · exact hn q hq (eq.trans e)
    · obtain ⟨ps, z⟩ := q o (e ▸ ho)
      exact nt ps z
  refine ⟨fun c o h n m t => b.fr c o (a.fr c o h n m t) n (key c ⟨o, h, t⟩ m) t, fun p hp => ?_, fun c hc m => b.zk c (a.zk c hc m) (key c (hz.live c hc) m), fun c hc => (b.zn c hc).elim (a.zn c) fun f => .inr (a.dom c f), fun c h => a.sf c (b.sf c h), fun c h => a.dom c (b.dom c h)⟩
  rcases b.op p hp with ⟨q, hq, eq⟩ | q
  · rcases a.op q hq with ⟨q', h1, h2⟩ | h1
    · exact .inl ⟨q', h1, h2.trans eq⟩
    · exact .inr (eq ▸ h1)
  · exact .inr (a.dom _ q)
theorem Stp.cut {G : Gm} {dl : Addr} {Z Z' : List Addr} {O O' : List (Nat × Addr)} {r : LE} {sg : St} {H H' : Hp} (A : At G dl Z O r sg H) (s : Stp dl Z O H Z' O' H') : GrowS (cut H Z) (cut H' Z') := fun a o e n => by
  obtain ⟨e1, e2⟩ := cut_some e
  have hz : a ∉ Z' := fun hz => by
    rcases s.zn a hz with h | h
    · exact e1 h
    · obtain ⟨ps, q⟩ := h o e2
      exact n ps q
  rw [cut_out hz]
  exact s.fr a o e2 (fun q => e1 (by rw [q]; exact A.dz)) (fun p hp q => e1 (by rw [← q]; exact (A.own p hp).1)) n
/-- what is wanted behind a statement -/
def SPost (G : Gm) (W : WX) (De : Ends) (dl : Addr) (Z : List Addr) (O : List (Nat × Addr)) (H : Hp) : Out → Prop
  | .nx r' => ∀ Z' O' sg' H', Stp dl Z O H Z' O' H' → At G dl Z' O' r' sg' H' → De.nx sg' H'
  | .bk r' => ∀ Z' O' sg' H', Stp dl Z O H Z' O' H' → At G dl Z' O' r' sg' H' → De.bk sg' H'
  | .ct r' => ∀ Z' O' sg' H', Stp dl Z O H Z' O' H' → At G dl Z' O' r' sg' H' → De.ct sg' H'
  | .rt d => ∀ Z' O' v H', Stp dl Z O H Z' O' H' → GlOk G dl H' → Rep G dl (cut H' Z') d v → De.rt v H'
  | .ex e r' => ∀ Z' O' sg' H' cls dx, Stp dl Z O H Z' O' H' → At G dl Z' O' r' sg' H' → XRep G dl (cut H' Z') e cls dx H' → W cls dx sg' H'
theorem SPost.trans {G : Gm} {W : WX} {De : Ends} {dl : Addr} {Z Z1 : List Addr} {O O1 : List (Nat × Addr)} {r : LE} {sg : St} {H H1 : Hp} (A : At G dl Z O r sg H) (st : Stp dl Z O H Z1 O1 H1) : ∀ {o : Out}, SPost G W De dl Z O H o → SPost G W De dl Z1 O1 H1 o
  | .nx r', h => fun Z' O' sg' H' s a => h Z' O' sg' H' (Stp.trans A st s) a
  | .bk r', h => fun Z' O' sg' H' s a => h Z' O' sg' H' (Stp.trans A st s) a
  | .ct r', h => fun Z' O' sg' H' s a => h Z' O' sg' H' (Stp.trans A st s) a
  | .rt d, h => fun Z' O' v H' s g a => h Z' O' v H' (Stp.trans A st s) g a
  | .ex e r', h => fun Z' O' sg' H' c d s a x => h Z' O' sg' H' c d (Stp.trans A st s) a x
/-- a statement's reading: F the state as data -/
def tS (G : Gm) (W : WX) (F : LE → R Out) : TS := fun De sg H => ∃ dl Z O r, At G dl Z O r sg H ∧ Wp (F r) (SPost G W De dl Z O H) (fun _ => False)
abbrev DS (X : Cx) (G : Gm) (W : WX) (st : Stmt) (F : LE → R Out) : Prop := PS X st (tS G W F)
abbrev DSs (X : Cx) (G : Gm) (W : WX) (sts : List Stmt) (F : LE → R Out) : Prop := PSs X sts (tS G W F)
end DL
set_option Elab.async false
set_option linter.all false
set_option maxRecDepth 100000
namespace DL
open PySem L2
section
variable {G : Gm} {dl : Addr} {Z : List Addr} {O : List (Nat × Addr)} {r : LE} {sg : St} {H H' H1 H2 : Hp} {W : WX} {d : D} {v : V}
theorem At.out (A : At G dl Z O r sg H) {p : Addr} (h : H p = none) : p ∉ Z := fun hz => by
  obtain ⟨o, e, _⟩ := A.live p hz
  rw [h] at e; cases e
theorem At.notdl (A : At G dl Z O r sg H) {p : Addr} (h : H p = none) : p ≠ dl := fun e => A.out h (e ▸ A.dz)
theorem RepP.grow (A : At G dl Z O r sg H) (g : Grow dl H H') (h : RepP G dl H Z d v) : RepP G dl H' Z d v := by
  rcases h with h | ⟨a, e, hz, hd, q⟩
  · exact .inl (h.mono (g.cut A.dz))
  · obtain ⟨u, hu, nt⟩ := q.notTbl
    refine .inr ⟨a, e, hz, hd, ?_⟩
    rw [g a u hu hd nt, ← hu]
    exact q.mono (g.cut A.dz)
theorem RepP.of (h : Rep G dl (cut H Z) d v) : RepP G dl H Z d v := .inl h
/-- a new object -/
theorem Rep.tup_new (A : At G dl Z O r sg H) {p : Addr} {ds : List D} {vs : List V} (h : H p = none) (q : RepL G dl (cut H Z) ds vs) : Rep G dl (cut (upd H p (.tup vs)) Z) (.tup ds) (.ref p) := by
  unfold Rep
  refine ⟨p, vs, rfl, SqT.of (by rw [cut_out (A.out h), upd_same]), q.mono ((Grow.new h).cut A.dz)⟩
theorem Rep.lst_new (A : At G dl Z O r sg H) {p : Addr} {ds : List D} {vs : List V} (h : H p = none) (q : RepL G dl (cut H Z) ds vs) : Rep G dl (cut (upd H p (.lst vs)) Z) (.lst ds) (.ref p) := by
  unfold Rep
  refine ⟨p, vs, rfl, by rw [cut_out (A.out h), upd_same], q.mono ((Grow.new h).cut A.dz)⟩
/-- a list read: tracked -/
theorem RepP.lst {ds : List D} (h : RepP G dl H Z (.lst ds) v) : ∃ a vs, v = .ref a ∧ H a = some (.lst vs) ∧ RepL G dl (cut H Z) ds vs := by
  rcases h with h | ⟨a, e, hz, hd, q⟩
  · unfold Rep at h
    obtain ⟨a, vs, e, q, rl⟩ := h
    exact ⟨a, vs, e, (cut_some q).2, rl⟩
  · obtain ⟨vs, e2, rl⟩ := q
    exact ⟨a, vs, e, e2, rl⟩
theorem RepP.tup {ds : List D} (h : RepP G dl H Z (.tup ds) v) : ∃ a vs, v = .ref a ∧ SqT G.K H a vs ∧ RepL G dl (cut H Z) ds vs := by
  rcases h with h | ⟨a, e, hz, hd, q⟩
  · unfold Rep at h
    obtain ⟨a, vs, e, q, rl⟩ := h
    exact ⟨a, vs, e, (cut_grow H Z).sqt q, rl⟩
  · exact q.elim
theorem RepP.str {x : List Nat} (h : RepP G dl H Z (.str x) v) : v = .str ⟨x.toArray⟩ := by
  rcases h with h | ⟨a, e, hz, hd, q⟩
  · unfold Rep at h; exact h
  · exact q.elim
theorem RepP.int {x : Int} (h : RepP G dl H Z (.int x) v) : v = .int x := by
  rcases h with h | ⟨a, e, hz, hd, q⟩
  · unfold Rep at h; exact h
  · exact q.elim
theorem RepP.bl {x : Bool} (h : RepP G dl H Z (.bl x) v) : v = .bl x := by
  rcases h with h | ⟨a, e, hz, hd, q⟩
  · unfold Rep at h; exact h
  · exact q.elim
theorem RepP.non (h : RepP G dl H Z .non v) : v = .non := by
  rcases h with h | ⟨a, e, hz, hd, q⟩
  · unfold Rep at h; exact h
  · exact q.elim
theorem Rep.int_ {S : Hp} {x : Int} : Rep G dl S (.int x) (.int x) := by unfold Rep; rfl
theorem Rep.bl_ {S : Hp} {x : Bool} : Rep G dl S (.bl x) (.bl x) := by unfold Rep; rfl
theorem Rep.non_ {S : Hp} : Rep G dl S .non .non := by unfold Rep; rfl
theorem Rep.str_ {S : Hp} {x : List Nat} : Rep G dl S (.str x) (.str ⟨x.toArray⟩) := by unfold Rep; rfl
/-- what is wanted of an error, behind a step -/
theorem epost (g1 : Grow dl H H1) {e : Exc} (h : ∀ cls dx H', Grow dl H H' → GlOk G dl H' → XRep G dl (cut H' Z) e cls dx H' → W cls dx sg H') :
    ∀ cls dx H', Grow dl H1 H' → GlOk G dl H' → XRep G dl (cut H' Z) e cls dx H' → W cls dx sg H' := fun cls dx H' g k x => h cls dx H' (g1.trans g) k x
end
def var (i : Nat) : LE → R D := fun r => match r[i]? with
  | some (.val d) => .ok d
  | _ => .stuck
def varP (i : Nat) : LE → R D := fun r => match r[i]? with
  | some (.val d) => .ok d
  | some (.own d) => .ok d
  | _ => .stuck
def cst (d : D) : LE → R D := fun _ => .ok d
section
variable {X : Cx} {G : Gm} {W : WX} {ex a b c : Expr} {es : List Expr} {f g : LE → R D} {pos p0 : Pos}
theorem DE.p (h : DE X G W ex f) : DP X G W ex f := PE_imp h fun sg H Q ⟨dl, Z, O, r, A, q⟩ => ⟨dl, Z, O, r, A, q.thn fun d h v H' g k rp => h v H' g k (.inl rp)⟩
theorem DF.e {f : LE → R (List D)} (h : DF X G W ex f) : DE X G W ex (fun r => (f r) >>= fun ds => .ok (.lst ds)) := PE_imp h fun sg H Q ⟨dl, Z, O, r, A, q⟩ => by
  refine ⟨dl, Z, O, r, A, q.bind.thn fun ds h p vs H' g k hp rl => ?_⟩
  exact h (.ref p) _ (g.trans (Grow.new hp)) (k.new hp) ((A.grow g k).gl |> fun _ => Rep.lst_new (A.grow g k) hp rl)
theorem de_var (i : Nat) {x : Str} (hN : X.N[i]? = some x := by rfl) (hv : Vis X.env.scope x := by first | exact Or.inl rfl | exact Or.inr (Or.inl rfl) | exact Or.inr (Or.inr rfl)) (hd : (x == ("__debug__" : Str)) = false := by decide)
    (hcd : (x == ("__classdict__" : Str)) = false := by decide) : DE X G W (.Name x pos) (var i) := PE_imp (pe_var hN hv hd hcd) fun sg H Q ⟨dl, Z, O, r, A, q⟩ => by
  unfold var at q
  split at q
  · rename_i d e
    obtain ⟨v, e1, rp⟩ := A.slot i _ e
    exact ⟨v, e1, q v H (.refl _ _) A.gl rp⟩
  · exact q.elim
theorem dp_var (i : Nat) {x : Str} (hN : X.N[i]? = some x := by rfl) (hv : Vis X.env.scope x := by first | exact Or.inl rfl | exact Or.inr (Or.inl rfl) | exact Or.inr (Or.inr rfl)) (hd : (x == ("__debug__" : Str)) = false := by decide)
    (hcd : (x == ("__classdict__" : Str)) = false := by decide) : DP X G W (.Name x pos) (varP i) := PE_imp (pe_var hN hv hd hcd) fun sg H Q ⟨dl, Z, O, r, A, q⟩ => by
  unfold varP at q
  split at q
  · rename_i d e
    obtain ⟨v, e1, rp⟩ := A.slot i _ e
    exact ⟨v, e1, q v H (.refl _ _) A.gl (.inl rp)⟩
  · rename_i d e
    obtain ⟨a, ha, e1, rp, _⟩ := A.slot i _ e
    exact ⟨_, e1, q _ H (.refl _ _) A.gl (.inr ⟨a, rfl, (A.own _ ha).1, (A.own _ ha).2, rp⟩)⟩
  · exact q.elim
theorem de_of {t : TE} {d : D} {v : V} (h : PE X ex (tC v)) (rp : ∀ dl S, Rep G dl S d v) : DE X G W ex (cst d) := PE_imp h fun sg H Q ⟨dl, Z, O, r, A, q⟩ => q v H (.refl _ _) A.gl (rp _ _)
theorem de_int {i j} : DE X G W (.Constant (.int i) j pos) (cst (.int i)) := de_of (t := tC .non) pe_int fun _ _ => Rep.int_
theorem de_bl {b j} : DE X G W (.Constant (.bool b) j pos) (cst (.bl b)) := de_of (t := tC .non) pe_bl fun _ _ => Rep.bl_
theorem de_str {x : Str} {j} (s : List Nat) (hx : x = ⟨s.toArray⟩ := by rfl) : DE X G W (.Constant (.str x) j pos) (cst (.str s)) := by
  subst hx; exact de_of (t := tC .non) pe_str fun _ _ => Rep.str_
theorem de_glob {x : Str} {v : V} {u : Value} {d : D} (hm : X.mg x = some u) (rv : RelV v u) (rp : ∀ dl S, Rep G dl S d v) (hg : Gl X x := by rfl) (hd : (x == ("__debug__" : Str)) = false := by decide) : DE X G W (.Name x pos) (cst d) :=
  de_of (t := tC .non) (pe_glob hg hm rv hd) rp
def OpD (X : Cx) (G : Gm) (fo : Value → Value → Sem Value) (g : D → D → R D) : Prop :=
  ∃ rr : R2, OpR X fo rr ∧ ∀ (dl : Addr) (Z : List Addr) (O : List (Nat × Addr)) (r : LE) (sg : St) (x y : D) (vx vy : V) (H : Hp) (Q : VK) (E : Exc → Prop), At G dl Z O r sg H → RepP G dl H Z x vx → RepP G dl H Z y vy →
    Wp (g x y) (fun d => ∀ v H', Grow dl H H' → GlOk G dl H' → Rep G dl (cut H' Z) d v → Q v H') E → rr vx vy H Q
theorem OpR.or {f : Value → Value → Sem Value} {r1 r2 : R2} (h1 : OpR X f r1) (h2 : OpR X f r2) : OpR X f (fun x y H Q => r1 x y H Q ∨ r2 x y H Q) := fun pins s sg H x y v u Q I rx ry h => by
  rcases h with h | h
  · exact h1 pins s sg H x y v u Q I rx ry h
  · exact h2 pins s sg H x y v u Q I rx ry h
theorem op_core {rr : R2} {gg : D → D → R D} (hop : ∀ (dl : Addr) (Z : List Addr) (O : List (Nat × Addr)) (r : LE) (sg : St) (x y : D) (vx vy : V) (H : Hp) (Q : VK) (E : Exc → Prop), At G dl Z O r sg H → RepP G dl H Z x vx → RepP G dl H Z y vy →
    Wp (gg x y) (fun d => ∀ v H', Grow dl H H' → GlOk G dl H' → Rep G dl (cut H' Z) d v → Q v H') E → rr vx vy H Q) {sg : St} {H : Hp} {Q : VK} (h : tD G W (fun r => do let x ← f r; let y ← g r; gg x y) sg H Q) : tOp rr (tP G W f) (tP G W g) sg H Q := by
  obtain ⟨dl, Z, O, r, A, q⟩ := h
  refine ⟨dl, Z, O, r, A, q.bind.thn fun x hx vx H1 g1 k1 rx => ?_⟩
  refine ⟨dl, Z, O, r, A.grow g1 k1, hx.bind.mono (fun y hy vy H2 g2 k2 ry => ?_) fun e he => epost g1 he⟩
  refine hop dl Z O r sg x y vx vy H2 Q _ ((A.grow g1 k1).grow g2 k2) (rx.grow (A.grow g1 k1) g2) ry (hy.thn fun d hd v H' g k rp => hd v H' ((g1.trans g2).trans g) k rp)
theorem de_op {op : Operator} {gg : D → D → R D} (ho : OpD X G (binaryOp op) gg) (ha : DP X G W a f) (hb : DP X G W b g) : DE X G W (.BinOp a op b pos) (fun r => do let x ← f r; let y ← g r; gg x y) := by
  obtain ⟨rr, h1, h2⟩ := ho
  exact PE_imp (pe_op h1 ha hb) fun sg H Q h => op_core h2 h
theorem de_cmp {op : CmpOp} {gg : D → D → R D} (ho : OpD X G (compareOp op) gg) (ha : DP X G W a f) (hb : DP X G W b g) (hm : behindInMarks op b = false := by first | exact nomark _ | rfl) : DE X G W (.Compare a [op] [b] pos) (fun r => do let x ← f r; let y ← g r; gg x y) := by
  obtain ⟨rr, h1, h2⟩ := ho
  exact PE_imp (pe_cmpR h1 ha hb hm) fun sg H Q h => op_core h2 h
/-- a value as a bool -/
def asB : D → R Bool
  | .bl b => .ok b
  | _ => .stuck
theorem tT_of {t : TE} {ff : LE → R D} (hd : ∀ sg H Q, tD G W ff sg H Q → t sg H Q) {sg : St} {H : Hp} {Q : Bool → Hp → Prop} (h : tT G W (fun r => ff r >>= asB) sg H Q) : t sg H (fun x H' => ∃ k, x = .bl k ∧ Q k H') := by
  obtain ⟨dl, Z, O, r, A, q⟩ := h
  refine hd _ _ _ ⟨dl, Z, O, r, A, q.bind.thn fun d h v H' g1 k1 rp => ?_⟩
  cases d <;> first | exact h.elim | skip
  rename_i k
  have := (RepP.of rp).bl
  exact ⟨k, this, h H' g1 k1⟩
theorem dt_cmp {op : CmpOp} {gg : D → D → R D} (ho : OpD X G (compareOp op) gg) (ha : DP X G W a f) (hb : DP X G W b g) (hm : behindInMarks op b = false := by first | exact nomark _ | rfl) : DT X G W (.Compare a [op] [b] pos) (fun r => (do let x ← f r; let y ← g r; gg x y) >>= asB) := by
  obtain ⟨rr, h1, h2⟩ := ho
  exact PT_imp (pt_cmpR h1 ha hb hm) fun sg H Q h => tT_of (t := tOp rr (tP G W f) (tP G W g)) (fun sg H Q h => op_core h2 h) h
/-- any other expression that gives a bool, as a test -/
theorem dt_val (h : DE X G W ex f) (he : ∀ whole, isTrue ex X.env whole = (do let v ← whole; standAt ex.pos; holding [v] (truthy v)) := by intro _; rfl) : DT X G W ex (fun r => f r >>= asB) :=
  PT_imp (pt_val h he) fun sg H Q q => tT_of (t := tD G W f) (fun _ _ _ z => z) q
end
end DL
set_option Elab.async false
set_option linter.all false
set_option maxRecDepth 100000
namespace DL
open PySem L2
mutual
def D.eqb : D → D → Bool
  | .non, .non => true
  | .bl a, .bl b => a == b
  | .bl a, .int j => (if a then 1 else 0) == j
  | .int i, .bl b => i == (if b then 1 else 0)
  | .int i, .int j => i == j
  | .str x, .str y => x == y
  | .lst xs, .lst ys => D.eqbs xs ys
  | .tup xs, .tup ys => D.eqbs xs ys
  | _, _ => false
def D.eqbs : List D → List D → Bool
  | [], [] => true
  | x :: xs, y :: ys => D.eqb x y && D.eqbs xs ys
  | _, _ => false
end
mutual
/-- plain data, at most n deep -/
def D.sh : D → Nat → Bool
  | .non, _ => true
  | .bl _, _ => true
  | .int _, _ => true
  | .str s, _ => s.all (· < 0x110000)
  | .lst xs, n => match n with
    | 0 => false
    | n + 1 => D.shs xs n
  | .tup xs, n => match n with
    | 0 => false
    | n + 1 => D.shs xs n
  | _, _ => false
def D.shs : List D → Nat → Bool
  | [], _ => true
  | x :: xs, n => D.sh x n && D.shs xs n
end
mutual
def D.toP : D → PyData
  | .bl b => .bool b
  | .int i => .int i
  | .str s => .str ⟨s.toArray⟩
  | .lst xs => .list (D.toPs xs)
  | .tup xs => .tuple (D.toPs xs)
  | _ => .none
def D.toPs : List D → List PyData
  | [] => []
  | x :: xs => D.toP x :: D.toPs xs
end
mutual
theorem sh_lay : ∀ (d : D) (n : Nat), d.sh n = true → (d.toP).canLay0 = true ∧ (d.toP).depth ≤ n
  | .non, n, h => by simp [D.toP, PyData.canLay0, PyData.depth]
  | .bl b, n, h => by simp [D.toP, PyData.canLay0, PyData.depth]
  | .int i, n, h => by simp [D.toP, PyData.canLay0, PyData.depth]
  | .str s, n, h => by
    simp only [D.sh] at h
    refine ⟨?_, by simp [D.toP, PyData.depth]⟩
    simp only [D.toP, PyData.canLay0, PyData.strOk]
    simpa using h
  | .lst xs, 0, h => by simp [D.sh] at h
  | .lst xs, n + 1, h => by
    simp only [D.sh] at h
    have := shs_lay xs n h
    simp only [D.toP, PyData.canLay0, PyData.depth]
    exact ⟨this.1, by omega⟩
  | .tup xs, 0, h => by simp [D.sh] at h
  | .tup xs, n + 1, h => by
    simp only [D.sh] at h
    have := shs_lay xs n h
    simp only [D.toP, PyData.canLay0, PyData.depth]
    exact ⟨this.1, by omega⟩
  | .dic _, n, h => by simp [D.sh] at h
  | .cdic _, n, h => by simp [D.sh] at h
  | .ins _ _, n, h => by simp [D.sh] at h
  | .dice, n, h => by simp [D.sh] at h
  | .fn _, n, h => by simp [D.sh] at h
theorem shs_lay : ∀ (ds : List D) (n : Nat), D.shs ds n = true → PyData.canLayAll0 (D.toPs ds) = true ∧ PyData.depthAll (D.toPs ds) ≤ n
  | [], n, h => by simp [D.toPs, PyData.canLayAll0, PyData.depthAll]
  | d :: ds, n, h => by
    simp only [D.shs, Bool.and_eq_true] at h
    have h1 := sh_lay d n h.1
    have h2 := shs_lay ds n h.2
    simp only [D.toPs, PyData.canLayAll0, PyData.depthAll, h1.1, h2.1, Bool.and_self, true_and]
    exact Nat.max_le.mpr ⟨h1.2, h2.2⟩
end
theorem sh_shaped {d : D} (h : d.sh 64 = true) : SeqAt.shaped d.toP = true := by
  have := sh_lay d 64 h
  unfold SeqAt.shaped
  rw [this.1, decide_eq_true this.2]; rfl
mutual
theorem eqb_eqv : ∀ (x y : D) (n m : Nat), x.sh n = true → y.sh m = true → PyData.eqv x.toP y.toP = D.eqb x y
  | .non, y, n, m, hx, hy => by cases y <;> simp_all [D.toP, D.eqb, PyData.eqv, D.sh]
  | .bl b, y, n, m, hx, hy => by cases y <;> simp_all [D.toP, D.eqb, PyData.eqv, D.sh]
  | .int i, y, n, m, hx, hy => by cases y <;> simp_all [D.toP, D.eqb, PyData.eqv, D.sh]
  | .str s, y, n, m, hx, hy => by
    cases y <;> simp_all [D.toP, D.eqb, PyData.eqv, D.sh]
    rw [Bool.eq_iff_iff]; simp
  | .lst xs, y, n, m, hx, hy => by
    cases y <;> first | (simp_all [D.toP, D.eqb, PyData.eqv, D.sh]; done) | skip
    rename_i ys
    cases n <;> first | (simp [D.sh] at hx; done) | skip
    cases m <;> first | (simp [D.sh] at hy; done) | skip
    simp only [D.sh] at hx hy
    simp only [D.toP, D.eqb, PyData.eqv]
    exact eqbs_eqv xs ys _ _ hx hy
  | .tup xs, y, n, m, hx, hy => by
    cases y <;> first | (simp_all [D.toP, D.eqb, PyData.eqv, D.sh]; done) | skip
    rename_i ys
    cases n <;> first | (simp [D.sh] at hx; done) | skip
    cases m <;> first | (simp [D.sh] at hy; done) | skip
    simp only [D.sh] at hx hy
    simp only [D.toP, D.eqb, PyData.eqv]
    exact eqbs_eqv xs ys _ _ hx hy
  | .dic _, y, n, m, hx, hy => by simp [D.sh] at hx
  | .cdic _, y, n, m, hx, hy => by simp [D.sh] at hx
  | .ins _ _, y, n, m, hx, hy => by simp [D.sh] at hx
  | .dice, y, n, m, hx, hy => by simp [D.sh] at hx
  | .fn _, y, n, m, hx, hy => by simp [D.sh] at hx
theorem eqbs_eqv : ∀ (xs ys : List D) (n m : Nat), D.shs xs n = true → D.shs ys m = true → PyData.eqvAll (D.toPs xs) (D.toPs ys) = D.eqbs xs ys
  | [], [], n, m, hx, hy => by simp [D.toPs, D.eqbs, PyData.eqvAll]
  | [], y :: ys, n, m, hx, hy => by simp [D.toPs, D.eqbs, PyData.eqvAll]
  | x :: xs, [], n, m, hx, hy => by simp [D.toPs, D.eqbs, PyData.eqvAll]
  | x :: xs, y :: ys, n, m, hx, hy => by
    simp only [D.shs, Bool.and_eq_true] at hx hy
    simp only [D.toPs, D.eqbs, PyData.eqvAll, eqb_eqv x y n m hx.1 hy.1, eqbs_eqv xs ys n m hx.2 hy.2]
end
section
variable {G : Gm} {dl : Addr} {S H : Hp} {Z : List Addr}
mutual
theorem Rep.dp (g : GrowS S H) : ∀ (d : D) (n : Nat) {v : V}, d.sh n = true → Rep G dl S d v → Dp G.K H v d.toP
  | .non, n, v, h, q => by unfold Rep at q; subst q; exact .non
  | .bl b, n, v, h, q => by unfold Rep at q; subst q; exact .bl b
  | .int i, n, v, h, q => by unfold Rep at q; subst q; exact .int i
  | .str s, n, v, h, q => by unfold Rep at q; subst q; exact .str _
  | .lst xs, 0, v, h, q => by simp [D.sh] at h
  | .lst xs, n + 1, v, h, q => by
    unfold Rep at q
    obtain ⟨a, vs, rfl, h1, h2⟩ := q
    simp only [D.sh] at h
    exact .lst (SqL.of (g a _ h1 fun ps z => by cases z)) (RepL.dp g xs n h h2)
  | .tup xs, 0, v, h, q => by simp [D.sh] at h
  | .tup xs, n + 1, v, h, q => by
    unfold Rep at q
    obtain ⟨a, vs, rfl, h1, h2⟩ := q
    simp only [D.sh] at h
    exact .tup (g.sqt h1) (RepL.dp g xs n h h2)
  | .dic _, n, v, h, q => by simp [D.sh] at h
  | .cdic _, n, v, h, q => by simp [D.sh] at h
  | .ins _ _, n, v, h, q => by simp [D.sh] at h
  | .dice, n, v, h, q => by simp [D.sh] at h
  | .fn _, n, v, h, q => by simp [D.sh] at h
theorem RepL.dp (g : GrowS S H) : ∀ (ds : List D) (n : Nat) {vs : List V}, D.shs ds n = true → RepL G dl S ds vs → DpAll G.K H vs (D.toPs ds)
  | [], n, vs, h, q => by unfold RepL at q; subst q; exact .nil
  | d :: ds, n, vs, h, q => by
    unfold RepL at q
    obtain ⟨v, r, rfl, h1, h2⟩ := q
    simp only [D.shs, Bool.and_eq_true] at h
    exact .cons (Rep.dp g d n h.1 h1) (RepL.dp g ds n h.2 h2)
end
theorem RepP.dp {d : D} {n : Nat} {v : V} (h : d.sh n = true) (q : RepP G dl H Z d v) : Dp G.K H v d.toP := by
  rcases q with q | ⟨a, rfl, hz, hd, q⟩
  · exact Rep.dp (cut_grow H Z) d n h q
  · cases d <;> first | exact q.elim | (simp [D.sh] at h; done) | skip
    rename_i xs
    obtain ⟨vs, e, rl⟩ := q
    cases n <;> first | (simp [D.sh] at h; done) | skip
    simp only [D.sh] at h
    exact .lst (SqL.of e) (RepL.dp (cut_grow H Z) xs _ h rl)
end
/-- scalars of kinds that == tells apart -/
def D.sc : D → D → Bool
  | .non, .non => true | .non, .int _ => true | .int _, .non => true | .non, .bl _ => true | .bl _, .non => true | .non, .str _ => true | .str _, .non => true
  | .int _, .int _ => true | .bl _, .bl _ => true | .str _, .str _ => true
  | .int _, .str _ => true | .str _, .int _ => true | .bl _, .str _ => true | .str _, .bl _ => true
  | _, _ => false
def eqD (x y : D) : R D := if (x.sc y || (x.sh 64 && y.sh 64)) = true then .ok (.bl (x.eqb y)) else .stuck
def neD (x y : D) : R D := if (x.sc y || (x.sh 64 && y.sh 64)) = true then .ok (.bl (!x.eqb y)) else .stuck
section
variable {X : Cx} {G : Gm}
theorem RepP.sc {dl : Addr} {H : Hp} {Z : List Addr} {x y : D} {vx vy : V} (h : x.sc y = true) (hx : RepP G dl H Z x vx) (hy : RepP G dl H Z y vy) : scal vx vy = true ∧ decide (vx = vy) = x.eqb y := by
  cases x <;> cases y <;> first | (simp [D.sc] at h; done) | skip
  all_goals first
    | (cases hx.non; cases hy.non; simp [scal, D.eqb]; done)
    | (cases hx.non; cases hy.int; simp [scal, D.eqb]; done)
    | (cases hx.non; cases hy.bl; simp [scal, D.eqb]; done)
    | (cases hx.non; cases hy.str; simp [scal, D.eqb]; done)
    | (cases hx.int; cases hy.non; simp [scal, D.eqb]; done)
    | (cases hx.int; cases hy.int; simp [scal, D.eqb, Bool.beq_eq_decide_eq]; done)
    | (cases hx.int; cases hy.str; simp [scal, D.eqb]; done)
    | (cases hx.bl; cases hy.non; simp [scal, D.eqb]; done)
    | (cases hx.bl; cases hy.bl; simp [scal, D.eqb, Bool.beq_eq_decide_eq]; done)
    | (cases hx.bl; cases hy.str; simp [scal, D.eqb]; done)
    | (cases hx.str; cases hy.non; simp [scal, D.eqb]; done)
    | (cases hx.str; cases hy.int; simp [scal, D.eqb]; done)
    | (cases hx.str; cases hy.bl; simp [scal, D.eqb]; done)
    | (cases hx.str; cases hy.str; simp only [scal, D.eqb, true_and]; rw [Bool.eq_iff_iff]; simp; done)
theorem op_eq_d (hG : G.K = X.K) (hu : X.A.units + 64 < cLine) : OpD X G (compareOp .Eq) eqD := by
  refine ⟨_, OpR.or op_eq (op_eqD hu), fun dl Z O r sg x y vx vy H Q E A hx hy h => ?_⟩
  unfold eqD at h
  split at h
  · rename_i hc
    rw [Bool.or_eq_true, Bool.and_eq_true] at hc
    rcases hc with hc | ⟨h1, h2⟩
    · obtain ⟨e1, e2⟩ := hx.sc hc hy
      refine .inl ⟨e1, ?_⟩
      rw [e2]; exact h _ H (.refl _ _) A.gl Rep.bl_
    · refine .inr ⟨x.toP, y.toP, hG ▸ hx.dp h1, hG ▸ hy.dp h2, sh_shaped h1, sh_shaped h2, ?_⟩
      rw [eqb_eqv x y _ _ h1 h2]; exact h _ H (.refl _ _) A.gl Rep.bl_
  · exact h.elim
theorem op_ne_d (hG : G.K = X.K) (hu : X.A.units + 64 < cLine) : OpD X G (compareOp .NotEq) neD := by
  refine ⟨_, OpR.or op_ne (op_neD hu), fun dl Z O r sg x y vx vy H Q E A hx hy h => ?_⟩
  unfold neD at h
  split at h
  · rename_i hc
    rw [Bool.or_eq_true, Bool.and_eq_true] at hc
    rcases hc with hc | ⟨h1, h2⟩
    · obtain ⟨e1, e2⟩ := hx.sc hc hy
      refine .inl ⟨e1, ?_⟩
      rw [e2]; exact h _ H (.refl _ _) A.gl Rep.bl_
    · refine .inr ⟨x.toP, y.toP, hG ▸ hx.dp h1, hG ▸ hy.dp h2, sh_shaped h1, sh_shaped h2, ?_⟩
      rw [eqb_eqv x y _ _ h1 h2]; exact h _ H (.refl _ _) A.gl Rep.bl_
  · exact h.elim
def subD : D → D → R D
  | .int i, .int j => .ok (.int (i - j))
  | _, _ => .stuck
def ltD : D → D → R D
  | .int i, .int j => .ok (.bl (decide (i < j)))
  | .str i, .str j => .ok (.bl (decide (i < j)))
  | _, _ => .stuck
def leD : D → D → R D
  | .int i, .int j => .ok (.bl (decide (i ≤ j)))
  | .str i, .str j => .ok (.bl (!decide (j < i)))
  | _, _ => .stuck
def gtD : D → D → R D
  | .int i, .int j => .ok (.bl (decide (j < i)))
  | .str i, .str j => .ok (.bl (decide (j < i)))
  | _, _ => .stuck
def geD : D → D → R D
  | .int i, .int j => .ok (.bl (decide (j ≤ i)))
  | .str i, .str j => .ok (.bl (!decide (i < j)))
  | _, _ => .stuck
theorem op_sub_d : OpD X G (binaryOp .Sub) subD := by
  refine ⟨_, op_sub, fun dl Z O r sg x y vx vy H Q E A hx hy h => ?_⟩
  unfold subD at h
  split at h
  · exact ⟨_, _, hx.int, hy.int, h _ H (.refl _ _) A.gl Rep.int_⟩
  · exact h.elim
theorem op_lt_d : OpD X G (compareOp .Lt) ltD := by
  refine ⟨_, OpR.or op_lt op_lt_str, fun dl Z O r sg x y vx vy H Q E A hx hy h => ?_⟩
  unfold ltD at h
  split at h
  · exact .inl ⟨_, _, hx.int, hy.int, h _ H (.refl _ _) A.gl Rep.bl_⟩
  · exact .inr ⟨_, _, hx.str, hy.str, h _ H (.refl _ _) A.gl Rep.bl_⟩
  · exact h.elim
theorem op_gt_d : OpD X G (compareOp .Gt) gtD := by
  refine ⟨_, OpR.or op_gt op_gt_str, fun dl Z O r sg x y vx vy H Q E A hx hy h => ?_⟩
  unfold gtD at h
  split at h
  · exact .inl ⟨_, _, hx.int, hy.int, h _ H (.refl _ _) A.gl Rep.bl_⟩
  · exact .inr ⟨_, _, hx.str, hy.str, h _ H (.refl _ _) A.gl Rep.bl_⟩
  · exact h.elim
end
def addD : D → D → R D
  | .int i, .int j => .ok (.int (i + j))
  | .str a, .str b => if a.length + b.length ≤ 16777216 then .ok (.str (a ++ b)) else .stuck
  | .lst a, .lst b => if a.length + b.length ≤ 16777216 then .ok (.lst (a ++ b)) else .stuck
  | .tup a, .tup b => if a.length + b.length ≤ 16777216 then .ok (.tup (a ++ b)) else .stuck
  | _, _ => .stuck
def mulD : D → D → R D
  | .int i, .int j => if (-(18446744073709551616) < i ∧ i < 18446744073709551616) ∨ (-(18446744073709551616) < j ∧ j < 18446744073709551616) then .ok (.int (i * j)) else .stuck
  | _, _ => .stuck
section
variable {X : Cx} {G : Gm}
theorem str_add (a b : List Nat) : (⟨a.toArray⟩ : Str) ++ ⟨b.toArray⟩ = ⟨(a ++ b).toArray⟩ := by
  show Str.mk (a.toArray ++ b.toArray) = _
  simp
theorem op_mul_d : OpD X G (binaryOp .Mult) mulD := by
  refine ⟨_, op_mul, fun dl Z O r sg x y vx vy H Q E A hx hy h => ?_⟩
  unfold mulD at h
  split at h
  · split at h
    · rename_i hc
      exact ⟨_, _, hx.int, hy.int, (by unfold CMul; omega), h _ H (.refl _ _) A.gl Rep.int_⟩
    · exact h.elim
  · exact h.elim
theorem op_add_d (hG : G.K = X.K) : OpD X G (binaryOp .Add) addD := by
  refine ⟨_, OpR.or op_add (OpR.or op_add_str (OpR.or op_cat op_catA)), fun dl Z O r sg x y vx vy H Q E A hx hy h => ?_⟩
  unfold addD at h
  split at h
  · exact .inl ⟨_, _, hx.int, hy.int, h _ H (.refl _ _) A.gl Rep.int_⟩
  · split at h
    · rename_i a b hc
      refine .inr (.inl ⟨_, _, hx.str, hy.str, by rw [sizeLine_eq]; simpa [Str.length] using hc, ?_⟩)
      rw [str_add]
      exact h _ H (.refl _ _) A.gl Rep.str_
    · exact h.elim
  · split at h
    · rename_i a b hc
      obtain ⟨p, vs, rfl, h1, r1⟩ := hx.lst
      obtain ⟨q, us, rfl, h2, r2⟩ := hy.lst
      refine .inr (.inr (.inl ⟨_, _, _, _, rfl, rfl, h1, h2, by rw [sizeLine_eq, r1.length, r2.length]; exact hc, fun l hl => ?_⟩))
      exact h _ _ (.new hl) (A.gl.new hl) (Rep.lst_new A hl (r1.append r2))
    · exact h.elim
  · split at h
    · rename_i a b hc
      obtain ⟨p, vs, rfl, h1, r1⟩ := hx.tup
      obtain ⟨q, us, rfl, h2, r2⟩ := hy.tup
      have e1 := r1.length
      have e2 := r2.length
      refine .inr (.inr (.inr ⟨_, _, _, _, rfl, rfl, hG ▸ h1, hG ▸ h2, by rw [sizeLine_eq, e1, e2]; exact hc, fun z => ?_, fun z1 z2 => ?_, fun _ _ l hl => ?_⟩))
      · subst z
        have : a = [] := List.length_eq_zero_iff.mp e1.symm
        subst this
        rcases hy with hy | ⟨_, _, _, _, hy⟩
        · exact h _ H (.refl _ _) A.gl hy
        · exact hy.elim
      · subst z2
        have : b = [] := List.length_eq_zero_iff.mp e2.symm
        subst this
        rcases hx with hx | ⟨_, _, _, _, hx⟩
        · rw [List.append_nil] at h
          exact h _ H (.refl _ _) A.gl hx
        · exact hx.elim
      · exact h _ _ (.new hl) (A.gl.new hl) (Rep.tup_new A hl (r1.append r2))
    · exact h.elim
  · exact h.elim
end
end DL
set_option Elab.async false
set_option linter.all false
set_option maxRecDepth 100000
namespace DL
open PySem L2 PySem.Spec PyProof.Rows
def andT (f g : LE → R Bool) : LE → R Bool := fun r => do if (← f r) then g r else .ok false
def orT (f g : LE → R Bool) : LE → R Bool := fun r => do if (← f r) then .ok true else g r
def notT (f : LE → R Bool) : LE → R Bool := fun r => do let b ← f r; .ok (!b)
def andV (f g : LE → R D) : LE → R D := fun r => do
  match ← f r with
  | .bl true => g r
  | .bl false => .ok (.bl false)
  | _ => .stuck
def orV (f g : LE → R D) : LE → R D := fun r => do
  match ← f r with
  | .bl true => .ok (.bl true)
  | .bl false => g r
  | _ => .stuck
def notV (f : LE → R D) : LE → R D := fun r => do
  match ← f r with
  | .bl b => .ok (.bl (!b))
  | _ => .stuck
def iteE (c : LE → R Bool) (f g : LE → R D) : LE → R D := fun r => do if (← c r) then f r else g r
section
variable {X : Cx} {G : Gm} {W : WX} {ex a b c : Expr} {rest : List Expr} {f g : LE → R D} {h k : LE → R Bool} {pos : Pos}
theorem dw_and1 (ha : DT X G W a h) : DW X G W (.BoolOp .And [a] pos) h := pw_and1 ha
theorem dw_or1 (ha : DT X G W a h) : DW X G W (.BoolOp .Or [a] pos) h := pw_or1 ha
theorem dw_and (ha : DT X G W a h) (hb : DW X G W (.BoolOp .And (b :: rest) pos) k) : DW X G W (.BoolOp .And (a :: b :: rest) pos) (andT h k) := PW_imp (pw_and ha hb) fun sg H Q ⟨dl, Z, O, r, A, q⟩ => by
  refine ⟨dl, Z, O, r, A, q.bind.thn fun b hb H1 g1 k1 => ?_⟩
  cases b with
  | true => exact ⟨dl, Z, O, r, A.grow g1 k1, hb.mono (fun b q H2 g2 k2 => q H2 (g1.trans g2) k2) fun e => epost g1⟩
  | false => exact hb H1 g1 k1
theorem dw_or (ha : DT X G W a h) (hb : DW X G W (.BoolOp .Or (b :: rest) pos) k) : DW X G W (.BoolOp .Or (a :: b :: rest) pos) (orT h k) := PW_imp (pw_or ha hb) fun sg H Q ⟨dl, Z, O, r, A, q⟩ => by
  refine ⟨dl, Z, O, r, A, q.bind.thn fun b hb H1 g1 k1 => ?_⟩
  cases b with
  | true => exact hb H1 g1 k1
  | false => exact ⟨dl, Z, O, r, A.grow g1 k1, hb.mono (fun b q H2 g2 k2 => q H2 (g1.trans g2) k2) fun e => epost g1⟩
theorem dt_w (h' : DW X G W ex h) : DT X G W ex h := h'.pt
theorem dt_not (ha : DT X G W a h) : DT X G W (.UnaryOp .Not a pos) (notT h) := PT_imp (pt_not ha) fun sg H Q ⟨dl, Z, O, r, A, q⟩ =>
  ⟨dl, Z, O, r, A, q.bind.thn fun b hb H1 g1 k1 => hb H1 g1 k1⟩
theorem de_one {op} (ha : DE X G W a f) : DE X G W (.BoolOp op [a] pos) f := pe_one ha
theorem de_and (ha : DE X G W a f) (hb : DE X G W (.BoolOp .And (b :: rest) pos) g) : DE X G W (.BoolOp .And (a :: b :: rest) pos) (andV f g) := PE_imp (pe_and ha hb) fun sg H Q ⟨dl, Z, O, r, A, q⟩ => by
  refine ⟨dl, Z, O, r, A, q.bind.thn fun d hd v H1 g1 k1 rp => ?_⟩
  split at hd
  · exact ⟨true, (RepP.of rp).bl, ⟨dl, Z, O, r, A.grow g1 k1, hd.mono (fun d q v H2 g2 k2 => q v H2 (g1.trans g2) k2) fun e => epost g1⟩⟩
  · exact ⟨false, (RepP.of rp).bl, hd _ H1 g1 k1 Rep.bl_⟩
  · exact hd.elim
theorem de_if (hc : DT X G W c h) (ha : DE X G W a f) (hb : DE X G W b g) : DE X G W (.IfExp c a b pos) (iteE h f g) := PE_imp (pe_ifExp hc ha hb) fun sg H Q ⟨dl, Z, O, r, A, q⟩ => by
  refine ⟨dl, Z, O, r, A, q.bind.thn fun b hb H1 g1 k1 => ?_⟩
  cases b with
  | true => exact ⟨dl, Z, O, r, A.grow g1 k1, hb.mono (fun d q v H2 g2 k2 => q v H2 (g1.trans g2) k2) fun e => epost g1⟩
  | false => exact ⟨dl, Z, O, r, A.grow g1 k1, hb.mono (fun d q v H2 g2 k2 => q v H2 (g1.trans g2) k2) fun e => epost g1⟩
end
def anil : LE → R (List D) := fun _ => .ok []
def acons (f : LE → R D) (fs : LE → R (List D)) : LE → R (List D) := fun r => do
  let x ← f r
  let xs ← fs r
  .ok (x :: xs)
def tupE (fs : LE → R (List D)) : LE → R D := fun r => do
  let ds ← fs r
  if ds.length ≤ 16777216 then .ok (.tup ds) else .stuck
def lstE (fs : LE → R (List D)) : LE → R (List D) := fun r => do
  let ds ← fs r
  if ds.length ≤ 16777216 then .ok ds else .stuck
section
variable {X : Cx} {G : Gm} {W : WX} {ex a b c : Expr} {es : List Expr} {f g : LE → R D} {fs : LE → R (List D)} {pos : Pos}
theorem da_nil : DA X G W [] anil := PA_imp pa_nil fun sg H Q ⟨dl, Z, O, r, A, q⟩ => q [] H (.refl _ _) A.gl RepL.nil
theorem da_cons (ha : DE X G W a f) (hs : DA X G W es fs) (hst : starEach (a :: es) X.env = (false, eval a X.env) :: starEach es X.env := by rfl) : DA X G W (a :: es) (acons f fs) := PA_imp (pa_cons ha hs hst) fun sg H Q ⟨dl, Z, O, r, A, q⟩ => by
  refine ⟨dl, Z, O, r, A, q.bind.thn fun x hx v H1 g1 k1 rp => ?_⟩
  refine ⟨dl, Z, O, r, A.grow g1 k1, hx.bind.mono (fun xs hxs vs H2 g2 k2 rl => ?_) fun e => epost g1⟩
  exact hxs (v :: vs) H2 (g1.trans g2) k2 (RepL.cons (rp.mono (g2.cut A.dz)) rl)
theorem de_tup {x1} (h : DA X G W es fs) : DE X G W (.Tuple es x1 pos) (tupE fs) := PE_imp (pe_tup h) fun sg H Q ⟨dl, Z, O, r, A, q⟩ => by
  refine ⟨dl, Z, O, r, A, q.bind.thn fun ds hd vs H1 g1 k1 rl => ?_⟩
  split at hd
  · rename_i hc
    refine ⟨by rw [sizeLine_eq, rl.length]; exact hc, fun p hp => ?_⟩
    exact hd _ _ (g1.trans (.new hp)) (k1.new hp) (Rep.tup_new (A.grow g1 k1) hp rl)
  · exact hd.elim
theorem df_lst (h : DA X G W es fs) : DF X G W (.List es pos) (lstE fs) := PE_imp (pe_lst h) fun sg H Q ⟨dl, Z, O, r, A, q⟩ => by
  refine ⟨dl, Z, O, r, A, q.bind.thn fun ds hd vs H1 g1 k1 rl => ?_⟩
  split at hd
  · rename_i hc
    exact ⟨by rw [sizeLine_eq, rl.length]; exact hc, fun p hp => hd p vs H1 g1 k1 hp rl⟩
  · exact hd.elim
/-- the place of a field: by the class -/
def fldD (fx : Nat → Option Nat) : D → R D
  | .ins c ds => match fx c with
    | some j => match ds[j]? with
      | some d => .ok d
      | none => .stuck
    | none => .stuck
  | _ => .stuck
theorem lookup_zip : ∀ {ns : List Str} {vs : List V} {j : Nat} {x : Str} {v : V}, ns.Nodup → ns[j]? = some x → vs[j]? = some v → (ns.zip vs).lookup x = some v
  | [], _, _, _, _, _, h, _ => by simp at h
  | _ :: _, [], _, _, _, _, _, h => by simp at h
  | n :: ns, u :: vs, 0, x, v, nd, h1, h2 => by
    simp at h1 h2
    subst h1 h2
    simp [List.lookup]
  | n :: ns, u :: vs, j + 1, x, v, nd, h1, h2 => by
    have hne : x ≠ n := fun e => by
      subst e
      exact (List.nodup_cons.mp nd).1 (List.mem_of_getElem? (by simpa using h1))
    rw [List.zip_cons_cons, List.lookup_cons]
    have : (x == n) = false := beq_eq_false_iff_ne.mpr hne
    rw [this]
    exact lookup_zip (List.nodup_cons.mp nd).2 (by simpa using h1) (by simpa using h2)
def FldOk (X : Cx) (G : Gm) (m : Str) (fx : Nat → Option Nat) : Prop := ∀ c j, fx c = some j → Cls X.K (G.cls c) ∧ NoAttr X.K (G.cls c) m ∧ (G.flds c)[j]? = some m ∧ (G.flds c).Nodup
theorem de_fld {m : Str} {fx : Nat → Option Nat} (hx : FldOk X G m fx) (ha : DE X G W a f) (hb : attributeBase a m X.env (eval a X.env) = eval a X.env := by rfl) : DE X G W (.Attribute a m pos) (fun r => f r >>= fldD fx) := PE_imp (pe_fld ha hb) fun sg H Q ⟨dl, Z, O, r, A, q⟩ => by
  refine ⟨dl, Z, O, r, A, q.bind.thn fun x hx' v H1 g1 k1 rp => ?_⟩
  unfold fldD at hx'
  split at hx'
  · rename_i c ds
    split at hx'
    · rename_i j hj
      split at hx'
      · rename_i d hd
        unfold Rep at rp
        obtain ⟨a, dx, vs, rfl, e, hl, rl⟩ := rp
        obtain ⟨h1, h2, h3, h4⟩ := hx c j hj
        obtain ⟨u, hu, ru⟩ := RepL.getD ds vs j d rl hd
        exact ⟨a, G.cls c, dx, _, u, rfl, (cut_some e).2, h1, h2, lookup_zip h4 h3 hu, hx' u H1 g1 k1 ru⟩
      · exact hx'.elim
    · exact hx'.elim
  · exact hx'.elim
def ixD : D → D → R D
  | .lst xs, .int i => match atI xs i with
    | some d => .ok d
    | none => .stuck
  | .tup xs, .int i => match atI xs i with
    | some d => .ok d
    | none => .stuck
  | .str s, .int i => if s.length ≤ 16777216 then (match atI s i with
    | some c => .ok (.str [c])
    | none => .stuck) else .stuck
  | _, _ => .stuck
theorem atI_rep {G : Gm} {dl : Addr} {S : Hp} {ds : List D} {vs : List V} {i : Int} {d : D} (rl : RepL G dl S ds vs) (h : atI ds i = some d) : ∃ v, atI vs i = some v ∧ Rep G dl S d v := by
  unfold atI at *
  rw [rl.length]
  cases e : ixN ds.length i with
  | none => rw [e] at h; cases h
  | some j =>
    rw [e] at h
    exact RepL.getD ds vs j d rl h
end
end DL
set_option Elab.async false
set_option linter.all false
set_option maxRecDepth 100000
namespace DL
open PySem L2 PySem.Spec PyProof.Rows
abbrev Live (Z : List Addr) (H : Hp) : Prop := ∀ a ∈ Z, ∃ o, H a = some o ∧ ∀ ps, o ≠ .tbl ps
/-- a def's promise: it comes to g of what its arguments are -/
def spD (G : Gm) (n : Nat) (g : List D → R D) : Sp := fun vs H Q E => vs.length = n ∧ ∃ dl Z ds, GlOk G dl H ∧ dl ∈ Z ∧ Live Z H ∧ RepL G dl (cut H Z) ds vs ∧
  Wp (g ds) (fun d => ∀ v H', Grow dl H H' → GlOk G dl H' → Rep G dl (cut H' Z) d v → Q v H')
    (fun e => ∀ cls dx H', Grow dl H H' → GlOk G dl H' → XRep G dl (cut H' Z) e cls dx H' → E cls dx H')
/-- an __init__'s promise: the instance at a is made to g of the arguments -/
def spI (G : Gm) (c n : Nat) (g : List D → R D) : Sp := fun vs H Q E => vs.length = n + 1 ∧ ∃ dl Z ds a dx us, vs = .ref a :: us ∧ H a = some (.ins (G.cls c) dx []) ∧ a ∉ Z ∧ GlOk G dl H ∧ dl ∈ Z ∧ Live Z H ∧ RepL G dl (cut H (a :: Z)) ds us ∧
  Wp (g ds) (fun d => ∀ H', (∀ b o, H b = some o → b ≠ dl → b ≠ a → (∀ ps, o ≠ .tbl ps) → H' b = some o) → GlOk G dl H' → Rep G dl (cut H' Z) d (.ref a) → Q .non H')
    (fun e => ∀ cls dx H', (∀ b o, H b = some o → b ≠ dl → b ≠ a → (∀ ps, o ≠ .tbl ps) → H' b = some o) → GlOk G dl H' → XRep G dl (cut H' Z) e cls dx H' → E cls dx H')
section
variable (P : Program) (w : World) (K : PySem.W.Frag) (mg : Str → Option Value) (base : Heap)
structure FnD (G : Gm) (k : Nat) (x : Str) (f : Addr) (n : Nat) (g : List D → R D) : Prop where
  ex : ∃ (fd : FuncData) (ps : List Str), ps.length = n ∧ FnOk P w K mg base (L2.CX P w) k f fd ps (spD G n g) ∧ Binds K fd ps []
  len : ∀ ds Q E, Wp (g ds) Q E → ds.length = n
  kp : PySem.W.keepIn K (.ref f) = true
  at_ : mg x = some (.ref f)
structure MeD (G : Gm) (k : Nat) (c : Nat) (m : Str) (n : Nat) (g : List D → R D) : Prop where
  ex : ∃ (f : Addr) (fd : FuncData) (ps : List Str), ps.length = n ∧ FnOk P w K mg base (L2.CX P w) k f fd ps (spD G n g) ∧ Binds K fd ps [] ∧ Meth K (G.cls c) m f
  len : ∀ ds Q E, Wp (g ds) Q E → ds.length = n
  cl : Cls K (G.cls c)
  nf : m ∉ G.flds c
structure MkD (G : Gm) (k : Nat) (c : Nat) (x : Str) (n : Nat) (g : List D → R D) : Prop where
  ex : ∃ (f : Addr) (fd : FuncData) (ps : List Str), ps.length = n + 1 ∧ FnOk P w K mg base (L2.CX P w) k f fd ps (spI G c n g) ∧ Binds K fd ps [] ∧ Mk K (G.cls c) f
  len : ∀ ds Q E, Wp (g ds) Q E → ds.length = n
  at_ : mg x = some (.ref (G.cls c))
end
section
variable {X : Cx} {G : Gm} {W : WX} {ex o : Expr} {es : List Expr} {f : LE → R D} {fs : LE → R (List D)} {g : List D → R D} {pos apos p : Pos} {x m : Str} {k n c : Nat} {fa : Addr}
theorem call_core (hl : ∀ ds Q E, Wp (g ds) Q E → ds.length = n) {sg : L2.St} {H : Hp} {Q : VK} (h : tD G W (fun r => fs r >>= g) sg H Q) : tCallS (spD G n g) (WE W) (tA G W fs) sg H Q := by
  obtain ⟨dl, Z, O, r, A, q⟩ := h
  refine ⟨dl, Z, O, r, A, q.bind.thn fun ds hd vs H1 g1 k1 rl => ?_⟩
  refine ⟨by rw [rl.length]; exact hl ds _ _ hd, dl, Z, ds, k1, A.dz, (A.grow g1 k1).live, rl, ?_⟩
  exact hd.mono (fun d q v H2 g2 k2 rp => q v H2 (g1.trans g2) k2 rp) fun e he cls dx H2 g2 k2 xr => he cls dx H2 (g1.trans g2) k2 xr
theorem de_call (F : FnD X.prog X.w X.K X.mg X.base G k x fa n g) (hr : Room k X.A) (tk : Takes X W) (ha : DA X G W (ex :: es) fs) (hg : Gl X x := by rfl)
    (hdb : (x == ("__debug__" : Str)) = false := by decide) (he : starEach (ex :: es) X.env = (false, eval ex X.env) :: starEach es X.env := by rfl) (hpl : (backTo pos (starEach es X.env)).any (·.1) = false := by rfl) :
    DE X G W (.Call (.Name x p) (ex :: es) [] pos) (fun r => fs r >>= g) := by
  obtain ⟨⟨fd, ps, hn, ok, hb⟩, hl, kp, hm⟩ := F
  exact PE_imp (pe_callS ok hr hg hm kp hb (fun sg => passAt tk sg) ha hdb he hpl) fun sg H Q h => call_core hl h
theorem de_call0 (F : FnD X.prog X.w X.K X.mg X.base G k x fa n g) (hr : Room k X.A) (tk : Takes X W) (hg : Gl X x := by rfl) (hdb : (x == ("__debug__" : Str)) = false := by decide) :
    DE X G W (.Call (.Name x p) [] [] pos) (fun _ => g []) := by
  obtain ⟨⟨fd, ps, hn, ok, hb⟩, hl, kp, hm⟩ := F
  refine ⟨fun pins s sg H Q I ⟨dl, Z, O, r, A, q⟩ => ?_⟩
  have h2 : spD G n g [] H Q (WE W sg) := ⟨hl [] _ _ q, dl, Z, [], A.gl, A.dz, A.live, RepL.nil, q⟩
  exact wpAny_Call_Name_kw (ld_glob I hg hm (PySem.W.callWith_K0 I.kIn kp (run_fnS (us := []) ok hr hb (passAt tk sg) I .nil h2)) hdb)
theorem lookup_none_zip {m : Str} : ∀ {ns : List Str} {vs : List V}, m ∉ ns → (ns.zip vs).lookup m = none
  | [], _, _ => by simp
  | _ :: _, [], _ => by simp
  | a :: ns, v :: vs, h => by
    rw [List.zip_cons_cons, List.lookup_cons]
    have : (m == a) = false := beq_eq_false_iff_ne.mpr fun e => h (e ▸ List.mem_cons_self)
    rw [this]
    exact lookup_none_zip fun z => h (List.mem_cons_of_mem _ z)
/-- the receiver is of the class c -/
def isC (c : Nat) : D → R D
  | .ins c' fs => if c' = c then .ok (.ins c fs) else .stuck
  | _ => .stuck
def tMethS (C : Addr) (m : Str) (sp : Sp) (E : L2.St → XK) (ta : TE) (t : TA) : TE := fun sg H Q => ta sg H fun x H1 => ∃ a dx fs, x = .ref a ∧ H1 a = some (.ins C dx fs) ∧ fs.lookup m = none ∧ t sg H1 fun vs H2 => sp (x :: vs) H2 Q (E sg)
section
variable {CX : CXT} {C fm : Addr} {fd : FuncData} {ps : List Str} {sp : Sp} {E : L2.St → XK} {ta : TE} {t : TA}
theorem pe_meth_s {pl : Sem Bool} (he : PE X o ta) (c : Cls X.K C) (hm : Meth X.K C m fm) (F : FnOk X.prog X.w X.K X.mg X.base CX k fm fd ps sp) (hr : Room k X.A) (hb : Binds X.K fd ps []) (hx : ∀ sg, PassesAt CX X sg (E sg)) (ha : PA X (ex :: es) t)
    (hst : starEach (ex :: es) X.env = (false, eval ex X.env) :: starEach es X.env) (hpl : (backTo pos (starEach es X.env)).any (·.1) = false)
    (ht : eval (.Call (.Attribute o m apos) (ex :: es) [] pos) X.env = (do
      let ov ← eval o X.env
      standAt apos.atName
      let (f, first) ← holding [ov] (getMethod ov m pl)
      callWith pos f first (backTo pos (starEach (ex :: es) X.env)) (backToKw pos (keywordEach [] X.env)))) :
    PE X (.Call (.Attribute o m apos) (ex :: es) [] pos) (tMethS C m sp E ta t) := by
  refine ⟨fun pins s sg H Q I h => PySem.W.methodCall_KW (pl := pl) (thn (he.run pins s sg H _ I h) fun u s1 ⟨x, H1, I1, rx, a, dx, fs, e1, ea, l, q⟩ => ?_) ht⟩
  subst e1
  obtain rfl : u = Value.ref a := rx
  refine getmeth_ok I1 ea c hm l (PySem.W.callWith_K (first := [.ref a]) (h₀ := X.base) I.ok.mod.kin hm.kp (thn (ha.run pos pins s1 sg H1 _ I1 q) fun us s2 ⟨vs, H2, I2, r, q2⟩ => ⟨I2.kIn, ?_⟩) hst hpl)
  exact run_fnS (us := .ref a :: us) (vs := .ref a :: vs) F hr hb (hx sg) I2 (.cons rfl r) q2
/-- C(..), what is raised wished at the slots -/
def tMakeS (C : Addr) (sp : Sp) (E : L2.St → XK) (t : TA) : TE := fun sg H Q => t sg H fun vs H1 => ∀ x dx, H1 x = none → H1 dx = none → dx ≠ x →
  sp (.ref x :: vs) (upd (upd H1 dx (.own x)) x (.ins C dx [])) (fun v H2 => v = .non ∧ Q (.ref x) H2) (E sg)
theorem run_make_s {pins : List (Addr × Obj)} {sg : L2.St} {H : Hp} {s : Shared} {Q : VK} {us : List Value} {vs : List V} (M : Mk X.K C fm) (F : FnOk X.prog X.w X.K X.mg X.base CX k fm fd ps sp) (hr : Room (k + 1) X.A) (hb : Binds X.K fd ps [])
    (hx : PassesAt CX X sg (E sg)) (I : Inv X pins sg H s) (r : Vals vs us)
    (h : ∀ x dx, H x = none → H dx = none → dx ≠ x → sp (.ref x :: vs) (upd (upd H dx (.own x)) x (.ins C dx [])) (fun v H2 => v = .non ∧ Q (.ref x) H2) (E sg)) :
    wpAny (model X.prog X.w) X.A (call (.ref C) us) (EP X pins sg Q) X.xe s := by
  have hq := h (s.heap.objs.size + 1) s.heap.objs.size (I.hok.fresh (Nat.le_succ _)) (I.hok.fresh (Nat.le_refl _)) (Nat.ne_of_lt (Nat.lt_succ_self _))
  have I2 := Inv.made (C := C) I
  have r2 : Vals (V.ref (s.heap.objs.size + 1) :: vs) (Value.ref (s.heap.objs.size + 1) :: us) := .cons rfl r
  have hl : (Value.ref (s.heap.objs.size + 1) :: us).length = ps.length := by
    rw [← r2.length]; exact F.len _ _ _ _ hq
  have bd := hb _ (Value.ref (s.heap.objs.size + 1) :: us) I2.kIn (by rw [List.append_nil]; exact hl)
  rw [List.append_nil] at bd
  refine wpAny_call (make_map (f := fm) I.kIn M.makes M.init (beq_iff_eq.mp M.fn) (codeAny_mono (F.run _ X.stack _ _ ⟨Value.ref (s.heap.objs.size + 1) :: us, []⟩ _ _ _ (E sg) (hr.make C us []) (I2.env0.make C us []) bd r2 hq) fun r s' hq' => ?_))
  cases r with
  | error e => exact hx pins _ _ e s' I2 hq'
  | ok fl =>
    cases fl with
    | ret u =>
      obtain ⟨v, H', I3, rv, ev, q3⟩ := I2.after hq'
      subst ev
      exact ⟨rv, ⟨V.ref (s.heap.objs.size + 1), H', I3, rfl, q3⟩⟩
    | next => exact hq'.elim
    | brk => exact hq'.elim
    | cont => exact hq'.elim
theorem pe_make_s (M : Mk X.K C fm) (F : FnOk X.prog X.w X.K X.mg X.base CX k fm fd ps sp) (hr : Room (k + 1) X.A) (hg : Gl X x) (hm : X.mg x = some (.ref C)) (hb : Binds X.K fd ps []) (hx : ∀ sg, PassesAt CX X sg (E sg))
    (ha : PA X (ex :: es) t) (hdb : (x == ("__debug__" : Str)) = false) (he : starEach (ex :: es) X.env = (false, eval ex X.env) :: starEach es X.env) (hpl : (backTo pos (starEach es X.env)).any (·.1) = false) :
    PE X (.Call (.Name x p) (ex :: es) [] pos) (tMakeS C sp E t) :=
  ⟨fun pins s sg H Q I h => wpAny_Call_Name_kw (ld_glob I hg hm (PySem.W.callWith_K (h₀ := X.base) I.ok.mod.kin M.kp (thn (ha.run pos pins s sg H _ I h) fun us s1 ⟨vs, H1, I1, r, q⟩ => ⟨I1.kIn, run_make_s M F hr hb (hx sg) I1 r q⟩) he hpl) hdb)⟩
end
theorem isC_wp {d : D} {Q : D → Prop} {E : Exc → Prop} (h : Wp (isC c d) Q E) : ∃ fs, d = .ins c fs ∧ Q d := by
  unfold isC at h
  split at h
  · split at h
    · rename_i e
      subst e
      exact ⟨_, rfl, h⟩
    · exact h.elim
  · exact h.elim
theorem meth_core (nf : m ∉ G.flds c) (hl : ∀ ds Q E, Wp (g ds) Q E → ds.length = n) {sg : L2.St} {H : Hp} {Q : VK} (h : tD G W (fun r => do let x ← f r; let x ← isC c x; let ds ← fs r; g (x :: ds)) sg H Q) :
    tMethS (G.cls c) m (spD G n g) (WE W) (tD G W f) (tA G W fs) sg H Q := by
  obtain ⟨dl, Z, O, r, A, q⟩ := h
  refine ⟨dl, Z, O, r, A, q.bind.thn fun d hd v H1 g1 k1 rp => ?_⟩
  obtain ⟨fs', rfl, hd⟩ := isC_wp hd.bind
  have A1 := A.grow g1 k1
  have rp2 := rp
  unfold Rep at rp2
  obtain ⟨a, dx, vs, rfl, e, hlen, rl⟩ := rp2
  refine ⟨a, dx, _, rfl, (cut_some e).2, lookup_none_zip nf, dl, Z, O, r, A1, hd.bind.mono (fun ds hds us H2 g2 k2 ru => ?_) fun e => epost g1⟩
  have rl2 := RepL.cons (rp.mono (g2.cut A.dz)) ru
  refine ⟨by rw [rl2.length]; exact hl _ _ _ hds, dl, Z, _, k2, A.dz, (A1.grow g2 k2).live, rl2, ?_⟩
  exact hds.mono (fun d q v H3 g3 k3 rp => q v H3 ((g1.trans g2).trans g3) k3 rp) fun e he cls dx H3 g3 k3 xr => he cls dx H3 ((g1.trans g2).trans g3) k3 xr
theorem de_meth {pl : Sem Bool} (M : MeD X.prog X.w X.K X.mg X.base G k c m n g) (hr : Room k X.A) (tk : Takes X W) (ho : DE X G W o f) (ha : DA X G W (ex :: es) fs)
    (hst : starEach (ex :: es) X.env = (false, eval ex X.env) :: starEach es X.env := by rfl) (hpl : (backTo pos (starEach es X.env)).any (·.1) = false := by rfl)
    (ht : eval (.Call (.Attribute o m apos) (ex :: es) [] pos) X.env = (do
      let ov ← eval o X.env
      standAt apos.atName
      let (f, first) ← holding [ov] (getMethod ov m pl)
      callWith pos f first (backTo pos (starEach (ex :: es) X.env)) (backToKw pos (keywordEach [] X.env))) := by rfl) :
    DE X G W (.Call (.Attribute o m apos) (ex :: es) [] pos) (fun r => do let x ← f r; let x ← isC c x; let ds ← fs r; g (x :: ds)) := by
  obtain ⟨⟨fa, fd, ps, hn, ok, hb, mt⟩, hl, cl, nf⟩ := M
  exact PE_imp (pe_meth_s ho cl mt ok hr hb (fun sg => passAt tk sg) ha hst hpl ht) fun sg H Q h => meth_core nf hl h
theorem de_make (M : MkD X.prog X.w X.K X.mg X.base G k c x n g) (hr : Room (k + 1) X.A) (tk : Takes X W) (ha : DA X G W (ex :: es) fs) (hg : Gl X x := by rfl)
    (hdb : (x == ("__debug__" : Str)) = false := by decide) (he : starEach (ex :: es) X.env = (false, eval ex X.env) :: starEach es X.env := by rfl) (hpl : (backTo pos (starEach es X.env)).any (·.1) = false := by rfl) :
    DE X G W (.Call (.Name x p) (ex :: es) [] pos) (fun r => fs r >>= g) := by
  obtain ⟨⟨fa, fd, ps, hn, ok, hb, mk⟩, hl, hm⟩ := M
  refine PE_imp (pe_make_s mk ok hr hg hm hb (fun sg => passAt tk sg) ha hdb he hpl) fun sg H Q ⟨dl, Z, O, r, A, q⟩ => ?_
  refine ⟨dl, Z, O, r, A, q.bind.thn fun ds hd vs H1 g1 k1 rl a dx na nd nad => ?_⟩
  have A1 := A.grow g1 k1
  have same : ∀ b o, H1 b = some o → (upd (upd H1 dx (.own a)) a (.ins (G.cls c) dx [])) b = some o := fun b o e => by
    rw [upd_ne (ne_of_none e na), upd_ne (ne_of_none e nd)]; exact e
  have k2 : GlOk G dl (upd (upd H1 dx (.own a)) a (.ins (G.cls c) dx [])) := k1.same same
  have hcut : GrowS (cut H1 Z) (cut (upd (upd H1 dx (.own a)) a (.ins (G.cls c) dx [])) (a :: Z)) := fun b o e n => by
    obtain ⟨e1, e2⟩ := cut_some e
    have hb : b ∉ a :: Z := fun z => by
      rcases List.mem_cons.mp z with z | z
      · exact ne_of_none e2 na z
      · exact e1 z
    rw [cut_out hb]
    exact same b o e2
  refine ⟨by rw [List.length_cons, rl.length]; exact congrArg (· + 1) (hl ds _ _ hd), dl, Z, ds, a, dx, vs, rfl, upd_same, A1.out na, k2, A.dz, fun b hb => ?_, rl.mono hcut, ?_⟩
  · obtain ⟨o, e, nt⟩ := A1.live b hb
    exact ⟨o, same b o e, nt⟩
  · have fr : ∀ H2 : Hp, (∀ b o, (upd (upd H1 dx (.own a)) a (.ins (G.cls c) dx [])) b = some o → b ≠ dl → b ≠ a → (∀ ps, o ≠ .tbl ps) → H2 b = some o) → Grow dl H1 H2 := fun H2 h b o e n nt => h b o (same b o e) n (ne_of_none e na) nt
    exact hd.mono (fun d q H2 h2 k3 rp => ⟨rfl, q _ H2 (g1.trans (fr H2 h2)) k3 rp⟩) fun e he cls dx' H2 h2 k3 xr => he cls dx' H2 (g1.trans (fr H2 h2)) k3 xr
end
end DL
set_option Elab.async false
set_option linter.all false
set_option maxRecDepth 100000
namespace DL
open PySem L2 PySem.Spec PyProof.Rows
/-- an expression's result in a statement: what is raised ends it -/
def R.onS {α : Type} : R α → LE → (α → R Out) → R Out
  | .ok a, _, k => k a
  | .err e, r, _ => .ok (.ex e r)
  | .stuck, _, _ => .stuck
  | .roll m f, r, k => .roll m fun i => (f i).onS r k
section
variable {α : Type}
@[simp] theorem onS_ok (a : α) (r : LE) (k : α → R Out) : (R.ok a).onS r k = k a := rfl
@[simp] theorem onS_err (e : Exc) (r : LE) (k : α → R Out) : (R.err e : R α).onS r k = .ok (.ex e r) := rfl
@[simp] theorem onS_stuck (r : LE) (k : α → R Out) : (R.stuck : R α).onS r k = .stuck := rfl
@[simp] theorem onS_roll (m : Nat) (f : Nat → R α) (r : LE) (k : α → R Out) : (R.roll m f).onS r k = .roll m fun i => (f i).onS r k := rfl
theorem onS_wp {Q : Out → Prop} {E : Exc → Prop} {r : LE} {k : α → R Out} : ∀ {m : R α}, Wp (m.onS r k) Q E → Wp m (fun a => Wp (k a) Q E) (fun e => Q (.ex e r))
  | .ok _, h => h
  | .err _, h => h
  | .stuck, h => h
  | .roll _ _, h => fun i hi => onS_wp (h i hi)
end
def skipS : LE → R Out := fun r => .ok (.nx r)
def seqS (F K : LE → R Out) : LE → R Out := fun r => do
  match ← F r with
  | .nx r' => K r'
  | o => .ok o
def retS (f : LE → R D) : LE → R Out := fun r => (f r).onS r fun d => .ok (.rt d)
def ifS (c : LE → R Bool) (F K : LE → R Out) : LE → R Out := fun r => (c r).onS r fun b => if b then F r else K r
def frz (i : Nat) (r : LE) : LE := match r[i]? with
  | some (.own (.lst ds)) => r.set i (.val (.lst ds))
  | some (.own (.dic ds)) => r.set i (.val (.dic ds))
  | _ => r
section
variable {G : Gm} {dl : Addr} {Z : List Addr} {O : List (Nat × Addr)} {r : LE} {sg : L2.St} {H H1 : Hp} {W : WX} {d : D} {v : V} {De : Ends}
/-- an expression's error, in a statement -/
theorem spost_ex (A : At G dl Z O r sg H) {e : Exc} (h : SPost G W De dl Z O H (.ex e r)) : ∀ cls dx H', Grow dl H H' → GlOk G dl H' → XRep G dl (cut H' Z) e cls dx H' → W cls dx sg H' :=
  fun cls dx H' g k x => h Z O sg H' cls dx (Stp.of_grow g k) (A.grow g k) x
theorem set_get {α : Type} {l : List α} {i j : Nat} {a b : α} (h : (l.set i a)[j]? = some b) : (j = i ∧ b = a ∧ i < l.length) ∨ (j ≠ i ∧ l[j]? = some b) := by
  by_cases e : i = j
  · subst e
    by_cases q : i < l.length
    · rw [List.getElem?_set_self q] at h
      exact .inl ⟨rfl, (Option.some.inj h).symm, q⟩
    · rw [List.getElem?_eq_none (by simpa using q)] at h; cases h
  · rw [List.getElem?_set_ne e] at h
    exact .inr ⟨fun z => e z.symm, h⟩
theorem At.set_val (A : At G dl Z O r sg H) (i : Nat) (rp : Rep G dl (cut H Z) d v) : At G dl Z O (r.set i (.val d)) (sg.set i (some v)) H := by
  refine ⟨A.gl, A.dz, A.live, A.own, A.inj, by rw [List.length_set, List.length_set, A.len], fun j c e => ?_⟩
  rcases set_get e with ⟨rfl, rfl, hl⟩ | ⟨hn, e2⟩
  · exact ⟨v, List.getElem?_set_self (by rw [← A.len]; exact hl), rp⟩
  · rw [List.getElem?_set_ne (fun z => hn z.symm)]
    exact A.slot j c e2
theorem At.set_un (A : At G dl Z O r sg H) (i : Nat) (x : Option V) : At G dl Z O (r.set i .un) (sg.set i x) H := by
  refine ⟨A.gl, A.dz, A.live, A.own, A.inj, by rw [List.length_set, List.length_set, A.len], fun j c e => ?_⟩
  rcases set_get e with ⟨rfl, rfl, hl⟩ | ⟨hn, e2⟩
  · trivial
  · rw [List.getElem?_set_ne (fun z => hn z.symm)]
    exact A.slot j c e2
theorem cut_new {p : Addr} {o : HO} (h : H p = none) : GrowS (cut H Z) (cut (upd H p o) (p :: Z)) := fun b u e n => by
  obtain ⟨e1, e2⟩ := cut_some e
  have hb : b ≠ p := ne_of_none e2 h
  rw [cut_out (by simp only [List.mem_cons, not_or]; exact ⟨hb, e1⟩), upd_ne hb]
  exact e2
theorem At.set_own (A : At G dl Z O r sg H) (i : Nat) {p : Addr} {o : HO} (hp : H p = none) (ow : OwnAt G dl (cut H Z) d (some o)) (hk : kee i d = i ∧ keeOk i d) : At G dl (p :: Z) ((i, p) :: O) (r.set i (.own d)) (sg.set i (some (.ref p))) (upd H p o) := by
  obtain ⟨u, hu, nt⟩ := ow.notTbl
  cases hu
  refine ⟨A.gl.new hp, List.mem_cons_of_mem _ A.dz, fun a ha => ?_, fun q hq => ?_, fun q hq q' hq' e => ?_, by rw [List.length_set, List.length_set, A.len], fun j c e => ?_⟩
  · rcases List.mem_cons.mp ha with rfl | ha
    · exact ⟨o, upd_same, nt⟩
    · obtain ⟨u, e, n⟩ := A.live a ha
      exact ⟨u, by rw [upd_ne (ne_of_none e hp)]; exact e, n⟩
  · rcases List.mem_cons.mp hq with rfl | hq
    · exact ⟨List.mem_cons_self, A.notdl hp⟩
    · exact ⟨List.mem_cons_of_mem _ (A.own q hq).1, (A.own q hq).2⟩
  · have no : ∀ q ∈ O, q.2 ≠ p := fun q hq z => A.out hp (z ▸ (A.own q hq).1)
    rcases List.mem_cons.mp hq with rfl | hq
    · rcases List.mem_cons.mp hq' with rfl | hq'
      · rfl
      · exact (no _ hq' e.symm).elim
    · rcases List.mem_cons.mp hq' with rfl | hq'
      · exact (no _ hq e).elim
      · exact A.inj q hq q' hq' e
  · rcases set_get e with ⟨rfl, rfl, hl⟩ | ⟨hn, e2⟩
    · refine ⟨p, by rw [hk.1]; exact List.mem_cons_self, List.getElem?_set_self (by rw [← A.len]; exact hl), ?_, hk.2⟩
      rw [upd_same]
      exact ow.mono (cut_new hp)
    · rw [List.getElem?_set_ne (fun z => hn z.symm)]
      have := A.slot j c e2
      cases c with
      | un => trivial
      | val d =>
        obtain ⟨v, e, q⟩ := this
        exact ⟨v, e, q.mono (cut_new hp)⟩
      | own d =>
        obtain ⟨a, ha, e, q, ko⟩ := this
        refine ⟨a, List.mem_cons_of_mem _ ha, e, ?_, ko⟩
        have hap : a ≠ p := fun z => A.out hp (by rw [← z]; exact (A.own _ ha).1)
        rw [upd_ne hap]
        exact q.mono (cut_new hp)
theorem Stp.new {p : Addr} {o : HO} {i : Nat} (A : At G dl Z O r sg H) (hp : H p = none) (hi : i ≠ 1000000) : Stp dl Z O H (p :: Z) ((i, p) :: O) (upd H p o) :=
  ⟨fun a u e _ _ _ => by rw [upd_ne (ne_of_none e hp)]; exact e, fun q hq => by
    rcases List.mem_cons.mp hq with rfl | hq
    · exact .inr (Free.of hp)
    · exact .inl ⟨q, hq, rfl⟩, fun a ha _ => List.mem_cons_of_mem _ ha, fun a ha => (List.mem_cons.mp ha).elim (fun e => .inr (by rw [e]; exact Free.of hp)) .inl, fun a ha => (List.mem_cons.mp ha).elim (fun e => (hi (congrArg Prod.fst e).symm).elim) id, fun a f u e => f u (by rw [upd_ne (ne_of_none e hp)]; exact e)⟩
/-- an owned thing is written -/
theorem At.write {d' : D} {o : HO} {i : Nat} {a : Addr} (A : At G dl Z O r sg H) (hi : r[i]? = some (.own d)) (ha : (kee i d, a) ∈ O) (hs : sg[i]? = some (some (.ref a))) (ow : OwnAt G dl (cut H Z) d' (some o)) (hk : kee i d' = kee i d) (ko' : keeOk i d') : At G dl Z O (r.set i (.own d')) sg (upd H a o) := by
  obtain ⟨u, hu, nt⟩ := ow.notTbl
  cases hu
  obtain ⟨haz, had⟩ := A.own _ ha
  obtain ⟨o0, ho0, nt0⟩ := A.live a haz
  have gcut : GrowS (cut H Z) (cut (upd H a o) Z) := fun b u e n => by
    obtain ⟨e1, e2⟩ := cut_some e
    have hba : b ≠ a := fun z => e1 (by rw [z]; exact haz)
    rw [cut_out e1, upd_ne hba]
    exact e2
  obtain ⟨x, y, z, hd⟩ := A.gl.dice
  refine ⟨⟨⟨x, y, z, by rw [upd_ne (fun e => had e.symm)]; exact hd⟩, fun p hp => ?_⟩, A.dz, fun b hb => ?_, A.own, A.inj, by rw [List.length_set, A.len], fun j c e => ?_⟩
  · obtain ⟨ps, h1, h2, h3⟩ := A.gl.tab p hp
    have hpa : p.1 ≠ a := fun e => by
      rw [e, ho0] at h1
      exact nt0 ps (Option.some.inj h1)
    refine ⟨ps, by rw [upd_ne hpa]; exact h1, h2, fun pos cv hc => ?_⟩
    · obtain ⟨c, e1, e2⟩ := h3 pos cv hc
      refine ⟨c, e1, ?_⟩
      have hca : c ≠ a := fun e => by
        have ow' := A.slot i _ hi
        obtain ⟨a', ha', hs', q, _⟩ := ow'
        have ea : a' = a := by rw [hs] at hs'; cases hs'; rfl
        subst ea
        rw [← e, e2] at q
        unfold OwnAt at q
        split at q
        · obtain ⟨_, z, _⟩ := q; cases z
        · obtain ⟨_, z, _⟩ := q; cases z
        · obtain ⟨_, _, z, _⟩ := q; cases z
        · exact q
      rw [upd_ne hca]
      exact e2
  · by_cases e : b = a
    · rw [e]; exact ⟨o, upd_same, nt⟩
    · obtain ⟨u, h1, h2⟩ := A.live b hb
      exact ⟨u, by rw [upd_ne e]; exact h1, h2⟩
  · rcases set_get e with ⟨rfl, rfl, hl⟩ | ⟨hn, e2⟩
    · exact ⟨a, by rw [hk]; exact ha, hs, by rw [upd_same]; exact ow.mono gcut, ko'⟩
    · have := A.slot j c e2
      cases c with
      | un => trivial
      | val d =>
        obtain ⟨v, e, q⟩ := this
        exact ⟨v, e, q.mono gcut⟩
      | own d =>
        obtain ⟨b, hb, e, q, ko⟩ := this
        refine ⟨b, hb, e, ?_, ko⟩
        obtain ⟨_, _, _, _, koi⟩ := A.slot i _ hi
        have hba : b ≠ a := fun z => hn (kee_inj ko koi (congrArg Prod.fst (A.inj _ hb _ ha z)))
        rw [upd_ne hba]
        exact q.mono gcut
theorem Stp.write {o : HO} {k : Nat} {a : Addr} (ha : (k, a) ∈ O) (nt : ∀ ps, o ≠ .tbl ps) : Stp dl Z O H Z O (upd H a o) :=
  ⟨fun b u e _ m _ => by rw [upd_ne fun z => m _ ha z.symm]; exact e, fun q hq => .inl ⟨q, hq, rfl⟩, fun _ h _ => h, fun _ h => .inl h, fun _ h => h, fun b f u e => by
    by_cases z : b = a
    · obtain ⟨ps, e2⟩ := f o (by rw [z, upd_same])
      exact (nt ps e2).elim
    · exact f u (by rw [upd_ne z]; exact e)⟩
end
end DL
set_option Elab.async false
set_option linter.all false
set_option maxRecDepth 100000
namespace DL
open PySem L2 PySem.Spec PyProof.Rows
/-- a value for a name: read alone (val), or a new list or dict of one's own (own) -/
def tK (G : Gm) (W : WX) (f : LE → R Cell) : TE := fun sg H Q => ∃ dl Z O r, At G dl Z O r sg H ∧
  Wp (f r) (fun c => match c with
    | .val d => ∀ v H', Grow dl H H' → GlOk G dl H' → Rep G dl (cut H' Z) d v → Q v H'
    | .own d => ∀ p o H', Grow dl H H' → GlOk G dl H' → H' p = none → OwnAt G dl (cut H' Z) d (some o) → (∀ i, i ≠ 1000000 → kee i d = i ∧ keeOk i d) → Q (.ref p) (upd H' p o)
    | .un => False)
    (fun e => ∀ cls dx H', Grow dl H H' → GlOk G dl H' → XRep G dl (cut H' Z) e cls dx H' → W cls dx sg H')
abbrev DK (X : Cx) (G : Gm) (W : WX) (e : Expr) (f : LE → R Cell) : Prop := PE X e (tK G W f)
def valK (f : LE → R D) : LE → R Cell := fun r => f r >>= fun d => .ok (.val d)
def ownK (f : LE → R (List D)) : LE → R Cell := fun r => f r >>= fun ds => .ok (.own (.lst ds))
def okK : Cell → R Cell
  | .un => .stuck
  | .val d => .ok (.val d)
  | .own d => .ok (.own d)
def setK (i : Nat) (f : LE → R Cell) : LE → R Out := fun r => (f r >>= okK).onS r fun c => .ok (.nx (r.set i c))
def parK (i j : Nat) (f g : LE → R Cell) : LE → R Out := fun r => (f r >>= okK).onS r fun c => (g r >>= okK).onS r fun c' => .ok (.nx ((r.set i c).set j c'))
def tGd (G : Gm) (gd : D → LE → Option LE) (is : List Nat) : TG := fun v sg H Q => ∃ dl Z O r d, At G dl Z O r sg H ∧ Rep G dl (cut H Z) d v ∧ ∃ r', gd d r = some r' ∧
  ∀ sg', sg'.length = sg.length → (∀ j, j ∉ is → sg'[j]? = sg[j]?) → At G dl Z O r' sg' H → Q sg' H
abbrev DG (X : Cx) (G : Gm) (tg : Expr) (gd : D → LE → Option LE) (is : List Nat) : Prop := PG X tg (tGd G gd is)
def tGs (G : Gm) (gs : List D → LE → Option LE) (is : List Nat) : TGs := fun vs sg H Q => ∃ dl Z O r ds, At G dl Z O r sg H ∧ RepL G dl (cut H Z) ds vs ∧ ∃ r', gs ds r = some r' ∧
  ∀ sg', sg'.length = sg.length → (∀ j, j ∉ is → sg'[j]? = sg[j]?) → At G dl Z O r' sg' H → Q sg' H
abbrev DGs (X : Cx) (G : Gm) (tg : List Expr) (gs : List D → LE → Option LE) (is : List Nat) : Prop := PGs X tg (tGs G gs is)
def gN (i : Nat) : D → LE → Option LE := fun d r => some (r.set i (.val d))
def gNil_ : List D → LE → Option LE
  | [], r => some r
  | _, _ => none
def gCons_ (g : D → LE → Option LE) (gs : List D → LE → Option LE) : List D → LE → Option LE
  | d :: ds, r => (g d r).bind (gs ds)
  | [], _ => none
def gTup_ (n : Nat) (gs : List D → LE → Option LE) : D → LE → Option LE
  | .tup ds, r => if ds.length = n then gs ds r else none
  | _, _ => none
def asgS (f : LE → R D) (gd : D → LE → Option LE) : LE → R Out := fun r => (f r).onS r fun d => match gd d r with
  | some r' => .ok (.nx r')
  | none => .stuck
theorem PG_imp {X : Cx} {e : Expr} {t t' : TG} (h : PG X e t) (i : ∀ v sg H Q, t' v sg H Q → t v sg H Q) : PG X e t' := ⟨fun pins s sg H v u Q I r q => h.run pins s sg H v u Q I r (i _ _ _ _ q)⟩
theorem PGs_imp {X : Cx} {e : List Expr} {t t' : TGs} (h : PGs X e t) (i : ∀ v sg H Q, t' v sg H Q → t v sg H Q) : PGs X e t' := ⟨fun pins s sg H v u Q I r q => h.run pins s sg H v u Q I r (i _ _ _ _ q)⟩
section
variable {X : Cx} {G : Gm} {W : WX} {ex a b c : Expr} {es : List Expr} {f : LE → R D} {fk fk2 : LE → R Cell} {fs : LE → R (List D)} {h : LE → R Bool} {F K : LE → R Out} {st : Stmt} {rest : List Stmt} {pos pos' : Pos} {x y : Str} {i j : Nat}
theorem DE.k (q : DE X G W ex f) : DK X G W ex (valK f) := PE_imp q fun sg H Q ⟨dl, Z, O, r, A, q⟩ => ⟨dl, Z, O, r, A, q.bind.thn fun d z => z⟩
theorem DF.k (q : DF X G W ex fs) : DK X G W ex (ownK fs) := PE_imp q fun sg H Q ⟨dl, Z, O, r, A, q⟩ => ⟨dl, Z, O, r, A, q.bind.thn fun ds z p vs H' g k hp rl => z p (.lst vs) H' g k hp ⟨vs, rfl, rl⟩ fun i hi => ⟨rfl, hi⟩⟩
theorem dss_nil : DSs X G W [] skipS := PSs_imp pss_nil fun De sg H ⟨dl, Z, O, r, A, q⟩ => q Z O sg H Stp.refl A
theorem dss_cons (h1 : DS X G W st F) (h2 : DSs X G W rest K) : DSs X G W (st :: rest) (seqS F K) := PSs_imp (pss_cons h1 h2) fun De sg H ⟨dl, Z, O, r, A, q⟩ => by
  refine ⟨dl, Z, O, r, A, q.bind.thn fun o ho => ?_⟩
  cases o with
  | nx r' => exact fun Z' O' sg' H' s A' => ⟨dl, Z', O', r', A', ho.thn fun o z => SPost.trans A s z⟩
  | bk r' => exact ho
  | ct r' => exact ho
  | rt d => exact ho
  | ex e r' => exact ho
theorem dss_one (h1 : DS X G W st F) : DSs X G W [st] F := PSs_imp (pss_one h1) fun _ _ _ z => z
theorem ds_set (i : Nat) (he : DK X G W ex fk) (hti : i ≠ 1000000 := by decide) (hN : X.N.Nodup) (hi : X.N[i]? = some x := by rfl) (hx : Loc X.env.scope x := by first | exact Or.inl rfl | exact Or.inr rfl) (hs : swapsWith ex (some (.Name x pos')) pos.line X.env = pure false := by rfl)
    (hf : X.fn x = true ∨ X.env.scope.names.lookup x = some .local := by first | exact .inl rfl | exact .inr rfl) : DS X G W (.Assign [.Name x pos'] ex pos) (setK i fk) := PS_imp (ps_set hN hi hx he hs hf) fun De sg H ⟨dl, Z, O, r, A, q⟩ => by
  refine ⟨dl, Z, O, r, A, (onS_wp q).bind.mono (fun c hc => ?_) fun e he => spost_ex A he⟩
  cases c with
  | val d => exact fun v H1 g1 k1 rp => hc Z O _ H1 (Stp.of_grow g1 k1) ((A.grow g1 k1).set_val i rp)
  | own d => exact fun p o H1 g1 k1 hp ow hk => hc _ _ _ _ (Stp.trans A (Stp.of_grow g1 k1) (Stp.new (A.grow g1 k1) hp hti)) ((A.grow g1 k1).set_own i hp ow (hk i hti))
  | un => exact hc.elim
theorem ds_asg {gd : D → LE → Option LE} {is : List Nat} {tg : Expr} (he : DE X G W ex f) (hg : DG X G tg gd is) (hs : swapsWithSole [tg] ex pos.line X.env = pure false := by rfl) (hw : swappedStores [tg] ex X.env = pure none := by rfl)
    (h1 : (assignEach [tg] X.env).map (·.2) = [assign tg X.env] := by rfl) : DS X G W (.Assign [tg] ex pos) (asgS f gd) := PS_imp (ps_asg he hg hs hw h1) fun De sg H ⟨dl, Z, O, r, A, q⟩ => by
  refine ⟨dl, Z, O, r, A, (onS_wp q).mono (fun d hd v H1 g1 k1 rp => ?_) fun e he => spost_ex A he⟩
  split at hd
  · rename_i r' hr
    exact ⟨dl, Z, O, r, d, A.grow g1 k1, rp, r', hr, fun sg' _ _ A' => hd Z O sg' H1 (Stp.of_grow g1 k1) A'⟩
  · exact hd.elim
theorem ds_ret (he : DE X G W ex f) : DS X G W (.Return (some ex) pos) (retS f) := PS_imp (ps_ret he) fun De sg H ⟨dl, Z, O, r, A, q⟩ =>
  ⟨dl, Z, O, r, A, (onS_wp q).mono (fun d hd v H1 g1 k1 rp => hd Z O v H1 (Stp.of_grow g1 k1) k1 rp) fun e he => spost_ex A he⟩
theorem ds_if {sa sb : List Stmt} (hc : DT X G W c h) (ha : DSs X G W sa F) (hb : DSs X G W sb K) : DS X G W (.If c sa sb pos) (ifS h F K) := PS_imp (ps_if hc ha hb) fun De sg H ⟨dl, Z, O, r, A, q⟩ => by
  refine ⟨dl, Z, O, r, A, (onS_wp q).mono (fun b hb H1 g1 k1 => ?_) fun e he => spost_ex A he⟩
  cases b with
  | true => exact ⟨dl, Z, O, r, A.grow g1 k1, hb.thn fun o z => SPost.trans A (Stp.of_grow g1 k1) z⟩
  | false => exact ⟨dl, Z, O, r, A.grow g1 k1, hb.thn fun o z => SPost.trans A (Stp.of_grow g1 k1) z⟩
theorem dg_name (i : Nat) (hN : X.N.Nodup) (hi : X.N[i]? = some x := by rfl) (hx : Loc X.env.scope x := by first | exact Or.inl rfl | exact Or.inr rfl) (hf : X.fn x = true ∨ X.env.scope.names.lookup x = some .local := by first | exact .inl rfl | exact .inr rfl) :
    DG X G (.Name x pos) (gN i) [i] := PG_imp (pg_name hN hi hx hf) fun v sg H Q ⟨dl, Z, O, r, d, A, rp, r', hr, q⟩ => by
  cases hr
  exact q _ (List.length_set ..) (fun j hj => List.getElem?_set_ne (by simpa using fun e : i = j => hj (by simp [e]))) (A.set_val i rp)
theorem dgs_nil : DGs X G [] gNil_ [] := PGs_imp pgs_nil fun vs sg H Q ⟨dl, Z, O, r, ds, A, rl, r', hr, q⟩ => by
  cases ds with
  | nil =>
    cases hr
    unfold RepL at rl
    exact ⟨rl, q sg rfl (fun _ _ => rfl) A⟩
  | cons d ds => cases hr
theorem dgs_cons {g1 : D → LE → Option LE} {gs : List D → LE → Option LE} {is js : List Nat} (h1 : DG X G ex g1 is) (h2 : DGs X G es gs js)
    (hs : (assignEach (ex :: es) X.env).map (·.2) = assign ex X.env :: (assignEach es X.env).map (·.2) := by rfl) : DGs X G (ex :: es) (gCons_ g1 gs) (is ++ js) := PGs_imp (pgs_cons h1 h2 hs) fun vs sg H Q ⟨dl, Z, O, r, ds, A, rl, r', hr, q⟩ => by
  cases ds with
  | nil => cases hr
  | cons d ds =>
    unfold RepL at rl
    obtain ⟨v, us, rfl, rp, rl⟩ := rl
    change (g1 d r).bind (gs ds) = some r' at hr
    cases e : g1 d r with
    | none => rw [e] at hr; cases hr
    | some r1 =>
      rw [e] at hr
      refine ⟨v, us, rfl, dl, Z, O, r, d, A, rp, r1, e, fun sg1 l1 s1 A1 => ?_⟩
      refine ⟨dl, Z, O, r1, ds, A1, rl, r', hr, fun sg2 l2 s2 A2 => q sg2 (l2.trans l1) (fun j hj => ?_) A2⟩
      rw [List.mem_append, not_or] at hj
      rw [s2 j hj.2, s1 j hj.1]
theorem dg_tup {gs : List D → LE → Option LE} {is : List Nat} {k : Nat} {n : Nat} (hG : G.K = X.K) (hc : X.calm = true) (h : DGs X G es gs is) (hn : (assignEach es X.env).length = n := by rfl) (hst : (assignEach es X.env).findIdx? (·.1) = none := by rfl) :
    DG X G (.Tuple es k pos) (gTup_ n gs) is := PG_imp (pg_tup hc h hn hst) fun v sg H Q ⟨dl, Z, O, r, d, A, rp, r', hr, q⟩ => by
  cases d <;> first | (cases hr; done) | skip
  rename_i ds
  change (if ds.length = n then gs ds r else none) = some r' at hr
  split at hr
  · rename_i hl
    unfold Rep at rp
    obtain ⟨a, vs, rfl, e, rl⟩ := rp
    exact ⟨a, vs, rfl, hG ▸ (cut_grow H Z).sqt e, by rw [rl.length]; exact hl, dl, Z, O, r, ds, A, rl, r', hr, q⟩
  · cases hr
theorem At.aside {dl : Addr} {Z : List Addr} {O : List (Nat × Addr)} {r : LE} {sg : L2.St} {H : Hp} (A : At G dl Z O r sg H) {p : Addr} {o : HO} (hp : H p = none) (nt : ∀ ps, o ≠ .tbl ps) : At G dl (p :: Z) O r sg (upd H p o) := by
  refine ⟨A.gl.new hp, List.mem_cons_of_mem _ A.dz, fun a ha => ?_, fun q hq => ⟨List.mem_cons_of_mem _ (A.own q hq).1, (A.own q hq).2⟩, A.inj, A.len, fun j c e => ?_⟩
  · rcases List.mem_cons.mp ha with rfl | ha
    · exact ⟨o, upd_same, nt⟩
    · obtain ⟨u, e, n⟩ := A.live a ha
      exact ⟨u, by rw [upd_ne (ne_of_none e hp)]; exact e, n⟩
  · have := A.slot j c e
    cases c with
    | un => trivial
    | val d =>
      obtain ⟨v, e, q⟩ := this
      exact ⟨v, e, q.mono (cut_new hp)⟩
    | own d =>
      obtain ⟨a, ha, e, q, ko⟩ := this
      have hap : a ≠ p := fun z => A.out hp (by rw [← z]; exact (A.own _ ha).1)
      refine ⟨a, ha, e, ?_, ko⟩
      rw [upd_ne hap]
      exact q.mono (cut_new hp)
theorem XRep.mono {dl : Addr} {S S' : Hp} {e : Exc} {cls : Value} {dx : Option Addr} {H : Hp} (g : GrowS S S') (x : XRep G dl S e cls dx H) : XRep G dl S' e cls dx H := by
  unfold XRep at *
  refine ⟨x.1, ?_⟩
  have x2 := x.2
  split
  · rename_i hn; rw [hn] at x2; exact x2
  · rename_i f hf
    rw [hf] at x2
    obtain ⟨d, v, h1, h2, h3⟩ := x2
    exact ⟨d, v, h1, h2, h3.mono g⟩
theorem ds_par (i j : Nat) (hc : X.calm = true) (hN : X.N.Nodup) {px py pt pt2 : Pos} {kt k2 : Nat} (hij : i ≠ j) (hti : i ≠ 1000000) (htj : j ≠ 1000000) (ha : DK X G W a fk) (hb : DK X G W b fk2)
    (hx : X.env.scope.names.lookup x = some .local := by rfl) (hy : X.env.scope.names.lookup y = some .local := by rfl) (hi : X.N[i]? = some x := by rfl) (hj : X.N[j]? = some y := by rfl)
    (hw : swappedStores [.Tuple [.Name x px, .Name y py] kt pt] (.Tuple [a, b] k2 pt2) X.env = pure (some [x, y]) := by rfl)
    (hs : swapsWithSole [.Tuple [.Name x px, .Name y py] kt pt] (.Tuple [a, b] k2 pt2) pos.line X.env = pure false := by rfl)
    (s1 : starEach [a, b] X.env = (false, eval a X.env) :: starEach [b] X.env := by rfl) (s2 : starEach [b] X.env = (false, eval b X.env) :: starEach [] X.env := by rfl) :
    DS X G W (.Assign [.Tuple [.Name x px, .Name y py] kt pt] (.Tuple [a, b] k2 pt2) pos) (parK i j fk fk2) := PS_imp (ps_par hc hN hi hj hij hx hy (pa_cons ha (pa_cons hb pa_nil s2) s1) hw hs) fun De sg H ⟨dl, Z, O, r, A, q⟩ => by
  refine ⟨dl, Z, O, r, A, (onS_wp q).bind.mono (fun c hc => ?_) fun e he => spost_ex A he⟩
  cases c with
  | val d =>
    intro v H1 g1 k1 rp
    have A1 := A.grow g1 k1
    refine ⟨dl, Z, O, r, A1, (onS_wp hc).bind.mono (fun c' hc' => ?_) fun e he => epost g1 (spost_ex A he)⟩
    cases c' with
    | val d' =>
      intro v' H2 g2 k2 rp'
      exact ⟨v, v', rfl, hc' Z O _ H2 (Stp.of_grow (g1.trans g2) k2) (((A1.grow g2 k2).set_val i (rp.mono (g2.cut A.dz))).set_val j rp')⟩
    | own d' =>
      intro p o H2 g2 k2 hp ow hk
      have A2 := (A1.grow g2 k2).set_val i (rp.mono (g2.cut A.dz))
      exact ⟨v, _, rfl, hc' _ _ _ _ (Stp.trans A (Stp.of_grow (g1.trans g2) k2) (Stp.new A2 hp htj)) (A2.set_own j hp ow (hk j htj))⟩
    | un => exact hc'.elim
  | own d =>
    intro p o H1 g1 k1 hp ow hk
    obtain ⟨_, ho, nt⟩ := ow.notTbl
    cases ho
    have A1 := A.grow g1 k1
    have B1 := A1.aside hp nt
    have B2 := A1.set_own i hp ow (hk i hti)
    have hs1 : Stp dl Z O H (p :: Z) ((i, p) :: O) (upd H1 p o) := Stp.trans A (Stp.of_grow g1 k1) (Stp.new A1 hp hti)
    refine ⟨dl, p :: Z, O, r, B1, (onS_wp hc).bind.mono (fun c' hc' => ?_) fun e he cls dx H2 g2 k2 xr => ?_⟩
    · cases c' with
      | val d' =>
        intro v' H2 g2 k2 rp'
        exact ⟨_, v', rfl, hc' _ _ _ H2 (Stp.trans A hs1 (Stp.of_grow g2 k2)) ((B2.grow g2 k2).set_val j rp')⟩
      | own d' =>
        intro p' o' H2 g2 k2 hp' ow' hk'
        exact ⟨_, _, rfl, hc' _ _ _ _ (Stp.trans A hs1 (Stp.trans B2 (Stp.of_grow g2 k2) (Stp.new (B2.grow g2 k2) hp' htj))) ((B2.grow g2 k2).set_own j hp' ow' (hk' j htj))⟩
      | un => exact hc'.elim
    · exact spost_ex A he cls dx H2 ((g1.trans (.new hp)).trans g2) k2 (xr.mono (cut_sub fun a ha => List.mem_cons_of_mem _ ha))
  | un => exact hc.elim
end
end DL
set_option Elab.async false
set_option linter.all false
set_option maxRecDepth 100000
namespace DL
open PySem L2 PySem.Spec PyProof.Rows
/-- the iterator J hands out ds, as long as B -/
structure WalkE (G : Gm) (dl : Addr) (J : It) (ds : List D) (B : List Addr → Hp → Prop) : Prop where
  mono : ∀ Z Z' H H', GrowS (cut H Z) (cut H' Z') → Grow dl H H' → B Z H → B Z' H'
  go : ∀ i Z H, B Z H → i < ds.length → J.go i H
  stop : ∀ i Z H, B Z H → ds.length ≤ i → J.stop i H
  yld : ∀ i Z O r sg H x H', At G dl Z O r sg H → B Z H → J.yld i H x H' → ∀ d, ds[i]? = some d → Grow dl H H' ∧ GlOk G dl H' ∧ Rep G dl (cut H' Z) d x
structure WalkS (G : Gm) (dl : Addr) (J : It) (ds : List D) (B : List Addr → Hp → Prop) : Prop extends WalkE G dl J ds B where
  monoS : ∀ Z Z' H H', GrowS (cut H Z) (cut H' Z') → B Z H → B Z' H'
def tIs (G : Gm) (W : WX) (f : LE → R (List D)) : TI := fun sg H Rr => ∃ dl Z O r, At G dl Z O r sg H ∧
  Wp (f r) (fun ds => ∀ J B H', Grow dl H H' → GlOk G dl H' → WalkS G dl J ds B → B Z H' → Rr J H')
    (fun e => ∀ cls dx H', Grow dl H H' → GlOk G dl H' → XRep G dl (cut H' Z) e cls dx H' → W cls dx sg H')
def tIe (G : Gm) (W : WX) (f : LE → R (List D)) : TI := fun sg H Rr => ∃ dl Z O r, At G dl Z O r sg H ∧
  Wp (f r) (fun ds => ∀ J B H', Grow dl H H' → GlOk G dl H' → WalkE G dl J ds B → B Z H' → Rr J H')
    (fun e => ∀ cls dx H', Grow dl H H' → GlOk G dl H' → XRep G dl (cut H' Z) e cls dx H' → W cls dx sg H')
abbrev DI (X : Cx) (G : Gm) (W : WX) (tg iter : Expr) (f : LE → R (List D)) : Prop := PI X tg iter (tIs G W f)
abbrev DIe (X : Cx) (G : Gm) (W : WX) (tg iter : Expr) (f : LE → R (List D)) : Prop := PI X tg iter (tIe G W f)
theorem PI_imp {X : Cx} {tg e : Expr} {t t' : TI} (h : PI X tg e t) (i : ∀ sg H Q, t' sg H Q → t sg H Q) : PI X tg e t' := ⟨fun pins s sg H Q I q => h.run pins s sg H Q I (i _ _ _ q)⟩
theorem DI.e {X : Cx} {G : Gm} {W : WX} {tg iter : Expr} {f : LE → R (List D)} (h : DI X G W tg iter f) : DIe X G W tg iter f :=
  PI_imp h fun sg H Q ⟨dl, Z, O, r, A, q⟩ => ⟨dl, Z, O, r, A, q.thn fun ds z J B H' g k w b => z J B H' g k w.toWalkE b⟩
def lstD : D → R (List D)
  | .lst ds => .ok ds
  | _ => .stuck
def tupD : D → R (List D)
  | .tup ds => .ok ds
  | _ => .stuck
section
variable {X : Cx} {G : Gm} {W : WX} {tg iter : Expr} {f : LE → R D} {pos p : Pos}
theorem walk_tup {dl a : Addr} {ds : List D} {vs : List V} : WalkS G dl (Itt G.K a) ds (fun Z H => SqT G.K (cut H Z) a vs ∧ RepL G dl (cut H Z) ds vs) where
  mono := fun Z Z' H H' g _ h => ⟨g.sqt h.1, h.2.mono g⟩
  monoS := fun Z Z' H H' g h => ⟨g.sqt h.1, h.2.mono g⟩
  go := fun i Z H h hi => by
    have := h.2.length
    exact ⟨vs, vs[i]'(by omega), (cut_grow H Z).sqt h.1, by simp⟩
  stop := fun i Z H h hi => ⟨vs, (cut_grow H Z).sqt h.1, by have := h.2.length; omega⟩
  yld := fun i Z O r sg H x H' A h hy d hd => by
    obtain ⟨rfl, hy⟩ := hy
    obtain ⟨v, h1, h2⟩ := RepL.getD ds vs i d h.2 hd
    have h3 := hy vs ((cut_grow _ Z).sqt h.1)
    rw [h1] at h3
    cases h3
    exact ⟨.refl _ _, A.gl, h2⟩
theorem di_tup (hG : G.K = X.K) (h : DE X G W iter f) : DI X G W tg iter (fun r => f r >>= tupD) := PI_imp (pi_tup h) fun sg H Q ⟨dl, Z, O, r, A, q⟩ => by
  refine ⟨dl, Z, O, r, A, q.bind.thn fun d hd v H1 g1 k1 rp => ?_⟩
  unfold tupD at hd
  split at hd
  · unfold Rep at rp
    obtain ⟨a, vs, rfl, e, rl⟩ := rp
    refine ⟨a, rfl, ⟨vs, hG ▸ (cut_grow H1 Z).sqt e⟩, ?_⟩
    rw [← hG]
    exact hd _ _ H1 g1 k1 walk_tup ⟨e, rl⟩
  · exact hd.elim
/-- range(..): the ints -/
def rangeL (lo : Int) (n : Nat) : List D := (List.range n).map fun (i : Nat) => D.int (lo + (i : Int))
def rng1 : List D → R (List D)
  | [.int j] => if j < 1073741824 ∧ -(1073741824) < j then .ok (rangeL 0 j.toNat) else .stuck
  | _ => .stuck
theorem rangeL_get {lo : Int} {n i : Nat} {d : D} (h : (rangeL lo n)[i]? = some d) : d = .int (lo + (i : Int)) := by
  unfold rangeL at h
  rw [List.getElem?_map] at h
  cases e : (List.range n)[i]? with
  | none => rw [e] at h; cases h
  | some k =>
    rw [e] at h
    cases h
    obtain ⟨h1, h2⟩ := List.getElem?_eq_some_iff.mp e
    rw [List.getElem_range] at h2
    rw [h2]
theorem walk_rng {dl : Addr} {lo : Int} {n : Nat} : WalkS G dl (Itr lo n) (rangeL lo n) (fun _ _ => True) where
  mono := fun _ _ _ _ _ _ _ => trivial
  monoS := fun _ _ _ _ _ _ => trivial
  go := fun i Z H h hi => by
    show i < n
    unfold rangeL at hi; simpa using hi
  stop := fun i Z H h hi => by
    show n ≤ i
    unfold rangeL at hi; simpa using hi
  yld := fun i Z O r sg H x H' A h hy d hd => by
    obtain ⟨rfl, rfl⟩ := hy
    rw [rangeL_get hd]
    exact ⟨.refl _ _, A.gl, Rep.int_⟩
theorem RepL.one_int {dl : Addr} {S : Hp} {j : Int} {vs : List V} (h : RepL G dl S [.int j] vs) : vs = [.int j] := by
  unfold RepL at h
  obtain ⟨v, r, rfl, h1, h2⟩ := h
  unfold Rep at h1
  unfold RepL at h2
  rw [h1, h2]
theorem di_rng1 {a : Expr} {fs : LE → R (List D)} (hg : Gl X "range") (hm : X.mg "range" = none) (ha : DA X G W [a] fs) (hs : starEach [a] X.env = [(false, eval a X.env)] := by rfl) : DI X G W tg (.Call (.Name "range" p) [a] [] pos) (fun r => fs r >>= rng1) :=
  PI_imp (pi_range1 hg hm ha hs) fun sg H Q ⟨dl, Z, O, r, A, q⟩ => by
    refine ⟨dl, Z, O, r, A, q.bind.thn fun ds hd vs H1 g1 k1 rl => ?_⟩
    unfold rng1 at hd
    split at hd
    · split at hd
      · rename_i j hj
        exact ⟨j, rl.one_int, by omega, by omega, hd _ _ H1 g1 k1 walk_rng trivial⟩
      · exact hd.elim
    · exact hd.elim
end
def loopS (gd : D → LE → Option LE) (body : LE → R Out) : List D → LE → R Out
  | [], r => .ok (.nx r)
  | d :: ds, r => match gd d r with
    | none => .stuck
    | some r' => do
      match ← body r' with
      | .nx r2 => loopS gd body ds r2
      | .ct r2 => loopS gd body ds r2
      | .bk r2 => .ok (.nx r2)
      | .rt d => .ok (.rt d)
      | .ex e r2 => .ok (.ex e r2)
def forS (fi : LE → R (List D)) (gd : D → LE → Option LE) (body : LE → R Out) : LE → R Out := fun r => (fi r).onS r fun ds => loopS gd body ds r
section
variable {X : Cx} {G : Gm} {W : WX} {tg iter : Expr} {fi : LE → R (List D)} {gd : D → LE → Option LE} {is : List Nat} {F : LE → R Out} {body : List Stmt} {pos : Pos}
theorem ds_for (hp : PassesOwn (model X.prog X.w) X.A X.env X.xe) (hc : X.calm = true) (hi : DI X G W tg iter fi) (hg : DG X G tg gd is) (hb : DSs X G W body F)
    (hs : ∀ x, foldedSetIterable iter X.env x = pure x := by intro _; rfl) : DS X G W (.For tg iter body [] pos) (forS fi gd F) := PS_imp (ps_for hp hc hi hg hb hs) fun De sg H ⟨dl, Z, O, r, A, q⟩ => by
  refine ⟨dl, Z, O, r, A, (onS_wp q).mono (fun ds hds J B H1 g1 k1 wk hB => ?_) fun e he => spost_ex A he⟩
  have A1 := A.grow g1 k1
  have s1 : Stp dl Z O H Z O H1 := Stp.of_grow g1 k1
  refine ⟨fun i m sg' H' => m = ds.length - i ∧ i ≤ ds.length ∧ ∃ Z' O' r', At G dl Z' O' r' sg' H' ∧ Stp dl Z O H Z' O' H' ∧ B Z' H' ∧ Wp (loopS gd F (ds.drop i) r') (SPost G W De dl Z O H) (fun _ => False),
    ⟨ds.length, by simp, Nat.zero_le _, Z, O, r, A1, s1, hB, by simpa using hds⟩, ?_⟩
  rintro i m sg' H' ⟨rfl, hi', Z', O', r', A', s', hB', hw⟩
  by_cases hlt : i < ds.length
  · have hdrop : ds.drop i = ds[i] :: ds.drop (i + 1) := List.drop_eq_getElem_cons hlt
    rw [hdrop] at hw
    refine .inr ⟨wk.go i Z' H' hB' hlt, fun sg2 H2 => i + 1 ≤ ds.length ∧ ∃ Z' O' r', At G dl Z' O' r' sg2 H2 ∧ Stp dl Z O H Z' O' H2 ∧ B Z' H2 ∧ Wp (loopS gd F (ds.drop (i + 1)) r') (SPost G W De dl Z O H) (fun _ => False), fun sg2 H2 h2 => ⟨ds.length - (i + 1), by omega, rfl, h2⟩, fun x H2 hy => ?_⟩
    obtain ⟨g2, k2, rp⟩ := wk.yld i Z' O' r' sg' H' x H2 A' hB' hy ds[i] (by simp)
    have A2 := A'.grow g2 k2
    have s2 : Stp dl Z O H Z' O' H2 := Stp.trans A s' (Stp.of_grow g2 k2)
    have hB2 : B Z' H2 := wk.mono _ _ _ _ (g2.cut A'.dz) g2 hB'
    unfold loopS at hw
    cases hgd : gd ds[i] r' with
    | none => rw [hgd] at hw; exact hw.elim
    | some r2 =>
      rw [hgd] at hw
      refine ⟨dl, Z', O', r', ds[i], A2, rp, r2, hgd, fun sg3 _ _ A3 => ⟨dl, Z', O', r2, A3, hw.bind.thn fun o ho => ?_⟩⟩
      have step : ∀ {r3 : LE}, Wp (loopS gd F (ds.drop (i + 1)) r3) (SPost G W De dl Z O H) (fun _ => False) → ∀ Z4 O4 sg4 H4, Stp dl Z' O' H2 Z4 O4 H4 → At G dl Z4 O4 r3 sg4 H4 →
          i + 1 ≤ ds.length ∧ ∃ Z' O' r', At G dl Z' O' r' sg4 H4 ∧ Stp dl Z O H Z' O' H4 ∧ B Z' H4 ∧ Wp (loopS gd F (ds.drop (i + 1)) r') (SPost G W De dl Z O H) (fun _ => False) := fun hw4 Z4 O4 sg4 H4 s4 A4 =>
        ⟨hlt, Z4, O4, _, A4, Stp.trans A s2 s4, wk.monoS _ _ _ _ (Stp.cut A3 s4) hB2, hw4⟩
      cases o with
      | nx r3 => exact step ho
      | ct r3 => exact step ho
      | bk r3 => exact fun Z4 O4 sg4 H4 s4 A4 => ho Z4 O4 sg4 H4 (Stp.trans A s2 s4) A4
      | rt d => exact SPost.trans A s2 ho
      | ex e r3 => exact SPost.trans A s2 ho
  · have e : i = ds.length := by omega
    subst e
    rw [List.drop_length] at hw
    exact .inl ⟨wk.stop _ Z' H' hB' (Nat.le_refl _), hw Z' O' sg' H' s' A'⟩
end
end DL
set_option Elab.async false
set_option linter.all false
set_option maxRecDepth 100000
namespace DL
open PySem L2 PySem.Spec PyProof.Rows
/-- what is raised is not served here -/
def R.calm {α : Type} : R α → R α
  | .ok a => .ok a
  | .err _ => .stuck
  | .stuck => .stuck
  | .roll m f => .roll m fun i => (f i).calm
@[simp] theorem calm_ok {α : Type} (a : α) : (R.ok a).calm = .ok a := rfl
@[simp] theorem calm_roll {α : Type} (m : Nat) (f : Nat → R α) : (R.roll m f).calm = .roll m fun i => (f i).calm := rfl
theorem calm_wp {α : Type} {Q : α → Prop} {E E' : Exc → Prop} : ∀ {m : R α}, Wp m.calm Q E → Wp m Q E'
  | .ok _, h => h
  | .err _, h => h.elim
  | .stuck, h => h.elim
  | .roll _ _, h => fun i hi => calm_wp (h i hi)
/-- the comprehension's own names forgotten -/
def wipeL (r : LE) : List Nat → LE
  | [] => r
  | v :: vs => (wipeL r vs).set v .un
def W0 : WX := fun _ _ _ _ => False
def loopC (gd : D → LE → Option LE) (tt : LE → R Bool) (te : LE → R D) (r : LE) : List D → R (List D)
  | [] => .ok []
  | d :: ds => match gd d r with
    | none => .stuck
    | some r' => do
      if (← (tt r').calm) then do
        let y ← (te r').calm
        let ys ← loopC gd tt te r ds
        .ok (y :: ys)
      else loopC gd tt te r ds
def compF (fi : LE → R (List D)) (gd : D → LE → Option LE) (tt : LE → R Bool) (te : LE → R D) (vs : List Nat) : LE → R (List D) := fun r => do
  let ds ← fi r
  if ds.length ≤ 16777216 then loopC gd tt te (wipeL r vs) ds else .stuck
def yesT : LE → R Bool := fun _ => .ok true
section
variable {G : Gm} {dl : Addr} {Z : List Addr} {O : List (Nat × Addr)} {r : LE} {sg : L2.St} {H : Hp}
theorem At.wipe (A : At G dl Z O r sg H) : ∀ vs : List Nat, At G dl Z O (wipeL r vs) (wipe sg vs) H
  | [] => A
  | v :: vs => (At.wipe A vs).set_un v none
theorem wipe_get {sg : L2.St} {j : Nat} : ∀ {vs : List Nat}, j ∉ vs → (wipe sg vs)[j]? = sg[j]?
  | [], _ => rfl
  | v :: vs, h => by
    rw [List.mem_cons, not_or] at h
    unfold wipe
    rw [List.getElem?_set_ne fun e => h.1 e.symm]
    exact wipe_get h.2
theorem wipe_at {sg : L2.St} {j : Nat} : ∀ {vs : List Nat}, j ∈ vs → j < sg.length → (wipe sg vs)[j]? = some none
  | [], h, _ => by cases h
  | v :: vs, h, hl => by
    unfold wipe
    by_cases e : v = j
    · subst e
      rw [List.getElem?_set_self (by rw [wipe_length]; exact hl)]
    · rw [List.getElem?_set_ne e]
      rcases List.mem_cons.mp h with h | h
      · exact (e h.symm).elim
      · exact wipe_at h hl
theorem wipe_same {sg sg' : L2.St} {vs : List Nat} (hl : sg'.length = sg.length) (h : ∀ j, j ∉ vs → sg'[j]? = sg[j]?) : L2.wipe sg' vs = L2.wipe sg vs := by
  refine List.ext_getElem? fun j => ?_
  by_cases e : j ∈ vs
  · by_cases q : j < sg.length
    · rw [wipe_at e q, wipe_at e (by omega)]
    · rw [List.getElem?_eq_none (by rw [wipe_length]; omega), List.getElem?_eq_none (by rw [wipe_length]; omega)]
  · rw [wipe_get e, wipe_get e, h j e]
theorem wipe_wipe {sg : L2.St} (vs : List Nat) : L2.wipe (L2.wipe sg vs) vs = L2.wipe sg vs := wipe_same (wipe_length ..) fun j h => wipe_get h
/-- H without p -/
theorem upd_cut {H : Hp} {p : Addr} {o : HO} (h : H p = some o) : upd (cut H [p]) p o = H := by
  funext b
  unfold upd cut
  by_cases e : b = p
  · subst e; simp [h]
  · simp [e]
end
section
variable {X : Cx} {G : Gm} {W : WX} {tg iter : Expr} {fi : LE → R (List D)} {gd : D → LE → Option LE} {is vs : List Nat} {tt : LE → R Bool} {te : LE → R D}
theorem lc_core_d (hsub : ∀ j ∈ is, j ∈ vs) {sg : L2.St} {H : Hp} {Q : VK} (h : tF G W (compF fi gd tt te vs) sg H Q) : tLc (tIe G W fi) (tGd G gd is) (tT G W0 tt) (tD G W0 te) vs sg H Q := by
  obtain ⟨dl, Z, O, r, A, q⟩ := h
  refine ⟨dl, Z, O, r, A, q.bind.thn fun ds hds J B H1 g1 k1 wk hB D hD => ?_⟩
  have A1 := A.grow g1 k1
  split at hds
  case isFalse => exact hds.elim
  rename_i hlen
  have nt : ∀ (xs : List V) ps, HO.lst xs ≠ HO.tbl ps := fun _ _ z => by cases z
  have B1 : At G dl (D :: Z) O r sg (upd H1 D (.lst [])) := A1.aside hD (nt _)
  have hDZ := A1.out hD
  have hDd := A1.notdl hD
  have hB1 : B (D :: Z) (upd H1 D (.lst [])) := wk.mono _ _ _ _ (cut_new hD) (.new hD) hB
  -- the state between turns
  let St : Nat → Hp → Prop := fun i H' => i ≤ ds.length ∧ ∃ acc us, At G dl (D :: Z) O r sg H' ∧ Grow dl H1 H' ∧ B (D :: Z) H' ∧ H' D = some (.lst us) ∧ RepL G dl (cut H' (D :: Z)) acc us ∧ acc.length ≤ i ∧
    Wp (loopC gd tt te (wipeL r vs) (ds.drop i)) (fun ys => ∀ p us H2, Grow dl H H2 → GlOk G dl H2 → H2 p = none → RepL G dl (cut H2 Z) (acc ++ ys) us → Q (.ref p) (upd H2 p (.lst us))) (fun e => ∀ cls dx H', Grow dl H H' → GlOk G dl H' → XRep G dl (cut H' Z) e cls dx H' → W cls dx sg H')
  refine ⟨fun i m H' => m = ds.length - i ∧ St i H', ⟨ds.length, by simp, Nat.zero_le _, [], [], B1, .new hD, hB1, upd_same, RepL.nil, Nat.le_refl _, by simpa using hds⟩, ?_⟩
  rintro i m H' ⟨rfl, hi', acc, us, A', gH, hB', hDu, rl, hal, hw⟩
  by_cases hlt : i < ds.length
  · have hdrop : ds.drop i = ds[i] :: ds.drop (i + 1) := List.drop_eq_getElem_cons hlt
    rw [hdrop] at hw
    refine .inr ⟨wk.go i _ H' hB' hlt, St (i + 1), fun H2 h2 => ⟨ds.length - (i + 1), by omega, rfl, h2⟩, fun x H2 hy => ?_⟩
    obtain ⟨g2, k2, rp⟩ := wk.yld i _ O r sg H' x H2 A' hB' hy ds[i] (by simp)
    have A2 := A'.grow g2 k2
    unfold loopC at hw
    cases hgd : gd ds[i] (wipeL r vs) with
    | none => rw [hgd] at hw; exact hw.elim
    | some r2 =>
      rw [hgd] at hw
      refine ⟨dl, D :: Z, O, wipeL r vs, ds[i], A2.wipe vs, rp, r2, hgd, fun sg3 hl3 hs3 A3 => ⟨?_, ?_⟩⟩
      · exact (wipe_same hl3 fun j hj => hs3 j fun z => hj (hsub j z)).trans (wipe_wipe vs)
      refine ⟨dl, D :: Z, O, r2, A3, (calm_wp hw.bind).mono (fun b hb H3 g3 k3 => ?_) fun e he => he⟩
      have A3' := A3.grow g3 k3
      have D3 : H2 D = some (.lst us) := g2 D _ hDu hDd (nt _)
      have D3' : H3 D = some (.lst us) := g3 D _ D3 hDd (nt _)
      have C3 : At G dl (D :: Z) O r sg H3 := A2.grow g3 k3
      cases b with
      | false =>
        refine ⟨hlt, acc, us, C3, (gH.trans g2).trans g3, wk.mono _ _ _ _ (g3.cut A2.dz) g3 (wk.mono _ _ _ _ (g2.cut A'.dz) g2 hB'), D3', rl.mono ((g2.trans g3).cut A'.dz), by omega, hb⟩
      | true =>
        refine ⟨dl, D :: Z, O, r2, A3', (calm_wp hb.bind).mono (fun y hy2 v H4 g4 k4 rp4 => ?_) fun e he => he⟩
        have D4 : H4 D = some (.lst us) := g4 D _ D3' hDd (nt _)
        have C4 : At G dl (D :: Z) O r sg H4 := C3.grow g4 k4
        have hz : us.length < sizeLine := by rw [sizeLine_eq, rl.length]; omega
        have gall : Grow dl H1 H4 := ((gH.trans g2).trans g3).trans g4
        have gcutD : ∀ xs, GrowS (cut H4 (D :: Z)) (cut (upd H4 D (.lst xs)) (D :: Z)) := fun xs b o e n => by
          obtain ⟨e1, e2⟩ := cut_some e
          have hbD : b ≠ D := fun z => e1 (by rw [z]; exact List.mem_cons_self)
          rw [cut_out e1, upd_ne hbD]; exact e2
        have gD : Grow dl H1 (upd H4 D (.lst (us ++ [v]))) := fun b o e n nt' => by
          rw [upd_ne (ne_of_none e hD)]; exact gall b o e n nt'
        have gl5 : GlOk G dl (upd H4 D (.lst (us ++ [v]))) := by
          obtain ⟨x1, y1, z1, hd1⟩ := k4.dice
          refine ⟨⟨x1, y1, z1, by rw [upd_ne fun e => hDd e.symm]; exact hd1⟩, fun p hp => ?_⟩
          obtain ⟨ps, h1, h2, h3⟩ := k4.tab p hp
          have hpD : p.1 ≠ D := fun e => by rw [e, D4] at h1; cases h1
          refine ⟨ps, by rw [upd_ne hpD]; exact h1, h2, fun pos cv hc => ?_⟩
          obtain ⟨c, e1, e2⟩ := h3 pos cv hc
          have hcD : c ≠ D := fun e => by
            rw [e, D4] at e2
            have e3 := Option.some.inj e2
            cases e3
          exact ⟨c, e1, by rw [upd_ne hcD]; exact e2⟩
        have A5 : At G dl (D :: Z) O r sg (upd H4 D (.lst (us ++ [v]))) := by
          refine ⟨gl5, C4.dz, fun b hb => ?_, C4.own, C4.inj, C4.len, fun j c e => ?_⟩
          · by_cases e : b = D
            · rw [e]; exact ⟨_, upd_same, nt _⟩
            · obtain ⟨u, h1, h2⟩ := C4.live b hb
              exact ⟨u, by rw [upd_ne e]; exact h1, h2⟩
          · have := C4.slot j c e
            cases c with
            | un => trivial
            | val d =>
              obtain ⟨v, e, q⟩ := this
              exact ⟨v, e, q.mono (gcutD _)⟩
            | own d =>
              obtain ⟨a, ha, e, q, ko⟩ := this
              have haD : a ≠ D := fun z => hDZ (by rw [← z]; exact (A.own _ ha).1)
              refine ⟨a, ha, e, ?_, ko⟩
              rw [upd_ne haD]; exact q.mono (gcutD _)
        refine ⟨us, D4, hz, hlt, acc ++ [y], us ++ [v], A5, gD, wk.mono _ _ _ _ (fun b o e n => ?_) gD hB, upd_same, ?_, by rw [List.length_append]; simp; omega, ?_⟩
        · obtain ⟨e1, e2⟩ := cut_some e
          have hbD : b ≠ D := ne_of_none e2 hD
          have hbl : b ≠ dl := fun z => e1 (by rw [z]; exact A.dz)
          rw [cut_out (by rw [List.mem_cons, not_or]; exact ⟨hbD, e1⟩)]
          exact gD b o e2 hbl n
        · exact RepL.append (rl.mono ((((g2.trans g3).trans g4).cut A'.dz).trans (gcutD _))) (RepL.cons (rp4.mono (gcutD _)) RepL.nil)
        · exact hy2.bind.thn fun ys hys => by rw [List.append_assoc]; exact hys
  · have e : i = ds.length := by omega
    subst e
    rw [List.drop_length] at hw
    refine .inl ⟨wk.stop _ _ H' hB' (Nat.le_refl _), ?_⟩
    have hw2 : ∀ p us H2, Grow dl H H2 → GlOk G dl H2 → H2 p = none → RepL G dl (cut H2 Z) (acc ++ []) us → Q (.ref p) (upd H2 p (.lst us)) := hw
    rw [List.append_nil] at hw2
    have := hw2 D us (cut H' [D]) (fun b o e n nt' => ?_) ?_ (cut_in (by simp)) ?_
    · rw [upd_cut hDu] at this; exact this
    · have e1 := g1 b o e n nt'
      rw [cut_out (by simpa using ne_of_none e1 hD)]
      exact gH b o e1 n nt'
    · obtain ⟨x1, y1, z1, hd1⟩ := A'.gl.dice
      refine ⟨⟨x1, y1, z1, by rw [cut_out (by simpa using fun e : dl = D => hDd e.symm)]; exact hd1⟩, fun p hp => ?_⟩
      obtain ⟨ps, h1, h2, h3⟩ := A'.gl.tab p hp
      have hpD : p.1 ≠ D := fun e => by rw [e, hDu] at h1; cases h1
      refine ⟨ps, by rw [cut_out (by simpa using hpD)]; exact h1, h2, fun pos cv hc => ?_⟩
      obtain ⟨c, e1, e2⟩ := h3 pos cv hc
      have hcD : c ≠ D := fun e => by
        rw [e, hDu] at e2
        have e3 := Option.some.inj e2
        cases e3
      exact ⟨c, e1, by rw [cut_out (by simpa using hcD)]; exact e2⟩
    · refine rl.mono fun b o e n => ?_
      obtain ⟨e1, e2⟩ := cut_some e
      rw [List.mem_cons, not_or] at e1
      rw [cut_out e1.2, cut_out (by simpa using e1.1)]
      exact e2
abbrev DTs (X : Cx) (G : Gm) (W : WX) (ifs : List Expr) (f : LE → R Bool) : Prop := PTs X ifs (tT G W f)
theorem dts_nil : DTs X G W [] yesT := ⟨fun pins s sg H Q I ⟨dl, Z, O, r, A, q⟩ => pts_nil.run pins s sg H Q I (q H (.refl _ _) A.gl)⟩
theorem dts_one {c : Expr} (h : DT X G W c tt) : DTs X G W [c] tt := pts_one h
/-- [elt for tg in iter if ..] -/
theorem df_comp {elt : Expr} {ifs : List Expr} {scope : Scope} {own : List (Str × Nat)} {pos : Pos} (hc : X.calm = true) (hN : X.N.Nodup) (hi : DIe X G W tg iter fi) (ok : BlkOk X.N X.env.scope scope own)
    (hg : ∀ (s : Shared) (H : Hp) (C : Addr) (cl : List (Str × Addr)) (fp : List Addr), DG (X.blk s H scope (compEnvC scope cl C X.env) fp) G tg gd is)
    (ht : ∀ (s : Shared) (H : Hp) (C : Addr) (cl : List (Str × Addr)) (fp : List Addr), DTs (X.blk s H scope (compEnvC scope cl C X.env) fp) G W0 ifs tt)
    (he : ∀ (s : Shared) (H : Hp) (C : Addr) (cl : List (Str × Addr)) (fp : List Addr), DE (X.blk s H scope (compEnvC scope cl C X.env) fp) G W0 elt te)
    (hsub : ∀ j ∈ is, j ∈ own.map (·.2)) (hs : ∀ x, foldedSetIterable iter X.env x = pure x := by intro _; rfl) :
    DF X G W (.ListComp elt [⟨tg, iter, ifs, 0⟩] scope pos) (compF fi gd tt te (own.map (·.2))) := PE_imp (pe_lc hc hN hi ok hg ht he hs) fun sg H Q h => lc_core_d hsub h
/-- y = [elt for tg in iter if ..], y a plain local, on one line: y one's own -/
theorem ds_setcomp (i : Nat) {y : Str} {py : Pos} {elt : Expr} {ifs : List Expr} {scope : Scope} {own : List (Str × Nat)} {pos spos : Pos} (hc : X.calm = true) (hN : X.N.Nodup) (hi : DIe X G W tg iter fi) (ok : BlkOk X.N X.env.scope scope own)
    (hg : ∀ (s : Shared) (H : Hp) (C : Addr) (cl : List (Str × Addr)) (fp : List Addr), DG (X.blk s H scope (compEnvC scope cl C X.env) fp) G tg gd is)
    (ht : ∀ (s : Shared) (H : Hp) (C : Addr) (cl : List (Str × Addr)) (fp : List Addr), DTs (X.blk s H scope (compEnvC scope cl C X.env) fp) G W0 ifs tt)
    (he : ∀ (s : Shared) (H : Hp) (C : Addr) (cl : List (Str × Addr)) (fp : List Addr), DE (X.blk s H scope (compEnvC scope cl C X.env) fp) G W0 elt te)
    (hsub : ∀ j ∈ is, j ∈ own.map (·.2)) (hti : i ≠ 1000000) (hsw : swapsWith (.ListComp elt [⟨tg, iter, ifs, 0⟩] scope pos) (some (.Name y py)) spos.line X.env = pure true)
    (hy : X.N[i]? = some y := by rfl) (hyl : X.env.scope.names.lookup y = some .local := by rfl) (hs : ∀ x, foldedSetIterable iter X.env x = pure x := by intro _; rfl) :
    DS X G W (.Assign [.Name y py] (.ListComp elt [⟨tg, iter, ifs, 0⟩] scope pos) spos) (setK i (ownK (compF fi gd tt te (own.map (·.2))))) := PS_imp (ps_setLc hc hN hy hyl hsw hi ok hg ht he hs) fun De sg H ⟨dl, Z, O, r, A, q⟩ => by
  refine lc_core_d (W := W) hsub ⟨dl, Z, O, r, A, (onS_wp q).bind.bind.mono (fun ds hd p us H1 g1 k1 hp rl => ?_) fun e he => spost_ex A he⟩
  exact hd _ _ _ _ (Stp.trans A (Stp.of_grow g1 k1) (Stp.new (A.grow g1 k1) hp hti)) ((A.grow g1 k1).set_own i hp ⟨us, rfl, rl⟩ ⟨rfl, hti⟩)
end
end DL
set_option Elab.async false
set_option linter.all false
set_option maxRecDepth 100000
namespace DL
open PySem L2 PySem.Spec PyProof.Rows
def appS (i : Nat) (f : LE → R D) : LE → R Out := fun r => match r[i]? with
  | some (.own (.lst ds)) => (f r).onS r fun d => if ds.length < 16777216 then .ok (.nx (r.set i (.own (.lst (ds ++ [d]))))) else .stuck
  | _ => .stuck
/-- self.x = ..: the next field -/
def fldS (fx : Nat → Option Nat) (f : LE → R D) : LE → R Out := fun r => match (r[0]? : Option Cell) with
  | some (Cell.own (D.ins c ds)) => (f r).onS r fun d => (match fx c with
    | some j => if ds.length = j then .ok (.nx (r.set 0 (.own (.ins c (ds ++ [d]))))) else .stuck
    | none => .stuck)
  | _ => .stuck
section
variable {X : Cx} {G : Gm} {W : WX} {ex ek : Expr} {f k : LE → R D} {pos apos p p1 p2 : Pos} {x m : Str}
theorem ds_append (i : Nat) (ha : DE X G W ex f) (hN : X.N[i]? = some x := by rfl) (hv : Vis X.env.scope x := by first | exact Or.inl rfl | exact Or.inr (Or.inl rfl) | exact Or.inr (Or.inr rfl)) (hd : (x == ("__debug__" : Str)) = false := by decide)
    (hcd : (x == ("__classdict__" : Str)) = false := by decide) (hs : swapsWith (.Call (.Attribute (.Name x p1) "append" apos) [ex] [] p) none pos.line X.env = pure false := by rfl)
    (hbase : attributeBase (.Name x p1) "append" X.env (eval (.Name x p1) X.env) = eval (.Name x p1) X.env := by rfl)
    (hfew : ((backTo p (starEach [ex] X.env)).all (fun x => !x.1) && (backToKw p (keywordEach [] X.env)).all (fun x => x.1.isSome)
      && decide ([ex].length + ([] : List Keyword).length + (if ([] : List Keyword).isEmpty then 0 else 1) < 30)) = true := by rfl)
    (hline : (apos.endLine == p.line) = true := by rfl) (hst : starEach [ex] X.env = (false, eval ex X.env) :: starEach [] X.env := by rfl) :
    DS X G W (.Expr (.Call (.Attribute (.Name x p1) "append" apos) [ex] [] p) pos) (appS i f) := by
  refine PS_imp (ps_expr (pe_bm PySem.F.plainAttrs_list PySem.F.slot_list_append PySem.F.type_list_append mt_append (pe_var hN hv hd hcd) (pa_cons ha pa_nil hst) hbase hfew hline hst (by rfl)) hs) fun De sg H ⟨dl, Z, O, r, A, q⟩ => ?_
  unfold appS at q
  split at q
  case h_2 => exact q.elim
  rename_i ds hr
  obtain ⟨a, ha', hs', ⟨vs, e, rl⟩, ko⟩ := A.slot i _ hr
  obtain ⟨haz, had⟩ := A.own _ ha'
  refine ⟨.ref a, hs', .inl ⟨rfl, vs, SqL.of e⟩, dl, Z, O, r, A, (onS_wp q).mono (fun d hd' v H1 g1 k1 rp => ?_) fun e he => spost_ex A he⟩
  have A1 := A.grow g1 k1
  have e1 : H1 a = some (.lst vs) := g1 a _ e had (fun ps z => by cases z)
  split at hd'
  case isFalse => exact hd'.elim
  rename_i hlen
  refine ⟨a, vs, v, rfl, rfl, e1, by rw [sizeLine_eq, rl.length]; exact hlen, ?_⟩
  refine hd' Z O sg _ (Stp.trans A (Stp.of_grow g1 k1) (Stp.write ha' fun ps z => by cases z)) (A1.write hr ha' hs' ⟨_, rfl, RepL.append (rl.mono (g1.cut A.dz)) (RepL.cons rp RepL.nil)⟩ rfl ko)
theorem putF_zip {m : Str} {v : V} : ∀ {ns : List Str} {vs : List V}, ns.Nodup → ns[vs.length]? = some m → putF m v (ns.zip vs) = ns.zip (vs ++ [v])
  | [], vs, _, h => by simp at h
  | n :: ns, [], _, h => by simp at h; subst h; simp [putF]
  | n :: ns, u :: vs, nd, h => by
    have hm : ns[vs.length]? = some m := by simpa using h
    have hne : n ≠ m := fun e => by
      subst e
      exact (List.nodup_cons.mp nd).1 (List.mem_of_getElem? hm)
    show (if n = m then _ else (n, u) :: putF m v (ns.zip vs)) = _
    rw [if_neg hne, putF_zip (List.nodup_cons.mp nd).2 hm]
    rfl
theorem ds_field {fx : Nat → Option Nat} (hx : FldOk X G m fx) (hsz : ∀ c, (G.flds c).length ≤ 900) (ha : DE X G W ex f) (hN : X.N[0]? = some x := by rfl) (hv : Vis X.env.scope x := by first | exact Or.inl rfl | exact Or.inr (Or.inl rfl) | exact Or.inr (Or.inr rfl)) (hd : (x == ("__debug__" : Str)) = false := by decide)
    (hcd : (x == ("__classdict__" : Str)) = false := by decide) (hs : swapsWith ex (some (.Attribute (.Name x p1) m p2)) pos.line X.env = pure false := by rfl) :
    DS X G W (.Assign [.Attribute (.Name x p1) m p2] ex pos) (fldS fx f) := by
  refine PS_imp (ps_fld (pe_var hN hv hd hcd) ha hs) fun De sg H ⟨dl, Z, O, r, A, q⟩ => ?_
  unfold fldS at q
  split at q
  case h_2 => exact q.elim
  rename_i c ds hr
  obtain ⟨a, ha', hs', ⟨dx, vs, e, hle, rl⟩, ko⟩ := A.slot 0 _ hr
  obtain ⟨haz, had⟩ := A.own _ ha'
  refine ⟨dl, Z, O, r, A, (onS_wp q).mono (fun d hd' v H1 g1 k1 rp => ?_) fun e he => spost_ex A he⟩
  have A1 := A.grow g1 k1
  have e1 := g1 a _ e had (fun ps z => by cases z)
  cases hj : fx c with
  | none => rw [hj] at hd'; exact hd'.elim
  | some j =>
    rw [hj] at hd'
    change Wp (if ds.length = j then R.ok (Out.nx (r.set 0 (Cell.own (D.ins c (ds ++ [d]))))) else R.stuck) _ _ at hd'
    split at hd'
    case isFalse => exact hd'.elim
    rename_i hl
    obtain ⟨h1, h2, h3, h4⟩ := hx c j hj
    have hvl := rl.length
    have hjl : j < (G.flds c).length := (List.getElem?_eq_some_iff.mp h3).1
    refine ⟨.ref a, hs', a, G.cls c, dx, _, rfl, e1, h1, h2, ?_, ?_⟩
    · rw [List.length_zip]
      have := hsz c
      omega
    · rw [putF_zip h4 (by rw [hvl, hl]; exact h3)]
      exact hd' Z O sg _ (Stp.trans A (Stp.of_grow g1 k1) (Stp.write ha' fun ps z => by cases z)) (A1.write hr ha' hs' ⟨dx, _, rfl, by rw [List.length_append, List.length_singleton]; omega, RepL.append (rl.mono (g1.cut A.dz)) (RepL.cons rp RepL.nil)⟩ rfl ko)
def errS (e : Exc) : LE → R Out := fun r => .ok (.ex e r)
theorem ds_raise {bmB : List Value} {B newId initId : String} {C : Addr} {s : Str} {j : Nat} (c : Nat) (tk : Takes X W) (hc : X.calm = true) (F : PySem.ExcBaseFacts B newId initId bmB) (hC : G.xcls c = C) (hx : G.xfld c = none) (hq : PySem.W.excIn X.K C bmB newId = true) (gC : X.mg x = some (.ref C)) (kC : PySem.W.keepIn X.K (.ref C) = true) (rs : Raises X (.ref C))
    (hg : Gl X x := by rfl) (hdb : (x == ("__debug__" : Str)) = false := by decide) : DS X G W (.Raise (some (.Call (.Name x p) [.Constant (.str s) j p2] [] p1)) none pos) (errS ⟨c, .non⟩) :=
  PS_imp (ps_raise hc tk (pmk_own F hq gC kC rs hg hdb)) fun De sg H ⟨dl, Z, O, r, A, q⟩ => by
    subst hC
    exact q Z O sg H _ none Stp.refl A ⟨rfl, by rw [hx]⟩
end
end DL
set_option Elab.async false
set_option linter.all false
set_option maxRecDepth 100000
namespace DL
open PySem L2 PySem.Spec PyProof.Rows
/-- a def of n arguments and m names, by its body -/
def runF (n m : Nat) (F : LE → R Out) (ds : List D) : R D := if ds.length = n then (do
  match ← (F (ds.map Cell.val ++ List.replicate (m - n) Cell.un)).calm with
  | .nx _ => .ok .non
  | .rt d => .ok d
  | .ex e _ => .err e
  | _ => .stuck) else .stuck
/-- an __init__: what self becomes -/
def runI (c k n m : Nat) (F : LE → R Out) (ds : List D) : R D := if ds.length = n then (do
  match ← (F (Cell.own (.ins c []) :: (ds.map Cell.val ++ List.replicate (m - n - 1) Cell.un))).calm with
  | .nx r => (match (r[0]? : Option Cell) with
    | some (Cell.own (D.ins c' fs)) => if c' = c ∧ fs.length = k then .ok (.ins c fs) else .stuck
    | _ => .stuck)
  | .ex e _ => .err e
  | _ => .stuck) else .stuck
theorem runF_len {n m : Nat} {F : LE → R Out} : ∀ ds Q E, Wp (runF n m F ds) Q E → ds.length = n := fun ds Q E h => by
  unfold runF at h
  split at h
  · assumption
  · exact h.elim
theorem runI_len {c k n m : Nat} {F : LE → R Out} : ∀ ds Q E, Wp (runI c k n m F ds) Q E → ds.length = n := fun ds Q E h => by
  unfold runI at h
  split at h
  · assumption
  · exact h.elim
/-- the wish of a def's body -/
abbrev WD (E : XK) : WX := fun cls d _ H' => E cls d H'
section
variable {P : Program} {w : World} {K : PySem.W.Frag} {mg : Str → Option Value} {base : Heap} {G : Gm} {x qual : Str} {st : Stmt} {f : Addr} {fd : FuncData} {N ps : List Str} {k n m c nf : Nat} {F : LE → R Out}
abbrev cxD (P : Program) (w : World) (K : PySem.W.Frag) (mg : Str → Option Value) (base : Heap) (N : List Str) (qual : Str) (st : Stmt) (f : Addr) (cdv : Value) (A : Around) (outer : List Env) (s : Shared) (H : Hp) (E : XK) : Cx :=
  cxOf (L2.CX P w) P w K mg base N qual (defScope st) f cdv A outer s H E
theorem takes_cxD {cdv A outer s H E} : Takes (cxD P w K mg base N qual st f cdv A outer s H E) (WD E) := takes_of rfl rfl rfl rfl
theorem owns_cxD {cdv A outer s H E} : PassesOwn (model P w) (cxD P w K mg base N qual st f cdv A outer s H E).A (cxD P w K mg base N qual st f cdv A outer s H E).env (cxD P w K mg base N qual st f cdv A outer s H E).xe := passes_of rfl
theorem start_get {vs : List V} {ds : List D} {dl : Addr} {Z : List Addr} {H : Hp} (rl : RepL G dl (cut H Z) ds vs) (hl : vs.length = n) (hN : N.length = m) {O : List (Nat × Addr)} : ∀ i c, (ds.map Cell.val ++ List.replicate (m - n) Cell.un)[i]? = some c → Slot G dl Z O H i (L2.start N vs)[i]? c := fun i c e => by
  have hl2 := rl.length
  by_cases hi : i < ds.length
  · rw [List.getElem?_append_left (by simpa using hi), List.getElem?_map, List.getElem?_eq_getElem hi] at e
    cases e
    obtain ⟨v, h1, h2⟩ := RepL.getD ds vs i ds[i] rl (by simp)
    refine ⟨v, ?_, h2⟩
    unfold L2.start
    rw [List.getElem?_append_left (by rw [List.length_map]; omega), List.getElem?_map, h1]
    rfl
  · rw [List.getElem?_append_right (by simpa using hi), List.getElem?_replicate] at e
    split at e
    · cases e; trivial
    · cases e
theorem fnOk_of (Fn : Fun K x qual st f fd) (S : FnScope N ps (defScope st)) (hn : ps.length = n) (hm : N.length = m)
    (hb : ∀ cdv A outer s H E, Room k (A.deeper (envOfC qual (defScope st) s.heap.objs.size f cdv)) → DSs (cxD P w K mg base N qual st f cdv A outer s H E) G (WD E) (defBody st) F) :
    FnOk P w K mg base (L2.CX P w) (k + 1) f fd ps (spD G n (runF n m F)) := by
  refine Fn.okX S (fun vs H Q E h => by rw [hn]; exact h.1) fun cdv A outer s H vs Q E hr h => ⟨_, hb cdv A outer s H E hr, ?_⟩
  obtain ⟨hl, dl, Z, ds, gl, dz, live, rl, hw⟩ := h
  unfold runF at hw
  split at hw
  case isFalse => exact hw.elim
  rename_i hdl
  have hpl : ps.length ≤ N.length := by have := congrArg List.length S.pre; rw [List.length_take] at this; omega
  have A0 : At G dl Z [] (ds.map Cell.val ++ List.replicate (m - n) Cell.un) (L2.start N vs) H := by
    refine ⟨gl, dz, live, fun p hp => (by cases hp), fun p hp => (by cases hp), ?_, start_get rl hl hm⟩
    unfold L2.start
    rw [List.length_append, List.length_map, List.length_replicate, List.length_append, List.length_map, List.length_replicate]
    omega
  have gr : ∀ {Z' O' H'}, Stp dl Z [] H Z' O' H' → Grow dl H H' := fun s a o e n nt => s.fr a o e n (fun p hp => (by cases hp)) nt
  have gz : ∀ {Z' O' H'}, Stp dl Z [] H Z' O' H' → GrowS (cut H' Z') (cut H' Z) := fun s => cut_sub fun a ha => s.zk a ha fun p hp => (by cases hp)
  refine ⟨dl, Z, [], _, A0, (calm_wp hw.bind).thn fun o ho => ?_⟩
  cases o with
  | nx r => exact fun Z' O' sg' H' s A' => ho _ _ (gr s) A'.gl Rep.non_
  | rt d => exact fun Z' O' v H' s g rp => ho _ _ (gr s) g (rp.mono (gz s))
  | ex e r => exact fun Z' O' sg' H' cls dx s A' xr => ho cls dx H' (gr s) A'.gl (xr.mono (gz s))
  | bk r => exact ho.elim
  | ct r => exact ho.elim
theorem fnD_of (Fn : Fun K x qual st f fd) (S : FnScope N ps (defScope st)) (bd : Binds K fd ps []) (hx : mg x = some (.ref f)) (hn : ps.length = n) (hm : N.length = m)
    (hb : ∀ cdv A outer s H E, Room k (A.deeper (envOfC qual (defScope st) s.heap.objs.size f cdv)) → DSs (cxD P w K mg base N qual st f cdv A outer s H E) G (WD E) (defBody st) F) :
    FnD P w K mg base G (k + 1) x f n (runF n m F) := ⟨⟨fd, ps, hn, fnOk_of Fn S hn hm hb, bd⟩, runF_len, Fn.kp, hx⟩
theorem meD_of (Fn : Fun K x qual st f fd) (S : FnScope N ps (defScope st)) (bd : Binds K fd ps []) (mt : Meth K (G.cls c) x f) (cl : Cls K (G.cls c)) (nf : x ∉ G.flds c) (hn : ps.length = n) (hm : N.length = m)
    (hb : ∀ cdv A outer s H E, Room k (A.deeper (envOfC qual (defScope st) s.heap.objs.size f cdv)) → DSs (cxD P w K mg base N qual st f cdv A outer s H E) G (WD E) (defBody st) F) :
    MeD P w K mg base G (k + 1) c x n (runF n m F) := ⟨⟨f, fd, ps, hn, fnOk_of Fn S hn hm hb, bd, mt⟩, runF_len, cl, nf⟩
theorem inOk_of (Fn : Fun K x qual st f fd) (S : FnScope N ps (defScope st)) (hn : ps.length = n + 1) (hm : N.length = m) (hf : (G.flds c).length = nf)
    (hb : ∀ cdv A outer s H E, Room k (A.deeper (envOfC qual (defScope st) s.heap.objs.size f cdv)) → DSs (cxD P w K mg base N qual st f cdv A outer s H E) G (WD E) (defBody st) F) :
    FnOk P w K mg base (L2.CX P w) (k + 1) f fd ps (spI G c n (runI c nf n m F)) := by
  refine Fn.okX S (fun vs H Q E h => by rw [hn]; exact h.1) fun cdv A outer s H vs Q E hr h => ⟨_, hb cdv A outer s H E hr, ?_⟩
  obtain ⟨hl, dl, Z, ds, a, dx, us, rfl, ha, haZ, gl, dz, live, rl, hw⟩ := h
  unfold runI at hw
  split at hw
  case isFalse => exact hw.elim
  rename_i hdl
  have hpl : ps.length ≤ N.length := by have := congrArg List.length S.pre; rw [List.length_take] at this; omega
  have nta : ∀ fs ps, HO.ins (G.cls c) dx fs ≠ HO.tbl ps := fun _ _ z => by cases z
  have hadl : a ≠ dl := fun e => haZ (by rw [e]; exact dz)
  have A0 : At G dl (a :: Z) [(1000000, a)] (Cell.own (.ins c []) :: (ds.map Cell.val ++ List.replicate (m - n - 1) Cell.un)) (L2.start N (V.ref a :: us)) H := by
    refine ⟨gl, List.mem_cons_of_mem _ dz, fun b hb => ?_, fun p hp => ?_, fun p hp q hq e => ?_, ?_, fun i c' e => ?_⟩
    · rcases List.mem_cons.mp hb with rfl | hb
      · exact ⟨_, ha, nta _⟩
      · exact live b hb
    · rw [List.mem_singleton] at hp
      subst hp
      exact ⟨List.mem_cons_self, hadl⟩
    · rw [List.mem_singleton] at hp hq
      rw [hp, hq]
    · unfold L2.start
      have := rl.length
      rw [List.length_cons] at hl
      simp only [List.length_cons, List.length_append, List.length_map, List.length_replicate]
      omega
    · cases i with
      | zero =>
        cases e
        refine ⟨a, List.mem_singleton.mpr rfl, rfl, ?_, rfl⟩
        exact ⟨dx, [], by rw [ha]; simp, Nat.zero_le _, RepL.nil⟩
      | succ i =>
        have e' : (ds.map Cell.val ++ List.replicate (m - n - 1) Cell.un)[i]? = some c' := e
        have hl2 := rl.length
        by_cases hi : i < ds.length
        · rw [List.getElem?_append_left (by simpa using hi), List.getElem?_map, List.getElem?_eq_getElem hi] at e'
          cases e'
          obtain ⟨v, h1, h2⟩ := RepL.getD ds us i ds[i] rl (by simp)
          refine ⟨v, ?_, h2⟩
          unfold L2.start
          rw [List.getElem?_append_left (by rw [List.length_map, List.length_cons]; omega), List.getElem?_map, List.getElem?_cons_succ, h1]
          rfl
        · rw [List.getElem?_append_right (by simpa using hi), List.getElem?_replicate] at e'
          split at e'
          · cases e'; trivial
          · cases e'
  have gr : ∀ {Z' O' H'}, Stp dl (a :: Z) [(1000000, a)] H Z' O' H' → ∀ b o, H b = some o → b ≠ dl → b ≠ a → (∀ ps, o ≠ .tbl ps) → H' b = some o := fun s b o e n na nt => s.fr b o e n (fun p hp => by
    rw [List.mem_singleton] at hp
    subst hp
    exact fun e => na e.symm) nt
  have gz : ∀ {Z' O' H'}, Stp dl (a :: Z) [(1000000, a)] H Z' O' H' → GrowS (cut H' Z') (cut H' Z) := fun s => cut_sub fun b hb => s.zk b (List.mem_cons_of_mem _ hb) fun p hp => by
    rw [List.mem_singleton] at hp
    subst hp
    exact fun (e : a = b) => haZ (by rw [e]; exact hb)
  refine ⟨dl, a :: Z, [(1000000, a)], _, A0, (calm_wp hw.bind).thn fun o ho => ?_⟩
  cases o with
  | nx r =>
    intro Z' O' sg' H' s A'
    show Q .non H'
    change Wp (match (r[0]? : Option Cell) with | some (Cell.own (D.ins c' fs)) => if c' = c ∧ fs.length = nf then R.ok (D.ins c fs) else R.stuck | _ => R.stuck) _ _ at ho
    split at ho
    · rename_i c' fs hr0
      split at ho
      · rename_i hc
        obtain ⟨rfl, hfl⟩ := hc
        refine ho H' (gr s) A'.gl ?_
        obtain ⟨a', ha', hs', ⟨dx', vs', e', hle', rl'⟩, ko⟩ := A'.slot 0 _ hr0
        have hm' := s.sf a' ha'
        rw [List.mem_singleton] at hm'
        have haa : a' = a := congrArg Prod.snd hm'
        subst haa
        unfold Rep
        refine ⟨a', dx', vs', rfl, by rw [cut_out haZ]; exact e', by rw [hf, rl'.length]; exact hfl.symm, rl'.mono (gz s)⟩
      · exact ho.elim
    · exact ho.elim
  | rt d => exact ho.elim
  | ex e r => exact fun Z' O' sg' H' cls dx s A' xr => ho cls dx H' (gr s) A'.gl (xr.mono (gz s))
  | bk r => exact ho.elim
  | ct r => exact ho.elim
theorem mkD_of (Fn : Fun K "__init__" qual st f fd) (S : FnScope N ps (defScope st)) (bd : Binds K fd ps []) (mk : Mk K (G.cls c) f) (hx : mg x = some (.ref (G.cls c))) (hn : ps.length = n + 1) (hm : N.length = m) (hf : (G.flds c).length = nf)
    (hb : ∀ cdv A outer s H E, Room k (A.deeper (envOfC qual (defScope st) s.heap.objs.size f cdv)) → DSs (cxD P w K mg base N qual st f cdv A outer s H E) G (WD E) (defBody st) F) :
    MkD P w K mg base G (k + 1) c x n (runI c nf n m F) := ⟨⟨f, fd, ps, hn, inOk_of Fn S hn hm hf hb, bd, mk⟩, runI_len, hx⟩
end
end DL
set_option Elab.async false
set_option linter.all false
set_option maxRecDepth 100000
namespace DL
open PySem L2 LamX PySem.Spec PyProof.Rows
/-- what the clauses give back, one after the other -/
def wSel (K : PySem.W.Frag) (Q : VK) : List (Addr × Str) → Value → Hp → Prop
  | [], _, _ => False
  | (C, s) :: r, cls, H => ∃ b, PySem.W.exmOne K cls (.ref C) = some b ∧ (b = true → Q (.str s) H) ∧ (b = false → wSel K Q r cls H)
def TTm (K : PySem.W.Frag) (l : List (Addr × Str)) : (XK → Hp → VK → Prop) → Hp → VK → Prop := fun tl H Q => tl (fun cls _ H' => wSel K Q l cls H') H Q
def hdl (l : List (Addr × Str)) : List (Value × (Addr → Value → Option Addr → TS)) := l.map fun p => (.ref p.1, fun _ _ _ => tRet (tC (.str p.2)))
theorem wSel_many {K : PySem.W.Frag} {Q : VK} {De : Ends} (hq : ∀ v H, Q v H → De.rt v H) : ∀ {l : List (Addr × Str)} {cls : Value} {d : Option Addr} {sg : L2.St} {H : Hp}, wSel K Q l cls H → wMany K (fun _ _ _ _ => False) De (hdl l) cls d sg H
  | [], _, _, _, _, h => h
  | (C, s) :: r, cls, d, sg, H, ⟨b, e, h1, h2⟩ => ⟨b, e, fun hb a _ => hq _ _ (h1 hb), fun hb => wSel_many hq (h2 hb)⟩
inductive HdT (X : Cx) (sg : Scope) : List ExceptHandler → List (Addr × Str) → Prop
  | nil : HdT X sg [] []
  | cons {e : Str} {C : Addr} {s : Str} {j : Nat} {p4 p5 p6 p7 : Pos} {hds : List ExceptHandler} {l : List (Addr × Str)} (h1 : sg.names.lookup e = some .globalImplicit) (h2 : X.mg e = some (.ref C)) (h3 : (e == ("__debug__" : Str)) = false) (t : HdT X sg hds l) :
      HdT X sg (.ExceptHandler (some (.Name e p4)) none [.Return (some (.Constant (.str s) j p5)) p6] p7 :: hds) ((C, s) :: l)
section
variable {X : Cx}
theorem told_many {Ng : List Str} {x a q : Str} {sg : Scope} {g : Addr} {cdg : Value} {p1 p2 p3 p8 : Pos} {h₀ : ExceptHandler} {hds : List ExceptHandler} {l : List (Addr × Str)} (hh : HdT X sg (h₀ :: hds) l) (h0 : ∀ f : Addr, (L2.start Ng [V.ref f])[0]? = some (some (V.ref f))) :
    GivesTo X Ng x sg g cdg [.Try [.Return (some (.Call (.Name a p1) [] [] p2)) p3] (h₀ :: hds) [] [] p8] a q (TTm X.K l) := by
  intro f c' s H Q tl act hc h
  have hk : ∀ {hs : List ExceptHandler} {l : List (Addr × Str)}, HdT X sg hs l → HdsOk (cxOf C8.CX0 X.prog X.w X.K X.mg X.base Ng x sg g cdg X.A X.stack s H C8.E0).nox hs (hdl l) := fun {hs l} hh => by
    induction hh with
    | nil => exact .nil
    | cons h1 h2 h3 t ih => exact .cons ⟨h1, h3, .inl h2⟩ (fun a oe cls d pn _ _ => pss_one (ps_ret pe_str)) ih
  refine ⟨_, pss_one (ps_try_many (X := (cxOf C8.CX0 X.prog X.w X.K X.mg X.base Ng x sg g cdg X.A X.stack s H C8.E0).nox)
      (tb := fun W De sg' H' => ∃ Ech : XK, (∀ cls d s2 H2, Ech cls d H2 → W cls d s2 H2) ∧ sg'[0]? = some (some (.ref f)) ∧ H' c' = some (CodeO c' q) ∧ tl Ech H' De.rt)
      rfl rfl LamX.takes0 (fun W pn xe tk _ => ?_) (hk hh)), ?_⟩
  · refine ⟨fun pins s' sg' H' De I ⟨Ech, hW, h1, h2, h3⟩ => ?_⟩
    exact (pss_one (ps_ret (pos := p3) (act W pn xe Ech p1 p2 tk hW))).run pins s' sg' H' De I ⟨h1, h2, h3⟩
  · exact ⟨fun cls _ H' => wSel X.K Q l cls H', fun cls d s2 H2 hw => wSel_many (fun _ _ z => z) hw, h0 f, hc, h⟩
/-- an error told by its word -/
def toldD (l : List (Nat × List Nat)) : R D → R D
  | .ok d => .ok d
  | .err e => match l.lookup e.cls with
    | some s => .ok (.str s)
    | none => .stuck
  | .stuck => .stuck
  | .roll m f => .roll m fun i => toldD l (f i)
@[simp] theorem toldD_ok (l : List (Nat × List Nat)) (d : D) : toldD l (.ok d) = .ok d := rfl
theorem toldD_wp {l : List (Nat × List Nat)} {Q : D → Prop} {E : Exc → Prop} : ∀ {m : R D}, Wp (toldD l m) Q E → Wp m Q (fun e => ∃ s, l.lookup e.cls = some s ∧ Q (.str s))
  | .ok _, h => h
  | .err e, h => by
    unfold toldD at h
    split at h
    · rename_i s hs; exact ⟨s, hs, h⟩
    · exact h.elim
  | .stuck, h => h
  | .roll _ _, h => fun i hi => toldD_wp (h i hi)
/-- the clauses part the classes -/
def ExmOk (K : PySem.W.Frag) (G : Gm) (ks : List Nat) : Prop := ∀ i ∈ ks, ∀ j ∈ ks, PySem.W.exmOne K (.ref (G.xcls i)) (.ref (G.xcls j)) = some (i == j)
theorem wSel_of {K : PySem.W.Frag} {G : Gm} {Q : VK} {H : Hp} {i : Nat} {s : List Nat} : ∀ {l : List (Nat × List Nat)} (ks : List Nat), ExmOk K G ks → i ∈ ks → (∀ j ∈ l.map (·.1), j ∈ ks) → l.lookup i = some s → Q (.str ⟨s.toArray⟩) H → wSel K Q (l.map fun p => (G.xcls p.1, (⟨p.2.toArray⟩ : Str))) (.ref (G.xcls i)) H
  | [], ks, _, _, _, h, _ => by cases h
  | (j, t) :: l, ks, hx, hi, hl, h, q => by
    refine ⟨i == j, hx i hi j (hl j (by simp)), fun hb => ?_, fun hb => ?_⟩
    · rw [List.lookup_cons, hb] at h
      cases h
      exact q
    · rw [List.lookup_cons, hb] at h
      exact wSel_of ks hx hi (fun j hj => hl j (List.mem_cons_of_mem _ hj)) h q
theorem lookup_mem {i : Nat} {s : List Nat} : ∀ {l : List (Nat × List Nat)}, l.lookup i = some s → i ∈ l.map (·.1)
  | [], h => by cases h
  | p :: l, h => by
    rw [List.lookup_cons] at h
    split at h
    · rename_i hh
      exact List.mem_map.mpr ⟨p, List.mem_cons_self, (beq_iff_eq.mp hh).symm⟩
    · exact List.mem_cons_of_mem _ (lookup_mem h)
theorem takes_lam {A outer s H E scope f c'} : Takes (lamCx X A outer s H E scope f c') (WD E) := takes_of rfl rfl rfl rfl
theorem Grow.ofExt {dl : Addr} {H H' : Hp} (e : ExtN H H') : Grow dl H H' := fun a o h _ nt => e a o h nt
theorem GlOk.ofExt {G : Gm} {dl : Addr} {H H' : Hp} (k : GlOk G dl H) (e : ExtN H H') (t : Tabs G.tabs H') : GlOk G dl H' := by
  obtain ⟨x, y, z, h⟩ := k.dice
  exact ⟨⟨x, y, z, e _ _ h fun ps z => by cases z⟩, t⟩
/-- x(lambda: body), x a def that tells -/
theorem de_told {G : Gm} {W : WX} {l : List (Nat × List Nat)} {x a : Str} {g c P : Addr} {k : Nat} {pg : Arguments} {bg : List Stmt} {sg : Scope} {dV kV doc pm cdv ct oc : Value} {an od : Option Addr} {osl : Array (Option Value)} {Ng : List Str}
    {params : Arguments} {body : Expr} {scope : Scope} {fb : LE → R D} {p lpos pos : Pos} (hm : X.mg x = some (.ref g)) (hk : PySem.W.keepIn X.K (.ref g) = true)
    (lk : X.K.lookup g = some ⟨oc, od, .func (PySem.W.fnOf x x pg bg sg dV kV doc pm an cdv ct), osl⟩) (hcg : PySem.W.codeIn X.K cdv x = true) (hb : L2.Binds X.K (PySem.W.fnOf x x pg bg sg dV kV doc pm an cdv ct) [a] []) (Sg : FnScope Ng [a] sg) (hNg : Ng[0]? = some a) (hva : Vis sg a)
    (hG : GivesTo X Ng x sg g cdv bg a (X.env.qual ++ "<lambda>") (TTm X.K (l.map fun p => (G.xcls p.1, (⟨p.2.toArray⟩ : Str)))))
    (hx : ExmOk X.K G (l.map (·.1))) (TB : TabB X.base X.mg c P) (hcode : X.env.code = .ref c) (hmT : (P, X.env.qual ++ "<lambda>") ∈ G.tabs) (hu : ∀ p ∈ G.tabs, p.1 = P → p.2 = X.env.qual ++ "<lambda>") (hr : Room (k + 2) X.A) (L : LamS X.env.scope scope)
    (hbody : ∀ (A : Around) (outer : List Env) (s : Shared) (H : Hp) (E : XK) (f c' : Addr), Room k (A.deeper (lamEnv X scope s.heap.objs.size f c')) → DE (lamCx X A outer s H E scope f c') G (WD E) body fb)
    (hg : Gl X x := by rfl) (hdef : defaultsOf params X.env = ([], []) := by rfl)
    (hbind : ∀ (q : Str) (cl : List (Str × Addr)) (pm cv ctv : Value), bindArgs (PySem.W.kla_fn "<lambda>" q params body scope cl pm cv ctv) ⟨[], []⟩ = pure [] := by intro _ _ _ _ _; rfl)
    (hdb : (x == ("__debug__" : Str)) = false := by decide) (hd : (a == ("__debug__" : Str)) = false := by decide) (hcd : (a == ("__classdict__" : Str)) = false := by decide) :
    DE X G W (.Call (.Name x p) [.Lambda params body scope lpos] [] pos) (fun r => toldD l (fb r)) := by
  refine PE_imp (pe_lamcall (T := G.tabs) (t := fun E => tD G (WD E) fb) hg hm hk lk hcg hb Sg hNg hva hG TB hcode hmT hu hr L hdef hbind hbody hdb hd hcd) fun sg H Q ⟨dl, Z, O, r, A, q⟩ => ⟨A.gl.tab, fun H1 e1 t1 => ?_⟩
  have g1 : Grow dl H H1 := Grow.ofExt e1
  have k1 := A.gl.ofExt e1 t1
  refine ⟨dl, Z, O, r, A.grow g1 k1, (toldD_wp q).mono (fun d hd v H2 g2 k2 rp => hd v H2 (g1.trans g2) k2 rp) fun e ⟨s, hs, hq⟩ cls dx H2 g2 k2 xr => ?_⟩
  obtain ⟨rfl, _⟩ := xr
  have hmem : e.cls ∈ l.map (·.1) := lookup_mem hs
  exact wSel_of _ hx hmem (fun j hj => hj) hs (hq _ H2 (g1.trans g2) k2 Rep.str_)
end
end DL
set_option Elab.async false
set_option linter.all false
set_option maxRecDepth 100000
namespace DL
open PySem L2 PySem.Spec PyProof.Rows
def RepPL (G : Gm) (dl : Addr) (H : Hp) (Z : List Addr) : List D → List V → Prop
  | [], vs => vs = []
  | d :: ds, vs => ∃ v r, vs = v :: r ∧ RepP G dl H Z d v ∧ RepPL G dl H Z ds r
theorem RepPL.grow {G : Gm} {dl : Addr} {Z : List Addr} {O : List (Nat × Addr)} {r : LE} {sg : L2.St} {H H' : Hp} (A : At G dl Z O r sg H) (g : Grow dl H H') : ∀ {ds : List D} {vs : List V}, RepPL G dl H Z ds vs → RepPL G dl H' Z ds vs
  | [], _, h => h
  | d :: ds, vs, ⟨v, r, e, h1, h2⟩ => ⟨v, r, e, h1.grow A g, RepPL.grow A g h2⟩
def tAp (G : Gm) (W : WX) (f : LE → R (List D)) : TA := fun sg H Q => ∃ dl Z O r, At G dl Z O r sg H ∧
  Wp (f r) (fun ds => ∀ vs H', Grow dl H H' → GlOk G dl H' → RepPL G dl H' Z ds vs → Q vs H')
    (fun e => ∀ cls dx H', Grow dl H H' → GlOk G dl H' → XRep G dl (cut H' Z) e cls dx H' → W cls dx sg H')
abbrev DAp (X : Cx) (G : Gm) (W : WX) (es : List Expr) (f : LE → R (List D)) : Prop := PA X es (tAp G W f)
/-- a call of a built-in by values -/
def CallD (X : Cx) (G : Gm) (fv : Value) (g : List D → R D) : Prop := ∃ rr : List V → Hp → VK → Prop, CallR X fv rr ∧
  ∀ (dl : Addr) (Z : List Addr) (O : List (Nat × Addr)) (r : LE) (sg : L2.St) (ds : List D) (vs : List V) (H : Hp) (Q : VK) (E : Exc → Prop), At G dl Z O r sg H → RepPL G dl H Z ds vs →
    Wp (g ds) (fun d => ∀ v H', Grow dl H H' → GlOk G dl H' → Rep G dl (cut H' Z) d v → Q v H') E → rr vs H Q
section
variable {X : Cx} {G : Gm} {W : WX} {ex a b : Expr} {es : List Expr} {f : LE → R D} {fs : LE → R (List D)} {g : List D → R D} {gl : List D → R (List D)} {pos p : Pos} {x : Str} {id T : String}
theorem dap_nil : DAp X G W [] anil := PA_imp pa_nil fun sg H Q ⟨dl, Z, O, r, A, q⟩ => q [] H (.refl _ _) A.gl rfl
theorem dap_cons (ha : DP X G W a f) (hs : DAp X G W es fs) (hst : starEach (a :: es) X.env = (false, eval a X.env) :: starEach es X.env := by rfl) : DAp X G W (a :: es) (acons f fs) := PA_imp (pa_cons ha hs hst) fun sg H Q ⟨dl, Z, O, r, A, q⟩ => by
  refine ⟨dl, Z, O, r, A, q.bind.thn fun x hx v H1 g1 k1 rp => ?_⟩
  refine ⟨dl, Z, O, r, A.grow g1 k1, hx.bind.mono (fun xs hxs vs H2 g2 k2 rl => ?_) fun e => epost g1⟩
  exact hxs (v :: vs) H2 (g1.trans g2) k2 ⟨v, vs, rfl, rp.grow (A.grow g1 k1) g2, rl⟩
theorem de_callB (hc : CallD X G (.builtin id) g) (hm : X.mg x = none) (hv : bootBuiltins x = some (.builtin id)) (ha : DAp X G W (ex :: es) fs) (hg : Gl X x := by rfl) (hn : x ≠ "__name__" := by decide) (hdb : (x == ("__debug__" : Str)) = false := by decide)
    (he : starEach (ex :: es) X.env = (false, eval ex X.env) :: starEach es X.env := by rfl) (hpl : (backTo pos (starEach es X.env)).any (·.1) = false := by rfl) : DE X G W (.Call (.Name x p) (ex :: es) [] pos) (fun r => fs r >>= g) := by
  obtain ⟨rr, h1, h2⟩ := hc
  refine PE_imp (pe_callB h1 hg hm hv ha hn hdb he hpl) fun sg H Q ⟨dl, Z, O, r, A, q⟩ => ⟨dl, Z, O, r, A, q.bind.thn fun ds hd vs H1 g1 k1 rl => ?_⟩
  exact h2 dl Z O r sg ds vs H1 Q _ (A.grow g1 k1) rl (hd.thn fun d h v H' g' k' rp => h v H' (g1.trans g') k' rp)
theorem de_callT (hc : CallD X G (.type T) g) (hm : X.mg x = none) (hv : bootBuiltins x = some (.type T)) (ha : DAp X G W (ex :: es) fs) (hg : Gl X x := by rfl) (hn : x ≠ "__name__" := by decide) (hdb : (x == ("__debug__" : Str)) = false := by decide)
    (he : starEach (ex :: es) X.env = (false, eval ex X.env) :: starEach es X.env := by rfl) (hpl : (backTo pos (starEach es X.env)).any (·.1) = false := by rfl) : DE X G W (.Call (.Name x p) (ex :: es) [] pos) (fun r => fs r >>= g) := by
  obtain ⟨rr, h1, h2⟩ := hc
  refine PE_imp (pe_callTy h1 hg hm hv ha hn hdb he hpl) fun sg H Q ⟨dl, Z, O, r, A, q⟩ => ⟨dl, Z, O, r, A, q.bind.thn fun ds hd vs H1 g1 k1 rl => ?_⟩
  exact h2 dl Z O r sg ds vs H1 Q _ (A.grow g1 k1) rl (hd.thn fun d h v H' g' k' rp => h v H' (g1.trans g') k' rp)
def tupleD : List D → R D
  | [.lst xs] => .ok (.tup xs)
  | [.tup xs] => .ok (.tup xs)
  | _ => .stuck
theorem RepPL.one {dl : Addr} {H : Hp} {Z : List Addr} {d : D} {vs : List V} (h : RepPL G dl H Z [d] vs) : ∃ v, vs = [v] ∧ RepP G dl H Z d v := by
  obtain ⟨v, r, rfl, h1, h2⟩ := h
  cases (show r = [] from h2)
  exact ⟨v, rfl, h1⟩
theorem RepPL.two {dl : Addr} {H : Hp} {Z : List Addr} {d e : D} {vs : List V} (h : RepPL G dl H Z [d, e] vs) : ∃ v u, vs = [v, u] ∧ RepP G dl H Z d v ∧ RepP G dl H Z e u := by
  obtain ⟨v, r, rfl, h1, h2⟩ := h
  obtain ⟨u, rfl, h3⟩ := RepPL.one h2
  exact ⟨v, u, rfl, h1, h3⟩
theorem cd_tuple (hG : G.K = X.K) : CallD X G (.type "tuple") tupleD := by
  refine ⟨_, call_tuple_of, fun dl Z O r sg ds vs H Q E A rl h => ?_⟩
  unfold tupleD at h
  split at h
  · obtain ⟨v, rfl, rp⟩ := rl.one
    obtain ⟨a, us, rfl, e, rl'⟩ := rp.lst
    exact ⟨a, us, rfl, .inl ⟨SqL.of e, fun l hl => h _ _ (.new hl) (A.gl.new hl) (Rep.tup_new A hl rl')⟩⟩
  · obtain ⟨v, rfl, rp⟩ := rl.one
    obtain ⟨a, us, rfl, e, rl'⟩ := rp.tup
    rcases rp with rp | ⟨_, _, _, _, rp⟩
    · exact ⟨a, us, rfl, .inr ⟨hG ▸ e, h _ _ (.refl _ _) A.gl rp⟩⟩
    · exact rp.elim
  · exact h.elim
def D.ltb (x y : D) : Bool := PySem.W.dataLt x.toP y.toP
def D.ali (x y : D) : Bool := PySem.W.alike x.toP y.toP
/-- all can be compared with one another -/
def alis (ds : List D) : Bool := ds.all fun x => x.sh 50 && (match x with | .non => false | _ => true) && ds.all fun y => x.ali y
def least (d : D) (ds : List D) : D := ds.foldl (fun a y => if y.ltb a then y else a) d
theorem ReadsAll_get {h : Heap} : ∀ {us : List Value} {ds : List PyData} {as : List Addr} {i : Nat} {u : Value}, ReadsAll h us ds as → us[i]? = some u → ∃ d bs, ds[i]? = some d ∧ Reads h u d bs
  | _, _, _, i, u, .nil, e => by simp at e
  | _, _, _, 0, u, .cons r rs, e => by
    have e := Option.some.inj (show some _ = some u from e)
    subst e
    exact ⟨_, _, rfl, r⟩
  | _, _, _, i + 1, u, .cons r rs, e => by
    obtain ⟨d, bs, h1, h2⟩ := ReadsAll_get rs (i := i) (by simpa using e)
    exact ⟨d, bs, by simpa using h1, h2⟩
theorem Vals_back {xs : List V} {us : List Value} {i : Nat} {u : Value} (r : Vals xs us) (e : us[i]? = some u) : ∃ x, xs[i]? = some x ∧ RelV x u := by
  have hl := r.length
  obtain ⟨h1, h2⟩ := List.getElem?_eq_some_iff.mp e
  have hx : xs[i]? = some (xs[i]'(by omega)) := by simp
  obtain ⟨u', h3, h4⟩ := r.get hx
  rw [e] at h3
  cases h3
  exact ⟨_, hx, h4⟩
theorem minD_mem (x : PyData) (xs : List PyData) : PySem.W.minD x xs ∈ x :: xs := by
  unfold PySem.W.minD
  have : ∀ (ys : List PyData) (a : PyData), ys.foldl (fun a y => if PySem.W.dataLt y a then y else a) a = a ∨ ys.foldl (fun a y => if PySem.W.dataLt y a then y else a) a ∈ ys := by
    intro ys
    induction ys with
    | nil => intro a; exact .inl rfl
    | cons y ys ih =>
      intro a
      rw [List.foldl_cons]
      rcases ih (if PySem.W.dataLt y a then y else a) with e | e
      · rw [e]
        split
        · exact .inr List.mem_cons_self
        · exact .inl rfl
      · exact .inr (List.mem_cons_of_mem _ e)
  rcases this xs x with e | e
  · rw [e]; exact List.mem_cons_self
  · exact List.mem_cons_of_mem _ e
/-- a list or a tuple of data, one item of which comes back -/
def rPick (K : PySem.W.Frag) (pk : PyData → List PyData → PyData) : List V → Hp → VK → Prop := fun vs H Q => ∃ (a : Addr) (us : List V) (x : PyData) (xs : List PyData), vs = [.ref a] ∧ (SqL K H a us ∨ SqT K H a us) ∧ DpAll K H us (x :: xs) ∧ PySem.W.AlikeAll (x :: xs) ∧
  PyData.depthAll (x :: xs) ≤ 64 ∧ ∀ (i : Nat) v, us[i]? = some v → (x :: xs)[i]? = some (pk x xs) → Q v H
theorem pick_core {pins : List (Addr × Obj)} {s : Shared} {sg : L2.St} {H : Hp} {Q : VK} {us : List V} {x pd : PyData} {xs : List PyData} {its : List Value} {as : List Addr} (I : Inv X pins sg H s) (rv : Vals us its) (hr : ReadsAll s.heap its (x :: xs) as) (ha : PySem.W.AlikeAll (x :: xs)) (hmem : pd ∈ x :: xs)
    (q : ∀ (i : Nat) v, us[i]? = some v → (x :: xs)[i]? = some pd → Q v H) (i : Nat) (u : Value) (h' : Heap) (tk : Nat) (bs : List Addr) (hi : its.toArray[i]? = some u) (hr' : Reads h' u pd bs) (hk : ∀ b o, s.heap.get? b = some o → h'.get? b = some o) : EP X pins sg Q u { s with heap := h', toks := tk } := by
  have hi' : its[i]? = some u := by simpa using hi
  obtain ⟨v, hv, rvu⟩ := Vals_back rv hi'
  obtain ⟨d, cs, hd, hrd⟩ := ReadsAll_get hr hi'
  have hdm : d ∈ x :: xs := List.mem_of_getElem? hd
  have e : d = pd := PySem.W.alike_unique d _ u _ _ (ha.1 d hdm _ hmem) (PySem.W.reads_keeps hk hrd) hr'
  subst e
  exact ⟨v, H, I.kept hk, rvu, q i v hv hd⟩
theorem cr_minP (hc : X.calm = true) (hu : X.A.units + 70 < cLine) : CallR X (.builtin "min") (rPick X.K PySem.W.minD) := by
  intro pins s sg H vs us0 Q I r ⟨a, us, x, xs, ev, hsq, hdp, ha, hdep, q⟩
  subst ev
  rw [Vals.ref1 r]
  rcases hsq with h | h
  · obtain ⟨its, rv, pl, _⟩ := I.list h
    obtain ⟨as, hr⟩ := Dp.readsAll I (x :: xs) us its hdp rv
    exact PySem.W.min_list_data (I.ok.hd hc) pl.isList hr ha (by omega) (pick_core I rv hr ha (minD_mem x xs) q)
  · obtain ⟨its, rv, pl, _⟩ := I.tuple h
    obtain ⟨as, hr⟩ := Dp.readsAll I (x :: xs) us its hdp rv
    exact PySem.W.min_tuple_data (I.ok.hd hc) pl hr ha (by omega) (pick_core I rv hr ha (minD_mem x xs) q)
mutual
theorem toP_inj : ∀ (x y : D) (n m : Nat), x.sh n = true → y.sh m = true → x.toP = y.toP → x = y
  | .non, y, n, m, hx, hy, e => by cases y <;> simp_all [D.toP, D.sh]
  | .bl b, y, n, m, hx, hy, e => by cases y <;> simp_all [D.toP, D.sh]
  | .int i, y, n, m, hx, hy, e => by cases y <;> simp_all [D.toP, D.sh]
  | .str s, y, n, m, hx, hy, e => by cases y <;> simp_all [D.toP, D.sh]
  | .lst xs, y, n, m, hx, hy, e => by
    cases y <;> first | (simp [D.toP] at e; done) | skip
    rename_i ys
    cases n <;> first | (simp [D.sh] at hx; done) | skip
    cases m <;> first | (simp [D.sh] at hy; done) | skip
    simp only [D.sh] at hx hy
    simp only [D.toP, PyData.list.injEq] at e
    rw [toPs_inj xs ys _ _ hx hy e]
  | .tup xs, y, n, m, hx, hy, e => by
    cases y <;> first | (simp [D.toP] at e; done) | skip
    rename_i ys
    cases n <;> first | (simp [D.sh] at hx; done) | skip
    cases m <;> first | (simp [D.sh] at hy; done) | skip
    simp only [D.sh] at hx hy
    simp only [D.toP, PyData.tuple.injEq] at e
    rw [toPs_inj xs ys _ _ hx hy e]
  | .dic _, y, n, m, hx, hy, e => by simp [D.sh] at hx
  | .cdic _, y, n, m, hx, hy, e => by simp [D.sh] at hx
  | .ins _ _, y, n, m, hx, hy, e => by simp [D.sh] at hx
  | .dice, y, n, m, hx, hy, e => by simp [D.sh] at hx
  | .fn _, y, n, m, hx, hy, e => by simp [D.sh] at hx
theorem toPs_inj : ∀ (xs ys : List D) (n m : Nat), D.shs xs n = true → D.shs ys m = true → D.toPs xs = D.toPs ys → xs = ys
  | [], [], n, m, hx, hy, e => rfl
  | [], y :: ys, n, m, hx, hy, e => by simp [D.toPs] at e
  | x :: xs, [], n, m, hx, hy, e => by simp [D.toPs] at e
  | x :: xs, y :: ys, n, m, hx, hy, e => by
    simp only [D.shs, Bool.and_eq_true] at hx hy
    simp only [D.toPs, List.cons.injEq] at e
    rw [toP_inj x y n m hx.1 hy.1 e.1, toPs_inj xs ys n m hx.2 hy.2 e.2]
end
theorem toPs_map (ds : List D) : D.toPs ds = ds.map D.toP := by
  induction ds with
  | nil => rfl
  | cons d ds ih => simp only [D.toPs, List.map_cons, ih]
theorem shs_of {ds : List D} {n : Nat} (h : ∀ d ∈ ds, d.sh n = true) : D.shs ds n = true := by
  induction ds with
  | nil => rfl
  | cons d ds ih =>
    simp only [D.shs, h d List.mem_cons_self, Bool.true_and]
    exact ih fun e he => h e (List.mem_cons_of_mem _ he)
theorem alis_sh {ds : List D} (h : alis ds = true) : ∀ d ∈ ds, d.sh 50 = true := fun d hd => by
  have := List.all_eq_true.mp h d hd
  simp only [Bool.and_eq_true] at this
  exact this.1.1
theorem alis_alike {ds : List D} (h : alis ds = true) : PySem.W.AlikeAll (D.toPs ds) := by
  rw [toPs_map]
  refine ⟨fun x hx y hy => ?_, fun x hx => ?_⟩
  · obtain ⟨d, hd, rfl⟩ := List.mem_map.mp hx
    obtain ⟨e, he, rfl⟩ := List.mem_map.mp hy
    have := List.all_eq_true.mp h d hd
    simp only [Bool.and_eq_true, List.all_eq_true] at this
    exact this.2 e he
  · obtain ⟨d, hd, rfl⟩ := List.mem_map.mp hx
    have := List.all_eq_true.mp h d hd
    simp only [Bool.and_eq_true] at this
    intro e
    cases d <;> simp_all [D.toP, D.sh]
theorem least_toP (d : D) (ds : List D) : (least d ds).toP = PySem.W.minD d.toP (D.toPs ds) := by
  unfold least PySem.W.minD
  rw [toPs_map, List.foldl_map]
  induction ds generalizing d with
  | nil => rfl
  | cons e ds ih =>
    rw [List.foldl_cons, List.foldl_cons, ih]
    congr 1
    show (if e.ltb d then e else d).toP = if PySem.W.dataLt e.toP d.toP then e.toP else d.toP
    unfold D.ltb
    split <;> rfl
theorem fold_mem {pk : D → D → D} (hp : ∀ a b, pk a b = a ∨ pk a b = b) : ∀ (ds : List D) (d : D), ds.foldl pk d ∈ d :: ds
  | [], d => List.mem_cons_self
  | e :: ds, d => by
    rw [List.foldl_cons]
    rcases hp d e with q | q
    · rw [q]
      rcases List.mem_cons.mp (fold_mem hp ds d) with z | z
      · rw [z]; exact List.mem_cons_self
      · exact List.mem_cons_of_mem _ (List.mem_cons_of_mem _ z)
    · rw [q]
      exact List.mem_cons_of_mem _ (fold_mem hp ds e)
theorem least_mem (d : D) (ds : List D) : least d ds ∈ d :: ds := fold_mem (fun a b => by split <;> simp) ds d
def minL : List D → R D
  | [.int i, .int j] => .ok (.int (if j < i then j else i))
  | [.lst (d :: ds)] => if alis (d :: ds) then .ok (least d ds) else .stuck
  | [.tup (d :: ds)] => if alis (d :: ds) then .ok (least d ds) else .stuck
  | _ => .stuck
theorem CallR.or {f : Value} {r1 r2 : List V → Hp → VK → Prop} (h1 : CallR X f r1) (h2 : CallR X f r2) : CallR X f (fun vs H Q => r1 vs H Q ∨ r2 vs H Q) := fun pins s sg H xs us Q I r h => by
  rcases h with h | h
  · exact h1 pins s sg H xs us Q I r h
  · exact h2 pins s sg H xs us Q I r h
theorem pick_of {pk : D → List D → D} {pp : PyData → List PyData → PyData} (htp : ∀ d ds, (pk d ds).toP = pp d.toP (D.toPs ds)) (hmem : ∀ d ds, pk d ds ∈ d :: ds) {dl : Addr} {Z : List Addr} {O : List (Nat × Addr)} {r : LE} {sg : L2.St} {H : Hp} {Q : VK} (hG : G.K = X.K) (A : At G dl Z O r sg H) {d : D} {ds : List D} {us : List V} {a : Addr}
    (hsq : SqL X.K H a us ∨ SqT X.K H a us) (rl : RepL G dl (cut H Z) (d :: ds) us) (hal : alis (d :: ds) = true) (h : ∀ v H', Grow dl H H' → GlOk G dl H' → Rep G dl (cut H' Z) (pk d ds) v → Q v H') : rPick X.K pp [.ref a] H Q := by
  have hs := alis_sh hal
  have hss := shs_of hs
  refine ⟨a, us, d.toP, D.toPs ds, rfl, hsq, ?_, ?_, ?_, fun i v hv hi => ?_⟩
  · have := RepL.dp (cut_grow H Z) (d :: ds) 50 hss rl
    rw [hG] at this
    exact this
  · exact alis_alike hal
  · exact Nat.le_trans (shs_lay (d :: ds) 50 hss).2 (by decide)
  · obtain ⟨e, he, rp⟩ := RepL.get (d :: ds) us i v rl hv
    have h1 : (D.toPs (d :: ds))[i]? = some (pp d.toP (D.toPs ds)) := hi
    rw [toPs_map, List.getElem?_map, he] at h1
    have h2 : e.toP = (pk d ds).toP := by rw [htp]; exact Option.some.inj h1
    have h3 := toP_inj e _ 50 50 (hs e (List.mem_of_getElem? he)) (hs _ (hmem d ds)) h2
    rw [← h3] at h
    exact h v H (.refl _ _) A.gl rp
theorem cd_min (hG : G.K = X.K) (hc : X.calm = true) (hu : X.A.units + 70 < cLine) : CallD X G (.builtin "min") minL := by
  refine ⟨_, CallR.or (call_min2 hc) (cr_minP hc hu), fun dl Z O r sg ds vs H Q E A rl h => ?_⟩
  unfold minL at h
  split at h
  · obtain ⟨v, u, rfl, r1, r2⟩ := rl.two
    exact .inl ⟨_, _, by rw [r1.int, r2.int], h _ H (.refl _ _) A.gl Rep.int_⟩
  · split at h
    · rename_i d ds hal
      obtain ⟨v, rfl, rp⟩ := rl.one
      obtain ⟨a, us, rfl, e, rl'⟩ := rp.lst
      exact .inr (pick_of least_toP least_mem hG A (.inl (SqL.of e)) rl' hal h)
    · exact h.elim
  · split at h
    · rename_i d ds hal
      obtain ⟨v, rfl, rp⟩ := rl.one
      obtain ⟨a, us, rfl, e, rl'⟩ := rp.tup
      exact .inr (pick_of least_toP least_mem hG A (.inr (hG ▸ e)) rl' hal h)
    · exact h.elim
  · exact h.elim
end
end DL
set_option Elab.async false
set_option linter.all false
set_option maxRecDepth 100000
namespace DL
open PySem L2 PySem.Spec PyProof.Rows
def D.key1 : D → Bool
  | .int _ => true
  | .str _ => true
  | _ => false
def D.keq : D → D → Bool
  | .int i, .int j => i == j
  | .str s, .str t => s == t
  | _, _ => false
theorem keq_key {a b : D} {x y : Key} (h1 : a.key = some x) (h2 : b.key = some y) : a.keq b = decide (x = y) := by
  cases a <;> simp [D.key] at h1 <;> subst h1 <;> cases b <;> simp [D.key] at h2 <;> subst h2 <;> rw [Bool.eq_iff_iff] <;> simp [D.keq]
def getD (kvs : List (D × D)) (k : D) : Option D := (kvs.find? fun p => p.1.keq k).map (·.2)
def putD (kvs : List (D × D)) (k d : D) : List (D × D) := if (kvs.any fun p => p.1.keq k) = true then kvs.map (fun p => if p.1.keq k then (p.1, d) else p) else kvs ++ [(k, d)]
/-- x in y -/
def inB (x : D) : D → R Bool
  | .lst ys => if x.sh 62 && D.shs ys 62 then .ok (ys.any fun z => z.eqb x) else .stuck
  | .tup ys => if x.sh 62 && D.shs ys 62 then .ok (ys.any fun z => z.eqb x) else .stuck
  | .str t => match x with
    | .str [c] => .ok (decide (c ∈ t))
    | _ => .stuck
  | .dic kvs => if x.key1 then .ok ((getD kvs x).isSome) else .stuck
  | _ => .stuck
def inD (x y : D) : R D := inB x y >>= fun b => .ok (.bl b)
def notInD (x y : D) : R D := inB x y >>= fun b => .ok (.bl (!b))
theorem toPs_any {x : D} {n : Nat} (hx : x.sh n = true) : ∀ {ys : List D} {m : Nat}, D.shs ys m = true → ((D.toPs ys).any fun z => PyData.eqv z x.toP) = ys.any fun z => z.eqb x
  | [], m, h => rfl
  | y :: ys, m, h => by
    simp only [D.shs, Bool.and_eq_true] at h
    simp only [D.toPs, List.any_cons, toPs_any hx h.2, eqb_eqv y x m n h.1 hx]
mutual
theorem sh_mono : ∀ (d : D) (n m : Nat), n ≤ m → d.sh n = true → d.sh m = true
  | .non, _, _, _, _ => rfl
  | .bl _, _, _, _, _ => rfl
  | .int _, _, _, _, _ => rfl
  | .str s, n, m, _, h => by simpa [D.sh] using h
  | .lst xs, n, m, h1, h2 => by
    cases n <;> first | (simp [D.sh] at h2; done) | skip
    cases m <;> first | omega | skip
    simp only [D.sh] at h2 ⊢
    exact shs_mono xs _ _ (by omega) h2
  | .tup xs, n, m, h1, h2 => by
    cases n <;> first | (simp [D.sh] at h2; done) | skip
    cases m <;> first | omega | skip
    simp only [D.sh] at h2 ⊢
    exact shs_mono xs _ _ (by omega) h2
  | .dic _, n, m, _, h => by simp [D.sh] at h
  | .cdic _, n, m, _, h => by simp [D.sh] at h
  | .ins _ _, n, m, _, h => by simp [D.sh] at h
  | .dice, n, m, _, h => by simp [D.sh] at h
  | .fn _, n, m, _, h => by simp [D.sh] at h
theorem shs_mono : ∀ (ds : List D) (n m : Nat), n ≤ m → D.shs ds n = true → D.shs ds m = true
  | [], _, _, _, _ => rfl
  | d :: ds, n, m, h1, h2 => by
    simp only [D.shs, Bool.and_eq_true] at h2 ⊢
    exact ⟨sh_mono d n m h1 h2.1, shs_mono ds n m h1 h2.2⟩
end
section
variable {X : Cx} {G : Gm} {W : WX}
/-- x in a tuple of data -/
def rInTD (K : PySem.W.Frag) (neg : Bool) : R2 := fun x y H Q => ∃ d ds, Dp K H x d ∧ Dp K H y (.tuple ds) ∧ SeqAt.shaped d = true ∧ SeqAt.shaped (.tuple ds) = true ∧ Q (.bl (if neg then !ds.any fun z => PyData.eqv z d else ds.any fun z => PyData.eqv z d)) H
theorem room_tup {A : Around} {ds : List PyData} {d : PyData} (sd : SeqAt.shaped d = true) (hu : A.units + 66 < cLine) : A.units + 1 + min (PyData.depthAll ds) d.depth < cLine := by
  have := SeqAt.depth_of_shaped sd
  omega
theorem op_inTD (hu : X.A.units + 66 < cLine) : OpR X (compareOp .In) (rInTD X.K false) := by
  intro pins s sg H x y v u Q I rx ry ⟨d, ds, hd, he, sd, se, q⟩
  obtain ⟨as, r1⟩ := Dp.reads I d x v hd rx
  obtain ⟨bs, r2⟩ := Dp.reads I (.tuple ds) y u he ry
  exact SeqAt.in_tuple_reads r2 r1 (SeqAt.canLay_of_shaped se) (SeqAt.canLay_of_shaped sd) (room_tup sd hu) ⟨.bl _, H, I, rfl, q⟩
theorem op_notInTD (hu : X.A.units + 66 < cLine) : OpR X (compareOp .NotIn) (rInTD X.K true) := by
  intro pins s sg H x y v u Q I rx ry ⟨d, ds, hd, he, sd, se, q⟩
  obtain ⟨as, r1⟩ := Dp.reads I d x v hd rx
  obtain ⟨bs, r2⟩ := Dp.reads I (.tuple ds) y u he ry
  exact SeqAt.notIn_tuple_reads r2 r1 (SeqAt.canLay_of_shaped se) (SeqAt.canLay_of_shaped sd) (room_tup sd hu) ⟨.bl _, H, I, rfl, q⟩
def rInDc (neg : Bool) : R2 := fun x y H Q => ∃ a o, y = .ref a ∧ DGet H a x o ∧ Q (.bl (if neg then !o.isSome else o.isSome)) H
theorem op_inDc (hu : X.A.units + 66 < cLine) : OpR X (compareOp .In) (rInDc false) := by
  intro pins s sg H x y v u Q I rx ry ⟨a, o, ey, g, q⟩
  subst ey
  obtain rfl : u = Value.ref a := ry
  exact d_in (by omega) I g rx fun s3 I3 => ⟨.bl o.isSome, H, I3, rfl, q⟩
theorem op_notInDc (hu : X.A.units + 66 < cLine) : OpR X (compareOp .NotIn) (rInDc true) := by
  intro pins s sg H x y v u Q I rx ry ⟨a, o, ey, g, q⟩
  subst ey
  obtain rfl : u = Value.ref a := ry
  exact d_notIn (by omega) I g rx fun s3 I3 => ⟨.bl (!o.isSome), H, I3, rfl, q⟩
theorem key_kV {d : D} {x : Key} {dl : Addr} {H : Hp} {Z : List Addr} {v : V} (h : d.key = some x) (rp : RepP G dl H Z d v) : v = kV x := by
  cases d <;> simp [D.key] at h <;> subst h
  · rw [rp.int]; rfl
  · rw [rp.str]; rfl
theorem key1_key {d : D} (h : d.key1 = true) : ∃ x, d.key = some x := by
  cases d <;> simp [D.key1] at h
  · exact ⟨_, rfl⟩
  · exact ⟨_, rfl⟩
theorem RepP.dic {dl : Addr} {H : Hp} {Z : List Addr} {v : V} {kvs : List (D × D)} (h : RepP G dl H Z (.dic kvs) v) : ∃ a kv, v = .ref a ∧ Rd H a (.dK kv) ∧ RepK G dl (cut H Z) kvs kv := by
  rcases h with h | ⟨a, e, hz, hd, q⟩
  · unfold Rep at h
    obtain ⟨a, kv, e, q, rl⟩ := h
    exact ⟨a, kv, e, (cut_grow H Z).rd (fun ps z => by cases z) q, rl⟩
  · obtain ⟨kv, e2, rl⟩ := q
    exact ⟨a, kv, e, .inl e2, rl⟩
theorem getD_of {dl : Addr} {S : Hp} {k : D} {x : Key} (hk : k.key = some x) : ∀ {kvs : List (D × D)} {kv : List (Key × V)}, RepK G dl S kvs kv → (getD kvs k = none ∧ valV kv x = none) ∨ ∃ d v, getD kvs k = some d ∧ valV kv x = some v ∧ Rep G dl S d v
  | [], kv, h => by
    unfold RepK at h
    subst h
    exact .inl ⟨rfl, rfl⟩
  | (k', d) :: kvs, kv, h => by
    unfold RepK at h
    obtain ⟨y, v, r, rfl, hk', rp, h2⟩ := h
    have e := keq_key hk' hk
    by_cases q : y = x
    · refine .inr ⟨d, v, ?_, valV_pos q, rp⟩
      unfold getD
      rw [List.find?_cons, show k'.keq k = true by rw [e]; exact decide_eq_true q]
      rfl
    · have e2 : k'.keq k = false := by rw [e]; exact decide_eq_false q
      have h3 : getD ((k', d) :: kvs) k = getD kvs k := by
        unfold getD
        rw [List.find?_cons, e2]
      rw [h3, valV_neg q]
      exact getD_of hk h2
theorem in_core {neg : Bool} {rr : R2} (hG : G.K = X.K)
    (hL : ∀ {x y : V} {H : Hp} {Q : VK} {d : PyData} {ds : List PyData}, Dp X.K H x d → Dp X.K H y (.list ds) → SeqAt.shaped d = true → SeqAt.shaped (.list ds) = true → Q (.bl (if neg then !ds.any fun z => PyData.eqv z d else ds.any fun z => PyData.eqv z d)) H → rr x y H Q)
    (hT : ∀ {x y : V} {H : Hp} {Q : VK}, rInTD X.K neg x y H Q → rr x y H Q) (hS : ∀ {c : Nat} {z : Str} {H : Hp} {Q : VK}, Q (.bl (if neg then !decide (c ∈ z.cps.toList) else decide (c ∈ z.cps.toList))) H → rr (.str ⟨#[c]⟩) (.str z) H Q) (hD : ∀ {x y : V} {H : Hp} {Q : VK}, rInDc neg x y H Q → rr x y H Q)
    (dl : Addr) (Z : List Addr) (O : List (Nat × Addr)) (r : LE) (sg : L2.St) (x y : D) (vx vy : V) (H : Hp) (Q : VK) (E : Exc → Prop) (A : At G dl Z O r sg H) (hx : RepP G dl H Z x vx) (hy : RepP G dl H Z y vy)
    (h : Wp (inB x y >>= fun b => R.ok (D.bl (if neg then !b else b))) (fun d => ∀ v H', Grow dl H H' → GlOk G dl H' → Rep G dl (cut H' Z) d v → Q v H') E) : rr vx vy H Q := by
  unfold inB at h
  split at h
  · split at h
    · rename_i ys hc
      rw [Bool.and_eq_true] at hc
      have e := toPs_any hc.1 hc.2
      refine hL (d := x.toP) (ds := D.toPs ys) (hG ▸ hx.dp hc.1) (hG ▸ (RepP.dp (n := 63) (by simpa [D.sh] using hc.2) hy)) (sh_shaped (sh_mono _ _ _ (by decide) hc.1)) (sh_shaped (d := .lst ys) (by simpa [D.sh] using shs_mono _ _ 63 (by decide) hc.2)) ?_
      rw [e]
      exact h _ H (.refl _ _) A.gl Rep.bl_
    · exact h.elim
  · split at h
    · rename_i ys hc
      rw [Bool.and_eq_true] at hc
      have e := toPs_any hc.1 hc.2
      refine hT ⟨x.toP, D.toPs ys, hG ▸ hx.dp hc.1, hG ▸ (RepP.dp (n := 63) (by simpa [D.sh] using hc.2) hy), sh_shaped (sh_mono _ _ _ (by decide) hc.1), sh_shaped (d := .tup ys) (by simpa [D.sh] using shs_mono _ _ 63 (by decide) hc.2), ?_⟩
      rw [e]
      exact h _ H (.refl _ _) A.gl Rep.bl_
    · exact h.elim
  · split at h
    · rename_i t _ c
      rw [hx.str, hy.str]
      refine hS ?_
      have := h (.bl (if neg then !decide (c ∈ t) else decide (c ∈ t))) H (.refl _ _) A.gl Rep.bl_
      simpa using this
    · exact h.elim
  · split at h
    · rename_i kvs hk1
      obtain ⟨k, hk⟩ := key1_key hk1
      obtain ⟨a, kv, rfl, hrd, rk⟩ := hy.dic
      refine hD ⟨a, valV kv k, rfl, .inl ⟨kv, k, hrd, key_kV hk hx, rfl⟩, ?_⟩
      have hsome : (valV kv k).isSome = (getD kvs x).isSome := by
        rcases getD_of hk rk with ⟨e1, e2⟩ | ⟨d, v, e1, e2, _⟩ <;> simp [e1, e2]
      rw [hsome]
      exact h _ H (.refl _ _) A.gl Rep.bl_
    · exact h.elim
  · exact h.elim
theorem op_in_d (hG : G.K = X.K) (hu : X.A.units + 70 < cLine) : OpD X G (compareOp .In) inD := by
  refine ⟨_, OpR.or (op_inD (by omega)) (OpR.or (op_inTD (by omega)) (OpR.or op_in_sign (op_inDc (by omega)))), ?_⟩
  exact in_core (neg := false) hG (fun h1 h2 h3 h4 q => .inl ⟨_, _, h1, h2, h3, h4, q⟩) (fun h => .inr (.inl h)) (fun q => .inr (.inr (.inl ⟨_, _, rfl, rfl, q⟩))) (fun h => .inr (.inr (.inr h)))
theorem op_notin_d (hG : G.K = X.K) (hu : X.A.units + 70 < cLine) : OpD X G (compareOp .NotIn) notInD := by
  refine ⟨_, OpR.or (op_notInD (by omega)) (OpR.or (op_notInTD (by omega)) (OpR.or op_notIn_sign (op_notInDc (by omega)))), ?_⟩
  exact in_core (neg := true) hG (fun h1 h2 h3 h4 q => .inl ⟨_, _, h1, h2, h3, h4, q⟩) (fun h => .inr (.inl h)) (fun q => .inr (.inr (.inl ⟨_, _, rfl, rfl, q⟩))) (fun h => .inr (.inr (.inr h)))
end
end DL
set_option Elab.async false
set_option linter.all false
set_option maxRecDepth 100000
namespace DL
open PySem L2 PySem.Spec PyProof.Rows
def getC (kvs : List (List Nat × D)) (k : List Nat) : Option D := (kvs.find? fun p => p.1 == k).map (·.2)
def subI (x y : D) : R D := match x with
  | .dic kvs => if y.key1 then (match getD kvs y with
    | some d => .ok d
    | none => .stuck) else .stuck
  | .cdic kvs => match y with
    | .str s => match getC kvs s with
      | some d => .ok d
      | none => .stuck
    | _ => .stuck
  | x => ixD x y
section
variable {X : Cx} {G : Gm} {W : WX} {ex a b : Expr} {es : List Expr} {f g : LE → R D} {fs : LE → R (List D)} {pos p : Pos} {dl : Addr} {S H : Hp} {Z : List Addr}
def rIxDK : R2 := fun x y H Q => ∃ a v, x = .ref a ∧ DGet H a y (some v) ∧ Q v H
theorem ix_dict (hu : X.A.units + 1 < cLine) : IxR X rIxDK := by
  intro value slice pins s sg H x y v u Q I rx ry h hs
  obtain ⟨p, r, rfl, g, q⟩ := h
  obtain rfl : v = Value.ref p := rx
  exact tail_any (dict_typeIs I g) PySem.F.slot_dict_getitem.lookup (d_getItem hu I g ry fun w' s3 I3 rw' => ⟨r, H, I3, rw', q⟩) hs
theorem RepP.cdic {v : V} {kvs : List (List Nat × D)} (h : RepP G dl H Z (.cdic kvs) v) : ∃ a, v = .ref a ∧ RepC G dl (cut H Z) a kvs := by
  rcases h with h | ⟨a, e, hz, hd, q⟩
  · unfold Rep at h
    exact h
  · exact q.elim
theorem getC_of {a : Addr} {k : List Nat} {d : D} : ∀ {kvs : List (List Nat × D)}, RepC G dl S a kvs → getC kvs k = some d → ∃ v, KDct G.K G.w a ⟨k.toArray⟩ v ∧ Rep G dl S d v
  | [], h, e => by simp [getC] at e
  | (k', d') :: kvs, h, e => by
    unfold RepC at h
    unfold getC at e
    rw [List.find?_cons] at e
    by_cases q : k' = k
    · subst q
      simp at e
      subst e
      exact h.1
    · rw [show (k' == k) = false from beq_eq_false_iff_ne.mpr q] at e
      exact getC_of h.2 e
theorem de_sub (hG : G.K = X.K) (hw : G.w = X.w) (hu : X.A.units + 70 < cLine) (ha : DP X G W a f) (hb : DP X G W b g) (hs : PlainIx b) : DE X G W (.Subscript a b pos) (fun r => do let x ← f r; let y ← g r; subI x y) := by
  refine PE_imp (pe_ix (IxR.or (ix_dict (by omega)) (IxR.or ix_kdict ix_seq)) ha hb hs) fun sg H Q h => ?_
  refine op_core (fun dl Z O r sg x y vx vy H Q E A hx hy h => ?_) h
  cases x with
  | dic kvs =>
    unfold subI at h
    dsimp only at h
    split at h
    · rename_i hk1
      obtain ⟨kk, hk⟩ := key1_key hk1
      obtain ⟨a, kv, rfl, hrd, rk⟩ := hx.dic
      split at h
      · rename_i d hd
        rcases getD_of hk rk with ⟨e1, e2⟩ | ⟨d', v, e1, e2, rp⟩
        · rw [e1] at hd; cases hd
        · rw [e1] at hd
          cases hd
          exact .inl ⟨a, v, rfl, .inl ⟨kv, kk, hrd, key_kV hk hy, e2.symm⟩, h v H (.refl _ _) A.gl rp⟩
      · exact h.elim
    · exact h.elim
  | cdic kvs =>
    cases y <;> first | exact h.elim | skip
    rename_i s
    unfold subI at h
    dsimp only at h
    split at h
    · rename_i d hd
      obtain ⟨a, rfl, rc⟩ := hx.cdic
      obtain ⟨v, kd, rp⟩ := getC_of rc hd
      exact .inr (.inl ⟨a, ⟨s.toArray⟩, v, rfl, hy.str, hG ▸ hw ▸ kd, h v H (.refl _ _) A.gl rp⟩)
    · exact h.elim
  | lst xs =>
    cases y <;> first | exact h.elim | skip
    rename_i i
    unfold subI ixD at h
    dsimp only at h
    split at h
    · rename_i d hd
      obtain ⟨p, vs, rfl, h1, rl⟩ := hx.lst
      obtain ⟨v, h2, rp⟩ := atI_rep rl hd
      exact .inr (.inr (.inl ⟨p, vs, i, v, rfl, hy.int, SqL.of h1, h2, h v H (.refl _ _) A.gl rp⟩))
    · exact h.elim
  | tup xs =>
    cases y <;> first | exact h.elim | skip
    rename_i i
    unfold subI ixD at h
    dsimp only at h
    split at h
    · rename_i d hd
      obtain ⟨p, vs, rfl, h1, rl⟩ := hx.tup
      obtain ⟨v, h2, rp⟩ := atI_rep rl hd
      exact .inr (.inr (.inr (.inl ⟨p, vs, i, v, rfl, hy.int, hG ▸ h1, h2, h v H (.refl _ _) A.gl rp⟩)))
    · exact h.elim
  | str s =>
    cases y <;> first | exact h.elim | skip
    rename_i i
    unfold subI ixD at h
    dsimp only at h
    split at h
    · rename_i hz
      split at h
      · rename_i c hc
        refine .inr (.inr (.inr (.inr ⟨_, i, c, hx.str, hy.int, by rw [sizeLine_eq]; simpa [Str.length] using hz, hc, ?_⟩)))
        exact h _ H (.refl _ _) A.gl (Rep.str_ (x := [c]))
      · exact h.elim
    · exact h.elim
  | non => cases y <;> exact h.elim
  | bl b => cases y <;> exact h.elim
  | int b => cases y <;> exact h.elim
  | ins c b => cases y <;> exact h.elim
  | dice => cases y <;> exact h.elim
  | fn b => cases y <;> exact h.elim
def negD : D → R D
  | .int i => .ok (.int (-i))
  | _ => .stuck
def isT (T : String) : D → R D
  | .str s => if T = "str" then .ok (.str s) else .stuck
  | .lst xs => if T = "list" then .ok (.lst xs) else .stuck
  | .dic xs => if T = "dict" then .ok (.dic xs) else .stuck
  | _ => .stuck
def TyW (K : PySem.W.Frag) (T : String) (x : V) (H : Hp) : Prop := tyV K T x H ∨ (T = "dict" ∧ ∃ p kvs, x = .ref p ∧ Rd H p (.dK kvs))
theorem tyW_is {pins : List (Addr × Obj)} {sg : L2.St} {H : Hp} {s : Shared} {T : String} {x : V} {v : Value} (I : Inv X pins sg H s) (r : RelV x v) (ty : TyW X.K T x H) :
    s.TypeIs v T ∧ ∀ a, v = .ref a → ∃ ob, s.heap.get? a = some ob ∧ ob.dict = none := by
  rcases ty with ty | ⟨rfl, p, kvs, rfl, hd⟩
  · exact tyV_is I r ty
  · cases r
    obtain ⟨_, _, vs, _, dd⟩ := dk_rd I.hok hd
    refine ⟨dd.typeIs, fun b q => ?_⟩
    cases q
    obtain ⟨ob, _, _, h1, h2, _⟩ := dd
    exact ⟨ob, h1, h2.2.1⟩
theorem isT_wp {T : String} {d : D} {Q : D → Prop} {E : Exc → Prop} (h : Wp (isT T d) Q E) : Q d ∧ ∀ (hG : G.K = X.K) {v : V}, RepP G dl H Z d v → TyW X.K T v H := by
  unfold isT at h
  split at h
  all_goals first | exact h.elim | skip
  all_goals split at h
  all_goals first | exact h.elim | skip
  all_goals rename_i e
  all_goals subst e
  all_goals refine ⟨h, fun hG v rp => ?_⟩
  · rw [rp.str]; exact .inl rfl
  · obtain ⟨a, vs, rfl, h1, _⟩ := rp.lst
    exact .inl (.inl ⟨rfl, vs, SqL.of h1⟩)
  · obtain ⟨a, kv, rfl, h1, _⟩ := rp.dic
    exact .inr ⟨rfl, a, kv, rfl, h1⟩
def tBMW (K : PySem.W.Frag) (T : String) (r : V → List V → Hp → VK → Prop) (to : TE) (t : TA) : TE := fun sg H Q => to sg H fun x H1 => TyW K T x H1 ∧ t sg H1 fun xs H2 => r x xs H2 Q
variable {o e : Expr} {to : TE} {t : TA} {name : Str} {apos cpos : Pos} {T id : String} {r : V → List V → Hp → VK → Prop}
theorem pe_bmw (pa : PlainAttrs T) (slot : PySem.Slot T name id) (hty : typeOf (.builtin id) = pure (.type "method_descriptor")) (hm : MtR X id r) (ho : PE X o to) (ha : PA X (e :: es) t)
    (hbase : attributeBase o name X.env (eval o X.env) = eval o X.env)
    (hfew : ((backTo cpos (starEach (e :: es) X.env)).all (fun x => !x.1) && (backToKw cpos (keywordEach [] X.env)).all (fun x => x.1.isSome)
      && decide ((e :: es).length + ([] : List Keyword).length + (if ([] : List Keyword).isEmpty then 0 else 1) < 30)) = true)
    (hline : (apos.endLine == cpos.line) = true) (hs : starEach (e :: es) X.env = (false, eval e X.env) :: starEach es X.env) (hplain : (backTo cpos (starEach es X.env)).any (·.1) = false) :
    PE X (.Call (.Attribute o name apos) (e :: es) [] cpos) (tBMW X.K T r to t) := by
  refine ⟨fun pins s sg H Q I h => ?_⟩
  refine wpAny_Call_method_late hbase hfew hline rfl (thn (ho.run pins s sg H _ I h) fun v s1 ⟨x, H1, I1, r1, ty, q1⟩ => ?_)
  obtain ⟨h1, h2⟩ := tyW_is I1 r1 ty
  refine ⟨T, id, pa, slot, hty, h1, h2, ?_⟩
  have hA := ha.run cpos pins s1 sg H1 _ I1 q1
  rw [hs] at hA ⊢
  refine Calls.callWith_builtin (by show (false || (backTo cpos (starEach es X.env)).any (·.1)) = false; rw [hplain] <;> rfl) (Calls.evalArgs_plain ?_)
  exact thn hA fun us s2 ⟨vs, H2, I2, r2, q2⟩ => hm pins s2 sg H2 x vs v us Q I2 r1 r2 q2
/-- a method of a built-in type -/
structure BmD (X : Cx) (G : Gm) (T : String) (m : Str) (g : D → List D → R D) : Prop where
  ex : ∃ (id : String) (rr : V → List V → Hp → VK → Prop), PySem.Slot T m id ∧ typeOf (.builtin id) = pure (.type "method_descriptor") ∧ MtR X id rr ∧
    ∀ (dl : Addr) (Z : List Addr) (O : List (Nat × Addr)) (r : LE) (sg : L2.St) (x : D) (vx : V) (ds : List D) (vs : List V) (H : Hp) (Q : VK) (E : Exc → Prop), At G dl Z O r sg H → RepP G dl H Z x vx → RepPL G dl H Z ds vs →
      Wp (g x ds) (fun d => ∀ v H', Grow dl H H' → GlOk G dl H' → Rep G dl (cut H' Z) d v → Q v H') E → rr vx vs H Q
  pa : PlainAttrs T
theorem de_bm {gg : D → List D → R D} (B : BmD X G T name gg) (hG : G.K = X.K) (ho : DP X G W o f) (ha : DAp X G W (e :: es) fs) (hbase : attributeBase o name X.env (eval o X.env) = eval o X.env := by rfl)
    (hfew : ((backTo cpos (starEach (e :: es) X.env)).all (fun x => !x.1) && (backToKw cpos (keywordEach [] X.env)).all (fun x => x.1.isSome)
      && decide ((e :: es).length + ([] : List Keyword).length + (if ([] : List Keyword).isEmpty then 0 else 1) < 30)) = true := by rfl)
    (hline : (apos.endLine == cpos.line) = true := by rfl) (hs : starEach (e :: es) X.env = (false, eval e X.env) :: starEach es X.env := by rfl) (hplain : (backTo cpos (starEach es X.env)).any (·.1) = false := by rfl) :
    DE X G W (.Call (.Attribute o name apos) (e :: es) [] cpos) (fun r => do let x ← f r; let x ← isT T x; let ds ← fs r; gg x ds) := by
  obtain ⟨⟨id, rr, slot, hty, hm, hc⟩, pa⟩ := B
  refine PE_imp (pe_bmw pa slot hty hm ho ha hbase hfew hline hs hplain) fun sg H Q ⟨dl, Z, O, r, A, q⟩ => ?_
  refine ⟨dl, Z, O, r, A, q.bind.thn fun x hx v H1 g1 k1 rp => ?_⟩
  obtain ⟨hx, ht⟩ := isT_wp (G := G) (X := X) (dl := dl) (H := H1) (Z := Z) hx.bind
  have A1 := A.grow g1 k1
  refine ⟨ht hG rp, dl, Z, O, r, A1, hx.bind.mono (fun ds hd vs H2 g2 k2 rl => ?_) fun e => epost g1⟩
  exact hc dl Z O r sg x v ds vs H2 Q _ (A1.grow g2 k2) (rp.grow A1 g2) rl (hd.thn fun d h w H' g' k' rp => h w H' ((g1.trans g2).trans g') k' rp)
def idxL (xs : List D) (y : D) : Option Nat := xs.findIdx? fun z => z.eqb y
def idxLs : D → List D → R D
  | .lst xs, [y] => if y.sh 62 && D.shs xs 62 then (match idxL xs y with
    | some j => .ok (.int (j : Nat))
    | none => .stuck) else .stuck
  | _, _ => .stuck
def txt? : D → Option (List Nat)
  | .str s => some s
  | _ => none
def idxTp : D → List D → R D
  | .tup xs, [.str y] => if xs.all (fun z => (txt? z).isSome) then (match idxL xs (.str y) with
    | some j => .ok (.int (j : Nat))
    | none => .stuck) else .stuck
  | _, _ => .stuck
theorem idxL_some {xs : List D} {y : D} {j : Nat} (h : idxL xs y = some j) : ∃ z, xs[j]? = some z ∧ z.eqb y = true ∧ ∀ m z', m < j → xs[m]? = some z' → z'.eqb y = false := by
  unfold idxL at h
  rw [List.findIdx?_eq_some_iff_getElem] at h
  obtain ⟨hj, h1, h2⟩ := h
  refine ⟨xs[j], List.getElem?_eq_getElem hj, h1, fun m z' hm e => ?_⟩
  obtain ⟨hm', e2⟩ := List.getElem?_eq_some_iff.mp e
  have := h2 m hm
  rw [e2] at this
  simpa using this
theorem shs_get : ∀ {xs : List D} {n j : Nat} {z : D}, D.shs xs n = true → xs[j]? = some z → z.sh n = true
  | [], n, j, z, _, e => by simp at e
  | x :: xs, n, 0, z, h, e => by
    simp only [D.shs, Bool.and_eq_true] at h
    simp at e
    exact e ▸ h.1
  | x :: xs, n, j + 1, z, h, e => by
    simp only [D.shs, Bool.and_eq_true] at h
    exact shs_get h.2 (by simpa using e)
theorem bm_index_list (hG : G.K = X.K) (hu : X.A.units + 70 < cLine) : BmD X G "list" "index" idxLs := by
  refine ⟨⟨_, _, PySem.F.slot_list_index, PySem.F.type_list_index, mt_indexD (by omega), ?_⟩, PySem.F.plainAttrs_list⟩
  intro dl Z O r sg x vx ds vs H Q E A hx hds h
  unfold idxLs at h
  split at h
  · split at h
    · rename_i xs y hc
      rw [Bool.and_eq_true] at hc
      split at h
      · rename_i j hj
        obtain ⟨z, h1, h2, h3⟩ := idxL_some hj
        obtain ⟨v, rfl, hy⟩ := hds.one
        obtain ⟨a, us, rfl, hl, rl⟩ := hx.lst
        have hz := shs_get hc.2 h1
        have dd : Dp X.K H (.ref a) (PyData.list (D.toPs xs)) := hG ▸ (RepP.dp (d := .lst xs) (n := 63) (by simpa [D.sh] using hc.2) hx)
        refine ⟨a, v, y.toP, D.toPs xs, j, z.toP, rfl, rfl, dd, hG ▸ hy.dp hc.1, sh_shaped (d := .lst xs) (by simpa [D.sh] using shs_mono _ _ 63 (by decide) hc.2), sh_shaped (sh_mono _ _ _ (by decide) hc.1), by rw [toPs_map, List.getElem?_map, h1]; rfl, by rw [eqb_eqv z y 62 62 hz hc.1]; exact h2, fun m z' hm e => ?_, h _ H (.refl _ _) A.gl Rep.int_⟩
        rw [toPs_map, List.getElem?_map] at e
        cases e2 : xs[m]? with
        | none => rw [e2] at e; cases e
        | some w =>
          rw [e2] at e
          cases e
          rw [eqb_eqv w y 62 62 (shs_get hc.2 e2) hc.1]
          exact h3 m w hm e2
      · exact h.elim
    · exact h.elim
  · exact h.elim
theorem RepL.strs : ∀ {xs : List D} {vs : List V}, RepL G dl S xs vs → xs.all (fun z => (txt? z).isSome) = true → ∃ ys : List (List Nat), xs = ys.map D.str ∧ vs = (ys.map fun y => (⟨y.toArray⟩ : Str)).map V.str
  | [], vs, h, _ => by unfold RepL at h; exact ⟨[], rfl, h⟩
  | x :: xs, vs, h, e => by
    unfold RepL at h
    obtain ⟨v, r, rfl, h1, h2⟩ := h
    rw [List.all_cons, Bool.and_eq_true] at e
    obtain ⟨ys, rfl, rfl⟩ := RepL.strs h2 e.2
    cases x <;> simp [txt?] at e
    rename_i s
    unfold Rep at h1
    exact ⟨s :: ys, rfl, by rw [h1]; rfl⟩
theorem strq {a b : List Nat} : (⟨a.toArray⟩ : Str) = ⟨b.toArray⟩ ↔ a = b := by
  constructor
  · intro h
    simpa using h
  · rintro rfl; rfl
theorem bm_index_tuple (hG : G.K = X.K) : BmD X G "tuple" "index" idxTp := by
  refine ⟨⟨_, _, PySem.F.slot_tuple_index, PySem.F.type_tuple_index, mt_tup_index, ?_⟩, PySem.F.plainAttrs_tuple⟩
  intro dl Z O r sg x vx ds vs H Q E A hx hds h
  unfold idxTp at h
  split at h
  · split at h
    · rename_i xs y hc
      split at h
      · rename_i j hj
        obtain ⟨z, h1, h2, h3⟩ := idxL_some hj
        obtain ⟨v, rfl, hy⟩ := hds.one
        obtain ⟨a, us, rfl, hl, rl⟩ := hx.tup
        obtain ⟨ys, rfl, rfl⟩ := rl.strs hc
        rw [List.getElem?_map] at h1
        cases e1 : ys[j]? with
        | none => rw [e1] at h1; cases h1
        | some z0 =>
          rw [e1] at h1
          cases h1
          have e0 : z0 = y := by simpa [D.eqb] using h2
          refine ⟨a, ys.map fun y => ⟨y.toArray⟩, ⟨y.toArray⟩, j, rfl, by rw [hy.str], hG ▸ hl, by rw [List.getElem?_map, e1, e0]; rfl, fun m hm e => ?_, h _ H (.refl _ _) A.gl Rep.int_⟩
          rw [List.getElem?_map] at e
          cases e2 : ys[m]? with
          | none => rw [e2] at e; cases e
          | some w =>
            rw [e2] at e
            have e3 : w = y := strq.mp (Option.some.inj e)
            have := h3 m (.str w) hm (by rw [List.getElem?_map, e2]; rfl)
            rw [e3] at this
            simp [D.eqb] at this
      · exact h.elim
    · exact h.elim
  · exact h.elim
end
end DL
set_option Elab.async false
set_option linter.all false
set_option maxRecDepth 100000
namespace DL
open PySem L2 PySem.Spec PyProof.Rows
section
variable {X : Cx} {G : Gm} {W : WX} {ex a b o e : Expr} {es : List Expr} {f g : LE → R D} {fs : LE → R (List D)} {pos p apos cpos : Pos} {dl : Addr} {S H : Hp} {Z : List Addr} {name x : Str}
def KTup (X : Cx) (p : Addr) : Prop := ∃ o, X.K.lookup p = some o ∧ o.cls = .type "tuple" ∧ o.dict = none
theorem de_kbm {gg : D → List D → R D} {pa : Addr} {d : D} (B : BmD X G "tuple" name gg) (hm : X.mg x = some (.ref pa)) (kt : KTup X pa) (rp : ∀ dl S, Rep G dl S d (.ref pa)) (ha : DAp X G W (e :: es) fs) (hg : Gl X x := by rfl) (hd : (x == ("__debug__" : Str)) = false := by decide)
    (hbase : attributeBase (.Name x pos) name X.env (eval (.Name x pos) X.env) = eval (.Name x pos) X.env := by rfl)
    (hfew : ((backTo cpos (starEach (e :: es) X.env)).all (fun x => !x.1) && (backToKw cpos (keywordEach [] X.env)).all (fun x => x.1.isSome)
      && decide ((e :: es).length + ([] : List Keyword).length + (if ([] : List Keyword).isEmpty then 0 else 1) < 30)) = true := by rfl)
    (hline : (apos.endLine == cpos.line) = true := by rfl) (hs : starEach (e :: es) X.env = (false, eval e X.env) :: starEach es X.env := by rfl) (hplain : (backTo cpos (starEach es X.env)).any (·.1) = false := by rfl) :
    DE X G W (.Call (.Attribute (.Name x pos) name apos) (e :: es) [] cpos) (fun r => do let ds ← fs r; gg d ds) := by
  obtain ⟨⟨id, rr, slot, hty, hm', hc⟩, pa'⟩ := B
  have rv : RelV (.ref pa) (.ref pa) := rfl
  refine PE_imp (pe_bmw pa' slot hty hm' (pe_glob hg hm rv hd) ha hbase hfew hline hs hplain) fun sg H Q ⟨dl, Z, O, r, A, q⟩ => ?_
  refine ⟨.inl (.inr (.inl ⟨rfl, kt⟩)), dl, Z, O, r, A, q.bind.thn fun ds hd vs H1 g1 k1 rl => ?_⟩
  exact hc dl Z O r sg d (.ref pa) ds vs H1 Q _ (A.grow g1 k1) (.of (rp dl _)) rl (hd.thn fun d h w H' g' k' rp => h w H' (g1.trans g') k' rp)
theorem key_inj {a b : D} {x y : Key} (h1 : a.key = some x) (h2 : b.key = some y) : a.keq b = true ↔ x = y := by
  rw [keq_key h1 h2]; simp
theorem RepK.any : ∀ {kvs : List (D × D)} {kv : List (Key × V)} {k : D} {x : Key}, RepK G dl S kvs kv → k.key = some x → (kvs.any fun p => p.1.keq k) = (kv.any fun p => decide (p.1 = x))
  | [], kv, k, x, h, hk => by unfold RepK at h; subst h; rfl
  | (k', d) :: kvs, kv, k, x, h, hk => by
    unfold RepK at h
    obtain ⟨y, v, r, rfl, hk', rp, h2⟩ := h
    rw [List.any_cons, List.any_cons, keq_key hk' hk, RepK.any h2 hk]
theorem RepK.map : ∀ {kvs : List (D × D)} {kv : List (Key × V)} {k d : D} {x : Key} {v : V}, RepK G dl S kvs kv → k.key = some x → Rep G dl S d v →
    RepK G dl S (kvs.map fun p => if p.1.keq k then (p.1, d) else p) (kv.map fun p => if p.1 = x then (p.1, v) else p)
  | [], kv, k, d, x, v, h, hk, rv => by unfold RepK at h; subst h; unfold RepK; rfl
  | (k', d') :: kvs, kv, k, d, x, v, h, hk, rv => by
    unfold RepK at h
    obtain ⟨y, u, r, rfl, hk', rp, h2⟩ := h
    have q := RepK.map (v := v) (d := d) h2 hk rv
    rw [List.map_cons, List.map_cons]
    by_cases e : y = x
    · rw [if_pos ((key_inj hk' hk).mpr e), if_pos e]
      unfold RepK
      exact ⟨y, v, _, rfl, hk', rv, q⟩
    · rw [if_neg fun z => e ((key_inj hk' hk).mp z), if_neg e]
      unfold RepK
      exact ⟨y, u, _, rfl, hk', rp, q⟩
theorem RepK.app : ∀ {kvs : List (D × D)} {kv : List (Key × V)} {k d : D} {x : Key} {v : V}, RepK G dl S kvs kv → k.key = some x → Rep G dl S d v → RepK G dl S (kvs ++ [(k, d)]) (kv ++ [(x, v)])
  | [], kv, k, d, x, v, h, hk, rv => by
    unfold RepK at h
    subst h
    unfold RepK
    exact ⟨x, v, [], rfl, hk, rv, by unfold RepK; rfl⟩
  | (k', d') :: kvs, kv, k, d, x, v, h, hk, rv => by
    unfold RepK at h
    obtain ⟨y, u, r, rfl, hk', rp, h2⟩ := h
    rw [List.cons_append]
    unfold RepK
    exact ⟨y, u, r ++ [(x, v)], rfl, hk', rp, RepK.app h2 hk rv⟩
theorem RepK.put {kvs : List (D × D)} {kv : List (Key × V)} {k d : D} {x : Key} {v : V} (h : RepK G dl S kvs kv) (hk : k.key = some x) (rv : Rep G dl S d v) : RepK G dl S (putD kvs k d) (putK kv x v) := by
  unfold putD putK
  rw [RepK.any h hk]
  by_cases c : (kv.any fun p => decide (p.1 = x)) = true
  · rw [if_pos c, if_pos c]
    exact h.map hk rv
  · rw [if_neg c, if_neg c]
    exact h.app hk rv
theorem RepK.length : ∀ {kvs : List (D × D)} {kv : List (Key × V)}, RepK G dl S kvs kv → kv.length = kvs.length
  | [], kv, h => by unfold RepK at h; subst h; rfl
  | (k', d') :: kvs, kv, h => by
    unfold RepK at h
    obtain ⟨y, u, r, rfl, _, _, h2⟩ := h
    rw [List.length_cons, List.length_cons, RepK.length h2]
/-- the pairs of a display -/
inductive DPs (X : Cx) (G : Gm) (W : WX) (pos : Pos) : List (Option Expr) → List Expr → List ((LE → R D) × (LE → R D)) → Prop
  | nil : DPs X G W pos [] [] []
  | cons {k v : Expr} {ks : List (Option Expr)} {vs : List Expr} {f g : LE → R D} {fs : List ((LE → R D) × (LE → R D))} (hk : DE X G W k f) (hv : DE X G W v g) (h : DPs X G W pos ks vs fs) : DPs X G W pos (some k :: ks) (v :: vs) ((f, g) :: fs)
def prs : List ((LE → R D) × (LE → R D)) → LE → R (List (D × D))
  | [], _ => .ok []
  | (f, g) :: fs, r => do
    let k ← f r
    let v ← g r
    let t ← prs fs r
    if k.key1 then .ok ((k, v) :: t) else .stuck
def mergeD (kvs more : List (D × D)) : List (D × D) := more.foldl (fun acc p => putD acc p.1 p.2) kvs
theorem RepK_merge : ∀ (more : List (D × D)) {mv : List (Key × V)} {kvs : List (D × D)} {kv : List (Key × V)}, RepK G dl S more mv → RepK G dl S kvs kv → RepK G dl S (mergeD kvs more) (mergeK kv mv)
  | [], mv, kvs, kv, h, h2 => by unfold RepK at h; subst h; exact h2
  | (k, d) :: more, mv, kvs, kv, h, h2 => by
    unfold RepK at h
    obtain ⟨y, u, r, rfl, hk, rp, h3⟩ := h
    have z := RepK_merge more h3 (h2.put hk rp)
    exact z
def trsOf (G : Gm) (W : WX) : List ((LE → R D) × (LE → R D)) → List (TE × TE)
  | [] => []
  | (f, g) :: fs => (tD G W f, tD G W g) :: trsOf G W fs
theorem DPs.pps {ks : List (Option Expr)} {vs : List Expr} {fs : List ((LE → R D) × (LE → R D))} (h : DPs X G W pos ks vs fs) : PPs X pos ks vs (trsOf G W fs) := by
  induction h with
  | nil => exact pps_nil
  | cons hk hv h ih => exact pps_cons hk hv ih
theorem pairs_core : ∀ {fs : List ((LE → R D) × (LE → R D))} {dl : Addr} {Z : List Addr} {O : List (Nat × Addr)} {r : LE} {sg : L2.St} {H : Hp} {Q : List (V × V) → Hp → Prop} (A : At G dl Z O r sg H),
    Wp (prs fs r) (fun ds => ∀ kv H', Grow dl H H' → GlOk G dl H' → RepK G dl (cut H' Z) ds kv → Q (kv.map fun p => (kV p.1, p.2)) H')
      (fun e => ∀ cls dx H', Grow dl H H' → GlOk G dl H' → XRep G dl (cut H' Z) e cls dx H' → W cls dx sg H') → tPairs (trsOf G W fs) sg H Q
  | [], dl, Z, O, r, sg, H, Q, A, q => q [] H (.refl _ _) A.gl (by unfold RepK; rfl)
  | (f, g) :: fs, dl, Z, O, r, sg, H, Q, A, q => by
    refine ⟨dl, Z, O, r, A, q.bind.thn fun k hk v H1 g1 k1 rk => ?_⟩
    have A1 := A.grow g1 k1
    refine ⟨dl, Z, O, r, A1, hk.bind.mono (fun d hd u H2 g2 k2 rd => ?_) fun e => epost g1⟩
    have A2 := A1.grow g2 k2
    refine pairs_core A2 (hd.bind.mono (fun ds hds kv H3 g3 k3 rl => ?_) fun e => epost (g1.trans g2))
    split at hds
    · rename_i hk1
      obtain ⟨x, hx⟩ := key1_key hk1
      have rk3 := rk.mono ((g2.trans g3).cut A.dz)
      have e := key_kV hx (.of rk3)
      subst e
      refine hds ((x, u) :: kv) H3 ((g1.trans g2).trans g3) k3 ?_
      unfold RepK
      exact ⟨x, u, kv, rfl, hx, rd.mono (g3.cut A.dz), rl⟩
    · exact hds.elim
def dispE (fs : List ((LE → R D) × (LE → R D))) : LE → R D := fun r => do
  let ps ← prs fs r
  .ok (.dic (mergeD [] ps))
theorem prs_len : ∀ {fs : List ((LE → R D) × (LE → R D))} {r : LE} {Q : List (D × D) → Prop} {E : Exc → Prop}, Wp (prs fs r) Q E → Wp (prs fs r) (fun ps => Q ps ∧ ps.length = fs.length) E
  | [], r, Q, E, h => ⟨h, rfl⟩
  | (f, g) :: fs, r, Q, E, h => by
    refine Wp.of_bind (h.bind.thn fun k hk => Wp.of_bind (hk.bind.thn fun v hv => Wp.of_bind ((prs_len hv.bind).thn fun t ht => ?_)))
    obtain ⟨ht, hl⟩ := ht
    split at ht
    · rename_i c
      rw [if_pos c]
      exact ⟨ht, by rw [List.length_cons, List.length_cons, hl]⟩
    · exact ht.elim
theorem DPs.len {ks : List (Option Expr)} {vs : List Expr} {fs : List ((LE → R D) × (LE → R D))} (h : DPs X G W pos ks vs fs) : fs.length = ks.length := by
  induction h with
  | nil => rfl
  | cons _ _ _ ih => rw [List.length_cons, List.length_cons, ih]
theorem de_disp {ks : List (Option Expr)} {vs : List Expr} {fs : List ((LE → R D) × (LE → R D))} (h : DPs X G W pos ks vs fs) (hall : ks.all (·.isSome) = true := by rfl) (hl : ks.length = vs.length := by rfl) (h0 : ks ≠ [] := by exact nofun) (h15 : ks.length ≤ 15 := by decide) :
    DE X G W (.Dict ks vs pos) (dispE fs) := by
  refine PE_imp (pe_disp h.pps hall hl h0 h15) fun sg H Q ⟨dl, Z, O, r, A, q⟩ p hp => ?_
  have nt : ∀ ps, (HO.dK []) ≠ .tbl ps := fun ps z => by cases z
  have B := A.aside hp nt
  have g0 : Grow dl H (upd H p (.dK [])) := .new hp
  refine pairs_core B ((prs_len q.bind).mono (fun ds hd kv H2 g2 k2 rk => ?_) fun e he cls dx H' g k xr => he cls dx H' (g0.trans g) k (xr.mono (cut_sub fun a ha => List.mem_cons_of_mem _ ha)))
  obtain ⟨hd, hlen⟩ := hd
  have hpd : p ≠ dl := A.out hp |> fun z e => z (e ▸ A.dz)
  have hz : p ∉ Z := A.out hp
  refine ⟨g2 p _ upd_same hpd nt, kv, rfl, by rw [rk.length, hlen, h.len]; exact h15, ?_⟩
  have hgr : Grow dl H (upd H2 p (.dK (mergeK [] kv))) := fun a u e n nt => by
    rw [upd_ne (ne_of_none e hp)]
    exact g2 a u (by rw [upd_ne (ne_of_none e hp)]; exact e) n nt
  have kgl : GlOk G dl (upd H2 p (.dK (mergeK [] kv))) := by
    have h2p : H2 p = some (.dK []) := g2 p _ upd_same hpd nt
    obtain ⟨x, y, z, hdl⟩ := k2.dice
    refine ⟨⟨x, y, z, by rw [upd_ne (fun e => hpd e.symm)]; exact hdl⟩, ?_⟩
    intro q hq
    obtain ⟨ps, h1, h2, h3⟩ := k2.tab q hq
    refine ⟨ps, ?_, h2, fun pos cv hc => ?_⟩
    · rw [upd_ne fun e => by rw [e, h2p] at h1; cases h1]; exact h1
    · obtain ⟨c, e1, e2⟩ := h3 pos cv hc
      exact ⟨c, e1, by rw [upd_ne fun e => by rw [e, h2p] at e2; cases e2]; exact e2⟩
  refine hd (.ref p) _ hgr kgl ?_
  have hcut : GrowS (cut H2 (p :: Z)) (cut (upd H2 p (.dK (mergeK [] kv))) Z) := fun a u e n => by
    obtain ⟨e1, e2⟩ := cut_some e
    rw [cut_out fun z => e1 (List.mem_cons_of_mem _ z), upd_ne fun z => e1 (by rw [z]; exact List.mem_cons_self)]
    exact e2
  unfold Rep
  refine ⟨p, mergeK [] kv, rfl, .inl (by rw [cut_out hz]; exact upd_same), ?_⟩
  exact RepK_merge _ (RepK.mono hcut _ rk) (by unfold RepK; rfl)
end
end DL
set_option Elab.async false
set_option linter.all false
set_option maxRecDepth 100000
namespace DL
open PySem L2 PySem.Spec PyProof.Rows
/-- _law_roll -/
def rollD : List D → R D
  | [.dice, .int m] => if 0 < m ∧ m < 1000000000 then .roll m.toNat (fun i => .ok (.int (i : Nat))) else .stuck
  | _ => .stuck
theorem rollD_len : ∀ ds Q E, Wp (rollD ds) Q E → ds.length = 2 := fun ds Q E h => by
  unfold rollD at h
  split at h
  · rfl
  · exact h.elim
/-- what a roll is asked: any number below m may come -/
theorem roll_of {G : Gm} {dl : Addr} {Z : List Addr} {ds : List D} {vs : List V} {H : Hp} {Q : VK} {E : XK} (gl : GlOk G dl H) (dz : dl ∈ Z) (rl : RepL G dl (cut H Z) ds vs)
    (h : Wp (rollD ds) (fun d => ∀ v H', Grow dl H H' → GlOk G dl H' → Rep G dl (cut H' Z) d v → Q v H') (fun e => ∀ cls dx H', Grow dl H H' → GlOk G dl H' → XRep G dl (cut H' Z) e cls dx H' → E cls dx H')) :
    ∃ (m x y z : Int), vs = [.ref dl, .int m] ∧ 0 < m ∧ m < 1000000000 ∧ H dl = some (.lst [.int x, .int y, .int z]) ∧ ∀ (r : Int) (H' : Hp), 0 ≤ r → r < m → (∃ a b c : Int, H' = upd H dl (.lst [.int a, .int b, .int c])) → Q (.int r) H' := by
  unfold rollD at h
  split at h
  · rename_i m
    split at h
    · rename_i hm
      obtain ⟨x, y, z, hd⟩ := gl.dice
      unfold RepL at rl
      obtain ⟨v1, r1, rfl, h1, rl⟩ := rl
      unfold RepL at rl
      obtain ⟨v2, r2, rfl, h2, rl⟩ := rl
      unfold RepL at rl
      subst rl
      unfold Rep at h1 h2
      subst h1 h2
      refine ⟨m, x, y, z, rfl, hm.1, hm.2, hd, fun r H' h0 h1 ⟨a, b, c, e⟩ => ?_⟩
      subst e
      have e : r = ((r.toNat : Nat) : Int) := by omega
      rw [e]
      refine h r.toNat (by omega) _ _ (fun p o hp n nt => by rw [upd_ne n]; exact hp) ⟨⟨a, b, c, upd_same⟩, fun q hq => ?_⟩ Rep.int_
      obtain ⟨ps, h1, h2, h3⟩ := gl.tab q hq
      refine ⟨ps, ?_, h2, fun pos cv hc => ?_⟩
      · rw [upd_ne fun e => by rw [e, hd] at h1; cases h1]; exact h1
      · obtain ⟨c, e1, e2⟩ := h3 pos cv hc
        exact ⟨c, e1, by rw [upd_ne fun e => by rw [e, hd] at e2; cases e2]; exact e2⟩
    · exact h.elim
  · exact h.elim
/-- a new dice -/
def spDice : Sp := fun vs H Q _ => ∃ c : Int, vs = [.int c] ∧ ∀ p (x y z : Int), H p = none → Q (.ref p) (upd H p (.lst [.int x, .int y, .int z]))
/-- one round's dice -/
def spRounds (K : PySem.W.Frag) : Sp := fun vs H Q _ => ∃ (a : Addr) (ns : List Int), vs = [.ref a, .int 1] ∧ SqL K H a (ns.map V.int) ∧
  ∀ (H' : Hp) (l d : Addr) (x y z : Int), (∀ b o, H b = some o → H' b = some o) → l ≠ d → H' l = some (.lst [.ref d]) → H' d = some (.lst [.int x, .int y, .int z]) → Q (.ref l) H'
/-- what is asked of the law -/
def spLaw (K : PySem.W.Frag) (T : List (Addr × Str)) : Sp := fun vs H Q _ => ∃ (a : Addr) (ns : List Int), vs = [.ref a] ∧ SqL K H a (ns.map V.int) ∧ (∀ p ∈ T, H p.1 = some (.tbl #[])) ∧ ∀ H', Q (.bl true) H'
/-- the slots when the round begins -/
def r0 (m : Nat) : LE := .un :: .val .dice :: List.replicate (m - 2) .un
theorem law_core {G : Gm} {W : WX} {N : List Str} {F : LE → R Out} {m : Nat} {a : Addr} {ns : List Int} {H : Hp} {Q : VK} {E : L2.St → XK} {nx0 : L2.St → Hp → Prop} (hm : N.length = m) (h2 : 2 ≤ m) (hS : SqL G.K H a (ns.map V.int)) (hT : ∀ p ∈ G.tabs, H p.1 = some (.tbl #[])) (k : ∀ H', Q (.bl true) H')
    (hF : Wp (F (r0 m)) (fun o => ∃ r, o = .nx r ∨ o = .ct r) (fun _ => False)) :
    tSeq (tFor (iList G.K (tCallS (spRounds G.K) E (tCons (tVar 0) (tCons (tC (.int 1)) tNil)))) (gName 1) (tS G W F)) (tRet (tC (.bl true))) { nx := nx0, rt := Q } (L2.start N [.ref a]) H := by
  obtain ⟨b0, b1, N', rfl⟩ : ∃ b0 b1 N', N = b0 :: b1 :: N' := by
    match N, hm with
    | b0 :: b1 :: N', _ => exact ⟨b0, b1, N', rfl⟩
    | [_], hm => simp at hm; omega
    | [], hm => simp at hm; omega
  refine ⟨_, rfl, a, ns, rfl, hS, fun H1 l d x y z e1 nld hl hd => ⟨l, rfl, ⟨_, SqL.of hl⟩, ?_⟩⟩
  refine for_list (K := G.K) (a := l) (xs := [V.ref d]) (fun i sg H' => H' l = some (.lst [.ref d]) ∧ (i = 0 → sg = L2.start (b0 :: b1 :: N') [.ref a] ∧ H' = H1)) ⟨hl, fun _ => ⟨rfl, rfl⟩⟩ (fun i sg H' _ p => SqL.of p.1) (fun i v sg H' hi p => ?_) (fun sg H' p => k _)
  obtain ⟨p1, p2⟩ := p
  cases i with
  | succ i => simp at hi
  | zero =>
    cases hi
    obtain ⟨rfl, rfl⟩ := p2 rfl
    refine ⟨d, [d], [], r0 m, ?_, hF.mono (fun o ho => ?_) fun _ z => z⟩
    · refine ⟨⟨⟨x, y, z, hd⟩, fun p hp => LamX.TabS.nil (e1 _ _ (hT p hp))⟩, List.mem_singleton.mpr rfl, fun b hb => ?_, fun p hp => (by cases hp), fun p hp => (by cases hp), ?_, fun j c e => ?_⟩
      · rw [List.mem_singleton] at hb
        subst hb
        exact ⟨_, hd, fun ps z => by cases z⟩
      · simp [r0, L2.start] at hm ⊢
        omega
      · match j, e with
        | 0, e => cases e; trivial
        | 1, e =>
          cases e
          exact ⟨.ref d, rfl, by unfold Rep; rfl⟩
        | j + 2, e =>
          have e' : (List.replicate (m - 2) Cell.un)[j]? = some c := e
          rw [List.getElem?_replicate] at e'
          split at e'
          · cases e'; trivial
          · cases e'
    · have keep : ∀ {Z' O' H2}, Stp d [d] [] H' Z' O' H2 → H2 l = some (.lst [.ref d]) := fun s => s.fr l _ p1 nld (fun p hp => by cases hp) fun ps z => by cases z
      obtain ⟨r, rfl | rfl⟩ := ho
      · exact fun Z' O' sg' H2 s A => ⟨keep s, fun h => by cases h⟩
      · exact fun Z' O' sg' H2 s A => ⟨keep s, fun h => by cases h⟩
end DL
set_option Elab.async false
set_option linter.all false
set_option maxRecDepth 100000
namespace DL
open PySem L2 LamX PySem.Spec PyProof.Rows
section
variable {P : Program} {w : World} {K : PySem.W.Frag} {mg : Str → Option Value} {base : Heap} {G : Gm} {x qual : Str} {st : Stmt} {f : Addr} {fd : FuncData} {N ps : List Str} {k n m c nf : Nat} {F : LE → R Out}
structure FunE (K : PySem.W.Frag) (x qual : Str) (st : Stmt) (f : Addr) (ps : List Str) : Prop where
  ex : ∃ fd : FuncData, L2.Fun K x qual st f fd ∧ L2.Binds K fd ps []
/-- its code object stands at c -/
structure FunC (K : PySem.W.Frag) (x qual : Str) (st : Stmt) (f c : Addr) (ps : List Str) : Prop where
  ex : ∃ (oc : Value) (od : Option Addr) (kV doc pm : Value) (an : Option Addr) (ct : Value) (osl : Array (Option Value)),
    K.lookup f = some ⟨oc, od, .func (PySem.W.fnOf x qual (defArgs st) (defBody st) (defScope st) .none kV doc pm an (.ref c) ct), osl⟩ ∧
    ∀ us : List Value, us.length = ps.length → bindArgs (PySem.W.fnOf x qual (defArgs st) (defBody st) (defScope st) .none kV doc pm an (.ref c) ct) ⟨us, []⟩ = pure (ps.zip us)
  cd : PySem.W.codeIn K (.ref c) qual = true
  kp : PySem.W.keepIn K (.ref f) = true
theorem funE_of {oc : Value} {od an : Option Addr} {osl : Array (Option Value)} {kV doc pm cdv ct : Value} (l : K.lookup f = some ⟨oc, od, .func (PySem.W.fnOf x qual (defArgs st) (defBody st) (defScope st) .none kV doc pm an cdv ct), osl⟩) (c : PySem.W.codeIn K cdv qual = true) (kp : PySem.W.keepIn K (.ref f) = true)
    (h : ∀ us : List Value, us.length = ps.length → bindArgs (PySem.W.fnOf x qual (defArgs st) (defBody st) (defScope st) .none kV doc pm an cdv ct) ⟨us, []⟩ = pure (ps.zip us)) : FunE K x qual st f ps := ⟨_, L2.fun_mk l c kp, .all h⟩
theorem funC_of {c : Addr} {oc : Value} {od an : Option Addr} {osl : Array (Option Value)} {kV doc pm ct : Value} (l : K.lookup f = some ⟨oc, od, .func (PySem.W.fnOf x qual (defArgs st) (defBody st) (defScope st) .none kV doc pm an (.ref c) ct), osl⟩) (cd : PySem.W.codeIn K (.ref c) qual = true) (kp : PySem.W.keepIn K (.ref f) = true)
    (h : ∀ us : List Value, us.length = ps.length → bindArgs (PySem.W.fnOf x qual (defArgs st) (defBody st) (defScope st) .none kV doc pm an (.ref c) ct) ⟨us, []⟩ = pure (ps.zip us)) : FunC K x qual st f c ps := ⟨⟨oc, od, kV, doc, pm, an, ct, osl, l, h⟩, cd, kp⟩
theorem fn_read (S : FnScope N ps (defScope st)) (hn : ps.length = n) (hm : N.length = m) {vs : List V} {H : Hp} {Q : VK} {E : XK} (h : spD G n (runF n m F) vs H Q E) :
    tS G (WD E) F { nx := fun _ H' => Q .non H', rt := Q } (L2.start N vs) H := by
  obtain ⟨hl, dl, Z, ds, gl, dz, live, rl, hw⟩ := h
  unfold runF at hw
  split at hw
  case isFalse => exact hw.elim
  rename_i hdl
  have hpl : ps.length ≤ N.length := by have := congrArg List.length S.pre; rw [List.length_take] at this; omega
  have A0 : At G dl Z [] (ds.map Cell.val ++ List.replicate (m - n) Cell.un) (L2.start N vs) H := by
    refine ⟨gl, dz, live, fun p hp => (by cases hp), fun p hp => (by cases hp), ?_, start_get rl hl hm⟩
    unfold L2.start
    rw [List.length_append, List.length_map, List.length_replicate, List.length_append, List.length_map, List.length_replicate]
    omega
  have gr : ∀ {Z' O' H'}, Stp dl Z [] H Z' O' H' → Grow dl H H' := fun s a o e n nt => s.fr a o e n (fun p hp => (by cases hp)) nt
  have gz : ∀ {Z' O' H'}, Stp dl Z [] H Z' O' H' → GrowS (cut H' Z') (cut H' Z) := fun s => cut_sub fun a ha => s.zk a ha fun p hp => (by cases hp)
  refine ⟨dl, Z, [], _, A0, (calm_wp hw.bind).thn fun o ho => ?_⟩
  cases o with
  | nx r => exact fun Z' O' sg' H' s A' => ho _ _ (gr s) A'.gl Rep.non_
  | rt d => exact fun Z' O' v H' s g rp => ho _ _ (gr s) g (rp.mono (gz s))
  | ex e r => exact fun Z' O' sg' H' cls dx s A' xr => ho cls dx H' (gr s) A'.gl (xr.mono (gz s))
  | bk r => exact ho.elim
  | ct r => exact ho.elim
theorem fnD_E (Fn : FunE K x qual st f ps) (S : FnScope N ps (defScope st)) (hx : mg x = some (.ref f)) (hn : ps.length = n) (hm : N.length = m)
    (hb : ∀ cdv A outer s H E, Room k (A.deeper (envOfC qual (defScope st) s.heap.objs.size f cdv)) → DSs (cxD P w K mg base N qual st f cdv A outer s H E) G (WD E) (defBody st) F) :
    FnD P w K mg base G (k + 1) x f n (runF n m F) := by
  obtain ⟨fd, Fn, bd⟩ := Fn
  exact fnD_of Fn S bd hx hn hm hb
theorem fnD_C {c : Addr} (Fn : FunC K x qual st f c ps) (S : FnScope N ps (defScope st)) (hx : mg x = some (.ref f)) (hn : ps.length = n) (hm : N.length = m)
    (hb : ∀ A outer s H E, Room k (A.deeper (envOfC qual (defScope st) s.heap.objs.size f (.ref c))) → DSs (cxD P w K mg base N qual st f (.ref c) A outer s H E) G (WD E) (defBody st) F) :
    FnD P w K mg base G (k + 1) x f n (runF n m F) := by
  obtain ⟨⟨oc, od, kV, doc, pm, an, ct, osl, lk, bd⟩, cd, kp⟩ := Fn
  exact ⟨⟨_, ps, hn, fn_of lk cd S (fun vs H Q E h => by rw [hn]; exact h.1) fun A outer s H vs Q E hr h => ⟨_, hb A outer s H E hr, fn_read S hn hm h⟩, .all bd⟩, runF_len, kp, hx⟩
theorem meD_E (Fn : FunE K x qual st f ps) (S : FnScope N ps (defScope st)) (mt : Meth K (G.cls c) x f) (cl : Cls K (G.cls c)) (nf : x ∉ G.flds c) (hn : ps.length = n) (hm : N.length = m)
    (hb : ∀ cdv A outer s H E, Room k (A.deeper (envOfC qual (defScope st) s.heap.objs.size f cdv)) → DSs (cxD P w K mg base N qual st f cdv A outer s H E) G (WD E) (defBody st) F) :
    MeD P w K mg base G (k + 1) c x n (runF n m F) := by
  obtain ⟨fd, Fn, bd⟩ := Fn
  exact meD_of Fn S bd mt cl nf hn hm hb
theorem mkD_E (Fn : FunE K "__init__" qual st f ps) (S : FnScope N ps (defScope st)) (mk : Mk K (G.cls c) f) (hx : mg x = some (.ref (G.cls c))) (hn : ps.length = n + 1) (hm : N.length = m) (hf : (G.flds c).length = nf)
    (hb : ∀ cdv A outer s H E, Room k (A.deeper (envOfC qual (defScope st) s.heap.objs.size f cdv)) → DSs (cxD P w K mg base N qual st f cdv A outer s H E) G (WD E) (defBody st) F) :
    MkD P w K mg base G (k + 1) c x n (runI c nf n m F) := by
  obtain ⟨fd, Fn, bd⟩ := Fn
  exact mkD_of Fn S bd mk hx hn hm hf hb
/-- the law's own def -/
theorem law_C {c : Addr} {m : Nat} {oc : Value} {od : Option Addr} {kV doc pm : Value} {an : Option Addr} {ct : Value} {osl : Array (Option Value)} (lk : K.lookup f = some ⟨oc, od, .func (PySem.W.fnOf "law" "law" (defArgs st) (defBody st) (defScope st) .none kV doc pm an (.ref c) ct), osl⟩)
    (cd : PySem.W.codeIn K (.ref c) "law" = true) (S : FnScope N ["script"] (defScope st)) (hm : N.length = m) (h2 : 2 ≤ m) (hG : G.K = K) (hF : Wp (F (r0 m)) (fun o => ∃ r, o = .nx r ∨ o = .ct r) (fun _ => False))
    (hb : ∀ A outer s H E, Room k (A.deeper (envOfC "law" (defScope st) s.heap.objs.size f (.ref c))) → ∃ E', PSs (cxD P w K mg base N "law" st f (.ref c) A outer s H E) (defBody st) (tSeq (tFor (iList G.K (tCallS (spRounds G.K) E' (tCons (tVar 0) (tCons (tC (.int 1)) tNil)))) (gName 1) (tS G (WD E) F)) (tRet (tC (.bl true))))) :
    FnOk P w K mg base (L2.CX P w) (k + 1) f (PySem.W.fnOf "law" "law" (defArgs st) (defBody st) (defScope st) .none kV doc pm an (.ref c) ct) ["script"] (spLaw K G.tabs) := by
  refine fn_of lk cd S (fun vs H Q E h => by obtain ⟨a, ns, rfl, _⟩ := h; rfl) fun A outer s H vs Q E hr h => ?_
  obtain ⟨E', hp⟩ := hb A outer s H E hr
  obtain ⟨a, ns, rfl, hS, hT, kq⟩ := h
  exact ⟨_, hp, law_core hm h2 (hG.symm ▸ hS) hT kq hF⟩
def exmB (K : PySem.W.Frag) (xc : Nat → Addr) (ks : List Nat) : Bool := ks.all fun i => ks.all fun j => PySem.W.exmOne K (.ref (xc i)) (.ref (xc j)) == some (i == j)
theorem exm_by {ks : List Nat} (h : exmB K G.xcls ks = true) : ExmOk K G ks := fun i hi j hj => by
  unfold exmB at h
  rw [List.all_eq_true] at h
  have h2 := h i hi
  rw [List.all_eq_true] at h2
  exact beq_iff_eq.mp (h2 j hj)
end
end DL
set_option Elab.async false
set_option linter.all false
set_option maxRecDepth 100000
namespace DL
open PySem L2 PySem.Spec PyProof.Rows
def opE (g : D → D → R D) (f k : LE → R D) : LE → R D := fun r => do let x ← f r; let y ← k r; g x y
def cmpT (g : D → D → R D) (f k : LE → R D) : LE → R Bool := fun r => (do let x ← f r; let y ← k r; g x y) >>= asB
def valT (f : LE → R D) : LE → R Bool := fun r => f r >>= asB
def callE (g : List D → R D) (fs : LE → R (List D)) : LE → R D := fun r => fs r >>= g
def methE (c : Nat) (g : List D → R D) (f : LE → R D) (fs : LE → R (List D)) : LE → R D := fun r => do let x ← f r; let x ← isC c x; let ds ← fs r; g (x :: ds)
def meth0E (c : Nat) (g : List D → R D) (f : LE → R D) : LE → R D := fun r => do let x ← f r; let x ← isC c x; g [x]
def fldE (fx : Nat → Option Nat) (f : LE → R D) : LE → R D := fun r => f r >>= fldD fx
def subE (f k : LE → R D) : LE → R D := fun r => do let x ← f r; let y ← k r; subI x y
def negE (f : LE → R D) : LE → R D := fun r => do let x ← f r; negD x
def bmE (T : String) (gg : D → List D → R D) (f : LE → R D) (fs : LE → R (List D)) : LE → R D := fun r => do let x ← f r; let x ← isT T x; let ds ← fs r; gg x ds
def kbmE (d : D) (gg : D → List D → R D) (fs : LE → R (List D)) : LE → R D := fun r => do let ds ← fs r; gg d ds
def toldE (l : List (Nat × List Nat)) (f : LE → R D) : LE → R D := fun r => toldD l (f r)
def lE (f : LE → R (List D)) : LE → R D := fun r => (f r) >>= fun ds => .ok (.lst ds)
def itL (f : LE → R D) : LE → R (List D) := fun r => f r >>= lstD
def itT (f : LE → R D) : LE → R (List D) := fun r => f r >>= tupD
def rng1E (fs : LE → R (List D)) : LE → R (List D) := fun r => fs r >>= rng1
def frzS (i : Nat) (F : LE → R Out) : LE → R Out := fun r => F (frz i r)
def par3S (i j l : Nat) (f g h : LE → R D) : LE → R Out := fun r => (f r).onS r fun a => (g r).onS r fun b => (h r).onS r fun c => .ok (.nx (((r.set i (.val a)).set j (.val b)).set l (.val c)))
section
variable {X : Cx} {G : Gm} {W : WX} {a b c : Expr} {f g h : LE → R D} {pos : Pos} {x y z : Str}
theorem ds_par3 (i j l : Nat) (hc : X.calm = true) (hN : X.N.Nodup) {px py pz pt pt2 : Pos} {kt k2 : Nat} (hij : i ≠ j) (hil : i ≠ l) (hjl : j ≠ l) (ha : DE X G W a f) (hb : DE X G W b g) (hd : DE X G W c h)
    (hx : X.env.scope.names.lookup x = some .local := by rfl) (hy : X.env.scope.names.lookup y = some .local := by rfl) (hz : X.env.scope.names.lookup z = some .local := by rfl) (hi : X.N[i]? = some x := by rfl) (hj : X.N[j]? = some y := by rfl) (hl : X.N[l]? = some z := by rfl)
    (hw : swappedStores [.Tuple [.Name x px, .Name y py, .Name z pz] kt pt] (.Tuple [a, b, c] k2 pt2) X.env = pure (some [x, y, z]) := by rfl)
    (hs : swapsWithSole [.Tuple [.Name x px, .Name y py, .Name z pz] kt pt] (.Tuple [a, b, c] k2 pt2) pos.line X.env = pure false := by rfl)
    (s1 : starEach [a, b, c] X.env = (false, eval a X.env) :: starEach [b, c] X.env := by rfl) (s2 : starEach [b, c] X.env = (false, eval b X.env) :: starEach [c] X.env := by rfl) (s3 : starEach [c] X.env = (false, eval c X.env) :: starEach [] X.env := by rfl) :
    DS X G W (.Assign [.Tuple [.Name x px, .Name y py, .Name z pz] kt pt] (.Tuple [a, b, c] k2 pt2) pos) (par3S i j l f g h) := PS_imp (ps_par3 hc hN hi hj hl hij hil hjl hx hy hz (pa_cons ha (pa_cons hb (pa_cons hd pa_nil s3) s2) s1) hw hs) fun De sg H ⟨dl, Z, O, r, A, q⟩ => by
  refine ⟨dl, Z, O, r, A, (onS_wp q).mono (fun d1 q1 v1 H1 g1 k1 r1 => ?_) fun e he => spost_ex A he⟩
  have A1 := A.grow g1 k1
  refine ⟨dl, Z, O, r, A1, (onS_wp q1).mono (fun d2 q2 v2 H2 g2 k2 r2 => ?_) fun e he => epost g1 (spost_ex A he)⟩
  have A2 := A1.grow g2 k2
  refine ⟨dl, Z, O, r, A2, (onS_wp q2).mono (fun d3 q3 v3 H3 g3 k3 r3 => ?_) fun e he => epost (g1.trans g2) (spost_ex A he)⟩
  have A3 := A2.grow g3 k3
  refine ⟨v1, v2, v3, rfl, ?_⟩
  exact q3 Z O _ H3 (Stp.of_grow ((g1.trans g2).trans g3) k3) (((A3.set_val i (r1.mono ((g2.trans g3).cut A.dz))).set_val j (r2.mono (g3.cut A.dz))).set_val l r3)
end
theorem huD {k : Nat} {A : Around} (hr : Room k A) : A.units + 70 < cLine := by have := hr.un; omega
theorem huD64 {k : Nat} {A : Around} (hr : Room k A) : A.units + 64 < cLine := by have := hr.un; omega
theorem takes0D {X : Cx} : Takes X W0 := L2.takes0
end DL
set_option Elab.async false
set_option linter.all false
set_option maxRecDepth 100000
namespace DL
open PySem L2 PySem.Spec PyProof.Rows
mutual
def isD (K : PySem.W.Frag) : D → Value → Bool
  | .non, u => match u with
    | .none => true
    | _ => false
  | .bl b, u => match u with
    | .bool c => b == c
    | _ => false
  | .int i, u => match u with
    | .int j _ => i == j
    | _ => false
  | .str s, u => match u with
    | .str z _ => z == ⟨s.toArray⟩
    | _ => false
  | .tup ds, u => match u with
    | .ref a => match K.lookup a with
      | some ⟨.type T, _, .seq its _, _⟩ => T == "tuple" && decide (its.size ≤ 16777216) && isDs K ds its.toList
      | _ => false
    | _ => false
  | _, _ => false
def isDs (K : PySem.W.Frag) : List D → List Value → Bool
  | [], us => match us with
    | [] => true
    | _ => false
  | d :: ds, us => match us with
    | u :: us => isD K d u && isDs K ds us
    | [] => false
end
section
variable {G : Gm} {K : PySem.W.Frag}
mutual
theorem isD_rep (hG : G.K = K) : ∀ (d : D) (u : Value), isD K d u = true → ∃ v, RelV v u ∧ ∀ dl S, Rep G dl S d v
  | .non, u, h => by
    unfold isD at h
    split at h
    · exact ⟨.non, rfl, fun _ _ => Rep.non_⟩
    · cases h
  | .bl b, u, h => by
    unfold isD at h
    split at h
    · rw [beq_iff_eq] at h; subst h; exact ⟨.bl _, rfl, fun _ _ => Rep.bl_⟩
    · cases h
  | .int i, u, h => by
    unfold isD at h
    split at h
    · rw [beq_iff_eq] at h; subst h; exact ⟨.int _, ⟨_, rfl⟩, fun _ _ => Rep.int_⟩
    · cases h
  | .str s, u, h => by
    unfold isD at h
    split at h
    · rw [beq_iff_eq] at h; subst h; exact ⟨.str _, ⟨_, rfl⟩, fun _ _ => Rep.str_⟩
    · cases h
  | .tup ds, u, h => by
    unfold isD at h
    split at h
    · rename_i a
      split at h
      · rename_i T dd its n sl hk
        rw [Bool.and_eq_true, Bool.and_eq_true, beq_iff_eq, decide_eq_true_eq] at h
        obtain ⟨⟨rfl, hz⟩, h⟩ := h
        obtain ⟨vs, r, q⟩ := isDs_rep hG ds _ h
        refine ⟨.ref a, rfl, fun dl S => ?_⟩
        unfold Rep
        exact ⟨a, vs, rfl, .inr ⟨_, its, n, hG ▸ hk, rfl, rfl, by rw [sizeLine_eq]; exact hz, r⟩, q dl S⟩
      · cases h
    · cases h
  | .lst _, _, h => by unfold isD at h; cases h
  | .dic _, _, h => by unfold isD at h; cases h
  | .cdic _, _, h => by unfold isD at h; cases h
  | .ins _ _, _, h => by unfold isD at h; cases h
  | .dice, _, h => by unfold isD at h; cases h
  | .fn _, _, h => by unfold isD at h; cases h
theorem isDs_rep (hG : G.K = K) : ∀ (ds : List D) (us : List Value), isDs K ds us = true → ∃ vs, Vals vs us ∧ ∀ dl S, RepL G dl S ds vs
  | [], us, h => by
    unfold isDs at h
    split at h
    · exact ⟨[], .nil, fun _ _ => RepL.nil⟩
    · cases h
  | d :: ds, us, h => by
    unfold isDs at h
    split at h
    · rename_i u us
      rw [Bool.and_eq_true] at h
      obtain ⟨v, r1, q1⟩ := isD_rep hG d u h.1
      obtain ⟨vs, r2, q2⟩ := isDs_rep hG ds us h.2
      exact ⟨v :: vs, .cons r1 r2, fun dl S => RepL.cons (q1 dl S) (q2 dl S)⟩
    · cases h
end
/-- a name of the top, written data -/
structure GlD (G : Gm) (mg : Str → Option Value) (x : Str) (d : D) : Prop where
  ex : ∃ (u : Value) (v : V), mg x = some u ∧ RelV v u ∧ ∀ dl S, Rep G dl S d v
theorem glD_of {mg : Str → Option Value} {x : Str} {d : D} {u : Value} (hG : G.K = K) (hm : mg x = some u) (h : isD K d u = true) : GlD G mg x d := by
  obtain ⟨v, r, q⟩ := isD_rep hG d u h
  exact ⟨u, v, hm, r, q⟩
def isCs (K : PySem.W.Frag) (a : Addr) (kvs : List (List Nat × D)) : Bool := kvs.all fun p => match PySem.W.nsIn K a ⟨p.1.toArray⟩ with
  | some (some u) => isD K p.2 u
  | _ => false
theorem repC_of (hG : G.K = K) {a : Addr} {es : Array DictEntry} {n : Nat} (l : K.lookup a = some ⟨.type "dict", none, .dict es n, #[]⟩) (kl : PySem.W.KeysLit G.w.params es.toList) : ∀ {kvs : List (List Nat × D)}, isCs K a kvs = true → ∀ dl S, RepC G dl S a kvs
  | [], _, _, _ => by unfold RepC; trivial
  | (k, d) :: kvs, h, dl, S => by
    unfold isCs at h
    rw [List.all_cons, Bool.and_eq_true] at h
    obtain ⟨h1, h2⟩ := h
    unfold RepC
    refine ⟨?_, repC_of hG l kl (kvs := kvs) h2 dl S⟩
    dsimp only at h1
    split at h1
    · rename_i u hu
      obtain ⟨v, r, q⟩ := isD_rep hG d u h1
      exact ⟨v, ⟨es, n, u, hG ▸ l, kl, hG ▸ hu, r⟩, q dl S⟩
    · cases h1
theorem glC_of {mg : Str → Option Value} {x : Str} {kvs : List (List Nat × D)} {a : Addr} {es : Array DictEntry} {n : Nat} (hG : G.K = K) (hm : mg x = some (.ref a)) (l : K.lookup a = some ⟨.type "dict", none, .dict es n, #[]⟩) (kl : PySem.W.KeysLit G.w.params es.toList) (h : isCs K a kvs = true) : GlD G mg x (.cdic kvs) :=
  ⟨.ref a, .ref a, hm, rfl, fun dl S => by unfold Rep; exact ⟨a, rfl, repC_of hG l kl h dl S⟩⟩
end
section
variable {X : Cx} {G : Gm} {W : WX}
theorem de_gl {x : Str} {pos : Pos} {d : D} (h : GlD G X.mg x d) (hg : Gl X x := by rfl) (hd : (x == ("__debug__" : Str)) = false := by decide) : DE X G W (.Name x pos) (cst d) := by
  obtain ⟨u, v, hm, rv, rp⟩ := h
  exact de_glob hm rv rp hg hd
/-- a written tuple whose methods are called -/
structure KtD (G : Gm) (mg : Str → Option Value) (x : Str) (d : D) : Prop where
  ex : ∃ p : Addr, mg x = some (.ref p) ∧ (∃ o, G.K.lookup p = some o ∧ o.cls = .type "tuple" ∧ o.dict = none) ∧ ∀ dl S, Rep G dl S d (.ref p)
theorem ktD_of {K : PySem.W.Frag} {mg : Str → Option Value} {x : Str} {d : D} {p : Addr} {its : Array Value} {n : Nat} {sl : Array (Option Value)} (hG : G.K = K) (hm : mg x = some (.ref p)) (l : K.lookup p = some ⟨.type "tuple", none, .seq its n, sl⟩) (h : isD K d (.ref p) = true) : KtD G mg x d := by
  obtain ⟨v, r, q⟩ := isD_rep hG d _ h
  have : v = .ref p := by cases v <;> simp [L2.RelV] at r <;> rw [r]
  subst this
  exact ⟨p, hm, ⟨_, hG ▸ l, rfl, rfl⟩, q⟩
theorem de_ktm {gg : D → List D → R D} {x name : Str} {d : D} {e : Expr} {es : List Expr} {fs : LE → R (List D)} {pos apos cpos : Pos} (h : KtD G X.mg x d) (hG : G.K = X.K) (B : BmD X G "tuple" name gg) (ha : DAp X G W (e :: es) fs) (hg : Gl X x := by rfl) (hd : (x == ("__debug__" : Str)) = false := by decide)
    (hbase : attributeBase (.Name x pos) name X.env (eval (.Name x pos) X.env) = eval (.Name x pos) X.env := by rfl)
    (hfew : ((backTo cpos (starEach (e :: es) X.env)).all (fun x => !x.1) && (backToKw cpos (keywordEach [] X.env)).all (fun x => x.1.isSome)
      && decide ((e :: es).length + ([] : List Keyword).length + (if ([] : List Keyword).isEmpty then 0 else 1) < 30)) = true := by rfl)
    (hline : (apos.endLine == cpos.line) = true := by rfl) (hs : starEach (e :: es) X.env = (false, eval e X.env) :: starEach es X.env := by rfl) (hplain : (backTo cpos (starEach es X.env)).any (·.1) = false := by rfl) :
    DE X G W (.Call (.Attribute (.Name x pos) name apos) (e :: es) [] cpos) (fun r => do let ds ← fs r; gg d ds) := by
  obtain ⟨p, hm, kt, rp⟩ := h
  exact de_kbm B hm (by unfold KTup; rw [← hG]; exact kt) rp ha hg hd hbase hfew hline hs hplain
end
end DL
set_option Elab.async false
set_option linter.all false
set_option maxRecDepth 100000
namespace DL
theorem var_eq (i : Nat) (r : LE) : var i r = match r[i]? with
  | some (.val d) => .ok d
  | _ => .stuck := rfl
@[simp] theorem cst_eq (d : D) (r : LE) : cst d r = .ok d := rfl
@[simp] theorem opE_eq (g : D → D → R D) (f k : LE → R D) (r : LE) : opE g f k r = f r >>= fun x => k r >>= fun y => g x y := rfl
@[simp] theorem cmpT_eq (g : D → D → R D) (f k : LE → R D) (r : LE) : cmpT g f k r = (f r >>= fun x => k r >>= fun y => g x y) >>= asB := rfl
@[simp] theorem valT_eq (f : LE → R D) (r : LE) : valT f r = f r >>= asB := rfl
@[simp] theorem callE_eq (g : List D → R D) (fs : LE → R (List D)) (r : LE) : callE g fs r = fs r >>= g := rfl
@[simp] theorem methE_eq (c : Nat) (g : List D → R D) (f : LE → R D) (fs : LE → R (List D)) (r : LE) : methE c g f fs r = f r >>= fun x => isC c x >>= fun x => fs r >>= fun ds => g (x :: ds) := rfl
@[simp] theorem meth0E_eq (c : Nat) (g : List D → R D) (f : LE → R D) (r : LE) : meth0E c g f r = f r >>= fun x => isC c x >>= fun x => g [x] := rfl
@[simp] theorem fldE_eq (fx : Nat → Option Nat) (f : LE → R D) (r : LE) : fldE fx f r = f r >>= fldD fx := rfl
@[simp] theorem subE_eq (f k : LE → R D) (r : LE) : subE f k r = f r >>= fun x => k r >>= fun y => subI x y := rfl
@[simp] theorem negE_eq (f : LE → R D) (r : LE) : negE f r = f r >>= negD := rfl
@[simp] theorem negD_int (i : Int) : negD (.int i) = .ok (.int (-i)) := rfl
@[simp] theorem bmE_eq (T : String) (gg : D → List D → R D) (f : LE → R D) (fs : LE → R (List D)) (r : LE) : bmE T gg f fs r = f r >>= fun x => isT T x >>= fun x => fs r >>= fun ds => gg x ds := rfl
@[simp] theorem kbmE_eq (d : D) (gg : D → List D → R D) (fs : LE → R (List D)) (r : LE) : kbmE d gg fs r = fs r >>= fun ds => gg d ds := rfl
@[simp] theorem toldE_eq (l : List (Nat × List Nat)) (f : LE → R D) (r : LE) : toldE l f r = toldD l (f r) := rfl
@[simp] theorem lE_eq (f : LE → R (List D)) (r : LE) : lE f r = f r >>= fun ds => .ok (.lst ds) := rfl
@[simp] theorem itL_eq (f : LE → R D) (r : LE) : itL f r = f r >>= lstD := rfl
@[simp] theorem itT_eq (f : LE → R D) (r : LE) : itT f r = f r >>= tupD := rfl
@[simp] theorem lstD_eq (ds : List D) : lstD (.lst ds) = .ok ds := rfl
@[simp] theorem tupD_eq (ds : List D) : tupD (.tup ds) = .ok ds := rfl
@[simp] theorem rng1E_eq (fs : LE → R (List D)) (r : LE) : rng1E fs r = fs r >>= rng1 := rfl
@[simp] theorem frzS_eq (i : Nat) (F : LE → R Out) (r : LE) : frzS i F r = F (frz i r) := rfl
@[simp] theorem anil_eq (r : LE) : anil r = .ok [] := rfl
@[simp] theorem acons_eq (f : LE → R D) (fs : LE → R (List D)) (r : LE) : acons f fs r = f r >>= fun x => fs r >>= fun xs => .ok (x :: xs) := rfl
@[simp] theorem tupE_eq (fs : LE → R (List D)) (r : LE) : tupE fs r = fs r >>= fun ds => if ds.length ≤ 16777216 then .ok (.tup ds) else .stuck := rfl
@[simp] theorem lstE_eq (fs : LE → R (List D)) (r : LE) : lstE fs r = fs r >>= fun ds => if ds.length ≤ 16777216 then .ok ds else .stuck := rfl
@[simp] theorem iteE_eq (c : LE → R Bool) (f g : LE → R D) (r : LE) : iteE c f g r = c r >>= fun b => if b = true then f r else g r := rfl
@[simp] theorem andT_eq (f g : LE → R Bool) (r : LE) : andT f g r = f r >>= fun b => if b = true then g r else .ok false := rfl
@[simp] theorem orT_eq (f g : LE → R Bool) (r : LE) : orT f g r = f r >>= fun b => if b = true then .ok true else g r := rfl
@[simp] theorem notT_eq (f : LE → R Bool) (r : LE) : notT f r = f r >>= fun b => .ok (!b) := rfl
@[simp] theorem asB_bl (b : Bool) : asB (.bl b) = .ok b := rfl
def andK (x : D) (k : R D) : R D := match x with
  | .bl true => k
  | .bl false => .ok (.bl false)
  | _ => .stuck
def orK (x : D) (k : R D) : R D := match x with
  | .bl true => .ok (.bl true)
  | .bl false => k
  | _ => .stuck
@[simp] theorem andK_bl (b : Bool) (k : R D) : andK (.bl b) k = if b = true then k else .ok (.bl false) := by cases b <;> rfl
@[simp] theorem orK_bl (b : Bool) (k : R D) : orK (.bl b) k = if b = true then .ok (.bl true) else k := by cases b <;> rfl
@[simp] theorem andV_eq (f g : LE → R D) (r : LE) : andV f g r = f r >>= fun x => andK x (g r) := by
  unfold andV
  congr 1
@[simp] theorem orV_eq (f g : LE → R D) (r : LE) : orV f g r = f r >>= fun x => orK x (g r) := by
  unfold orV
  congr 1
@[simp] theorem notV_bl (f : LE → R D) (r : LE) (b : Bool) (h : f r = .ok (.bl b)) : notV f r = .ok (.bl (!b)) := by
  unfold notV
  rw [h]
  rfl
@[simp] theorem seqS_eq (F K : LE → R Out) (r : LE) : seqS F K r = F r >>= fun o => match o with
  | .nx r' => K r'
  | o => .ok o := rfl
@[simp] theorem skipS_eq (r : LE) : skipS r = .ok (.nx r) := rfl
@[simp] theorem retS_eq (f : LE → R D) (r : LE) : retS f r = (f r).onS r fun d => .ok (.rt d) := rfl
@[simp] theorem ifS_eq (c : LE → R Bool) (F K : LE → R Out) (r : LE) : ifS c F K r = (c r).onS r fun b => if b = true then F r else K r := by
  unfold ifS
  congr 1
@[simp] theorem valK_eq (f : LE → R D) (r : LE) : valK f r = f r >>= fun d => .ok (.val d) := rfl
@[simp] theorem ownK_eq (f : LE → R (List D)) (r : LE) : ownK f r = f r >>= fun d => .ok (.own (.lst d)) := rfl
@[simp] theorem okK_val (d : D) : okK (.val d) = .ok (.val d) := rfl
@[simp] theorem okK_own (d : D) : okK (.own d) = .ok (.own d) := rfl
@[simp] theorem setK_eq (i : Nat) (f : LE → R Cell) (r : LE) : setK i f r = (f r >>= okK).onS r fun c => .ok (.nx (r.set i c)) := rfl
@[simp] theorem parK_eq (i j : Nat) (f g : LE → R Cell) (r : LE) : parK i j f g r = (f r >>= okK).onS r fun c => (g r >>= okK).onS r fun c' => .ok (.nx ((r.set i c).set j c')) := rfl
@[simp] theorem par3S_eq (i j l : Nat) (f g h : LE → R D) (r : LE) : par3S i j l f g h r = (f r).onS r fun a => (g r).onS r fun b => (h r).onS r fun c => .ok (.nx (((r.set i (.val a)).set j (.val b)).set l (.val c))) := rfl
@[simp] theorem errS_eq (e : Exc) (r : LE) : errS e r = .ok (.ex e r) := rfl
@[simp] theorem forS_eq (fi : LE → R (List D)) (gd : D → LE → Option LE) (body : LE → R Out) (r : LE) : forS fi gd body r = (fi r).onS r fun ds => loopS gd body ds r := rfl
@[simp] theorem ite_onS {α : Type} (c : Prop) [Decidable c] (a b : R α) (r : LE) (k : α → R Out) : (if c then a else b).onS r k = if c then a.onS r k else b.onS r k := by split <;> rfl
@[simp] theorem ite_bind {α β : Type} (c : Prop) [Decidable c] (a b : R α) (k : α → R β) : (if c then a else b) >>= k = if c then a >>= k else b >>= k := by split <;> rfl
@[simp] theorem ite_calm {α : Type} (c : Prop) [Decidable c] (a b : R α) : (if c then a else b).calm = if c then a.calm else b.calm := by split <;> rfl
@[simp] theorem calm_err {α : Type} (e : Exc) : (R.err e : R α).calm = .stuck := rfl
@[simp] theorem calm_stuck {α : Type} : (R.stuck : R α).calm = .stuck := rfl
/-- what a body's end is to the caller -/
def fin : Out → R D
  | .nx _ => .ok .non
  | .rt d => .ok d
  | .ex e _ => .err e
  | _ => .stuck
@[simp] theorem fin_nx (r : LE) : fin (.nx r) = .ok .non := rfl
@[simp] theorem fin_rt (d : D) : fin (.rt d) = .ok d := rfl
@[simp] theorem fin_ex (e : Exc) (r : LE) : fin (.ex e r) = .err e := rfl
theorem runF_eq (n m : Nat) (F : LE → R Out) (ds : List D) (h : ds.length = n) : runF n m F ds = (F (ds.map Cell.val ++ List.replicate (m - n) Cell.un)).calm >>= fin := by
  unfold runF
  rw [if_pos h]
  rfl
@[simp] theorem isC_eq (c : Nat) (fs : List D) : isC c (.ins c fs) = .ok (.ins c fs) := by simp [isC]
@[simp] theorem addD_int (i j : Int) : addD (.int i) (.int j) = .ok (.int (i + j)) := rfl
@[simp] theorem subD_int (i j : Int) : subD (.int i) (.int j) = .ok (.int (i - j)) := rfl
@[simp] theorem ltD_int (i j : Int) : ltD (.int i) (.int j) = .ok (.bl (decide (i < j))) := rfl
@[simp] theorem leD_int (i j : Int) : leD (.int i) (.int j) = .ok (.bl (decide (i ≤ j))) := rfl
@[simp] theorem gtD_int (i j : Int) : gtD (.int i) (.int j) = .ok (.bl (decide (j < i))) := rfl
@[simp] theorem geD_int (i j : Int) : geD (.int i) (.int j) = .ok (.bl (decide (j ≤ i))) := rfl
@[simp] theorem eqD_int (i j : Int) : eqD (.int i) (.int j) = .ok (.bl (i == j)) := by simp [eqD, D.sc, D.eqb]
@[simp] theorem neD_int (i j : Int) : neD (.int i) (.int j) = .ok (.bl (!(i == j))) := by simp [neD, D.sc, D.eqb]
@[simp] theorem eqD_bl (i j : Bool) : eqD (.bl i) (.bl j) = .ok (.bl (i == j)) := by simp [eqD, D.sc, D.eqb]
@[simp] theorem neD_bl (i j : Bool) : neD (.bl i) (.bl j) = .ok (.bl (!(i == j))) := by simp [neD, D.sc, D.eqb]
@[simp] theorem eqD_str (i j : List Nat) : eqD (.str i) (.str j) = .ok (.bl (i == j)) := by simp [eqD, D.sc, D.eqb]
@[simp] theorem neD_str (i j : List Nat) : neD (.str i) (.str j) = .ok (.bl (!(i == j))) := by simp [neD, D.sc, D.eqb]
@[simp] theorem eqD_tup2 (a b c d : Int) : eqD (.tup [.int a, .int b]) (.tup [.int c, .int d]) = .ok (.bl (a == c && b == d)) := by simp [eqD, D.sc, D.sh, D.shs, D.eqb, D.eqbs]
@[simp] theorem neD_tup2 (a b c d : Int) : neD (.tup [.int a, .int b]) (.tup [.int c, .int d]) = .ok (.bl (!(a == c && b == d))) := by simp [neD, D.sc, D.sh, D.shs, D.eqb, D.eqbs]
/-- a text that may be laid -/
def okS (s : List Nat) : Bool := s.all (· < 0x110000)
theorem eq_tup2s {a b c d : List Nat} (ha : okS a = true) (hb : okS b = true) (hc : okS c = true) (hd : okS d = true) : eqD (.tup [.str a, .str b]) (.tup [.str c, .str d]) = .ok (.bl (a == c && b == d)) := by
  have h1 : (D.tup [.str a, .str b]).sh 64 = true := by simp [D.sh, D.shs]; exact ⟨by simpa [okS] using ha, by simpa [okS] using hb⟩
  have h2 : (D.tup [.str c, .str d]).sh 64 = true := by simp [D.sh, D.shs]; exact ⟨by simpa [okS] using hc, by simpa [okS] using hd⟩
  unfold eqD
  rw [if_pos (by rw [h1, h2]; simp)]
  simp [D.eqb, D.eqbs]
theorem in_tup2s {a b s : List Nat} (ha : okS a = true) (hb : okS b = true) (hs : okS s = true) : inD (.str s) (.tup [.str a, .str b]) = .ok (.bl (a == s || b == s)) := by
  have h1 : D.shs [D.str a, D.str b] 62 = true := by simp [D.sh, D.shs]; exact ⟨by simpa [okS] using ha, by simpa [okS] using hb⟩
  have h2 : (D.str s).sh 62 = true := hs
  unfold inD inB
  simp [h1, h2, D.eqb]
@[simp] theorem compF_eq (fi : LE → R (List D)) (gd : D → LE → Option LE) (tt : LE → R Bool) (te : LE → R D) (vs : List Nat) (r : LE) : compF fi gd tt te vs r = fi r >>= fun ds => if ds.length ≤ 16777216 then loopC gd tt te (wipeL r vs) ds else .stuck := rfl
@[simp] theorem yesT_eq (r : LE) : yesT r = .ok true := rfl
@[simp] theorem loopC_nil (gd : D → LE → Option LE) (tt : LE → R Bool) (te : LE → R D) (r : LE) : loopC gd tt te r [] = .ok [] := rfl
theorem loopC_cons (gd : D → LE → Option LE) (tt : LE → R Bool) (te : LE → R D) (r : LE) (d : D) (ds : List D) : loopC gd tt te r (d :: ds) = match gd d r with
    | none => .stuck
    | some r' => (tt r').calm >>= fun b => if b = true then (te r').calm >>= fun y => loopC gd tt te r ds >>= fun ys => .ok (y :: ys) else loopC gd tt te r ds := by
  rw [loopC.eq_2]
  try (cases gd d r <;> rfl)
@[simp] theorem gN_eq (i : Nat) (d : D) (r : LE) : gN i d r = some (r.set i (.val d)) := rfl
theorem varP_eq (i : Nat) (r : LE) : varP i r = match r[i]? with
  | some (.val d) => .ok d
  | some (.own d) => .ok d
  | _ => .stuck := rfl
@[simp] theorem subl2_0 (a b : D) : subI (.lst [a, b]) (.int 0) = .ok a := rfl
@[simp] theorem subl2_1 (a b : D) : subI (.lst [a, b]) (.int 1) = .ok b := rfl
@[simp] theorem sub2_0 (a b : D) : subI (.tup [a, b]) (.int 0) = .ok a := rfl
@[simp] theorem sub2_1 (a b : D) : subI (.tup [a, b]) (.int 1) = .ok b := rfl
theorem mul_ok {i j : Int} (h : -1000000 ≤ i) (h2 : i ≤ 1000000) : mulD (.int i) (.int j) = .ok (.int (i * j)) := by
  show (if _ then _ else _) = _
  rw [if_pos (.inl ⟨by omega, by omega⟩)]
@[simp] theorem Wp_ok {α : Type} (a : α) (Q : α → Prop) (E : Exc → Prop) : Wp (.ok a) Q E = Q a := rfl
@[simp] theorem Wp_err {α : Type} (e : Exc) (Q : α → Prop) (E : Exc → Prop) : Wp (.err e : R α) Q E = E e := rfl
@[simp] theorem Wp_stuck {α : Type} (Q : α → Prop) (E : Exc → Prop) : Wp (.stuck : R α) Q E = False := rfl
@[simp] theorem Wp_roll {α : Type} (m : Nat) (k : Nat → R α) (Q : α → Prop) (E : Exc → Prop) : Wp (.roll m k) Q E = ∀ i, i < m → Wp (k i) Q E := rfl
end DL
set_option Elab.async false
set_option linter.all false
set_option maxRecDepth 100000
namespace K17
open PySem L2 DL LamX PySem.Spec PyProof.Rows
def top (i : Nat) : Stmt := PySem.Challenge.pw_flaghall_k17_shapes.main.body.getD i (.Pass ⟨0, 0, 0, 0⟩)
abbrev s_law_dice : Stmt := top 24
abbrev s_law_roll : Stmt := top 25
abbrev s_law_rounds : Stmt := top 26
abbrev s_law_told : Stmt := top 27
abbrev s_Vessel_init : Stmt := inClass (top 15) 0
abbrev s_law_vessel : Stmt := top 28
abbrev s_law_beside : Stmt := top 33
abbrev s_law_side : Stmt := top 29
abbrev s_Vessel_side_of_vessel : Stmt := inClass (top 15) 1
abbrev s_square : Stmt := top 16
abbrev s_Vessel_overtakes : Stmt := inClass (top 15) 2
abbrev s_law_over : Stmt := top 30
abbrev s_Vessel_shown_from_side : Stmt := inClass (top 15) 4
abbrev s_Vessel_meets_head_on : Stmt := inClass (top 15) 3
abbrev s_by_sides : Stmt := top 18
abbrev s_must_give_way : Stmt := top 17
abbrev s_law_gives : Stmt := top 31
abbrev s_kind_by_shapes : Stmt := top 19
abbrev s_kind_by_lamps : Stmt := top 20
abbrev s_law_cases1 : Stmt := top 32
abbrev s_comes_near : Stmt := top 21
abbrev s_steady_bearing : Stmt := top 22
abbrev s_law : Stmt := top 34
structure Adr where
  f_law_dice : Addr
  f_law_roll : Addr
  f_law_rounds : Addr
  f_law_told : Addr
  f_Vessel_init : Addr
  f_law_vessel : Addr
  f_law_beside : Addr
  f_law_side : Addr
  f_Vessel_side_of_vessel : Addr
  f_square : Addr
  f_Vessel_overtakes : Addr
  f_law_over : Addr
  f_Vessel_shown_from_side : Addr
  f_Vessel_meets_head_on : Addr
  f_by_sides : Addr
  f_must_give_way : Addr
  f_law_gives : Addr
  f_kind_by_shapes : Addr
  f_kind_by_lamps : Addr
  f_law_cases1 : Addr
  f_comes_near : Addr
  f_steady_bearing : Addr
  f_law : Addr
  c_Vessel : Addr
  x_BadBook : Addr
  x_BadFlag : Addr
  x_BadFleet : Addr
  x_BadHoist : Addr
  x_Foul : Addr
  x_NoWay : Addr
  x_TooLarge : Addr
  x_Unclear : Addr
  x_BadText : Addr
  k_law_cases1 : Addr
  t_law_cases1 : Addr
  k_law : Addr
  t_law : Addr
def flds : Nat → List Str
  | 0 => ["kind", "spot", "steps", "tack"]
  | _ => []
def clsA (a : Adr) : Nat → Addr
  | 0 => a.c_Vessel
  | _ => 0
def excA (a : Adr) : Nat → Addr
  | 3 => a.x_BadBook
  | 1 => a.x_BadFlag
  | 4 => a.x_BadFleet
  | 2 => a.x_BadHoist
  | 5 => a.x_Foul
  | 7 => a.x_NoWay
  | 8 => a.x_TooLarge
  | 6 => a.x_Unclear
  | 9 => a.x_BadText
  | _ => 0
def excF : Nat → Option Str
  | 5 => some "step"
  | 6 => some "many"
  | 9 => some "row"
  | _ => none
def tabsA (a : Adr) : List (Addr × Str) := [(a.t_law_cases1, ("_law_cases1" : Str) ++ ".<locals>." ++ "<lambda>"), (a.t_law, ("law" : Str) ++ ".<locals>." ++ "<lambda>")]
abbrev gm (K : PySem.W.Frag) (w : World) (a : Adr) : Gm := { K := K, w := w, cls := clsA a, flds := flds, fns := fun _ => 0, xcls := excA a, xfld := excF, tabs := tabsA a }
theorem hsz : ∀ c, (flds c).length ≤ 900 := fun c => by unfold flds; split <;> decide
def fx_kind : Nat → Option Nat
  | 0 => some 0
  | _ => none
def fx_spot : Nat → Option Nat
  | 0 => some 1
  | _ => none
def fx_steps : Nat → Option Nat
  | 0 => some 2
  | _ => none
def fx_tack : Nat → Option Nat
  | 0 => some 3
  | _ => none
def d_KINDS : D := .tup [.str [110, 111, 116, 32, 117, 110, 100, 101, 114, 32, 99, 111, 109, 109, 97, 110, 100], .str [104, 97, 109, 112, 101, 114, 101, 100], .str [102, 105, 115, 104, 105, 110, 103], .str [115, 97, 105, 108, 105, 110, 103], .str [112, 111, 119, 101, 114]]
def d_SHAPES_kvs : List (List Nat × D) := [([110, 111, 116, 32, 117, 110, 100, 101, 114, 32, 99, 111, 109, 109, 97, 110, 100], .tup [.str [98, 97, 108, 108], .str [98, 97, 108, 108]]), ([104, 97, 109, 112, 101, 114, 101, 100], .tup [.str [98, 97, 108, 108], .str [100, 105, 97, 109, 111, 110, 100], .str [98, 97, 108, 108]]), ([102, 105, 115, 104, 105, 110, 103], .tup [.str [99, 111, 110, 101], .str [99, 111, 110, 101]]), ([115, 97, 105, 108, 105, 110, 103], .tup []), ([112, 111, 119, 101, 114], .tup [])]
abbrev d_SHAPES : D := .cdic d_SHAPES_kvs
def d_LAMPS_kvs : List (List Nat × D) := [([110, 111, 116, 32, 117, 110, 100, 101, 114, 32, 99, 111, 109, 109, 97, 110, 100], .tup [.str [114, 101, 100], .str [114, 101, 100]]), ([104, 97, 109, 112, 101, 114, 101, 100], .tup [.str [114, 101, 100], .str [119, 104, 105, 116, 101], .str [114, 101, 100]]), ([102, 105, 115, 104, 105, 110, 103], .tup [.str [114, 101, 100], .str [119, 104, 105, 116, 101]]), ([115, 97, 105, 108, 105, 110, 103], .tup []), ([112, 111, 119, 101, 114], .tup [.str [119, 104, 105, 116, 101]])]
abbrev d_LAMPS : D := .cdic d_LAMPS_kvs
def toldL : List (Nat × List Nat) := [(3, [98, 111, 111, 107]), (1, [102, 108, 97, 103]), (4, [102, 108, 101, 101, 116]), (2, [104, 111, 105, 115, 116]), (5, [102, 111, 117, 108]), (7, [110, 111, 32, 119, 97, 121]), (8, [108, 97, 114, 103, 101]), (6, [117, 110, 99, 108, 101, 97, 114]), (9, [116, 101, 120, 116])]
def FunL (K : PySem.W.Frag) (x : Str) (st : Stmt) (f : Addr) (ps : List Str) : Prop := ∃ (oc : Value) (od : Option Addr) (kV doc pm : Value) (an : Option Addr) (cdv ct : Value) (osl : Array (Option Value)),
  K.lookup f = some ⟨oc, od, .func (PySem.W.fnOf x x (defArgs st) (defBody st) (defScope st) .none kV doc pm an cdv ct), osl⟩ ∧ PySem.W.codeIn K cdv x = true ∧ PySem.W.keepIn K (.ref f) = true ∧ L2.Binds K (PySem.W.fnOf x x (defArgs st) (defBody st) (defScope st) .none kV doc pm an cdv ct) ps []
/-- what the head knows -/
structure Txt (w : World) (K : PySem.W.Frag) (mg : Str → Option Value) (base : Heap) (a : Adr) : Prop where
  b_tuple : mg "tuple" = none
  b_range : mg "range" = none
  b_min : mg "min" = none
  b_int : mg "int" = none
  b_abs : mg "abs" = none
  g_law_dice : mg "_law_dice" = some (.ref a.f_law_dice)
  e_law_dice : FunE K "_law_dice" "_law_dice" s_law_dice a.f_law_dice ["cell"]
  g_law_roll : mg "_law_roll" = some (.ref a.f_law_roll)
  e_law_roll : FunE K "_law_roll" "_law_roll" s_law_roll a.f_law_roll ["dice", "many"]
  g_law_rounds : mg "_law_rounds" = some (.ref a.f_law_rounds)
  e_law_rounds : FunE K "_law_rounds" "_law_rounds" s_law_rounds a.f_law_rounds ["script", "most"]
  g_law_told : mg "_law_told" = some (.ref a.f_law_told)
  l_told : FunL K "_law_told" s_law_told a.f_law_told ["what"]
  e_Vessel_init : FunE K "__init__" "Vessel.__init__" s_Vessel_init a.f_Vessel_init ["self", "kind", "spot", "steps", "tack"]
  mk_Vessel : Mk K a.c_Vessel a.f_Vessel_init
  g_law_vessel : mg "_law_vessel" = some (.ref a.f_law_vessel)
  e_law_vessel : FunE K "_law_vessel" "_law_vessel" s_law_vessel a.f_law_vessel ["dice"]
  g_law_beside : mg "_law_beside" = some (.ref a.f_law_beside)
  e_law_beside : FunE K "_law_beside" "_law_beside" s_law_beside a.f_law_beside ["dice", "one", "other"]
  g_law_side : mg "_law_side" = some (.ref a.f_law_side)
  e_law_side : FunE K "_law_side" "_law_side" s_law_side a.f_law_side ["one", "other"]
  e_Vessel_side_of_vessel : FunE K "side_of_vessel" "Vessel.side_of_vessel" s_Vessel_side_of_vessel a.f_Vessel_side_of_vessel ["self", "other"]
  mt_Vessel_side_of_vessel : Meth K a.c_Vessel "side_of_vessel" a.f_Vessel_side_of_vessel
  g_square : mg "square" = some (.ref a.f_square)
  e_square : FunE K "square" "square" s_square a.f_square ["steps"]
  e_Vessel_overtakes : FunE K "overtakes" "Vessel.overtakes" s_Vessel_overtakes a.f_Vessel_overtakes ["self", "other"]
  mt_Vessel_overtakes : Meth K a.c_Vessel "overtakes" a.f_Vessel_overtakes
  g_law_over : mg "_law_over" = some (.ref a.f_law_over)
  e_law_over : FunE K "_law_over" "_law_over" s_law_over a.f_law_over ["one", "other"]
  e_Vessel_shown_from_side : FunE K "shown_from_side" "Vessel.shown_from_side" s_Vessel_shown_from_side a.f_Vessel_shown_from_side ["self", "other"]
  mt_Vessel_shown_from_side : Meth K a.c_Vessel "shown_from_side" a.f_Vessel_shown_from_side
  e_Vessel_meets_head_on : FunE K "meets_head_on" "Vessel.meets_head_on" s_Vessel_meets_head_on a.f_Vessel_meets_head_on ["self", "other"]
  mt_Vessel_meets_head_on : Meth K a.c_Vessel "meets_head_on" a.f_Vessel_meets_head_on
  g_by_sides : mg "by_sides" = some (.ref a.f_by_sides)
  e_by_sides : FunE K "by_sides" "by_sides" s_by_sides a.f_by_sides ["one", "other"]
  g_must_give_way : mg "must_give_way" = some (.ref a.f_must_give_way)
  e_must_give_way : FunE K "must_give_way" "must_give_way" s_must_give_way a.f_must_give_way ["one", "other"]
  g_law_gives : mg "_law_gives" = some (.ref a.f_law_gives)
  e_law_gives : FunE K "_law_gives" "_law_gives" s_law_gives a.f_law_gives ["one", "other"]
  g_kind_by_shapes : mg "kind_by_shapes" = some (.ref a.f_kind_by_shapes)
  e_kind_by_shapes : FunE K "kind_by_shapes" "kind_by_shapes" s_kind_by_shapes a.f_kind_by_shapes ["shapes"]
  g_kind_by_lamps : mg "kind_by_lamps" = some (.ref a.f_kind_by_lamps)
  e_kind_by_lamps : FunE K "kind_by_lamps" "kind_by_lamps" s_kind_by_lamps a.f_kind_by_lamps ["lamps"]
  g_law_cases1 : mg "_law_cases1" = some (.ref a.f_law_cases1)
  e_law_cases1 : FunC K "_law_cases1" "_law_cases1" s_law_cases1 a.f_law_cases1 a.k_law_cases1 []
  g_comes_near : mg "comes_near" = some (.ref a.f_comes_near)
  e_comes_near : FunE K "comes_near" "comes_near" s_comes_near a.f_comes_near ["one", "other", "minutes"]
  g_steady_bearing : mg "steady_bearing" = some (.ref a.f_steady_bearing)
  e_steady_bearing : FunE K "steady_bearing" "steady_bearing" s_steady_bearing a.f_steady_bearing ["one", "other"]
  g_law : mg "law" = some (.ref a.f_law)
  e_law : FunC K "law" "law" s_law a.f_law a.k_law ["script"]
  g_Vessel : mg "Vessel" = some (.ref a.c_Vessel)
  c_Vessel : Cls K a.c_Vessel
  n_Vessel_kind : NoAttr K a.c_Vessel "kind"
  n_Vessel_spot : NoAttr K a.c_Vessel "spot"
  n_Vessel_steps : NoAttr K a.c_Vessel "steps"
  n_Vessel_tack : NoAttr K a.c_Vessel "tack"
  x_BadBook : PySem.W.excIn K a.x_BadBook [.type "ValueError", .type "Exception", .type "BaseException", .type "object"] "ValueError.__new__" = true ∧ mg "BadBook" = some (.ref a.x_BadBook) ∧ PySem.W.keepIn K (.ref a.x_BadBook) = true ∧ PySem.W.subIn K (.ref a.x_BadBook) (.type "BaseException") = some true ∧ PySem.W.typeIn K (.ref a.x_BadBook) = some (.type "type")
  x_BadFlag : PySem.W.excIn K a.x_BadFlag [.type "ValueError", .type "Exception", .type "BaseException", .type "object"] "ValueError.__new__" = true ∧ mg "BadFlag" = some (.ref a.x_BadFlag) ∧ PySem.W.keepIn K (.ref a.x_BadFlag) = true ∧ PySem.W.subIn K (.ref a.x_BadFlag) (.type "BaseException") = some true ∧ PySem.W.typeIn K (.ref a.x_BadFlag) = some (.type "type")
  x_BadFleet : PySem.W.excIn K a.x_BadFleet [.type "ValueError", .type "Exception", .type "BaseException", .type "object"] "ValueError.__new__" = true ∧ mg "BadFleet" = some (.ref a.x_BadFleet) ∧ PySem.W.keepIn K (.ref a.x_BadFleet) = true ∧ PySem.W.subIn K (.ref a.x_BadFleet) (.type "BaseException") = some true ∧ PySem.W.typeIn K (.ref a.x_BadFleet) = some (.type "type")
  x_BadHoist : PySem.W.excIn K a.x_BadHoist [.type "ValueError", .type "Exception", .type "BaseException", .type "object"] "ValueError.__new__" = true ∧ mg "BadHoist" = some (.ref a.x_BadHoist) ∧ PySem.W.keepIn K (.ref a.x_BadHoist) = true ∧ PySem.W.subIn K (.ref a.x_BadHoist) (.type "BaseException") = some true ∧ PySem.W.typeIn K (.ref a.x_BadHoist) = some (.type "type")
  x_Foul : mg "Foul" = some (.ref a.x_Foul)
  x_NoWay : PySem.W.excIn K a.x_NoWay [.type "ValueError", .type "Exception", .type "BaseException", .type "object"] "ValueError.__new__" = true ∧ mg "NoWay" = some (.ref a.x_NoWay) ∧ PySem.W.keepIn K (.ref a.x_NoWay) = true ∧ PySem.W.subIn K (.ref a.x_NoWay) (.type "BaseException") = some true ∧ PySem.W.typeIn K (.ref a.x_NoWay) = some (.type "type")
  x_TooLarge : PySem.W.excIn K a.x_TooLarge [.type "ValueError", .type "Exception", .type "BaseException", .type "object"] "ValueError.__new__" = true ∧ mg "TooLarge" = some (.ref a.x_TooLarge) ∧ PySem.W.keepIn K (.ref a.x_TooLarge) = true ∧ PySem.W.subIn K (.ref a.x_TooLarge) (.type "BaseException") = some true ∧ PySem.W.typeIn K (.ref a.x_TooLarge) = some (.type "type")
  x_Unclear : mg "Unclear" = some (.ref a.x_Unclear)
  x_BadText : mg "BadText" = some (.ref a.x_BadText)
  exm : ExmOk K (gm K w a) (toldL.map (·.1))
  v_KINDS : GlD (gm K w a) mg "KINDS" d_KINDS
  v_SHAPES : GlD (gm K w a) mg "SHAPES" d_SHAPES
  v_LAMPS : GlD (gm K w a) mg "LAMPS" d_LAMPS
  kt_KINDS : KtD (gm K w a) mg "KINDS" d_KINDS
  tb_law_cases1 : TabB base mg a.k_law_cases1 a.t_law_cases1
  tb_law : TabB base mg a.k_law a.t_law
  ne_law_cases1_law : a.t_law_cases1 ≠ a.t_law
theorem sc_law_dice : FnScope ["cell"] ["cell"] (defScope s_law_dice) := ⟨rfl, rfl, rfl, by decide +kernel, rfl, by decide +kernel, by decide +kernel⟩
theorem sc_law_roll : FnScope ["dice", "many", "found"] ["dice", "many"] (defScope s_law_roll) := ⟨rfl, rfl, rfl, by decide +kernel, rfl, by decide +kernel, by decide +kernel⟩
theorem sc_law_rounds : FnScope ["script", "most", "cells", "cell"] ["script", "most"] (defScope s_law_rounds) := ⟨rfl, rfl, rfl, by decide +kernel, rfl, by decide +kernel, by decide +kernel⟩
theorem sc_law_told : FnScope ["what"] ["what"] (defScope s_law_told) := ⟨rfl, rfl, rfl, by decide +kernel, rfl, by decide +kernel, by decide +kernel⟩
theorem sc_Vessel_init : FnScope ["self", "kind", "spot", "steps", "tack"] ["self", "kind", "spot", "steps", "tack"] (defScope s_Vessel_init) := ⟨rfl, rfl, rfl, by decide +kernel, rfl, by decide +kernel, by decide +kernel⟩
theorem sc_law_vessel : FnScope ["dice", "kind", "tack"] ["dice"] (defScope s_law_vessel) := ⟨rfl, rfl, rfl, by decide +kernel, rfl, by decide +kernel, by decide +kernel⟩
theorem sc_law_beside : FnScope ["dice", "one", "other", "gone", "pace", "side", "spot"] ["dice", "one", "other"] (defScope s_law_beside) := ⟨rfl, rfl, rfl, by decide +kernel, rfl, by decide +kernel, by decide +kernel⟩
theorem sc_law_side : FnScope ["one", "other", "down", "right", "turn", "along"] ["one", "other"] (defScope s_law_side) := ⟨rfl, rfl, rfl, by decide +kernel, rfl, by decide +kernel, by decide +kernel⟩
theorem sc_Vessel_side_of_vessel : FnScope ["self", "other", "down", "right", "along", "turn"] ["self", "other"] (defScope s_Vessel_side_of_vessel) := ⟨rfl, rfl, rfl, by decide +kernel, rfl, by decide +kernel, by decide +kernel⟩
theorem sc_square : FnScope ["steps"] ["steps"] (defScope s_square) := ⟨rfl, rfl, rfl, by decide +kernel, rfl, by decide +kernel, by decide +kernel⟩
theorem sc_Vessel_overtakes : FnScope ["self", "other", "down", "right", "behind", "faster"] ["self", "other"] (defScope s_Vessel_overtakes) := ⟨rfl, rfl, rfl, by decide +kernel, rfl, by decide +kernel, by decide +kernel⟩
theorem sc_law_over : FnScope ["one", "other", "down", "right", "pace"] ["one", "other"] (defScope s_law_over) := ⟨rfl, rfl, rfl, by decide +kernel, rfl, by decide +kernel, by decide +kernel⟩
theorem sc_Vessel_shown_from_side : FnScope ["self", "other", "side", "down", "right"] ["self", "other"] (defScope s_Vessel_shown_from_side) := ⟨rfl, rfl, rfl, by decide +kernel, rfl, by decide +kernel, by decide +kernel⟩
theorem sc_Vessel_meets_head_on : FnScope ["self", "other", "against", "opposed"] ["self", "other"] (defScope s_Vessel_meets_head_on) := ⟨rfl, rfl, rfl, by decide +kernel, rfl, by decide +kernel, by decide +kernel⟩
theorem sc_by_sides : FnScope ["one", "other", "left", "right"] ["one", "other"] (defScope s_by_sides) := ⟨rfl, rfl, rfl, by decide +kernel, rfl, by decide +kernel, by decide +kernel⟩
theorem sc_must_give_way : FnScope ["one", "other", "a", "b"] ["one", "other"] (defScope s_must_give_way) := ⟨rfl, rfl, rfl, by decide +kernel, rfl, by decide +kernel, by decide +kernel⟩
theorem sc_law_gives : FnScope ["one", "other", "kinds", "sides", "against", "right", "side"] ["one", "other"] (defScope s_law_gives) := ⟨rfl, rfl, rfl, by decide +kernel, rfl, by decide +kernel, by decide +kernel⟩
theorem sc_kind_by_shapes : FnScope ["shapes", "kind"] ["shapes"] (defScope s_kind_by_shapes) := ⟨rfl, rfl, rfl, by decide +kernel, rfl, by decide +kernel, by decide +kernel⟩
theorem sc_kind_by_lamps : FnScope ["lamps", "kind"] ["lamps"] (defScope s_kind_by_lamps) := ⟨rfl, rfl, rfl, by decide +kernel, rfl, by decide +kernel, by decide +kernel⟩
theorem sc_law_cases1 : FnScope ["kind"] [] (defScope s_law_cases1) := ⟨rfl, rfl, rfl, by decide +kernel, rfl, by decide +kernel, by decide +kernel⟩
theorem sc_comes_near : FnScope ["one", "other", "minutes", "best", "minute", "down", "right", "far"] ["one", "other", "minutes"] (defScope s_comes_near) := ⟨rfl, rfl, rfl, by decide +kernel, rfl, by decide +kernel, by decide +kernel⟩
theorem sc_steady_bearing : FnScope ["one", "other", "down", "right", "a", "b"] ["one", "other"] (defScope s_steady_bearing) := ⟨rfl, rfl, rfl, by decide +kernel, rfl, by decide +kernel, by decide +kernel⟩
theorem sc_law : FnScope ["script", "dice", "one", "other", "side", "down", "right", "abaft", "told", "minutes", "ways", "k", "a", "b"] ["script"] (defScope s_law) := ⟨rfl, rfl, rfl, by decide +kernel, rfl, by decide +kernel, by decide +kernel⟩
section
variable {P : Program} {w : World} {K : PySem.W.Frag} {mg : Str → Option Value} {base : Heap} {G : Gm} {a : Adr}
theorem ok_roll {f : Addr} {fd : FuncData} (F : Fun K "_law_roll" "_law_roll" s_law_roll f fd) (mi : mg "int" = none) : FnOk P w K mg base (L2.CX P w) 1 f fd ["dice", "many"] (spD G 2 rollD) := by
  refine F.okX sc_law_roll (fun vs H Q E h => h.1) (fun cdv A outer s H vs Q E hr h => ?_)
  obtain ⟨hl, dl, Z, ds, gl, dz, live, rl, hw⟩ := h
  obtain ⟨m, x, y, z, rfl, m0, m1, hd, k⟩ := roll_of gl dz rl hw
  refine ⟨_, pss_cons (ps_if (pw_or (pt_cmpR op_eq (pe_ix ix_list (pv 0) pe_int fun _ _ => rfl) pe_int (nomark _)) (pw_or1 (pw_and (pt_cmpR op_eq (pe_ix ix_list (pv 0) pe_int fun _ _ => rfl) pe_int (nomark _)) (pw_and1 (pt_cmpR op_gt (pe_ix ix_list (pv 0) pe_int fun _ _ => rfl) pe_int (nomark _)))).pt)).pt
      (pss_cons (ps_set (i := 2) sc_law_roll.nd rfl (Or.inl rfl) (pe_op op_mod (pe_callTy call_int1 rfl mi rfl (pa_cons (pe_ix ix_list (pv 0) pe_int fun _ _ => rfl) pa_nil)) (pv 1)))
        (pss_cons (ps_asg (pe_op op_fdiv (pe_ix ix_list (pv 0) pe_int fun _ _ => rfl) (pv 1)) (pg_sub (pv 0) pe_int set_list))
          (pss_one (ps_ret (pv 2))))) pss_nil)
    (pss_cons (ps_asg pe_int (pg_sub (pv 0) pe_int set_list))
      (pss_cons (ps_asg (pe_op op_mod (pe_callTy call_int1 rfl mi rfl (pa_cons (pe_op op_add (pe_op op_add (pe_op op_mul (pe_ix ix_list (pv 0) pe_int fun _ _ => rfl) pe_int) (pe_op op_mul (pe_ix ix_list (pv 0) pe_int fun _ _ => rfl) pe_int)) pe_int) pa_nil)) pe_int) (pg_sub (pv 0) pe_int set_list))
        (pss_cons (ps_asg (pe_op op_add (pe_ix ix_list (pv 0) pe_int fun _ _ => rfl) pe_int) (pg_sub (pv 0) pe_int set_list))
          (pss_one (ps_ret (pe_op op_mod (pe_callTy call_int1 rfl mi rfl (pa_cons (pe_op op_add (pe_op op_fdiv (pe_ix ix_list (pv 0) pe_int fun _ _ => rfl) pe_int) (pe_ix ix_list (pv 0) pe_int fun _ _ => rfl)) pa_nil)) (pv 1))))))), ?_⟩
  have hm1 : m < 1073741824 := by omega
  have r0 : 0 ≤ x % m := Int.emod_nonneg _ (by omega)
  have r1 : x % m < m := Int.emod_lt_of_pos _ m0
  refine ⟨_, rfl, dl, _, _, _, rfl, rfl, SqL.of hd, rfl, rfl, _, rfl, ?_⟩
  refine ite2 (fun _ => ite2 (fun _ => ?y1) (fun h => absurd rfl h)) (fun _ => ⟨_, rfl, dl, _, _, _, rfl, rfl, SqL.of hd, rfl, rfl, _, rfl, ite2 (fun _ => ⟨_, rfl, dl, _, _, _, rfl, rfl, SqL.of hd, rfl, _, _, rfl, rfl, _, rfl, ite2 (fun _ => ?y2) (fun _ => ?n1)⟩) (fun _ => ite2 (fun h => nomatch h) (fun _ => ?n2))⟩)
  case y1 =>
    refine ⟨_, rfl, dl, _, _, _, rfl, rfl, SqL.of hd, rfl, .inl ⟨_, rfl, _, rfl, _, _, rfl, rfl, m0, ?_⟩⟩
    refine ⟨_, rfl, dl, _, _, _, rfl, rfl, SqL.of hd, rfl, _, rfl, _, _, rfl, rfl, ⟨m0, hm1⟩, _, rfl, dl, _, _, _, rfl, rfl, hd, rfl, _, rfl, ?_⟩
    exact k _ _ r0 r1 ⟨_, _, _, rfl⟩
  case y2 =>
    refine ⟨_, rfl, dl, _, _, _, rfl, rfl, SqL.of hd, rfl, .inl ⟨_, rfl, _, rfl, _, _, rfl, rfl, m0, ?_⟩⟩
    refine ⟨_, rfl, dl, _, _, _, rfl, rfl, SqL.of hd, rfl, _, rfl, _, _, rfl, rfl, ⟨m0, hm1⟩, _, rfl, dl, _, _, _, rfl, rfl, hd, rfl, _, rfl, ?_⟩
    exact k _ _ r0 r1 ⟨_, _, _, rfl⟩
  all_goals
    refine ⟨_, rfl, dl, _, _, _, rfl, rfl, hd, rfl, ?_⟩
    have h2 : (upd H dl (.lst [V.int x, V.int y, V.int 0])) dl = some (.lst [V.int x, V.int y, V.int 0]) := upd_same
    refine ⟨_, rfl, dl, _, _, _, rfl, rfl, SqL.of h2, rfl, _, _, rfl, rfl, .inr ⟨by decide, by decide⟩, _, rfl, dl, _, _, _, rfl, rfl, SqL.of h2, rfl, _, _, rfl, rfl, .inr ⟨by decide, by decide⟩, _, _, rfl, rfl, _, _, rfl, rfl, .inl ⟨_, rfl, _, _, rfl, rfl, (by show (0 : Int) < 2147483647; decide), _, rfl, dl, _, _, _, rfl, rfl, h2, rfl, ?_⟩⟩
    refine ⟨_, rfl, dl, _, _, _, rfl, rfl, SqL.of upd_same, rfl, _, _, rfl, rfl, _, rfl, dl, _, _, _, rfl, rfl, upd_same, rfl, ?_⟩
    refine ⟨_, rfl, dl, _, _, _, rfl, rfl, SqL.of upd_same, rfl, _, _, rfl, rfl, ⟨(by show (0 : Int) < 7; decide), (by show (7 : Int) < 1073741824; decide)⟩, _, rfl, dl, _, _, _, rfl, rfl, SqL.of upd_same, rfl, _, _, rfl, rfl, .inl ⟨_, rfl, _, rfl, _, _, rfl, rfl, m0, ?_⟩⟩
    refine k _ _ (Int.emod_nonneg _ (by omega)) (Int.emod_lt_of_pos _ m0) ⟨(x * 48271 + y * 69621 + 11) % 2147483647, y + 1, 0, ?_⟩
    rw [upd_upd, upd_upd]
    rfl
theorem ok_dice {f : Addr} {fd : FuncData} (F : Fun K "_law_dice" "_law_dice" s_law_dice f fd) (mi : mg "int" = none) (ma : mg "abs" = none) : FnOk P w K mg base (L2.CX P w) 1 f fd ["cell"] spDice := by
  refine F.okX sc_law_dice (fun vs H Q E h => by obtain ⟨c, rfl, _⟩ := h; rfl) (fun cdv A outer s H vs Q E hr h => ?_)
  obtain ⟨c, rfl, k⟩ := h
  refine ⟨_, pss_cons (ps_if (pt_chain op_lt op_lt (pe_op op_sub pe_int pe_int) (pv 0) pe_int) (pss_one (ps_ret (pe_lst (pa_cons (pe_callB call_abs rfl ma rfl (pa_cons (pv 0) pa_nil)) (pa_cons pe_int (pa_cons pe_int pa_nil)))))) pss_nil)
    (pss_one (ps_ret (pe_lst (pa_cons (pv 0) (pa_cons (pe_op op_add pe_int (pe_op op_mod (pe_callTy call_int1 rfl mi rfl (pa_cons (pv 0) pa_nil)) pe_int)) (pa_cons (pe_callTy call_int1 rfl mi rfl (pa_cons (pe_cmpR op_ge (pv 0) (pe_op op_pow pe_int pe_int) (nomark _)) pa_nil)) pa_nil)))))), ?_⟩
  have kk : ∀ a : Int, [V.int a, V.int 0, V.int 2].length ≤ sizeLine ∧ ∀ p, H p = none → Q (.ref p) (upd H p (.lst [V.int a, V.int 0, V.int 2])) := fun a => ⟨by rw [sizeLine_eq]; exact Nat.le_of_ble_eq_true rfl, fun p hp => k p a 0 2 hp⟩
  have kn : ∀ b : Bool, [V.int c, V.int (1 + c % 1009), V.int (if b = true then 1 else 0)].length ≤ sizeLine ∧ ∀ p, H p = none → Q (.ref p) (upd H p (.lst [V.int c, V.int (1 + c % 1009), V.int (if b = true then 1 else 0)])) := fun b => ⟨by rw [sizeLine_eq]; exact Nat.le_of_ble_eq_true rfl, fun p hp => k p c _ _ hp⟩
  have no : tRet
      (tLst
        (tCons (tVar 0)
          (tCons
            (tOp (rI0 fun i j => V.int (i + j)) (tC (V.int 1))
              (tOp (rI (fun x j => 0 < j) fun i j => V.int (i % j))
                (tCB
                  (fun xs H Q =>
                    (∃ i, xs = [V.int i] ∧ Q (V.int i) H) ∨
                      ∃ k, xs = [V.bl k] ∧ Q (V.int (if k = true then 1 else 0)) H)
                  (tCons (tVar 0) tNil))
                (tC (V.int 1009))))
            (tCons
              (tCB
                (fun xs H Q =>
                  (∃ i, xs = [V.int i] ∧ Q (V.int i) H) ∨ ∃ k, xs = [V.bl k] ∧ Q (V.int (if k = true then 1 else 0)) H)
                (tCons
                  (tOp (rI0 fun i j => V.bl (decide (j ≤ i))) (tVar 0)
                    (tOp (rI CPow fun i j => V.int (i ^ j.toNat)) (tC (V.int 10)) (tC (V.int 18))))
                  tNil))
              tNil)))) { nx := fun x H' => Q V.non H', rt := Q } (L2.start [Str.ofString "cell"] [V.int c]) H := by
    exact ⟨_, rfl, _, rfl, .inl ⟨_, rfl, _, _, rfl, rfl, (by show (0 : Int) < 1009; decide), _, _, rfl, rfl, _, rfl, _, _, rfl, rfl, ⟨by decide, by decide, by decide⟩, _, _, rfl, rfl, .inr ⟨_, rfl, kn _⟩⟩⟩
  refine ⟨_, _, rfl, rfl, _, rfl, _, _, rfl, rfl, _, rfl, ite2 (fun _ => ⟨_, _, rfl, rfl, _, rfl, ite2 (fun _ => ⟨_, rfl, _, rfl, kk _⟩) (fun _ => no)⟩) (fun _ => ⟨_, rfl, ite2 (fun h => nomatch h) (fun _ => no)⟩)⟩
theorem ok_rounds {f fD : Addr} {fd fdD : FuncData} (F : Fun K "_law_rounds" "_law_rounds" s_law_rounds f fd) (D : FnOk P w K mg base (L2.CX P w) 1 fD fdD ["cell"] spDice) (kD : PySem.W.keepIn K (.ref fD) = true) (bD : Binds K fdD ["cell"] []) (mD : mg "_law_dice" = some (.ref fD)) : FnOk P w K mg base (L2.CX P w) 2 f fd ["script", "most"] (spRounds K) := by
  refine F.okX sc_law_rounds (fun vs H Q E h => by obtain ⟨a, ns, rfl, _⟩ := h; rfl) (fun cdv A outer s H vs Q E hr h => ?_)
  obtain ⟨a, ns, rfl, hS, k⟩ := h
  have hu : (A.deeper (PyProof.Rows.envOfC "_law_rounds" (defScope s_law_rounds) s.heap.objs.size f cdv)).units + 64 < cLine := by have := hr.un; omega
  refine ⟨_, pss_cons (ps_set (i := 2) sc_law_rounds.nd rfl (Or.inl rfl) (pe_slice sl_list (pv 0) po_none (po_some (pv 1))))
    (pss_cons (ps_if (pt_cmpR (op_eqD hu) (pv 2) (pe_lst pa_nil) (nomark _)) (pss_one (ps_set (i := 2) sc_law_rounds.nd rfl (Or.inl rfl) (pe_lst (pa_cons pe_int pa_nil)))) pss_nil)
      (pss_one (ps_ret (pe_lc (own := [("cell", 3)]) (g := gName 3) (tt := tYes) rfl sc_law_rounds.nd (pi_list (pv 2)) (blkOk_by (N := ["script", "most", "cells", "cell"]) (sc := defScope s_law_rounds) (by decide +kernel)) (fun _ _ _ _ _ => pg_name (i := 3) sc_law_rounds.nd rfl (Or.inl rfl)) (fun _ _ _ _ _ => pts_nil)
        (fun _ _ _ _ _ => pe_callS D hr rfl mD kD bD (fun sg => passAt takes0D sg) (pa_cons (pv 3) pa_nil)))))), ?_⟩
  have fin : ∀ (H1 : Hp) (l : Addr) (c : Int), (∀ b o, H b = some o → H1 b = some o) → H1 l = some (.lst [.int c]) →
      (tRet (tLc (iList K (tVar 2)) (gName 3) tYes (tCallS spDice (WE W0) (tCons (tVar 3) tNil)) [3])) { nx := fun x H' => Q V.non H', rt := Q } [some (.ref a), some (.int 1), some (.ref l), none] H1 := fun H1 l c e1 hl => by
    refine ⟨_, rfl, l, rfl, ⟨_, SqL.of hl⟩, fun D hD => ?_⟩
    have hlD : l ≠ D := ne_of_none hl hD
    refine lc_list (xs := [V.int c]) (fun i H' => (∀ b o, H1 b = some o → H' b = some o) ∧ ((i = 0 ∧ H' D = some (.lst [])) ∨ (i = 1 ∧ ∃ (d : Addr) (x y z : Int), D ≠ d ∧ H' D = some (.lst [.ref d]) ∧ H' d = some (.lst [.int x, .int y, .int z])))) ⟨fun b o e => by rw [upd_ne (ne_of_none e hD)]; exact e, .inl ⟨rfl, upd_same⟩⟩
      (fun i H' _ p => SqL.of (p.1 _ _ hl)) (fun i x H' hx p => ?_) fun H' p => ?_
    · obtain ⟨p1, p2⟩ := p
      cases i with
      | succ i => simp at hx
      | zero =>
        cases hx
        rcases p2 with ⟨_, hDl⟩ | ⟨h, _⟩
        case inr => cases h
        refine ⟨rfl, _, rfl, c, rfl, fun d x y z hd => ?_⟩
        have hDd : D ≠ d := ne_of_none hDl hd
        refine ⟨[], by rw [upd_ne hDd]; exact hDl, by rw [sizeLine_eq]; decide, fun b o e => ?_, .inr ⟨rfl, d, x, y, z, hDd, upd_same, by rw [upd_ne hDd.symm]; exact upd_same⟩⟩
        rw [upd_ne (ne_of_none e hD), upd_ne (ne_of_none (p1 b o e) hd)]
        exact p1 b o e
    · obtain ⟨p1, p2⟩ := p
      rcases p2 with ⟨h, _⟩ | ⟨_, d, x, y, z, n, h1, h2⟩
      · cases h
      · exact k H' D d x y z (fun b o e => p1 b o (e1 b o e)) n h1 h2
  refine ⟨_, rfl, _, rfl, _, rfl, a, _, rfl, hS, fun l hl => ?_⟩
  have dnil : ∀ {H2 : Hp} {q : Addr}, H2 q = some (.lst []) → Dp K H2 (.ref q) (.list []) := fun h => .lst (SqL.of h) .nil
  cases ns with
  | nil =>
    refine ⟨_, rfl, Nat.zero_le _, fun l2 hl2 => ⟨.list [], .list [], dnil ?_, dnil upd_same, by decide, by decide, _, rfl, ite2 (fun _ => ⟨by rw [sizeLine_eq]; decide, fun l3 hl3 => fin _ l3 0 (fun b o e => ?_) upd_same⟩) (fun h => absurd rfl h)⟩⟩
    · have n : l ≠ l2 := fun e => by rw [← e, upd_same] at hl2; cases hl2
      rw [upd_ne n]; exact upd_same
    · have e1 := (upd_ne (o := .lst (cutV ([].map V.int) none (some 1))) (ne_of_none e hl)).trans e
      have e2 := (upd_ne (o := .lst []) (ne_of_none e1 hl2)).trans e1
      exact (upd_ne (o := .lst [V.int 0]) (ne_of_none e2 hl3)).trans e2
  | cons c r =>
    have cv : cutV ((c :: r).map V.int) none (some 1) = [V.int c] := by
      show (List.take (HT.sIx _ _ (some ((1 : Nat) : Int)) - 0) _) = _
      rw [HT.sIx_nat, HT.sIx_none]
      simp
    rw [cv] at *
    refine ⟨_, rfl, Nat.zero_le _, fun l2 hl2 => ⟨.list [.int c], .list [], .lst (xs := [V.int c]) (SqL.of ?_) (.cons (.int c) .nil), dnil upd_same, rfl, by decide, _, rfl, ite2 (fun h => nomatch h) (fun _ => fin _ l c (fun b o e => ?_) ?_)⟩⟩
    · have n : l ≠ l2 := fun e => by rw [← e, upd_same] at hl2; cases hl2
      rw [upd_ne n]; exact upd_same
    · have e1 := (upd_ne (o := .lst [V.int c]) (ne_of_none e hl)).trans e
      exact (upd_ne (o := .lst []) (ne_of_none e1 hl2)).trans e1
    · have n : l ≠ l2 := fun e => by rw [← e, upd_same] at hl2; cases hl2
      rw [upd_ne n]; exact upd_same
theorem fo_kind {X : Cx} (T : Txt w X.K mg base a) : FldOk X (gm X.K w a) "kind" fx_kind := fun c j e => by
  unfold fx_kind at e
  split at e
  · cases e; exact ⟨T.c_Vessel, T.n_Vessel_kind, rfl, show (["kind", "spot", "steps", "tack"] : List Str).Nodup by decide +kernel⟩
  · cases e
theorem fo_spot {X : Cx} (T : Txt w X.K mg base a) : FldOk X (gm X.K w a) "spot" fx_spot := fun c j e => by
  unfold fx_spot at e
  split at e
  · cases e; exact ⟨T.c_Vessel, T.n_Vessel_spot, rfl, show (["kind", "spot", "steps", "tack"] : List Str).Nodup by decide +kernel⟩
  · cases e
theorem fo_steps {X : Cx} (T : Txt w X.K mg base a) : FldOk X (gm X.K w a) "steps" fx_steps := fun c j e => by
  unfold fx_steps at e
  split at e
  · cases e; exact ⟨T.c_Vessel, T.n_Vessel_steps, rfl, show (["kind", "spot", "steps", "tack"] : List Str).Nodup by decide +kernel⟩
  · cases e
theorem fo_tack {X : Cx} (T : Txt w X.K mg base a) : FldOk X (gm X.K w a) "tack" fx_tack := fun c j e => by
  unfold fx_tack at e
  split at e
  · cases e; exact ⟨T.c_Vessel, T.n_Vessel_tack, rfl, show (["kind", "spot", "steps", "tack"] : List Str).Nodup by decide +kernel⟩
  · cases e
theorem tm_law_cases1 : (a.t_law_cases1, ("_law_cases1" : Str) ++ ".<locals>." ++ "<lambda>") ∈ tabsA a := by unfold tabsA; simp
theorem tu_law_cases1 (T : Txt w K mg base a) : ∀ p ∈ tabsA a, p.1 = a.t_law_cases1 → p.2 = ("_law_cases1" : Str) ++ ".<locals>." ++ "<lambda>" := fun p hp e => by
  unfold tabsA at hp
  simp only [List.mem_cons, List.not_mem_nil, or_false] at hp
  rcases hp with rfl | rfl
  · rfl
  · exact (T.ne_law_cases1_law e.symm).elim
theorem tm_law : (a.t_law, ("law" : Str) ++ ".<locals>." ++ "<lambda>") ∈ tabsA a := by unfold tabsA; simp
theorem tu_law (T : Txt w K mg base a) : ∀ p ∈ tabsA a, p.1 = a.t_law → p.2 = ("law" : Str) ++ ".<locals>." ++ "<lambda>" := fun p hp e => by
  unfold tabsA at hp
  simp only [List.mem_cons, List.not_mem_nil, or_false] at hp
  rcases hp with rfl | rfl
  · exact (T.ne_law_cases1_law e).elim
  · rfl
theorem gives_told {X : Cx} {cdg : Value} {g : Addr} {q : Str} (T : Txt w K mg base a) (hK : X.K = K) (hm : X.mg = mg) : GivesTo X ["what"] "_law_told" (defScope s_law_told) g cdg (defBody s_law_told) "what" q (TTm X.K (toldL.map fun p => ((gm K w a).xcls p.1, (⟨p.2.toArray⟩ : Str)))) := by
  subst hm
  exact told_many (X := X) (.cons (by rfl) T.x_BadBook.2.1 (by decide) (.cons (by rfl) T.x_BadFlag.2.1 (by decide) (.cons (by rfl) T.x_BadFleet.2.1 (by decide) (.cons (by rfl) T.x_BadHoist.2.1 (by decide) (.cons (by rfl) T.x_Foul (by decide) (.cons (by rfl) T.x_NoWay.2.1 (by decide) (.cons (by rfl) T.x_TooLarge.2.1 (by decide) (.cons (by rfl) T.x_Unclear (by decide) (.cons (by rfl) T.x_BadText (by decide) .nil))))))))) (fun _ => rfl)
theorem k_law_roll (T : Txt w K mg base a) : FnD P w K mg base (gm K w a) 1 "_law_roll" a.f_law_roll 2 rollD := by
  obtain ⟨fd, F, bd⟩ := T.e_law_roll
  exact ⟨⟨fd, _, rfl, ok_roll F T.b_int, bd⟩, rollD_len, F.kp, T.g_law_roll⟩
def F_Vessel_init : LE → R Out :=
    (seqS (ifS (orT (cmpT notInD (var 1) (cst d_KINDS)) (orT (cmpT notInD (var 4) (tupE (acons (cst (.str [])) (acons (cst (.str [112, 111, 114, 116])) (acons (cst (.str [115, 116, 97, 114, 98, 111, 97, 114, 100])) anil))))) (cmpT neD (opE neD (var 4) (cst (.str []))) (opE eqD (var 1) (cst (.str [115, 97, 105, 108, 105, 110, 103]))))))
    (errS ⟨3, .non⟩)
    skipS)
    (seqS (fldS fx_kind (var 1))
    (seqS (fldS fx_spot (var 2))
    (seqS (fldS fx_steps (var 3))
    (fldS fx_tack (var 4))))))
def D_Vessel_init : List D → R D := runI 0 4 4 5 F_Vessel_init
theorem k_Vessel_init (T : Txt w K mg base a) : MkD P w K mg base (gm K w a) 1 0 "Vessel" 4 D_Vessel_init := by
  exact mkD_E (G := gm K w a) (c := 0) T.e_Vessel_init sc_Vessel_init T.mk_Vessel T.g_Vessel rfl rfl rfl fun cdv A outer s H E hr =>
    (dss_cons (ds_if (dt_w (dw_or (dt_cmp (op_notin_d rfl (huD hr)) (DE.p (de_var 1)) (DE.p (de_gl T.v_KINDS))) (dw_or (dt_cmp (op_notin_d rfl (huD hr)) (DE.p (de_var 4)) (DE.p (de_tup (da_cons (de_str []) (da_cons (de_str [112, 111, 114, 116]) (da_cons (de_str [115, 116, 97, 114, 98, 111, 97, 114, 100]) da_nil)))))) (dw_or1 (dt_cmp (op_ne_d rfl (huD64 hr)) (DE.p (de_cmp (op_ne_d rfl (huD64 hr)) (DE.p (de_var 4)) (DE.p (de_str [])))) (DE.p (de_cmp (op_eq_d rfl (huD64 hr)) (DE.p (de_var 1)) (DE.p (de_str [115, 97, 105, 108, 105, 110, 103])))))))))
    (dss_one (ds_raise 3 takes_cxD rfl PySem.F.excBase_ValueError rfl rfl T.x_BadBook.1 T.x_BadBook.2.1 T.x_BadBook.2.2.1 (raises_own T.x_BadBook.2.2.2.1 T.x_BadBook.2.2.2.2)))
    dss_nil)
    (dss_cons (ds_field (fo_kind T) hsz (de_var 1))
    (dss_cons (ds_field (fo_spot T) hsz (de_var 2))
    (dss_cons (ds_field (fo_steps T) hsz (de_var 3))
    (dss_one (ds_field (fo_tack T) hsz (de_var 4)))))))
def F_law_vessel : LE → R Out :=
    (seqS (setK 1 (valK (subE (cst d_KINDS) (callE rollD (acons (var 0) (acons (cst (.int 5)) anil))))))
    (seqS (setK 2 (valK (iteE (cmpT eqD (var 1) (cst (.str [115, 97, 105, 108, 105, 110, 103]))) (subE (lE (lstE (acons (cst (.str [112, 111, 114, 116])) (acons (cst (.str [115, 116, 97, 114, 98, 111, 97, 114, 100])) anil)))) (callE rollD (acons (var 0) (acons (cst (.int 2)) anil)))) (cst (.str [])))))
    (retS (callE D_Vessel_init (acons (var 1) (acons (tupE (acons (callE rollD (acons (var 0) (acons (cst (.int 8)) anil))) (acons (callE rollD (acons (var 0) (acons (cst (.int 8)) anil))) anil))) (acons (tupE (acons (opE subD (callE rollD (acons (var 0) (acons (cst (.int 5)) anil))) (cst (.int 2))) (acons (opE subD (callE rollD (acons (var 0) (acons (cst (.int 5)) anil))) (cst (.int 2))) anil))) (acons (var 2) anil))))))))
def D_law_vessel : List D → R D := runF 1 3 F_law_vessel
theorem k_law_vessel (T : Txt w K mg base a) : FnD P w K mg base (gm K w a) 3 "_law_vessel" a.f_law_vessel 1 D_law_vessel := by
  exact fnD_E T.e_law_vessel sc_law_vessel T.g_law_vessel rfl rfl fun cdv A outer s H E hr =>
    (dss_cons (ds_set 1 (DE.k (de_sub rfl rfl (huD hr) (DE.p (de_gl T.v_KINDS)) (DE.p (de_call (k_law_roll T) (hr.mono (by decide)) takes_cxD (da_cons (de_var 0) (da_cons de_int da_nil)))) fun _ _ => rfl)) (by decide) sc_law_vessel.nd)
    (dss_cons (ds_set 2 (DE.k (de_if (dt_cmp (op_eq_d rfl (huD64 hr)) (DE.p (de_var 1)) (DE.p (de_str [115, 97, 105, 108, 105, 110, 103]))) (de_sub rfl rfl (huD hr) (DE.p (DF.e (df_lst (da_cons (de_str [112, 111, 114, 116]) (da_cons (de_str [115, 116, 97, 114, 98, 111, 97, 114, 100]) da_nil))))) (DE.p (de_call (k_law_roll T) (hr.mono (by decide)) takes_cxD (da_cons (de_var 0) (da_cons de_int da_nil)))) fun _ _ => rfl) (de_str []))) (by decide) sc_law_vessel.nd)
    (dss_one (ds_ret (de_make (k_Vessel_init T) (hr.mono (by decide)) takes_cxD (da_cons (de_var 1) (da_cons (de_tup (da_cons (de_call (k_law_roll T) (hr.mono (by decide)) takes_cxD (da_cons (de_var 0) (da_cons de_int da_nil))) (da_cons (de_call (k_law_roll T) (hr.mono (by decide)) takes_cxD (da_cons (de_var 0) (da_cons de_int da_nil))) da_nil))) (da_cons (de_tup (da_cons (de_op (op_sub_d) (DE.p (de_call (k_law_roll T) (hr.mono (by decide)) takes_cxD (da_cons (de_var 0) (da_cons de_int da_nil)))) (DE.p de_int)) (da_cons (de_op (op_sub_d) (DE.p (de_call (k_law_roll T) (hr.mono (by decide)) takes_cxD (da_cons (de_var 0) (da_cons de_int da_nil)))) (DE.p de_int)) da_nil))) (da_cons (de_var 2) da_nil)))))))))
def F_law_beside : LE → R Out :=
    (seqS (ifS (cmpT eqD (callE rollD (acons (var 0) (acons (cst (.int 2)) anil))) (cst (.int 1)))
    (retS (var 2))
    skipS)
    (seqS (par3S 3 4 5 (opE subD (callE rollD (acons (var 0) (acons (cst (.int 7)) anil))) (cst (.int 3))) (opE subD (callE rollD (acons (var 0) (acons (cst (.int 4)) anil))) (cst (.int 1))) (callE rollD (acons (var 0) (acons (cst (.int 2)) anil))))
    (seqS (setK 6 (valK (tupE (acons (opE addD (opE addD (subE (fldE fx_spot (var 1)) (cst (.int 0))) (opE mulD (var 3) (subE (fldE fx_steps (var 1)) (cst (.int 0))))) (var 5)) (acons (opE addD (subE (fldE fx_spot (var 1)) (cst (.int 1))) (opE mulD (var 3) (subE (fldE fx_steps (var 1)) (cst (.int 1))))) anil)))))
    (retS (callE D_Vessel_init (acons (fldE fx_kind (var 2)) (acons (var 6) (acons (tupE (acons (opE mulD (var 4) (subE (fldE fx_steps (var 1)) (cst (.int 0)))) (acons (opE mulD (var 4) (subE (fldE fx_steps (var 1)) (cst (.int 1)))) anil))) (acons (fldE fx_tack (var 2)) anil)))))))))
def D_law_beside : List D → R D := runF 3 7 F_law_beside
theorem k_law_beside (T : Txt w K mg base a) : FnD P w K mg base (gm K w a) 3 "_law_beside" a.f_law_beside 3 D_law_beside := by
  exact fnD_E T.e_law_beside sc_law_beside T.g_law_beside rfl rfl fun cdv A outer s H E hr =>
    (dss_cons (ds_if (dt_cmp (op_eq_d rfl (huD64 hr)) (DE.p (de_call (k_law_roll T) (hr.mono (by decide)) takes_cxD (da_cons (de_var 0) (da_cons de_int da_nil)))) (DE.p de_int))
    (dss_one (ds_ret (de_var 2)))
    dss_nil)
    (dss_cons (ds_par3 3 4 5 rfl sc_law_beside.nd (by decide) (by decide) (by decide) (de_op (op_sub_d) (DE.p (de_call (k_law_roll T) (hr.mono (by decide)) takes_cxD (da_cons (de_var 0) (da_cons de_int da_nil)))) (DE.p de_int)) (de_op (op_sub_d) (DE.p (de_call (k_law_roll T) (hr.mono (by decide)) takes_cxD (da_cons (de_var 0) (da_cons de_int da_nil)))) (DE.p de_int)) (de_call (k_law_roll T) (hr.mono (by decide)) takes_cxD (da_cons (de_var 0) (da_cons de_int da_nil))))
    (dss_cons (ds_set 6 (DE.k (de_tup (da_cons (de_op (op_add_d rfl) (DE.p (de_op (op_add_d rfl) (DE.p (de_sub rfl rfl (huD hr) (DE.p (de_fld (fo_spot T) (de_var 1))) (DE.p de_int) fun _ _ => rfl)) (DE.p (de_op (op_mul_d) (DE.p (de_var 3)) (DE.p (de_sub rfl rfl (huD hr) (DE.p (de_fld (fo_steps T) (de_var 1))) (DE.p de_int) fun _ _ => rfl)))))) (DE.p (de_var 5))) (da_cons (de_op (op_add_d rfl) (DE.p (de_sub rfl rfl (huD hr) (DE.p (de_fld (fo_spot T) (de_var 1))) (DE.p de_int) fun _ _ => rfl)) (DE.p (de_op (op_mul_d) (DE.p (de_var 3)) (DE.p (de_sub rfl rfl (huD hr) (DE.p (de_fld (fo_steps T) (de_var 1))) (DE.p de_int) fun _ _ => rfl))))) da_nil)))) (by decide) sc_law_beside.nd)
    (dss_one (ds_ret (de_make (k_Vessel_init T) (hr.mono (by decide)) takes_cxD (da_cons (de_fld (fo_kind T) (de_var 2)) (da_cons (de_var 6) (da_cons (de_tup (da_cons (de_op (op_mul_d) (DE.p (de_var 4)) (DE.p (de_sub rfl rfl (huD hr) (DE.p (de_fld (fo_steps T) (de_var 1))) (DE.p de_int) fun _ _ => rfl))) (da_cons (de_op (op_mul_d) (DE.p (de_var 4)) (DE.p (de_sub rfl rfl (huD hr) (DE.p (de_fld (fo_steps T) (de_var 1))) (DE.p de_int) fun _ _ => rfl))) da_nil))) (da_cons (de_fld (fo_tack T) (de_var 2)) da_nil))))))))))
def F_law_side : LE → R Out :=
    (seqS (parK 2 3 (valK (opE subD (subE (fldE fx_spot (var 1)) (cst (.int 0))) (subE (fldE fx_spot (var 0)) (cst (.int 0))))) (valK (opE subD (subE (fldE fx_spot (var 1)) (cst (.int 1))) (subE (fldE fx_spot (var 0)) (cst (.int 1))))))
    (seqS (ifS (orT (cmpT eqD (fldE fx_steps (var 0)) (tupE (acons (cst (.int 0)) (acons (cst (.int 0)) anil)))) (cmpT eqD (tupE (acons (var 2) (acons (var 3) anil))) (tupE (acons (cst (.int 0)) (acons (cst (.int 0)) anil)))))
    (retS (cst (.str [110, 111, 32, 119, 97, 121])))
    skipS)
    (seqS (parK 4 5 (valK (opE subD (opE mulD (subE (fldE fx_steps (var 0)) (cst (.int 0))) (var 3)) (opE mulD (subE (fldE fx_steps (var 0)) (cst (.int 1))) (var 2)))) (valK (opE addD (opE mulD (var 2) (subE (fldE fx_steps (var 0)) (cst (.int 0)))) (opE mulD (var 3) (subE (fldE fx_steps (var 0)) (cst (.int 1)))))))
    (retS (iteE (cmpT gtD (var 4) (cst (.int 0))) (cst (.str [112, 111, 114, 116])) (iteE (cmpT ltD (var 4) (cst (.int 0))) (cst (.str [115, 116, 97, 114, 98, 111, 97, 114, 100])) (iteE (cmpT gtD (var 5) (cst (.int 0))) (cst (.str [97, 104, 101, 97, 100])) (cst (.str [97, 115, 116, 101, 114, 110])))))))))
def D_law_side : List D → R D := runF 2 6 F_law_side
theorem k_law_side (T : Txt w K mg base a) : FnD P w K mg base (gm K w a) 1 "_law_side" a.f_law_side 2 D_law_side := by
  exact fnD_E T.e_law_side sc_law_side T.g_law_side rfl rfl fun cdv A outer s H E hr =>
    (dss_cons (ds_par 2 3 rfl sc_law_side.nd (by decide) (by decide) (by decide) (DE.k (de_op (op_sub_d) (DE.p (de_sub rfl rfl (huD hr) (DE.p (de_fld (fo_spot T) (de_var 1))) (DE.p de_int) fun _ _ => rfl)) (DE.p (de_sub rfl rfl (huD hr) (DE.p (de_fld (fo_spot T) (de_var 0))) (DE.p de_int) fun _ _ => rfl)))) (DE.k (de_op (op_sub_d) (DE.p (de_sub rfl rfl (huD hr) (DE.p (de_fld (fo_spot T) (de_var 1))) (DE.p de_int) fun _ _ => rfl)) (DE.p (de_sub rfl rfl (huD hr) (DE.p (de_fld (fo_spot T) (de_var 0))) (DE.p de_int) fun _ _ => rfl)))))
    (dss_cons (ds_if (dt_w (dw_or (dt_cmp (op_eq_d rfl (huD64 hr)) (DE.p (de_fld (fo_steps T) (de_var 0))) (DE.p (de_tup (da_cons de_int (da_cons de_int da_nil))))) (dw_or1 (dt_cmp (op_eq_d rfl (huD64 hr)) (DE.p (de_tup (da_cons (de_var 2) (da_cons (de_var 3) da_nil)))) (DE.p (de_tup (da_cons de_int (da_cons de_int da_nil))))))))
    (dss_one (ds_ret (de_str [110, 111, 32, 119, 97, 121])))
    dss_nil)
    (dss_cons (ds_par 4 5 rfl sc_law_side.nd (by decide) (by decide) (by decide) (DE.k (de_op (op_sub_d) (DE.p (de_op (op_mul_d) (DE.p (de_sub rfl rfl (huD hr) (DE.p (de_fld (fo_steps T) (de_var 0))) (DE.p de_int) fun _ _ => rfl)) (DE.p (de_var 3)))) (DE.p (de_op (op_mul_d) (DE.p (de_sub rfl rfl (huD hr) (DE.p (de_fld (fo_steps T) (de_var 0))) (DE.p de_int) fun _ _ => rfl)) (DE.p (de_var 2)))))) (DE.k (de_op (op_add_d rfl) (DE.p (de_op (op_mul_d) (DE.p (de_var 2)) (DE.p (de_sub rfl rfl (huD hr) (DE.p (de_fld (fo_steps T) (de_var 0))) (DE.p de_int) fun _ _ => rfl)))) (DE.p (de_op (op_mul_d) (DE.p (de_var 3)) (DE.p (de_sub rfl rfl (huD hr) (DE.p (de_fld (fo_steps T) (de_var 0))) (DE.p de_int) fun _ _ => rfl)))))))
    (dss_one (ds_ret (de_if (dt_cmp (op_gt_d) (DE.p (de_var 4)) (DE.p de_int)) (de_str [112, 111, 114, 116]) (de_if (dt_cmp (op_lt_d) (DE.p (de_var 4)) (DE.p de_int)) (de_str [115, 116, 97, 114, 98, 111, 97, 114, 100]) (de_if (dt_cmp (op_gt_d) (DE.p (de_var 5)) (DE.p de_int)) (de_str [97, 104, 101, 97, 100]) (de_str [97, 115, 116, 101, 114, 110])))))))))
def F_Vessel_side_of_vessel : LE → R Out :=
    (seqS (parK 2 3 (valK (opE subD (subE (fldE fx_spot (var 1)) (cst (.int 0))) (subE (fldE fx_spot (var 0)) (cst (.int 0))))) (valK (opE subD (subE (fldE fx_spot (var 1)) (cst (.int 1))) (subE (fldE fx_spot (var 0)) (cst (.int 1))))))
    (seqS (ifS (orT (cmpT eqD (fldE fx_steps (var 0)) (tupE (acons (cst (.int 0)) (acons (cst (.int 0)) anil)))) (andT (cmpT eqD (var 2) (cst (.int 0))) (cmpT eqD (var 3) (cst (.int 0)))))
    (errS ⟨7, .non⟩)
    skipS)
    (seqS (setK 4 (valK (opE addD (opE mulD (var 2) (subE (fldE fx_steps (var 0)) (cst (.int 0)))) (opE mulD (var 3) (subE (fldE fx_steps (var 0)) (cst (.int 1)))))))
    (seqS (setK 5 (valK (opE subD (opE mulD (subE (fldE fx_steps (var 0)) (cst (.int 0))) (var 3)) (opE mulD (subE (fldE fx_steps (var 0)) (cst (.int 1))) (var 2)))))
    (seqS (ifS (cmpT eqD (var 5) (cst (.int 0)))
    (retS (iteE (cmpT gtD (var 4) (cst (.int 0))) (cst (.str [97, 104, 101, 97, 100])) (cst (.str [97, 115, 116, 101, 114, 110]))))
    skipS)
    (retS (iteE (cmpT gtD (var 5) (cst (.int 0))) (cst (.str [112, 111, 114, 116])) (cst (.str [115, 116, 97, 114, 98, 111, 97, 114, 100])))))))))
def D_Vessel_side_of_vessel : List D → R D := runF 2 6 F_Vessel_side_of_vessel
theorem k_Vessel_side_of_vessel (T : Txt w K mg base a) : MeD P w K mg base (gm K w a) 1 0 "side_of_vessel" 2 D_Vessel_side_of_vessel := by
  exact meD_E (G := gm K w a) (c := 0) T.e_Vessel_side_of_vessel sc_Vessel_side_of_vessel T.mt_Vessel_side_of_vessel T.c_Vessel (show ("side_of_vessel" : Str) ∉ (["kind", "spot", "steps", "tack"] : List Str) by decide +kernel) rfl rfl fun cdv A outer s H E hr =>
    (dss_cons (ds_par 2 3 rfl sc_Vessel_side_of_vessel.nd (by decide) (by decide) (by decide) (DE.k (de_op (op_sub_d) (DE.p (de_sub rfl rfl (huD hr) (DE.p (de_fld (fo_spot T) (de_var 1))) (DE.p de_int) fun _ _ => rfl)) (DE.p (de_sub rfl rfl (huD hr) (DE.p (de_fld (fo_spot T) (de_var 0))) (DE.p de_int) fun _ _ => rfl)))) (DE.k (de_op (op_sub_d) (DE.p (de_sub rfl rfl (huD hr) (DE.p (de_fld (fo_spot T) (de_var 1))) (DE.p de_int) fun _ _ => rfl)) (DE.p (de_sub rfl rfl (huD hr) (DE.p (de_fld (fo_spot T) (de_var 0))) (DE.p de_int) fun _ _ => rfl)))))
    (dss_cons (ds_if (dt_w (dw_or (dt_cmp (op_eq_d rfl (huD64 hr)) (DE.p (de_fld (fo_steps T) (de_var 0))) (DE.p (de_tup (da_cons de_int (da_cons de_int da_nil))))) (dw_or1 (dt_w (dw_and (dt_cmp (op_eq_d rfl (huD64 hr)) (DE.p (de_var 2)) (DE.p de_int)) (dw_and1 (dt_cmp (op_eq_d rfl (huD64 hr)) (DE.p (de_var 3)) (DE.p de_int))))))))
    (dss_one (ds_raise 7 takes_cxD rfl PySem.F.excBase_ValueError rfl rfl T.x_NoWay.1 T.x_NoWay.2.1 T.x_NoWay.2.2.1 (raises_own T.x_NoWay.2.2.2.1 T.x_NoWay.2.2.2.2)))
    dss_nil)
    (dss_cons (ds_set 4 (DE.k (de_op (op_add_d rfl) (DE.p (de_op (op_mul_d) (DE.p (de_var 2)) (DE.p (de_sub rfl rfl (huD hr) (DE.p (de_fld (fo_steps T) (de_var 0))) (DE.p de_int) fun _ _ => rfl)))) (DE.p (de_op (op_mul_d) (DE.p (de_var 3)) (DE.p (de_sub rfl rfl (huD hr) (DE.p (de_fld (fo_steps T) (de_var 0))) (DE.p de_int) fun _ _ => rfl)))))) (by decide) sc_Vessel_side_of_vessel.nd)
    (dss_cons (ds_set 5 (DE.k (de_op (op_sub_d) (DE.p (de_op (op_mul_d) (DE.p (de_sub rfl rfl (huD hr) (DE.p (de_fld (fo_steps T) (de_var 0))) (DE.p de_int) fun _ _ => rfl)) (DE.p (de_var 3)))) (DE.p (de_op (op_mul_d) (DE.p (de_sub rfl rfl (huD hr) (DE.p (de_fld (fo_steps T) (de_var 0))) (DE.p de_int) fun _ _ => rfl)) (DE.p (de_var 2)))))) (by decide) sc_Vessel_side_of_vessel.nd)
    (dss_cons (ds_if (dt_cmp (op_eq_d rfl (huD64 hr)) (DE.p (de_var 5)) (DE.p de_int))
    (dss_one (ds_ret (de_if (dt_cmp (op_gt_d) (DE.p (de_var 4)) (DE.p de_int)) (de_str [97, 104, 101, 97, 100]) (de_str [97, 115, 116, 101, 114, 110]))))
    dss_nil)
    (dss_one (ds_ret (de_if (dt_cmp (op_gt_d) (DE.p (de_var 5)) (DE.p de_int)) (de_str [112, 111, 114, 116]) (de_str [115, 116, 97, 114, 98, 111, 97, 114, 100])))))))))
def F_square : LE → R Out :=
    (retS (opE addD (opE mulD (subE (var 0) (cst (.int 0))) (subE (var 0) (cst (.int 0)))) (opE mulD (subE (var 0) (cst (.int 1))) (subE (var 0) (cst (.int 1))))))
def D_square : List D → R D := runF 1 1 F_square
theorem k_square (T : Txt w K mg base a) : FnD P w K mg base (gm K w a) 1 "square" a.f_square 1 D_square := by
  exact fnD_E T.e_square sc_square T.g_square rfl rfl fun cdv A outer s H E hr =>
    (dss_one (ds_ret (de_op (op_add_d rfl) (DE.p (de_op (op_mul_d) (DE.p (de_sub rfl rfl (huD hr) (DE.p (de_var 0)) (DE.p de_int) fun _ _ => rfl)) (DE.p (de_sub rfl rfl (huD hr) (DE.p (de_var 0)) (DE.p de_int) fun _ _ => rfl)))) (DE.p (de_op (op_mul_d) (DE.p (de_sub rfl rfl (huD hr) (DE.p (de_var 0)) (DE.p de_int) fun _ _ => rfl)) (DE.p (de_sub rfl rfl (huD hr) (DE.p (de_var 0)) (DE.p de_int) fun _ _ => rfl)))))))
def F_Vessel_overtakes : LE → R Out :=
    (seqS (parK 2 3 (valK (opE subD (subE (fldE fx_spot (var 0)) (cst (.int 0))) (subE (fldE fx_spot (var 1)) (cst (.int 0))))) (valK (opE subD (subE (fldE fx_spot (var 0)) (cst (.int 1))) (subE (fldE fx_spot (var 1)) (cst (.int 1))))))
    (seqS (setK 4 (valK (opE ltD (opE addD (opE mulD (var 2) (subE (fldE fx_steps (var 1)) (cst (.int 0)))) (opE mulD (var 3) (subE (fldE fx_steps (var 1)) (cst (.int 1))))) (cst (.int 0)))))
    (seqS (setK 5 (valK (opE gtD (opE addD (opE mulD (subE (fldE fx_steps (var 0)) (cst (.int 0))) (subE (fldE fx_steps (var 1)) (cst (.int 0)))) (opE mulD (subE (fldE fx_steps (var 0)) (cst (.int 1))) (subE (fldE fx_steps (var 1)) (cst (.int 1))))) (callE D_square (acons (fldE fx_steps (var 1)) anil)))))
    (retS (andV (var 4) (var 5))))))
def D_Vessel_overtakes : List D → R D := runF 2 6 F_Vessel_overtakes
theorem k_Vessel_overtakes (T : Txt w K mg base a) : MeD P w K mg base (gm K w a) 2 0 "overtakes" 2 D_Vessel_overtakes := by
  exact meD_E (G := gm K w a) (c := 0) T.e_Vessel_overtakes sc_Vessel_overtakes T.mt_Vessel_overtakes T.c_Vessel (show ("overtakes" : Str) ∉ (["kind", "spot", "steps", "tack"] : List Str) by decide +kernel) rfl rfl fun cdv A outer s H E hr =>
    (dss_cons (ds_par 2 3 rfl sc_Vessel_overtakes.nd (by decide) (by decide) (by decide) (DE.k (de_op (op_sub_d) (DE.p (de_sub rfl rfl (huD hr) (DE.p (de_fld (fo_spot T) (de_var 0))) (DE.p de_int) fun _ _ => rfl)) (DE.p (de_sub rfl rfl (huD hr) (DE.p (de_fld (fo_spot T) (de_var 1))) (DE.p de_int) fun _ _ => rfl)))) (DE.k (de_op (op_sub_d) (DE.p (de_sub rfl rfl (huD hr) (DE.p (de_fld (fo_spot T) (de_var 0))) (DE.p de_int) fun _ _ => rfl)) (DE.p (de_sub rfl rfl (huD hr) (DE.p (de_fld (fo_spot T) (de_var 1))) (DE.p de_int) fun _ _ => rfl)))))
    (dss_cons (ds_set 4 (DE.k (de_cmp (op_lt_d) (DE.p (de_op (op_add_d rfl) (DE.p (de_op (op_mul_d) (DE.p (de_var 2)) (DE.p (de_sub rfl rfl (huD hr) (DE.p (de_fld (fo_steps T) (de_var 1))) (DE.p de_int) fun _ _ => rfl)))) (DE.p (de_op (op_mul_d) (DE.p (de_var 3)) (DE.p (de_sub rfl rfl (huD hr) (DE.p (de_fld (fo_steps T) (de_var 1))) (DE.p de_int) fun _ _ => rfl)))))) (DE.p de_int))) (by decide) sc_Vessel_overtakes.nd)
    (dss_cons (ds_set 5 (DE.k (de_cmp (op_gt_d) (DE.p (de_op (op_add_d rfl) (DE.p (de_op (op_mul_d) (DE.p (de_sub rfl rfl (huD hr) (DE.p (de_fld (fo_steps T) (de_var 0))) (DE.p de_int) fun _ _ => rfl)) (DE.p (de_sub rfl rfl (huD hr) (DE.p (de_fld (fo_steps T) (de_var 1))) (DE.p de_int) fun _ _ => rfl)))) (DE.p (de_op (op_mul_d) (DE.p (de_sub rfl rfl (huD hr) (DE.p (de_fld (fo_steps T) (de_var 0))) (DE.p de_int) fun _ _ => rfl)) (DE.p (de_sub rfl rfl (huD hr) (DE.p (de_fld (fo_steps T) (de_var 1))) (DE.p de_int) fun _ _ => rfl)))))) (DE.p (de_call (k_square T) (hr.mono (by decide)) takes_cxD (da_cons (de_fld (fo_steps T) (de_var 1)) da_nil))))) (by decide) sc_Vessel_overtakes.nd)
    (dss_one (ds_ret (de_and (de_var 4) (de_one (de_var 5))))))))
def F_law_over : LE → R Out :=
    (seqS (parK 2 3 (valK (opE subD (subE (fldE fx_spot (var 0)) (cst (.int 0))) (subE (fldE fx_spot (var 1)) (cst (.int 0))))) (valK (opE subD (subE (fldE fx_spot (var 0)) (cst (.int 1))) (subE (fldE fx_spot (var 1)) (cst (.int 1))))))
    (seqS (setK 4 (valK (opE addD (opE mulD (subE (fldE fx_steps (var 1)) (cst (.int 0))) (subE (fldE fx_steps (var 1)) (cst (.int 0)))) (opE mulD (subE (fldE fx_steps (var 1)) (cst (.int 1))) (subE (fldE fx_steps (var 1)) (cst (.int 1)))))))
    (seqS (ifS (notT (cmpT ltD (opE addD (opE mulD (var 2) (subE (fldE fx_steps (var 1)) (cst (.int 0)))) (opE mulD (var 3) (subE (fldE fx_steps (var 1)) (cst (.int 1))))) (cst (.int 0))))
    (retS (cst (.bl false)))
    skipS)
    (retS (opE gtD (opE addD (opE mulD (subE (fldE fx_steps (var 0)) (cst (.int 0))) (subE (fldE fx_steps (var 1)) (cst (.int 0)))) (opE mulD (subE (fldE fx_steps (var 0)) (cst (.int 1))) (subE (fldE fx_steps (var 1)) (cst (.int 1))))) (var 4))))))
def D_law_over : List D → R D := runF 2 5 F_law_over
theorem k_law_over (T : Txt w K mg base a) : FnD P w K mg base (gm K w a) 1 "_law_over" a.f_law_over 2 D_law_over := by
  exact fnD_E T.e_law_over sc_law_over T.g_law_over rfl rfl fun cdv A outer s H E hr =>
    (dss_cons (ds_par 2 3 rfl sc_law_over.nd (by decide) (by decide) (by decide) (DE.k (de_op (op_sub_d) (DE.p (de_sub rfl rfl (huD hr) (DE.p (de_fld (fo_spot T) (de_var 0))) (DE.p de_int) fun _ _ => rfl)) (DE.p (de_sub rfl rfl (huD hr) (DE.p (de_fld (fo_spot T) (de_var 1))) (DE.p de_int) fun _ _ => rfl)))) (DE.k (de_op (op_sub_d) (DE.p (de_sub rfl rfl (huD hr) (DE.p (de_fld (fo_spot T) (de_var 0))) (DE.p de_int) fun _ _ => rfl)) (DE.p (de_sub rfl rfl (huD hr) (DE.p (de_fld (fo_spot T) (de_var 1))) (DE.p de_int) fun _ _ => rfl)))))
    (dss_cons (ds_set 4 (DE.k (de_op (op_add_d rfl) (DE.p (de_op (op_mul_d) (DE.p (de_sub rfl rfl (huD hr) (DE.p (de_fld (fo_steps T) (de_var 1))) (DE.p de_int) fun _ _ => rfl)) (DE.p (de_sub rfl rfl (huD hr) (DE.p (de_fld (fo_steps T) (de_var 1))) (DE.p de_int) fun _ _ => rfl)))) (DE.p (de_op (op_mul_d) (DE.p (de_sub rfl rfl (huD hr) (DE.p (de_fld (fo_steps T) (de_var 1))) (DE.p de_int) fun _ _ => rfl)) (DE.p (de_sub rfl rfl (huD hr) (DE.p (de_fld (fo_steps T) (de_var 1))) (DE.p de_int) fun _ _ => rfl)))))) (by decide) sc_law_over.nd)
    (dss_cons (ds_if (dt_not (dt_cmp (op_lt_d) (DE.p (de_op (op_add_d rfl) (DE.p (de_op (op_mul_d) (DE.p (de_var 2)) (DE.p (de_sub rfl rfl (huD hr) (DE.p (de_fld (fo_steps T) (de_var 1))) (DE.p de_int) fun _ _ => rfl)))) (DE.p (de_op (op_mul_d) (DE.p (de_var 3)) (DE.p (de_sub rfl rfl (huD hr) (DE.p (de_fld (fo_steps T) (de_var 1))) (DE.p de_int) fun _ _ => rfl)))))) (DE.p de_int)))
    (dss_one (ds_ret de_bl))
    dss_nil)
    (dss_one (ds_ret (de_cmp (op_gt_d) (DE.p (de_op (op_add_d rfl) (DE.p (de_op (op_mul_d) (DE.p (de_sub rfl rfl (huD hr) (DE.p (de_fld (fo_steps T) (de_var 0))) (DE.p de_int) fun _ _ => rfl)) (DE.p (de_sub rfl rfl (huD hr) (DE.p (de_fld (fo_steps T) (de_var 1))) (DE.p de_int) fun _ _ => rfl)))) (DE.p (de_op (op_mul_d) (DE.p (de_sub rfl rfl (huD hr) (DE.p (de_fld (fo_steps T) (de_var 0))) (DE.p de_int) fun _ _ => rfl)) (DE.p (de_sub rfl rfl (huD hr) (DE.p (de_fld (fo_steps T) (de_var 1))) (DE.p de_int) fun _ _ => rfl)))))) (DE.p (de_var 4))))))))
def F_Vessel_shown_from_side : LE → R Out :=
    (seqS (setK 2 (valK (methE 0 D_Vessel_side_of_vessel (var 0) (acons (var 1) anil))))
    (seqS (ifS (cmpT eqD (var 2) (cst (.str [97, 104, 101, 97, 100])))
    (retS (cst (.str [98, 111, 116, 104])))
    skipS)
    (seqS (parK 3 4 (valK (opE subD (subE (fldE fx_spot (var 1)) (cst (.int 0))) (subE (fldE fx_spot (var 0)) (cst (.int 0))))) (valK (opE subD (subE (fldE fx_spot (var 1)) (cst (.int 1))) (subE (fldE fx_spot (var 0)) (cst (.int 1))))))
    (seqS (ifS (orT (cmpT eqD (var 2) (cst (.str [97, 115, 116, 101, 114, 110]))) (cmpT ltD (opE addD (opE mulD (var 3) (subE (fldE fx_steps (var 0)) (cst (.int 0)))) (opE mulD (var 4) (subE (fldE fx_steps (var 0)) (cst (.int 1))))) (cst (.int 0))))
    (retS (cst (.str [115, 116, 101, 114, 110])))
    skipS)
    (retS (iteE (cmpT eqD (var 2) (cst (.str [112, 111, 114, 116]))) (cst (.str [114, 101, 100])) (cst (.str [103, 114, 101, 101, 110]))))))))
def D_Vessel_shown_from_side : List D → R D := runF 2 5 F_Vessel_shown_from_side
theorem k_Vessel_shown_from_side (T : Txt w K mg base a) : MeD P w K mg base (gm K w a) 2 0 "shown_from_side" 2 D_Vessel_shown_from_side := by
  exact meD_E (G := gm K w a) (c := 0) T.e_Vessel_shown_from_side sc_Vessel_shown_from_side T.mt_Vessel_shown_from_side T.c_Vessel (show ("shown_from_side" : Str) ∉ (["kind", "spot", "steps", "tack"] : List Str) by decide +kernel) rfl rfl fun cdv A outer s H E hr =>
    (dss_cons (ds_set 2 (DE.k (de_meth (k_Vessel_side_of_vessel T) (hr.mono (by decide)) takes_cxD (de_var 0) (da_cons (de_var 1) da_nil))) (by decide) sc_Vessel_shown_from_side.nd)
    (dss_cons (ds_if (dt_cmp (op_eq_d rfl (huD64 hr)) (DE.p (de_var 2)) (DE.p (de_str [97, 104, 101, 97, 100])))
    (dss_one (ds_ret (de_str [98, 111, 116, 104])))
    dss_nil)
    (dss_cons (ds_par 3 4 rfl sc_Vessel_shown_from_side.nd (by decide) (by decide) (by decide) (DE.k (de_op (op_sub_d) (DE.p (de_sub rfl rfl (huD hr) (DE.p (de_fld (fo_spot T) (de_var 1))) (DE.p de_int) fun _ _ => rfl)) (DE.p (de_sub rfl rfl (huD hr) (DE.p (de_fld (fo_spot T) (de_var 0))) (DE.p de_int) fun _ _ => rfl)))) (DE.k (de_op (op_sub_d) (DE.p (de_sub rfl rfl (huD hr) (DE.p (de_fld (fo_spot T) (de_var 1))) (DE.p de_int) fun _ _ => rfl)) (DE.p (de_sub rfl rfl (huD hr) (DE.p (de_fld (fo_spot T) (de_var 0))) (DE.p de_int) fun _ _ => rfl)))))
    (dss_cons (ds_if (dt_w (dw_or (dt_cmp (op_eq_d rfl (huD64 hr)) (DE.p (de_var 2)) (DE.p (de_str [97, 115, 116, 101, 114, 110]))) (dw_or1 (dt_cmp (op_lt_d) (DE.p (de_op (op_add_d rfl) (DE.p (de_op (op_mul_d) (DE.p (de_var 3)) (DE.p (de_sub rfl rfl (huD hr) (DE.p (de_fld (fo_steps T) (de_var 0))) (DE.p de_int) fun _ _ => rfl)))) (DE.p (de_op (op_mul_d) (DE.p (de_var 4)) (DE.p (de_sub rfl rfl (huD hr) (DE.p (de_fld (fo_steps T) (de_var 0))) (DE.p de_int) fun _ _ => rfl)))))) (DE.p de_int)))))
    (dss_one (ds_ret (de_str [115, 116, 101, 114, 110])))
    dss_nil)
    (dss_one (ds_ret (de_if (dt_cmp (op_eq_d rfl (huD64 hr)) (DE.p (de_var 2)) (DE.p (de_str [112, 111, 114, 116]))) (de_str [114, 101, 100]) (de_str [103, 114, 101, 101, 110]))))))))
def F_Vessel_meets_head_on : LE → R Out :=
    (seqS (setK 2 (valK (opE eqD (opE mulD (subE (fldE fx_steps (var 0)) (cst (.int 0))) (subE (fldE fx_steps (var 1)) (cst (.int 1)))) (opE mulD (subE (fldE fx_steps (var 0)) (cst (.int 1))) (subE (fldE fx_steps (var 1)) (cst (.int 0)))))))
    (seqS (setK 3 (valK (opE ltD (opE addD (opE mulD (subE (fldE fx_steps (var 0)) (cst (.int 0))) (subE (fldE fx_steps (var 1)) (cst (.int 0)))) (opE mulD (subE (fldE fx_steps (var 0)) (cst (.int 1))) (subE (fldE fx_steps (var 1)) (cst (.int 1))))) (cst (.int 0)))))
    (retS (andV (var 2) (andV (var 3) (andV (opE eqD (methE 0 D_Vessel_side_of_vessel (var 0) (acons (var 1) anil)) (cst (.str [97, 104, 101, 97, 100]))) (opE eqD (methE 0 D_Vessel_side_of_vessel (var 1) (acons (var 0) anil)) (cst (.str [97, 104, 101, 97, 100])))))))))
def D_Vessel_meets_head_on : List D → R D := runF 2 4 F_Vessel_meets_head_on
theorem k_Vessel_meets_head_on (T : Txt w K mg base a) : MeD P w K mg base (gm K w a) 2 0 "meets_head_on" 2 D_Vessel_meets_head_on := by
  exact meD_E (G := gm K w a) (c := 0) T.e_Vessel_meets_head_on sc_Vessel_meets_head_on T.mt_Vessel_meets_head_on T.c_Vessel (show ("meets_head_on" : Str) ∉ (["kind", "spot", "steps", "tack"] : List Str) by decide +kernel) rfl rfl fun cdv A outer s H E hr =>
    (dss_cons (ds_set 2 (DE.k (de_cmp (op_eq_d rfl (huD64 hr)) (DE.p (de_op (op_mul_d) (DE.p (de_sub rfl rfl (huD hr) (DE.p (de_fld (fo_steps T) (de_var 0))) (DE.p de_int) fun _ _ => rfl)) (DE.p (de_sub rfl rfl (huD hr) (DE.p (de_fld (fo_steps T) (de_var 1))) (DE.p de_int) fun _ _ => rfl)))) (DE.p (de_op (op_mul_d) (DE.p (de_sub rfl rfl (huD hr) (DE.p (de_fld (fo_steps T) (de_var 0))) (DE.p de_int) fun _ _ => rfl)) (DE.p (de_sub rfl rfl (huD hr) (DE.p (de_fld (fo_steps T) (de_var 1))) (DE.p de_int) fun _ _ => rfl)))))) (by decide) sc_Vessel_meets_head_on.nd)
    (dss_cons (ds_set 3 (DE.k (de_cmp (op_lt_d) (DE.p (de_op (op_add_d rfl) (DE.p (de_op (op_mul_d) (DE.p (de_sub rfl rfl (huD hr) (DE.p (de_fld (fo_steps T) (de_var 0))) (DE.p de_int) fun _ _ => rfl)) (DE.p (de_sub rfl rfl (huD hr) (DE.p (de_fld (fo_steps T) (de_var 1))) (DE.p de_int) fun _ _ => rfl)))) (DE.p (de_op (op_mul_d) (DE.p (de_sub rfl rfl (huD hr) (DE.p (de_fld (fo_steps T) (de_var 0))) (DE.p de_int) fun _ _ => rfl)) (DE.p (de_sub rfl rfl (huD hr) (DE.p (de_fld (fo_steps T) (de_var 1))) (DE.p de_int) fun _ _ => rfl)))))) (DE.p de_int))) (by decide) sc_Vessel_meets_head_on.nd)
    (dss_one (ds_ret (de_and (de_var 2) (de_and (de_var 3) (de_and (de_cmp (op_eq_d rfl (huD64 hr)) (DE.p (de_meth (k_Vessel_side_of_vessel T) (hr.mono (by decide)) takes_cxD (de_var 0) (da_cons (de_var 1) da_nil))) (DE.p (de_str [97, 104, 101, 97, 100]))) (de_one (de_cmp (op_eq_d rfl (huD64 hr)) (DE.p (de_meth (k_Vessel_side_of_vessel T) (hr.mono (by decide)) takes_cxD (de_var 1) (da_cons (de_var 0) da_nil))) (DE.p (de_str [97, 104, 101, 97, 100])))))))))))
def F_by_sides : LE → R Out :=
    (seqS (ifS (orT (cmpT eqD (fldE fx_steps (var 0)) (tupE (acons (cst (.int 0)) (acons (cst (.int 0)) anil)))) (orT (cmpT eqD (fldE fx_steps (var 1)) (tupE (acons (cst (.int 0)) (acons (cst (.int 0)) anil)))) (cmpT eqD (fldE fx_spot (var 0)) (fldE fx_spot (var 1)))))
    (retS (cst (.str [110, 101, 105, 116, 104, 101, 114])))
    skipS)
    (seqS (ifS (valT (methE 0 D_Vessel_meets_head_on (var 0) (acons (var 1) anil)))
    (retS (cst (.str [98, 111, 116, 104])))
    skipS)
    (seqS (parK 2 3 (valK (opE eqD (methE 0 D_Vessel_side_of_vessel (var 0) (acons (var 1) anil)) (cst (.str [115, 116, 97, 114, 98, 111, 97, 114, 100])))) (valK (opE eqD (methE 0 D_Vessel_side_of_vessel (var 1) (acons (var 0) anil)) (cst (.str [115, 116, 97, 114, 98, 111, 97, 114, 100])))))
    (seqS (ifS (cmpT eqD (var 2) (var 3))
    (retS (cst (.str [110, 101, 105, 116, 104, 101, 114])))
    skipS)
    (retS (iteE (valT (var 2)) (cst (.str [102, 105, 114, 115, 116])) (cst (.str [115, 101, 99, 111, 110, 100]))))))))
def D_by_sides : List D → R D := runF 2 4 F_by_sides
theorem k_by_sides (T : Txt w K mg base a) : FnD P w K mg base (gm K w a) 3 "by_sides" a.f_by_sides 2 D_by_sides := by
  exact fnD_E T.e_by_sides sc_by_sides T.g_by_sides rfl rfl fun cdv A outer s H E hr =>
    (dss_cons (ds_if (dt_w (dw_or (dt_cmp (op_eq_d rfl (huD64 hr)) (DE.p (de_fld (fo_steps T) (de_var 0))) (DE.p (de_tup (da_cons de_int (da_cons de_int da_nil))))) (dw_or (dt_cmp (op_eq_d rfl (huD64 hr)) (DE.p (de_fld (fo_steps T) (de_var 1))) (DE.p (de_tup (da_cons de_int (da_cons de_int da_nil))))) (dw_or1 (dt_cmp (op_eq_d rfl (huD64 hr)) (DE.p (de_fld (fo_spot T) (de_var 0))) (DE.p (de_fld (fo_spot T) (de_var 1))))))))
    (dss_one (ds_ret (de_str [110, 101, 105, 116, 104, 101, 114])))
    dss_nil)
    (dss_cons (ds_if (dt_val (de_meth (k_Vessel_meets_head_on T) (hr.mono (by decide)) takes_cxD (de_var 0) (da_cons (de_var 1) da_nil)))
    (dss_one (ds_ret (de_str [98, 111, 116, 104])))
    dss_nil)
    (dss_cons (ds_par 2 3 rfl sc_by_sides.nd (by decide) (by decide) (by decide) (DE.k (de_cmp (op_eq_d rfl (huD64 hr)) (DE.p (de_meth (k_Vessel_side_of_vessel T) (hr.mono (by decide)) takes_cxD (de_var 0) (da_cons (de_var 1) da_nil))) (DE.p (de_str [115, 116, 97, 114, 98, 111, 97, 114, 100])))) (DE.k (de_cmp (op_eq_d rfl (huD64 hr)) (DE.p (de_meth (k_Vessel_side_of_vessel T) (hr.mono (by decide)) takes_cxD (de_var 1) (da_cons (de_var 0) da_nil))) (DE.p (de_str [115, 116, 97, 114, 98, 111, 97, 114, 100])))))
    (dss_cons (ds_if (dt_cmp (op_eq_d rfl (huD64 hr)) (DE.p (de_var 2)) (DE.p (de_var 3)))
    (dss_one (ds_ret (de_str [110, 101, 105, 116, 104, 101, 114])))
    dss_nil)
    (dss_one (ds_ret (de_if (dt_val (de_var 2)) (de_str [102, 105, 114, 115, 116]) (de_str [115, 101, 99, 111, 110, 100]))))))))
def F_must_give_way : LE → R Out :=
    (seqS (ifS (valT (methE 0 D_Vessel_overtakes (var 0) (acons (var 1) anil)))
    (retS (cst (.str [102, 105, 114, 115, 116])))
    skipS)
    (seqS (ifS (valT (methE 0 D_Vessel_overtakes (var 1) (acons (var 0) anil)))
    (retS (cst (.str [115, 101, 99, 111, 110, 100])))
    skipS)
    (seqS (parK 2 3 (valK (kbmE d_KINDS idxTp (acons (fldE fx_kind (var 0)) anil))) (valK (kbmE d_KINDS idxTp (acons (fldE fx_kind (var 1)) anil))))
    (seqS (ifS (cmpT neD (var 2) (var 3))
    (retS (iteE (cmpT gtD (var 2) (var 3)) (cst (.str [102, 105, 114, 115, 116])) (cst (.str [115, 101, 99, 111, 110, 100]))))
    skipS)
    (seqS (ifS (andT (cmpT eqD (fldE fx_kind (var 0)) (cst (.str [115, 97, 105, 108, 105, 110, 103]))) (cmpT neD (fldE fx_tack (var 0)) (fldE fx_tack (var 1))))
    (retS (iteE (cmpT eqD (fldE fx_tack (var 0)) (cst (.str [112, 111, 114, 116]))) (cst (.str [102, 105, 114, 115, 116])) (cst (.str [115, 101, 99, 111, 110, 100]))))
    skipS)
    (seqS (ifS (cmpT eqD (fldE fx_kind (var 0)) (cst (.str [112, 111, 119, 101, 114])))
    (retS (callE D_by_sides (acons (var 0) (acons (var 1) anil))))
    skipS)
    (retS (cst (.str [110, 101, 105, 116, 104, 101, 114])))))))))
def D_must_give_way : List D → R D := runF 2 4 F_must_give_way
theorem k_must_give_way (T : Txt w K mg base a) : FnD P w K mg base (gm K w a) 4 "must_give_way" a.f_must_give_way 2 D_must_give_way := by
  exact fnD_E T.e_must_give_way sc_must_give_way T.g_must_give_way rfl rfl fun cdv A outer s H E hr =>
    (dss_cons (ds_if (dt_val (de_meth (k_Vessel_overtakes T) (hr.mono (by decide)) takes_cxD (de_var 0) (da_cons (de_var 1) da_nil)))
    (dss_one (ds_ret (de_str [102, 105, 114, 115, 116])))
    dss_nil)
    (dss_cons (ds_if (dt_val (de_meth (k_Vessel_overtakes T) (hr.mono (by decide)) takes_cxD (de_var 1) (da_cons (de_var 0) da_nil)))
    (dss_one (ds_ret (de_str [115, 101, 99, 111, 110, 100])))
    dss_nil)
    (dss_cons (ds_par 2 3 rfl sc_must_give_way.nd (by decide) (by decide) (by decide) (DE.k (de_ktm T.kt_KINDS rfl (bm_index_tuple rfl) (dap_cons (DE.p (de_fld (fo_kind T) (de_var 0))) dap_nil))) (DE.k (de_ktm T.kt_KINDS rfl (bm_index_tuple rfl) (dap_cons (DE.p (de_fld (fo_kind T) (de_var 1))) dap_nil))))
    (dss_cons (ds_if (dt_cmp (op_ne_d rfl (huD64 hr)) (DE.p (de_var 2)) (DE.p (de_var 3)))
    (dss_one (ds_ret (de_if (dt_cmp (op_gt_d) (DE.p (de_var 2)) (DE.p (de_var 3))) (de_str [102, 105, 114, 115, 116]) (de_str [115, 101, 99, 111, 110, 100]))))
    dss_nil)
    (dss_cons (ds_if (dt_w (dw_and (dt_cmp (op_eq_d rfl (huD64 hr)) (DE.p (de_fld (fo_kind T) (de_var 0))) (DE.p (de_str [115, 97, 105, 108, 105, 110, 103]))) (dw_and1 (dt_cmp (op_ne_d rfl (huD64 hr)) (DE.p (de_fld (fo_tack T) (de_var 0))) (DE.p (de_fld (fo_tack T) (de_var 1)))))))
    (dss_one (ds_ret (de_if (dt_cmp (op_eq_d rfl (huD64 hr)) (DE.p (de_fld (fo_tack T) (de_var 0))) (DE.p (de_str [112, 111, 114, 116]))) (de_str [102, 105, 114, 115, 116]) (de_str [115, 101, 99, 111, 110, 100]))))
    dss_nil)
    (dss_cons (ds_if (dt_cmp (op_eq_d rfl (huD64 hr)) (DE.p (de_fld (fo_kind T) (de_var 0))) (DE.p (de_str [112, 111, 119, 101, 114])))
    (dss_one (ds_ret (de_call (k_by_sides T) (hr.mono (by decide)) takes_cxD (da_cons (de_var 0) (da_cons (de_var 1) da_nil)))))
    dss_nil)
    (dss_one (ds_ret (de_str [110, 101, 105, 116, 104, 101, 114])))))))))
def F_law_gives : LE → R Out :=
    (seqS (setK 2 (valK (lE (lstE (acons (cst (.str [110, 111, 116, 32, 117, 110, 100, 101, 114, 32, 99, 111, 109, 109, 97, 110, 100])) (acons (cst (.str [104, 97, 109, 112, 101, 114, 101, 100])) (acons (cst (.str [102, 105, 115, 104, 105, 110, 103])) (acons (cst (.str [115, 97, 105, 108, 105, 110, 103])) (acons (cst (.str [112, 111, 119, 101, 114])) anil)))))))))
    (seqS (ifS (orT (valT (callE D_law_over (acons (var 0) (acons (var 1) anil)))) (valT (callE D_law_over (acons (var 1) (acons (var 0) anil)))))
    (retS (iteE (valT (callE D_law_over (acons (var 0) (acons (var 1) anil)))) (cst (.str [102, 105, 114, 115, 116])) (cst (.str [115, 101, 99, 111, 110, 100]))))
    skipS)
    (seqS (ifS (cmpT neD (fldE fx_kind (var 0)) (fldE fx_kind (var 1)))
    (retS (iteE (cmpT gtD (bmE "list" idxLs (var 2) (acons (fldE fx_kind (var 0)) anil)) (bmE "list" idxLs (var 2) (acons (fldE fx_kind (var 1)) anil))) (cst (.str [102, 105, 114, 115, 116])) (cst (.str [115, 101, 99, 111, 110, 100]))))
    skipS)
    (seqS (ifS (cmpT eqD (fldE fx_kind (var 0)) (cst (.str [115, 97, 105, 108, 105, 110, 103])))
    (retS (iteE (cmpT eqD (fldE fx_tack (var 0)) (fldE fx_tack (var 1))) (cst (.str [110, 101, 105, 116, 104, 101, 114])) (iteE (cmpT eqD (fldE fx_tack (var 0)) (cst (.str [112, 111, 114, 116]))) (cst (.str [102, 105, 114, 115, 116])) (cst (.str [115, 101, 99, 111, 110, 100])))))
    skipS)
    (seqS (setK 3 (valK (tupE (acons (callE D_law_side (acons (var 0) (acons (var 1) anil))) (acons (callE D_law_side (acons (var 1) (acons (var 0) anil))) anil)))))
    (seqS (ifS (orT (cmpT neD (fldE fx_kind (var 0)) (cst (.str [112, 111, 119, 101, 114]))) (cmpT inD (cst (.str [110, 111, 32, 119, 97, 121])) (var 3)))
    (retS (cst (.str [110, 101, 105, 116, 104, 101, 114])))
    skipS)
    (seqS (setK 4 (valK (opE eqD (opE mulD (subE (fldE fx_steps (var 0)) (cst (.int 0))) (subE (fldE fx_steps (var 1)) (cst (.int 1)))) (opE mulD (subE (fldE fx_steps (var 0)) (cst (.int 1))) (subE (fldE fx_steps (var 1)) (cst (.int 0)))))))
    (seqS (ifS (andT (valT (var 4)) (cmpT eqD (var 3) (tupE (acons (cst (.str [97, 104, 101, 97, 100])) (acons (cst (.str [97, 104, 101, 97, 100])) anil)))))
    (retS (cst (.str [98, 111, 116, 104])))
    skipS)
    (seqS (setK 5 (ownK (compF (itT (var 3)) (gN 6) yesT (opE eqD (var 6) (cst (.str [115, 116, 97, 114, 98, 111, 97, 114, 100]))) [6])))
    (retS (iteE (cmpT eqD (subE (varP 5) (cst (.int 0))) (subE (varP 5) (cst (.int 1)))) (cst (.str [110, 101, 105, 116, 104, 101, 114])) (iteE (valT (subE (varP 5) (cst (.int 0)))) (cst (.str [102, 105, 114, 115, 116])) (cst (.str [115, 101, 99, 111, 110, 100]))))))))))))))
def D_law_gives : List D → R D := runF 2 7 F_law_gives
theorem k_law_gives (T : Txt w K mg base a) : FnD P w K mg base (gm K w a) 2 "_law_gives" a.f_law_gives 2 D_law_gives := by
  exact fnD_E T.e_law_gives sc_law_gives T.g_law_gives rfl rfl fun cdv A outer s H E hr =>
    (dss_cons (ds_set 2 (DE.k (DF.e (df_lst (da_cons (de_str [110, 111, 116, 32, 117, 110, 100, 101, 114, 32, 99, 111, 109, 109, 97, 110, 100]) (da_cons (de_str [104, 97, 109, 112, 101, 114, 101, 100]) (da_cons (de_str [102, 105, 115, 104, 105, 110, 103]) (da_cons (de_str [115, 97, 105, 108, 105, 110, 103]) (da_cons (de_str [112, 111, 119, 101, 114]) da_nil)))))))) (by decide) sc_law_gives.nd)
    (dss_cons (ds_if (dt_w (dw_or (dt_val (de_call (k_law_over T) (hr.mono (by decide)) takes_cxD (da_cons (de_var 0) (da_cons (de_var 1) da_nil)))) (dw_or1 (dt_val (de_call (k_law_over T) (hr.mono (by decide)) takes_cxD (da_cons (de_var 1) (da_cons (de_var 0) da_nil)))))))
    (dss_one (ds_ret (de_if (dt_val (de_call (k_law_over T) (hr.mono (by decide)) takes_cxD (da_cons (de_var 0) (da_cons (de_var 1) da_nil)))) (de_str [102, 105, 114, 115, 116]) (de_str [115, 101, 99, 111, 110, 100]))))
    dss_nil)
    (dss_cons (ds_if (dt_cmp (op_ne_d rfl (huD64 hr)) (DE.p (de_fld (fo_kind T) (de_var 0))) (DE.p (de_fld (fo_kind T) (de_var 1))))
    (dss_one (ds_ret (de_if (dt_cmp (op_gt_d) (DE.p (de_bm (bm_index_list rfl (huD hr)) rfl (DE.p (de_var 2)) (dap_cons (DE.p (de_fld (fo_kind T) (de_var 0))) dap_nil))) (DE.p (de_bm (bm_index_list rfl (huD hr)) rfl (DE.p (de_var 2)) (dap_cons (DE.p (de_fld (fo_kind T) (de_var 1))) dap_nil)))) (de_str [102, 105, 114, 115, 116]) (de_str [115, 101, 99, 111, 110, 100]))))
    dss_nil)
    (dss_cons (ds_if (dt_cmp (op_eq_d rfl (huD64 hr)) (DE.p (de_fld (fo_kind T) (de_var 0))) (DE.p (de_str [115, 97, 105, 108, 105, 110, 103])))
    (dss_one (ds_ret (de_if (dt_cmp (op_eq_d rfl (huD64 hr)) (DE.p (de_fld (fo_tack T) (de_var 0))) (DE.p (de_fld (fo_tack T) (de_var 1)))) (de_str [110, 101, 105, 116, 104, 101, 114]) (de_if (dt_cmp (op_eq_d rfl (huD64 hr)) (DE.p (de_fld (fo_tack T) (de_var 0))) (DE.p (de_str [112, 111, 114, 116]))) (de_str [102, 105, 114, 115, 116]) (de_str [115, 101, 99, 111, 110, 100])))))
    dss_nil)
    (dss_cons (ds_set 3 (DE.k (de_tup (da_cons (de_call (k_law_side T) (hr.mono (by decide)) takes_cxD (da_cons (de_var 0) (da_cons (de_var 1) da_nil))) (da_cons (de_call (k_law_side T) (hr.mono (by decide)) takes_cxD (da_cons (de_var 1) (da_cons (de_var 0) da_nil))) da_nil)))) (by decide) sc_law_gives.nd)
    (dss_cons (ds_if (dt_w (dw_or (dt_cmp (op_ne_d rfl (huD64 hr)) (DE.p (de_fld (fo_kind T) (de_var 0))) (DE.p (de_str [112, 111, 119, 101, 114]))) (dw_or1 (dt_cmp (op_in_d rfl (huD hr)) (DE.p (de_str [110, 111, 32, 119, 97, 121])) (DE.p (de_var 3))))))
    (dss_one (ds_ret (de_str [110, 101, 105, 116, 104, 101, 114])))
    dss_nil)
    (dss_cons (ds_set 4 (DE.k (de_cmp (op_eq_d rfl (huD64 hr)) (DE.p (de_op (op_mul_d) (DE.p (de_sub rfl rfl (huD hr) (DE.p (de_fld (fo_steps T) (de_var 0))) (DE.p de_int) fun _ _ => rfl)) (DE.p (de_sub rfl rfl (huD hr) (DE.p (de_fld (fo_steps T) (de_var 1))) (DE.p de_int) fun _ _ => rfl)))) (DE.p (de_op (op_mul_d) (DE.p (de_sub rfl rfl (huD hr) (DE.p (de_fld (fo_steps T) (de_var 0))) (DE.p de_int) fun _ _ => rfl)) (DE.p (de_sub rfl rfl (huD hr) (DE.p (de_fld (fo_steps T) (de_var 1))) (DE.p de_int) fun _ _ => rfl)))))) (by decide) sc_law_gives.nd)
    (dss_cons (ds_if (dt_w (dw_and (dt_val (de_var 4)) (dw_and1 (dt_cmp (op_eq_d rfl (huD64 hr)) (DE.p (de_var 3)) (DE.p (de_tup (da_cons (de_str [97, 104, 101, 97, 100]) (da_cons (de_str [97, 104, 101, 97, 100]) da_nil))))))))
    (dss_one (ds_ret (de_str [98, 111, 116, 104])))
    dss_nil)
    (dss_cons (ds_setcomp 5 (own := [("side", 6)]) rfl sc_law_gives.nd (DI.e (di_tup rfl (de_var 3))) (blkOk_by (N := ["one", "other", "kinds", "sides", "against", "right", "side"]) (sc := defScope s_law_gives) (by decide +kernel)) (fun _ _ _ _ _ => (dg_name 6 sc_law_gives.nd)) (fun _ _ _ _ _ => dts_nil) (fun _ _ _ _ _ => (de_cmp (op_eq_d rfl (huD64 hr)) (DE.p (de_var 6)) (DE.p (de_str [115, 116, 97, 114, 98, 111, 97, 114, 100])))) (by decide) (by decide) (sw_true rfl rfl rfl (by decide +kernel)))
    (dss_one (ds_ret (de_if (dt_cmp (op_eq_d rfl (huD64 hr)) (DE.p (de_sub rfl rfl (huD hr) (dp_var 5) (DE.p de_int) fun _ _ => rfl)) (DE.p (de_sub rfl rfl (huD hr) (dp_var 5) (DE.p de_int) fun _ _ => rfl))) (de_str [110, 101, 105, 116, 104, 101, 114]) (de_if (dt_val (de_sub rfl rfl (huD hr) (dp_var 5) (DE.p de_int) fun _ _ => rfl)) (de_str [102, 105, 114, 115, 116]) (de_str [115, 101, 99, 111, 110, 100]))))))))))))))
def F_kind_by_shapes : LE → R Out :=
    (retS (callE tupleD (acons (lE (compF (itT (cst d_KINDS)) (gN 1) (cmpT eqD (subE (cst d_SHAPES) (var 1)) (callE tupleD (acons (var 0) anil))) (var 1) [1])) anil)))
def D_kind_by_shapes : List D → R D := runF 1 2 F_kind_by_shapes
theorem k_kind_by_shapes (T : Txt w K mg base a) : FnD P w K mg base (gm K w a) 1 "kind_by_shapes" a.f_kind_by_shapes 1 D_kind_by_shapes := by
  exact fnD_E T.e_kind_by_shapes sc_kind_by_shapes T.g_kind_by_shapes rfl rfl fun cdv A outer s H E hr =>
    (dss_one (ds_ret (de_callT (cd_tuple rfl) T.b_tuple rfl (dap_cons (DE.p (DF.e (df_comp (own := [("kind", 1)]) rfl sc_kind_by_shapes.nd (DI.e (di_tup rfl (de_gl T.v_KINDS))) (blkOk_by (N := ["shapes", "kind"]) (sc := defScope s_kind_by_shapes) (by decide +kernel)) (fun _ _ _ _ _ => (dg_name 1 sc_kind_by_shapes.nd)) (fun _ _ _ _ _ => (dts_one (dt_cmp (op_eq_d rfl (huD64 hr)) (DE.p (de_sub rfl rfl (huD hr) (DE.p (de_gl T.v_SHAPES)) (DE.p (de_var 1)) fun _ _ => rfl)) (DE.p (de_callT (cd_tuple rfl) T.b_tuple rfl (dap_cons (DE.p (de_var 0)) dap_nil)))))) (fun _ _ _ _ _ => (de_var 1)) (by decide)))) dap_nil))))
def F_kind_by_lamps : LE → R Out :=
    (retS (callE tupleD (acons (lE (compF (itT (cst d_KINDS)) (gN 1) (cmpT eqD (subE (cst d_LAMPS) (var 1)) (callE tupleD (acons (var 0) anil))) (var 1) [1])) anil)))
def D_kind_by_lamps : List D → R D := runF 1 2 F_kind_by_lamps
theorem k_kind_by_lamps (T : Txt w K mg base a) : FnD P w K mg base (gm K w a) 1 "kind_by_lamps" a.f_kind_by_lamps 1 D_kind_by_lamps := by
  exact fnD_E T.e_kind_by_lamps sc_kind_by_lamps T.g_kind_by_lamps rfl rfl fun cdv A outer s H E hr =>
    (dss_one (ds_ret (de_callT (cd_tuple rfl) T.b_tuple rfl (dap_cons (DE.p (DF.e (df_comp (own := [("kind", 1)]) rfl sc_kind_by_lamps.nd (DI.e (di_tup rfl (de_gl T.v_KINDS))) (blkOk_by (N := ["lamps", "kind"]) (sc := defScope s_kind_by_lamps) (by decide +kernel)) (fun _ _ _ _ _ => (dg_name 1 sc_kind_by_lamps.nd)) (fun _ _ _ _ _ => (dts_one (dt_cmp (op_eq_d rfl (huD64 hr)) (DE.p (de_sub rfl rfl (huD hr) (DE.p (de_gl T.v_LAMPS)) (DE.p (de_var 1)) fun _ _ => rfl)) (DE.p (de_callT (cd_tuple rfl) T.b_tuple rfl (dap_cons (DE.p (de_var 0)) dap_nil)))))) (fun _ _ _ _ _ => (de_var 1)) (by decide)))) dap_nil))))
def F_law_cases1 : LE → R Out :=
    (seqS (ifS (cmpT neD (lE (compF (itT (cst d_KINDS)) (gN 0) (orT (cmpT notInD (var 0) (callE D_kind_by_shapes (acons (subE (cst d_SHAPES) (var 0)) anil))) (cmpT notInD (var 0) (callE D_kind_by_lamps (acons (subE (cst d_LAMPS) (var 0)) anil)))) (var 0) [0])) (lE (lstE anil)))
    (retS (cst (.bl false)))
    skipS)
    (seqS (ifS (orT (cmpT neD (callE D_kind_by_shapes (acons (tupE (acons (cst (.str [98, 97, 108, 108])) (acons (cst (.str [98, 97, 108, 108])) anil))) anil)) (tupE (acons (cst (.str [110, 111, 116, 32, 117, 110, 100, 101, 114, 32, 99, 111, 109, 109, 97, 110, 100])) anil))) (cmpT neD (callE D_kind_by_shapes (acons (tupE anil) anil)) (tupE (acons (cst (.str [115, 97, 105, 108, 105, 110, 103])) (acons (cst (.str [112, 111, 119, 101, 114])) anil)))))
    (retS (cst (.bl false)))
    skipS)
    (seqS (ifS (orT (cmpT neD (callE D_kind_by_lamps (acons (tupE (acons (cst (.str [114, 101, 100])) (acons (cst (.str [119, 104, 105, 116, 101])) anil))) anil)) (tupE (acons (cst (.str [102, 105, 115, 104, 105, 110, 103])) anil))) (cmpT neD (callE D_kind_by_lamps (acons (tupE (acons (cst (.str [98, 108, 117, 101])) anil)) anil)) (tupE anil)))
    (retS (cst (.bl false)))
    skipS)
    (seqS (ifS (cmpT neD (toldE toldL (callE D_Vessel_init (acons (cst (.str [114, 97, 102, 116])) (acons (tupE (acons (cst (.int 0)) (acons (cst (.int 0)) anil))) (acons (tupE (acons (cst (.int 0)) (acons (cst (.int 0)) anil))) (acons (cst (.str [])) anil)))))) (cst (.str [98, 111, 111, 107])))
    (retS (cst (.bl false)))
    skipS)
    (seqS (ifS (cmpT neD (toldE toldL (callE D_Vessel_init (acons (cst (.str [115, 97, 105, 108, 105, 110, 103])) (acons (tupE (acons (cst (.int 0)) (acons (cst (.int 0)) anil))) (acons (tupE (acons (cst (.int 0)) (acons (cst (.int 0)) anil))) (acons (cst (.str [])) anil)))))) (cst (.str [98, 111, 111, 107])))
    (retS (cst (.bl false)))
    skipS)
    (seqS (ifS (cmpT neD (toldE toldL (callE D_Vessel_init (acons (cst (.str [112, 111, 119, 101, 114])) (acons (tupE (acons (cst (.int 0)) (acons (cst (.int 0)) anil))) (acons (tupE (acons (cst (.int 0)) (acons (cst (.int 0)) anil))) (acons (cst (.str [112, 111, 114, 116])) anil)))))) (cst (.str [98, 111, 111, 107])))
    (retS (cst (.bl false)))
    skipS)
    (retS (cst (.bl true)))))))))
def D_law_cases1 : List D → R D := runF 0 1 F_law_cases1
theorem k_law_cases1 (T : Txt w K mg base a) : FnD P w K mg base (gm K w a) 5 "_law_cases1" a.f_law_cases1 0 D_law_cases1 := by
  obtain ⟨oc0, od0, kV0, doc0, pm0, an0, cdv0, ct0, osl0, lk0, cd0, kp0, bd0⟩ := T.l_told
  exact fnD_C T.e_law_cases1 sc_law_cases1 T.g_law_cases1 rfl rfl fun A outer s H E hr =>
    (dss_cons (ds_if (dt_cmp (op_ne_d rfl (huD64 hr)) (DE.p (DF.e (df_comp (own := [("kind", 0)]) rfl sc_law_cases1.nd (DI.e (di_tup rfl (de_gl T.v_KINDS))) (blkOk_by (N := ["kind"]) (sc := defScope s_law_cases1) (by decide +kernel)) (fun _ _ _ _ _ => (dg_name 0 sc_law_cases1.nd)) (fun _ _ _ _ _ => (dts_one (dt_w (dw_or (dt_cmp (op_notin_d rfl (huD hr)) (DE.p (de_var 0)) (DE.p (de_call (k_kind_by_shapes T) (hr.mono (by decide)) takes0D (da_cons (de_sub rfl rfl (huD hr) (DE.p (de_gl T.v_SHAPES)) (DE.p (de_var 0)) fun _ _ => rfl) da_nil)))) (dw_or1 (dt_cmp (op_notin_d rfl (huD hr)) (DE.p (de_var 0)) (DE.p (de_call (k_kind_by_lamps T) (hr.mono (by decide)) takes0D (da_cons (de_sub rfl rfl (huD hr) (DE.p (de_gl T.v_LAMPS)) (DE.p (de_var 0)) fun _ _ => rfl) da_nil))))))))) (fun _ _ _ _ _ => (de_var 0)) (by decide)))) (DE.p (DF.e (df_lst da_nil))))
    (dss_one (ds_ret de_bl))
    dss_nil)
    (dss_cons (ds_if (dt_w (dw_or (dt_cmp (op_ne_d rfl (huD64 hr)) (DE.p (de_call (k_kind_by_shapes T) (hr.mono (by decide)) takes_cxD (da_cons (de_tup (da_cons (de_str [98, 97, 108, 108]) (da_cons (de_str [98, 97, 108, 108]) da_nil))) da_nil))) (DE.p (de_tup (da_cons (de_str [110, 111, 116, 32, 117, 110, 100, 101, 114, 32, 99, 111, 109, 109, 97, 110, 100]) da_nil)))) (dw_or1 (dt_cmp (op_ne_d rfl (huD64 hr)) (DE.p (de_call (k_kind_by_shapes T) (hr.mono (by decide)) takes_cxD (da_cons (de_tup da_nil) da_nil))) (DE.p (de_tup (da_cons (de_str [115, 97, 105, 108, 105, 110, 103]) (da_cons (de_str [112, 111, 119, 101, 114]) da_nil))))))))
    (dss_one (ds_ret de_bl))
    dss_nil)
    (dss_cons (ds_if (dt_w (dw_or (dt_cmp (op_ne_d rfl (huD64 hr)) (DE.p (de_call (k_kind_by_lamps T) (hr.mono (by decide)) takes_cxD (da_cons (de_tup (da_cons (de_str [114, 101, 100]) (da_cons (de_str [119, 104, 105, 116, 101]) da_nil))) da_nil))) (DE.p (de_tup (da_cons (de_str [102, 105, 115, 104, 105, 110, 103]) da_nil)))) (dw_or1 (dt_cmp (op_ne_d rfl (huD64 hr)) (DE.p (de_call (k_kind_by_lamps T) (hr.mono (by decide)) takes_cxD (da_cons (de_tup (da_cons (de_str [98, 108, 117, 101]) da_nil)) da_nil))) (DE.p (de_tup da_nil))))))
    (dss_one (ds_ret de_bl))
    dss_nil)
    (dss_cons (ds_if (dt_cmp (op_ne_d rfl (huD64 hr)) (DE.p (de_told (k := 2) (l := toldL) T.g_law_told kp0 lk0 cd0 bd0 sc_law_told rfl (Or.inl rfl) (gives_told T rfl rfl) T.exm T.tb_law_cases1 rfl tm_law_cases1 (tu_law_cases1 T) (hr.mono (by decide)) (lamS_by (sc := defScope s_law_cases1) (by decide +kernel)) (fun _ _ _ _ _ _ _ hr' => (de_make (k_Vessel_init T) (hr'.mono (by decide)) takes_lam (da_cons (de_str [114, 97, 102, 116]) (da_cons (de_tup (da_cons de_int (da_cons de_int da_nil))) (da_cons (de_tup (da_cons de_int (da_cons de_int da_nil))) (da_cons (de_str []) da_nil)))))))) (DE.p (de_str [98, 111, 111, 107])))
    (dss_one (ds_ret de_bl))
    dss_nil)
    (dss_cons (ds_if (dt_cmp (op_ne_d rfl (huD64 hr)) (DE.p (de_told (k := 2) (l := toldL) T.g_law_told kp0 lk0 cd0 bd0 sc_law_told rfl (Or.inl rfl) (gives_told T rfl rfl) T.exm T.tb_law_cases1 rfl tm_law_cases1 (tu_law_cases1 T) (hr.mono (by decide)) (lamS_by (sc := defScope s_law_cases1) (by decide +kernel)) (fun _ _ _ _ _ _ _ hr' => (de_make (k_Vessel_init T) (hr'.mono (by decide)) takes_lam (da_cons (de_str [115, 97, 105, 108, 105, 110, 103]) (da_cons (de_tup (da_cons de_int (da_cons de_int da_nil))) (da_cons (de_tup (da_cons de_int (da_cons de_int da_nil))) (da_cons (de_str []) da_nil)))))))) (DE.p (de_str [98, 111, 111, 107])))
    (dss_one (ds_ret de_bl))
    dss_nil)
    (dss_cons (ds_if (dt_cmp (op_ne_d rfl (huD64 hr)) (DE.p (de_told (k := 2) (l := toldL) T.g_law_told kp0 lk0 cd0 bd0 sc_law_told rfl (Or.inl rfl) (gives_told T rfl rfl) T.exm T.tb_law_cases1 rfl tm_law_cases1 (tu_law_cases1 T) (hr.mono (by decide)) (lamS_by (sc := defScope s_law_cases1) (by decide +kernel)) (fun _ _ _ _ _ _ _ hr' => (de_make (k_Vessel_init T) (hr'.mono (by decide)) takes_lam (da_cons (de_str [112, 111, 119, 101, 114]) (da_cons (de_tup (da_cons de_int (da_cons de_int da_nil))) (da_cons (de_tup (da_cons de_int (da_cons de_int da_nil))) (da_cons (de_str [112, 111, 114, 116]) da_nil)))))))) (DE.p (de_str [98, 111, 111, 107])))
    (dss_one (ds_ret de_bl))
    dss_nil)
    (dss_one (ds_ret de_bl))))))))
def F_comes_near : LE → R Out :=
    (seqS (setK 3 (ownK (lstE anil)))
    (seqS (forS (rng1E (acons (opE addD (var 2) (cst (.int 1))) anil)) (gN 4)
    (seqS (setK 5 (valK (opE subD (opE subD (opE addD (subE (fldE fx_spot (var 0)) (cst (.int 0))) (opE mulD (var 4) (subE (fldE fx_steps (var 0)) (cst (.int 0))))) (subE (fldE fx_spot (var 1)) (cst (.int 0)))) (opE mulD (var 4) (subE (fldE fx_steps (var 1)) (cst (.int 0)))))))
    (seqS (setK 6 (valK (opE subD (opE subD (opE addD (subE (fldE fx_spot (var 0)) (cst (.int 1))) (opE mulD (var 4) (subE (fldE fx_steps (var 0)) (cst (.int 1))))) (subE (fldE fx_spot (var 1)) (cst (.int 1)))) (opE mulD (var 4) (subE (fldE fx_steps (var 1)) (cst (.int 1)))))))
    (appS 3 (tupE (acons (opE addD (opE mulD (var 5) (var 5)) (opE mulD (var 6) (var 6))) (acons (var 4) anil)))))))
    (seqS (asgS (callE minL (acons (varP 3) anil)) (gTup_ 2 (gCons_ (gN 7) (gCons_ (gN 4) gNil_))))
    (retS (tupE (acons (var 4) (acons (var 7) anil)))))))
def D_comes_near : List D → R D := runF 3 8 F_comes_near
theorem k_comes_near (T : Txt w K mg base a) : FnD P w K mg base (gm K w a) 1 "comes_near" a.f_comes_near 3 D_comes_near := by
  exact fnD_E T.e_comes_near sc_comes_near T.g_comes_near rfl rfl fun cdv A outer s H E hr =>
    (dss_cons (ds_set 3 (DF.k (df_lst da_nil)) (by decide) sc_comes_near.nd)
    (dss_cons (ds_for owns_cxD rfl (di_rng1 rfl T.b_range (da_cons (de_op (op_add_d rfl) (DE.p (de_var 2)) (DE.p de_int)) da_nil)) (dg_name 4 sc_comes_near.nd)
    (dss_cons (ds_set 5 (DE.k (de_op (op_sub_d) (DE.p (de_op (op_sub_d) (DE.p (de_op (op_add_d rfl) (DE.p (de_sub rfl rfl (huD hr) (DE.p (de_fld (fo_spot T) (de_var 0))) (DE.p de_int) fun _ _ => rfl)) (DE.p (de_op (op_mul_d) (DE.p (de_var 4)) (DE.p (de_sub rfl rfl (huD hr) (DE.p (de_fld (fo_steps T) (de_var 0))) (DE.p de_int) fun _ _ => rfl)))))) (DE.p (de_sub rfl rfl (huD hr) (DE.p (de_fld (fo_spot T) (de_var 1))) (DE.p de_int) fun _ _ => rfl)))) (DE.p (de_op (op_mul_d) (DE.p (de_var 4)) (DE.p (de_sub rfl rfl (huD hr) (DE.p (de_fld (fo_steps T) (de_var 1))) (DE.p de_int) fun _ _ => rfl)))))) (by decide) sc_comes_near.nd)
    (dss_cons (ds_set 6 (DE.k (de_op (op_sub_d) (DE.p (de_op (op_sub_d) (DE.p (de_op (op_add_d rfl) (DE.p (de_sub rfl rfl (huD hr) (DE.p (de_fld (fo_spot T) (de_var 0))) (DE.p de_int) fun _ _ => rfl)) (DE.p (de_op (op_mul_d) (DE.p (de_var 4)) (DE.p (de_sub rfl rfl (huD hr) (DE.p (de_fld (fo_steps T) (de_var 0))) (DE.p de_int) fun _ _ => rfl)))))) (DE.p (de_sub rfl rfl (huD hr) (DE.p (de_fld (fo_spot T) (de_var 1))) (DE.p de_int) fun _ _ => rfl)))) (DE.p (de_op (op_mul_d) (DE.p (de_var 4)) (DE.p (de_sub rfl rfl (huD hr) (DE.p (de_fld (fo_steps T) (de_var 1))) (DE.p de_int) fun _ _ => rfl)))))) (by decide) sc_comes_near.nd)
    (dss_one (ds_append 3 (de_tup (da_cons (de_op (op_add_d rfl) (DE.p (de_op (op_mul_d) (DE.p (de_var 5)) (DE.p (de_var 5)))) (DE.p (de_op (op_mul_d) (DE.p (de_var 6)) (DE.p (de_var 6))))) (da_cons (de_var 4) da_nil))))))))
    (dss_cons (ds_asg (de_callB (cd_min rfl rfl (huD hr)) T.b_min rfl (dap_cons (dp_var 3) dap_nil)) (dg_tup rfl rfl (dgs_cons (dg_name 7 sc_comes_near.nd) (dgs_cons (dg_name 4 sc_comes_near.nd) dgs_nil))))
    (dss_one (ds_ret (de_tup (da_cons (de_var 4) (da_cons (de_var 7) da_nil))))))))
def F_steady_bearing : LE → R Out :=
    (seqS (parK 2 3 (valK (opE subD (subE (fldE fx_spot (var 1)) (cst (.int 0))) (subE (fldE fx_spot (var 0)) (cst (.int 0))))) (valK (opE subD (subE (fldE fx_spot (var 1)) (cst (.int 1))) (subE (fldE fx_spot (var 0)) (cst (.int 1))))))
    (seqS (parK 4 5 (valK (opE subD (subE (fldE fx_steps (var 1)) (cst (.int 0))) (subE (fldE fx_steps (var 0)) (cst (.int 0))))) (valK (opE subD (subE (fldE fx_steps (var 1)) (cst (.int 1))) (subE (fldE fx_steps (var 0)) (cst (.int 1))))))
    (retS (andV (opE eqD (opE mulD (var 2) (var 5)) (opE mulD (var 3) (var 4))) (opE ltD (opE addD (opE mulD (var 2) (var 4)) (opE mulD (var 3) (var 5))) (cst (.int 0)))))))
def D_steady_bearing : List D → R D := runF 2 6 F_steady_bearing
theorem k_steady_bearing (T : Txt w K mg base a) : FnD P w K mg base (gm K w a) 1 "steady_bearing" a.f_steady_bearing 2 D_steady_bearing := by
  exact fnD_E T.e_steady_bearing sc_steady_bearing T.g_steady_bearing rfl rfl fun cdv A outer s H E hr =>
    (dss_cons (ds_par 2 3 rfl sc_steady_bearing.nd (by decide) (by decide) (by decide) (DE.k (de_op (op_sub_d) (DE.p (de_sub rfl rfl (huD hr) (DE.p (de_fld (fo_spot T) (de_var 1))) (DE.p de_int) fun _ _ => rfl)) (DE.p (de_sub rfl rfl (huD hr) (DE.p (de_fld (fo_spot T) (de_var 0))) (DE.p de_int) fun _ _ => rfl)))) (DE.k (de_op (op_sub_d) (DE.p (de_sub rfl rfl (huD hr) (DE.p (de_fld (fo_spot T) (de_var 1))) (DE.p de_int) fun _ _ => rfl)) (DE.p (de_sub rfl rfl (huD hr) (DE.p (de_fld (fo_spot T) (de_var 0))) (DE.p de_int) fun _ _ => rfl)))))
    (dss_cons (ds_par 4 5 rfl sc_steady_bearing.nd (by decide) (by decide) (by decide) (DE.k (de_op (op_sub_d) (DE.p (de_sub rfl rfl (huD hr) (DE.p (de_fld (fo_steps T) (de_var 1))) (DE.p de_int) fun _ _ => rfl)) (DE.p (de_sub rfl rfl (huD hr) (DE.p (de_fld (fo_steps T) (de_var 0))) (DE.p de_int) fun _ _ => rfl)))) (DE.k (de_op (op_sub_d) (DE.p (de_sub rfl rfl (huD hr) (DE.p (de_fld (fo_steps T) (de_var 1))) (DE.p de_int) fun _ _ => rfl)) (DE.p (de_sub rfl rfl (huD hr) (DE.p (de_fld (fo_steps T) (de_var 0))) (DE.p de_int) fun _ _ => rfl)))))
    (dss_one (ds_ret (de_and (de_cmp (op_eq_d rfl (huD64 hr)) (DE.p (de_op (op_mul_d) (DE.p (de_var 2)) (DE.p (de_var 5)))) (DE.p (de_op (op_mul_d) (DE.p (de_var 3)) (DE.p (de_var 4))))) (de_one (de_cmp (op_lt_d) (DE.p (de_op (op_add_d rfl) (DE.p (de_op (op_mul_d) (DE.p (de_var 2)) (DE.p (de_var 4)))) (DE.p (de_op (op_mul_d) (DE.p (de_var 3)) (DE.p (de_var 5)))))) (DE.p de_int))))))))
def F_law : LE → R Out :=
    (seqS (asgS (tupE (acons (callE D_law_vessel (acons (var 1) anil)) (acons (callE D_law_vessel (acons (var 1) anil)) anil))) (gTup_ 2 (gCons_ (gN 2) (gCons_ (gN 3) gNil_))))
    (seqS (setK 3 (valK (callE D_law_beside (acons (var 1) (acons (var 2) (acons (var 3) anil))))))
    (seqS (setK 4 (valK (callE D_law_side (acons (var 2) (acons (var 3) anil)))))
    (seqS (ifS (orT (cmpT neD (toldE toldL (methE 0 D_Vessel_side_of_vessel (var 2) (acons (var 3) anil))) (var 4)) (cmpT neD (methE 0 D_Vessel_overtakes (var 2) (acons (var 3) anil)) (callE D_law_over (acons (var 2) (acons (var 3) anil)))))
    (retS (cst (.bl false)))
    skipS)
    (seqS (ifS (cmpT neD (var 4) (cst (.str [110, 111, 32, 119, 97, 121])))
    (seqS (parK 5 6 (valK (opE subD (subE (fldE fx_spot (var 3)) (cst (.int 0))) (subE (fldE fx_spot (var 2)) (cst (.int 0))))) (valK (opE subD (subE (fldE fx_spot (var 3)) (cst (.int 1))) (subE (fldE fx_spot (var 2)) (cst (.int 1))))))
    (seqS (setK 7 (valK (opE ltD (opE addD (opE mulD (var 5) (subE (fldE fx_steps (var 2)) (cst (.int 0)))) (opE mulD (var 6) (subE (fldE fx_steps (var 2)) (cst (.int 1))))) (cst (.int 0)))))
    (ifS (cmpT neD (methE 0 D_Vessel_shown_from_side (var 2) (acons (var 3) anil)) (iteE (cmpT eqD (var 4) (cst (.str [97, 104, 101, 97, 100]))) (cst (.str [98, 111, 116, 104])) (iteE (orT (valT (var 7)) (cmpT eqD (var 4) (cst (.str [97, 115, 116, 101, 114, 110])))) (cst (.str [115, 116, 101, 114, 110])) (iteE (cmpT eqD (var 4) (cst (.str [112, 111, 114, 116]))) (cst (.str [114, 101, 100])) (cst (.str [103, 114, 101, 101, 110]))))))
    (retS (cst (.bl false)))
    skipS)))
    skipS)
    (seqS (setK 8 (valK (callE D_must_give_way (acons (var 2) (acons (var 3) anil)))))
    (seqS (ifS (cmpT neD (var 8) (callE D_law_gives (acons (var 2) (acons (var 3) anil))))
    (retS (cst (.bl false)))
    skipS)
    (seqS (ifS (cmpT neD (callE D_must_give_way (acons (var 3) (acons (var 2) anil))) (subE (dispE [((cst (.str [102, 105, 114, 115, 116])), (cst (.str [115, 101, 99, 111, 110, 100]))), ((cst (.str [115, 101, 99, 111, 110, 100])), (cst (.str [102, 105, 114, 115, 116]))), ((cst (.str [98, 111, 116, 104])), (cst (.str [98, 111, 116, 104]))), ((cst (.str [110, 101, 105, 116, 104, 101, 114])), (cst (.str [110, 101, 105, 116, 104, 101, 114])))]) (var 8)))
    (retS (cst (.bl false)))
    skipS)
    (seqS (ifS (cmpT notInD (callE D_by_sides (acons (var 2) (acons (var 3) anil))) (lE (lstE (acons (cst (.str [102, 105, 114, 115, 116])) (acons (cst (.str [115, 101, 99, 111, 110, 100])) (acons (cst (.str [98, 111, 116, 104])) (acons (cst (.str [110, 101, 105, 116, 104, 101, 114])) anil)))))))
    (retS (cst (.bl false)))
    skipS)
    (seqS (ifS (notT (valT (fun _ => D_law_cases1 [])))
    (retS (cst (.bl false)))
    skipS)
    (seqS (setK 9 (valK (callE rollD (acons (var 1) (acons (cst (.int 9)) anil)))))
    (seqS (setK 10 (ownK (lstE anil)))
    (seqS (forS (rng1E (acons (opE addD (var 9) (cst (.int 1))) anil)) (gN 11)
    (seqS (setK 5 (valK (opE subD (opE subD (opE addD (subE (fldE fx_spot (var 2)) (cst (.int 0))) (opE mulD (var 11) (subE (fldE fx_steps (var 2)) (cst (.int 0))))) (subE (fldE fx_spot (var 3)) (cst (.int 0)))) (opE mulD (var 11) (subE (fldE fx_steps (var 3)) (cst (.int 0)))))))
    (seqS (setK 6 (valK (opE subD (opE subD (opE addD (subE (fldE fx_spot (var 2)) (cst (.int 1))) (opE mulD (var 11) (subE (fldE fx_steps (var 2)) (cst (.int 1))))) (subE (fldE fx_spot (var 3)) (cst (.int 1)))) (opE mulD (var 11) (subE (fldE fx_steps (var 3)) (cst (.int 1)))))))
    (appS 10 (opE addD (opE mulD (var 5) (var 5)) (opE mulD (var 6) (var 6)))))))
    (seqS (ifS (cmpT neD (callE D_comes_near (acons (var 2) (acons (var 3) (acons (var 9) anil)))) (tupE (acons (bmE "list" idxLs (varP 10) (acons (callE minL (acons (varP 10) anil)) anil)) (acons (callE minL (acons (varP 10) anil)) anil))))
    (retS (cst (.bl false)))
    skipS)
    (seqS (parK 5 6 (valK (opE subD (subE (fldE fx_spot (var 3)) (cst (.int 0))) (subE (fldE fx_spot (var 2)) (cst (.int 0))))) (valK (opE subD (subE (fldE fx_spot (var 3)) (cst (.int 1))) (subE (fldE fx_spot (var 2)) (cst (.int 1))))))
    (seqS (parK 12 13 (valK (opE subD (subE (fldE fx_steps (var 3)) (cst (.int 0))) (subE (fldE fx_steps (var 2)) (cst (.int 0))))) (valK (opE subD (subE (fldE fx_steps (var 3)) (cst (.int 1))) (subE (fldE fx_steps (var 2)) (cst (.int 1))))))
    (seqS (ifS (cmpT neD (callE D_steady_bearing (acons (var 2) (acons (var 3) anil))) (andV (opE eqD (opE subD (opE mulD (var 5) (var 13)) (opE mulD (var 6) (var 12))) (cst (.int 0))) (opE ltD (opE addD (opE mulD (var 5) (var 12)) (opE mulD (var 6) (var 13))) (cst (.int 0)))))
    (retS (cst (.bl false)))
    skipS)
    (ifS (orT (cmpT neD (callE D_steady_bearing (acons (var 2) (acons (var 3) anil))) (callE D_steady_bearing (acons (var 3) (acons (var 2) anil)))) (cmpT neD (callE D_square (acons (tupE (acons (cst (.int 3)) (acons (opE subD (cst (.int 0)) (cst (.int 4))) anil))) anil)) (cst (.int 25))))
    (retS (cst (.bl false)))
    skipS))))))))))))))))))
theorem ok_law (T : Txt w K mg base a) {oc : Value} {od : Option Addr} {kV doc pm : Value} {an : Option Addr} {ct : Value} {osl : Array (Option Value)} (lk : K.lookup a.f_law = some ⟨oc, od, .func (PySem.W.fnOf "law" "law" (defArgs s_law) (defBody s_law) (defScope s_law) .none kV doc pm an (.ref a.k_law) ct), osl⟩)
    (cd : PySem.W.codeIn K (.ref a.k_law) "law" = true) (hF : Wp (F_law (r0 14)) (fun o => ∃ r, o = .nx r ∨ o = .ct r) (fun _ => False)) :
    FnOk P w K mg base (L2.CX P w) 6 a.f_law (PySem.W.fnOf "law" "law" (defArgs s_law) (defBody s_law) (defScope s_law) .none kV doc pm an (.ref a.k_law) ct) ["script"] (spLaw K (gm K w a).tabs) := by
  obtain ⟨oc0, od0, kV0, doc0, pm0, an0, cdv0, ct0, osl0, lk0, cd0, kp0, bd0⟩ := T.l_told
  obtain ⟨fdD, FD, bD⟩ := T.e_law_dice
  obtain ⟨fdR, FR, bR⟩ := T.e_law_rounds
  have hD := ok_dice (P := P) (w := w) (base := base) FD T.b_int T.b_abs
  have hR := ok_rounds (P := P) (w := w) (base := base) FR hD FD.kp bD T.g_law_dice
  exact law_C (G := gm K w a) lk cd sc_law rfl (by decide) rfl hF fun A outer s H E hr => ⟨_, pss_cons (ps_for owns_cxD rfl (pi_list (pe_callS hR (hr.mono (by decide)) rfl T.g_law_rounds FR.kp bR (fun sg => passAt (takes_cxD (N := ["script", "dice", "one", "other", "side", "down", "right", "abaft", "told", "minutes", "ways", "k", "a", "b"]) (st := s_law) (f := a.f_law)) sg) (pa_cons (pv 0) (pa_cons pe_int pa_nil)))) (pg_name (i := 1) sc_law.nd rfl (Or.inl rfl))
    (dss_cons (ds_asg (de_tup (da_cons (de_call (k_law_vessel T) (hr.mono (by decide)) takes_cxD (da_cons (de_var 1) da_nil)) (da_cons (de_call (k_law_vessel T) (hr.mono (by decide)) takes_cxD (da_cons (de_var 1) da_nil)) da_nil))) (dg_tup rfl rfl (dgs_cons (dg_name 2 sc_law.nd) (dgs_cons (dg_name 3 sc_law.nd) dgs_nil))))
    (dss_cons (ds_set 3 (DE.k (de_call (k_law_beside T) (hr.mono (by decide)) takes_cxD (da_cons (de_var 1) (da_cons (de_var 2) (da_cons (de_var 3) da_nil))))) (by decide) sc_law.nd)
    (dss_cons (ds_set 4 (DE.k (de_call (k_law_side T) (hr.mono (by decide)) takes_cxD (da_cons (de_var 2) (da_cons (de_var 3) da_nil)))) (by decide) sc_law.nd)
    (dss_cons (ds_if (dt_w (dw_or (dt_cmp (op_ne_d rfl (huD64 hr)) (DE.p (de_told (k := 1) (l := toldL) T.g_law_told kp0 lk0 cd0 bd0 sc_law_told rfl (Or.inl rfl) (gives_told T rfl rfl) T.exm T.tb_law rfl tm_law (tu_law T) (hr.mono (by decide)) (lamS_by (sc := defScope s_law) (by decide +kernel)) (fun _ _ _ _ _ _ _ hr' => (de_meth (k_Vessel_side_of_vessel T) (hr'.mono (by decide)) takes_lam (de_var 2) (da_cons (de_var 3) da_nil))))) (DE.p (de_var 4))) (dw_or1 (dt_cmp (op_ne_d rfl (huD64 hr)) (DE.p (de_meth (k_Vessel_overtakes T) (hr.mono (by decide)) takes_cxD (de_var 2) (da_cons (de_var 3) da_nil))) (DE.p (de_call (k_law_over T) (hr.mono (by decide)) takes_cxD (da_cons (de_var 2) (da_cons (de_var 3) da_nil))))))))
    (dss_one (ds_ret de_bl))
    dss_nil)
    (dss_cons (ds_if (dt_cmp (op_ne_d rfl (huD64 hr)) (DE.p (de_var 4)) (DE.p (de_str [110, 111, 32, 119, 97, 121])))
    (dss_cons (ds_par 5 6 rfl sc_law.nd (by decide) (by decide) (by decide) (DE.k (de_op (op_sub_d) (DE.p (de_sub rfl rfl (huD hr) (DE.p (de_fld (fo_spot T) (de_var 3))) (DE.p de_int) fun _ _ => rfl)) (DE.p (de_sub rfl rfl (huD hr) (DE.p (de_fld (fo_spot T) (de_var 2))) (DE.p de_int) fun _ _ => rfl)))) (DE.k (de_op (op_sub_d) (DE.p (de_sub rfl rfl (huD hr) (DE.p (de_fld (fo_spot T) (de_var 3))) (DE.p de_int) fun _ _ => rfl)) (DE.p (de_sub rfl rfl (huD hr) (DE.p (de_fld (fo_spot T) (de_var 2))) (DE.p de_int) fun _ _ => rfl)))))
    (dss_cons (ds_set 7 (DE.k (de_cmp (op_lt_d) (DE.p (de_op (op_add_d rfl) (DE.p (de_op (op_mul_d) (DE.p (de_var 5)) (DE.p (de_sub rfl rfl (huD hr) (DE.p (de_fld (fo_steps T) (de_var 2))) (DE.p de_int) fun _ _ => rfl)))) (DE.p (de_op (op_mul_d) (DE.p (de_var 6)) (DE.p (de_sub rfl rfl (huD hr) (DE.p (de_fld (fo_steps T) (de_var 2))) (DE.p de_int) fun _ _ => rfl)))))) (DE.p de_int))) (by decide) sc_law.nd)
    (dss_one (ds_if (dt_cmp (op_ne_d rfl (huD64 hr)) (DE.p (de_meth (k_Vessel_shown_from_side T) (hr.mono (by decide)) takes_cxD (de_var 2) (da_cons (de_var 3) da_nil))) (DE.p (de_if (dt_cmp (op_eq_d rfl (huD64 hr)) (DE.p (de_var 4)) (DE.p (de_str [97, 104, 101, 97, 100]))) (de_str [98, 111, 116, 104]) (de_if (dt_w (dw_or (dt_val (de_var 7)) (dw_or1 (dt_cmp (op_eq_d rfl (huD64 hr)) (DE.p (de_var 4)) (DE.p (de_str [97, 115, 116, 101, 114, 110])))))) (de_str [115, 116, 101, 114, 110]) (de_if (dt_cmp (op_eq_d rfl (huD64 hr)) (DE.p (de_var 4)) (DE.p (de_str [112, 111, 114, 116]))) (de_str [114, 101, 100]) (de_str [103, 114, 101, 101, 110]))))))
    (dss_one (ds_ret de_bl))
    dss_nil))))
    dss_nil)
    (dss_cons (ds_set 8 (DE.k (de_call (k_must_give_way T) (hr.mono (by decide)) takes_cxD (da_cons (de_var 2) (da_cons (de_var 3) da_nil)))) (by decide) sc_law.nd)
    (dss_cons (ds_if (dt_cmp (op_ne_d rfl (huD64 hr)) (DE.p (de_var 8)) (DE.p (de_call (k_law_gives T) (hr.mono (by decide)) takes_cxD (da_cons (de_var 2) (da_cons (de_var 3) da_nil)))))
    (dss_one (ds_ret de_bl))
    dss_nil)
    (dss_cons (ds_if (dt_cmp (op_ne_d rfl (huD64 hr)) (DE.p (de_call (k_must_give_way T) (hr.mono (by decide)) takes_cxD (da_cons (de_var 3) (da_cons (de_var 2) da_nil)))) (DE.p (de_sub rfl rfl (huD hr) (DE.p (de_disp (.cons (de_str [102, 105, 114, 115, 116]) (de_str [115, 101, 99, 111, 110, 100]) (.cons (de_str [115, 101, 99, 111, 110, 100]) (de_str [102, 105, 114, 115, 116]) (.cons (de_str [98, 111, 116, 104]) (de_str [98, 111, 116, 104]) (.cons (de_str [110, 101, 105, 116, 104, 101, 114]) (de_str [110, 101, 105, 116, 104, 101, 114]) .nil)))))) (DE.p (de_var 8)) fun _ _ => rfl)))
    (dss_one (ds_ret de_bl))
    dss_nil)
    (dss_cons (ds_if (dt_cmp (op_notin_d rfl (huD hr)) (DE.p (de_call (k_by_sides T) (hr.mono (by decide)) takes_cxD (da_cons (de_var 2) (da_cons (de_var 3) da_nil)))) (DE.p (DF.e (df_lst (da_cons (de_str [102, 105, 114, 115, 116]) (da_cons (de_str [115, 101, 99, 111, 110, 100]) (da_cons (de_str [98, 111, 116, 104]) (da_cons (de_str [110, 101, 105, 116, 104, 101, 114]) da_nil))))))))
    (dss_one (ds_ret de_bl))
    dss_nil)
    (dss_cons (ds_if (dt_not (dt_val (de_call0 (k_law_cases1 T) (hr.mono (by decide)) takes_cxD)))
    (dss_one (ds_ret de_bl))
    dss_nil)
    (dss_cons (ds_set 9 (DE.k (de_call (k_law_roll T) (hr.mono (by decide)) takes_cxD (da_cons (de_var 1) (da_cons de_int da_nil)))) (by decide) sc_law.nd)
    (dss_cons (ds_set 10 (DF.k (df_lst da_nil)) (by decide) sc_law.nd)
    (dss_cons (ds_for owns_cxD rfl (di_rng1 rfl T.b_range (da_cons (de_op (op_add_d rfl) (DE.p (de_var 9)) (DE.p de_int)) da_nil)) (dg_name 11 sc_law.nd)
    (dss_cons (ds_set 5 (DE.k (de_op (op_sub_d) (DE.p (de_op (op_sub_d) (DE.p (de_op (op_add_d rfl) (DE.p (de_sub rfl rfl (huD hr) (DE.p (de_fld (fo_spot T) (de_var 2))) (DE.p de_int) fun _ _ => rfl)) (DE.p (de_op (op_mul_d) (DE.p (de_var 11)) (DE.p (de_sub rfl rfl (huD hr) (DE.p (de_fld (fo_steps T) (de_var 2))) (DE.p de_int) fun _ _ => rfl)))))) (DE.p (de_sub rfl rfl (huD hr) (DE.p (de_fld (fo_spot T) (de_var 3))) (DE.p de_int) fun _ _ => rfl)))) (DE.p (de_op (op_mul_d) (DE.p (de_var 11)) (DE.p (de_sub rfl rfl (huD hr) (DE.p (de_fld (fo_steps T) (de_var 3))) (DE.p de_int) fun _ _ => rfl)))))) (by decide) sc_law.nd)
    (dss_cons (ds_set 6 (DE.k (de_op (op_sub_d) (DE.p (de_op (op_sub_d) (DE.p (de_op (op_add_d rfl) (DE.p (de_sub rfl rfl (huD hr) (DE.p (de_fld (fo_spot T) (de_var 2))) (DE.p de_int) fun _ _ => rfl)) (DE.p (de_op (op_mul_d) (DE.p (de_var 11)) (DE.p (de_sub rfl rfl (huD hr) (DE.p (de_fld (fo_steps T) (de_var 2))) (DE.p de_int) fun _ _ => rfl)))))) (DE.p (de_sub rfl rfl (huD hr) (DE.p (de_fld (fo_spot T) (de_var 3))) (DE.p de_int) fun _ _ => rfl)))) (DE.p (de_op (op_mul_d) (DE.p (de_var 11)) (DE.p (de_sub rfl rfl (huD hr) (DE.p (de_fld (fo_steps T) (de_var 3))) (DE.p de_int) fun _ _ => rfl)))))) (by decide) sc_law.nd)
    (dss_one (ds_append 10 (de_op (op_add_d rfl) (DE.p (de_op (op_mul_d) (DE.p (de_var 5)) (DE.p (de_var 5)))) (DE.p (de_op (op_mul_d) (DE.p (de_var 6)) (DE.p (de_var 6))))))))))
    (dss_cons (ds_if (dt_cmp (op_ne_d rfl (huD64 hr)) (DE.p (de_call (k_comes_near T) (hr.mono (by decide)) takes_cxD (da_cons (de_var 2) (da_cons (de_var 3) (da_cons (de_var 9) da_nil))))) (DE.p (de_tup (da_cons (de_bm (bm_index_list rfl (huD hr)) rfl (dp_var 10) (dap_cons (DE.p (de_callB (cd_min rfl rfl (huD hr)) T.b_min rfl (dap_cons (dp_var 10) dap_nil))) dap_nil)) (da_cons (de_callB (cd_min rfl rfl (huD hr)) T.b_min rfl (dap_cons (dp_var 10) dap_nil)) da_nil)))))
    (dss_one (ds_ret de_bl))
    dss_nil)
    (dss_cons (ds_par 5 6 rfl sc_law.nd (by decide) (by decide) (by decide) (DE.k (de_op (op_sub_d) (DE.p (de_sub rfl rfl (huD hr) (DE.p (de_fld (fo_spot T) (de_var 3))) (DE.p de_int) fun _ _ => rfl)) (DE.p (de_sub rfl rfl (huD hr) (DE.p (de_fld (fo_spot T) (de_var 2))) (DE.p de_int) fun _ _ => rfl)))) (DE.k (de_op (op_sub_d) (DE.p (de_sub rfl rfl (huD hr) (DE.p (de_fld (fo_spot T) (de_var 3))) (DE.p de_int) fun _ _ => rfl)) (DE.p (de_sub rfl rfl (huD hr) (DE.p (de_fld (fo_spot T) (de_var 2))) (DE.p de_int) fun _ _ => rfl)))))
    (dss_cons (ds_par 12 13 rfl sc_law.nd (by decide) (by decide) (by decide) (DE.k (de_op (op_sub_d) (DE.p (de_sub rfl rfl (huD hr) (DE.p (de_fld (fo_steps T) (de_var 3))) (DE.p de_int) fun _ _ => rfl)) (DE.p (de_sub rfl rfl (huD hr) (DE.p (de_fld (fo_steps T) (de_var 2))) (DE.p de_int) fun _ _ => rfl)))) (DE.k (de_op (op_sub_d) (DE.p (de_sub rfl rfl (huD hr) (DE.p (de_fld (fo_steps T) (de_var 3))) (DE.p de_int) fun _ _ => rfl)) (DE.p (de_sub rfl rfl (huD hr) (DE.p (de_fld (fo_steps T) (de_var 2))) (DE.p de_int) fun _ _ => rfl)))))
    (dss_cons (ds_if (dt_cmp (op_ne_d rfl (huD64 hr)) (DE.p (de_call (k_steady_bearing T) (hr.mono (by decide)) takes_cxD (da_cons (de_var 2) (da_cons (de_var 3) da_nil)))) (DE.p (de_and (de_cmp (op_eq_d rfl (huD64 hr)) (DE.p (de_op (op_sub_d) (DE.p (de_op (op_mul_d) (DE.p (de_var 5)) (DE.p (de_var 13)))) (DE.p (de_op (op_mul_d) (DE.p (de_var 6)) (DE.p (de_var 12)))))) (DE.p de_int)) (de_one (de_cmp (op_lt_d) (DE.p (de_op (op_add_d rfl) (DE.p (de_op (op_mul_d) (DE.p (de_var 5)) (DE.p (de_var 12)))) (DE.p (de_op (op_mul_d) (DE.p (de_var 6)) (DE.p (de_var 13)))))) (DE.p de_int))))))
    (dss_one (ds_ret de_bl))
    dss_nil)
    (dss_one (ds_if (dt_w (dw_or (dt_cmp (op_ne_d rfl (huD64 hr)) (DE.p (de_call (k_steady_bearing T) (hr.mono (by decide)) takes_cxD (da_cons (de_var 2) (da_cons (de_var 3) da_nil)))) (DE.p (de_call (k_steady_bearing T) (hr.mono (by decide)) takes_cxD (da_cons (de_var 3) (da_cons (de_var 2) da_nil))))) (dw_or1 (dt_cmp (op_ne_d rfl (huD64 hr)) (DE.p (de_call (k_square T) (hr.mono (by decide)) takes_cxD (da_cons (de_tup (da_cons de_int (da_cons (de_op (op_sub_d) (DE.p de_int) (DE.p de_int)) da_nil))) da_nil))) (DE.p de_int)))))
    (dss_one (ds_ret de_bl))
    dss_nil))))))))))))))))))))
    (pss_one (ps_ret pe_bl))⟩
end
theorem all_mk {l : PySem.W.OpenLaw} {w : World} {K : PySem.W.Frag} {h : Heap} {mg : Str → Option Value} {fa : Addr} {ts : List Addr} (X : K.In h) (hN : h.Ns mainGlobals mg) (hfa : mg "law" = some (.ref fa)) (hTS : ∀ P ∈ ts, h.get? P = some { cls := .none, data := .fields #[] })
    (hF : Wp (F_law (r0 14)) (fun o => ∃ r, o = .nx r ∨ o = .ct r) (fun _ => False))
    {f_law_dice f_law_roll f_law_rounds f_law_told f_Vessel_init f_law_vessel f_law_beside f_law_side f_Vessel_side_of_vessel f_square f_Vessel_overtakes f_law_over f_Vessel_shown_from_side f_Vessel_meets_head_on f_by_sides f_must_give_way f_law_gives f_kind_by_shapes f_kind_by_lamps f_law_cases1 f_comes_near f_steady_bearing f_law c_Vessel x_BadBook x_BadFlag x_BadFleet x_BadHoist x_Foul x_NoWay x_TooLarge x_Unclear x_BadText k_law_cases1 t_law_cases1 k_law t_law : Addr} {oc_law_dice kV_law_dice dc_law_dice pm_law_dice ct_law_dice cd_law_dice : Value} {od_law_dice an_law_dice : Option Addr} {sl_law_dice : Array (Option Value)} {oc_law_roll kV_law_roll dc_law_roll pm_law_roll ct_law_roll cd_law_roll : Value} {od_law_roll an_law_roll : Option Addr} {sl_law_roll : Array (Option Value)} {oc_law_rounds kV_law_rounds dc_law_rounds pm_law_rounds ct_law_rounds cd_law_rounds : Value} {od_law_rounds an_law_rounds : Option Addr} {sl_law_rounds : Array (Option Value)} {oc_law_told kV_law_told dc_law_told pm_law_told ct_law_told cd_law_told : Value} {od_law_told an_law_told : Option Addr} {sl_law_told : Array (Option Value)} {oc_Vessel_init kV_Vessel_init dc_Vessel_init pm_Vessel_init ct_Vessel_init cd_Vessel_init : Value} {od_Vessel_init an_Vessel_init : Option Addr} {sl_Vessel_init : Array (Option Value)} {oc_law_vessel kV_law_vessel dc_law_vessel pm_law_vessel ct_law_vessel cd_law_vessel : Value} {od_law_vessel an_law_vessel : Option Addr} {sl_law_vessel : Array (Option Value)} {oc_law_beside kV_law_beside dc_law_beside pm_law_beside ct_law_beside cd_law_beside : Value} {od_law_beside an_law_beside : Option Addr} {sl_law_beside : Array (Option Value)} {oc_law_side kV_law_side dc_law_side pm_law_side ct_law_side cd_law_side : Value} {od_law_side an_law_side : Option Addr} {sl_law_side : Array (Option Value)} {oc_Vessel_side_of_vessel kV_Vessel_side_of_vessel dc_Vessel_side_of_vessel pm_Vessel_side_of_vessel ct_Vessel_side_of_vessel cd_Vessel_side_of_vessel : Value} {od_Vessel_side_of_vessel an_Vessel_side_of_vessel : Option Addr} {sl_Vessel_side_of_vessel : Array (Option Value)} {oc_square kV_square dc_square pm_square ct_square cd_square : Value} {od_square an_square : Option Addr} {sl_square : Array (Option Value)} {oc_Vessel_overtakes kV_Vessel_overtakes dc_Vessel_overtakes pm_Vessel_overtakes ct_Vessel_overtakes cd_Vessel_overtakes : Value} {od_Vessel_overtakes an_Vessel_overtakes : Option Addr} {sl_Vessel_overtakes : Array (Option Value)} {oc_law_over kV_law_over dc_law_over pm_law_over ct_law_over cd_law_over : Value} {od_law_over an_law_over : Option Addr} {sl_law_over : Array (Option Value)} {oc_Vessel_shown_from_side kV_Vessel_shown_from_side dc_Vessel_shown_from_side pm_Vessel_shown_from_side ct_Vessel_shown_from_side cd_Vessel_shown_from_side : Value} {od_Vessel_shown_from_side an_Vessel_shown_from_side : Option Addr} {sl_Vessel_shown_from_side : Array (Option Value)} {oc_Vessel_meets_head_on kV_Vessel_meets_head_on dc_Vessel_meets_head_on pm_Vessel_meets_head_on ct_Vessel_meets_head_on cd_Vessel_meets_head_on : Value} {od_Vessel_meets_head_on an_Vessel_meets_head_on : Option Addr} {sl_Vessel_meets_head_on : Array (Option Value)} {oc_by_sides kV_by_sides dc_by_sides pm_by_sides ct_by_sides cd_by_sides : Value} {od_by_sides an_by_sides : Option Addr} {sl_by_sides : Array (Option Value)} {oc_must_give_way kV_must_give_way dc_must_give_way pm_must_give_way ct_must_give_way cd_must_give_way : Value} {od_must_give_way an_must_give_way : Option Addr} {sl_must_give_way : Array (Option Value)} {oc_law_gives kV_law_gives dc_law_gives pm_law_gives ct_law_gives cd_law_gives : Value} {od_law_gives an_law_gives : Option Addr} {sl_law_gives : Array (Option Value)} {oc_kind_by_shapes kV_kind_by_shapes dc_kind_by_shapes pm_kind_by_shapes ct_kind_by_shapes cd_kind_by_shapes : Value} {od_kind_by_shapes an_kind_by_shapes : Option Addr} {sl_kind_by_shapes : Array (Option Value)} {oc_kind_by_lamps kV_kind_by_lamps dc_kind_by_lamps pm_kind_by_lamps ct_kind_by_lamps cd_kind_by_lamps : Value} {od_kind_by_lamps an_kind_by_lamps : Option Addr} {sl_kind_by_lamps : Array (Option Value)} {oc_law_cases1 kV_law_cases1 dc_law_cases1 pm_law_cases1 ct_law_cases1 : Value} {od_law_cases1 an_law_cases1 : Option Addr} {sl_law_cases1 : Array (Option Value)} {oc_comes_near kV_comes_near dc_comes_near pm_comes_near ct_comes_near cd_comes_near : Value} {od_comes_near an_comes_near : Option Addr} {sl_comes_near : Array (Option Value)} {oc_steady_bearing kV_steady_bearing dc_steady_bearing pm_steady_bearing ct_steady_bearing cd_steady_bearing : Value} {od_steady_bearing an_steady_bearing : Option Addr} {sl_steady_bearing : Array (Option Value)} {oc_law kV_law dc_law pm_law ct_law : Value} {od_law an_law : Option Addr} {sl_law : Array (Option Value)} {u_KINDS : Value} {p_SHAPES : Addr} {es_SHAPES : Array DictEntry} {n_SHAPES : Nat} {p_LAMPS : Addr} {es_LAMPS : Array DictEntry} {n_LAMPS : Nat} {q_KINDS : Addr} {its_KINDS : Array Value} {m_KINDS : Nat} {l_KINDS : Array (Option Value)} {vs_law_cases1 : Array Value} {zo_law_cases1 : Option Addr} {zs_law_cases1 : Array (Option Value)} {vs_law : Array Value} {zo_law : Option Addr} {zs_law : Array (Option Value)}
    (nk_law_dice : PySem.W.nsIn K mainGlobals "_law_dice" = some (some (.ref f_law_dice)))
    (lk_law_dice : K.lookup f_law_dice = some ⟨oc_law_dice, od_law_dice, .func (PySem.W.fnOf "_law_dice" "_law_dice" (defArgs s_law_dice) (defBody s_law_dice) (defScope s_law_dice) .none kV_law_dice dc_law_dice pm_law_dice an_law_dice cd_law_dice ct_law_dice), sl_law_dice⟩)
    (dk_law_dice : PySem.W.codeIn K cd_law_dice "_law_dice" = true)
    (kk_law_dice : PySem.W.keepIn K (.ref f_law_dice) = true)
    (nk_law_roll : PySem.W.nsIn K mainGlobals "_law_roll" = some (some (.ref f_law_roll)))
    (lk_law_roll : K.lookup f_law_roll = some ⟨oc_law_roll, od_law_roll, .func (PySem.W.fnOf "_law_roll" "_law_roll" (defArgs s_law_roll) (defBody s_law_roll) (defScope s_law_roll) .none kV_law_roll dc_law_roll pm_law_roll an_law_roll cd_law_roll ct_law_roll), sl_law_roll⟩)
    (dk_law_roll : PySem.W.codeIn K cd_law_roll "_law_roll" = true)
    (kk_law_roll : PySem.W.keepIn K (.ref f_law_roll) = true)
    (nk_law_rounds : PySem.W.nsIn K mainGlobals "_law_rounds" = some (some (.ref f_law_rounds)))
    (lk_law_rounds : K.lookup f_law_rounds = some ⟨oc_law_rounds, od_law_rounds, .func (PySem.W.fnOf "_law_rounds" "_law_rounds" (defArgs s_law_rounds) (defBody s_law_rounds) (defScope s_law_rounds) .none kV_law_rounds dc_law_rounds pm_law_rounds an_law_rounds cd_law_rounds ct_law_rounds), sl_law_rounds⟩)
    (dk_law_rounds : PySem.W.codeIn K cd_law_rounds "_law_rounds" = true)
    (kk_law_rounds : PySem.W.keepIn K (.ref f_law_rounds) = true)
    (nk_law_told : PySem.W.nsIn K mainGlobals "_law_told" = some (some (.ref f_law_told)))
    (lk_law_told : K.lookup f_law_told = some ⟨oc_law_told, od_law_told, .func (PySem.W.fnOf "_law_told" "_law_told" (defArgs s_law_told) (defBody s_law_told) (defScope s_law_told) .none kV_law_told dc_law_told pm_law_told an_law_told cd_law_told ct_law_told), sl_law_told⟩)
    (dk_law_told : PySem.W.codeIn K cd_law_told "_law_told" = true)
    (kk_law_told : PySem.W.keepIn K (.ref f_law_told) = true)
    (ck_Vessel : PySem.W.nsIn K mainGlobals "Vessel" = some (some (.ref c_Vessel)))
    (nk_Vessel_init : PySem.W.findIn K (.ref c_Vessel) "__init__" = some (some (.ref f_Vessel_init)))
    (ik_Vessel_init : PySem.W.isFn K (.ref f_Vessel_init) = true)
    (lk_Vessel_init : K.lookup f_Vessel_init = some ⟨oc_Vessel_init, od_Vessel_init, .func (PySem.W.fnOf "__init__" "Vessel.__init__" (defArgs s_Vessel_init) (defBody s_Vessel_init) (defScope s_Vessel_init) .none kV_Vessel_init dc_Vessel_init pm_Vessel_init an_Vessel_init cd_Vessel_init ct_Vessel_init), sl_Vessel_init⟩)
    (dk_Vessel_init : PySem.W.codeIn K cd_Vessel_init "Vessel.__init__" = true)
    (kk_Vessel_init : PySem.W.keepIn K (.ref f_Vessel_init) = true)
    (nk_law_vessel : PySem.W.nsIn K mainGlobals "_law_vessel" = some (some (.ref f_law_vessel)))
    (lk_law_vessel : K.lookup f_law_vessel = some ⟨oc_law_vessel, od_law_vessel, .func (PySem.W.fnOf "_law_vessel" "_law_vessel" (defArgs s_law_vessel) (defBody s_law_vessel) (defScope s_law_vessel) .none kV_law_vessel dc_law_vessel pm_law_vessel an_law_vessel cd_law_vessel ct_law_vessel), sl_law_vessel⟩)
    (dk_law_vessel : PySem.W.codeIn K cd_law_vessel "_law_vessel" = true)
    (kk_law_vessel : PySem.W.keepIn K (.ref f_law_vessel) = true)
    (nk_law_beside : PySem.W.nsIn K mainGlobals "_law_beside" = some (some (.ref f_law_beside)))
    (lk_law_beside : K.lookup f_law_beside = some ⟨oc_law_beside, od_law_beside, .func (PySem.W.fnOf "_law_beside" "_law_beside" (defArgs s_law_beside) (defBody s_law_beside) (defScope s_law_beside) .none kV_law_beside dc_law_beside pm_law_beside an_law_beside cd_law_beside ct_law_beside), sl_law_beside⟩)
    (dk_law_beside : PySem.W.codeIn K cd_law_beside "_law_beside" = true)
    (kk_law_beside : PySem.W.keepIn K (.ref f_law_beside) = true)
    (nk_law_side : PySem.W.nsIn K mainGlobals "_law_side" = some (some (.ref f_law_side)))
    (lk_law_side : K.lookup f_law_side = some ⟨oc_law_side, od_law_side, .func (PySem.W.fnOf "_law_side" "_law_side" (defArgs s_law_side) (defBody s_law_side) (defScope s_law_side) .none kV_law_side dc_law_side pm_law_side an_law_side cd_law_side ct_law_side), sl_law_side⟩)
    (dk_law_side : PySem.W.codeIn K cd_law_side "_law_side" = true)
    (kk_law_side : PySem.W.keepIn K (.ref f_law_side) = true)
    (nk_Vessel_side_of_vessel : PySem.W.findIn K (.ref c_Vessel) "side_of_vessel" = some (some (.ref f_Vessel_side_of_vessel)))
    (ik_Vessel_side_of_vessel : PySem.W.isFn K (.ref f_Vessel_side_of_vessel) = true)
    (lk_Vessel_side_of_vessel : K.lookup f_Vessel_side_of_vessel = some ⟨oc_Vessel_side_of_vessel, od_Vessel_side_of_vessel, .func (PySem.W.fnOf "side_of_vessel" "Vessel.side_of_vessel" (defArgs s_Vessel_side_of_vessel) (defBody s_Vessel_side_of_vessel) (defScope s_Vessel_side_of_vessel) .none kV_Vessel_side_of_vessel dc_Vessel_side_of_vessel pm_Vessel_side_of_vessel an_Vessel_side_of_vessel cd_Vessel_side_of_vessel ct_Vessel_side_of_vessel), sl_Vessel_side_of_vessel⟩)
    (dk_Vessel_side_of_vessel : PySem.W.codeIn K cd_Vessel_side_of_vessel "Vessel.side_of_vessel" = true)
    (kk_Vessel_side_of_vessel : PySem.W.keepIn K (.ref f_Vessel_side_of_vessel) = true)
    (nk_square : PySem.W.nsIn K mainGlobals "square" = some (some (.ref f_square)))
    (lk_square : K.lookup f_square = some ⟨oc_square, od_square, .func (PySem.W.fnOf "square" "square" (defArgs s_square) (defBody s_square) (defScope s_square) .none kV_square dc_square pm_square an_square cd_square ct_square), sl_square⟩)
    (dk_square : PySem.W.codeIn K cd_square "square" = true)
    (kk_square : PySem.W.keepIn K (.ref f_square) = true)
    (nk_Vessel_overtakes : PySem.W.findIn K (.ref c_Vessel) "overtakes" = some (some (.ref f_Vessel_overtakes)))
    (ik_Vessel_overtakes : PySem.W.isFn K (.ref f_Vessel_overtakes) = true)
    (lk_Vessel_overtakes : K.lookup f_Vessel_overtakes = some ⟨oc_Vessel_overtakes, od_Vessel_overtakes, .func (PySem.W.fnOf "overtakes" "Vessel.overtakes" (defArgs s_Vessel_overtakes) (defBody s_Vessel_overtakes) (defScope s_Vessel_overtakes) .none kV_Vessel_overtakes dc_Vessel_overtakes pm_Vessel_overtakes an_Vessel_overtakes cd_Vessel_overtakes ct_Vessel_overtakes), sl_Vessel_overtakes⟩)
    (dk_Vessel_overtakes : PySem.W.codeIn K cd_Vessel_overtakes "Vessel.overtakes" = true)
    (kk_Vessel_overtakes : PySem.W.keepIn K (.ref f_Vessel_overtakes) = true)
    (nk_law_over : PySem.W.nsIn K mainGlobals "_law_over" = some (some (.ref f_law_over)))
    (lk_law_over : K.lookup f_law_over = some ⟨oc_law_over, od_law_over, .func (PySem.W.fnOf "_law_over" "_law_over" (defArgs s_law_over) (defBody s_law_over) (defScope s_law_over) .none kV_law_over dc_law_over pm_law_over an_law_over cd_law_over ct_law_over), sl_law_over⟩)
    (dk_law_over : PySem.W.codeIn K cd_law_over "_law_over" = true)
    (kk_law_over : PySem.W.keepIn K (.ref f_law_over) = true)
    (nk_Vessel_shown_from_side : PySem.W.findIn K (.ref c_Vessel) "shown_from_side" = some (some (.ref f_Vessel_shown_from_side)))
    (ik_Vessel_shown_from_side : PySem.W.isFn K (.ref f_Vessel_shown_from_side) = true)
    (lk_Vessel_shown_from_side : K.lookup f_Vessel_shown_from_side = some ⟨oc_Vessel_shown_from_side, od_Vessel_shown_from_side, .func (PySem.W.fnOf "shown_from_side" "Vessel.shown_from_side" (defArgs s_Vessel_shown_from_side) (defBody s_Vessel_shown_from_side) (defScope s_Vessel_shown_from_side) .none kV_Vessel_shown_from_side dc_Vessel_shown_from_side pm_Vessel_shown_from_side an_Vessel_shown_from_side cd_Vessel_shown_from_side ct_Vessel_shown_from_side), sl_Vessel_shown_from_side⟩)
    (dk_Vessel_shown_from_side : PySem.W.codeIn K cd_Vessel_shown_from_side "Vessel.shown_from_side" = true)
    (kk_Vessel_shown_from_side : PySem.W.keepIn K (.ref f_Vessel_shown_from_side) = true)
    (nk_Vessel_meets_head_on : PySem.W.findIn K (.ref c_Vessel) "meets_head_on" = some (some (.ref f_Vessel_meets_head_on)))
    (ik_Vessel_meets_head_on : PySem.W.isFn K (.ref f_Vessel_meets_head_on) = true)
    (lk_Vessel_meets_head_on : K.lookup f_Vessel_meets_head_on = some ⟨oc_Vessel_meets_head_on, od_Vessel_meets_head_on, .func (PySem.W.fnOf "meets_head_on" "Vessel.meets_head_on" (defArgs s_Vessel_meets_head_on) (defBody s_Vessel_meets_head_on) (defScope s_Vessel_meets_head_on) .none kV_Vessel_meets_head_on dc_Vessel_meets_head_on pm_Vessel_meets_head_on an_Vessel_meets_head_on cd_Vessel_meets_head_on ct_Vessel_meets_head_on), sl_Vessel_meets_head_on⟩)
    (dk_Vessel_meets_head_on : PySem.W.codeIn K cd_Vessel_meets_head_on "Vessel.meets_head_on" = true)
    (kk_Vessel_meets_head_on : PySem.W.keepIn K (.ref f_Vessel_meets_head_on) = true)
    (nk_by_sides : PySem.W.nsIn K mainGlobals "by_sides" = some (some (.ref f_by_sides)))
    (lk_by_sides : K.lookup f_by_sides = some ⟨oc_by_sides, od_by_sides, .func (PySem.W.fnOf "by_sides" "by_sides" (defArgs s_by_sides) (defBody s_by_sides) (defScope s_by_sides) .none kV_by_sides dc_by_sides pm_by_sides an_by_sides cd_by_sides ct_by_sides), sl_by_sides⟩)
    (dk_by_sides : PySem.W.codeIn K cd_by_sides "by_sides" = true)
    (kk_by_sides : PySem.W.keepIn K (.ref f_by_sides) = true)
    (nk_must_give_way : PySem.W.nsIn K mainGlobals "must_give_way" = some (some (.ref f_must_give_way)))
    (lk_must_give_way : K.lookup f_must_give_way = some ⟨oc_must_give_way, od_must_give_way, .func (PySem.W.fnOf "must_give_way" "must_give_way" (defArgs s_must_give_way) (defBody s_must_give_way) (defScope s_must_give_way) .none kV_must_give_way dc_must_give_way pm_must_give_way an_must_give_way cd_must_give_way ct_must_give_way), sl_must_give_way⟩)
    (dk_must_give_way : PySem.W.codeIn K cd_must_give_way "must_give_way" = true)
    (kk_must_give_way : PySem.W.keepIn K (.ref f_must_give_way) = true)
    (nk_law_gives : PySem.W.nsIn K mainGlobals "_law_gives" = some (some (.ref f_law_gives)))
    (lk_law_gives : K.lookup f_law_gives = some ⟨oc_law_gives, od_law_gives, .func (PySem.W.fnOf "_law_gives" "_law_gives" (defArgs s_law_gives) (defBody s_law_gives) (defScope s_law_gives) .none kV_law_gives dc_law_gives pm_law_gives an_law_gives cd_law_gives ct_law_gives), sl_law_gives⟩)
    (dk_law_gives : PySem.W.codeIn K cd_law_gives "_law_gives" = true)
    (kk_law_gives : PySem.W.keepIn K (.ref f_law_gives) = true)
    (nk_kind_by_shapes : PySem.W.nsIn K mainGlobals "kind_by_shapes" = some (some (.ref f_kind_by_shapes)))
    (lk_kind_by_shapes : K.lookup f_kind_by_shapes = some ⟨oc_kind_by_shapes, od_kind_by_shapes, .func (PySem.W.fnOf "kind_by_shapes" "kind_by_shapes" (defArgs s_kind_by_shapes) (defBody s_kind_by_shapes) (defScope s_kind_by_shapes) .none kV_kind_by_shapes dc_kind_by_shapes pm_kind_by_shapes an_kind_by_shapes cd_kind_by_shapes ct_kind_by_shapes), sl_kind_by_shapes⟩)
    (dk_kind_by_shapes : PySem.W.codeIn K cd_kind_by_shapes "kind_by_shapes" = true)
    (kk_kind_by_shapes : PySem.W.keepIn K (.ref f_kind_by_shapes) = true)
    (nk_kind_by_lamps : PySem.W.nsIn K mainGlobals "kind_by_lamps" = some (some (.ref f_kind_by_lamps)))
    (lk_kind_by_lamps : K.lookup f_kind_by_lamps = some ⟨oc_kind_by_lamps, od_kind_by_lamps, .func (PySem.W.fnOf "kind_by_lamps" "kind_by_lamps" (defArgs s_kind_by_lamps) (defBody s_kind_by_lamps) (defScope s_kind_by_lamps) .none kV_kind_by_lamps dc_kind_by_lamps pm_kind_by_lamps an_kind_by_lamps cd_kind_by_lamps ct_kind_by_lamps), sl_kind_by_lamps⟩)
    (dk_kind_by_lamps : PySem.W.codeIn K cd_kind_by_lamps "kind_by_lamps" = true)
    (kk_kind_by_lamps : PySem.W.keepIn K (.ref f_kind_by_lamps) = true)
    (nk_law_cases1 : PySem.W.nsIn K mainGlobals "_law_cases1" = some (some (.ref f_law_cases1)))
    (lk_law_cases1 : K.lookup f_law_cases1 = some ⟨oc_law_cases1, od_law_cases1, .func (PySem.W.fnOf "_law_cases1" "_law_cases1" (defArgs s_law_cases1) (defBody s_law_cases1) (defScope s_law_cases1) .none kV_law_cases1 dc_law_cases1 pm_law_cases1 an_law_cases1 (.ref k_law_cases1) ct_law_cases1), sl_law_cases1⟩)
    (dk_law_cases1 : PySem.W.codeIn K (.ref k_law_cases1) "_law_cases1" = true)
    (kk_law_cases1 : PySem.W.keepIn K (.ref f_law_cases1) = true)
    (nk_comes_near : PySem.W.nsIn K mainGlobals "comes_near" = some (some (.ref f_comes_near)))
    (lk_comes_near : K.lookup f_comes_near = some ⟨oc_comes_near, od_comes_near, .func (PySem.W.fnOf "comes_near" "comes_near" (defArgs s_comes_near) (defBody s_comes_near) (defScope s_comes_near) .none kV_comes_near dc_comes_near pm_comes_near an_comes_near cd_comes_near ct_comes_near), sl_comes_near⟩)
    (dk_comes_near : PySem.W.codeIn K cd_comes_near "comes_near" = true)
    (kk_comes_near : PySem.W.keepIn K (.ref f_comes_near) = true)
    (nk_steady_bearing : PySem.W.nsIn K mainGlobals "steady_bearing" = some (some (.ref f_steady_bearing)))
    (lk_steady_bearing : K.lookup f_steady_bearing = some ⟨oc_steady_bearing, od_steady_bearing, .func (PySem.W.fnOf "steady_bearing" "steady_bearing" (defArgs s_steady_bearing) (defBody s_steady_bearing) (defScope s_steady_bearing) .none kV_steady_bearing dc_steady_bearing pm_steady_bearing an_steady_bearing cd_steady_bearing ct_steady_bearing), sl_steady_bearing⟩)
    (dk_steady_bearing : PySem.W.codeIn K cd_steady_bearing "steady_bearing" = true)
    (kk_steady_bearing : PySem.W.keepIn K (.ref f_steady_bearing) = true)
    (nk_law : PySem.W.nsIn K mainGlobals "law" = some (some (.ref f_law)))
    (lk_law : K.lookup f_law = some ⟨oc_law, od_law, .func (PySem.W.fnOf "law" "law" (defArgs s_law) (defBody s_law) (defScope s_law) .none kV_law dc_law pm_law an_law (.ref k_law) ct_law), sl_law⟩)
    (dk_law : PySem.W.codeIn K (.ref k_law) "law" = true)
    (kk_law : PySem.W.keepIn K (.ref f_law) = true)
    (pg_Vessel : PySem.W.plainGet K c_Vessel Str.empty = true)
    (hd_Vessel : PySem.W.hasDictIn K c_Vessel = true)
    (po_Vessel : PySem.W.plainOver K c_Vessel = true)
    (sa_Vessel : PySem.W.findIn K (.ref c_Vessel) "__setattr__" = some (some (.builtin "object.__setattr__")))
    (mi_Vessel : PySem.W.makesIn K c_Vessel = true)
    (kc_Vessel : PySem.W.keepIn K (.ref c_Vessel) = true)
    (nf_Vessel_kind : PySem.W.findIn K (.ref c_Vessel) "kind" = some none)
    (nf_Vessel_spot : PySem.W.findIn K (.ref c_Vessel) "spot" = some none)
    (nf_Vessel_steps : PySem.W.findIn K (.ref c_Vessel) "steps" = some none)
    (nf_Vessel_tack : PySem.W.findIn K (.ref c_Vessel) "tack" = some none)
    (xn_BadBook : PySem.W.nsIn K mainGlobals "BadBook" = some (some (.ref x_BadBook)))
    (xe_BadBook : PySem.W.excIn K x_BadBook [.type "ValueError", .type "Exception", .type "BaseException", .type "object"] "ValueError.__new__" = true)
    (xk_BadBook : PySem.W.keepIn K (.ref x_BadBook) = true)
    (xs_BadBook : PySem.W.subIn K (.ref x_BadBook) (.type "BaseException") = some true)
    (xt_BadBook : PySem.W.typeIn K (.ref x_BadBook) = some (.type "type"))
    (xn_BadFlag : PySem.W.nsIn K mainGlobals "BadFlag" = some (some (.ref x_BadFlag)))
    (xe_BadFlag : PySem.W.excIn K x_BadFlag [.type "ValueError", .type "Exception", .type "BaseException", .type "object"] "ValueError.__new__" = true)
    (xk_BadFlag : PySem.W.keepIn K (.ref x_BadFlag) = true)
    (xs_BadFlag : PySem.W.subIn K (.ref x_BadFlag) (.type "BaseException") = some true)
    (xt_BadFlag : PySem.W.typeIn K (.ref x_BadFlag) = some (.type "type"))
    (xn_BadFleet : PySem.W.nsIn K mainGlobals "BadFleet" = some (some (.ref x_BadFleet)))
    (xe_BadFleet : PySem.W.excIn K x_BadFleet [.type "ValueError", .type "Exception", .type "BaseException", .type "object"] "ValueError.__new__" = true)
    (xk_BadFleet : PySem.W.keepIn K (.ref x_BadFleet) = true)
    (xs_BadFleet : PySem.W.subIn K (.ref x_BadFleet) (.type "BaseException") = some true)
    (xt_BadFleet : PySem.W.typeIn K (.ref x_BadFleet) = some (.type "type"))
    (xn_BadHoist : PySem.W.nsIn K mainGlobals "BadHoist" = some (some (.ref x_BadHoist)))
    (xe_BadHoist : PySem.W.excIn K x_BadHoist [.type "ValueError", .type "Exception", .type "BaseException", .type "object"] "ValueError.__new__" = true)
    (xk_BadHoist : PySem.W.keepIn K (.ref x_BadHoist) = true)
    (xs_BadHoist : PySem.W.subIn K (.ref x_BadHoist) (.type "BaseException") = some true)
    (xt_BadHoist : PySem.W.typeIn K (.ref x_BadHoist) = some (.type "type"))
    (xn_Foul : PySem.W.nsIn K mainGlobals "Foul" = some (some (.ref x_Foul)))
    (xn_NoWay : PySem.W.nsIn K mainGlobals "NoWay" = some (some (.ref x_NoWay)))
    (xe_NoWay : PySem.W.excIn K x_NoWay [.type "ValueError", .type "Exception", .type "BaseException", .type "object"] "ValueError.__new__" = true)
    (xk_NoWay : PySem.W.keepIn K (.ref x_NoWay) = true)
    (xs_NoWay : PySem.W.subIn K (.ref x_NoWay) (.type "BaseException") = some true)
    (xt_NoWay : PySem.W.typeIn K (.ref x_NoWay) = some (.type "type"))
    (xn_TooLarge : PySem.W.nsIn K mainGlobals "TooLarge" = some (some (.ref x_TooLarge)))
    (xe_TooLarge : PySem.W.excIn K x_TooLarge [.type "ValueError", .type "Exception", .type "BaseException", .type "object"] "ValueError.__new__" = true)
    (xk_TooLarge : PySem.W.keepIn K (.ref x_TooLarge) = true)
    (xs_TooLarge : PySem.W.subIn K (.ref x_TooLarge) (.type "BaseException") = some true)
    (xt_TooLarge : PySem.W.typeIn K (.ref x_TooLarge) = some (.type "type"))
    (xn_Unclear : PySem.W.nsIn K mainGlobals "Unclear" = some (some (.ref x_Unclear)))
    (xn_BadText : PySem.W.nsIn K mainGlobals "BadText" = some (some (.ref x_BadText)))
    (exq : exmB K (excA ⟨f_law_dice, f_law_roll, f_law_rounds, f_law_told, f_Vessel_init, f_law_vessel, f_law_beside, f_law_side, f_Vessel_side_of_vessel, f_square, f_Vessel_overtakes, f_law_over, f_Vessel_shown_from_side, f_Vessel_meets_head_on, f_by_sides, f_must_give_way, f_law_gives, f_kind_by_shapes, f_kind_by_lamps, f_law_cases1, f_comes_near, f_steady_bearing, f_law, c_Vessel, x_BadBook, x_BadFlag, x_BadFleet, x_BadHoist, x_Foul, x_NoWay, x_TooLarge, x_Unclear, x_BadText, k_law_cases1, t_law_cases1, k_law, t_law⟩) (toldL.map (·.1)) = true)
    (bz_tuple : PySem.W.nsIn K mainGlobals "tuple" = some none)
    (bz_range : PySem.W.nsIn K mainGlobals "range" = some none)
    (bz_min : PySem.W.nsIn K mainGlobals "min" = some none)
    (bz_int : PySem.W.nsIn K mainGlobals "int" = some none)
    (bz_abs : PySem.W.nsIn K mainGlobals "abs" = some none)
    (cn_KINDS : PySem.W.nsIn K mainGlobals "KINDS" = some (some u_KINDS))
    (cq_KINDS : isD K d_KINDS u_KINDS = true)
    (cn_SHAPES : PySem.W.nsIn K mainGlobals "SHAPES" = some (some (.ref p_SHAPES)))
    (cl_SHAPES : K.lookup p_SHAPES = some ⟨.type "dict", none, .dict es_SHAPES n_SHAPES, #[]⟩)
    (cy_SHAPES : PySem.W.KeysLit w.params es_SHAPES.toList)
    (cq_SHAPES : isCs K p_SHAPES d_SHAPES_kvs = true)
    (cn_LAMPS : PySem.W.nsIn K mainGlobals "LAMPS" = some (some (.ref p_LAMPS)))
    (cl_LAMPS : K.lookup p_LAMPS = some ⟨.type "dict", none, .dict es_LAMPS n_LAMPS, #[]⟩)
    (cy_LAMPS : PySem.W.KeysLit w.params es_LAMPS.toList)
    (cq_LAMPS : isCs K p_LAMPS d_LAMPS_kvs = true)
    (tn_KINDS : PySem.W.nsIn K mainGlobals "KINDS" = some (some (.ref q_KINDS)))
    (tl_KINDS : K.lookup q_KINDS = some ⟨.type "tuple", none, .seq its_KINDS m_KINDS, l_KINDS⟩)
    (tq_KINDS : isD K d_KINDS (.ref q_KINDS) = true)
    (zl_law_cases1 : K.lookup k_law_cases1 = some ⟨.type "code", zo_law_cases1, .fields vs_law_cases1, zs_law_cases1⟩)
    (zv_law_cases1 : (vs_law_cases1[11]? : Option Value) = some (.ref t_law_cases1))
    (zh_law_cases1 : PySem.W.codeHdIn K k_law_cases1 t_law_cases1 = true)
    (zn_law_cases1 : K.lookup t_law_cases1 = none)
    (zt_law_cases1 : t_law_cases1 ∈ ts)
    (zl_law : K.lookup k_law = some ⟨.type "code", zo_law, .fields vs_law, zs_law⟩)
    (zv_law : (vs_law[11]? : Option Value) = some (.ref t_law))
    (zh_law : PySem.W.codeHdIn K k_law t_law = true)
    (zn_law : K.lookup t_law = none)
    (zt_law : t_law ∈ ts)
    (ne_law_cases1_law : t_law_cases1 ≠ t_law) :
    LawAtS l w K (L2.CX l.prog w) 6 63 "script" mg fa h := by
  have M : ∀ {x : Str} {v : Value}, PySem.W.nsIn K mainGlobals x = some (some v) → mg x = some v := fun e => PySem.W.mg_of X hN e
  have M0 : ∀ {x : Str}, PySem.W.nsIn K mainGlobals x = some none → mg x = none := fun e => PySem.W.mg_none_of X hN e
  have e := hfa.symm.trans (M nk_law)
  have e2 : f_law = fa := by injection e with e; injection e with e; exact e.symm
  subst e2
  have TT : ∀ base : Heap, (∀ p ∈ ([(k_law_cases1, t_law_cases1), (k_law, t_law)] : List (Addr × Addr)), TabB base mg p.1 p.2) → Txt w K mg base ⟨f_law_dice, f_law_roll, f_law_rounds, f_law_told, f_Vessel_init, f_law_vessel, f_law_beside, f_law_side, f_Vessel_side_of_vessel, f_square, f_Vessel_overtakes, f_law_over, f_Vessel_shown_from_side, f_Vessel_meets_head_on, f_by_sides, f_must_give_way, f_law_gives, f_kind_by_shapes, f_kind_by_lamps, f_law_cases1, f_comes_near, f_steady_bearing, f_law, c_Vessel, x_BadBook, x_BadFlag, x_BadFleet, x_BadHoist, x_Foul, x_NoWay, x_TooLarge, x_Unclear, x_BadText, k_law_cases1, t_law_cases1, k_law, t_law⟩ := fun base hTB => {
    b_tuple := M0 bz_tuple,
    b_range := M0 bz_range,
    b_min := M0 bz_min,
    b_int := M0 bz_int,
    b_abs := M0 bz_abs,
    g_law_dice := M nk_law_dice,
    e_law_dice := funE_of lk_law_dice dk_law_dice kk_law_dice (fun us hl => match us, hl with | [_], _ => rfl),
    g_law_roll := M nk_law_roll,
    e_law_roll := funE_of lk_law_roll dk_law_roll kk_law_roll (fun us hl => match us, hl with | [_, _], _ => rfl),
    g_law_rounds := M nk_law_rounds,
    e_law_rounds := funE_of lk_law_rounds dk_law_rounds kk_law_rounds (fun us hl => match us, hl with | [_, _], _ => rfl),
    g_law_told := M nk_law_told,
    l_told := ⟨_, _, _, _, _, _, _, _, _, lk_law_told, dk_law_told, kk_law_told, .all (fun us hl => match us, hl with | [_], _ => rfl)⟩,
    e_Vessel_init := funE_of lk_Vessel_init dk_Vessel_init kk_Vessel_init (fun us hl => match us, hl with | [_, _, _, _, _], _ => rfl),
    mk_Vessel := ⟨mi_Vessel, nk_Vessel_init, ik_Vessel_init, kc_Vessel⟩,
    g_law_vessel := M nk_law_vessel,
    e_law_vessel := funE_of lk_law_vessel dk_law_vessel kk_law_vessel (fun us hl => match us, hl with | [_], _ => rfl),
    g_law_beside := M nk_law_beside,
    e_law_beside := funE_of lk_law_beside dk_law_beside kk_law_beside (fun us hl => match us, hl with | [_, _, _], _ => rfl),
    g_law_side := M nk_law_side,
    e_law_side := funE_of lk_law_side dk_law_side kk_law_side (fun us hl => match us, hl with | [_, _], _ => rfl),
    e_Vessel_side_of_vessel := funE_of lk_Vessel_side_of_vessel dk_Vessel_side_of_vessel kk_Vessel_side_of_vessel (fun us hl => match us, hl with | [_, _], _ => rfl),
    mt_Vessel_side_of_vessel := ⟨nk_Vessel_side_of_vessel, ik_Vessel_side_of_vessel, kk_Vessel_side_of_vessel⟩,
    g_square := M nk_square,
    e_square := funE_of lk_square dk_square kk_square (fun us hl => match us, hl with | [_], _ => rfl),
    e_Vessel_overtakes := funE_of lk_Vessel_overtakes dk_Vessel_overtakes kk_Vessel_overtakes (fun us hl => match us, hl with | [_, _], _ => rfl),
    mt_Vessel_overtakes := ⟨nk_Vessel_overtakes, ik_Vessel_overtakes, kk_Vessel_overtakes⟩,
    g_law_over := M nk_law_over,
    e_law_over := funE_of lk_law_over dk_law_over kk_law_over (fun us hl => match us, hl with | [_, _], _ => rfl),
    e_Vessel_shown_from_side := funE_of lk_Vessel_shown_from_side dk_Vessel_shown_from_side kk_Vessel_shown_from_side (fun us hl => match us, hl with | [_, _], _ => rfl),
    mt_Vessel_shown_from_side := ⟨nk_Vessel_shown_from_side, ik_Vessel_shown_from_side, kk_Vessel_shown_from_side⟩,
    e_Vessel_meets_head_on := funE_of lk_Vessel_meets_head_on dk_Vessel_meets_head_on kk_Vessel_meets_head_on (fun us hl => match us, hl with | [_, _], _ => rfl),
    mt_Vessel_meets_head_on := ⟨nk_Vessel_meets_head_on, ik_Vessel_meets_head_on, kk_Vessel_meets_head_on⟩,
    g_by_sides := M nk_by_sides,
    e_by_sides := funE_of lk_by_sides dk_by_sides kk_by_sides (fun us hl => match us, hl with | [_, _], _ => rfl),
    g_must_give_way := M nk_must_give_way,
    e_must_give_way := funE_of lk_must_give_way dk_must_give_way kk_must_give_way (fun us hl => match us, hl with | [_, _], _ => rfl),
    g_law_gives := M nk_law_gives,
    e_law_gives := funE_of lk_law_gives dk_law_gives kk_law_gives (fun us hl => match us, hl with | [_, _], _ => rfl),
    g_kind_by_shapes := M nk_kind_by_shapes,
    e_kind_by_shapes := funE_of lk_kind_by_shapes dk_kind_by_shapes kk_kind_by_shapes (fun us hl => match us, hl with | [_], _ => rfl),
    g_kind_by_lamps := M nk_kind_by_lamps,
    e_kind_by_lamps := funE_of lk_kind_by_lamps dk_kind_by_lamps kk_kind_by_lamps (fun us hl => match us, hl with | [_], _ => rfl),
    g_law_cases1 := M nk_law_cases1,
    e_law_cases1 := funC_of lk_law_cases1 dk_law_cases1 kk_law_cases1 (fun us hl => match us, hl with | [], _ => rfl),
    g_comes_near := M nk_comes_near,
    e_comes_near := funE_of lk_comes_near dk_comes_near kk_comes_near (fun us hl => match us, hl with | [_, _, _], _ => rfl),
    g_steady_bearing := M nk_steady_bearing,
    e_steady_bearing := funE_of lk_steady_bearing dk_steady_bearing kk_steady_bearing (fun us hl => match us, hl with | [_, _], _ => rfl),
    g_law := M nk_law,
    e_law := funC_of lk_law dk_law kk_law (fun us hl => match us, hl with | [_], _ => rfl),
    g_Vessel := M ck_Vessel,
    c_Vessel := ⟨pg_Vessel, hd_Vessel, po_Vessel, sa_Vessel⟩,
    n_Vessel_kind := nf_Vessel_kind,
    n_Vessel_spot := nf_Vessel_spot,
    n_Vessel_steps := nf_Vessel_steps,
    n_Vessel_tack := nf_Vessel_tack,
    x_BadBook := ⟨xe_BadBook, M xn_BadBook, xk_BadBook, xs_BadBook, xt_BadBook⟩,
    x_BadFlag := ⟨xe_BadFlag, M xn_BadFlag, xk_BadFlag, xs_BadFlag, xt_BadFlag⟩,
    x_BadFleet := ⟨xe_BadFleet, M xn_BadFleet, xk_BadFleet, xs_BadFleet, xt_BadFleet⟩,
    x_BadHoist := ⟨xe_BadHoist, M xn_BadHoist, xk_BadHoist, xs_BadHoist, xt_BadHoist⟩,
    x_Foul := M xn_Foul,
    x_NoWay := ⟨xe_NoWay, M xn_NoWay, xk_NoWay, xs_NoWay, xt_NoWay⟩,
    x_TooLarge := ⟨xe_TooLarge, M xn_TooLarge, xk_TooLarge, xs_TooLarge, xt_TooLarge⟩,
    x_Unclear := M xn_Unclear,
    x_BadText := M xn_BadText,
    exm := exm_by exq,
    v_KINDS := glD_of rfl (M cn_KINDS) cq_KINDS,
    v_SHAPES := glC_of rfl (M cn_SHAPES) cl_SHAPES cy_SHAPES cq_SHAPES,
    v_LAMPS := glC_of rfl (M cn_LAMPS) cl_LAMPS cy_LAMPS cq_LAMPS,
    kt_KINDS := ktD_of rfl (M tn_KINDS) tl_KINDS tq_KINDS,
    tb_law_cases1 := hTB (k_law_cases1, t_law_cases1) (by simp),
    tb_law := hTB (k_law, t_law) (by simp),
    ne_law_cases1_law := ne_law_cases1_law }
  refine ⟨_, [(k_law_cases1, t_law_cases1), (k_law, t_law)], spLaw K (tabsA ⟨f_law_dice, f_law_roll, f_law_rounds, f_law_told, f_Vessel_init, f_law_vessel, f_law_beside, f_law_side, f_Vessel_side_of_vessel, f_square, f_Vessel_overtakes, f_law_over, f_Vessel_shown_from_side, f_Vessel_meets_head_on, f_by_sides, f_must_give_way, f_law_gives, f_kind_by_shapes, f_kind_by_lamps, f_law_cases1, f_comes_near, f_steady_bearing, f_law, c_Vessel, x_BadBook, x_BadFlag, x_BadFleet, x_BadHoist, x_Foul, x_NoWay, x_TooLarge, x_Unclear, x_BadText, k_law_cases1, t_law_cases1, k_law, t_law⟩), fun p hp => ?_, fun p hp => ?_, fun p hp => ?_, fun s u => .of_eq rfl, fun H a ns hl hb hT hS => ⟨a, ns, rfl, hS, fun p hp => ?_, fun _ => rfl⟩, fun base _ _ hTB => ok_law (TT base hTB) lk_law dk_law hF⟩
  · simp only [List.mem_cons, List.not_mem_nil, or_false] at hp
    rcases hp with rfl | rfl
    · exact hTS _ zt_law_cases1
    · exact hTS _ zt_law
  · simp only [List.mem_cons, List.not_mem_nil, or_false] at hp
    rcases hp with rfl | rfl
    · exact zn_law_cases1
    · exact zn_law
  · simp only [List.mem_cons, List.not_mem_nil, or_false] at hp
    rcases hp with rfl | rfl
    · exact PySem.W.codeHd_of_K X zh_law_cases1
    · exact PySem.W.codeHd_of_K X zh_law
  · unfold tabsA at hp
    simp only [List.mem_cons, List.not_mem_nil, or_false] at hp
    rcases hp with rfl | rfl
    · exact hT (k_law_cases1, t_law_cases1) (by simp)
    · exact hT (k_law, t_law) (by simp)
end K17
set_option Elab.async false
set_option linter.all false
set_option maxRecDepth 100000
namespace K17
open DL
theorem idn (a b c f d e : Int) : (a * d + b * e) * (c * d + f * e) + (a * e - b * d) * (c * e - f * d) = (a * c + b * f) * (d * d + e * e) := by grind
theorem sqn (x : Int) : 0 ≤ x * x := by
  rcases Int.le_total 0 x with h | h
  · exact Int.mul_nonneg h h
  · have := Int.mul_nonneg (Int.neg_nonneg.mpr h) (Int.neg_nonneg.mpr h)
    rw [Int.neg_mul_neg] at this
    exact this
theorem opp (a b c f d e : Int) (h1 : a * e = b * d) (h2 : 0 < d * a + e * b) (h3 : c * e = f * d) (h4 : d * c + e * f < 0) : a * c + b * f < 0 := by
  have i := idn a b c f d e
  rw [h1, h3] at i
  have p : (d * a + e * b) * (d * c + e * f) < 0 := Int.mul_neg_of_pos_of_neg h2 h4
  have q : (a * c + b * f) * (d * d + e * e) < 0 := by
    have : (a * c + b * f) * (d * d + e * e) = (d * a + e * b) * (d * c + e * f) := by rw [← i]; grind
    omega
  have r : 0 ≤ d * d + e * e := by
    have := sqn d
    have := sqn e
    omega
  by_cases h : a * c + b * f < 0
  · exact h
  · have := Int.mul_nonneg (Int.not_lt.mp h) r
    omega
theorem nboth (a b c f : Int) (h1 : c * c + f * f < a * c + b * f) (h2 : a * a + b * b < c * a + f * b) : False := by
  have := sqn (a - c)
  have := sqn (b - f)
  have e : (a - c) * (a - c) + (b - f) * (b - f) = (a * a + b * b) + (c * c + f * f) - (a * c + b * f) - (c * a + f * b) := by grind
  omega
def kn : Nat → List Nat
  | 0 => [110, 111, 116, 32, 117, 110, 100, 101, 114, 32, 99, 111, 109, 109, 97, 110, 100]
  | 1 => [104, 97, 109, 112, 101, 114, 101, 100]
  | 2 => [102, 105, 115, 104, 105, 110, 103]
  | 3 => [115, 97, 105, 108, 105, 110, 103]
  | _ => [112, 111, 119, 101, 114]
def S_noway : List Nat := [110, 111, 32, 119, 97, 121]
def S_port : List Nat := [112, 111, 114, 116]
def S_star : List Nat := [115, 116, 97, 114, 98, 111, 97, 114, 100]
def S_ahead : List Nat := [97, 104, 101, 97, 100]
def S_astern : List Nat := [97, 115, 116, 101, 114, 110]
def S_first : List Nat := [102, 105, 114, 115, 116]
def S_second : List Nat := [115, 101, 99, 111, 110, 100]
def S_both : List Nat := [98, 111, 116, 104]
def S_neither : List Nat := [110, 101, 105, 116, 104, 101, 114]
structure V where
  k : Nat
  r : Int
  c : Int
  x : Int
  y : Int
  t : List Nat
def V.d (v : V) : D := .ins 0 [.str (kn v.k), .tup [.int v.r, .int v.c], .tup [.int v.x, .int v.y], .str v.t]
def Sn (i : Int) : Prop := -100 ≤ i ∧ i ≤ 100
def Sm (i : Int) : Prop := -1000 ≤ i ∧ i ≤ 1000
theorem Sn.sm {i : Int} (h : Sn i) : Sm i := by unfold Sn at h; unfold Sm; omega
theorem sm_sub {i j : Int} (h : Sn i) (k : Sn j) : Sm (i - j) := by unfold Sn at h k; unfold Sm; omega
structure V.Ok (v : V) : Prop where
  k : v.k < 5
  r : Sn v.r
  c : Sn v.c
  x : Sn v.x
  y : Sn v.y
  t : if v.k = 3 then v.t = S_port ∨ v.t = S_star else v.t = []
theorem mulS {i j : Int} (h : Sm i) : mulD (.int i) (.int j) = .ok (.int (i * j)) := mul_ok (by have := h.1; omega) (by have := h.2; omega)
@[simp] theorem fld_kind (v : V) : fldD fx_kind v.d = .ok (.str (kn v.k)) := rfl
@[simp] theorem fld_spot (v : V) : fldD fx_spot v.d = .ok (.tup [.int v.r, .int v.c]) := rfl
@[simp] theorem fld_steps (v : V) : fldD fx_steps v.d = .ok (.tup [.int v.x, .int v.y]) := rfl
@[simp] theorem fld_tack (v : V) : fldD fx_tack v.d = .ok (.str v.t) := rfl
@[simp] theorem isC_d (v : V) : isC 0 v.d = .ok v.d := rfl
theorem square_eq (x y : Int) (hx : Sm x) (hy : Sm y) : D_square [.tup [.int x, .int y]] = .ok (.int (x * x + y * y)) := by
  rw [D_square, runF_eq _ _ _ _ (by rfl)]
  simp [F_square, var_eq, mulS hx, mulS hy]
def noway (a b : V) : Prop := (a.x = 0 ∧ a.y = 0) ∨ (b.r - a.r = 0 ∧ b.c - a.c = 0)
instance (a b : V) : Decidable (noway a b) := by unfold noway; infer_instance
def side (a b : V) : List Nat := if noway a b then S_noway else if a.y * (b.r - a.r) < a.x * (b.c - a.c) then S_port else if a.x * (b.c - a.c) < a.y * (b.r - a.r) then S_star else if 0 < (b.r - a.r) * a.x + (b.c - a.c) * a.y then S_ahead else S_astern
theorem side_eq (a b : V) (ha : a.Ok) (hb : b.Ok) : D_law_side [a.d, b.d] = .ok (.str (side a b)) := by
  rw [D_law_side, runF_eq _ _ _ _ (by rfl)]
  have e1 : Sm a.x := ha.x.sm
  have e2 : Sm a.y := ha.y.sm
  have e3 : Sm (b.r - a.r) := sm_sub hb.r ha.r
  have e4 : Sm (b.c - a.c) := sm_sub hb.c ha.c
  simp [F_law_side, var_eq, mulS e1, mulS e2, mulS e3, mulS e4]
  unfold side noway S_noway S_port S_star S_ahead S_astern
  repeat' split
  all_goals first | rfl | omega | (simp_all; done) | (simp_all; omega)
def over (a b : V) : Bool := decide ((a.r - b.r) * b.x + (a.c - b.c) * b.y < 0) && decide (b.x * b.x + b.y * b.y < a.x * b.x + a.y * b.y)
theorem lover_eq (a b : V) (ha : a.Ok) (hb : b.Ok) : D_law_over [a.d, b.d] = .ok (.bl (over a b)) := by
  rw [D_law_over, runF_eq _ _ _ _ (by rfl)]
  have e1 : Sm a.x := ha.x.sm
  have e2 : Sm a.y := ha.y.sm
  have f1 : Sm b.x := hb.x.sm
  have f2 : Sm b.y := hb.y.sm
  have e3 : Sm (a.r - b.r) := sm_sub ha.r hb.r
  have e4 : Sm (a.c - b.c) := sm_sub ha.c hb.c
  simp [F_law_over, var_eq, mulS e1, mulS e2, mulS e3, mulS e4, mulS f1, mulS f2]
  unfold over
  repeat' split
  all_goals first | rfl | (simp_all; done) | (simp_all; omega)
theorem over_eq (a b : V) (ha : a.Ok) (hb : b.Ok) : D_Vessel_overtakes [a.d, b.d] = .ok (.bl (over a b)) := by
  rw [D_Vessel_overtakes, runF_eq _ _ _ _ (by rfl)]
  have e1 : Sm a.x := ha.x.sm
  have e2 : Sm a.y := ha.y.sm
  have f1 : Sm b.x := hb.x.sm
  have f2 : Sm b.y := hb.y.sm
  have e3 : Sm (a.r - b.r) := sm_sub ha.r hb.r
  have e4 : Sm (a.c - b.c) := sm_sub ha.c hb.c
  simp [F_Vessel_overtakes, var_eq, mulS e1, mulS e2, mulS e3, mulS e4, mulS f1, mulS f2, square_eq b.x b.y f1 f2]
  unfold over
  by_cases h : (a.r - b.r) * b.x + (a.c - b.c) * b.y < 0
  · simp [h]
  · simp [h]
theorem sov_eq (a b : V) (ha : a.Ok) (hb : b.Ok) (h : ¬ noway a b) : D_Vessel_side_of_vessel [a.d, b.d] = .ok (.str (side a b)) := by
  rw [D_Vessel_side_of_vessel, runF_eq _ _ _ _ (by rfl)]
  have e1 : Sm a.x := ha.x.sm
  have e2 : Sm a.y := ha.y.sm
  have e3 : Sm (b.r - a.r) := sm_sub hb.r ha.r
  have e4 : Sm (b.c - a.c) := sm_sub hb.c ha.c
  simp [F_Vessel_side_of_vessel, var_eq, mulS e1, mulS e2, mulS e3, mulS e4]
  unfold side
  rw [if_neg h]
  unfold noway at h
  unfold S_port S_star S_ahead S_astern
  repeat' split
  all_goals first | rfl | omega | (simp_all; done) | (simp_all; omega)
theorem sov_err (a b : V) (ha : a.Ok) (hb : b.Ok) (h : noway a b) : D_Vessel_side_of_vessel [a.d, b.d] = .err ⟨7, .non⟩ := by
  rw [D_Vessel_side_of_vessel, runF_eq _ _ _ _ (by rfl)]
  have e1 : Sm a.x := ha.x.sm
  have e2 : Sm a.y := ha.y.sm
  have e3 : Sm (b.r - a.r) := sm_sub hb.r ha.r
  have e4 : Sm (b.c - a.c) := sm_sub hb.c ha.c
  simp [F_Vessel_side_of_vessel, var_eq, mulS e1, mulS e2, mulS e3, mulS e4]
  unfold noway at h
  repeat' split
  all_goals first | rfl | omega | (simp_all; done) | (simp_all; omega)
theorem told_side (a b : V) (ha : a.Ok) (hb : b.Ok) : toldD toldL (D_Vessel_side_of_vessel [a.d, b.d]) = .ok (.str (side a b)) := by
  by_cases h : noway a b
  · rw [sov_err a b ha hb h]
    unfold side
    rw [if_pos h]
    rfl
  · rw [sov_eq a b ha hb h]; rfl
theorem side_no (a b : V) : (side a b = S_noway) ↔ noway a b := by
  unfold side
  constructor
  · intro h
    split at h
    · assumption
    · repeat' split at h
      all_goals exact absurd h (by decide)
  · intro h; rw [if_pos h]
theorem side_ahead (a b : V) (h : side a b = S_ahead) : ¬ noway a b ∧ a.x * (b.c - a.c) = a.y * (b.r - a.r) ∧ 0 < (b.r - a.r) * a.x + (b.c - a.c) * a.y := by
  unfold side at h
  split at h
  · exact absurd h (by decide)
  · rename_i h0
    refine ⟨h0, ?_⟩
    repeat' split at h
    all_goals first | exact absurd h (by decide) | skip
    refine ⟨by omega, by assumption⟩
def shown (a b : V) : List Nat := if side a b = S_ahead then S_both else if side a b = S_astern ∨ (b.r - a.r) * a.x + (b.c - a.c) * a.y < 0 then [115, 116, 101, 114, 110] else if side a b = S_port then [114, 101, 100] else [103, 114, 101, 101, 110]
theorem shown_eq (a b : V) (ha : a.Ok) (hb : b.Ok) (h : ¬ noway a b) : D_Vessel_shown_from_side [a.d, b.d] = .ok (.str (shown a b)) := by
  rw [D_Vessel_shown_from_side, runF_eq _ _ _ _ (by rfl)]
  have e1 : Sm a.x := ha.x.sm
  have e2 : Sm a.y := ha.y.sm
  have e3 : Sm (b.r - a.r) := sm_sub hb.r ha.r
  have e4 : Sm (b.c - a.c) := sm_sub hb.c ha.c
  simp [F_Vessel_shown_from_side, var_eq, sov_eq a b ha hb h, mulS e1, mulS e2, mulS e3, mulS e4]
  unfold shown S_ahead S_astern S_both S_port
  repeat' split
  all_goals first | rfl | omega | (simp_all; done) | (simp_all; omega)
def headon (a b : V) : Bool := (a.x * b.y == a.y * b.x) && (decide (a.x * b.x + a.y * b.y < 0) && ((side a b == S_ahead) && (side b a == S_ahead)))
theorem headon_eq (a b : V) (ha : a.Ok) (hb : b.Ok) (h : ¬ noway a b) (h2 : ¬ noway b a) : D_Vessel_meets_head_on [a.d, b.d] = .ok (.bl (headon a b)) := by
  rw [D_Vessel_meets_head_on, runF_eq _ _ _ _ (by rfl)]
  have e1 : Sm a.x := ha.x.sm
  have e2 : Sm a.y := ha.y.sm
  simp [F_Vessel_meets_head_on, var_eq, sov_eq a b ha hb h, sov_eq b a hb ha h2, mulS e1, mulS e2]
  unfold headon S_ahead
  by_cases c1 : a.x * b.y = a.y * b.x <;> by_cases c2 : a.x * b.x + a.y * b.y < 0 <;> by_cases c3 : side a b = [97, 104, 101, 97, 100] <;> simp [c1, c2, c3]
def bys (a b : V) : List Nat := if (a.x = 0 ∧ a.y = 0) ∨ (b.x = 0 ∧ b.y = 0) ∨ (a.r = b.r ∧ a.c = b.c) then S_neither else if headon a b = true then S_both else if (side a b == S_star) = (side b a == S_star) then S_neither else if side a b = S_star then S_first else S_second
theorem bys_eq (a b : V) (ha : a.Ok) (hb : b.Ok) : D_by_sides [a.d, b.d] = .ok (.str (bys a b)) := by
  rw [D_by_sides, runF_eq _ _ _ _ (by rfl)]
  by_cases c1 : a.x = 0 ∧ a.y = 0
  · simp [F_by_sides, var_eq, c1, bys, S_neither]
  by_cases c2 : b.x = 0 ∧ b.y = 0
  · simp [F_by_sides, var_eq, c1, c2, bys, S_neither]
  by_cases c3 : a.r = b.r ∧ a.c = b.c
  · simp [F_by_sides, var_eq, c1, c2, c3, bys, S_neither]
  have n1 : ¬ noway a b := by unfold noway; omega
  have n2 : ¬ noway b a := by unfold noway; omega
  simp [F_by_sides, var_eq, c1, c2, c3, bys, S_neither, headon_eq a b ha hb n1 n2, sov_eq a b ha hb n1, sov_eq b a hb ha n2]
  by_cases h : headon a b = true
  · simp [h, S_both]
  · simp [h]
    unfold S_star S_first S_second
    cases q1 : (side a b == [115, 116, 97, 114, 98, 111, 97, 114, 100]) <;> cases q2 : (side b a == [115, 116, 97, 114, 98, 111, 97, 114, 100]) <;> simp_all
theorem idx_kn {i : Nat} (h : i < 5) : idxTp d_KINDS [.str (kn i)] = .ok (.int (i : Nat)) := by
  match i, h with
  | 0, _ => rfl
  | 1, _ => rfl
  | 2, _ => rfl
  | 3, _ => rfl
  | 4, _ => rfl
theorem idl_kn {i : Nat} (h : i < 5) : idxLs (.lst [.str [110, 111, 116, 32, 117, 110, 100, 101, 114, 32, 99, 111, 109, 109, 97, 110, 100], .str [104, 97, 109, 112, 101, 114, 101, 100], .str [102, 105, 115, 104, 105, 110, 103], .str [115, 97, 105, 108, 105, 110, 103], .str [112, 111, 119, 101, 114]]) [.str (kn i)] = .ok (.int (i : Nat)) := by
  match i, h with
  | 0, _ => rfl
  | 1, _ => rfl
  | 2, _ => rfl
  | 3, _ => rfl
  | 4, _ => rfl
theorem kn_eq {i j : Nat} (h : i < 5) (h2 : j < 5) : (kn i == kn j) = decide (i = j) := by
  have : ∀ i, i < 5 → ∀ j, j < 5 → (kn i == kn j) = decide (i = j) := by decide
  exact this i h j h2
def give (a b : V) : List Nat := if over a b = true then S_first else if over b a = true then S_second else if a.k ≠ b.k then (if b.k < a.k then S_first else S_second) else if a.k = 3 ∧ a.t ≠ b.t then (if a.t = S_port then S_first else S_second) else if a.k = 4 then bys a b else S_neither
theorem kn3 {i : Nat} (h : i < 5) : (kn i == [115, 97, 105, 108, 105, 110, 103]) = decide (i = 3) := kn_eq h (j := 3) (by decide)
theorem kn4 {i : Nat} (h : i < 5) : (kn i == [112, 111, 119, 101, 114]) = decide (i = 4) := kn_eq h (j := 4) (by decide)
theorem give_eq (a b : V) (ha : a.Ok) (hb : b.Ok) : D_must_give_way [a.d, b.d] = .ok (.str (give a b)) := by
  rw [D_must_give_way, runF_eq _ _ _ _ (by rfl)]
  simp [F_must_give_way, var_eq, over_eq a b ha hb, over_eq b a hb ha, idx_kn ha.k, idx_kn hb.k, bys_eq a b ha hb, kn3 ha.k, kn4 ha.k]
  unfold give S_first S_second S_port S_neither
  (repeat' split) <;> first | rfl | (simp_all; done) | omega | (exfalso; simp_all; done) | (simp_all; omega)
theorem side_ok (a b : V) : okS (side a b) = true := by
  unfold side
  (repeat' split) <;> rfl
theorem noway_any (a b : V) : (noway a b ∨ noway b a) ↔ ((a.x = 0 ∧ a.y = 0) ∨ (b.x = 0 ∧ b.y = 0) ∨ (a.r = b.r ∧ a.c = b.c)) := by
  unfold noway; omega
theorem both_ahead (a b : V) (h1 : side a b = S_ahead) (h2 : side b a = S_ahead) : a.x * b.x + a.y * b.y < 0 := by
  obtain ⟨_, p1, q1⟩ := side_ahead a b h1
  obtain ⟨_, p2, q2⟩ := side_ahead b a h2
  refine opp a.x a.y b.x b.y (b.r - a.r) (b.c - a.c) p1 q1 (by grind) (by grind)
theorem headon_iff (a b : V) : headon a b = true ↔ a.x * b.y = a.y * b.x ∧ side a b = S_ahead ∧ side b a = S_ahead := by
  unfold headon
  simp only [Bool.and_eq_true, beq_iff_eq, decide_eq_true_eq]
  constructor
  · rintro ⟨h1, h2, h3, h4⟩; exact ⟨h1, h3, h4⟩
  · rintro ⟨h1, h3, h4⟩; exact ⟨h1, both_ahead a b h3 h4, h3, h4⟩
theorem bys_law (a b : V) : bys a b = if side a b = S_noway ∨ side b a = S_noway then S_neither else if a.x * b.y = a.y * b.x ∧ side a b = S_ahead ∧ side b a = S_ahead then S_both else if (side a b == S_star) = (side b a == S_star) then S_neither else if side a b = S_star then S_first else S_second := by
  unfold bys
  by_cases h : (a.x = 0 ∧ a.y = 0) ∨ (b.x = 0 ∧ b.y = 0) ∨ (a.r = b.r ∧ a.c = b.c)
  · rw [if_pos h, if_pos (by rw [side_no, side_no]; exact (noway_any a b).mpr h)]
  · rw [if_neg h, if_neg (c := side a b = S_noway ∨ side b a = S_noway) (by rw [side_no, side_no]; exact fun z => h ((noway_any a b).mp z))]
    by_cases q : headon a b = true
    · rw [if_pos q, if_pos ((headon_iff a b).mp q)]
    · rw [if_neg q, if_neg fun z => q ((headon_iff a b).mpr z)]
theorem lgive_eq (a b : V) (ha : a.Ok) (hb : b.Ok) : D_law_gives [a.d, b.d] = .ok (.str (give a b)) := by
  rw [D_law_gives, runF_eq _ _ _ _ (by rfl)]
  have e1 : Sm a.x := ha.x.sm
  have e2 : Sm a.y := ha.y.sm
  simp [F_law_gives, var_eq, lover_eq a b ha hb, lover_eq b a hb ha, side_eq a b ha hb, side_eq b a hb ha, kn3 ha.k, kn4 ha.k, kn_eq ha.k hb.k, mulS e1, mulS e2, isT, in_tup2s (side_ok a b) (side_ok b a) (s := [110, 111, 32, 119, 97, 121]) rfl, eq_tup2s (side_ok a b) (side_ok b a) (c := [97, 104, 101, 97, 100]) (d := [97, 104, 101, 97, 100]) rfl rfl, loopC_cons, wipeL, varP_eq, idl_kn ha.k, idl_kn hb.k]
  unfold give
  rw [bys_law]
  unfold S_first S_second S_port S_neither S_noway S_ahead S_both S_star
  by_cases c1 : over a b = true
  · simp [c1]
  by_cases c2 : over b a = true
  · simp [c1, c2]
  by_cases c3 : a.k = b.k
  · by_cases c4 : a.k = 3
    · have c6 : ¬ a.k = 4 := by omega
      simp only [c1, c2, c3.symm, c4, if_true, if_false, ne_eq, not_true, not_false_eq_true]
      simp
      (repeat' split) <;> first | rfl | (simp_all; done)
    · by_cases c6 : a.k = 4
      · have c7 : ¬ a.k = 3 := c4
        simp [c1, c2, c3.symm, c6]
        (repeat' split) <;> first | rfl | (simp_all; done)
      · simp [c1, c2, c3.symm, c4, c6]
  · simp [c1, c2, c3]
    split <;> rfl
def swap (s : List Nat) : List Nat := if s = S_first then S_second else if s = S_second then S_first else s
theorem over_not (a b : V) (h : over a b = true) : over b a = false := by
  cases q : over b a with
  | false => rfl
  | true =>
    unfold over at h q
    simp only [Bool.and_eq_true, decide_eq_true_eq] at h q
    exact (nboth a.x a.y b.x b.y h.2 (by have := q.2; grind)).elim
theorem headon_comm (a b : V) : headon a b = headon b a := by
  rw [Bool.eq_iff_iff, headon_iff, headon_iff]
  constructor
  · rintro ⟨h1, h2, h3⟩; exact ⟨by grind, h3, h2⟩
  · rintro ⟨h1, h2, h3⟩; exact ⟨by grind, h3, h2⟩
theorem bys_swap (a b : V) : bys b a = swap (bys a b) := by
  unfold bys
  rw [headon_comm b a]
  by_cases h : (a.x = 0 ∧ a.y = 0) ∨ (b.x = 0 ∧ b.y = 0) ∨ (a.r = b.r ∧ a.c = b.c)
  · rw [if_pos h, if_pos (by omega)]; rfl
  · rw [if_neg h, if_neg (by omega)]
    by_cases q : headon a b = true
    · rw [if_pos q, if_pos q]; rfl
    · rw [if_neg q, if_neg q]
      cases q1 : (side a b == S_star) <;> cases q2 : (side b a == S_star) <;> simp_all <;> rfl
theorem give_swap (a b : V) (ha : a.Ok) (hb : b.Ok) : give b a = swap (give a b) := by
  unfold give
  by_cases c1 : over a b = true
  · have := over_not a b c1
    simp [c1, this]; rfl
  by_cases c2 : over b a = true
  · simp [c1, c2]; rfl
  by_cases c3 : a.k = b.k
  · by_cases c4 : a.k = 3
    · have ta := ha.t
      have tb := hb.t
      rw [if_pos c4] at ta
      rw [if_pos (c3 ▸ c4)] at tb
      have c5 : b.k = 3 := c3 ▸ c4
      rcases ta with ta | ta <;> rcases tb with tb | tb <;> simp [c1, c2, c4, c5, ta, tb] <;> decide
    · have c5 : ¬ b.k = 3 := c3 ▸ c4
      by_cases c6 : a.k = 4
      · have c7 : b.k = 4 := c3 ▸ c6
        simp [c1, c2, c6, c7, bys_swap a b]
      · have c7 : ¬ b.k = 4 := c3 ▸ c6
        simp [c1, c2, c3, c5, c7]; rfl
  · have c4 : ¬ b.k = a.k := fun e => c3 e.symm
    simp [c1, c2, c3, c4]
    by_cases h : a.k < b.k
    · rw [if_pos h, if_neg (by omega)]; rfl
    · rw [if_neg h, if_pos (by omega)]; rfl
theorem bys_in (a b : V) : bys a b = S_first ∨ bys a b = S_second ∨ bys a b = S_both ∨ bys a b = S_neither := by
  unfold bys
  (repeat' split) <;> simp
theorem give_in (a b : V) : give a b = S_first ∨ give a b = S_second ∨ give a b = S_both ∨ give a b = S_neither := by
  unfold give
  (repeat' split) <;> first | exact bys_in a b | simp
end K17
set_option Elab.async false
set_option linter.all false
set_option maxRecDepth 100000
namespace DL
theorem ltb_int (i j : Int) : D.ltb (.int i) (.int j) = decide (i < j) := by
  unfold D.ltb
  simp only [D.toP]
  exact PySem.W.dataLt_int i j
theorem ltb_pair (a b i j : Int) : D.ltb (.tup [.int a, .int i]) (.tup [.int b, .int j]) = decide (a < b ∨ (a = b ∧ i < j)) := by
  unfold D.ltb
  simp only [D.toP, D.toPs]
  rw [PySem.W.dataLt_tuple]
  by_cases h : a = b
  · subst h
    rw [PySem.W.dataLt_all_yes (by simp [PySem.W.alike]) (by simp [PySem.PyData.eqv])]
    by_cases h2 : i = j
    · subst h2
      rw [PySem.W.dataLt_all_yes (by simp [PySem.W.alike]) (by simp [PySem.PyData.eqv])]
      simp
      decide
    · rw [PySem.W.dataLt_all_no (by simp [PySem.W.alike]) (by simp [PySem.PyData.eqv, h2]), PySem.W.dataLt_int]
      simp
  · rw [PySem.W.dataLt_all_no (by simp [PySem.W.alike]) (by simp [PySem.PyData.eqv, h]), PySem.W.dataLt_int]
    simp [h]
theorem ali_int (i j : Int) : D.ali (.int i) (.int j) = true := by
  unfold D.ali
  simp [D.toP, PySem.W.alike]
theorem ali_pair (a b i j : Int) : D.ali (.tup [.int a, .int i]) (.tup [.int b, .int j]) = true := by
  unfold D.ali
  simp [D.toP, D.toPs, PySem.W.alike, PySem.W.alikeAll]
def intL (l : List Int) : List D := l.map D.int
def prsI : List Int → Nat → List D
  | [], _ => []
  | x :: l, k => .tup [.int x, .int (k : Nat)] :: prsI l (k + 1)
/-- the least and its first place -/
def arg : Int → Nat → List Int → Nat → Int × Nat
  | v, i, [], _ => (v, i)
  | v, i, y :: t, k => if y < v then arg y k t (k + 1) else arg v i t (k + 1)
theorem least_ints : ∀ (l : List Int) (v : Int) (i k : Nat), least (.int v) (intL l) = .int (arg v i l k).1
  | [], v, i, k => rfl
  | y :: t, v, i, k => by
    show least (if D.ltb (.int y) (.int v) = true then .int y else .int v) (intL t) = _
    unfold arg
    rw [ltb_int]
    by_cases h : y < v
    · simp only [h, decide_true, if_true]; exact least_ints t y k (k + 1)
    · simp only [h, decide_false, if_false, Bool.false_eq_true]; exact least_ints t v i (k + 1)
theorem least_prs : ∀ (l : List Int) (v : Int) (i k : Nat), i < k → least (.tup [.int v, .int (i : Nat)]) (prsI l k) = .tup [.int (arg v i l k).1, .int ((arg v i l k).2 : Nat)]
  | [], v, i, k, _ => rfl
  | y :: t, v, i, k, hik => by
    show least (if D.ltb (.tup [.int y, .int (k : Nat)]) (.tup [.int v, .int (i : Nat)]) = true then .tup [.int y, .int (k : Nat)] else .tup [.int v, .int (i : Nat)]) (prsI t (k + 1)) = _
    unfold arg
    rw [ltb_pair]
    by_cases h : y < v
    · simp only [h, true_or, decide_true, if_true]; exact least_prs t y k (k + 1) (by omega)
    · have h2 : ¬ (y < v ∨ (y = v ∧ ((k : Nat) : Int) < (i : Nat))) := by omega
      rw [decide_eq_false h2, if_neg h]; simp only [if_false, Bool.false_eq_true]; exact least_prs t v i (k + 1) (by omega)
theorem arg_spec : ∀ (l : List Int) (v : Int) (i k : Nat), (arg v i l k).1 ≤ v ∧ ((arg v i l k).1 = v → (arg v i l k).2 = i) ∧ ((arg v i l k).1 < v → ∃ j, (arg v i l k).2 = k + j ∧ l[j]? = some (arg v i l k).1 ∧ ∀ m z, m < j → l[m]? = some z → z ≠ (arg v i l k).1)
  | [], v, i, k => ⟨Int.le_refl _, fun _ => rfl, fun h => absurd h (Int.lt_irrefl _)⟩
  | y :: t, v, i, k => by
    unfold arg
    by_cases h : y < v
    · rw [if_pos h]
      obtain ⟨h1, h2, h3⟩ := arg_spec t y k (k + 1)
      refine ⟨by omega, fun e => by omega, fun _ => ?_⟩
      by_cases q : (arg y k t (k + 1)).1 = y
      · exact ⟨0, by rw [h2 q]; rfl, by rw [q]; rfl, fun m z hm => absurd hm (Nat.not_lt_zero _)⟩
      · obtain ⟨j, e1, e2, e3⟩ := h3 (by omega)
        refine ⟨j + 1, by omega, e2, fun m z hm hz => ?_⟩
        cases m with
        | zero => cases hz; exact fun e => q e.symm
        | succ m => exact e3 m z (by omega) hz
    · rw [if_neg h]
      obtain ⟨h1, h2, h3⟩ := arg_spec t v i (k + 1)
      refine ⟨h1, h2, fun hl => ?_⟩
      obtain ⟨j, e1, e2, e3⟩ := h3 hl
      refine ⟨j + 1, by omega, e2, fun m z hm hz => ?_⟩
      cases m with
      | zero => cases hz; omega
      | succ m => exact e3 m z (by omega) hz
theorem shs_ints (n : Nat) : ∀ l : List Int, D.shs (intL l) n = true
  | [] => rfl
  | x :: l => by show (D.sh (.int x) n && D.shs (intL l) n) = true; rw [shs_ints n l]; rfl
theorem idx_arg (x : Int) (l : List Int) : idxLs (.lst (intL (x :: l))) [.int (arg x 0 l 1).1] = .ok (.int ((arg x 0 l 1).2 : Nat)) := by
  have e : idxL (intL (x :: l)) (.int (arg x 0 l 1).1) = some (arg x 0 l 1).2 := by
    obtain ⟨h1, h2, h3⟩ := arg_spec l x 0 1
    unfold idxL
    rw [List.findIdx?_eq_some_iff_getElem]
    by_cases q : (arg x 0 l 1).1 = x
    · rw [h2 q, q]
      exact ⟨by simp [intL], by simp [intL, D.eqb], fun m hm => absurd hm (Nat.not_lt_zero _)⟩
    · obtain ⟨j, e1, e2, e3⟩ := h3 (by omega)
      have hj : j < l.length := (List.getElem?_eq_some_iff.mp e2).1
      have hj2 : l[j] = (arg x 0 l 1).1 := (List.getElem?_eq_some_iff.mp e2).2
      refine ⟨by simp [intL]; omega, ?_, fun m hm => ?_⟩
      · have : (1 + j) = j + 1 := by omega
        simp [intL, e1, this, hj2, D.eqb]
      · cases m with
        | zero => simp [intL, D.eqb]; exact fun e => q e.symm
        | succ m =>
          have hm2 : m < j := by omega
          have := e3 m l[m] hm2 (List.getElem?_eq_getElem (by omega))
          simp [intL, D.eqb]
          exact this
  unfold idxLs
  simp [D.sh, shs_ints, e]
theorem alis_ints (x : Int) (l : List Int) : alis (intL (x :: l)) = true := by
  unfold alis
  rw [List.all_eq_true]
  intro d hd
  unfold intL at hd
  rw [List.mem_map] at hd
  obtain ⟨i, _, rfl⟩ := hd
  rw [Bool.and_eq_true, List.all_eq_true]
  refine ⟨rfl, fun e he => ?_⟩
  unfold intL at he
  rw [List.mem_map] at he
  obtain ⟨j, _, rfl⟩ := he
  exact ali_int i j
theorem prs_mem : ∀ (l : List Int) (k : Nat) (d : D), d ∈ prsI l k → ∃ a i : Int, d = .tup [.int a, .int i]
  | [], k, d, h => by cases h
  | x :: l, k, d, h => by
    unfold prsI at h
    rcases List.mem_cons.mp h with h | h
    · exact ⟨x, (k : Nat), h⟩
    · exact prs_mem l (k + 1) d h
theorem alis_prs (l : List Int) (k : Nat) : alis (prsI l k) = true := by
  unfold alis
  rw [List.all_eq_true]
  intro d hd
  obtain ⟨a, i, rfl⟩ := prs_mem l k d hd
  rw [Bool.and_eq_true, List.all_eq_true]
  refine ⟨by simp [D.sh, D.shs], fun e he => ?_⟩
  obtain ⟨b, j, rfl⟩ := prs_mem l k e he
  exact ali_pair a b i j
/-- a loop by an invariant -/
theorem loopS_ind {gd : D → LE → Option LE} {body : LE → R Out} (Inv : Nat → LE → Prop) : ∀ (ds : List D) (i : Nat) (r : LE), Inv i r → (∀ j d r, ds[j]? = some d → Inv (i + j) r → ∃ r2 r3, gd d r = some r2 ∧ body r2 = .ok (.nx r3) ∧ Inv (i + j + 1) r3) →
    ∃ r', loopS gd body ds r = .ok (.nx r') ∧ Inv (i + ds.length) r'
  | [], i, r, h, _ => ⟨r, rfl, h⟩
  | d :: ds, i, r, h, hs => by
    obtain ⟨r2, r3, e1, e2, h3⟩ := hs 0 d r rfl h
    obtain ⟨r', e3, h4⟩ := loopS_ind Inv ds (i + 1) r3 h3 fun j d' r'' hd hi => by
      have := hs (j + 1) d' r'' hd (by rw [show i + (j + 1) = i + 1 + j by omega]; exact hi)
      rw [show i + (j + 1) + 1 = i + 1 + j + 1 by omega] at this
      exact this
    refine ⟨r', ?_, by rw [List.length_cons, show i + (ds.length + 1) = i + 1 + ds.length by omega]; exact h4⟩
    unfold loopS
    rw [e1]
    dsimp only
    rw [e2]
    exact e3
end DL
set_option Elab.async false
set_option linter.all false
set_option maxRecDepth 100000
namespace K17
open DL
theorem kbd {k x : Int} (h0 : 0 ≤ k) (h1 : k ≤ 8) (hx : Sn x) : -800 ≤ k * x ∧ k * x ≤ 800 := by
  obtain ⟨a, b⟩ := hx
  have p := Int.mul_nonneg h0 (show 0 ≤ 100 - x by omega)
  have q := Int.mul_nonneg h0 (show 0 ≤ x + 100 by omega)
  rw [Int.mul_sub] at p
  rw [Int.mul_add] at q
  omega
def dnk (a b : V) (k : Int) : Int := a.r + k * a.x - b.r - k * b.x
def rtk (a b : V) (k : Int) : Int := a.c + k * a.y - b.c - k * b.y
def gk (a b : V) (k : Int) : Int := dnk a b k * dnk a b k + rtk a b k * rtk a b k
theorem mulK {k x : Int} (h0 : 0 ≤ k) (h1 : k ≤ 8) : mulD (.int k) (.int x) = .ok (.int (k * x)) := mul_ok (by omega) (by omega)
theorem mul_dn (a b : V) (ha : a.Ok) (hb : b.Ok) {k : Int} (h0 : 0 ≤ k) (h1 : k ≤ 8) (z : Int) : mulD (.int (a.r + k * a.x - b.r - k * b.x)) (.int z) = .ok (.int ((a.r + k * a.x - b.r - k * b.x) * z)) := by
  have p := kbd h0 h1 ha.x
  have q := kbd h0 h1 hb.x
  obtain ⟨u1, u2⟩ := ha.r
  obtain ⟨v1, v2⟩ := hb.r
  exact mul_ok (by omega) (by omega)
theorem mul_rt (a b : V) (ha : a.Ok) (hb : b.Ok) {k : Int} (h0 : 0 ≤ k) (h1 : k ≤ 8) (z : Int) : mulD (.int (a.c + k * a.y - b.c - k * b.y)) (.int z) = .ok (.int ((a.c + k * a.y - b.c - k * b.y) * z)) := by
  have p := kbd h0 h1 ha.y
  have q := kbd h0 h1 hb.y
  obtain ⟨u1, u2⟩ := ha.c
  obtain ⟨v1, v2⟩ := hb.c
  exact mul_ok (by omega) (by omega)
def gl (a b : V) (n : Nat) : List Int := (List.range n).map fun k => gk a b (k : Nat)
theorem gl_succ (a b : V) (n : Nat) : gl a b (n + 1) = gl a b n ++ [gk a b n] := by
  unfold gl; rw [List.range_succ, List.map_append]; rfl
theorem gl_len (a b : V) (n : Nat) : (gl a b n).length = n := by simp [gl]
theorem gl_cons (a b : V) (n : Nat) : ∃ x l, gl a b (n + 1) = x :: l := by
  cases h : gl a b (n + 1) with
  | nil => have := gl_len a b (n + 1); rw [h] at this; cases this
  | cons x l => exact ⟨x, l, rfl⟩
theorem prs_app : ∀ (l : List Int) (k : Nat) (x : Int), prsI (l ++ [x]) k = prsI l k ++ [.tup [.int x, .int ((k + l.length : Nat) : Int)]]
  | [], k, x => rfl
  | y :: t, k, x => by
    show .tup [.int y, .int (k : Nat)] :: prsI (t ++ [x]) (k + 1) = _
    rw [prs_app t (k + 1) x]
    have : k + 1 + t.length = k + (y :: t).length := by simp; omega
    rw [this]; rfl
theorem prs_len : ∀ (l : List Int) (k : Nat), (prsI l k).length = l.length
  | [], _ => rfl
  | y :: t, k => by show (prsI t (k + 1)).length + 1 = _; rw [prs_len t]; rfl
theorem int_app (l : List Int) (x : Int) : intL (l ++ [x]) = intL l ++ [.int x] := by simp [intL]
theorem range_get {n i : Nat} {d : D} (h : (rangeL 0 n)[i]? = some d) : d = .int (i : Nat) ∧ i < n := by
  have h2 := rangeL_get h
  refine ⟨by rw [h2]; simp, ?_⟩
  have := (List.getElem?_eq_some_iff.mp h).1
  simpa [rangeL] using this
theorem appS_eq (i : Nat) (f : LE → R D) (r : LE) (ds : List D) (h : r[i]? = some (.own (.lst ds))) : appS i f r = (f r).onS r fun d => if ds.length < 16777216 then .ok (.nx (r.set i (.own (.lst (ds ++ [d]))))) else .stuck := by
  unfold appS; rw [h]
def Bn : LE → R Out := (seqS (setK 5 (valK (opE subD (opE subD (opE addD (subE (fldE fx_spot (var 0)) (cst (.int 0))) (opE mulD (var 4) (subE (fldE fx_steps (var 0)) (cst (.int 0))))) (subE (fldE fx_spot (var 1)) (cst (.int 0)))) (opE mulD (var 4) (subE (fldE fx_steps (var 1)) (cst (.int 0)))))))
    (seqS (setK 6 (valK (opE subD (opE subD (opE addD (subE (fldE fx_spot (var 0)) (cst (.int 1))) (opE mulD (var 4) (subE (fldE fx_steps (var 0)) (cst (.int 1))))) (subE (fldE fx_spot (var 1)) (cst (.int 1)))) (opE mulD (var 4) (subE (fldE fx_steps (var 1)) (cst (.int 1)))))))
    (appS 3 (tupE (acons (opE addD (opE mulD (var 5) (var 5)) (opE mulD (var 6) (var 6))) (acons (var 4) anil))))))
theorem Bn_eq (a b : V) (ha : a.Ok) (hb : b.Ok) {k : Int} (h0 : 0 ≤ k) (h1 : k ≤ 8) (c2 c5 c6 c7 : Cell) (ds : List D) (hd : ds.length < 100) : Bn [.val a.d, .val b.d, c2, .own (.lst ds), .val (.int k), c5, c6, c7] =
    .ok (.nx [.val a.d, .val b.d, c2, .own (.lst (ds ++ [.tup [.int (gk a b k), .int k]])), .val (.int k), .val (.int (dnk a b k)), .val (.int (rtk a b k)), c7]) := by
  have hl : ds.length < 16777216 := by omega
  simp [Bn, var_eq, mulK h0 h1, mul_dn a b ha hb h0 h1, mul_rt a b ha hb h0 h1]
  rw [appS_eq 3 _ _ ds rfl]
  simp [var_eq, mul_dn a b ha hb h0 h1, mul_rt a b ha hb h0 h1, hl, gk, dnk, rtk]
theorem rng1_eq (j : Int) (h0 : 0 ≤ j) (h : j < 1000000) : rng1 [.int j] = .ok (rangeL 0 j.toNat) := by
  simp only [rng1]
  rw [if_pos ⟨by omega, by omega⟩]
def InvN (a b : V) (n i : Nat) (r : LE) : Prop := ∃ c4 c5 c6, r = [.val a.d, .val b.d, .val (.int (n : Nat)), .own (.lst (prsI (gl a b i) 0)), c4, c5, c6, .un]
theorem stepN (a b : V) (ha : a.Ok) (hb : b.Ok) (n : Nat) (hn : n < 9) (j : Nat) (hj : j < n + 1) (r : LE) (h : InvN a b n j r) : ∃ r2 r3, gN 4 (.int (j : Nat)) r = some r2 ∧ Bn r2 = .ok (.nx r3) ∧ InvN a b n (j + 1) r3 := by
  obtain ⟨c4, c5, c6, e⟩ := h
  have q := Bn_eq a b ha hb (k := (j : Nat)) (by omega) (by omega) (.val (.int (n : Nat))) c5 c6 .un (prsI (gl a b j) 0) (by rw [prs_len, gl_len]; omega)
  have q2 := prs_app (gl a b j) 0 (gk a b j)
  rw [gl_len, Nat.zero_add, ← gl_succ] at q2
  rw [← q2] at q
  refine ⟨_, _, congrArg (gN 4 (.int (j : Nat))) e, q, ?_⟩
  exact ⟨_, _, _, rfl⟩
theorem runN (a b : V) (ha : a.Ok) (hb : b.Ok) (n : Nat) (hn : n < 9) : ∃ c4 c5 c6, loopS (gN 4) Bn (rangeL 0 (n + 1)) [.val a.d, .val b.d, .val (.int (n : Nat)), .own (.lst []), .un, .un, .un, .un] = .ok (.nx [.val a.d, .val b.d, .val (.int (n : Nat)), .own (.lst (prsI (gl a b (n + 1)) 0)), c4, c5, c6, .un]) := by
  obtain ⟨r', e, h⟩ := loopS_ind (gd := gN 4) (body := Bn) (InvN a b n) (rangeL 0 (n + 1)) 0 [.val a.d, .val b.d, .val (.int (n : Nat)), .own (.lst []), .un, .un, .un, .un] ⟨_, _, _, rfl⟩
    fun j d r hd h => by
      obtain ⟨rfl, hj⟩ := range_get hd
      rw [Nat.zero_add] at h
      rw [Nat.zero_add]
      exact stepN a b ha hb n hn j hj r h
  have hlen : (rangeL 0 (n + 1)).length = n + 1 := by simp [rangeL]
  rw [hlen, Nat.zero_add] at h
  obtain ⟨c4, c5, c6, rfl⟩ := h
  exact ⟨c4, c5, c6, e⟩
def near (a b : V) (n : Nat) : Int × Nat := match gl a b (n + 1) with
  | [] => (0, 0)
  | x :: l => arg x 0 l 1
theorem steady_eq (a b : V) (ha : a.Ok) (hb : b.Ok) : D_steady_bearing [a.d, b.d] = .ok (.bl ((b.r - a.r) * (b.y - a.y) == (b.c - a.c) * (b.x - a.x) && decide ((b.r - a.r) * (b.x - a.x) + (b.c - a.c) * (b.y - a.y) < 0))) := by
  rw [D_steady_bearing, runF_eq _ _ _ _ (by rfl)]
  have e3 : Sm (b.r - a.r) := sm_sub hb.r ha.r
  have e4 : Sm (b.c - a.c) := sm_sub hb.c ha.c
  simp [F_steady_bearing, var_eq, mulS e3, mulS e4]
  split
  · rename_i h; simp [h]
  · rename_i h; simp [h]
end K17
set_option Elab.async false
set_option linter.all false
set_option maxRecDepth 100000
namespace K17
open DL
theorem near_min (a b : V) (n : Nat) : minL [.lst (prsI (gl a b (n + 1)) 0)] = .ok (.tup [.int (near a b n).1, .int ((near a b n).2 : Nat)]) := by
  obtain ⟨x, l, hg⟩ := gl_cons a b n
  have e : near a b n = arg x 0 l 1 := by unfold near; rw [hg]
  rw [e, hg]
  have h := least_prs l x 0 1 (by decide)
  have h2 := alis_prs (x :: l) 0
  unfold minL
  show (if alis (prsI (x :: l) 0) = true then R.ok (least (.tup [.int x, .int ((0 : Nat) : Int)]) (prsI l 1)) else R.stuck) = _
  rw [if_pos h2, h]
theorem rngN (n : Nat) (hn : n < 9) : rng1 [.int ((n : Int) + 1)] = .ok (rangeL 0 (n + 1)) := by
  have e1 : ((n : Int) + 1).toNat = n + 1 := by omega
  rw [rng1_eq _ (by omega) (by omega), e1]
theorem n_g0 (a b : V) (n : Nat) (RR : List D) (hr : rng1 [.int ((n : Int) + 1)] = .ok RR) : rng1E (acons (opE addD (var 2) (cst (.int 1))) anil) [.val a.d, .val b.d, .val (.int (n : Nat)), .own (.lst []), .un, .un, .un, .un] = .ok RR := by
  rw [rng1E_eq, acons_eq, opE_eq, cst_eq]
  have : var 2 [.val a.d, .val b.d, .val (.int (n : Nat)), .own (.lst []), .un, .un, .un, .un] = .ok (.int (n : Nat)) := rfl
  rw [this, R.ok_bind, R.ok_bind, addD_int, R.ok_bind, anil_eq, R.ok_bind, R.ok_bind]
  exact hr
theorem n_f1 (fi : LE → R (List D)) (r r2 : LE) (RR : List D) (g0 : fi r = .ok RR) (e : loopS (gN 4) Bn RR r = .ok (.nx r2)) : forS fi (gN 4) Bn r = .ok (.nx r2) := by
    rw [forS_eq, g0, onS_ok, e]
theorem n_f2 (a b : V) (n N2 : Nat) (N1 : Int) (PP : List D) (c4 c5 c6 : Cell) (hm : minL [.lst PP] = .ok (.tup [.int N1, .int (N2 : Nat)])) : asgS (callE minL (acons (varP 3) anil)) (gTup_ 2 (gCons_ (gN 7) (gCons_ (gN 4) gNil_))) [.val a.d, .val b.d, .val (.int (n : Nat)), .own (.lst PP), c4, c5, c6, .un] = .ok (.nx [.val a.d, .val b.d, .val (.int (n : Nat)), .own (.lst PP), .val (.int (N2 : Nat)), c5, c6, .val (.int N1)]) := by
    have g0 : callE minL (acons (varP 3) anil) [.val a.d, .val b.d, .val (.int (n : Nat)), .own (.lst PP), c4, c5, c6, .un] = .ok (.tup [.int N1, .int (N2 : Nat)]) := by
      simp [varP_eq, hm]
    unfold asgS
    rw [g0]
    rfl
theorem near_eq (a b : V) (ha : a.Ok) (hb : b.Ok) (n : Nat) (hn : n < 9) : D_comes_near [a.d, b.d, .int (n : Nat)] = .ok (.tup [.int ((near a b n).2 : Nat), .int (near a b n).1]) := by
  obtain ⟨c4, c5, c6, e⟩ := runN a b ha hb n hn
  have h1 := n_f1 _ _ _ _ (n_g0 a b n _ (rngN n hn)) e
  have h2 := n_f2 a b n _ _ _ c4 c5 c6 (near_min a b n)
  have h0 : setK 3 (ownK (lstE anil)) [.val a.d, .val b.d, .val (.int (n : Nat)), .un, .un, .un, .un, .un] = .ok (.nx [.val a.d, .val b.d, .val (.int (n : Nat)), .own (.lst []), .un, .un, .un, .un]) := by simp
  have h3 : ∀ (PP : List D) (N2 : Nat) (N1 : Int), retS (tupE (acons (var 4) (acons (var 7) anil))) [.val a.d, .val b.d, .val (.int (n : Nat)), .own (.lst PP), .val (.int (N2 : Nat)), c5, c6, .val (.int N1)] = .ok (.rt (.tup [.int (N2 : Nat), .int N1])) := fun PP N2 N1 => by
    simp [var_eq]
  have eF : F_comes_near = (seqS (setK 3 (ownK (lstE anil))) (seqS (forS (rng1E (acons (opE addD (var 2) (cst (.int 1))) anil)) (gN 4) Bn) (seqS (asgS (callE minL (acons (varP 3) anil)) (gTup_ 2 (gCons_ (gN 7) (gCons_ (gN 4) gNil_)))) (retS (tupE (acons (var 4) (acons (var 7) anil))))))) := by
    unfold F_comes_near Bn
    rfl
  have hF : F_comes_near [.val a.d, .val b.d, .val (.int (n : Nat)), .un, .un, .un, .un, .un] = .ok (.rt (.tup [.int ((near a b n).2 : Nat), .int (near a b n).1])) := by
    rw [eF, seqS_eq, h0, R.ok_bind]
    dsimp only
    rw [seqS_eq, h1, R.ok_bind]
    dsimp only
    rw [seqS_eq, h2, R.ok_bind]
    exact h3 _ _ _
  rw [D_comes_near, runF_eq _ _ _ _ (by rfl)]
  show (F_comes_near [.val a.d, .val b.d, .val (.int (n : Nat)), .un, .un, .un, .un, .un]).calm >>= fin = _
  rw [hF]
  rfl
end K17
set_option Elab.async false
set_option linter.all false
set_option maxRecDepth 100000
namespace K17
open DL
theorem init_eq (v : V) (h : v.Ok) : D_Vessel_init [.str (kn v.k), .tup [.int v.r, .int v.c], .tup [.int v.x, .int v.y], .str v.t] = .ok v.d := by
  obtain ⟨k, r, c, x, y, t⟩ := v
  have hk := h.k
  have ht := h.t
  have hc : k = 0 ∨ k = 1 ∨ k = 2 ∨ k = 3 ∨ k = 4 := by have : k < 5 := hk; omega
  rcases hc with rfl | rfl | rfl | rfl | rfl
  · have : t = [] := ht
    subst this; rfl
  · have : t = [] := ht
    subst this; rfl
  · have : t = [] := ht
    subst this; rfl
  · have : t = S_port ∨ t = S_star := ht
    rcases this with rfl | rfl <;> rfl
  · have : t = [] := ht
    subst this; rfl
theorem roll_eq (m : Nat) (h : 0 < m) (h2 : m < 1000000000) : rollD [.dice, .int (m : Nat)] = .roll m fun i => .ok (.int (i : Nat)) := by
  simp only [rollD]
  rw [if_pos ⟨by omega, by omega⟩]
  rfl
theorem kind_sub (i : Nat) (h : i < 5) : subI d_KINDS (.int (i : Nat)) = .ok (.str (kn i)) := by
  match i, h with
  | 0, _ => rfl
  | 1, _ => rfl
  | 2, _ => rfl
  | 3, _ => rfl
  | 4, _ => rfl
structure V.Tiny (v : V) : Prop where
  r : -10 ≤ v.r ∧ v.r ≤ 10
  c : -10 ≤ v.c ∧ v.c ≤ 10
  x : -5 ≤ v.x ∧ v.x ≤ 5
  y : -5 ≤ v.y ∧ v.y ≤ 5
theorem Wp_fin {Q : D → Prop} {E : Exc → Prop} : ∀ {m : R Out}, Wp m (fun o => Wp (fin o) Q E) (fun _ => False) → Wp (m.calm >>= fin) Q E
  | .ok o, h => h
  | .err e, h => h.elim
  | .stuck, h => h.elim
  | .roll m k, h => fun i hi => Wp_fin (h i hi)
theorem Wp_onS {α : Type} {Q : Out → Prop} {r : LE} {k : α → R Out} : ∀ {m : R α}, Wp m (fun a => Wp (k a) Q (fun _ => False)) (fun e => Q (.ex e r)) → Wp (m.onS r k) Q (fun _ => False)
  | .ok _, h => h
  | .err _, h => h
  | .stuck, h => h
  | .roll _ _, h => fun i hi => Wp_onS (h i hi)
theorem Wp_seq {F K : LE → R Out} {r : LE} {Q : Out → Prop} : Wp (F r) (fun o => match o with
    | .nx r' => Wp (K r') Q (fun _ => False)
    | o => Q o) (fun _ => False) → Wp (seqS F K r) Q (fun _ => False) := fun h => by
  rw [seqS_eq]
  refine Wp.of_bind (h.thn fun o ho => ?_)
  cases o <;> exact ho
theorem Wp_setK {i : Nat} {f : LE → R D} {r : LE} {Q : Out → Prop} (h : Wp (f r) (fun d => Q (.nx (r.set i (.val d)))) (fun e => Q (.ex e r))) : Wp (setK i (valK f) r) Q (fun _ => False) := by
  rw [setK_eq, valK_eq]
  refine Wp_onS ?_
  refine Wp.of_bind (Wp.of_bind (h.thn fun d hd => ?_))
  exact hd
theorem Wp_retS {f : LE → R D} {r : LE} {Q : Out → Prop} (h : Wp (f r) (fun d => Q (.rt d)) (fun e => Q (.ex e r))) : Wp (retS f r) Q (fun _ => False) := Wp_onS h
set_option maxHeartbeats 2000000 in
theorem vessel_wp {Q : D → Prop} {E : Exc → Prop} (h : ∀ v : V, v.Ok → v.Tiny → Q v.d) : Wp (D_law_vessel [.dice]) Q E := by
  have r5 := roll_eq 5 (by decide) (by decide)
  have r2 := roll_eq 2 (by decide) (by decide)
  have r8 := roll_eq 8 (by decide) (by decide)
  rw [D_law_vessel, runF_eq _ _ _ _ (by rfl)]
  refine Wp_fin ?_
  have f1 : (subE (cst d_KINDS) (callE rollD (acons (var 0) (acons (cst (.int 5)) anil)))) [.val .dice, .un, .un] = .roll 5 fun i => subI d_KINDS (.int (i : Nat)) := by
    simp [var_eq, show rollD [.dice, .int 5] = _ from r5]
  refine Wp_seq (Wp_setK ?_)
  show Wp ((subE (cst d_KINDS) (callE rollD (acons (var 0) (acons (cst (.int 5)) anil)))) [.val .dice, .un, .un]) _ _
  rw [f1]
  intro i hi
  have f3 := kind_sub i hi
  show Wp (subI d_KINDS (.int (i : Nat))) _ _
  rw [f3]
  show Wp (seqS _ _ [.val .dice, .val (.str (kn i)), .un]) _ _
  have R5 : rollD [.dice, .int 5] = .roll 5 fun i => .ok (.int (i : Nat)) := r5
  have R8 : rollD [.dice, .int 8] = .roll 8 fun i => .ok (.int (i : Nat)) := r8
  have R2 : rollD [.dice, .int 2] = .roll 2 fun i => .ok (.int (i : Nat)) := r2
  have go : ∀ t : List Nat, (if i = 3 then t = S_port ∨ t = S_star else t = []) → Wp (retS (callE D_Vessel_init (acons (var 1) (acons (tupE (acons (callE rollD (acons (var 0) (acons (cst (.int 8)) anil))) (acons (callE rollD (acons (var 0) (acons (cst (.int 8)) anil))) anil))) (acons (tupE (acons (opE subD (callE rollD (acons (var 0) (acons (cst (.int 5)) anil))) (cst (.int 2))) (acons (opE subD (callE rollD (acons (var 0) (acons (cst (.int 5)) anil))) (cst (.int 2))) anil))) (acons (var 2) anil))))) [.val .dice, .val (.str (kn i)), .val (.str t)]) (fun o => Wp (fin o) Q E) (fun _ => False) := fun t ht => by
    have f4 : (callE D_Vessel_init (acons (var 1) (acons (tupE (acons (callE rollD (acons (var 0) (acons (cst (.int 8)) anil))) (acons (callE rollD (acons (var 0) (acons (cst (.int 8)) anil))) anil))) (acons (tupE (acons (opE subD (callE rollD (acons (var 0) (acons (cst (.int 5)) anil))) (cst (.int 2))) (acons (opE subD (callE rollD (acons (var 0) (acons (cst (.int 5)) anil))) (cst (.int 2))) anil))) (acons (var 2) anil))))) [.val .dice, .val (.str (kn i)), .val (.str t)] =
        .roll 8 fun r => .roll 8 fun c => .roll 5 fun x => .roll 5 fun y => D_Vessel_init [.str (kn i), .tup [.int (r : Nat), .int (c : Nat)], .tup [.int ((x : Nat) - 2), .int ((y : Nat) - 2)], .str t] := by
      simp [var_eq, R8, R5]
    refine Wp_retS ?_
    rw [f4]
    intro r hr c hc x hx y hy
    have ok : V.Ok ⟨i, (r : Nat), (c : Nat), (x : Nat) - 2, (y : Nat) - 2, t⟩ := ⟨hi, by unfold Sn; dsimp only; omega, by unfold Sn; dsimp only; omega, by unfold Sn; dsimp only; omega, by unfold Sn; dsimp only; omega, ht⟩
    have e := init_eq _ ok
    show Wp (D_Vessel_init [.str (kn i), .tup [.int (r : Nat), .int (c : Nat)], .tup [.int ((x : Nat) - 2), .int ((y : Nat) - 2)], .str t]) _ _
    rw [show D_Vessel_init [.str (kn i), .tup [.int (r : Nat), .int (c : Nat)], .tup [.int ((x : Nat) - 2), .int ((y : Nat) - 2)], .str t] = _ from e]
    exact h _ ok ⟨by dsimp only; omega, by dsimp only; omega, by dsimp only; omega, by dsimp only; omega⟩
  refine Wp_seq (Wp_setK ?_)
  show Wp ((iteE (cmpT eqD (var 1) (cst (.str [115, 97, 105, 108, 105, 110, 103]))) (subE (lE (lstE (acons (cst (.str [112, 111, 114, 116])) (acons (cst (.str [115, 116, 97, 114, 98, 111, 97, 114, 100])) anil)))) (callE rollD (acons (var 0) (acons (cst (.int 2)) anil)))) (cst (.str []))) [.val .dice, .val (.str (kn i)), .un]) _ _
  by_cases h3 : i = 3
  · have g := go S_port (by rw [if_pos h3]; exact .inl rfl)
    have g2 := go S_star (by rw [if_pos h3]; exact .inr rfl)
    have f2 : (iteE (cmpT eqD (var 1) (cst (.str [115, 97, 105, 108, 105, 110, 103]))) (subE (lE (lstE (acons (cst (.str [112, 111, 114, 116])) (acons (cst (.str [115, 116, 97, 114, 98, 111, 97, 114, 100])) anil)))) (callE rollD (acons (var 0) (acons (cst (.int 2)) anil)))) (cst (.str []))) [.val .dice, .val (.str (kn i)), .un] = .roll 2 fun j => subI (.lst [.str S_port, .str S_star]) (.int (j : Nat)) := by
      simp [var_eq, kn3 hi, R2, S_port, S_star]
      exact h3
    rw [f2]
    intro j hj
    have hj2 : j = 0 ∨ j = 1 := by omega
    rcases hj2 with rfl | rfl
    · show Wp (subI (.lst [.str S_port, .str S_star]) (.int ((0 : Nat) : Int))) _ _
      rw [show subI (.lst [.str S_port, .str S_star]) (.int ((0 : Nat) : Int)) = .ok (.str S_port) from rfl]
      show Wp (retS _ [.val .dice, .val (.str (kn i)), .val (.str S_port)]) _ _
      exact g
    · show Wp (subI (.lst [.str S_port, .str S_star]) (.int ((1 : Nat) : Int))) _ _
      rw [show subI (.lst [.str S_port, .str S_star]) (.int ((1 : Nat) : Int)) = .ok (.str S_star) from rfl]
      show Wp (retS _ [.val .dice, .val (.str (kn i)), .val (.str S_star)]) _ _
      exact g2
  · have q : (if i = 3 then ([] : List Nat) = S_port ∨ ([] : List Nat) = S_star else ([] : List Nat) = []) := (if_neg h3).mpr rfl
    have g := go ([] : List Nat) q
    have f2 : (iteE (cmpT eqD (var 1) (cst (.str [115, 97, 105, 108, 105, 110, 103]))) (subE (lE (lstE (acons (cst (.str [112, 111, 114, 116])) (acons (cst (.str [115, 116, 97, 114, 98, 111, 97, 114, 100])) anil)))) (callE rollD (acons (var 0) (acons (cst (.int 2)) anil)))) (cst (.str []))) [.val .dice, .val (.str (kn i)), .un] = .ok (.str []) := by
      simp [var_eq, kn3 hi, h3]
    rw [f2]
    show Wp (retS _ [.val .dice, .val (.str (kn i)), .val (.str [])]) _ _
    exact g
end K17
set_option Elab.async false
set_option linter.all false
set_option maxRecDepth 100000
namespace K17
open DL
theorem Wp_ifS {c : LE → R Bool} {F K : LE → R Out} {r : LE} {Q : Out → Prop} (h : Wp (c r) (fun b => if b = true then Wp (F r) Q (fun _ => False) else Wp (K r) Q (fun _ => False)) (fun e => Q (.ex e r))) : Wp (ifS c F K r) Q (fun _ => False) := by
  rw [ifS_eq]
  refine Wp_onS (h.thn fun b hb => ?_)
  cases b <;> exact hb
theorem tim {i : Nat} {g x : Int} (hi : i < 7) (hg : g = (i : Int) - 3) (h1 : -5 ≤ x) (h2 : x ≤ 5) : -15 ≤ g * x ∧ g * x ≤ 15 := by
  subst hg
  have : i = 0 ∨ i = 1 ∨ i = 2 ∨ i = 3 ∨ i = 4 ∨ i = 5 ∨ i = 6 := by omega
  rcases this with rfl | rfl | rfl | rfl | rfl | rfl | rfl <;> omega
def bes (a b : V) (g p s : Nat) : V := ⟨b.k, a.r + ((g : Int) - 3) * a.x + (s : Int), a.c + ((g : Int) - 3) * a.y, ((p : Int) - 1) * a.x, ((p : Int) - 1) * a.y, b.t⟩
theorem bes_ok (a b : V) (hb : b.Ok) (ta : a.Tiny) {g p s : Nat} (hg : g < 7) (hp : p < 4) (hs : s < 2) : (bes a b g p s).Ok := by
  have x1 := tim hg rfl ta.x.1 ta.x.2
  have y1 := tim hg rfl ta.y.1 ta.y.2
  have x2 := tim (i := p + 2) (g := (p : Int) - 1) (by omega) (by omega) ta.x.1 ta.x.2
  have y2 := tim (i := p + 2) (g := (p : Int) - 1) (by omega) (by omega) ta.y.1 ta.y.2
  have r := ta.r
  have c := ta.c
  exact ⟨hb.k, by unfold Sn bes; dsimp only; omega, by unfold Sn bes; dsimp only; omega, by unfold Sn bes; dsimp only; omega, by unfold Sn bes; dsimp only; omega, hb.t⟩
set_option maxHeartbeats 2000000 in
theorem beside_wp (a b : V) (ha : a.Ok) (hb : b.Ok) (ta : a.Tiny) {Q : D → Prop} {E : Exc → Prop} (h : ∀ v : V, v.Ok → Q v.d) : Wp (D_law_beside [.dice, a.d, b.d]) Q E := by
  have R2 : rollD [.dice, .int 2] = .roll 2 fun i => .ok (.int (i : Nat)) := roll_eq 2 (by decide) (by decide)
  have R7 : rollD [.dice, .int 7] = .roll 7 fun i => .ok (.int (i : Nat)) := roll_eq 7 (by decide) (by decide)
  have R4 : rollD [.dice, .int 4] = .roll 4 fun i => .ok (.int (i : Nat)) := roll_eq 4 (by decide) (by decide)
  rw [D_law_beside, runF_eq _ _ _ _ (by rfl)]
  refine Wp_fin ?_
  refine Wp_seq (Wp_ifS ?_)
  have f1 : (cmpT eqD (callE rollD (acons (var 0) (acons (cst (.int 2)) anil))) (cst (.int 1))) [.val .dice, .val a.d, .val b.d, .un, .un, .un, .un] = .roll 2 fun i => .ok ((i : Int) == 1) := by
    simp [var_eq, R2]
  show Wp ((cmpT eqD (callE rollD (acons (var 0) (acons (cst (.int 2)) anil))) (cst (.int 1))) [.val .dice, .val a.d, .val b.d, .un, .un, .un, .un]) _ _
  rw [f1]
  intro i hi
  have hc : i = 1 ∨ i = 0 := by omega
  rcases hc with rfl | rfl
  · show Wp (R.ok (((1 : Nat) : Int) == 1)) _ _
    rw [Wp_ok, if_pos (by decide)]
    refine Wp_retS ?_
    show Wp (R.ok b.d) _ _
    rw [Wp_ok]
    exact h b hb
  show Wp (R.ok (((0 : Nat) : Int) == 1)) _ _
  rw [Wp_ok, if_neg (by decide), skipS_eq, Wp_ok]
  show Wp (seqS (par3S 3 4 5 (opE subD (callE rollD (acons (var 0) (acons (cst (.int 7)) anil))) (cst (.int 3))) (opE subD (callE rollD (acons (var 0) (acons (cst (.int 4)) anil))) (cst (.int 1))) (callE rollD (acons (var 0) (acons (cst (.int 2)) anil)))) _ [.val .dice, .val a.d, .val b.d, .un, .un, .un, .un]) _ _
  refine Wp_seq ?_
  have f2 : par3S 3 4 5 (opE subD (callE rollD (acons (var 0) (acons (cst (.int 7)) anil))) (cst (.int 3))) (opE subD (callE rollD (acons (var 0) (acons (cst (.int 4)) anil))) (cst (.int 1))) (callE rollD (acons (var 0) (acons (cst (.int 2)) anil))) [.val .dice, .val a.d, .val b.d, .un, .un, .un, .un] =
      .roll 7 fun g => .roll 4 fun p => .roll 2 fun s => .ok (.nx [.val .dice, .val a.d, .val b.d, .val (.int ((g : Nat) - 3)), .val (.int ((p : Nat) - 1)), .val (.int (s : Nat)), .un]) := by
    simp [var_eq, R7, R4, R2]
  rw [f2]
  intro g hg p hp s hs
  have e := init_eq _ (bes_ok a b hb ta hg hp hs)
  have mg : ∀ z, mulD (.int ((g : Int) - 3)) (.int z) = .ok (.int (((g : Int) - 3) * z)) := fun z => mul_ok (by omega) (by omega)
  have mp : ∀ z, mulD (.int ((p : Int) - 1)) (.int z) = .ok (.int (((p : Int) - 1) * z)) := fun z => mul_ok (by omega) (by omega)
  refine Wp_seq (Wp_setK ?_)
  have f3 : (tupE (acons (opE addD (opE addD (subE (fldE fx_spot (var 1)) (cst (.int 0))) (opE mulD (var 3) (subE (fldE fx_steps (var 1)) (cst (.int 0))))) (var 5)) (acons (opE addD (subE (fldE fx_spot (var 1)) (cst (.int 1))) (opE mulD (var 3) (subE (fldE fx_steps (var 1)) (cst (.int 1))))) anil))) [.val .dice, .val a.d, .val b.d, .val (.int ((g : Nat) - 3)), .val (.int ((p : Nat) - 1)), .val (.int (s : Nat)), .un] = .ok (.tup [.int (a.r + ((g : Int) - 3) * a.x + (s : Int)), .int (a.c + ((g : Int) - 3) * a.y)]) := by
    simp [var_eq, mg]
  show Wp ((tupE (acons (opE addD (opE addD (subE (fldE fx_spot (var 1)) (cst (.int 0))) (opE mulD (var 3) (subE (fldE fx_steps (var 1)) (cst (.int 0))))) (var 5)) (acons (opE addD (subE (fldE fx_spot (var 1)) (cst (.int 1))) (opE mulD (var 3) (subE (fldE fx_steps (var 1)) (cst (.int 1))))) anil))) [.val .dice, .val a.d, .val b.d, .val (.int ((g : Nat) - 3)), .val (.int ((p : Nat) - 1)), .val (.int (s : Nat)), .un]) _ _
  rw [f3]
  show Wp (retS _ [.val .dice, .val a.d, .val b.d, .val (.int ((g : Nat) - 3)), .val (.int ((p : Nat) - 1)), .val (.int (s : Nat)), .val (.tup [.int (a.r + ((g : Int) - 3) * a.x + (s : Int)), .int (a.c + ((g : Int) - 3) * a.y)])]) _ _
  refine Wp_retS ?_
  have f4 : (callE D_Vessel_init (acons (fldE fx_kind (var 2)) (acons (var 6) (acons (tupE (acons (opE mulD (var 4) (subE (fldE fx_steps (var 1)) (cst (.int 0)))) (acons (opE mulD (var 4) (subE (fldE fx_steps (var 1)) (cst (.int 1)))) anil))) (acons (fldE fx_tack (var 2)) anil))))) [.val .dice, .val a.d, .val b.d, .val (.int ((g : Nat) - 3)), .val (.int ((p : Nat) - 1)), .val (.int (s : Nat)), .val (.tup [.int (a.r + ((g : Int) - 3) * a.x + (s : Int)), .int (a.c + ((g : Int) - 3) * a.y)])] = .ok (bes a b g p s).d := by
    simp [var_eq, mp]
    exact e
  rw [f4]
  exact h _ (bes_ok a b hb ta hg hp hs)
end K17
set_option Elab.async false
set_option linter.all false
set_option maxRecDepth 100000
namespace DL
theorem R_assoc {α β γ : Type} (f : α → R β) (g : β → R γ) : ∀ m : R α, (m >>= f) >>= g = m >>= fun x => f x >>= g
  | .ok _ => rfl
  | .err _ => rfl
  | .stuck => rfl
  | .roll n k => by
    show R.roll n _ = R.roll n _
    congr 1
    funext i
    exact R_assoc f g (k i)
end DL
namespace K17
open DL
theorem cases1_eq : D_law_cases1 [] = .ok (.bl true) := by rfl
abbrev st (a b : V) (c4 c5 c6 c7 c8 c9 c10 c11 c12 c13 : Cell) : LE := [.un, .val .dice, .val a.d, .val b.d, c4, c5, c6, c7, c8, c9, c10, c11, c12, c13]
theorem t1 (a b : V) (ha : a.Ok) (hb : b.Ok) (c5 c6 c7 c8 c9 c10 c11 c12 c13 : Cell) : (orT (cmpT neD (toldE toldL (methE 0 D_Vessel_side_of_vessel (var 2) (acons (var 3) anil))) (var 4)) (cmpT neD (methE 0 D_Vessel_overtakes (var 2) (acons (var 3) anil)) (callE D_law_over (acons (var 2) (acons (var 3) anil))))) (st a b (.val (.str (side a b))) c5 c6 c7 c8 c9 c10 c11 c12 c13) = .ok false := by
  simp [var_eq, told_side a b ha hb, over_eq a b ha hb, lover_eq a b ha hb]
theorem t2 (a b : V) (ha : a.Ok) (hb : b.Ok) (h : ¬ noway a b) (c8 c9 c10 c11 c12 c13 : Cell) (q : D) (hq : q = .bl (decide ((b.r - a.r) * a.x + (b.c - a.c) * a.y < 0))) (c5 c6 : Cell) :
    (cmpT neD (methE 0 D_Vessel_shown_from_side (var 2) (acons (var 3) anil)) (iteE (cmpT eqD (var 4) (cst (.str [97, 104, 101, 97, 100]))) (cst (.str [98, 111, 116, 104])) (iteE (orT (valT (var 7)) (cmpT eqD (var 4) (cst (.str [97, 115, 116, 101, 114, 110])))) (cst (.str [115, 116, 101, 114, 110])) (iteE (cmpT eqD (var 4) (cst (.str [112, 111, 114, 116]))) (cst (.str [114, 101, 100])) (cst (.str [103, 114, 101, 101, 110])))))) (st a b (.val (.str (side a b))) c5 c6 (.val q) c8 c9 c10 c11 c12 c13) = .ok false := by
  subst hq
  have e : (methE 0 D_Vessel_shown_from_side (var 2) (acons (var 3) anil)) (st a b (.val (.str (side a b))) c5 c6 (.val (.bl (decide ((b.r - a.r) * a.x + (b.c - a.c) * a.y < 0)))) c8 c9 c10 c11 c12 c13) = .ok (.str (shown a b)) := by
    simp [var_eq, shown_eq a b ha hb h]
  rw [cmpT_eq, e, R.ok_bind]
  unfold shown S_ahead S_astern S_both S_port
  by_cases h1 : side a b = [97, 104, 101, 97, 100] <;> by_cases h2 : side a b = [97, 115, 116, 101, 114, 110] <;> by_cases h3 : (b.r - a.r) * a.x + (b.c - a.c) * a.y < 0 <;> by_cases h4 : side a b = [112, 111, 114, 116] <;> simp [var_eq, h1, h2, h3, h4]
theorem t3 (a b : V) (ha : a.Ok) (hb : b.Ok) (c4 c5 c6 c7 c9 c10 c11 c12 c13 : Cell) : (cmpT neD (var 8) (callE D_law_gives (acons (var 2) (acons (var 3) anil)))) (st a b c4 c5 c6 c7 (.val (.str (give a b))) c9 c10 c11 c12 c13) = .ok false := by
  simp [var_eq, lgive_eq a b ha hb]
theorem t4 (a b : V) (ha : a.Ok) (hb : b.Ok) (c4 c5 c6 c7 c9 c10 c11 c12 c13 : Cell) : (cmpT neD (callE D_must_give_way (acons (var 3) (acons (var 2) anil))) (subE (dispE [((cst (.str [102, 105, 114, 115, 116])), (cst (.str [115, 101, 99, 111, 110, 100]))), ((cst (.str [115, 101, 99, 111, 110, 100])), (cst (.str [102, 105, 114, 115, 116]))), ((cst (.str [98, 111, 116, 104])), (cst (.str [98, 111, 116, 104]))), ((cst (.str [110, 101, 105, 116, 104, 101, 114])), (cst (.str [110, 101, 105, 116, 104, 101, 114])))]) (var 8))) (st a b c4 c5 c6 c7 (.val (.str (give a b))) c9 c10 c11 c12 c13) = .ok false := by
  rw [cmpT_eq]
  have e1 : (callE D_must_give_way (acons (var 3) (acons (var 2) anil))) (st a b c4 c5 c6 c7 (.val (.str (give a b))) c9 c10 c11 c12 c13) = .ok (.str (swap (give a b))) := by
    simp [var_eq, give_eq b a hb ha, give_swap a b ha hb]
  rw [e1, R.ok_bind]
  rcases give_in a b with h | h | h | h <;> rw [h] <;> rfl
theorem t5 (a b : V) (ha : a.Ok) (hb : b.Ok) (c4 c5 c6 c7 c8 c9 c10 c11 c12 c13 : Cell) : (cmpT notInD (callE D_by_sides (acons (var 2) (acons (var 3) anil))) (lE (lstE (acons (cst (.str [102, 105, 114, 115, 116])) (acons (cst (.str [115, 101, 99, 111, 110, 100])) (acons (cst (.str [98, 111, 116, 104])) (acons (cst (.str [110, 101, 105, 116, 104, 101, 114])) anil))))))) (st a b c4 c5 c6 c7 c8 c9 c10 c11 c12 c13) = .ok false := by
  rw [cmpT_eq]
  have e1 : (callE D_by_sides (acons (var 2) (acons (var 3) anil))) (st a b c4 c5 c6 c7 c8 c9 c10 c11 c12 c13) = .ok (.str (bys a b)) := by
    simp [var_eq, bys_eq a b ha hb]
  rw [e1, R.ok_bind]
  rcases bys_in a b with h | h | h | h <;> rw [h] <;> rfl
theorem t6 (r : LE) : (notT (valT (fun _ => D_law_cases1 []))) r = .ok false := by
  simp [cases1_eq]
end K17
set_option Elab.async false
set_option linter.all false
set_option maxRecDepth 100000
namespace K17
open DL
def Bl : LE → R Out := (seqS (setK 5 (valK (opE subD (opE subD (opE addD (subE (fldE fx_spot (var 2)) (cst (.int 0))) (opE mulD (var 11) (subE (fldE fx_steps (var 2)) (cst (.int 0))))) (subE (fldE fx_spot (var 3)) (cst (.int 0)))) (opE mulD (var 11) (subE (fldE fx_steps (var 3)) (cst (.int 0)))))))
    (seqS (setK 6 (valK (opE subD (opE subD (opE addD (subE (fldE fx_spot (var 2)) (cst (.int 1))) (opE mulD (var 11) (subE (fldE fx_steps (var 2)) (cst (.int 1))))) (subE (fldE fx_spot (var 3)) (cst (.int 1)))) (opE mulD (var 11) (subE (fldE fx_steps (var 3)) (cst (.int 1)))))))
    (appS 10 (opE addD (opE mulD (var 5) (var 5)) (opE mulD (var 6) (var 6))))))
theorem Bl_eq (a b : V) (ha : a.Ok) (hb : b.Ok) {k : Int} (h0 : 0 ≤ k) (h1 : k ≤ 8) (c4 c5 c6 c7 c8 c9 c12 c13 : Cell) (ds : List D) (hd : ds.length < 100) : Bl (st a b c4 c5 c6 c7 c8 c9 (.own (.lst ds)) (.val (.int k)) c12 c13) =
    .ok (.nx (st a b c4 (.val (.int (dnk a b k))) (.val (.int (rtk a b k))) c7 c8 c9 (.own (.lst (ds ++ [.int (gk a b k)]))) (.val (.int k)) c12 c13)) := by
  have hl : ds.length < 16777216 := by omega
  simp [Bl, var_eq, mulK h0 h1, mul_dn a b ha hb h0 h1, mul_rt a b ha hb h0 h1]
  rw [appS_eq 10 _ _ ds rfl]
  simp [var_eq, mul_dn a b ha hb h0 h1, mul_rt a b ha hb h0 h1, hl, gk, dnk, rtk]
theorem int_len (l : List Int) : (intL l).length = l.length := by simp [intL]
def InvL (a b : V) (c4 c7 c8 c9 c12 c13 : Cell) (i : Nat) (r : LE) : Prop := ∃ c5 c6 c11, r = st a b c4 c5 c6 c7 c8 c9 (.own (.lst (intL (gl a b i)))) c11 c12 c13
theorem stepL (a b : V) (ha : a.Ok) (hb : b.Ok) (c4 c7 c8 c9 c12 c13 : Cell) (n : Nat) (hn : n < 9) (j : Nat) (hj : j < n + 1) (r : LE) (h : InvL a b c4 c7 c8 c9 c12 c13 j r) : ∃ r2 r3, gN 11 (.int (j : Nat)) r = some r2 ∧ Bl r2 = .ok (.nx r3) ∧ InvL a b c4 c7 c8 c9 c12 c13 (j + 1) r3 := by
  obtain ⟨c5, c6, c11, e⟩ := h
  have q := Bl_eq a b ha hb (k := (j : Nat)) (by omega) (by omega) c4 c5 c6 c7 c8 c9 c12 c13 (intL (gl a b j)) (by rw [int_len, gl_len]; omega)
  have q2 := int_app (gl a b j) (gk a b j)
  rw [← gl_succ] at q2
  rw [← q2] at q
  refine ⟨_, _, congrArg (gN 11 (.int (j : Nat))) e, q, ?_⟩
  exact ⟨_, _, _, rfl⟩
theorem runL (a b : V) (ha : a.Ok) (hb : b.Ok) (c4 c5 c6 c7 c8 c9 c11 c12 c13 : Cell) (n : Nat) (hn : n < 9) : ∃ d5 d6 d11, loopS (gN 11) Bl (rangeL 0 (n + 1)) (st a b c4 c5 c6 c7 c8 c9 (.own (.lst [])) c11 c12 c13) = .ok (.nx (st a b c4 d5 d6 c7 c8 c9 (.own (.lst (intL (gl a b (n + 1))))) d11 c12 c13)) := by
  obtain ⟨r', e, h⟩ := loopS_ind (gd := gN 11) (body := Bl) (InvL a b c4 c7 c8 c9 c12 c13) (rangeL 0 (n + 1)) 0 (st a b c4 c5 c6 c7 c8 c9 (.own (.lst [])) c11 c12 c13) ⟨_, _, _, rfl⟩
    fun j d r hd h => by
      obtain ⟨rfl, hj⟩ := range_get hd
      rw [Nat.zero_add] at h
      rw [Nat.zero_add]
      exact stepL a b ha hb c4 c7 c8 c9 c12 c13 n hn j hj r h
  have hlen : (rangeL 0 (n + 1)).length = n + 1 := by simp [rangeL]
  rw [hlen, Nat.zero_add] at h
  obtain ⟨d5, d6, d11, rfl⟩ := h
  exact ⟨d5, d6, d11, e⟩
theorem l_g0 (a b : V) (c4 c5 c6 c7 c8 c10 c11 c12 c13 : Cell) (n : Nat) (RR : List D) (hr : rng1 [.int ((n : Int) + 1)] = .ok RR) : rng1E (acons (opE addD (var 9) (cst (.int 1))) anil) (st a b c4 c5 c6 c7 c8 (.val (.int (n : Nat))) c10 c11 c12 c13) = .ok RR := by
  rw [rng1E_eq, acons_eq, opE_eq, cst_eq]
  have : var 9 (st a b c4 c5 c6 c7 c8 (.val (.int (n : Nat))) c10 c11 c12 c13) = .ok (.int (n : Nat)) := rfl
  rw [this, R.ok_bind, R.ok_bind, addD_int, R.ok_bind, anil_eq, R.ok_bind, R.ok_bind]
  exact hr
theorem l_f1 (fi : LE → R (List D)) (r r2 : LE) (RR : List D) (g0 : fi r = .ok RR) (e : loopS (gN 11) Bl RR r = .ok (.nx r2)) : forS fi (gN 11) Bl r = .ok (.nx r2) := by
    rw [forS_eq, g0, onS_ok, e]
theorem min_l (a b : V) (n : Nat) : minL [.lst (intL (gl a b (n + 1)))] = .ok (.int (near a b n).1) := by
  obtain ⟨x, l, hg⟩ := gl_cons a b n
  have e : near a b n = arg x 0 l 1 := by unfold near; rw [hg]
  rw [e, hg]
  have h := least_ints l x 0 1
  have h2 := alis_ints x l
  unfold minL
  show (if alis (intL (x :: l)) = true then R.ok (least (.int x) (intL l)) else R.stuck) = _
  rw [if_pos h2, h]
theorem idx_l (a b : V) (n : Nat) : idxLs (.lst (intL (gl a b (n + 1)))) [.int (near a b n).1] = .ok (.int ((near a b n).2 : Nat)) := by
  obtain ⟨x, l, hg⟩ := gl_cons a b n
  have e : near a b n = arg x 0 l 1 := by unfold near; rw [hg]
  rw [e, hg]
  exact idx_arg x l
theorem t7 (a b : V) (ha : a.Ok) (hb : b.Ok) (c4 c5 c6 c7 c8 c11 c12 c13 : Cell) (n : Nat) (hn : n < 9) : (cmpT neD (callE D_comes_near (acons (var 2) (acons (var 3) (acons (var 9) anil)))) (tupE (acons (bmE "list" idxLs (varP 10) (acons (callE minL (acons (varP 10) anil)) anil)) (acons (callE minL (acons (varP 10) anil)) anil)))) (st a b c4 c5 c6 c7 c8 (.val (.int (n : Nat))) (.own (.lst (intL (gl a b (n + 1))))) c11 c12 c13) = .ok false := by
  have e1 := near_eq a b ha hb n hn
  have e2 := min_l a b n
  have e3 := idx_l a b n
  generalize near a b n = NN at *
  generalize intL (gl a b (n + 1)) = LL at *
  have v2 : var 2 (st a b c4 c5 c6 c7 c8 (.val (.int (n : Nat))) (.own (.lst LL)) c11 c12 c13) = .ok a.d := rfl
  have v3 : var 3 (st a b c4 c5 c6 c7 c8 (.val (.int (n : Nat))) (.own (.lst LL)) c11 c12 c13) = .ok b.d := rfl
  have v9 : var 9 (st a b c4 c5 c6 c7 c8 (.val (.int (n : Nat))) (.own (.lst LL)) c11 c12 c13) = .ok (.int (n : Nat)) := rfl
  have v10 : varP 10 (st a b c4 c5 c6 c7 c8 (.val (.int (n : Nat))) (.own (.lst LL)) c11 c12 c13) = .ok (.lst LL) := rfl
  generalize st a b c4 c5 c6 c7 c8 (.val (.int (n : Nat))) (.own (.lst LL)) c11 c12 c13 = r at *
  have mm : callE minL (acons (varP 10) anil) r = .ok (.int NN.1) := by
    rw [callE_eq, acons_eq, v10, R.ok_bind, anil_eq, R.ok_bind, R.ok_bind]; exact e2
  have ii : bmE "list" idxLs (varP 10) (acons (callE minL (acons (varP 10) anil)) anil) r = .ok (.int (NN.2 : Nat)) := by
    rw [bmE_eq, v10, R.ok_bind, show isT "list" (.lst LL) = .ok (.lst LL) from rfl, R.ok_bind, acons_eq, mm, R.ok_bind, anil_eq, R.ok_bind, R.ok_bind]; exact e3
  have cc : callE D_comes_near (acons (var 2) (acons (var 3) (acons (var 9) anil))) r = .ok (.tup [.int (NN.2 : Nat), .int NN.1]) := by
    rw [callE_eq, acons_eq, v2, R.ok_bind, acons_eq, v3, R.ok_bind, acons_eq, v9, R.ok_bind, anil_eq, R.ok_bind, R.ok_bind, R.ok_bind, R.ok_bind]; exact e1
  have tt : tupE (acons (bmE "list" idxLs (varP 10) (acons (callE minL (acons (varP 10) anil)) anil)) (acons (callE minL (acons (varP 10) anil)) anil)) r = .ok (.tup [.int (NN.2 : Nat), .int NN.1]) := by
    rw [tupE_eq, acons_eq, ii, R.ok_bind, acons_eq, mm, R.ok_bind, anil_eq, R.ok_bind, R.ok_bind, R.ok_bind]
    exact if_pos (show 2 ≤ 16777216 by decide)
  rw [cmpT_eq, cc, R.ok_bind, tt, R.ok_bind, neD_tup2, R.ok_bind, asB_bl]
  simp
theorem t8 (a b : V) (ha : a.Ok) (hb : b.Ok) (c4 c7 c8 c9 c10 c11 : Cell) : (cmpT neD (callE D_steady_bearing (acons (var 2) (acons (var 3) anil))) (andV (opE eqD (opE subD (opE mulD (var 5) (var 13)) (opE mulD (var 6) (var 12))) (cst (.int 0))) (opE ltD (opE addD (opE mulD (var 5) (var 12)) (opE mulD (var 6) (var 13))) (cst (.int 0))))) (st a b c4 (.val (.int (b.r - a.r))) (.val (.int (b.c - a.c))) c7 c8 c9 c10 c11 (.val (.int (b.x - a.x))) (.val (.int (b.y - a.y)))) = .ok false := by
  have e3 : Sm (b.r - a.r) := sm_sub hb.r ha.r
  have e4 : Sm (b.c - a.c) := sm_sub hb.c ha.c
  rw [cmpT_eq]
  have e1 : (callE D_steady_bearing (acons (var 2) (acons (var 3) anil))) (st a b c4 (.val (.int (b.r - a.r))) (.val (.int (b.c - a.c))) c7 c8 c9 c10 c11 (.val (.int (b.x - a.x))) (.val (.int (b.y - a.y)))) = .ok (.bl ((b.r - a.r) * (b.y - a.y) == (b.c - a.c) * (b.x - a.x) && decide ((b.r - a.r) * (b.x - a.x) + (b.c - a.c) * (b.y - a.y) < 0))) := by
    simp [var_eq, steady_eq a b ha hb]
  rw [e1, R.ok_bind]
  by_cases h : (b.r - a.r) * (b.y - a.y) = (b.c - a.c) * (b.x - a.x)
  · have h2 : (b.r - a.r) * (b.y - a.y) - (b.c - a.c) * (b.x - a.x) = 0 := by omega
    simp [var_eq, mulS e3, mulS e4, h]
  · have h2 : ¬ (b.r - a.r) * (b.y - a.y) - (b.c - a.c) * (b.x - a.x) = 0 := by omega
    simp [var_eq, mulS e3, mulS e4, h, h2]
theorem t9 (a b : V) (ha : a.Ok) (hb : b.Ok) (c4 c5 c6 c7 c8 c9 c10 c11 c12 c13 : Cell) : (orT (cmpT neD (callE D_steady_bearing (acons (var 2) (acons (var 3) anil))) (callE D_steady_bearing (acons (var 3) (acons (var 2) anil)))) (cmpT neD (callE D_square (acons (tupE (acons (cst (.int 3)) (acons (opE subD (cst (.int 0)) (cst (.int 4))) anil))) anil)) (cst (.int 25)))) (st a b c4 c5 c6 c7 c8 c9 c10 c11 c12 c13) = .ok false := by
  have s := square_eq 3 (-4) (by unfold Sm; omega) (by unfold Sm; omega)
  have g1 : ((b.r - a.r) * (b.y - a.y) == (b.c - a.c) * (b.x - a.x) && decide ((b.r - a.r) * (b.x - a.x) + (b.c - a.c) * (b.y - a.y) < 0)) = ((a.r - b.r) * (a.y - b.y) == (a.c - b.c) * (a.x - b.x) && decide ((a.r - b.r) * (a.x - b.x) + (a.c - b.c) * (a.y - b.y) < 0)) := by
    have p1 : (a.r - b.r) * (a.y - b.y) = (b.r - a.r) * (b.y - a.y) := by grind
    have p2 : (a.c - b.c) * (a.x - b.x) = (b.c - a.c) * (b.x - a.x) := by grind
    have p3 : (a.r - b.r) * (a.x - b.x) = (b.r - a.r) * (b.x - a.x) := by grind
    have p4 : (a.c - b.c) * (a.y - b.y) = (b.c - a.c) * (b.y - a.y) := by grind
    rw [p1, p2, p3, p4]
  simp [var_eq, steady_eq a b ha hb, steady_eq b a hb ha, ← g1, s]
end K17
set_option Elab.async false
set_option linter.all false
set_option maxRecDepth 100000
namespace K17
open DL
abbrev Done (o : Out) : Prop := ∃ r, o = .nx r ∨ o = .ct r
theorem no_ok {c : LE → R Bool} {F : LE → R Out} {r : LE} (h : c r = .ok false) : ifS c F skipS r = .ok (.nx r) := by
  show (c r).onS r _ = _
  rw [h]
  rfl
theorem set_ok {i : Nat} {f : LE → R D} {r : LE} {d : D} (h : f r = .ok d) : setK i (valK f) r = .ok (.nx (r.set i (.val d))) := by
  rw [setK_eq, valK_eq, h]
  rfl
theorem own_ok {i : Nat} {f : LE → R (List D)} {r : LE} {ds : List D} (h : f r = .ok ds) : setK i (ownK f) r = .ok (.nx (r.set i (.own (.lst ds)))) := by
  rw [setK_eq, ownK_eq, h]
  rfl
theorem par_ok {i j : Nat} {f g : LE → R D} {r : LE} {d e : D} (h : f r = .ok d) (h2 : g r = .ok e) : parK i j (valK f) (valK g) r = .ok (.nx ((r.set i (.val d)).set j (.val e))) := by
  rw [parK_eq, valK_eq, valK_eq, h, h2]
  rfl
/-- the state is led to an end of the round -/
structure Go (F : LE → R Out) (r : LE) : Prop where
  h : Wp (F r) Done (fun _ => False)
theorem Go.cons {S F K : LE → R Out} {r r2 : LE} (e : S = seqS F K) (h : F r = .ok (.nx r2)) (k : Go K r2) : Go S r := by
  subst e
  refine ⟨Wp_seq ?_⟩
  rw [h]
  exact k.h
theorem Go.last {F : LE → R Out} {r r2 : LE} (h : F r = .ok (.nx r2)) : Go F r := ⟨by
  rw [h]
  exact ⟨_, .inl rfl⟩⟩
theorem Go.nxt {S F K : LE → R Out} {r : LE} (e : S = seqS F K) (h : ∀ Q : Out → Prop, (∀ r2, Go K r2 → Q (.nx r2)) → Wp (F r) Q (fun _ => False)) : Go S r := by
  subst e
  exact ⟨Wp_seq (h _ fun r2 k => k.h)⟩
theorem sub_r (a b : V) (c4 c5 c6 c7 c8 c9 c10 c11 c12 c13 : Cell) : (opE subD (subE (fldE fx_spot (var 3)) (cst (.int 0))) (subE (fldE fx_spot (var 2)) (cst (.int 0)))) (st a b c4 c5 c6 c7 c8 c9 c10 c11 c12 c13) = .ok (.int (b.r - a.r)) := by simp [var_eq]
theorem sub_c (a b : V) (c4 c5 c6 c7 c8 c9 c10 c11 c12 c13 : Cell) : (opE subD (subE (fldE fx_spot (var 3)) (cst (.int 1))) (subE (fldE fx_spot (var 2)) (cst (.int 1)))) (st a b c4 c5 c6 c7 c8 c9 c10 c11 c12 c13) = .ok (.int (b.c - a.c)) := by simp [var_eq]
theorem sub_x (a b : V) (c4 c5 c6 c7 c8 c9 c10 c11 c12 c13 : Cell) : (opE subD (subE (fldE fx_steps (var 3)) (cst (.int 0))) (subE (fldE fx_steps (var 2)) (cst (.int 0)))) (st a b c4 c5 c6 c7 c8 c9 c10 c11 c12 c13) = .ok (.int (b.x - a.x)) := by simp [var_eq]
theorem sub_y (a b : V) (c4 c5 c6 c7 c8 c9 c10 c11 c12 c13 : Cell) : (opE subD (subE (fldE fx_steps (var 3)) (cst (.int 1))) (subE (fldE fx_steps (var 2)) (cst (.int 1)))) (st a b c4 c5 c6 c7 c8 c9 c10 c11 c12 c13) = .ok (.int (b.y - a.y)) := by simp [var_eq]
theorem abaft_eq (a b : V) (ha : a.Ok) (hb : b.Ok) (c4 c7 c8 c9 c10 c11 c12 c13 : Cell) : (opE ltD (opE addD (opE mulD (var 5) (subE (fldE fx_steps (var 2)) (cst (.int 0)))) (opE mulD (var 6) (subE (fldE fx_steps (var 2)) (cst (.int 1))))) (cst (.int 0))) (st a b c4 (.val (.int (b.r - a.r))) (.val (.int (b.c - a.c))) c7 c8 c9 c10 c11 c12 c13) = .ok (.bl (decide ((b.r - a.r) * a.x + (b.c - a.c) * a.y < 0))) := by
  have e3 : Sm (b.r - a.r) := sm_sub hb.r ha.r
  have e4 : Sm (b.c - a.c) := sm_sub hb.c ha.c
  simp [var_eq, mulS e3, mulS e4]
theorem cside (a b : V) (ha : a.Ok) (hb : b.Ok) (c4 c5 c6 c7 c8 c9 c10 c11 c12 c13 : Cell) : (callE D_law_side (acons (var 2) (acons (var 3) anil))) (st a b c4 c5 c6 c7 c8 c9 c10 c11 c12 c13) = .ok (.str (side a b)) := by simp [var_eq, side_eq a b ha hb]
theorem cgive (a b : V) (ha : a.Ok) (hb : b.Ok) (c4 c5 c6 c7 c8 c9 c10 c11 c12 c13 : Cell) : (callE D_must_give_way (acons (var 2) (acons (var 3) anil))) (st a b c4 c5 c6 c7 c8 c9 c10 c11 c12 c13) = .ok (.str (give a b)) := by simp [var_eq, give_eq a b ha hb]
theorem roll9 (a b : V) (c4 c5 c6 c7 c8 c9 c10 c11 c12 c13 : Cell) : (callE rollD (acons (var 1) (acons (cst (.int 9)) anil))) (st a b c4 c5 c6 c7 c8 c9 c10 c11 c12 c13) = .roll 9 fun i => .ok (.int (i : Nat)) := by
  have R9 : rollD [.dice, .int 9] = .roll 9 fun i => .ok (.int (i : Nat)) := roll_eq 9 (by decide) (by decide)
  simp [var_eq, R9]
def Y1 : LE → R Out := (asgS (tupE (acons (callE D_law_vessel (acons (var 1) anil)) (acons (callE D_law_vessel (acons (var 1) anil)) anil))) (gTup_ 2 (gCons_ (gN 2) (gCons_ (gN 3) gNil_))))
def Y2 : LE → R Out := (setK 3 (valK (callE D_law_beside (acons (var 1) (acons (var 2) (acons (var 3) anil))))))
def Y3 : LE → R Out := (setK 4 (valK (callE D_law_side (acons (var 2) (acons (var 3) anil)))))
def Y4 : LE → R Out := (ifS (orT (cmpT neD (toldE toldL (methE 0 D_Vessel_side_of_vessel (var 2) (acons (var 3) anil))) (var 4)) (cmpT neD (methE 0 D_Vessel_overtakes (var 2) (acons (var 3) anil)) (callE D_law_over (acons (var 2) (acons (var 3) anil)))))
    (retS (cst (.bl false)))
    skipS)
def Y5 : LE → R Out := (ifS (cmpT neD (var 4) (cst (.str [110, 111, 32, 119, 97, 121])))
    (seqS (parK 5 6 (valK (opE subD (subE (fldE fx_spot (var 3)) (cst (.int 0))) (subE (fldE fx_spot (var 2)) (cst (.int 0))))) (valK (opE subD (subE (fldE fx_spot (var 3)) (cst (.int 1))) (subE (fldE fx_spot (var 2)) (cst (.int 1))))))
    (seqS (setK 7 (valK (opE ltD (opE addD (opE mulD (var 5) (subE (fldE fx_steps (var 2)) (cst (.int 0)))) (opE mulD (var 6) (subE (fldE fx_steps (var 2)) (cst (.int 1))))) (cst (.int 0)))))
    (ifS (cmpT neD (methE 0 D_Vessel_shown_from_side (var 2) (acons (var 3) anil)) (iteE (cmpT eqD (var 4) (cst (.str [97, 104, 101, 97, 100]))) (cst (.str [98, 111, 116, 104])) (iteE (orT (valT (var 7)) (cmpT eqD (var 4) (cst (.str [97, 115, 116, 101, 114, 110])))) (cst (.str [115, 116, 101, 114, 110])) (iteE (cmpT eqD (var 4) (cst (.str [112, 111, 114, 116]))) (cst (.str [114, 101, 100])) (cst (.str [103, 114, 101, 101, 110]))))))
    (retS (cst (.bl false)))
    skipS)))
    skipS)
def Y6 : LE → R Out := (setK 8 (valK (callE D_must_give_way (acons (var 2) (acons (var 3) anil)))))
def Y7 : LE → R Out := (ifS (cmpT neD (var 8) (callE D_law_gives (acons (var 2) (acons (var 3) anil))))
    (retS (cst (.bl false)))
    skipS)
def Y8 : LE → R Out := (ifS (cmpT neD (callE D_must_give_way (acons (var 3) (acons (var 2) anil))) (subE (dispE [((cst (.str [102, 105, 114, 115, 116])), (cst (.str [115, 101, 99, 111, 110, 100]))), ((cst (.str [115, 101, 99, 111, 110, 100])), (cst (.str [102, 105, 114, 115, 116]))), ((cst (.str [98, 111, 116, 104])), (cst (.str [98, 111, 116, 104]))), ((cst (.str [110, 101, 105, 116, 104, 101, 114])), (cst (.str [110, 101, 105, 116, 104, 101, 114])))]) (var 8)))
    (retS (cst (.bl false)))
    skipS)
def Y9 : LE → R Out := (ifS (cmpT notInD (callE D_by_sides (acons (var 2) (acons (var 3) anil))) (lE (lstE (acons (cst (.str [102, 105, 114, 115, 116])) (acons (cst (.str [115, 101, 99, 111, 110, 100])) (acons (cst (.str [98, 111, 116, 104])) (acons (cst (.str [110, 101, 105, 116, 104, 101, 114])) anil)))))))
    (retS (cst (.bl false)))
    skipS)
def Y10 : LE → R Out := (ifS (notT (valT (fun _ => D_law_cases1 [])))
    (retS (cst (.bl false)))
    skipS)
def Y11 : LE → R Out := (setK 9 (valK (callE rollD (acons (var 1) (acons (cst (.int 9)) anil)))))
def Y12 : LE → R Out := (setK 10 (ownK (lstE anil)))
def Y13 : LE → R Out := (forS (rng1E (acons (opE addD (var 9) (cst (.int 1))) anil)) (gN 11)
    (seqS (setK 5 (valK (opE subD (opE subD (opE addD (subE (fldE fx_spot (var 2)) (cst (.int 0))) (opE mulD (var 11) (subE (fldE fx_steps (var 2)) (cst (.int 0))))) (subE (fldE fx_spot (var 3)) (cst (.int 0)))) (opE mulD (var 11) (subE (fldE fx_steps (var 3)) (cst (.int 0)))))))
    (seqS (setK 6 (valK (opE subD (opE subD (opE addD (subE (fldE fx_spot (var 2)) (cst (.int 1))) (opE mulD (var 11) (subE (fldE fx_steps (var 2)) (cst (.int 1))))) (subE (fldE fx_spot (var 3)) (cst (.int 1)))) (opE mulD (var 11) (subE (fldE fx_steps (var 3)) (cst (.int 1)))))))
    (appS 10 (opE addD (opE mulD (var 5) (var 5)) (opE mulD (var 6) (var 6)))))))
def Y14 : LE → R Out := (ifS (cmpT neD (callE D_comes_near (acons (var 2) (acons (var 3) (acons (var 9) anil)))) (tupE (acons (bmE "list" idxLs (varP 10) (acons (callE minL (acons (varP 10) anil)) anil)) (acons (callE minL (acons (varP 10) anil)) anil))))
    (retS (cst (.bl false)))
    skipS)
def Y15 : LE → R Out := (parK 5 6 (valK (opE subD (subE (fldE fx_spot (var 3)) (cst (.int 0))) (subE (fldE fx_spot (var 2)) (cst (.int 0))))) (valK (opE subD (subE (fldE fx_spot (var 3)) (cst (.int 1))) (subE (fldE fx_spot (var 2)) (cst (.int 1))))))
def Y16 : LE → R Out := (parK 12 13 (valK (opE subD (subE (fldE fx_steps (var 3)) (cst (.int 0))) (subE (fldE fx_steps (var 2)) (cst (.int 0))))) (valK (opE subD (subE (fldE fx_steps (var 3)) (cst (.int 1))) (subE (fldE fx_steps (var 2)) (cst (.int 1))))))
def Y17 : LE → R Out := (ifS (cmpT neD (callE D_steady_bearing (acons (var 2) (acons (var 3) anil))) (andV (opE eqD (opE subD (opE mulD (var 5) (var 13)) (opE mulD (var 6) (var 12))) (cst (.int 0))) (opE ltD (opE addD (opE mulD (var 5) (var 12)) (opE mulD (var 6) (var 13))) (cst (.int 0)))))
    (retS (cst (.bl false)))
    skipS)
def Y18 : LE → R Out := (ifS (orT (cmpT neD (callE D_steady_bearing (acons (var 2) (acons (var 3) anil))) (callE D_steady_bearing (acons (var 3) (acons (var 2) anil)))) (cmpT neD (callE D_square (acons (tupE (acons (cst (.int 3)) (acons (opE subD (cst (.int 0)) (cst (.int 4))) anil))) anil)) (cst (.int 25))))
    (retS (cst (.bl false)))
    skipS)
def Ys18 : LE → R Out := Y18
def Ys17 : LE → R Out := seqS Y17 Ys18
def Ys16 : LE → R Out := seqS Y16 Ys17
def Ys15 : LE → R Out := seqS Y15 Ys16
def Ys14 : LE → R Out := seqS Y14 Ys15
def Ys13 : LE → R Out := seqS Y13 Ys14
def Ys12 : LE → R Out := seqS Y12 Ys13
def Ys11 : LE → R Out := seqS Y11 Ys12
def Ys10 : LE → R Out := seqS Y10 Ys11
def Ys9 : LE → R Out := seqS Y9 Ys10
def Ys8 : LE → R Out := seqS Y8 Ys9
def Ys7 : LE → R Out := seqS Y7 Ys8
def Ys6 : LE → R Out := seqS Y6 Ys7
def Ys5 : LE → R Out := seqS Y5 Ys6
def Ys4 : LE → R Out := seqS Y4 Ys5
def Ys3 : LE → R Out := seqS Y3 Ys4
def Ys2 : LE → R Out := seqS Y2 Ys3
theorem y6 (a b : V) (ha : a.Ok) (hb : b.Ok) (c4 c5 c6 c7 c8 c9 c10 c11 c12 c13 : Cell) : Y6 (st a b c4 c5 c6 c7 c8 c9 c10 c11 c12 c13) = .ok (.nx (st a b c4 c5 c6 c7 (.val (.str (give a b))) c9 c10 c11 c12 c13)) := set_ok (cgive a b ha hb c4 c5 c6 c7 c8 c9 c10 c11 c12 c13)
theorem y7 (a b : V) (ha : a.Ok) (hb : b.Ok) (c4 c5 c6 c7 c8 c9 c10 c11 c12 c13 : Cell) : Y7 (st a b c4 c5 c6 c7 (.val (.str (give a b))) c9 c10 c11 c12 c13) = .ok (.nx (st a b c4 c5 c6 c7 (.val (.str (give a b))) c9 c10 c11 c12 c13)) := no_ok (t3 a b ha hb c4 c5 c6 c7 c9 c10 c11 c12 c13)
theorem y8 (a b : V) (ha : a.Ok) (hb : b.Ok) (c4 c5 c6 c7 c8 c9 c10 c11 c12 c13 : Cell) : Y8 (st a b c4 c5 c6 c7 (.val (.str (give a b))) c9 c10 c11 c12 c13) = .ok (.nx (st a b c4 c5 c6 c7 (.val (.str (give a b))) c9 c10 c11 c12 c13)) := no_ok (t4 a b ha hb c4 c5 c6 c7 c9 c10 c11 c12 c13)
theorem y9 (a b : V) (ha : a.Ok) (hb : b.Ok) (c4 c5 c6 c7 c8 c9 c10 c11 c12 c13 : Cell) : Y9 (st a b c4 c5 c6 c7 c8 c9 c10 c11 c12 c13) = .ok (.nx (st a b c4 c5 c6 c7 c8 c9 c10 c11 c12 c13)) := no_ok (t5 a b ha hb c4 c5 c6 c7 c8 c9 c10 c11 c12 c13)
theorem y10 (a b : V) (ha : a.Ok) (hb : b.Ok) (c4 c5 c6 c7 c8 c9 c10 c11 c12 c13 : Cell) : Y10 (st a b c4 c5 c6 c7 c8 c9 c10 c11 c12 c13) = .ok (.nx (st a b c4 c5 c6 c7 c8 c9 c10 c11 c12 c13)) := no_ok (t6 _)
theorem y12 (a b : V) (ha : a.Ok) (hb : b.Ok) (c4 c5 c6 c7 c8 c9 c10 c11 c12 c13 : Cell) : Y12 (st a b c4 c5 c6 c7 c8 c9 c10 c11 c12 c13) = .ok (.nx (st a b c4 c5 c6 c7 c8 c9 (.own (.lst [])) c11 c12 c13)) := own_ok (by simp)
theorem y13 (a b : V) (ha : a.Ok) (hb : b.Ok) (c4 c5 c6 c7 c8 c11 c12 c13 : Cell) (n : Nat) (hn : n < 9) : ∃ d5 d6 d11, Y13 (st a b c4 c5 c6 c7 c8 (.val (.int (n : Nat))) (.own (.lst [])) c11 c12 c13) = .ok (.nx (st a b c4 d5 d6 c7 c8 (.val (.int (n : Nat))) (.own (.lst (intL (gl a b (n + 1))))) d11 c12 c13)) := by
  obtain ⟨d5, d6, d11, e⟩ := runL a b ha hb c4 c5 c6 c7 c8 (.val (.int (n : Nat))) c11 c12 c13 n hn
  exact ⟨d5, d6, d11, l_f1 _ _ _ _ (l_g0 a b c4 c5 c6 c7 c8 (.own (.lst [])) c11 c12 c13 n _ (rngN n hn)) e⟩
theorem y14 (a b : V) (ha : a.Ok) (hb : b.Ok) (c4 c5 c6 c7 c8 c11 c12 c13 : Cell) (n : Nat) (hn : n < 9) : Y14 (st a b c4 c5 c6 c7 c8 (.val (.int (n : Nat))) (.own (.lst (intL (gl a b (n + 1))))) c11 c12 c13) = .ok (.nx (st a b c4 c5 c6 c7 c8 (.val (.int (n : Nat))) (.own (.lst (intL (gl a b (n + 1))))) c11 c12 c13)) := no_ok (t7 a b ha hb c4 c5 c6 c7 c8 c11 c12 c13 n hn)
theorem y15 (a b : V) (ha : a.Ok) (hb : b.Ok) (c4 c5 c6 c7 c8 c9 c10 c11 c12 c13 : Cell) : Y15 (st a b c4 c5 c6 c7 c8 c9 c10 c11 c12 c13) = .ok (.nx (st a b c4 (.val (.int (b.r - a.r))) (.val (.int (b.c - a.c))) c7 c8 c9 c10 c11 c12 c13)) := par_ok (sub_r a b c4 c5 c6 c7 c8 c9 c10 c11 c12 c13) (sub_c a b c4 c5 c6 c7 c8 c9 c10 c11 c12 c13)
theorem y16 (a b : V) (ha : a.Ok) (hb : b.Ok) (c4 c5 c6 c7 c8 c9 c10 c11 c12 c13 : Cell) : Y16 (st a b c4 c5 c6 c7 c8 c9 c10 c11 c12 c13) = .ok (.nx (st a b c4 c5 c6 c7 c8 c9 c10 c11 (.val (.int (b.x - a.x))) (.val (.int (b.y - a.y))))) := par_ok (sub_x a b c4 c5 c6 c7 c8 c9 c10 c11 c12 c13) (sub_y a b c4 c5 c6 c7 c8 c9 c10 c11 c12 c13)
theorem y17 (a b : V) (ha : a.Ok) (hb : b.Ok) (c4 c5 c6 c7 c8 c9 c10 c11 c12 c13 : Cell) : Y17 (st a b c4 (.val (.int (b.r - a.r))) (.val (.int (b.c - a.c))) c7 c8 c9 c10 c11 (.val (.int (b.x - a.x))) (.val (.int (b.y - a.y)))) = .ok (.nx (st a b c4 (.val (.int (b.r - a.r))) (.val (.int (b.c - a.c))) c7 c8 c9 c10 c11 (.val (.int (b.x - a.x))) (.val (.int (b.y - a.y))))) := no_ok (t8 a b ha hb c4 c7 c8 c9 c10 c11)
theorem y18 (a b : V) (ha : a.Ok) (hb : b.Ok) (c4 c5 c6 c7 c8 c9 c10 c11 c12 c13 : Cell) : Y18 (st a b c4 c5 c6 c7 c8 c9 c10 c11 c12 c13) = .ok (.nx (st a b c4 c5 c6 c7 c8 c9 c10 c11 c12 c13)) := no_ok (t9 a b ha hb c4 c5 c6 c7 c8 c9 c10 c11 c12 c13)
theorem y11 {Q : Out → Prop} (a b : V) (c4 c5 c6 c7 c8 c9 c10 c11 c12 c13 : Cell) (h : ∀ n, n < 9 → Q (.nx (st a b c4 c5 c6 c7 c8 (.val (.int (n : Nat))) c10 c11 c12 c13))) : Wp (Y11 (st a b c4 c5 c6 c7 c8 c9 c10 c11 c12 c13)) Q (fun _ => False) := by
  unfold Y11
  refine Wp_setK ?_
  rw [roll9]
  intro n hn
  exact h n hn
theorem ys15 : Ys15 = seqS Y15 Ys16 := rfl
theorem ys16 : Ys16 = seqS Y16 Ys17 := rfl
theorem ys17 : Ys17 = seqS Y17 Y18 := rfl
theorem ys14 : Ys14 = seqS Y14 Ys15 := rfl
theorem ys13 : Ys13 = seqS Y13 Ys14 := rfl
theorem ys12 : Ys12 = seqS Y12 Ys13 := rfl
theorem ys11 : Ys11 = seqS Y11 Ys12 := rfl
theorem ys10 : Ys10 = seqS Y10 Ys11 := rfl
theorem ys9 : Ys9 = seqS Y9 Ys10 := rfl
theorem ys8 : Ys8 = seqS Y8 Ys9 := rfl
theorem ys7 : Ys7 = seqS Y7 Ys8 := rfl
theorem ys6 : Ys6 = seqS Y6 Ys7 := rfl
theorem tail3 (a b : V) (ha : a.Ok) (hb : b.Ok) (c4 c5 c6 c7 c8 c9 c10 c11 c12 c13 : Cell) : Go Ys15 (st a b c4 c5 c6 c7 c8 c9 c10 c11 c12 c13) := by
  refine Go.cons ys15 (y15 a b ha hb c4 c5 c6 c7 c8 c9 c10 c11 c12 c13) ?_
  refine Go.cons ys16 (y16 a b ha hb c4 _ _ c7 c8 c9 c10 c11 c12 c13) ?_
  refine Go.cons ys17 (y17 a b ha hb c4 c5 c6 c7 c8 c9 c10 c11 c12 c13) ?_
  exact Go.last (y18 a b ha hb c4 _ _ c7 c8 c9 c10 c11 _ _)
theorem tail2 (a b : V) (ha : a.Ok) (hb : b.Ok) (c4 c5 c6 c7 c8 c10 c11 c12 c13 : Cell) (n : Nat) (hn : n < 9) : Go Ys12 (st a b c4 c5 c6 c7 c8 (.val (.int (n : Nat))) c10 c11 c12 c13) := by
  obtain ⟨d5, d6, d11, e⟩ := y13 a b ha hb c4 c5 c6 c7 c8 c11 c12 c13 n hn
  refine Go.cons ys12 (y12 a b ha hb c4 c5 c6 c7 c8 _ c10 c11 c12 c13) ?_
  refine Go.cons ys13 e ?_
  refine Go.cons ys14 (y14 a b ha hb c4 d5 d6 c7 c8 d11 c12 c13 n hn) ?_
  exact tail3 a b ha hb c4 d5 d6 c7 c8 _ _ d11 c12 c13
theorem tail1 (a b : V) (ha : a.Ok) (hb : b.Ok) (c4 c5 c6 c7 c8 c9 c10 c11 c12 c13 : Cell) : Go Ys11 (st a b c4 c5 c6 c7 c8 c9 c10 c11 c12 c13) := by
  refine Go.nxt ys11 fun Q hQ => y11 a b c4 c5 c6 c7 c8 c9 c10 c11 c12 c13 fun n hn => hQ _ ?_
  exact tail2 a b ha hb c4 c5 c6 c7 c8 c10 c11 c12 c13 n hn
theorem tail_wp (a b : V) (ha : a.Ok) (hb : b.Ok) (c4 c5 c6 c7 c8 c9 c10 c11 c12 c13 : Cell) : Go Ys6 (st a b c4 c5 c6 c7 c8 c9 c10 c11 c12 c13) := by
  refine Go.cons ys6 (y6 a b ha hb c4 c5 c6 c7 c8 c9 c10 c11 c12 c13) ?_
  refine Go.cons ys7 (y7 a b ha hb c4 c5 c6 c7 c8 c9 c10 c11 c12 c13) ?_
  refine Go.cons ys8 (y8 a b ha hb c4 c5 c6 c7 c8 c9 c10 c11 c12 c13) ?_
  refine Go.cons ys9 (y9 a b ha hb c4 c5 c6 c7 _ c9 c10 c11 c12 c13) ?_
  refine Go.cons ys10 (y10 a b ha hb c4 c5 c6 c7 _ c9 c10 c11 c12 c13) ?_
  exact tail1 a b ha hb c4 c5 c6 c7 _ c9 c10 c11 c12 c13
end K17
set_option Elab.async false
set_option linter.all false
set_option maxRecDepth 100000
namespace K17
open DL
theorem tup2 (f g : LE → R D) (r : LE) : tupE (acons f (acons g anil)) r = (f r >>= fun d => g r >>= fun e => .ok (.tup [d, e])) := by
  rw [tupE_eq, acons_eq, R_assoc]
  congr 1
  funext d
  rw [acons_eq, R_assoc, R_assoc]
  congr 1
theorem call1 (F : List D → R D) (r : LE) (d : D) (f : LE → R D) (h : f r = .ok d) : callE F (acons f anil) r = F [d] := by
  rw [callE_eq, acons_eq, h]
  rfl
def r1 : LE := [.un, .val .dice, .un, .un, .un, .un, .un, .un, .un, .un, .un, .un, .un, .un]
theorem y1 {Q : Out → Prop} (h : ∀ a b : V, a.Ok → b.Ok → a.Tiny → Q (.nx (st a b .un .un .un .un .un .un .un .un .un .un))) : Wp (Y1 r1) Q (fun _ => False) := by
  unfold Y1
  show Wp (((tupE _) r1).onS r1 _) _ _
  rw [tup2, call1 D_law_vessel r1 .dice (var 1) rfl]
  refine Wp_onS ?_
  refine Wp.of_bind (vessel_wp fun a ha ta => ?_)
  refine Wp.of_bind (vessel_wp fun b hb tb => ?_)
  exact h a b ha hb ta
theorem call3 (F : List D → R D) (r : LE) (d e g : D) (f1 f2 f3 : LE → R D) (h : f1 r = .ok d) (h2 : f2 r = .ok e) (h3 : f3 r = .ok g) : callE F (acons f1 (acons f2 (acons f3 anil))) r = F [d, e, g] := by
  rw [callE_eq, acons_eq, h, R.ok_bind, acons_eq, h2, R.ok_bind, acons_eq, h3]
  rfl
theorem y2 {Q : Out → Prop} (a b : V) (ha : a.Ok) (hb : b.Ok) (ta : a.Tiny) (h : ∀ v : V, v.Ok → Q (.nx (st a v .un .un .un .un .un .un .un .un .un .un))) : Wp (Y2 (st a b .un .un .un .un .un .un .un .un .un .un)) Q (fun _ => False) := by
  unfold Y2
  refine Wp_setK ?_
  rw [call3 D_law_beside (st a b .un .un .un .un .un .un .un .un .un .un) .dice a.d b.d (var 1) (var 2) (var 3) rfl rfl rfl]
  exact beside_wp a b ha hb ta fun v hv => h v hv
theorem y3 (a b : V) (ha : a.Ok) (hb : b.Ok) (c4 c5 c6 c7 c8 c9 c10 c11 c12 c13 : Cell) : Y3 (st a b c4 c5 c6 c7 c8 c9 c10 c11 c12 c13) = .ok (.nx (st a b (.val (.str (side a b))) c5 c6 c7 c8 c9 c10 c11 c12 c13)) := set_ok (cside a b ha hb c4 c5 c6 c7 c8 c9 c10 c11 c12 c13)
theorem y4 (a b : V) (ha : a.Ok) (hb : b.Ok) (c5 c6 c7 c8 c9 c10 c11 c12 c13 : Cell) : Y4 (st a b (.val (.str (side a b))) c5 c6 c7 c8 c9 c10 c11 c12 c13) = .ok (.nx (st a b (.val (.str (side a b))) c5 c6 c7 c8 c9 c10 c11 c12 c13)) := no_ok (t1 a b ha hb c5 c6 c7 c8 c9 c10 c11 c12 c13)
theorem if_yes {c : LE → R Bool} {F K : LE → R Out} {r : LE} {o : Out} (h : c r = .ok true) (k : F r = .ok o) : ifS c F K r = .ok o := by
  show (c r).onS r _ = _
  rw [h]
  exact k
theorem seq_ok {F K : LE → R Out} {r r2 : LE} {o : Out} (h : F r = .ok (.nx r2)) (k : K r2 = .ok o) : seqS F K r = .ok o := by
  rw [seqS_eq, h]
  exact k
theorem c5 (a b : V) (c5 c6 c7 c8 c9 c10 c11 c12 c13 : Cell) : (cmpT neD (var 4) (cst (.str [110, 111, 32, 119, 97, 121]))) (st a b (.val (.str (side a b))) c5 c6 c7 c8 c9 c10 c11 c12 c13) = .ok (!decide (side a b = S_noway)) := by
  unfold S_noway
  by_cases h : side a b = [110, 111, 32, 119, 97, 121] <;> simp [var_eq, h]
theorem y5 (a b : V) (ha : a.Ok) (hb : b.Ok) (c5' c6 c7 c8 c9 c10 c11 c12 c13 : Cell) : ∃ d5 d6 d7, Y5 (st a b (.val (.str (side a b))) c5' c6 c7 c8 c9 c10 c11 c12 c13) = .ok (.nx (st a b (.val (.str (side a b))) d5 d6 d7 c8 c9 c10 c11 c12 c13)) := by
  have hc := c5 a b c5' c6 c7 c8 c9 c10 c11 c12 c13
  by_cases h : side a b = S_noway
  · exact ⟨c5', c6, c7, no_ok (by rw [hc, decide_eq_true h]; rfl)⟩
  · have hn : ¬ noway a b := fun q => h ((side_no a b).mpr q)
    refine ⟨_, _, _, if_yes (by rw [hc, decide_eq_false h]; rfl) (seq_ok (par_ok (sub_r a b _ c5' c6 c7 c8 c9 c10 c11 c12 c13) (sub_c a b _ c5' c6 c7 c8 c9 c10 c11 c12 c13)) (seq_ok (set_ok (abaft_eq a b ha hb (.val (.str (side a b))) c7 c8 c9 c10 c11 c12 c13)) (no_ok (t2 a b ha hb hn c8 c9 c10 c11 c12 c13 _ rfl _ _))))⟩
theorem ys1 : F_law = seqS Y1 Ys2 := rfl
theorem ys2 : Ys2 = seqS Y2 Ys3 := rfl
theorem ys3 : Ys3 = seqS Y3 Ys4 := rfl
theorem ys4 : Ys4 = seqS Y4 Ys5 := rfl
theorem ys5 : Ys5 = seqS Y5 Ys6 := rfl
theorem go3 (a b : V) (ha : a.Ok) (hb : b.Ok) : Go Ys3 (st a b .un .un .un .un .un .un .un .un .un .un) := by
  obtain ⟨d5, d6, d7, e⟩ := y5 a b ha hb .un .un .un .un .un .un .un .un .un
  refine Go.cons ys3 (y3 a b ha hb .un .un .un .un .un .un .un .un .un .un) ?_
  refine Go.cons ys4 (y4 a b ha hb .un .un .un .un .un .un .un .un .un) ?_
  refine Go.cons ys5 e ?_
  exact tail_wp a b ha hb _ d5 d6 d7 .un .un .un .un .un .un
theorem go2 (a b : V) (ha : a.Ok) (hb : b.Ok) (ta : a.Tiny) : Go Ys2 (st a b .un .un .un .un .un .un .un .un .un .un) :=
  Go.nxt ys2 fun Q hQ => y2 a b ha hb ta fun v hv => hQ _ (go3 a v ha hv)
theorem go1 : Go F_law r1 := Go.nxt ys1 fun Q hQ => y1 fun a b ha hb ta => hQ _ (go2 a b ha hb ta)
theorem holds : Wp (F_law (r0 14)) (fun o => ∃ r, o = .nx r ∨ o = .ct r) (fun _ => False) := go1.h
end K17
open PySem PySem.W PyProof.Rows in
set_option maxRecDepth 100000 in
set_option maxHeartbeats 0 in
theorem PySem.Challenge.cw_flaghall_k17_shapes_holds : PySem.Challenge.rw_flaghall_k17_shapes.Holds := by
  w_on; o_law; k_head; (case hw => w_witness2)
  k_fill
  refine LamX.walk_ofTs (l := PySem.Challenge.rw_flaghall_k17_shapes) (n := 63) (k := 6) (x := "script") (CX := fun w => L2.CX PySem.Challenge.rw_flaghall_k17_shapes.prog w) rfl (by decide) rfl ⟨rfl, by decide, by decide⟩ (fun w h Y => PySem.W.km_in_of Y) ?F (fun w H s e s' z => by obtain ⟨_, _, _, _, _, _, _, _, _, _, _, _, z⟩ := z; exact z)
  case F =>
    intro w mg fa h Y KX hN hmg
    refine' K17.all_mk KX hN hmg (PySem.W.km_tabs_of Y) K17.holds ?nk_law_dice ?lk_law_dice ?dk_law_dice ?kk_law_dice ?nk_law_roll ?lk_law_roll ?dk_law_roll ?kk_law_roll ?nk_law_rounds ?lk_law_rounds ?dk_law_rounds ?kk_law_rounds ?nk_law_told ?lk_law_told ?dk_law_told ?kk_law_told ?ck_Vessel ?nk_Vessel_init ?ik_Vessel_init ?lk_Vessel_init ?dk_Vessel_init ?kk_Vessel_init ?nk_law_vessel ?lk_law_vessel ?dk_law_vessel ?kk_law_vessel ?nk_law_beside ?lk_law_beside ?dk_law_beside ?kk_law_beside ?nk_law_side ?lk_law_side ?dk_law_side ?kk_law_side ?nk_Vessel_side_of_vessel ?ik_Vessel_side_of_vessel ?lk_Vessel_side_of_vessel ?dk_Vessel_side_of_vessel ?kk_Vessel_side_of_vessel ?nk_square ?lk_square ?dk_square ?kk_square ?nk_Vessel_overtakes ?ik_Vessel_overtakes ?lk_Vessel_overtakes ?dk_Vessel_overtakes ?kk_Vessel_overtakes ?nk_law_over ?lk_law_over ?dk_law_over ?kk_law_over ?nk_Vessel_shown_from_side ?ik_Vessel_shown_from_side ?lk_Vessel_shown_from_side ?dk_Vessel_shown_from_side ?kk_Vessel_shown_from_side ?nk_Vessel_meets_head_on ?ik_Vessel_meets_head_on ?lk_Vessel_meets_head_on ?dk_Vessel_meets_head_on ?kk_Vessel_meets_head_on ?nk_by_sides ?lk_by_sides ?dk_by_sides ?kk_by_sides ?nk_must_give_way ?lk_must_give_way ?dk_must_give_way ?kk_must_give_way ?nk_law_gives ?lk_law_gives ?dk_law_gives ?kk_law_gives ?nk_kind_by_shapes ?lk_kind_by_shapes ?dk_kind_by_shapes ?kk_kind_by_shapes ?nk_kind_by_lamps ?lk_kind_by_lamps ?dk_kind_by_lamps ?kk_kind_by_lamps ?nk_law_cases1 ?lk_law_cases1 ?dk_law_cases1 ?kk_law_cases1 ?nk_comes_near ?lk_comes_near ?dk_comes_near ?kk_comes_near ?nk_steady_bearing ?lk_steady_bearing ?dk_steady_bearing ?kk_steady_bearing ?nk_law ?lk_law ?dk_law ?kk_law ?pg_Vessel ?hd_Vessel ?po_Vessel ?sa_Vessel ?mi_Vessel ?kc_Vessel ?nf_Vessel_kind ?nf_Vessel_spot ?nf_Vessel_steps ?nf_Vessel_tack ?xn_BadBook ?xe_BadBook ?xk_BadBook ?xs_BadBook ?xt_BadBook ?xn_BadFlag ?xe_BadFlag ?xk_BadFlag ?xs_BadFlag ?xt_BadFlag ?xn_BadFleet ?xe_BadFleet ?xk_BadFleet ?xs_BadFleet ?xt_BadFleet ?xn_BadHoist ?xe_BadHoist ?xk_BadHoist ?xs_BadHoist ?xt_BadHoist ?xn_Foul ?xn_NoWay ?xe_NoWay ?xk_NoWay ?xs_NoWay ?xt_NoWay ?xn_TooLarge ?xe_TooLarge ?xk_TooLarge ?xs_TooLarge ?xt_TooLarge ?xn_Unclear ?xn_BadText ?exq ?bz_tuple ?bz_range ?bz_min ?bz_int ?bz_abs ?cn_KINDS ?cq_KINDS ?cn_SHAPES ?cl_SHAPES ?cy_SHAPES ?cq_SHAPES ?cn_LAMPS ?cl_LAMPS ?cy_LAMPS ?cq_LAMPS ?tn_KINDS ?tl_KINDS ?tq_KINDS ?zl_law_cases1 ?zv_law_cases1 ?zh_law_cases1 ?zn_law_cases1 ?zt_law_cases1 ?zl_law ?zv_law ?zh_law ?zn_law ?zt_law ?ne_law_cases1_law
    (case nk_law_dice => k_is)
    (case lk_law_dice => k_is)
    (case dk_law_dice => k_is)
    (case kk_law_dice => k_is)
    (case nk_law_roll => k_is)
    (case lk_law_roll => k_is)
    (case dk_law_roll => k_is)
    (case kk_law_roll => k_is)
    (case nk_law_rounds => k_is)
    (case lk_law_rounds => k_is)
    (case dk_law_rounds => k_is)
    (case kk_law_rounds => k_is)
    (case nk_law_told => k_is)
    (case lk_law_told => k_is)
    (case dk_law_told => k_is)
    (case kk_law_told => k_is)
    (case ck_Vessel => k_is)
    (case nk_Vessel_init => k_is)
    (case ik_Vessel_init => k_is)
    (case lk_Vessel_init => k_is)
    (case dk_Vessel_init => k_is)
    (case kk_Vessel_init => k_is)
    (case nk_law_vessel => k_is)
    (case lk_law_vessel => k_is)
    (case dk_law_vessel => k_is)
    (case kk_law_vessel => k_is)
    (case nk_law_beside => k_is)
    (case lk_law_beside => k_is)
    (case dk_law_beside => k_is)
    (case kk_law_beside => k_is)
    (case nk_law_side => k_is)
    (case lk_law_side => k_is)
    (case dk_law_side => k_is)
    (case kk_law_side => k_is)
    (case nk_Vessel_side_of_vessel => k_is)
    (case ik_Vessel_side_of_vessel => k_is)
    (case lk_Vessel_side_of_vessel => k_is)
    (case dk_Vessel_side_of_vessel => k_is)
    (case kk_Vessel_side_of_vessel => k_is)
    (case nk_square => k_is)
    (case lk_square => k_is)
    (case dk_square => k_is)
    (case kk_square => k_is)
    (case nk_Vessel_overtakes => k_is)
    (case ik_Vessel_overtakes => k_is)
    (case lk_Vessel_overtakes => k_is)
    (case dk_Vessel_overtakes => k_is)
    (case kk_Vessel_overtakes => k_is)
    (case nk_law_over => k_is)
    (case lk_law_over => k_is)
    (case dk_law_over => k_is)
    (case kk_law_over => k_is)
    (case nk_Vessel_shown_from_side => k_is)
    (case ik_Vessel_shown_from_side => k_is)
    (case lk_Vessel_shown_from_side => k_is)
    (case dk_Vessel_shown_from_side => k_is)
    (case kk_Vessel_shown_from_side => k_is)
    (case nk_Vessel_meets_head_on => k_is)
    (case ik_Vessel_meets_head_on => k_is)
    (case lk_Vessel_meets_head_on => k_is)
    (case dk_Vessel_meets_head_on => k_is)
    (case kk_Vessel_meets_head_on => k_is)
    (case nk_by_sides => k_is)
    (case lk_by_sides => k_is)
    (case dk_by_sides => k_is)
    (case kk_by_sides => k_is)
    (case nk_must_give_way => k_is)
    (case lk_must_give_way => k_is)
    (case dk_must_give_way => k_is)
    (case kk_must_give_way => k_is)
    (case nk_law_gives => k_is)
    (case lk_law_gives => k_is)
    (case dk_law_gives => k_is)
    (case kk_law_gives => k_is)
    (case nk_kind_by_shapes => k_is)
    (case lk_kind_by_shapes => k_is)
    (case dk_kind_by_shapes => k_is)
    (case kk_kind_by_shapes => k_is)
    (case nk_kind_by_lamps => k_is)
    (case lk_kind_by_lamps => k_is)
    (case dk_kind_by_lamps => k_is)
    (case kk_kind_by_lamps => k_is)
    (case nk_law_cases1 => k_is)
    (case lk_law_cases1 => k_is)
    (case dk_law_cases1 => k_is)
    (case kk_law_cases1 => k_is)
    (case nk_comes_near => k_is)
    (case lk_comes_near => k_is)
    (case dk_comes_near => k_is)
    (case kk_comes_near => k_is)
    (case nk_steady_bearing => k_is)
    (case lk_steady_bearing => k_is)
    (case dk_steady_bearing => k_is)
    (case kk_steady_bearing => k_is)
    (case nk_law => k_is)
    (case lk_law => k_is)
    (case dk_law => k_is)
    (case kk_law => k_is)
    (case pg_Vessel => k_is)
    (case hd_Vessel => k_is)
    (case po_Vessel => k_is)
    (case sa_Vessel => k_is)
    (case mi_Vessel => k_is)
    (case kc_Vessel => k_is)
    (case nf_Vessel_kind => k_is)
    (case nf_Vessel_spot => k_is)
    (case nf_Vessel_steps => k_is)
    (case nf_Vessel_tack => k_is)
    (case xn_BadBook => k_is)
    (case xe_BadBook => k_exc)
    (case xk_BadBook => k_is)
    (case xs_BadBook => k_is)
    (case xt_BadBook => k_is)
    (case xn_BadFlag => k_is)
    (case xe_BadFlag => k_exc)
    (case xk_BadFlag => k_is)
    (case xs_BadFlag => k_is)
    (case xt_BadFlag => k_is)
    (case xn_BadFleet => k_is)
    (case xe_BadFleet => k_exc)
    (case xk_BadFleet => k_is)
    (case xs_BadFleet => k_is)
    (case xt_BadFleet => k_is)
    (case xn_BadHoist => k_is)
    (case xe_BadHoist => k_exc)
    (case xk_BadHoist => k_is)
    (case xs_BadHoist => k_is)
    (case xt_BadHoist => k_is)
    (case xn_Foul => k_is)
    (case xn_NoWay => k_is)
    (case xe_NoWay => k_exc)
    (case xk_NoWay => k_is)
    (case xs_NoWay => k_is)
    (case xt_NoWay => k_is)
    (case xn_TooLarge => k_is)
    (case xe_TooLarge => k_exc)
    (case xk_TooLarge => k_is)
    (case xs_TooLarge => k_is)
    (case xt_TooLarge => k_is)
    (case xn_Unclear => k_is)
    (case xn_BadText => k_is)
    (case exq => kernel_rfl)
    (case bz_tuple => k_is)
    (case bz_range => k_is)
    (case bz_min => k_is)
    (case bz_int => k_is)
    (case bz_abs => k_is)
    (case cn_KINDS => k_is)
    (case cq_KINDS => kernel_rfl)
    (case cn_SHAPES => k_is)
    (case cl_SHAPES => k_is)
    (case cy_SHAPES => (repeat (refine ⟨⟨_, _, rfl, rfl⟩, ?_⟩)) <;> trivial)
    (case cq_SHAPES => kernel_rfl)
    (case cn_LAMPS => k_is)
    (case cl_LAMPS => k_is)
    (case cy_LAMPS => (repeat (refine ⟨⟨_, _, rfl, rfl⟩, ?_⟩)) <;> trivial)
    (case cq_LAMPS => kernel_rfl)
    (case tn_KINDS => k_is)
    (case tl_KINDS => k_is)
    (case tq_KINDS => kernel_rfl)
    (case zl_law_cases1 => k_is)
    (case zv_law_cases1 => rfl)
    (case zh_law_cases1 => kernel_rfl)
    (case zn_law_cases1 => kernel_rfl)
    (case zt_law_cases1 => decide)
    (case zl_law => k_is)
    (case zv_law => rfl)
    (case zh_law => kernel_rfl)
    (case zn_law => kernel_rfl)
    (case zt_law => decide)
    (case ne_law_cases1_law => decide)
