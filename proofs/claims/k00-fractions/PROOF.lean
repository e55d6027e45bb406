import PyProof.Rows.All
import Wide.All
import OpenK.AllK
import Wide.FinOn
import HandS.ForMost
import HandS.EndBits
import HandS.ForExc
import HandS.Wide
import HandS.Conv
import HandS.Style
import HandS.IsInst
import HandS.TupAny
import HandS.TupMul
import HandS.Deep
import HandS.Gcd
import HandS.Flow
import HandS.RevRange
import HandS.Rev
import HandS.Zip
import KE.SortData
import KE.GoesMore
import KE.OsSorts
import HandS.DictComp
import KE.KIndexOf
import HandS.Property
import HandS.ExcInit
import HandS.ExcField
import HandS.ExcIs
import HandS.ExcOwn
import KE.KExcIs
import PySem.Challenge.RW_nobadday_k00_fractions
set_option Elab.async false
set_option linter.all false
set_option maxRecDepth 100000
set_option maxHeartbeats 4000000
noncomputable section
/-! Da: data by value over the layer HandS: what a value stands for, views of the heap, slots that are owned. -/
namespace Da
open PySem PySem.Spec L2
/-- a check that nobody reckons out -/
@[irreducible] def stuck (p : Prop) : Bool := @decide p (Classical.propDecidable p)
theorem stuck_iff {p : Prop} : stuck p = true ↔ p := by unfold stuck; exact @decide_eq_true_iff p (Classical.propDecidable p)
/-- data, without the heap -/
inductive D where
  | non | bl (b : Bool) | int (i : Int) | str (s : Str)
  | lst (xs : List D) | tup (xs : List D) | frl (xs : List D)
  | dic (ks : List Key) (vs : List D) | dit (ks : List (List Key)) (vs : List D)
  | obj (c : Str) (ns : List Str) (vs : List D)
  /-- an error that an except suite holds -/
  | exc (c : Str) (ns : List Str) (vs : List D)
/-- what a run gives: a value, an own exception with its arguments, or nothing that is known -/
inductive Res (α : Type) where
  | ok (a : α) | ex (c : Str) (fs : List (Str × D)) | er
namespace Res
def bind {α β : Type} (r : Res α) (f : α → Res β) : Res β := match r with
  | .ok a => f a
  | .ex c fs => .ex c fs
  | .er => .er
@[simp] theorem bind_ok {α β : Type} (a : α) (f : α → Res β) : (Res.ok a).bind f = f a := rfl
@[simp] theorem bind_ex {α β : Type} (c : Str) (as : List (Str × D)) (f : α → Res β) : (Res.ex c as : Res α).bind f = .ex c as := rfl
@[simp] theorem bind_er {α β : Type} (f : α → Res β) : (Res.er : Res α).bind f = .er := rfl
end Res
/-- the value v stands for the data d, read in the view S -/
inductive Rep (K : PySem.W.Frag) (mg : Str → Option Value) (S : Hp) : V → D → Prop where
  | non : Rep K mg S .non .non
  | bl (b : Bool) : Rep K mg S (.bl b) (.bl b)
  | int (i : Int) : Rep K mg S (.int i) (.int i)
  | str (x : Str) : Rep K mg S (.str x) (.str x)
  | lst {a : Addr} {vs : List V} {ds : List D} (h : S a = some (.lst vs)) (hl : vs.length = ds.length) (hi : ∀ (i : Nat) (v : V) (d : D), vs[i]? = some v → ds[i]? = some d → Rep K mg S v d) : Rep K mg S (.ref a) (.lst ds)
  | tup {a : Addr} {vs : List V} {ds : List D} (h : SqT K S a vs) (hl : vs.length = ds.length) (hi : ∀ (i : Nat) (v : V) (d : D), vs[i]? = some v → ds[i]? = some d → Rep K mg S v d) : Rep K mg S (.ref a) (.tup ds)
  | frl {a : Addr} {vs : List V} {ds : List D} (h : SqL K S a vs) (hl : vs.length = ds.length) (hi : ∀ (i : Nat) (v : V) (d : D), vs[i]? = some v → ds[i]? = some d → Rep K mg S v d) : Rep K mg S (.ref a) (.frl ds)
  | dic {a : Addr} {kvs : List (Key × V)} {ds : List D} (h : S a = some (.dK kvs)) (hl : kvs.length = ds.length) (hi : ∀ (i : Nat) (p : Key × V) (d : D), kvs[i]? = some p → ds[i]? = some d → Rep K mg S p.2 d) : Rep K mg S (.ref a) (.dic (kvs.map (·.1)) ds)
  | dit {a : Addr} {kvs : List (List Key × V)} {ds : List D} (h : S a = some (.dT kvs)) (hl : kvs.length = ds.length) (hi : ∀ (i : Nat) (p : List Key × V) (d : D), kvs[i]? = some p → ds[i]? = some d → Rep K mg S p.2 d) : Rep K mg S (.ref a) (.dit (kvs.map (·.1)) ds)
  | obj {a C dx : Addr} {c : Str} {fs : List (Str × V)} {ds : List D} (h : S a = some (.ins C dx fs)) (hm : mg c = some (.ref C)) (hl : fs.length = ds.length) (hi : ∀ (i : Nat) (p : Str × V) (d : D), fs[i]? = some p → ds[i]? = some d → Rep K mg S p.2 d) : Rep K mg S (.ref a) (.obj c (fs.map (·.1)) ds)
  | exc {a : Addr} {c : Str} {ns : List Str} {ds : List D} : Rep K mg S (.ref a) (.exc c ns ds)
section
variable {K : PySem.W.Frag} {mg : Str → Option Value} {S S' H H' : Hp}
theorem same_rd {a : Addr} {u : HO} (e : Same S S') (h : Rd S a u) : Rd S' a u := by
  rcases h with h | ⟨o, h⟩
  · exact .inl (e _ _ h)
  · exact .inr ⟨o, e _ _ h⟩
theorem same_l {a : Addr} {xs : List V} (e : Same S S') (h : SqL K S a xs) : SqL K S' a xs := by
  rcases h with h | h
  · exact .inl (same_rd e h)
  · exact .inr h
theorem same_t {a : Addr} {xs : List V} (e : Same S S') (h : SqT K S a xs) : SqT K S' a xs := by
  rcases h with h | h
  · exact .inl (same_rd e h)
  · exact .inr h
theorem Rep.mono {v : V} {d : D} (e : Same S S') (h : Rep K mg S v d) : Rep K mg S' v d := by
  induction h with
  | non => exact .non
  | bl b => exact .bl b
  | int i => exact .int i
  | str x => exact .str x
  | lst h hl _ ih => exact .lst (e _ _ h) hl ih
  | frl h hl _ ih => exact .frl (same_l e h) hl ih
  | tup h hl _ ih => exact .tup (same_t e h) hl ih
  | dic h hl _ ih => exact .dic (e _ _ h) hl ih
  | dit h hl _ ih => exact .dit (e _ _ h) hl ih
  | obj h hm hl _ ih => exact .obj (e _ _ h) hm hl ih
  | exc => exact .exc
/-- item by item -/
structure RepL (K : PySem.W.Frag) (mg : Str → Option Value) (S : Hp) (vs : List V) (ds : List D) : Prop where
  len : vs.length = ds.length
  at_ : ∀ (i : Nat) (v : V) (d : D), vs[i]? = some v → ds[i]? = some d → Rep K mg S v d
theorem RepL.mono {vs : List V} {ds : List D} (e : Same S S') (h : RepL K mg S vs ds) : RepL K mg S' vs ds := ⟨h.len, fun i v d a b => (h.at_ i v d a b).mono e⟩
theorem RepL.nil : RepL K mg S [] [] := ⟨rfl, fun i v d a _ => by simp at a⟩
theorem RepL.cons {v : V} {d : D} {vs : List V} {ds : List D} (h : Rep K mg S v d) (t : RepL K mg S vs ds) : RepL K mg S (v :: vs) (d :: ds) := by
  refine ⟨by rw [List.length_cons, List.length_cons, t.len], fun i w e a b => ?_⟩
  cases i with
  | zero =>
    rw [List.getElem?_cons_zero] at a b
    cases a; cases b
    exact h
  | succ i =>
    rw [List.getElem?_cons_succ] at a b
    exact t.at_ i w e a b
theorem RepL.head {v : V} {d : D} {vs : List V} {ds : List D} (t : RepL K mg S (v :: vs) (d :: ds)) : Rep K mg S v d := t.at_ 0 v d rfl rfl
theorem RepL.tail {v : V} {d : D} {vs : List V} {ds : List D} (t : RepL K mg S (v :: vs) (d :: ds)) : RepL K mg S vs ds :=
  ⟨by have := t.len; simpa using this, fun i w e a b => t.at_ (i + 1) w e (by simpa using a) (by simpa using b)⟩
theorem RepL.get {vs : List V} {ds : List D} {i : Nat} {d : D} (t : RepL K mg S vs ds) (h : ds[i]? = some d) : ∃ v, vs[i]? = some v ∧ Rep K mg S v d := by
  have hi := (List.getElem?_eq_some_iff.mp h).1
  have hv : i < vs.length := by rw [t.len]; exact hi
  exact ⟨vs[i], List.getElem?_eq_getElem hv, t.at_ i _ d (List.getElem?_eq_getElem hv) h⟩
theorem RepL.append {vs ws : List V} {ds es : List D} (t : RepL K mg S vs ds) (u : RepL K mg S ws es) : RepL K mg S (vs ++ ws) (ds ++ es) := by
  refine ⟨by rw [List.length_append, List.length_append, t.len, u.len], fun i w e a b => ?_⟩
  by_cases h : i < vs.length
  · rw [List.getElem?_append_left h] at a
    rw [List.getElem?_append_left (by rw [← t.len]; exact h)] at b
    exact t.at_ i w e a b
  · rw [List.getElem?_append_right (by omega)] at a
    rw [List.getElem?_append_right (by rw [← t.len]; omega), ← t.len] at b
    exact u.at_ _ w e a b
theorem RepL.snoc {vs : List V} {ds : List D} {v : V} {d : D} (t : RepL K mg S vs ds) (h : Rep K mg S v d) : RepL K mg S (vs ++ [v]) (ds ++ [d]) := t.append (.cons h .nil)
theorem RepL.set {vs : List V} {ds : List D} {v : V} {d : D} (t : RepL K mg S vs ds) (j : Nat) (h : Rep K mg S v d) : RepL K mg S (vs.set j v) (ds.set j d) := by
  refine ⟨by rw [List.length_set, List.length_set, t.len], fun i w e a b => ?_⟩
  rw [List.getElem?_set] at a b
  by_cases hj : j = i
  · subst hj
    rw [if_pos rfl] at a b
    split at a
    · rename_i h1
      rw [if_pos (by rw [← t.len]; exact h1)] at b
      cases a; cases b
      exact h
    · cases a
  · rw [if_neg hj] at a b
    exact t.at_ i w e a b
theorem RepL.take {vs : List V} {ds : List D} (n : Nat) (t : RepL K mg S vs ds) : RepL K mg S (vs.take n) (ds.take n) := by
  refine ⟨by rw [List.length_take, List.length_take, t.len], fun i w e a b => ?_⟩
  rw [List.getElem?_take] at a b
  split at a
  · rename_i h
    rw [if_pos h] at b
    exact t.at_ i w e a b
  · cases a
theorem RepL.drop {vs : List V} {ds : List D} (n : Nat) (t : RepL K mg S vs ds) : RepL K mg S (vs.drop n) (ds.drop n) := by
  refine ⟨by rw [List.length_drop, List.length_drop, t.len], fun i w e a b => ?_⟩
  rw [List.getElem?_drop] at a b
  exact t.at_ _ w e a b
theorem RepL.eraseIdx {vs : List V} {ds : List D} (n : Nat) (t : RepL K mg S vs ds) : RepL K mg S (vs.eraseIdx n) (ds.eraseIdx n) := by
  rw [List.eraseIdx_eq_take_drop_succ, List.eraseIdx_eq_take_drop_succ]
  exact (t.take n).append (t.drop (n + 1))
theorem RepL.dropLast {vs : List V} {ds : List D} (t : RepL K mg S vs ds) : RepL K mg S vs.dropLast ds.dropLast := by
  rw [List.dropLast_eq_take, List.dropLast_eq_take, t.len]
  exact t.take _
theorem Rep.lstL {a : Addr} {vs : List V} {ds : List D} (h : S a = some (.lst vs)) (t : RepL K mg S vs ds) : Rep K mg S (.ref a) (.lst ds) := .lst h t.len t.at_
theorem Rep.tupL {a : Addr} {vs : List V} {ds : List D} (h : SqT K S a vs) (t : RepL K mg S vs ds) : Rep K mg S (.ref a) (.tup ds) := .tup h t.len t.at_
theorem Rep.of_lst {v : V} {ds : List D} (h : Rep K mg S v (.lst ds)) : ∃ a vs, v = .ref a ∧ S a = some (.lst vs) ∧ RepL K mg S vs ds := by
  cases h with
  | lst h hl hi => exact ⟨_, _, rfl, h, hl, hi⟩
theorem Rep.of_frl {v : V} {ds : List D} (h : Rep K mg S v (.frl ds)) : ∃ a vs, v = .ref a ∧ SqL K S a vs ∧ RepL K mg S vs ds := by
  cases h with
  | frl h hl hi => exact ⟨_, _, rfl, h, hl, hi⟩
theorem Rep.of_tup {v : V} {ds : List D} (h : Rep K mg S v (.tup ds)) : ∃ a vs, v = .ref a ∧ SqT K S a vs ∧ RepL K mg S vs ds := by
  cases h with
  | tup h hl hi => exact ⟨_, _, rfl, h, hl, hi⟩
theorem Rep.of_int {v : V} {i : Int} (h : Rep K mg S v (.int i)) : v = .int i := by cases h; rfl
theorem Rep.of_bl {v : V} {i : Bool} (h : Rep K mg S v (.bl i)) : v = .bl i := by cases h; rfl
theorem Rep.of_str {v : V} {i : Str} (h : Rep K mg S v (.str i)) : v = .str i := by cases h; rfl
theorem Rep.of_non {v : V} (h : Rep K mg S v .non) : v = .non := by cases h; rfl
/-- whole numbers -/
theorem RepL.ints : ∀ {vs : List V} {ns : List Int}, RepL K mg S vs (ns.map D.int) → vs = ns.map V.int
  | [], [], _ => rfl
  | [], _ :: _, h => by have := h.len; simp at this
  | _ :: _, [], h => by have := h.len; simp at this
  | v :: vs, n :: ns, h => by
    have e1 := h.head.of_int
    have e2 := RepL.ints (ns := ns) h.tail
    rw [e1, e2]
    rfl
theorem RepL.bls : ∀ {vs : List V} {ns : List Bool}, RepL K mg S vs (ns.map D.bl) → vs = ns.map V.bl
  | [], [], _ => rfl
  | [], _ :: _, h => by have := h.len; simp at this
  | _ :: _, [], h => by have := h.len; simp at this
  | v :: vs, n :: ns, h => by
    have e1 := h.head.of_bl
    have e2 := RepL.bls (ns := ns) h.tail
    rw [e1, e2]
    rfl
theorem RepL.of_ints : ∀ (ns : List Int), RepL K mg S (ns.map V.int) (ns.map D.int)
  | [] => .nil
  | n :: ns => .cons (.int n) (RepL.of_ints ns)
theorem RepL.of_bls : ∀ (ns : List Bool), RepL K mg S (ns.map V.bl) (ns.map D.bl)
  | [] => .nil
  | n :: ns => .cons (.bl n) (RepL.of_bls ns)
/-! ### views -/
/-- from the view S of H to the view S' of H': all that stood stands; what the view has more is new -/
structure Step (S H S' H' : Hp) : Prop where
  hh : Same H H'
  ss : Same S S'
  sub : Same S' H'
  new : ∀ a, S' a ≠ none → S a ≠ none ∨ H a = none
theorem Step.refl (h : Same S H) : Step S H S H := ⟨Same.refl _, Same.refl _, h, fun _ x => .inl x⟩
theorem Step.trans {S1 H1 S2 H2 : Hp} (a : Step S H S1 H1) (b : Step S1 H1 S2 H2) : Step S H S2 H2 :=
  ⟨a.hh.trans b.hh, a.ss.trans b.ss, b.sub, fun x h => by
    rcases b.new x h with h | h
    · exact a.new x h
    · exact .inr (a.hh.free h)⟩
theorem Same.upd_new {H : Hp} {p : Addr} {o : HO} (h : H p = none) : Same H (upd H p o) := fun b x e => by
  rw [upd_ne (ne_of_none e h)]
  exact e
/-- a new object that the view takes in -/
theorem Step.laid {p : Addr} {o : HO} (h : Same S H) (hp : H p = none) : Step S H (upd S p o) (upd H p o) := by
  have sp : S p = none := h.free hp
  refine ⟨Same.upd_new hp, Same.upd_new sp, fun b x e => ?_, fun a x => ?_⟩
  · by_cases hb : b = p
    · subst hb
      rw [upd_same] at e ⊢
      exact e
    · rw [upd_ne hb] at e ⊢
      exact h b x e
  · by_cases ha : a = p
    · subst ha
      exact .inr hp
    · rw [upd_ne ha] at x
      exact .inl x
/-- a new object that the view does not take in -/
theorem Step.hid {p : Addr} {o : HO} (h : Same S H) (hp : H p = none) : Step S H S (upd H p o) :=
  ⟨Same.upd_new hp, Same.refl _, h.trans (Same.upd_new hp), fun _ x => .inl x⟩
theorem some_of_ne {α : Type} {o : Option α} (h : o ≠ none) : ∃ a, o = some a := by
  cases o with
  | none => exact absurd rfl h
  | some a => exact ⟨a, rfl⟩
theorem Step.out {S H S' H' : Hp} (a : Step S H S' H') {p : Addr} {o : HO} (h : S p = none) (hp : H p = some o) : S' p = none := by
  cases e : S' p with
  | none => rfl
  | some u =>
    rcases a.new p (by rw [e]; exact fun z => nomatch z) with z | z
    · exact absurd h z
    · rw [hp] at z; cases z
end
/-! ### what a slot holds -/
/-- shared data; a list that is the slot's own; an own list of own lists; an own dict (keys ints and texts; tuples) -/
inductive Md where
  | sh | ow | ow2 | dk | dt | ob (p : Addr) | ex (a : Addr) (cls : Value) (dd : Option Addr)
  deriving DecidableEq
/-- what v is under the mode, in the view S of H, standing at the addresses fp -/
def OwnAt (K : PySem.W.Frag) (mg : Str → Option Value) (S H : Hp) (fp : List Addr) (v : V) (d : D) : Md → Prop
  | .sh => Rep K mg S v d ∧ fp = []
  | .ow => ∃ p vs ds, v = .ref p ∧ d = .lst ds ∧ fp = [p] ∧ S p = none ∧ H p = some (.lst vs) ∧ RepL K mg S vs ds
  | .ow2 => ∃ (p : Addr) (ps : List Addr) (dss : List (List D)), v = .ref p ∧ d = .lst (dss.map D.lst) ∧ fp = p :: ps ∧ S p = none ∧ H p = some (.lst (ps.map V.ref)) ∧ ps.length = dss.length ∧
      ∀ (j : Nat) (q : Addr) (ds : List D), ps[j]? = some q → dss[j]? = some ds → S q = none ∧ ∃ vs, H q = some (.lst vs) ∧ RepL K mg S vs ds
  | .dk => ∃ (p : Addr) (kvs : List (Key × V)) (ds : List D), v = .ref p ∧ d = .dic (kvs.map (·.1)) ds ∧ fp = [p] ∧ S p = none ∧ H p = some (.dK kvs) ∧ RepL K mg S (kvs.map (·.2)) ds
  | .dt => ∃ (p : Addr) (kvs : List (List Key × V)) (ds : List D), v = .ref p ∧ d = .dit (kvs.map (·.1)) ds ∧ fp = [p] ∧ S p = none ∧ H p = some (.dT kvs) ∧ RepL K mg S (kvs.map (·.2)) ds
  | .ob p => ∃ (dx C : Addr) (c : Str) (fs : List (Str × V)) (ds : List D), v = .ref p ∧ d = .obj c (fs.map (·.1)) ds ∧ fp = [p, dx] ∧ S p = none ∧ S dx = none ∧ mg c = some (.ref C) ∧ H p = some (.ins C dx fs) ∧ H dx = some (.own p) ∧ RepL K mg S (fs.map (·.2)) ds
  | .ex a cls dd => ∃ (c : Str) (vfs : List (Str × V)) (ds : List D), v = .ref a ∧ d = .exc c (vfs.map (·.1)) ds ∧ fp = [] ∧ mg c = some cls ∧ ((vfs = [] ∧ dd = none) ∨ ∃ dx, dd = some dx ∧ S dx = some (.xd vfs)) ∧ RepL K mg S (vfs.map (·.2)) ds
section
variable {K : PySem.W.Frag} {mg : Str → Option Value} {S S' H H' : Hp} {fp : List Addr} {v : V} {d : D} {md : Md}
theorem OwnAt.step (a : Step S H S' H') (h : OwnAt K mg S H fp v d md) : OwnAt K mg S' H' fp v d md := by
  cases md with
  | ex a0 b0 c0 =>
    obtain ⟨c, vfs, ds, e1, e2, e3, e4, e5, e6⟩ := h
    refine ⟨c, vfs, ds, e1, e2, e3, e4, e5.imp id fun ⟨dx, y1, y2⟩ => ⟨dx, y1, a.ss _ _ y2⟩, e6.mono (a.ss)⟩
  | sh => exact ⟨h.1.mono a.ss, h.2⟩
  | ow =>
    obtain ⟨p, vs, ds, e1, e2, e3, e4, e5, e6⟩ := h
    exact ⟨p, vs, ds, e1, e2, e3, a.out e4 e5, a.hh _ _ e5, e6.mono a.ss⟩
  | ow2 =>
    obtain ⟨p, ps, dss, e1, e2, e3, e4, e5, e6, e7⟩ := h
    refine ⟨p, ps, dss, e1, e2, e3, a.out e4 e5, a.hh _ _ e5, e6, fun j q ds x y => ?_⟩
    obtain ⟨z1, vs, z2, z3⟩ := e7 j q ds x y
    exact ⟨a.out z1 z2, vs, a.hh _ _ z2, z3.mono a.ss⟩
  | dk =>
    obtain ⟨p, vs, ds, e1, e2, e3, e4, e5, e6⟩ := h
    exact ⟨p, vs, ds, e1, e2, e3, a.out e4 e5, a.hh _ _ e5, e6.mono a.ss⟩
  | dt =>
    obtain ⟨p, vs, ds, e1, e2, e3, e4, e5, e6⟩ := h
    exact ⟨p, vs, ds, e1, e2, e3, a.out e4 e5, a.hh _ _ e5, e6.mono a.ss⟩
  | ob p =>
    obtain ⟨dx, C, c, fs, ds, e1, e2, e3, e4, e5, e6, e7, e8, e9⟩ := h
    exact ⟨dx, C, c, fs, ds, e1, e2, e3, a.out e4 e7, a.out e5 e8, e6, a.hh _ _ e7, a.hh _ _ e8, e9.mono a.ss⟩
/-- its addresses are tracked, and out of the view -/
theorem OwnAt.out (h : OwnAt K mg S H fp v d md) {a : Addr} (ha : a ∈ fp) : S a = none ∧ ∃ o, H a = some o := by
  cases md with
  | ex a0 b0 c0 =>
    obtain ⟨c, vfs, ds, e1, e2, e3, e4, e5, e6⟩ := h
    rw [e3] at ha; cases ha
  | sh => rw [h.2] at ha; cases ha
  | ow =>
    obtain ⟨p, vs, ds, e1, e2, e3, e4, e5, e6⟩ := h
    rw [e3] at ha
    have : a = p := by simpa using ha
    subst this
    exact ⟨e4, _, e5⟩
  | ow2 =>
    obtain ⟨p, ps, dss, e1, e2, e3, e4, e5, e6, e7⟩ := h
    rw [e3] at ha
    rcases List.mem_cons.mp ha with z | z
    · subst z; exact ⟨e4, _, e5⟩
    · obtain ⟨j, hj⟩ := List.mem_iff_getElem?.mp z
      have hl : j < dss.length := by rw [← e6]; exact (List.getElem?_eq_some_iff.mp hj).1
      obtain ⟨z1, vs, z2, _⟩ := e7 j a _ hj (List.getElem?_eq_getElem hl)
      exact ⟨z1, _, z2⟩
  | dk =>
    obtain ⟨p, vs, ds, e1, e2, e3, e4, e5, e6⟩ := h
    rw [e3] at ha
    have : a = p := by simpa using ha
    subst this
    exact ⟨e4, _, e5⟩
  | dt =>
    obtain ⟨p, vs, ds, e1, e2, e3, e4, e5, e6⟩ := h
    rw [e3] at ha
    have : a = p := by simpa using ha
    subst this
    exact ⟨e4, _, e5⟩
  | ob p =>
    obtain ⟨dx, C, c, fs, ds, e1, e2, e3, e4, e5, e6, e7, e8, e9⟩ := h
    rw [e3] at ha
    have : a = p ∨ a = dx := by simpa using ha
    rcases this with rfl | rfl
    · exact ⟨e4, _, e7⟩
    · exact ⟨e5, _, e8⟩
/-- another object is written -/
theorem OwnAt.other {p : Addr} {o : HO} (hp : S p = none) (hf : p ∉ fp) (h : OwnAt K mg S H fp v d md) : OwnAt K mg S (upd H p o) fp v d md := by
  cases md with
  | ex a0 b0 c0 => exact h
  | sh => exact h
  | ow =>
    obtain ⟨q, vs, ds, e1, e2, e3, e4, e5, e6⟩ := h
    refine ⟨q, vs, ds, e1, e2, e3, e4, ?_, e6⟩
    rw [upd_ne (fun z => hf (by rw [e3, z]; exact List.mem_cons_self))]
    exact e5
  | ow2 =>
    obtain ⟨q, ps, dss, e1, e2, e3, e4, e5, e6, e7⟩ := h
    refine ⟨q, ps, dss, e1, e2, e3, e4, ?_, e6, fun j r ds x y => ?_⟩
    · rw [upd_ne (fun z => hf (by rw [e3, z]; exact List.mem_cons_self))]
      exact e5
    · obtain ⟨z1, vs, z2, z3⟩ := e7 j r ds x y
      refine ⟨z1, vs, ?_, z3⟩
      rw [upd_ne (fun z => hf (by rw [e3, ← z]; exact List.mem_cons_of_mem _ (List.mem_of_getElem? x)))]
      exact z2
  | dk =>
    obtain ⟨q, vs, ds, e1, e2, e3, e4, e5, e6⟩ := h
    refine ⟨q, vs, ds, e1, e2, e3, e4, ?_, e6⟩
    rw [upd_ne (fun z => hf (by rw [e3, z]; exact List.mem_cons_self))]
    exact e5
  | dt =>
    obtain ⟨q, vs, ds, e1, e2, e3, e4, e5, e6⟩ := h
    refine ⟨q, vs, ds, e1, e2, e3, e4, ?_, e6⟩
    rw [upd_ne (fun z => hf (by rw [e3, z]; exact List.mem_cons_self))]
    exact e5
  | ob q =>
    obtain ⟨dx, C, c, fs, ds, e1, e2, e3, e4, e5, e6, e7, e8, e9⟩ := h
    refine ⟨dx, C, c, fs, ds, e1, e2, e3, e4, e5, e6, ?_, ?_, e9⟩
    · rw [upd_ne (fun z => hf (by rw [e3, z]; exact List.mem_cons_self))]
      exact e7
    · rw [upd_ne (fun z => hf (by rw [e3, z]; exact List.mem_cons_of_mem _ List.mem_cons_self))]
      exact e8
end
/-- the data of the slots; none: nothing is known of the slot -/
abbrev Env := List (Option D)
abbrev Mds := List Md
def mdAt (m : Mds) (i : Nat) : Md := m.getD i .sh
/-- the slots σ hold the data ρ, each by its mode, standing at F -/
structure EnvF (K : PySem.W.Frag) (mg : Str → Option Value) (m : Mds) (F : Nat → List Addr) (S H : Hp) (σ : St) (ρ : Env) : Prop where
  len : ρ.length = σ.length
  at_ : ∀ i d, ρ[i]? = some (some d) → ∃ v, σ[i]? = some (some v) ∧ OwnAt K mg S H (F i) v d (mdAt m i)
  nd : ∀ i d, ρ[i]? = some (some d) → (F i).Nodup
  apart : ∀ i j d e, i ≠ j → ρ[i]? = some (some d) → ρ[j]? = some (some e) → ∀ a, a ∈ F i → a ∉ F j
def EnvM (K : PySem.W.Frag) (mg : Str → Option Value) (m : Mds) (S H : Hp) (σ : St) (ρ : Env) : Prop := Same S H ∧ ∃ F, EnvF K mg m F S H σ ρ
section
variable {K : PySem.W.Frag} {mg : Str → Option Value} {m : Mds} {F : Nat → List Addr} {S S' H H' : Hp} {σ : St} {ρ : Env}
theorem EnvF.step (a : Step S H S' H') (h : EnvF K mg m F S H σ ρ) : EnvF K mg m F S' H' σ ρ :=
  ⟨h.len, fun i d e => by
    obtain ⟨v, e1, e2⟩ := h.at_ i d e
    exact ⟨v, e1, e2.step a⟩, h.nd, h.apart⟩
theorem EnvM.step (a : Step S H S' H') (h : EnvM K mg m S H σ ρ) : EnvM K mg m S' H' σ ρ := by
  obtain ⟨_, F, h⟩ := h
  exact ⟨a.sub, F, h.step a⟩
end
end Da
namespace Da
open PySem PySem.Spec L2
section
variable {K : PySem.W.Frag} {mg : Str → Option Value} {E : XK} {S S' H H' : Hp}
/-- an own exception: its class, its own dict -/
def ExcAt (K : PySem.W.Frag) (mg : Str → Option Value) (S H : Hp) (cls : Value) (dd : Option Addr) (c : Str) (fs : List (Str × D)) : Prop :=
  mg c = some cls ∧ ((fs = [] ∧ dd = none) ∨ ∃ a vfs, dd = some a ∧ S a = some (.xd vfs) ∧ vfs.map (·.1) = fs.map (·.1) ∧ RepL K mg S (vfs.map (·.2)) (fs.map (·.2)))
/-- what is wanted of a run's end -/
def PostW {α : Type} (K : PySem.W.Frag) (mg : Str → Option Value) (E : XK) (S H : Hp) (r : Res α) (k : α → Hp → Hp → Prop) : Prop := match r with
  | .ok a => ∀ S' H', Step S H S' H' → k a S' H'
  | .ex c fs => ∀ S' H' cls dd, Step S H S' H' → ExcAt K mg S' H' cls dd c fs → E cls dd H'
  | .er => False
/-- .. of a value's -/
def Post (K : PySem.W.Frag) (mg : Str → Option Value) (E : XK) (S H : Hp) (md : Md) (r : Res D) (Q : VK) : Prop := match r with
  | .ok d => ∀ v S' H' fp, Step S H S' H' → OwnAt K mg S' H' fp v d md → fp.Nodup → (∀ a ∈ fp, H a = none) → Q v H'
  | .ex c fs => ∀ S' H' cls dd, Step S H S' H' → ExcAt K mg S' H' cls dd c fs → E cls dd H'
  | .er => False
theorem PostW.step {α : Type} {r : Res α} {k : α → Hp → Hp → Prop} (st : Step S H S' H') (h : PostW K mg E S H r k) : PostW K mg E S' H' r k := by
  cases r with
  | ok a => exact fun S2 H2 s2 => h S2 H2 (st.trans s2)
  | ex c fs => exact fun S2 H2 cls dd s2 => h S2 H2 cls dd (st.trans s2)
  | er => exact h
theorem Post.step {md : Md} {r : Res D} {Q : VK} (st : Step S H S' H') (h : Post K mg E S H md r Q) : Post K mg E S' H' md r Q := by
  cases r with
  | ok a => exact fun v S2 H2 fp s2 o n f => h v S2 H2 fp (st.trans s2) o n fun a ha => st.hh.free (f a ha)
  | ex c fs => exact fun S2 H2 cls dd s2 => h S2 H2 cls dd (st.trans s2)
  | er => exact h
theorem Post.bind {α : Type} {md : Md} {r : Res α} {f : α → Res D} {Q : VK} (h : Post K mg E S H md (r.bind f) Q) : PostW K mg E S H r fun a S1 H1 => Post K mg E S1 H1 md (f a) Q := by
  cases r with
  | ok a => exact fun S2 H2 s2 => Post.step s2 h
  | ex c fs => exact h
  | er => exact h
theorem PostW.bind {α β : Type} {r : Res α} {f : α → Res β} {k : β → Hp → Hp → Prop} (h : PostW K mg E S H (r.bind f) k) : PostW K mg E S H r fun a S1 H1 => PostW K mg E S1 H1 (f a) k := by
  cases r with
  | ok a => exact fun S2 H2 s2 => PostW.step s2 h
  | ex c fs => exact h
  | er => exact h
theorem PostW.imp {α : Type} {r : Res α} {k k' : α → Hp → Hp → Prop} (h : PostW K mg E S H r k) (g : ∀ a S' H', Step S H S' H' → k a S' H' → k' a S' H') : PostW K mg E S H r k' := by
  cases r with
  | ok a => exact fun S2 H2 s2 => g a S2 H2 s2 (h S2 H2 s2)
  | ex c fs => exact h
  | er => exact h
/-- a shared value is handed on -/
theorem PostW.post {r : Res D} {k : D → Hp → Hp → Prop} {Q : VK} (h : PostW K mg E S H r k) (g : ∀ d v S' H', Step S H S' H' → Rep K mg S' v d → k d S' H' → Q v H') : Post K mg E S H .sh r Q := by
  cases r with
  | ok a => exact fun v S2 H2 fp s2 o n f => g a v S2 H2 s2 o.1 (h S2 H2 s2)
  | ex c fs => exact h
  | er => exact h
theorem PostW.postM {md : Md} {r : Res D} {k : D → Hp → Hp → Prop} {Q : VK} (h : PostW K mg E S H r k) (g : ∀ d v S' H' fp, Step S H S' H' → OwnAt K mg S' H' fp v d md → fp.Nodup → (∀ a ∈ fp, H a = none) → k d S' H' → Q v H') : Post K mg E S H md r Q := by
  cases r with
  | ok a => exact fun v S2 H2 fp s2 o n f => g a v S2 H2 fp s2 o n f (h S2 H2 s2)
  | ex c fs => exact h
  | er => exact h
/-- a shared value that stands already -/
theorem Post.val {d : D} {v : V} {Q : VK} (h : Post K mg E S H .sh (.ok d) Q) (hs : Same S H) (r : Rep K mg S v d) : Q v H := h v S H [] (Step.refl hs) ⟨r, rfl⟩ List.nodup_nil (fun a z => nomatch z)
/-- a new list, a new tuple -/
theorem Post.lst {ds : List D} {vs : List V} {p : Addr} {Q : VK} (h : Post K mg E S H .sh (.ok (.lst ds)) Q) (hs : Same S H) (r : RepL K mg S vs ds) (hp : H p = none) : Q (.ref p) (upd H p (.lst vs)) :=
  h _ _ _ [] (Step.laid hs hp) ⟨Rep.lstL upd_same (r.mono (Step.laid hs hp).ss), rfl⟩ List.nodup_nil (fun a z => nomatch z)
theorem Post.tup {ds : List D} {vs : List V} {p : Addr} {Q : VK} (h : Post K mg E S H .sh (.ok (.tup ds)) Q) (hs : Same S H) (r : RepL K mg S vs ds) (hp : H p = none) : Q (.ref p) (upd H p (.tup vs)) :=
  h _ _ _ [] (Step.laid hs hp) ⟨Rep.tupL (.inl (.inl upd_same)) (r.mono (Step.laid hs hp).ss), rfl⟩ List.nodup_nil (fun a z => nomatch z)
/-- a new list that is one's own -/
theorem Post.own {ds : List D} {vs : List V} {p : Addr} {Q : VK} (h : Post K mg E S H .ow (.ok (.lst ds)) Q) (hs : Same S H) (r : RepL K mg S vs ds) (hp : H p = none) : Q (.ref p) (upd H p (.lst vs)) :=
  h _ S _ [p] (Step.hid hs hp) ⟨p, vs, ds, rfl, rfl, rfl, hs.free hp, upd_same, r⟩ (by simp) (fun a z => by
    have : a = p := by simpa using z
    rw [this]; exact hp)
/-- a list, kept or shared -/
theorem Post.list {md : Md} (hmd : md = .sh ∨ md = .ow) {ds : List D} {vs : List V} {p : Addr} {Q : VK} (h : Post K mg E S H md (.ok (.lst ds)) Q) (hs : Same S H) (r : RepL K mg S vs ds) (hp : H p = none) : Q (.ref p) (upd H p (.lst vs)) := by
  rcases hmd with rfl | rfl
  · exact h.lst hs r hp
  · exact h.own hs r hp
end
/-! ### readings -/
def tE (K : PySem.W.Frag) (mg : Str → Option Value) (E : WX) (m : Mds) (md : Md) (f : Env → Res D) : TE := fun σ H Q => ∃ S ρ, EnvM K mg m S H σ ρ ∧ Post K mg (WE E σ) S H md (f ρ) Q
def tT (K : PySem.W.Frag) (mg : Str → Option Value) (E : WX) (m : Mds) (f : Env → Res Bool) : TT := fun σ H Q => ∃ S ρ, EnvM K mg m S H σ ρ ∧ PostW K mg (WE E σ) S H (f ρ) fun b _ H' => Q b H'
def tA (K : PySem.W.Frag) (mg : Str → Option Value) (E : WX) (m : Mds) (f : Env → Res (List D)) : TA := fun σ H Q => ∃ S ρ, EnvM K mg m S H σ ρ ∧ PostW K mg (WE E σ) S H (f ρ) fun ds S' H' => ∀ vs, RepL K mg S' vs ds → Q vs H'
structure JE (X : Cx) (E : WX) (m : Mds) (md : Md) (e : Expr) (f : Env → Res D) : Prop where
  pe : PE X e (tE X.K X.mg E m md f)
structure JT (X : Cx) (E : WX) (m : Mds) (e : Expr) (f : Env → Res Bool) : Prop where
  pt : PT X e (tT X.K X.mg E m f)
structure JW (X : Cx) (E : WX) (m : Mds) (e : Expr) (f : Env → Res Bool) : Prop where
  pw : PW X e (tT X.K X.mg E m f)
structure JA (X : Cx) (E : WX) (m : Mds) (es : List Expr) (f : Env → Res (List D)) : Prop where
  pa : PA X es (tA X.K X.mg E m f)
section
variable {X : Cx} {e : Expr} {es : List Expr}
theorem PEimp {t t' : TE} (h : PE X e t) (g : ∀ σ H Q, t' σ H Q → t σ H Q) : PE X e t' := ⟨fun pins s σ H Q I q => h.run pins s σ H Q I (g σ H Q q)⟩
theorem PTimp {t t' : TT} (h : PT X e t) (g : ∀ σ H Q, t' σ H Q → t σ H Q) : PT X e t' := ⟨fun pins s σ H Q I q => h.run pins s σ H Q I (g σ H Q q)⟩
theorem PWimp {t t' : TT} (h : PW X e t) (g : ∀ σ H Q, t' σ H Q → t σ H Q) : PW X e t' := ⟨fun wh pins s σ H Q I q => h.run wh pins s σ H Q I (g σ H Q q)⟩
theorem PAimp {t t' : TA} (h : PA X es t) (g : ∀ σ H Q, t' σ H Q → t σ H Q) : PA X es t' := ⟨fun pos pins s σ H Q I q => h.run pos pins s σ H Q I (g σ H Q q)⟩
end
def fC (d : D) : Env → Res D := fun _ => .ok d
def fV (i : Nat) : Env → Res D := fun ρ => match ρ[i]? with
  | some (some d) => .ok d
  | _ => .er
def f1 (g : D → Res D) (fa : Env → Res D) : Env → Res D := fun ρ => (fa ρ).bind g
def f2 (g : D → D → Res D) (fa fb : Env → Res D) : Env → Res D := fun ρ => (fa ρ).bind fun x => (fb ρ).bind fun y => g x y
def fA0 : Env → Res (List D) := fun _ => .ok []
def fA (fa : Env → Res D) (fr : Env → Res (List D)) : Env → Res (List D) := fun ρ => (fa ρ).bind fun x => (fr ρ).bind fun xs => .ok (x :: xs)
def fOn (g : List D → Res D) (fa : Env → Res (List D)) : Env → Res D := fun ρ => (fa ρ).bind g
def asB : D → Res Bool
  | .bl b => .ok b
  | _ => .er
/-- an operation on values does what g says -/
def OpD (K : PySem.W.Frag) (mg : Str → Option Value) (md : Md) (r : R2) (g : D → D → Res D) : Prop :=
  ∀ (E : XK) (S H : Hp) (x y : V) (dx dy : D) (Q : VK), Same S H → Rep K mg S x dx → Rep K mg S y dy → Post K mg E S H md (g dx dy) Q → r x y H Q
def UnD (K : PySem.W.Frag) (mg : Str → Option Value) (md : Md) (r : V → Hp → VK → Prop) (g : D → Res D) : Prop :=
  ∀ (E : XK) (S H : Hp) (x : V) (dx : D) (Q : VK), Same S H → Rep K mg S x dx → Post K mg E S H md (g dx) Q → r x H Q
def CallD (K : PySem.W.Frag) (mg : Str → Option Value) (md : Md) (r : List V → Hp → VK → Prop) (g : List D → Res D) : Prop :=
  ∀ (E : XK) (S H : Hp) (xs : List V) (ds : List D) (Q : VK), Same S H → RepL K mg S xs ds → Post K mg E S H md (g ds) Q → r xs H Q
section
variable {X : Cx} {E : WX} {m : Mds} {md : Md} {a b : Expr} {es : List Expr} {fa fb : Env → Res D} {pos : Pos}
theorem two {t : R2} {g : D → D → Res D} {K : PySem.W.Frag} {mg : Str → Option Value} (hr : OpD K mg md t g) {σ : L2.St} {H : Hp} {Q : VK} (h : tE K mg E m md (f2 g fa fb) σ H Q) : tOp t (tE K mg E m .sh fa) (tE K mg E m .sh fb) σ H Q := by
  obtain ⟨S, ρ, hm, hp⟩ := h
  refine ⟨S, ρ, hm, (Post.bind hp).post fun dx v S1 H1 s1 r1 h1 => ?_⟩
  exact ⟨S1, ρ, hm.step s1, (Post.bind h1).post fun dy w S2 H2 s2 r2 h2 => hr _ S2 H2 v w dx dy Q s2.sub (r1.mono s2.ss) r2 h2⟩
theorem one {t : V → Hp → VK → Prop} {g : D → Res D} {K : PySem.W.Frag} {mg : Str → Option Value} (hr : UnD K mg md t g) {σ : L2.St} {H : Hp} {Q : VK} (h : tE K mg E m md (f1 g fa) σ H Q) : tUn t (tE K mg E m .sh fa) σ H Q := by
  obtain ⟨S, ρ, hm, hp⟩ := h
  exact ⟨S, ρ, hm, (Post.bind hp).post fun dx v S1 H1 s1 r1 h1 => hr _ S1 H1 v dx Q s1.sub r1 h1⟩
theorem je_op {op : Operator} {r : R2} {g : D → D → Res D} (ho : OpR X (binaryOp op) r) (hr : OpD X.K X.mg md r g) (ha : JE X E m .sh a fa) (hb : JE X E m .sh b fb) : JE X E m md (.BinOp a op b pos) (f2 g fa fb) :=
  ⟨PEimp (pe_op ho ha.pe hb.pe) fun σ H Q h => two hr h⟩
theorem je_un {op : UnaryOp} {r : V → Hp → VK → Prop} {g : D → Res D} (ho : UnR X (unaryOp op) r) (hr : UnD X.K X.mg md r g) (ha : JE X E m .sh a fa) : JE X E m md (.UnaryOp op a pos) (f1 g fa) :=
  ⟨PEimp (pe_un ho ha.pe) fun σ H Q h => one hr h⟩
theorem je_cmp {op : CmpOp} {r : R2} {g : D → D → Res D} (ho : OpR X (compareOp op) r) (hr : OpD X.K X.mg .sh r g) (ha : JE X E m .sh a fa) (hb : JE X E m .sh b fb) (hm : behindInMarks op b = false := by rfl) : JE X E m .sh (.Compare a [op] [b] pos) (f2 g fa fb) :=
  ⟨PEimp (pe_cmpR ho ha.pe hb.pe hm) fun σ H Q h => two hr h⟩
theorem je_ix {r : R2} {g : D → D → Res D} (ho : IxR X r) (hr : OpD X.K X.mg .sh r g) (ha : JE X E m .sh a fa) (hb : JE X E m .sh b fb) (hs : PlainIx b := by intro _ _; rfl) : JE X E m .sh (.Subscript a b pos) (f2 g fa fb) :=
  ⟨PEimp (pe_ix ho ha.pe hb.pe hs) fun σ H Q h => two hr h⟩
/-- a value that is a bool, as a test -/
def fB (f : Env → Res D) : Env → Res Bool := fun ρ => (f ρ).bind asB
theorem jt_val (h : JE X E m .sh a fa) (he : ∀ whole, isTrue a X.env whole = (do let v ← whole; standAt a.pos; holding [v] (truthy v)) := by intro _; rfl) : JT X E m a (fB fa) := by
  refine ⟨PTimp (pt_val h.pe he) fun σ H Q h => ?_⟩
  obtain ⟨S, ρ, hm, hp⟩ := h
  refine ⟨S, ρ, hm, (PostW.bind hp).post fun d v S1 H1 s1 r1 h1 => ?_⟩
  cases d with
  | bl c =>
    cases r1
    exact ⟨c, rfl, h1 S1 H1 (Step.refl s1.sub)⟩
  | _ => exact h1.elim
theorem jt_cmp {op : CmpOp} {r : R2} {g : D → D → Res D} (ho : OpR X (compareOp op) r) (hr : OpD X.K X.mg .sh r g) (ha : JE X E m .sh a fa) (hb : JE X E m .sh b fb) (hm : behindInMarks op b = false := by rfl) : JT X E m (.Compare a [op] [b] pos) (fB (f2 g fa fb)) := by
  refine ⟨PTimp (pt_cmpR ho ha.pe hb.pe hm) fun σ H Q h => ?_⟩
  obtain ⟨S, ρ, hm, hp⟩ := h
  have k : tE X.K X.mg E m .sh (f2 g fa fb) σ H fun x H' => ∃ k, x = .bl k ∧ Q k H' := by
    refine ⟨S, ρ, hm, (PostW.bind hp).post fun d v S1 H1 s1 r1 h1 => ?_⟩
    cases d with
    | bl c =>
      cases r1
      exact ⟨c, rfl, h1 S1 H1 (Step.refl s1.sub)⟩
    | _ => exact h1.elim
  exact two hr k
/-! names, constants -/
theorem je_int {i : Int} {j} : JE X E m .sh (.Constant (.int i) j pos) (fC (.int i)) := ⟨PEimp pe_int fun σ H Q h => by obtain ⟨S, ρ, hm, hp⟩ := h; exact Post.val hp hm.1 (.int i)⟩
theorem je_bl {i : Bool} {j} : JE X E m .sh (.Constant (.bool i) j pos) (fC (.bl i)) := ⟨PEimp pe_bl fun σ H Q h => by obtain ⟨S, ρ, hm, hp⟩ := h; exact Post.val hp hm.1 (.bl i)⟩
theorem je_non {j} : JE X E m .sh (.Constant .none j pos) (fC .non) := ⟨PEimp pe_non fun σ H Q h => by obtain ⟨S, ρ, hm, hp⟩ := h; exact Post.val hp hm.1 .non⟩
theorem je_str {x : Str} {j} : JE X E m .sh (.Constant (.str x) j pos) (fC (.str x)) := ⟨PEimp pe_str fun σ H Q h => by obtain ⟨S, ρ, hm, hp⟩ := h; exact Post.val hp hm.1 (.str x)⟩
/-- a name whose data are shared -/
theorem je_var (i : Nat) {x : Str} (hmd : mdAt m i = .sh := by rfl) (hN : X.N[i]? = some x := by rfl) (hv : Vis X.env.scope x := by first | exact Or.inl rfl | exact Or.inr (Or.inl rfl) | exact Or.inr (Or.inr rfl)) (hd : (x == ("__debug__" : Str)) = false := by decide)
    (hcd : (x == ("__classdict__" : Str)) = false := by decide) : JE X E m .sh (.Name x pos) (fV i) := by
  refine ⟨PEimp (pe_var hN hv hd hcd) fun σ H Q h => ?_⟩
  obtain ⟨S, ρ, ⟨hs, F, hm⟩, hp⟩ := h
  unfold fV at hp
  split at hp
  · rename_i d e
    obtain ⟨v, e1, e2⟩ := hm.at_ i d e
    rw [hmd] at e2
    exact ⟨v, e1, hp.val hs e2.1⟩
  · exact hp.elim
/-! argument lists, displays -/
theorem ja_nil : JA X E m [] fA0 := ⟨PAimp pa_nil fun σ H Q h => by obtain ⟨S, ρ, hm, hp⟩ := h; exact hp S H (Step.refl hm.1) [] .nil⟩
theorem ja_cons {fr : Env → Res (List D)} (ha : JE X E m .sh a fa) (hr : JA X E m es fr) (hs : starEach (a :: es) X.env = (false, eval a X.env) :: starEach es X.env := by rfl) : JA X E m (a :: es) (fA fa fr) := by
  refine ⟨PAimp (pa_cons ha.pe hr.pa hs) fun σ H Q h => ?_⟩
  obtain ⟨S, ρ, hm, hp⟩ := h
  refine ⟨S, ρ, hm, (PostW.bind hp).post fun d v S1 H1 s1 r1 h1 => ?_⟩
  refine ⟨S1, ρ, hm.step s1, (PostW.bind h1).imp fun ds S2 H2 s2 h2 vs rs => ?_⟩
  exact h2 S2 H2 (Step.refl s2.sub) (v :: vs) (.cons (r1.mono s2.ss) rs)
def gTupD (ds : List D) : Res D := if ds.length ≤ 100000 then .ok (.tup ds) else .er
def gLstD (ds : List D) : Res D := if ds.length ≤ 100000 then .ok (.lst ds) else .er
theorem small5 {n : Nat} (h : n ≤ 100000) : n ≤ sizeLine := by rw [sizeLine_eq]; omega
theorem je_tup {fr : Env → Res (List D)} {x1} (h : JA X E m es fr) : JE X E m .sh (.Tuple es x1 pos) (fOn gTupD fr) := by
  refine ⟨PEimp (pe_tup h.pa) fun σ H Q h => ?_⟩
  obtain ⟨S, ρ, hm, hp⟩ := h
  refine ⟨S, ρ, hm, (Post.bind hp).imp fun ds S1 H1 s1 h1 vs rs => ?_⟩
  unfold gTupD at h1
  split at h1
  · rename_i hz
    exact ⟨by rw [rs.len]; exact small5 hz, fun p hp => h1.tup s1.sub rs hp⟩
  · exact h1.elim
theorem je_lst {fr : Env → Res (List D)} (h : JA X E m es fr) (hmd : md = .sh ∨ md = .ow := by first | exact .inl rfl | exact .inr rfl) : JE X E m md (.List es pos) (fOn gLstD fr) := by
  refine ⟨PEimp (pe_lst h.pa) fun σ H Q h => ?_⟩
  obtain ⟨S, ρ, hm, hp⟩ := h
  refine ⟨S, ρ, hm, (Post.bind hp).imp fun ds S1 H1 s1 h1 vs rs => ?_⟩
  unfold gLstD at h1
  split at h1
  · rename_i hz
    exact ⟨by rw [rs.len]; exact small5 hz, fun p hp => h1.list hmd s1.sub rs hp⟩
  · exact h1.elim
/-! and, or, not -/
def fAnd (fa fb : Env → Res Bool) : Env → Res Bool := fun ρ => (fa ρ).bind fun c => if c = true then fb ρ else .ok false
def fOr (fa fb : Env → Res Bool) : Env → Res Bool := fun ρ => (fa ρ).bind fun c => if c = true then .ok true else fb ρ
def fNot (fa : Env → Res Bool) : Env → Res Bool := fun ρ => (fa ρ).bind fun c => .ok (!c)
def fIf (fc : Env → Res Bool) (fa fb : Env → Res D) : Env → Res D := fun ρ => (fc ρ).bind fun c => if c = true then fa ρ else fb ρ
variable {ga gb gc : Env → Res Bool} {c : Expr} {rest : List Expr}
theorem JW.jt (h : JW X E m a ga) : JT X E m a ga := ⟨h.pw.pt⟩
theorem jw_and1 (ha : JT X E m a ga) : JW X E m (.BoolOp .And [a] pos) ga := ⟨pw_and1 ha.pt⟩
theorem jw_or1 (ha : JT X E m a ga) : JW X E m (.BoolOp .Or [a] pos) ga := ⟨pw_or1 ha.pt⟩
theorem and_ok {K : PySem.W.Frag} {mg : Str → Option Value} {σ : L2.St} {H : Hp} {Q : Bool → Hp → Prop} (h : tT K mg E m (fAnd ga gb) σ H Q) : tAnd (tT K mg E m ga) (tT K mg E m gb) σ H Q := by
  obtain ⟨S, ρ, hm, hp⟩ := h
  refine ⟨S, ρ, hm, (PostW.bind hp).imp fun d S1 H1 s1 h1 => ?_⟩
  cases d with
  | true => exact ⟨S1, ρ, hm.step s1, h1⟩
  | false => exact h1 S1 H1 (Step.refl s1.sub)
theorem or_ok {K : PySem.W.Frag} {mg : Str → Option Value} {σ : L2.St} {H : Hp} {Q : Bool → Hp → Prop} (h : tT K mg E m (fOr ga gb) σ H Q) : tOr (tT K mg E m ga) (tT K mg E m gb) σ H Q := by
  obtain ⟨S, ρ, hm, hp⟩ := h
  refine ⟨S, ρ, hm, (PostW.bind hp).imp fun d S1 H1 s1 h1 => ?_⟩
  cases d with
  | false => exact ⟨S1, ρ, hm.step s1, h1⟩
  | true => exact h1 S1 H1 (Step.refl s1.sub)
theorem jw_and (ha : JT X E m a ga) (hb : JW X E m (.BoolOp .And (b :: rest) pos) gb) : JW X E m (.BoolOp .And (a :: b :: rest) pos) (fAnd ga gb) :=
  ⟨PWimp (pw_and ha.pt hb.pw) fun σ H Q h => and_ok h⟩
theorem jw_or (ha : JT X E m a ga) (hb : JW X E m (.BoolOp .Or (b :: rest) pos) gb) : JW X E m (.BoolOp .Or (a :: b :: rest) pos) (fOr ga gb) :=
  ⟨PWimp (pw_or ha.pt hb.pw) fun σ H Q h => or_ok h⟩
theorem jt_not (ha : JT X E m a ga) : JT X E m (.UnaryOp .Not a pos) (fNot ga) := by
  refine ⟨PTimp (pt_not ha.pt) fun σ H Q h => ?_⟩
  obtain ⟨S, ρ, hm, hp⟩ := h
  exact ⟨S, ρ, hm, (PostW.bind hp).imp fun d S1 H1 s1 h1 => h1 S1 H1 (Step.refl s1.sub)⟩
/-- as values: all are bools -/
def fBv (f : Env → Res Bool) : Env → Res D := fun ρ => (f ρ).bind fun b => .ok (.bl b)
theorem je_and (ha : JE X E m .sh a fa) (hb : JE X E m .sh (.BoolOp .And (b :: rest) pos) (fBv gb)) : JE X E m .sh (.BoolOp .And (a :: b :: rest) pos) (fBv (fAnd (fB fa) gb)) := by
  refine ⟨PEimp (pe_and ha.pe hb.pe) fun σ H Q h => ?_⟩
  obtain ⟨S, ρ, hm, hp⟩ := h
  refine ⟨S, ρ, hm, (PostW.bind (PostW.bind (Post.bind hp))).post fun d v S1 H1 s1 r1 h1 => ?_⟩
  cases d with
  | bl c =>
    cases r1
    refine ⟨c, rfl, ?_⟩
    have h1 := h1 S1 H1 (Step.refl s1.sub)
    cases c with
    | true =>
      refine ⟨S1, ρ, hm.step s1, ?_⟩
      show Post _ _ _ _ _ _ ((gb ρ).bind _) Q
      revert h1
      show PostW _ _ _ _ _ (gb ρ) _ → _
      cases gb ρ with
      | ok x => exact fun h1 => h1 S1 H1 (Step.refl s1.sub)
      | ex c fs => exact fun h1 => h1
      | er => exact fun h1 => h1
    | false =>
      have h2 := h1 S1 H1 (Step.refl s1.sub)
      exact Post.val h2 s1.sub (.bl false)
  | _ => exact h1.elim
theorem je_or (ha : JE X E m .sh a fa) (hb : JE X E m .sh (.BoolOp .Or (b :: rest) pos) (fBv gb)) : JE X E m .sh (.BoolOp .Or (a :: b :: rest) pos) (fBv (fOr (fB fa) gb)) := by
  refine ⟨PEimp (pe_or ha.pe hb.pe) fun σ H Q h => ?_⟩
  obtain ⟨S, ρ, hm, hp⟩ := h
  refine ⟨S, ρ, hm, (PostW.bind (PostW.bind (Post.bind hp))).post fun d v S1 H1 s1 r1 h1 => ?_⟩
  cases d with
  | bl c =>
    cases r1
    refine ⟨c, rfl, ?_⟩
    have h1 := h1 S1 H1 (Step.refl s1.sub)
    cases c with
    | false =>
      refine ⟨S1, ρ, hm.step s1, ?_⟩
      show Post _ _ _ _ _ _ ((gb ρ).bind _) Q
      revert h1
      show PostW _ _ _ _ _ (gb ρ) _ → _
      cases gb ρ with
      | ok x => exact fun h1 => h1 S1 H1 (Step.refl s1.sub)
      | ex c fs => exact fun h1 => h1
      | er => exact fun h1 => h1
    | true =>
      have h2 := h1 S1 H1 (Step.refl s1.sub)
      exact Post.val h2 s1.sub (.bl true)
  | _ => exact h1.elim
/-- the last one -/
theorem je_last {op} (ha : JE X E m .sh a fa) : JE X E m .sh (.BoolOp op [a] pos) (fBv (fB fa)) := by
  refine ⟨PEimp (pe_one ha.pe) fun σ H Q h => ?_⟩
  obtain ⟨S, ρ, hm, hp⟩ := h
  refine ⟨S, ρ, hm, (PostW.bind (Post.bind hp)).post fun d v S1 H1 s1 r1 h1 => ?_⟩
  cases d with
  | bl c => exact Post.val (h1 S1 H1 (Step.refl s1.sub)) s1.sub r1
  | _ => exact h1.elim
theorem je_not (ha : JE X E m .sh a fa) : JE X E m .sh (.UnaryOp .Not a pos) (fBv (fNot (fB fa))) := by
  refine ⟨PEimp (pe_not ha.pe) fun σ H Q h => ?_⟩
  obtain ⟨S, ρ, hm, hp⟩ := h
  refine ⟨S, ρ, hm, (PostW.bind (PostW.bind (Post.bind hp))).post fun d v S1 H1 s1 r1 h1 => ?_⟩
  cases d with
  | bl c =>
    cases r1
    exact ⟨c, rfl, Post.val (h1 S1 H1 (Step.refl s1.sub) S1 H1 (Step.refl s1.sub)) s1.sub (.bl _)⟩
  | _ => exact h1.elim
theorem je_if (hc : JT X E m c gc) (ha : JE X E m md a fa) (hb : JE X E m md b fb) : JE X E m md (.IfExp c a b pos) (fIf gc fa fb) := by
  refine ⟨PEimp (pe_ifExp hc.pt ha.pe hb.pe) fun σ H Q h => ?_⟩
  obtain ⟨S, ρ, hm, hp⟩ := h
  refine ⟨S, ρ, hm, (Post.bind hp).imp fun d S1 H1 s1 h1 => ?_⟩
  cases d with
  | true => exact ⟨S1, ρ, hm.step s1, h1⟩
  | false => exact ⟨S1, ρ, hm.step s1, h1⟩
end
end Da
namespace Da
open PySem PySem.Spec L2
/-! ### operators, by what they do to data -/
def dI (c : Int → Int → Bool) (g : Int → Int → Int) : D → D → Res D
  | .int i, .int j => if c i j = true then .ok (.int (g i j)) else .er
  | _, _ => .er
def dP (p : Int → Int → Bool) : D → D → Res D
  | .int i, .int j => .ok (.bl (p i j))
  | _, _ => .er
def yes2 (_ _ : Int) : Bool := true
def mulOk (i j : Int) : Bool := stuck (i.natAbs.log2 + j.natAbs.log2 < 1000000)
theorem mulOk_yes {i j : Int} (h : i.natAbs.log2 + j.natAbs.log2 < 1000000) : mulOk i j = true := stuck_iff.mpr h
theorem mulOk_lt {i j : Int} (h : mulOk i j = true) : i.natAbs.log2 + j.natAbs.log2 < 1000000 := stuck_iff.mp h
def divOk (_ j : Int) : Bool := stuck (j ≠ 0 ∧ j.natAbs.log2 < 9000)
def modOk (_ j : Int) : Bool := decide (j ≠ 0)
def powOk (i j : Int) : Bool := stuck (0 ≤ j ∧ j ≤ 1000000 ∧ i.natAbs < 18446744073709551616)
def shrOk (_ j : Int) : Bool := decide (0 ≤ j)
section
variable {K : PySem.W.Frag} {mg : Str → Option Value} {E : XK} {S S' H H' : Hp}
theorem opd_I {C : Int → Int → Prop} {g : Int → Int → Int} {c : Int → Int → Bool} (hc : ∀ i j, c i j = true → C i j) : OpD K mg .sh (rI C fun i j => .int (g i j)) (dI c g) := by
  intro E S H x y dx dy Q hs rx ry h
  cases dx with
  | int i =>
    cases dy with
    | int j =>
      simp only [dI] at h
      split at h
      · rename_i hcc
        cases rx; cases ry
        exact ⟨i, j, rfl, rfl, hc i j hcc, h.val hs (.int _)⟩
      · exact h.elim
    | _ => exact h.elim
  | _ => exact h.elim
theorem opd_I0 {g : Int → Int → Int} : OpD K mg .sh (rI0 fun i j => .int (g i j)) (dI yes2 g) := by
  intro E S H x y dx dy Q hs rx ry h
  cases dx with
  | int i =>
    cases dy with
    | int j =>
      cases rx; cases ry
      exact ⟨i, j, rfl, rfl, Post.val h hs (.int _)⟩
    | _ => exact h.elim
  | _ => exact h.elim
theorem opd_P {p : Int → Int → Bool} : OpD K mg .sh (rI0 fun i j => .bl (p i j)) (dP p) := by
  intro E S H x y dx dy Q hs rx ry h
  cases dx with
  | int i =>
    cases dy with
    | int j =>
      cases rx; cases ry
      exact ⟨i, j, rfl, rfl, Post.val h hs (.bl _)⟩
    | _ => exact h.elim
  | _ => exact h.elim
end
section
variable {X : Cx}
def CDivX (_ j : Int) : Prop := j ≠ 0 ∧ j.natAbs.log2 < 9000
theorem op_fdivX : OpR X (binaryOp .FloorDiv) (rI CDivX fun i j => .int (i.fdiv j)) :=
  opI fun _ _ _ _ _ _ _ hc q => PyProof.Rows.floordiv_int hc.1 q (.inl (PyProof.noPylong_of_log2 hc.2))
end
section
variable {X : Cx} {E : WX} {m : Mds} {md : Md} {a b : Expr} {es : List Expr} {fa fb : Env → Res D} {pos : Pos}
def dSub := dI yes2 (fun i j => i - j)
def dMul := dI mulOk (fun i j => i * j)
def dDiv := dI divOk (fun i j => i.fdiv j)
def dMod := dI modOk (fun i j => i.fmod j)
def dPow := dI powOk (fun i j => i ^ j.toNat)
def dShl := dI powOk (fun i j => i * 2 ^ j.toNat)
def dShr := dI shrOk (fun i j => i / 2 ^ j.toNat)
def dBitAnd := dI yes2 (fun i j => Builtin.bitAnd i j)
def dBitOr := dI yes2 (fun i j => Builtin.bitOr i j)
def dBitXor := dI yes2 (fun i j => Builtin.bitXor i j)
def dLt := dP (fun i j => decide (i < j))
def dLe := dP (fun i j => decide (i ≤ j))
def dGt := dP (fun i j => decide (j < i))
def dGe := dP (fun i j => decide (j ≤ i))
theorem je_sub (ha : JE X E m .sh a fa) (hb : JE X E m .sh b fb) : JE X E m .sh (.BinOp a .Sub b pos) (f2 dSub fa fb) := je_op op_sub opd_I0 ha hb
theorem je_mulI (ha : JE X E m .sh a fa) (hb : JE X E m .sh b fb) : JE X E m .sh (.BinOp a .Mult b pos) (f2 dMul fa fb) := je_op op_mulW (opd_I fun i j h => mulOk_lt h) ha hb
theorem je_div (ha : JE X E m .sh a fa) (hb : JE X E m .sh b fb) : JE X E m .sh (.BinOp a .FloorDiv b pos) (f2 dDiv fa fb) := je_op op_fdivX (opd_I fun i j h => stuck_iff.mp h) ha hb
theorem je_mod (ha : JE X E m .sh a fa) (hb : JE X E m .sh b fb) : JE X E m .sh (.BinOp a .Mod b pos) (f2 dMod fa fb) := je_op op_modN (opd_I fun i j h => of_decide_eq_true h) ha hb
theorem powOk_ok {i j : Int} (h : powOk i j = true) : CPow i j := by
  obtain ⟨h1, h2, h3⟩ := stuck_iff.mp h
  exact ⟨h1, h2, by
    show i.natAbs < 2 ^ 64
    omega⟩
theorem je_pow (ha : JE X E m .sh a fa) (hb : JE X E m .sh b fb) : JE X E m .sh (.BinOp a .Pow b pos) (f2 dPow fa fb) := je_op op_pow (opd_I fun i j h => powOk_ok h) ha hb
theorem je_shl (ha : JE X E m .sh a fa) (hb : JE X E m .sh b fb) : JE X E m .sh (.BinOp a .LShift b pos) (f2 dShl fa fb) := je_op op_shl (opd_I fun i j h => powOk_ok h) ha hb
theorem je_shr (ha : JE X E m .sh a fa) (hb : JE X E m .sh b fb) : JE X E m .sh (.BinOp a .RShift b pos) (f2 dShr fa fb) := je_op op_shr (opd_I fun i j h => of_decide_eq_true h) ha hb
theorem je_bitand (ha : JE X E m .sh a fa) (hb : JE X E m .sh b fb) : JE X E m .sh (.BinOp a .BitAnd b pos) (f2 dBitAnd fa fb) := je_op op_and opd_I0 ha hb
theorem je_bitor (ha : JE X E m .sh a fa) (hb : JE X E m .sh b fb) : JE X E m .sh (.BinOp a .BitOr b pos) (f2 dBitOr fa fb) := je_op op_or opd_I0 ha hb
theorem je_bitxor (ha : JE X E m .sh a fa) (hb : JE X E m .sh b fb) : JE X E m .sh (.BinOp a .BitXor b pos) (f2 dBitXor fa fb) := je_op op_xor opd_I0 ha hb
def dNeg : D → Res D
  | .int i => .ok (.int (-i))
  | _ => .er
theorem je_neg (ha : JE X E m .sh a fa) : JE X E m .sh (.UnaryOp .USub a pos) (f1 dNeg fa) := je_un un_neg (fun E S H x dx Q hs rx h => by
  cases dx with
  | int i =>
    cases rx
    exact ⟨i, rfl, Post.val h hs (.int _)⟩
  | _ => exact h.elim) ha
/-! comparisons of whole numbers -/
theorem jt_lt (ha : JE X E m .sh a fa) (hb : JE X E m .sh b fb) : JT X E m (.Compare a [.Lt] [b] pos) (fB (f2 dLt fa fb)) := jt_cmp op_lt opd_P ha hb (nomark _)
theorem jt_le (ha : JE X E m .sh a fa) (hb : JE X E m .sh b fb) : JT X E m (.Compare a [.LtE] [b] pos) (fB (f2 dLe fa fb)) := jt_cmp op_le opd_P ha hb (nomark _)
theorem jt_gt (ha : JE X E m .sh a fa) (hb : JE X E m .sh b fb) : JT X E m (.Compare a [.Gt] [b] pos) (fB (f2 dGt fa fb)) := jt_cmp op_gt opd_P ha hb (nomark _)
theorem jt_ge (ha : JE X E m .sh a fa) (hb : JE X E m .sh b fb) : JT X E m (.Compare a [.GtE] [b] pos) (fB (f2 dGe fa fb)) := jt_cmp op_ge opd_P ha hb (nomark _)
theorem je_lt (ha : JE X E m .sh a fa) (hb : JE X E m .sh b fb) : JE X E m .sh (.Compare a [.Lt] [b] pos) (f2 dLt fa fb) := je_cmp op_lt opd_P ha hb (nomark _)
theorem je_le (ha : JE X E m .sh a fa) (hb : JE X E m .sh b fb) : JE X E m .sh (.Compare a [.LtE] [b] pos) (f2 dLe fa fb) := je_cmp op_le opd_P ha hb (nomark _)
theorem je_gt (ha : JE X E m .sh a fa) (hb : JE X E m .sh b fb) : JE X E m .sh (.Compare a [.Gt] [b] pos) (f2 dGt fa fb) := je_cmp op_gt opd_P ha hb (nomark _)
theorem je_ge (ha : JE X E m .sh a fa) (hb : JE X E m .sh b fb) : JE X E m .sh (.Compare a [.GtE] [b] pos) (f2 dGe fa fb) := je_cmp op_ge opd_P ha hb (nomark _)
end
/-! ### + of all kinds -/
def szOk (n : Nat) : Bool := stuck (n ≤ 1000000)
theorem szOk_yes {n : Nat} (h : n ≤ 1000000) : szOk n = true := stuck_iff.mpr h
theorem szOk_le {n : Nat} (h : szOk n = true) : n ≤ 1000000 := stuck_iff.mp h
theorem szOk_ok {n : Nat} (h : szOk n = true) : n ≤ sizeLine := by
  have := szOk_le h
  rw [sizeLine_eq]; omega
def dAdd : D → D → Res D
  | .int i, .int j => .ok (.int (i + j))
  | .lst a, .lst b => if szOk (a.length + b.length) = true then .ok (.lst (a ++ b)) else .er
  | .tup a, .tup b => if szOk (a.length + b.length) = true then .ok (.tup (a ++ b)) else .er
  | .str a, .str b => if szOk (a.length + b.length) = true then .ok (.str (a ++ b)) else .er
  | _, _ => .er
def dAddL : D → D → Res D
  | .lst a, .lst b => if szOk (a.length + b.length) = true then .ok (.lst (a ++ b)) else .er
  | _, _ => .er
abbrev rStrAdd : R2 := fun x y H Q => ∃ i j, x = .str i ∧ y = .str j ∧ i.length + j.length ≤ sizeLine ∧ Q (.str (i ++ j)) H
def rAddAll (K : PySem.W.Frag) : R2 := fun x y H Q => ((rI0 fun i j => .int (i + j)) x y H Q ∨ rCat x y H Q) ∨ (rCatA K x y H Q ∨ rStrAdd x y H Q)
section
variable {K : PySem.W.Frag} {mg : Str → Option Value} {X : Cx} {E : WX} {m : Mds} {md : Md} {a b : Expr} {es : List Expr} {fa fb : Env → Res D} {pos : Pos}
theorem op_addAll : OpR X (binaryOp .Add) (rAddAll X.K) := OpR.or (OpR.or op_add op_cat) (OpR.or op_catA op_add_str)
theorem Post.lstOf {md : Md} {E : XK} {S H : Hp} {ds : List D} {c : Bool} {Q : VK} (hmd : md = .sh ∨ md = .ow) (h : Post K mg E S H md (if c = true then .ok (.lst ds) else .er) Q) : c = true ∧ Post K mg E S H md (.ok (.lst ds)) Q := by
  split at h
  · rename_i hc; exact ⟨hc, h⟩
  · exact h.elim
theorem Post.of_if {md : Md} {E : XK} {S H : Hp} {r : Res D} {c : Bool} {Q : VK} (h : Post K mg E S H md (if c = true then r else .er) Q) : c = true ∧ Post K mg E S H md r Q := by
  split at h
  · rename_i hc; exact ⟨hc, h⟩
  · exact h.elim
theorem RepL.nil_iff {S : Hp} {vs : List V} {ds : List D} (r : RepL K mg S vs ds) : vs = [] ↔ ds = [] := by
  have := r.len
  constructor
  · intro h; subst h; exact List.eq_nil_of_length_eq_zero this.symm
  · intro h; subst h; exact List.eq_nil_of_length_eq_zero this
theorem catL {E : XK} {S H : Hp} {x y : V} {da db : List D} {Q : VK} (hmd : md = .sh ∨ md = .ow) (hs : Same S H) (rx : Rep K mg S x (.lst da)) (ry : Rep K mg S y (.lst db)) (h : Post K mg E S H md (if szOk (da.length + db.length) = true then .ok (.lst (da ++ db)) else .er) Q) : rCat x y H Q := by
  obtain ⟨hz, h⟩ := h.of_if
  obtain ⟨a, vs, rfl, ha, ra⟩ := rx.of_lst
  obtain ⟨b, ws, rfl, hb, rb⟩ := ry.of_lst
  exact ⟨a, b, vs, ws, rfl, rfl, hs _ _ ha, hs _ _ hb, by rw [ra.len, rb.len]; exact szOk_ok hz, fun p hp => h.list hmd hs (ra.append rb) hp⟩
theorem opd_add : OpD K mg .sh (rAddAll K) dAdd := by
  intro E S H x y dx dy Q hs rx ry h
  cases dx with
  | int i =>
    cases dy with
    | int j =>
      cases rx; cases ry
      exact .inl (.inl ⟨i, j, rfl, rfl, Post.val h hs (.int _)⟩)
    | _ => exact h.elim
  | str i =>
    cases dy with
    | str j =>
      obtain ⟨hz, h⟩ := Post.of_if h
      cases rx; cases ry
      exact .inr (.inr ⟨i, j, rfl, rfl, szOk_ok hz, Post.val h hs (.str _)⟩)
    | _ => exact h.elim
  | lst da =>
    cases dy with
    | lst db => exact .inl (.inr (catL (.inl rfl) hs rx ry h))
    | _ => exact h.elim
  | tup da =>
    cases dy with
    | tup db =>
      obtain ⟨hz, h⟩ := Post.of_if h
      obtain ⟨a, vs, rfl, ha, ra⟩ := rx.of_tup
      obtain ⟨b, ws, rfl, hb, rb⟩ := ry.of_tup
      refine .inr (.inl ⟨a, b, vs, ws, rfl, rfl, same_t hs ha, same_t hs hb, by rw [ra.len, rb.len]; exact szOk_ok hz, fun e => ?_, fun e1 e2 => ?_, fun _ _ p hp => h.tup hs (ra.append rb) hp⟩)
      · have e' := ra.nil_iff.mp e
        subst e'
        exact h.val hs ry
      · have e' := rb.nil_iff.mp e2
        subst e'
        rw [List.append_nil] at h
        exact h.val hs rx
    | _ => exact h.elim
  | _ => exact h.elim
theorem opd_addL : OpD K mg .ow (rAddAll K) dAddL := by
  intro E S H x y dx dy Q hs rx ry h
  cases dx with
  | lst da =>
    cases dy with
    | lst db => exact .inl (.inr (catL (.inr rfl) hs rx ry h))
    | _ => exact h.elim
  | _ => exact h.elim
theorem je_add (ha : JE X E m .sh a fa) (hb : JE X E m .sh b fb) : JE X E m .sh (.BinOp a .Add b pos) (f2 dAdd fa fb) := je_op op_addAll opd_add ha hb
theorem je_addL (ha : JE X E m .sh a fa) (hb : JE X E m .sh b fb) : JE X E m .ow (.BinOp a .Add b pos) (f2 dAddL fa fb) := je_op op_addAll opd_addL ha hb
end
/-! ### an item by its place -/
def dIx : D → D → Res D
  | .lst xs, .int i => match atI xs i with
    | some d => .ok d
    | none => .er
  | .frl xs, .int i => match atI xs i with
    | some d => .ok d
    | none => .er
  | .tup xs, .int i => match atI xs i with
    | some d => .ok d
    | none => .er
  | .str x, .int i => if szOk x.length = true then (match atI x.cps.toList i with
    | some c => .ok (.str ⟨#[c]⟩)
    | none => .er) else .er
  | _, _ => .er
section
variable {K : PySem.W.Frag} {mg : Str → Option Value} {X : Cx} {E : WX} {m : Mds} {md : Md} {a b : Expr} {es : List Expr} {fa fb : Env → Res D} {pos : Pos}
theorem RepL.atI {S : Hp} {vs : List V} {ds : List D} {i : Int} {d : D} (r : RepL K mg S vs ds) (h : L2.atI ds i = some d) : ∃ v, L2.atI vs i = some v ∧ Rep K mg S v d := by
  unfold L2.atI at h ⊢
  rw [r.len]
  cases e : ixN ds.length i with
  | none => rw [e] at h; cases h
  | some j =>
    rw [e] at h
    exact r.get h
theorem opd_ix : OpD K mg .sh (rIx K) dIx := by
  intro E S H x y dx dy Q hs rx ry h
  cases dx with
  | lst xs =>
    cases dy with
    | int i =>
      cases ry
      simp only [dIx] at h
      split at h
      · rename_i d e
        obtain ⟨p, vs, rfl, hp, rv⟩ := rx.of_lst
        obtain ⟨v, ev, r⟩ := rv.atI e
        exact .inl ⟨p, vs, i, v, rfl, rfl, .inl (.inl (hs _ _ hp)), ev, h.val hs r⟩
      · exact h.elim
    | _ => exact h.elim
  | frl xs =>
    cases dy with
    | int i =>
      cases ry
      simp only [dIx] at h
      split at h
      · rename_i d e
        obtain ⟨p, vs, rfl, hp, rv⟩ := rx.of_frl
        obtain ⟨v, ev, r⟩ := rv.atI e
        exact .inl ⟨p, vs, i, v, rfl, rfl, same_l hs hp, ev, h.val hs r⟩
      · exact h.elim
    | _ => exact h.elim
  | tup xs =>
    cases dy with
    | int i =>
      cases ry
      simp only [dIx] at h
      split at h
      · rename_i d e
        obtain ⟨p, vs, rfl, hp, rv⟩ := rx.of_tup
        obtain ⟨v, ev, r⟩ := rv.atI e
        exact .inr (.inl ⟨p, vs, i, v, rfl, rfl, same_t hs hp, ev, h.val hs r⟩)
      · exact h.elim
    | _ => exact h.elim
  | str z =>
    cases dy with
    | int i =>
      cases ry
      simp only [dIx] at h
      obtain ⟨hz, h⟩ := Post.of_if h
      split at h
      · rename_i c e
        cases rx
        exact .inr (.inr ⟨z, i, c, rfl, rfl, szOk_ok hz, e, h.val hs (.str _)⟩)
      · exact h.elim
    | _ => exact h.elim
  | _ => exact h.elim
theorem je_item (ha : JE X E m .sh a fa) (hb : JE X E m .sh b fb) (hs : PlainIx b := by intro _ _; rfl) : JE X E m .sh (.Subscript a b pos) (f2 dIx fa fb) := je_ix ix_seq opd_ix ha hb hs
end
/-! ### built-ins, called by name -/
section
variable {K : PySem.W.Frag} {mg : Str → Option Value} {X : Cx} {E : WX} {m : Mds} {md : Md} {a b e : Expr} {es : List Expr} {fa fb : Env → Res D} {fs : Env → Res (List D)} {pos p : Pos} {x : Str} {id T : String} {r : List V → Hp → VK → Prop} {g : List D → Res D}
theorem call1 {K : PySem.W.Frag} {mg : Str → Option Value} (hr : CallD K mg md r g) {σ : L2.St} {H : Hp} {Q : VK} (h : tE K mg E m md (fOn g fs) σ H Q) : tCB r (tA K mg E m fs) σ H Q := by
  obtain ⟨S, ρ, hm, hp⟩ := h
  exact ⟨S, ρ, hm, (Post.bind hp).imp fun ds S1 H1 s1 h1 vs rs => hr _ S1 H1 vs ds Q s1.sub rs h1⟩
theorem je_callB (hc : CallR X (.builtin id) r) (hr : CallD X.K X.mg md r g) (hm : X.mg x = none) (ha : JA X E m (e :: es) fs) (hg : Gl X x := by rfl) (hv : bootBuiltins x = some (.builtin id) := by decide +kernel)
    (hn : x ≠ "__name__" := by decide) (hdb : (x == ("__debug__" : Str)) = false := by decide) (he : starEach (e :: es) X.env = (false, eval e X.env) :: starEach es X.env := by rfl) (hpl : (backTo pos (starEach es X.env)).any (·.1) = false := by rfl) :
    JE X E m md (.Call (.Name x p) (e :: es) [] pos) (fOn g fs) := ⟨PEimp (pe_callB hc hg hm hv ha.pa hn hdb he hpl) fun σ H Q h => call1 hr h⟩
theorem je_callTy (hc : CallR X (.type T) r) (hr : CallD X.K X.mg md r g) (hm : X.mg x = none) (ha : JA X E m (e :: es) fs) (hg : Gl X x := by rfl) (hv : bootBuiltins x = some (.type T) := by decide +kernel)
    (hn : x ≠ "__name__" := by decide) (hdb : (x == ("__debug__" : Str)) = false := by decide) (he : starEach (e :: es) X.env = (false, eval e X.env) :: starEach es X.env := by rfl) (hpl : (backTo pos (starEach es X.env)).any (·.1) = false := by rfl) :
    JE X E m md (.Call (.Name x p) (e :: es) [] pos) (fOn g fs) := ⟨PEimp (pe_callTy hc hg hm hv ha.pa hn hdb he hpl) fun σ H Q h => call1 hr h⟩
end
end Da
namespace Da
open PySem PySem.Spec L2
/-! ### statements: what a run of a block ends with -/
inductive Fl where
  | nx (ρ : Env) | rt (d : D) | bk (ρ : Env) | ct (ρ : Env) | xc (c : Str) (fs : List (Str × D)) (ρ : Env)
abbrev FS := Env → Res Fl
/-- an expression's end, in a statement -/
def lift {α : Type} (r : Res α) (ρ : Env) (k : α → Res Fl) : Res Fl := match r with
  | .ok a => k a
  | .ex c fs => .ok (.xc c fs ρ)
  | .er => .er
@[simp] theorem lift_ok {α : Type} (a : α) (ρ : Env) (k : α → Res Fl) : lift (.ok a) ρ k = k a := rfl
@[simp] theorem lift_ex {α : Type} (c : Str) (fs : List (Str × D)) (ρ : Env) (k : α → Res Fl) : lift (.ex c fs : Res α) ρ k = .ok (.xc c fs ρ) := rfl
@[simp] theorem lift_er {α : Type} (ρ : Env) (k : α → Res Fl) : lift (.er : Res α) ρ k = .er := rfl
section
variable {K : PySem.W.Frag} {mg : Str → Option Value} {m m1 m2 : Mds} {S0 H0 S S1 S' H H' H1 : Hp} {σ σ' : L2.St} {ρ : Env} {F : Nat → List Addr}
/-- the state of a body that was entered with the view S0 of H0 -/
def StF (K : PySem.W.Frag) (mg : Str → Option Value) (m : Mds) (S0 H0 S : Hp) (F : Nat → List Addr) (σ : L2.St) (ρ : Env) (H : Hp) : Prop :=
  Step S0 H0 S H ∧ EnvF K mg m F S H σ ρ ∧ ∀ i d, ρ[i]? = some (some d) → ∀ a, a ∈ F i → H0 a = none
def StM (K : PySem.W.Frag) (mg : Str → Option Value) (m : Mds) (S0 H0 : Hp) (σ : L2.St) (ρ : Env) (H : Hp) : Prop := ∃ S F, StF K mg m S0 H0 S F σ ρ H
theorem StF.envM (h : StF K mg m S0 H0 S F σ ρ H) : EnvM K mg m S H σ ρ := ⟨h.1.sub, F, h.2.1⟩
theorem StF.step (h : StF K mg m S0 H0 S F σ ρ H) (s : Step S H S' H') : StF K mg m S0 H0 S' F σ ρ H' := ⟨h.1.trans s, h.2.1.step s, h.2.2⟩
/-- the entry moved to the present view, and back -/
theorem Step.fwd (h : Step S0 H0 S H) : Step S H0 S H := ⟨h.hh, Same.refl _, h.sub, fun _ x => .inl x⟩
theorem Step.back (h : Step S0 H0 S H) (k : Step S H0 S' H') : Step S0 H0 S' H' := ⟨k.hh, h.ss.trans k.ss, k.sub, fun a x => by
  rcases k.new a x with z | z
  · exact h.new a z
  · exact .inr z⟩
/-- a value handed out of a body -/
def RetOk (K : PySem.W.Frag) (mg : Str → Option Value) (S0 H0 : Hp) (md : Md) (d : D) (v : V) (H : Hp) : Prop := ∃ S fp, Step S0 H0 S H ∧ OwnAt K mg S H fp v d md ∧ fp.Nodup ∧ ∀ a, a ∈ fp → H0 a = none
/-- the ends of the loop around, what a return hands out -/
structure Lp where
  mb : Mds := []
  mc : Mds := []
  md : Md := .sh
/-- all slots shared -/
def SPost (K : PySem.W.Frag) (mg : Str → Option Value) (E : WX) (L : Lp) (S0 H0 : Hp) (m' : Mds) (o : Res Fl) (Dn : Ends) : Prop := match o with
  | .ok (.nx ρ) => ∀ σ H, StM K mg m' S0 H0 σ ρ H → Dn.nx σ H
  | .ok (.rt d) => ∀ v H, RetOk K mg S0 H0 L.md d v H → Dn.rt v H
  | .ok (.bk ρ) => ∀ σ H, StM K mg L.mb S0 H0 σ ρ H → Dn.bk σ H
  | .ok (.ct ρ) => ∀ σ H, StM K mg L.mc S0 H0 σ ρ H → Dn.ct σ H
  | .ok (.xc c fs ρ) => ∀ σ S F H cls dd, StF K mg [] S0 H0 S F σ ρ H → ExcAt K mg S H cls dd c fs → E cls dd σ H
  | .ex _ _ => False
  | .er => False
def tS (K : PySem.W.Frag) (mg : Str → Option Value) (E : WX) (L : Lp) (m m' : Mds) (F : FS) : TS := fun Dn σ H => ∃ S0 H0 ρ, StM K mg m S0 H0 σ ρ H ∧ SPost K mg E L S0 H0 m' (F ρ) Dn
/-! slots let go of what is theirs -/
/-- what lies at the addresses A is taken into the view -/
noncomputable def take (S H : Hp) (A : Addr → Prop) : Hp := open Classical in fun a => if A a then H a else S a
theorem take_in {A : Addr → Prop} {a : Addr} (h : A a) : take S H A a = H a := by unfold take; rw [if_pos h]
theorem take_out {A : Addr → Prop} {a : Addr} (h : ¬ A a) : take S H A a = S a := by unfold take; rw [if_neg h]
theorem take_same {A : Addr → Prop} (h : Same S H) (ho : ∀ a, A a → S a = none) : Same S (take S H A) := fun a o e => by
  rw [take_out (fun z => by rw [ho a z] at e; cases e)]
  exact e
theorem take_sub {A : Addr → Prop} (h : Same S H) : Same (take S H A) H := fun a o e => by
  by_cases z : A a
  · rw [take_in z] at e; exact e
  · rw [take_out z] at e; exact h a o e
theorem OwnAt.shared {A : Addr → Prop} {fp : List Addr} {v : V} {d : D} {md : Md} (h : OwnAt K mg S H fp v d md) (hs : Same S H) (ho : ∀ a, A a → S a = none) (hA : ∀ a, a ∈ fp → A a) : Rep K mg (take S H A) v d := by
  have ss := take_same (A := A) hs ho
  cases md with
  | ex a0 b0 c0 =>
    obtain ⟨c, vfs, ds, e1, e2, e3, e4, e5, e6⟩ := h
    rw [e1, e2]; exact .exc
  | sh => exact h.1.mono ss
  | ow =>
    obtain ⟨p, vs, ds, rfl, rfl, e3, e4, e5, e6⟩ := h
    exact Rep.lstL (by rw [take_in (hA p (by rw [e3]; exact List.mem_cons_self))]; exact e5) (e6.mono ss)
  | ow2 =>
    obtain ⟨p, ps, dss, rfl, rfl, e3, e4, e5, e6, e7⟩ := h
    refine Rep.lstL (vs := ps.map V.ref) (by rw [take_in (hA p (by rw [e3]; exact List.mem_cons_self))]; exact e5) ⟨by rw [List.length_map, List.length_map, e6], fun i v d a b => ?_⟩
    rw [List.getElem?_map] at a b
    cases ea : ps[i]? with
    | none => rw [ea] at a; cases a
    | some q =>
      cases eb : dss[i]? with
      | none => rw [eb] at b; cases b
      | some ds =>
        rw [ea] at a; rw [eb] at b
        cases a; cases b
        obtain ⟨z1, vs, z2, z3⟩ := e7 i q ds ea eb
        exact Rep.lstL (by rw [take_in (hA q (by rw [e3]; exact List.mem_cons_of_mem _ (List.mem_of_getElem? ea)))]; exact z2) (z3.mono ss)
  | dk =>
    obtain ⟨p, kvs, ds, rfl, rfl, e3, e4, e5, e6⟩ := h
    have e6' := e6.mono ss
    refine Rep.dic (by rw [take_in (hA p (by rw [e3]; exact List.mem_cons_self))]; exact e5) (by have := e6.len; rw [List.length_map] at this; exact this) fun i q d a b => ?_
    exact e6'.at_ i q.2 d (by rw [List.getElem?_map, a]; rfl) b
  | dt =>
    obtain ⟨p, kvs, ds, rfl, rfl, e3, e4, e5, e6⟩ := h
    have e6' := e6.mono ss
    refine Rep.dit (by rw [take_in (hA p (by rw [e3]; exact List.mem_cons_self))]; exact e5) (by have := e6.len; rw [List.length_map] at this; exact this) fun i q d a b => ?_
    exact e6'.at_ i q.2 d (by rw [List.getElem?_map, a]; rfl) b
  | ob p =>
    obtain ⟨dx, C, c, fs, ds, rfl, rfl, e3, e4, e5, e6, e7, e8, e9⟩ := h
    have e9' := e9.mono ss
    refine Rep.obj (by rw [take_in (hA p (by rw [e3]; exact List.mem_cons_self))]; exact e7) e6 (by have := e9.len; rw [List.length_map] at this; exact this) fun i q d a b => ?_
    exact e9'.at_ i q.2 d (by rw [List.getElem?_map, a]; rfl) b
/-- an owner whose addresses are not taken stays -/
theorem OwnAt.stays {A : Addr → Prop} {fp : List Addr} {v : V} {d : D} {md : Md} (h : OwnAt K mg S H fp v d md) (hs : Same S H) (ho : ∀ a, A a → S a = none) (hA : ∀ a, a ∈ fp → ¬ A a) : OwnAt K mg (take S H A) H fp v d md := by
  have ss := take_same (A := A) hs ho
  cases md with
  | ex a0 b0 c0 =>
    obtain ⟨c, vfs, ds, e1, e2, e3, e4, e5, e6⟩ := h
    refine ⟨c, vfs, ds, e1, e2, e3, e4, e5.imp id fun ⟨dx, y1, y2⟩ => ⟨dx, y1, ss _ _ y2⟩, e6.mono (ss)⟩
  | sh => exact ⟨h.1.mono ss, h.2⟩
  | ow =>
    obtain ⟨p, vs, ds, e1, e2, e3, e4, e5, e6⟩ := h
    exact ⟨p, vs, ds, e1, e2, e3, by rw [take_out (hA p (by rw [e3]; exact List.mem_cons_self))]; exact e4, e5, e6.mono ss⟩
  | ow2 =>
    obtain ⟨p, ps, dss, e1, e2, e3, e4, e5, e6, e7⟩ := h
    refine ⟨p, ps, dss, e1, e2, e3, by rw [take_out (hA p (by rw [e3]; exact List.mem_cons_self))]; exact e4, e5, e6, fun j q ds x y => ?_⟩
    obtain ⟨z1, vs, z2, z3⟩ := e7 j q ds x y
    exact ⟨by rw [take_out (hA q (by rw [e3]; exact List.mem_cons_of_mem _ (List.mem_of_getElem? x)))]; exact z1, vs, z2, z3.mono ss⟩
  | dk =>
    obtain ⟨p, vs, ds, e1, e2, e3, e4, e5, e6⟩ := h
    exact ⟨p, vs, ds, e1, e2, e3, by rw [take_out (hA p (by rw [e3]; exact List.mem_cons_self))]; exact e4, e5, e6.mono ss⟩
  | dt =>
    obtain ⟨p, vs, ds, e1, e2, e3, e4, e5, e6⟩ := h
    exact ⟨p, vs, ds, e1, e2, e3, by rw [take_out (hA p (by rw [e3]; exact List.mem_cons_self))]; exact e4, e5, e6.mono ss⟩
  | ob p =>
    obtain ⟨dx, C, c, fs, ds, e1, e2, e3, e4, e5, e6, e7, e8, e9⟩ := h
    exact ⟨dx, C, c, fs, ds, e1, e2, e3, by rw [take_out (hA p (by rw [e3]; exact List.mem_cons_self))]; exact e4, by rw [take_out (hA dx (by rw [e3]; exact List.mem_cons_of_mem _ List.mem_cons_self))]; exact e5, e6, e7, e8, e9.mono ss⟩
/-- m1 has no more of one's own than m -/
def Weak (m m1 : Mds) : Prop := ∀ i, mdAt m1 i = mdAt m i ∨ mdAt m1 i = .sh
theorem mdAt_rep {n i : Nat} : mdAt (List.replicate n .sh) i = .sh := by
  unfold mdAt
  rw [List.getD_eq_getElem?_getD, List.getElem?_replicate]
  split <;> rfl
theorem weak_sh {m : Mds} (n : Nat) : Weak m (List.replicate n .sh) := fun i => .inr mdAt_rep
theorem Weak.nil (m : Mds) : Weak m [] := fun i => .inr (by unfold mdAt; simp)
theorem Weak.refl (m : Mds) : Weak m m := fun i => .inl rfl
theorem Weak.of : ∀ {m m1 : Mds}, (m.length = m1.length ∧ (m.zip m1).all (fun p => decide (p.2 = p.1) || decide (p.2 = .sh)) = true) → Weak m m1 := by
  intro m m1 h i
  obtain ⟨hl, h⟩ := h
  unfold mdAt
  by_cases hi : i < m.length
  · have hi1 : i < m1.length := by omega
    have := List.all_eq_true.mp h (m[i], m1[i]) (by
      refine List.mem_iff_getElem.mpr ⟨i, by rw [List.length_zip]; omega, ?_⟩
      rw [List.getElem_zip])
    rw [List.getD_eq_getElem?_getD, List.getD_eq_getElem?_getD, List.getElem?_eq_getElem hi, List.getElem?_eq_getElem hi1]
    rcases Bool.or_eq_true_iff.mp this with z | z
    · exact .inl (of_decide_eq_true z)
    · exact .inr (of_decide_eq_true z)
  · refine .inr ?_
    rw [List.getD_eq_getElem?_getD, List.getElem?_eq_none_iff.mpr (by omega)]
    rfl
theorem StF.weak (w : Weak m m1) (h : StF K mg m S0 H0 S F σ ρ H) : ∃ S' F', StF K mg m1 S0 H0 S' F' σ ρ H ∧ Same S S' := by
  obtain ⟨st, e, nw⟩ := h
  let A : Addr → Prop := fun a => ∃ i d, ρ[i]? = some (some d) ∧ mdAt m1 i = .sh ∧ a ∈ F i
  have ho : ∀ a, A a → S a = none := fun a ⟨i, d, e1, _, e3⟩ => by
    obtain ⟨v, _, o⟩ := e.at_ i d e1
    exact (o.out e3).1
  let F' : Nat → List Addr := fun i => if mdAt m1 i = .sh then [] else F i
  refine ⟨take S H A, F', ⟨⟨st.hh, st.ss.trans (take_same st.sub ho), take_sub st.sub, fun a x => ?_⟩, ⟨e.len, fun i d e1 => ?_, fun i d e1 => ?_, fun i j d d' hij e1 e2 a ha => ?_⟩, fun i d e1 a ha => ?_⟩, take_same st.sub ho⟩
  · by_cases z : A a
    · obtain ⟨i, d, e1, _, e3⟩ := z
      exact .inr (nw i d e1 a e3)
    · rw [take_out z] at x
      exact st.new a x
  · obtain ⟨v, e2, o⟩ := e.at_ i d e1
    refine ⟨v, e2, ?_⟩
    by_cases hsh : mdAt m1 i = .sh
    · rw [hsh]
      refine ⟨o.shared st.sub ho fun a ha => ⟨i, d, e1, hsh, ha⟩, ?_⟩
      show (if mdAt m1 i = .sh then [] else F i) = []
      rw [if_pos hsh]
    · rcases w i with z | z
      · rw [z]
        have : F' i = F i := if_neg hsh
        rw [this]
        refine o.stays st.sub ho fun a ha ⟨j, d', e1', e3', e4'⟩ => ?_
        by_cases hij : i = j
        · subst hij; exact hsh e3'
        · exact e.apart i j d d' hij e1 e1' a ha e4'
      · exact absurd z hsh
  · show (if mdAt m1 i = .sh then [] else F i).Nodup
    split
    · exact List.nodup_nil
    · exact e.nd i d e1
  · have ha' : a ∈ (if mdAt m1 i = .sh then [] else F i) := ha
    show a ∉ (if mdAt m1 j = .sh then [] else F j)
    split at ha'
    · cases ha'
    · split
      · exact fun z => nomatch z
      · exact e.apart i j d d' hij e1 e2 a ha'
  · have ha' : a ∈ (if mdAt m1 i = .sh then [] else F i) := ha
    split at ha'
    · cases ha'
    · exact nw i d e1 a ha'
theorem StM.weak (w : Weak m m1) (h : StM K mg m S0 H0 σ ρ H) : StM K mg m1 S0 H0 σ ρ H := by
  obtain ⟨S, F, h⟩ := h
  obtain ⟨S', F', h', _⟩ := h.weak w
  exact ⟨S', F', h'⟩
/-! a slot is stored -/
def F_set (F : Nat → List Addr) (i : Nat) (fp : List Addr) : Nat → List Addr := fun j => if j = i then fp else F j
theorem F_at {i : Nat} {fp : List Addr} : F_set F i fp i = fp := if_pos rfl
theorem F_off {i j : Nat} {fp : List Addr} (h : j ≠ i) : F_set F i fp j = F j := if_neg h
theorem mdAt_set {i j : Nat} {md : Md} (hi : i < m.length) : mdAt (m.set i md) j = if j = i then md else mdAt m j := by
  unfold mdAt
  rw [List.getD_eq_getElem?_getD, List.getElem?_set]
  by_cases h : j = i
  · rw [if_pos h.symm, if_pos h, if_pos hi]
    rfl
  · rw [if_neg (fun z => h z.symm), if_neg h, List.getD_eq_getElem?_getD]
theorem StF.set {i : Nat} {d : D} {v : V} {md : Md} {fp : List Addr} (h : StF K mg m S0 H0 S F σ ρ H) (hi : i < m.length) (o : OwnAt K mg S H fp v d md) (hn : fp.Nodup) (hf : ∀ a, a ∈ fp → H0 a = none)
    (hd : ∀ j e, j ≠ i → ρ[j]? = some (some e) → ∀ a, a ∈ F j → a ∉ fp) : StF K mg (m.set i md) S0 H0 S (F_set F i fp) (σ.set i (some v)) (ρ.set i (some d)) H := by
  obtain ⟨st, e, nw⟩ := h
  have key : ∀ j d', (ρ.set i (some d))[j]? = some (some d') → (j = i ∧ d' = d ∧ i < ρ.length) ∨ (j ≠ i ∧ ρ[j]? = some (some d')) := fun j d' ej => by
    by_cases hj : j = i
    · subst hj
      rw [List.getElem?_set, if_pos rfl] at ej
      split at ej
      · rename_i hl
        have : d = d' := by injection ej with z; injection z
        exact .inl ⟨rfl, this.symm, hl⟩
      · cases ej
    · rw [List.getElem?_set_ne (Ne.symm hj)] at ej
      exact .inr ⟨hj, ej⟩
  refine ⟨st, ⟨by rw [List.length_set, List.length_set]; exact e.len, fun j d' ej => ?_, fun j d' ej => ?_, fun j k d1 d2 hjk e1 e2 a ha => ?_⟩, fun j d' ej a ha => ?_⟩
  · rcases key j d' ej with ⟨rfl, rfl, hl⟩ | ⟨hj, ej'⟩
    · refine ⟨v, ?_, ?_⟩
      · rw [List.getElem?_set_self (by rw [← e.len]; exact hl)]
      · rw [mdAt_set hi, if_pos rfl, F_at]
        exact o
    · obtain ⟨w, e1, o1⟩ := e.at_ j d' ej'
      refine ⟨w, by rw [List.getElem?_set_ne (Ne.symm hj)]; exact e1, ?_⟩
      rw [mdAt_set hi, if_neg hj, F_off hj]
      exact o1
  · rcases key j d' ej with ⟨rfl, rfl, hl⟩ | ⟨hj, ej'⟩
    · rw [F_at]; exact hn
    · rw [F_off hj]; exact e.nd j d' ej'
  · rcases key j d1 e1 with ⟨rfl, rfl, hl⟩ | ⟨hj, ej⟩
    · rw [F_at] at ha
      rcases key k d2 e2 with ⟨z, _, _⟩ | ⟨hk, ek⟩
      · exact absurd z.symm hjk
      · rw [F_off hk]
        exact fun z => hd k d2 hk ek a z ha
    · rw [F_off hj] at ha
      rcases key k d2 e2 with ⟨rfl, _, _⟩ | ⟨hk, ek⟩
      · rw [F_at]
        exact hd j d1 hj ej a ha
      · rw [F_off hk]
        exact e.apart j k d1 d2 hjk ej ek a ha
  · rcases key j d' ej with ⟨rfl, rfl, hl⟩ | ⟨hj, ej'⟩
    · rw [F_at] at ha; exact hf a ha
    · rw [F_off hj] at ha; exact nw j d' ej' a ha
/-- a slot is forgotten -/
theorem StF.forget {i : Nat} (h : StF K mg m S0 H0 S F σ ρ H) : StF K mg m S0 H0 S F σ (ρ.set i none) H := by
  obtain ⟨st, e, nw⟩ := h
  have key : ∀ j d', (ρ.set i none)[j]? = some (some d') → ρ[j]? = some (some d') := fun j d' ej => by
    by_cases hj : j = i
    · subst hj
      rw [List.getElem?_set, if_pos rfl] at ej
      split at ej
      · cases ej
      · cases ej
    · rw [List.getElem?_set_ne (Ne.symm hj)] at ej
      exact ej
  exact ⟨st, ⟨by rw [List.length_set]; exact e.len, fun j d' ej => e.at_ j d' (key j d' ej), fun j d' ej => e.nd j d' (key j d' ej), fun j k d1 d2 hjk e1 e2 => e.apart j k d1 d2 hjk (key j d1 e1) (key k d2 e2)⟩, fun j d' ej => nw j d' (key j d' ej)⟩
end
end Da
namespace Da
open PySem PySem.Spec L2
structure JS (X : Cx) (E : WX) (L : Lp) (m m' : Mds) (st : Stmt) (F : FS) : Prop where
  ps : PS X st (tS X.K X.mg E L m m' F)
structure JSs (X : Cx) (E : WX) (L : Lp) (m m' : Mds) (st : List Stmt) (F : FS) : Prop where
  ps : PSs X st (tS X.K X.mg E L m m' F)
def fNext : FS := fun ρ => .ok (.nx ρ)
def fSeq (F G : FS) : FS := fun ρ => match F ρ with
  | .ok (.nx ρ') => G ρ'
  | o => o
def fSet (i : Nat) (f : Env → Res D) : FS := fun ρ => lift (f ρ) ρ fun d => .ok (.nx (ρ.set i (some d)))
def fRet (f : Env → Res D) : FS := fun ρ => lift (f ρ) ρ fun d => .ok (.rt d)
def fRetN : FS := fun _ => .ok (.rt .non)
def fIfS (c : Env → Res Bool) (F G : FS) : FS := fun ρ => lift (c ρ) ρ fun b => if b = true then F ρ else G ρ
def fDrop (f : Env → Res D) : FS := fun ρ => lift (f ρ) ρ fun _ => .ok (.nx ρ)
def fBrk : FS := fun ρ => .ok (.bk ρ)
def fCnt : FS := fun ρ => .ok (.ct ρ)
section
variable {K : PySem.W.Frag} {mg : Str → Option Value} {m m1 m2 : Mds} {S0 H0 S S1 S' H H' H1 : Hp} {σ σ' : L2.St} {ρ : Env} {F : Nat → List Addr} {E : WX} {L : Lp} {Dn : Ends} {α : Type}
/-- an expression in a statement -/
theorem lift_post {r : Res α} {k : α → Res Fl} (h : StF K mg m S0 H0 S F σ ρ H) (p : SPost K mg E L S0 H0 m2 (lift r ρ k) Dn) : PostW K mg (WE E σ) S H r fun a S1 H1 => SPost K mg E L S0 H0 m2 (k a) Dn := by
  cases r with
  | ok a => exact fun S1 H1 s1 => p
  | ex c fs =>
    intro S1 H1 cls dd s1 x
    obtain ⟨S2, F2, h2, ss⟩ := (h.step s1).weak (Weak.nil m)
    refine p σ S2 F2 H1 cls dd h2 ⟨x.1, ?_⟩
    rcases x.2 with z | ⟨a, vfs, e1, e2, e3, e4⟩
    · exact .inl z
    · exact .inr ⟨a, vfs, e1, ss _ _ e2, e3, e4.mono ss⟩
  | er => exact p.elim
theorem StF.stM (h : StF K mg m S0 H0 S F σ ρ H) : StM K mg m S0 H0 σ ρ H := ⟨S, F, h⟩
/-- what is handed out of a pure expression -/
theorem RetOk.of {md : Md} {fp : List Addr} {v : V} {d : D} (st : Step S0 H0 S H) (s : Step S H S1 H1) (o : OwnAt K mg S1 H1 fp v d md) (hn : fp.Nodup) (hf : ∀ a, a ∈ fp → H a = none) : RetOk K mg S0 H0 md d v H1 :=
  ⟨S1, fp, st.trans s, o, hn, fun a ha => st.hh.free (hf a ha)⟩
theorem SPost.next {ρ' : Env} (p : SPost K mg E L S0 H0 m2 (.ok (.nx ρ')) Dn) (h : StM K mg m2 S0 H0 σ ρ' H) : Dn.nx σ H := p σ H h
end
section
variable {X : Cx} {E : WX} {L : Lp} {m m1 m2 m' : Mds} {md : Md} {st : Stmt} {sts rest : List Stmt} {e a b : Expr} {f fa fb : Env → Res D} {c : Expr} {g : Env → Res Bool} {F G : FS} {pos : Pos} {x : Str}
theorem PSsimp {t t' : TS} (h : PSs X sts t) (k : ∀ D σ H, t' D σ H → t D σ H) : PSs X sts t' := ⟨fun pins s σ H D I q => h.run pins s σ H D I (k D σ H q)⟩
theorem PSimp {t t' : TS} (h : PS X st t) (k : ∀ D σ H, t' D σ H → t D σ H) : PS X st t' := ⟨fun pins s σ H D I q => h.run pins s σ H D I (k D σ H q)⟩
theorem js_nil : JSs X E L m m [] fNext := ⟨PSsimp pss_nil fun D σ H h => by
  obtain ⟨S0, H0, ρ, st, p⟩ := h
  exact p σ H st⟩
theorem seq_ok {K : PySem.W.Frag} {mg : Str → Option Value} {D : Ends} {σ : L2.St} {H : Hp} (h : tS K mg E L m m2 (fSeq F G) D σ H) : tSeq (tS K mg E L m m1 F) (tS K mg E L m1 m2 G) D σ H := by
  obtain ⟨S0, H0, ρ, st, p⟩ := h
  refine ⟨S0, H0, ρ, st, ?_⟩
  unfold fSeq at p
  cases h : F ρ with
  | ok o =>
    rw [h] at p
    cases o with
    | nx ρ' => exact fun σ' H' st' => ⟨S0, H0, ρ', st', p⟩
    | rt d => exact p
    | bk ρ' => exact p
    | ct ρ' => exact p
    | xc c fs ρ' => exact p
  | ex c fs => rw [h] at p; exact p
  | er => rw [h] at p; exact p
theorem js_cons (h1 : JS X E L m m1 st F) (h2 : JSs X E L m1 m2 rest G) : JSs X E L m m2 (st :: rest) (fSeq F G) := ⟨PSsimp (pss_cons h1.ps h2.ps) fun D σ H h => seq_ok h⟩
theorem js_one (h1 : JS X E L m m1 st F) : JSs X E L m m1 [st] F := ⟨pss_one h1.ps⟩
/-- a slot is shared from here on -/
theorem js_weak (h : JSs X E L m1 m2 sts F) (w : Weak m m1 := by first | exact Weak.of (by decide) | exact weak_sh _) : JSs X E L m m2 sts F := ⟨PSsimp h.ps fun D σ H q => by
  obtain ⟨S0, H0, ρ, st, p⟩ := q
  exact ⟨S0, H0, ρ, st.weak w, p⟩⟩
theorem js_weak1 (h : JS X E L m1 m2 st F) (w : Weak m m1 := by first | exact Weak.of (by decide) | exact weak_sh _) : JS X E L m m2 st F := ⟨PSimp h.ps fun D σ H q => by
  obtain ⟨S0, H0, ρ, st, p⟩ := q
  exact ⟨S0, H0, ρ, st.weak w, p⟩⟩
theorem SPost.weak {K : PySem.W.Frag} {mg : Str → Option Value} {S0 H0 : Hp} {o : Res Fl} {Dn : Ends} (w : Weak m1 m2) (p : SPost K mg E L S0 H0 m2 o Dn) : SPost K mg E L S0 H0 m1 o Dn := by
  cases o with
  | ok o =>
    cases o with
    | nx ρ' => exact fun σ' H' st' => p σ' H' (st'.weak w)
    | rt d => exact p
    | bk ρ' => exact p
    | ct ρ' => exact p
    | xc c fs ρ' => exact p
  | ex c fs => exact p
  | er => exact p
/-- .. behind a block -/
theorem js_end (h : JSs X E L m m1 sts F) (w : Weak m1 m2 := by exact Weak.of (by decide)) : JSs X E L m m2 sts F := ⟨PSsimp h.ps fun D σ H q => by
  obtain ⟨S0, H0, ρ, st, p⟩ := q
  exact ⟨S0, H0, ρ, st, p.weak w⟩⟩
/-- code that is never come to -/
theorem js_never : JS X E L m m' st (fun _ => .er) := ⟨PSimp ps_never fun D σ H h => by
  obtain ⟨S0, H0, ρ, st, p⟩ := h
  exact p⟩
/-- a block behind which nothing goes on: the modes behind it are any -/
theorem jss_never : JSs X E L m m' sts (fun _ => .er) := ⟨PSsimp pss_never fun D σ H h => by
  obtain ⟨S0, H0, ρ, st, p⟩ := h
  exact p⟩
theorem js_set (i : Nat) {pos' : Pos} (he : JE X E m md e f) (hN : X.N.Nodup) (hl : i < m.length := by first | decide | simp) (hi : X.N[i]? = some x := by rfl) (hx : Loc X.env.scope x := by first | exact Or.inl rfl | exact Or.inr rfl)
    (hs : swapsWith e (some (.Name x pos')) pos.line X.env = pure false := by rfl) (hf : X.fn x = true ∨ X.env.scope.names.lookup x = some .local := by first | exact .inl rfl | exact .inr rfl) :
    JS X E L m (m.set i md) (.Assign [.Name x pos'] e pos) (fSet i f) := by
  refine ⟨PSimp (ps_set hN hi hx he.pe hs hf) fun D σ H h => ?_⟩
  obtain ⟨S0, H0, ρ, ⟨S, Fp, st⟩, p⟩ := h
  refine ⟨S, ρ, st.envM, (lift_post st p).postM fun d v S1 H1 fp s1 o hn hf k => ?_⟩
  refine k _ _ (StF.stM ((st.step s1).set hl o hn (fun a ha => st.1.hh.free (hf a ha)) fun j e' hj ej a ha z => ?_))
  obtain ⟨w, _, o'⟩ := st.2.1.at_ j e' ej
  obtain ⟨_, u, hu⟩ := o'.out ha
  rw [hf a z] at hu
  cases hu
theorem js_ret (he : JE X E m L.md e f) : JS X E L m m' (.Return (some e) pos) (fRet f) := by
  refine ⟨PSimp (ps_ret he.pe) fun D σ H h => ?_⟩
  obtain ⟨S0, H0, ρ, ⟨S, Fp, st⟩, p⟩ := h
  refine ⟨S, ρ, st.envM, (lift_post st p).postM fun d v S1 H1 fp s1 o hn hf k => ?_⟩
  exact k v H1 (RetOk.of st.1 s1 o hn hf)
/-- an own thing is handed out -/
theorem js_retV (i : Nat) (hmd : mdAt m i = L.md := by rfl) (hN : X.N[i]? = some x := by rfl) (hv : Vis X.env.scope x := by first | exact Or.inl rfl | exact Or.inr (Or.inl rfl) | exact Or.inr (Or.inr rfl)) {p : Pos}
    (hd : (x == ("__debug__" : Str)) = false := by decide) (hcd : (x == ("__classdict__" : Str)) = false := by decide) : JS X E L m m' (.Return (some (.Name x p)) pos) (fRet (fV i)) := by
  refine ⟨PSimp (ps_ret (pe_var hN hv hd hcd)) fun D σ H h => ?_⟩
  obtain ⟨S0, H0, ρ, ⟨S, Fp, st⟩, p⟩ := h
  unfold fRet fV at p
  split at p
  · rename_i d e
    obtain ⟨v, e1, o⟩ := st.2.1.at_ i d e
    rw [hmd] at o
    exact ⟨v, e1, p v H ⟨S, _, st.1, o, st.2.1.nd i d e, st.2.2 i d e⟩⟩
  · exact p.elim
theorem js_retN (hmd : L.md = .sh := by rfl) : JS X E L m m' (.Return none pos) fRetN := by
  refine ⟨PSimp ps_retN fun D σ H h => ?_⟩
  obtain ⟨S0, H0, ρ, ⟨S, Fp, st⟩, p⟩ := h
  exact p .non H ⟨S, [], st.1, by rw [hmd]; exact ⟨.non, rfl⟩, List.nodup_nil, fun a z => nomatch z⟩
theorem js_if (hc : JT X E m c g) (ha : JSs X E L m m' sts F) (hb : JSs X E L m m' rest G) : JS X E L m m' (.If c sts rest pos) (fIfS g F G) := by
  refine ⟨PSimp (ps_if hc.pt ha.ps hb.ps) fun D σ H h => ?_⟩
  obtain ⟨S0, H0, ρ, ⟨S, Fp, st⟩, p⟩ := h
  refine ⟨S, ρ, st.envM, ?_⟩
  have k := lift_post st p
  cases hg : g ρ with
  | ok bb =>
    rw [hg] at k
    intro S1 H1 s1
    have k1 := k S1 H1 s1
    cases bb with
    | true => exact ⟨S0, H0, ρ, (st.step s1).stM, k1⟩
    | false => exact ⟨S0, H0, ρ, (st.step s1).stM, k1⟩
  | ex c' fs => rw [hg] at k; exact k
  | er => rw [hg] at k; exact k
theorem js_drop (he : JE X E m .sh e f) (hs : swapsWith e none pos.line X.env = pure false := by rfl) : JS X E L m m (.Expr e pos) (fDrop f) := by
  refine ⟨PSimp (ps_expr he.pe hs) fun D σ H h => ?_⟩
  obtain ⟨S0, H0, ρ, ⟨S, Fp, st⟩, p⟩ := h
  exact ⟨S, ρ, st.envM, (lift_post st p).post fun d v S1 H1 s1 r k => k σ H1 (st.step s1).stM⟩
theorem js_pass : JS X E L m m (.Pass pos) fNext := ⟨PSimp ps_pass fun D σ H h => by
  obtain ⟨S0, H0, ρ, st, p⟩ := h
  exact p σ H st⟩
theorem js_break (w : Weak m L.mb := by exact Weak.of (by decide)) : JS X E L m m' (.Break pos) fBrk := ⟨PSimp ps_break fun D σ H h => by
  obtain ⟨S0, H0, ρ, st, p⟩ := h
  exact p σ H (st.weak w)⟩
theorem js_cont (w : Weak m L.mc := by exact Weak.of (by decide)) : JS X E L m m' (.Continue pos) fCnt := ⟨PSimp ps_continue fun D σ H h => by
  obtain ⟨S0, H0, ρ, st, p⟩ := h
  exact p σ H (st.weak w)⟩
theorem set_sh {m : Mds} {i : Nat} (hl : i < m.length) (hmd : mdAt m i = .sh) : m.set i .sh = m := by
  refine List.ext_getElem? fun j => ?_
  rw [List.getElem?_set]
  unfold mdAt at hmd
  rw [List.getD_eq_getElem?_getD, List.getElem?_eq_getElem hl] at hmd
  split
  · rename_i hj
    subst hj
    rw [List.getElem?_eq_getElem hl]
    exact congrArg some hmd.symm
  · rfl
/-- x += e of whole numbers -/
def fAug (i : Nat) (g : D → D → Res D) (f : Env → Res D) : FS := fSet i (f2 g (fV i) f)
theorem js_aug (i : Nat) {pos' : Pos} {op : Operator} {gi : Int → Int → Int} (ho : PIp X op (ipI gi)) (he : JE X E m .sh e f) (hN : X.N.Nodup) (hmd : mdAt m i = .sh := by rfl) (hl : i < m.length := by first | decide | simp) (hi : X.N[i]? = some x := by rfl) (hx : Loc X.env.scope x := by first | exact Or.inl rfl | exact Or.inr rfl)
    (hf : X.fn x = true ∨ X.env.scope.names.lookup x = some .local := by first | exact .inl rfl | exact .inr rfl) : JS X E L m m (.AugAssign (.Name x pos') op e pos) (fAug i (dI yes2 gi) f) := by
  refine ⟨PSimp (ps_aug hN hi hx he.pe ho hf) fun D σ H h => ?_⟩
  obtain ⟨S0, H0, ρ, ⟨S, Fp, st⟩, p⟩ := h
  unfold fAug fSet f2 fV at p
  split at p
  · rename_i dx ex
    obtain ⟨vx, e1, o1⟩ := st.2.1.at_ i dx ex
    rw [hmd] at o1
    refine ⟨vx, e1, S, ρ, st.envM, ?_⟩
    have p' : SPost X.K X.mg E L S0 H0 m (lift ((f ρ).bind fun y => dI yes2 gi dx y) ρ fun d => .ok (.nx (ρ.set i (some d)))) D := p
    have k := PostW.bind (lift_post st p')
    refine k.post fun d v S1 H1 s1 r k1 => ?_
    cases dx with
    | int ix =>
      cases d with
      | int iy =>
        obtain ⟨rx, _⟩ := o1
        cases rx; cases r
        refine ⟨ix, iy, rfl, rfl, ?_⟩
        have k2 := k1 S1 H1 (Step.refl s1.sub)
        have st1 := (st.step s1).set (d := .int (gi ix iy)) (v := .int (gi ix iy)) (md := .sh) (fp := []) hl ⟨.int _, rfl⟩ List.nodup_nil (fun a z => nomatch z) (fun j e' hj ej a ha z => nomatch z)
        have em : m.set i .sh = m := set_sh hl hmd
        rw [em] at st1
        exact k2 _ _ st1.stM
      | _ => exact k1.elim
    | _ =>
      exact k1.elim
  · exact p.elim
/-! lists of one's own are changed -/
def fApp (i : Nat) (f : Env → Res D) : FS := fun ρ => match ρ[i]? with
  | some (some (.lst xs)) => lift (f ρ) ρ fun d => if szOk (xs.length + 1) = true then .ok (.nx (ρ.set i (some (.lst (xs ++ [d]))))) else .er
  | _ => .er
theorem szOk_lt {n : Nat} (h : szOk (n + 1) = true) : n < sizeLine := by
  have := szOk_le h
  rw [sizeLine_eq]; omega
/-- the list of slot i is written -/
theorem StF.write {K : PySem.W.Frag} {mg : Str → Option Value} {S0 H0 S H : Hp} {Fp : Nat → List Addr} {σ : L2.St} {ρ : Env} {i : Nat} {xs ys : List D} {vs ws : List V} {p : Addr} (st : StF K mg m S0 H0 S Fp σ ρ H) (hl : i < m.length) (hmd : mdAt m i = .ow) (hρ : ρ[i]? = some (some (.lst xs)))
    (hp : Fp i = [p]) (hσ : σ[i]? = some (some (.ref p))) (sp : S p = none) (hv : H p = some (.lst vs)) (r : RepL K mg S ws ys) : StF K mg m S0 H0 S Fp σ (ρ.set i (some (.lst ys))) (upd H p (.lst ws)) := by
  obtain ⟨s, e, nw⟩ := st
  have hil : i < ρ.length := (List.getElem?_eq_some_iff.mp hρ).1
  have h0 : H0 p = none := nw i _ hρ p (by rw [hp]; exact List.mem_cons_self)
  have key : ∀ j d', (ρ.set i (some (.lst ys)))[j]? = some (some d') → (j = i ∧ d' = .lst ys) ∨ (j ≠ i ∧ ρ[j]? = some (some d')) := fun j d' ej => by
    by_cases hj : j = i
    · subst hj
      rw [List.getElem?_set_self hil] at ej
      injection ej with z; injection z with z
      exact .inl ⟨rfl, z.symm⟩
    · rw [List.getElem?_set_ne (Ne.symm hj)] at ej
      exact .inr ⟨hj, ej⟩
  have same : ∀ {B : Hp}, Same B H → B p = none → Same B (upd H p (.lst ws)) := fun hB hb a o ea => by
    rw [upd_ne (ne_of_none ea hb)]
    exact hB a o ea
  have pres : ∀ {d}, ρ[i]? = some (some d) ↔ d = .lst xs := fun {d} => by
    rw [hρ]
    constructor
    · intro z; injection z with z; injection z with z; exact z.symm
    · intro z; rw [z]
  refine ⟨⟨same s.hh h0, s.ss, same s.sub sp, s.new⟩, ⟨by rw [List.length_set]; exact e.len, fun j d' ej => ?_, fun j d' ej => ?_, fun j k d1 d2 hjk e1 e2 => ?_⟩, fun j d' ej => ?_⟩
  · rcases key j d' ej with ⟨rfl, rfl⟩ | ⟨hj, ej'⟩
    · refine ⟨_, hσ, ?_⟩
      rw [hmd]
      exact ⟨p, ws, ys, rfl, rfl, hp, sp, upd_same, r⟩
    · obtain ⟨w, e1, o1⟩ := e.at_ j d' ej'
      exact ⟨w, e1, o1.other sp fun z => e.apart i j _ d' (Ne.symm hj) hρ ej' p (by rw [hp]; exact List.mem_cons_self) z⟩
  · rcases key j d' ej with ⟨rfl, rfl⟩ | ⟨hj, ej'⟩
    · exact e.nd _ _ hρ
    · exact e.nd j d' ej'
  · have live : ∀ j d', (ρ.set i (some (.lst ys)))[j]? = some (some d') → ∃ d'', ρ[j]? = some (some d'') := fun j d' ej => by
      rcases key j d' ej with ⟨rfl, _⟩ | ⟨_, ej'⟩
      · exact ⟨_, hρ⟩
      · exact ⟨_, ej'⟩
    obtain ⟨d1', h1⟩ := live j d1 e1
    obtain ⟨d2', h2⟩ := live k d2 e2
    exact e.apart j k d1' d2' hjk h1 h2
  · rcases key j d' ej with ⟨rfl, rfl⟩ | ⟨hj, ej'⟩
    · exact nw _ _ hρ
    · exact nw j d' ej'
/-- what is known of an own list -/
theorem StF.own {K : PySem.W.Frag} {mg : Str → Option Value} {S0 H0 S H : Hp} {Fp : Nat → List Addr} {σ : L2.St} {ρ : Env} {i : Nat} {d : D} (st : StF K mg m S0 H0 S Fp σ ρ H) (hmd : mdAt m i = .ow) (hρ : ρ[i]? = some (some d)) :
    ∃ p vs ds, d = .lst ds ∧ Fp i = [p] ∧ σ[i]? = some (some (.ref p)) ∧ S p = none ∧ H p = some (.lst vs) ∧ RepL K mg S vs ds := by
  obtain ⟨v, e1, o⟩ := st.2.1.at_ i d hρ
  rw [hmd] at o
  obtain ⟨p, vs, ds, rfl, rfl, e3, e4, e5, e6⟩ := o
  exact ⟨p, vs, ds, rfl, e3, e1, e4, e5, e6⟩
theorem js_app (i : Nat) {p1 p2 p3 : Pos} (he : JE X E m .sh e f) (hmd : mdAt m i = .ow := by rfl) (hl : i < m.length := by first | decide | simp) (hN : X.N[i]? = some x := by rfl) (hv : Vis X.env.scope x := by first | exact Or.inl rfl | exact Or.inr (Or.inl rfl) | exact Or.inr (Or.inr rfl))
    (hd : (x == ("__debug__" : Str)) = false := by decide) (hcd : (x == ("__classdict__" : Str)) = false := by decide)
    (hs : swapsWith (.Call (.Attribute (.Name x p1) "append" p2) [e] [] p3) none pos.line X.env = pure false := by rfl)
    (hpe : ∀ {to te : TE}, PE X (.Name x p1) to → PE X e te → PE X (.Call (.Attribute (.Name x p1) "append" p2) [e] [] p3) (tBM X.K "list" rAppend to (tCons te tNil)) := by
      intro to te ho he
      exact pe_bm PySem.F.plainAttrs_list PySem.F.slot_list_append PySem.F.type_list_append mt_append ho (pa_cons he pa_nil)) :
    JS X E L m m (.Expr (.Call (.Attribute (.Name x p1) "append" p2) [e] [] p3) pos) (fApp i f) := by
  refine ⟨PSimp (ps_expr (hpe (pe_var hN hv hd hcd) he.pe) hs) fun D σ H h => ?_⟩
  obtain ⟨S0, H0, ρ, ⟨S, Fp, st⟩, p⟩ := h
  unfold fApp at p
  split at p
  · rename_i xs exs
    obtain ⟨pa, vs, ds, eds, e1, e2, e3, e4, e5⟩ := st.own hmd exs
    cases eds
    refine ⟨_, e2, .inl ⟨rfl, vs, .inl (.inl e4)⟩, S, ρ, st.envM, (lift_post st p).post fun d v S1 H1 s1 r k => ?_⟩
    split at k
    · rename_i hz
      obtain ⟨qa, vs1, ds1, eds, q1, q2, q3, q4, q5⟩ := (st.step s1).own hmd exs
      cases eds
      obtain rfl : qa = pa := by
        rw [e2] at q2
        injection q2 with z; injection z with z; injection z with z
        exact z.symm
      refine ⟨qa, vs1, v, rfl, rfl, q4, by rw [q5.len]; exact szOk_lt hz, ?_⟩
      exact k _ _ ((st.step s1).write hl hmd exs q1 q2 q3 q4 (q5.snoc r)).stM
    · exact k.elim
  · exact p.elim
/-- x[j] = e of an own list -/
def fSetIx (i : Nat) (fe fj : Env → Res D) : FS := fun ρ => match ρ[i]? with
  | some (some (.lst xs)) => lift (fe ρ) ρ fun d => lift (fj ρ) ρ fun j => match j with
    | .int z => (match ixN xs.length z with
      | some k => .ok (.nx (ρ.set i (some (.lst (xs.set k d)))))
      | none => .er)
    | _ => .er
  | _ => .er
theorem js_setix (i : Nat) {p1 p2 : Pos} {j : Expr} {fj : Env → Res D} (he : JE X E m .sh e f) (hj : JE X E m .sh j fj) (hmd : mdAt m i = .ow := by rfl) (hl : i < m.length := by first | decide | simp) (hN : X.N[i]? = some x := by rfl) (hv : Vis X.env.scope x := by first | exact Or.inl rfl | exact Or.inr (Or.inl rfl) | exact Or.inr (Or.inr rfl))
    (hd : (x == ("__debug__" : Str)) = false := by decide) (hcd : (x == ("__classdict__" : Str)) = false := by decide)
    (hps : ∀ {to ti te : TE}, PE X (.Name x p1) to → PE X j ti → PE X e te → PS X (.Assign [.Subscript (.Name x p1) j p2] e pos) (tAsg te (gSub to ti rSetL)) := by
      intro to ti te ho hi he
      exact ps_asg he (pg_sub ho hi set_list)) :
    JS X E L m m (.Assign [.Subscript (.Name x p1) j p2] e pos) (fSetIx i f fj) := by
  refine ⟨PSimp (hps (pe_var hN hv hd hcd) hj.pe he.pe) fun D σ H h => ?_⟩
  obtain ⟨S0, H0, ρ, ⟨S, Fp, st⟩, p⟩ := h
  unfold fSetIx at p
  split at p
  · rename_i xs exs
    obtain ⟨pa, vs, ds, eds, e1, e2, e3, e4, e5⟩ := st.own hmd exs
    refine ⟨S, ρ, st.envM, (lift_post st p).post fun d v S1 H1 s1 r k => ⟨_, e2, S1, ρ, (st.step s1).envM, (lift_post (st.step s1) k).post fun dj vj S2 H2 s2 rj k2 => ?_⟩⟩
    cases dj with
    | int z =>
      cases rj
      have k2 : SPost X.K X.mg E L S0 H0 m (match ixN xs.length z with
        | some k => .ok (.nx (ρ.set i (some (.lst (xs.set k d)))))
        | none => .er) D := k2
      split at k2
      · rename_i kk ek
        obtain ⟨qa, vs1, ds1, eds1, q1, q2, q3, q4, q5⟩ := ((st.step s1).step s2).own hmd exs
        cases eds1
        obtain rfl : qa = pa := by
          rw [e2] at q2
          injection q2 with z; injection z with z; injection z with z
          exact z.symm
        exact ⟨qa, vs1, z, kk, rfl, rfl, q4, by rw [q5.len]; exact ek, k2 _ _ (((st.step s1).step s2).write hl hmd exs q1 q2 q3 q4 (q5.set kk (r.mono s2.ss))).stM⟩
      · exact k2.elim
    | _ => exact k2.elim
  · exact p.elim
end
end Da
namespace Da
open PySem PySem.Spec L2
/-! ### loops -/
/-- the loop over the items -/
def forGo (g : D → Env → Res Env) (F : FS) : List D → FS
  | [], ρ => .ok (.nx ρ)
  | x :: xs, ρ => match g x ρ with
    | .ok ρ1 => (match F ρ1 with
      | .ok (.nx ρ2) => forGo g F xs ρ2
      | .ok (.ct ρ2) => forGo g F xs ρ2
      | .ok (.bk ρ2) => .ok (.nx ρ2)
      | o => o)
    | _ => .er
def fFor (it : Env → Res (List D)) (g : D → Env → Res Env) (F : FS) : FS := fun ρ => lift (it ρ) ρ fun xs => forGo g F xs ρ
/-- while, in at most n turns -/
def whileGo (c : Env → Res Bool) (F : FS) : Nat → FS
  | 0, _ => .er
  | n + 1, ρ => lift (c ρ) ρ fun b => if b = true then (match F ρ with
      | .ok (.nx ρ2) => whileGo c F n ρ2
      | .ok (.ct ρ2) => whileGo c F n ρ2
      | .ok (.bk ρ2) => .ok (.nx ρ2)
      | o => o) else .ok (.nx ρ)
def FUEL : Nat := 1000000000000000000
def fWhile (c : Env → Res Bool) (F : FS) : FS := whileGo c F FUEL
/-- the iterator J gives the items ds, from the view S on -/
structure WalkD (K : PySem.W.Frag) (mg : Str → Option Value) (J : It) (S : Hp) (ds : List D) : Prop where
  go : ∀ i d S1 H1, ds[i]? = some d → Same S S1 → Same S1 H1 → J.go i H1 ∧ ∀ x H2, J.yld i H1 x H2 → ∃ S2, Step S1 H1 S2 H2 ∧ Rep K mg S2 x d
  stop : ∀ S1 H1, Same S S1 → Same S1 H1 → J.stop ds.length H1
def tI (K : PySem.W.Frag) (mg : Str → Option Value) (E : WX) (m : Mds) (f : Env → Res (List D)) : TI := fun σ H R => ∃ S ρ, EnvM K mg m S H σ ρ ∧ PostW K mg (WE E σ) S H (f ρ) fun ds S' H' => ∀ J, WalkD K mg J S' ds → R J H'
structure JI (X : Cx) (E : WX) (m : Mds) (tg iter : Expr) (f : Env → Res (List D)) : Prop where
  pi : PI X tg iter (tI X.K X.mg E m f)
/-- a target takes a value -/
def tGD (K : PySem.W.Frag) (mg : Str → Option Value) (m : Mds) (ts : List Nat) (g : D → Env → Res Env) : TG := fun v σ H Q => ∃ S0 H0 S F ρ d, StF K mg m S0 H0 S F σ ρ H ∧ Rep K mg S v d ∧ (match g d ρ with
  | .ok ρ1 => ∀ σ1 S1 F1 H1, StF K mg m S0 H0 S1 F1 σ1 ρ1 H1 → Step S H S1 H1 → (σ1.length = σ.length ∧ ∀ j, j ∉ ts → σ1[j]? = σ[j]?) → Q σ1 H1
  | _ => False)
structure JG (X : Cx) (m : Mds) (ts : List Nat) (tg : Expr) (g : D → Env → Res Env) : Prop where
  pg : PG X tg (tGD X.K X.mg m ts g)
section
variable {X : Cx} {E : WX} {L : Lp} {m m1 m2 m' : Mds} {md : Md} {st : Stmt} {sts rest : List Stmt} {e a b tg iter : Expr} {f fa fb : Env → Res D} {c : Expr} {g : Env → Res Bool} {F G : FS} {pos : Pos} {x : Str} {it : Env → Res (List D)} {gt : D → Env → Res Env}
/-- a name: what it holds is shared -/
def gN (i : Nat) : D → Env → Res Env := fun d ρ => .ok (ρ.set i (some d))
theorem jg_name (i : Nat) (hN : X.N.Nodup) (hmd : mdAt m i = .sh := by rfl) (hl : i < m.length := by first | decide | simp) (hi : X.N[i]? = some x := by rfl) (hx : Loc X.env.scope x := by first | exact Or.inl rfl | exact Or.inr rfl)
    (hf : X.fn x = true ∨ X.env.scope.names.lookup x = some .local := by first | exact .inl rfl | exact .inr rfl) : JG X m [i] (.Name x pos) (gN i) := by
  refine ⟨⟨fun pins s σ H v u Q I r h => ?_⟩⟩
  refine (pg_name hN hi hx hf).run pins s σ H v u Q I r ?_
  obtain ⟨S0, H0, S, Fp, ρ, d, st, rd, p⟩ := h
  have st1 := st.set (d := d) (v := v) (md := .sh) (fp := []) hl ⟨rd, rfl⟩ List.nodup_nil (fun a z => nomatch z) (fun j e' hj ej a ha z => nomatch z)
  rw [set_sh hl hmd] at st1
  exact p _ S _ H st1 (Step.refl st.1.sub) ⟨List.length_set, fun j hj => List.getElem?_set_ne fun z => hj (by rw [z]; exact List.mem_cons_self)⟩
theorem js_for (hi : JI X E m tg iter it) {ts : List Nat} (hg : JG X m ts tg gt) (hb : JSs X E ⟨m, m, L.md⟩ m m sts F) (hp : PassesOwn (model X.prog X.w) X.A X.env X.xe) (hc : X.calm = true := by rfl)
    (hs : ∀ x, foldedSetIterable iter X.env x = pure x := by intro _; rfl) : JS X E L m m (.For tg iter sts [] pos) (fFor it gt F) := by
  refine ⟨PSimp (ps_for hp hc hi.pi hg.pg hb.ps hs) fun D σ H h => ?_⟩
  obtain ⟨S0, H0, ρ, ⟨S, Fp, st⟩, p⟩ := h
  refine ⟨S, ρ, st.envM, (lift_post st p).imp fun ds S1 H1 s1 k J w => ?_⟩
  -- from here on the entry is (S1, H0)
  have st1 := st.step s1
  refine ⟨fun i n σ H => n = ds.length - i ∧ i ≤ ds.length ∧ ∃ S2 F2 ρ2, StF X.K X.mg m S1 H0 S2 F2 σ ρ2 H ∧ SPost X.K X.mg E L S0 H0 m (forGo gt F (ds.drop i) ρ2) D, ⟨ds.length, by simp, Nat.zero_le _, S1, Fp, ρ, ⟨st1.1.fwd, st1.2⟩, k⟩, ?_⟩
  rintro i n σ2 H2 ⟨rfl, hi, S2, F2, ρ2, st2, p2⟩
  by_cases hlt : i < ds.length
  · obtain ⟨hgo, hyl⟩ := w.go i ds[i] S2 H2 (List.getElem?_eq_getElem hlt) st2.1.ss st2.1.sub
    refine .inr ⟨hgo, fun σ' H' => ∃ S3 F3 ρ3, StF X.K X.mg m S1 H0 S3 F3 σ' ρ3 H' ∧ SPost X.K X.mg E L S0 H0 m (forGo gt F (ds.drop (i + 1)) ρ3) D, fun σ' H' z => ⟨ds.length - (i + 1), by omega, rfl, hlt, z⟩, fun x H3 y => ?_⟩
    obtain ⟨S3, s3, r3⟩ := hyl x H3 y
    refine ⟨S1, H0, S3, F2, ρ2, ds[i], st2.step s3, r3, ?_⟩
    rw [List.drop_eq_getElem_cons hlt] at p2
    unfold forGo at p2
    cases eg : gt ds[i] ρ2 with
    | ok ρ3 =>
      rw [eg] at p2
      refine fun σ4 S4 F4 H4 st4 s4 _ => ⟨S1, H0, ρ3, st4.stM, ?_⟩
      have p3 : SPost X.K X.mg E L S0 H0 m (match F ρ3 with
        | .ok (.nx ρ2) => forGo gt F (ds.drop (i + 1)) ρ2
        | .ok (.ct ρ2) => forGo gt F (ds.drop (i + 1)) ρ2
        | .ok (.bk ρ2) => .ok (.nx ρ2)
        | o => o) D := p2
      cases ef : F ρ3 with
      | ok o =>
        rw [ef] at p3
        cases o with
        | nx ρ5 => exact fun σ5 H5 ⟨S5, F5, st5⟩ => ⟨S5, F5, ρ5, st5, p3⟩
        | ct ρ5 => exact fun σ5 H5 ⟨S5, F5, st5⟩ => ⟨S5, F5, ρ5, st5, p3⟩
        | bk ρ5 => exact fun σ5 H5 ⟨S5, F5, st5⟩ => p3 σ5 H5 ⟨S5, F5, st1.1.back st5.1, st5.2⟩
        | rt d => exact fun v H5 ⟨S5, fp, s5, o5⟩ => p3 v H5 ⟨S5, fp, st1.1.back s5, o5⟩
        | xc c' fs ρ5 => exact fun σ5 S5 F5 H5 cls dd st5 x5 => p3 σ5 S5 F5 H5 cls dd ⟨st1.1.back st5.1, st5.2⟩ x5
      | ex c' fs => rw [ef] at p3; exact p3
      | er => rw [ef] at p3; exact p3
    | ex c' fs => rw [eg] at p2; exact p2
    | er => rw [eg] at p2; exact p2
  · have e : i = ds.length := by omega
    subst e
    rw [List.drop_length] at p2
    exact .inl ⟨w.stop S2 H2 st2.1.ss st2.1.sub, p2 σ2 H2 ⟨S2, F2, st1.1.back st2.1, st2.2⟩⟩
theorem js_while (hc : JT X E m c g) (hb : JSs X E ⟨m, m, L.md⟩ m m sts F) (hp : PassesOwn (model X.prog X.w) X.A X.env X.xe) : JS X E L m m (.While c sts [] pos) (fWhile g F) := by
  refine ⟨PSimp (ps_while hp hc.pt hb.ps) fun D σ H h => ?_⟩
  obtain ⟨S0, H0, ρ, ⟨S, Fp, st⟩, p⟩ := h
  refine ⟨fun n σ H => ∃ S2 F2 ρ2, StF X.K X.mg m S0 H0 S2 F2 σ ρ2 H ∧ SPost X.K X.mg E L S0 H0 m (whileGo g F n ρ2) D, ⟨FUEL, S, Fp, ρ, st, p⟩, ?_⟩
  rintro n σ2 H2 ⟨S2, F2, ρ2, st2, p2⟩
  cases n with
  | zero => exact p2.elim
  | succ n =>
    unfold whileGo at p2
    have k := lift_post st2 p2
    refine ⟨S2, ρ2, st2.envM, k.imp fun b S3 H3 s3 k3 => ?_⟩
    cases b with
    | true =>
      refine ⟨fun σ' H' => ∃ S3 F3 ρ3, StF X.K X.mg m S0 H0 S3 F3 σ' ρ3 H' ∧ SPost X.K X.mg E L S0 H0 m (whileGo g F n ρ3) D, fun σ' H' z => ⟨n, Nat.lt_succ_self n, z⟩, S0, H0, ρ2, (st2.step s3).stM, ?_⟩
      have p3 : SPost X.K X.mg E L S0 H0 m (match F ρ2 with
        | .ok (.nx ρ2) => whileGo g F n ρ2
        | .ok (.ct ρ2) => whileGo g F n ρ2
        | .ok (.bk ρ2) => .ok (.nx ρ2)
        | o => o) D := k3
      cases ef : F ρ2 with
      | ok o =>
        rw [ef] at p3
        cases o with
        | nx ρ5 => exact fun σ5 H5 ⟨S5, F5, st5⟩ => ⟨S5, F5, ρ5, st5, p3⟩
        | ct ρ5 => exact fun σ5 H5 ⟨S5, F5, st5⟩ => ⟨S5, F5, ρ5, st5, p3⟩
        | bk ρ5 => exact p3
        | rt d => exact p3
        | xc c' fs ρ5 => exact p3
      | ex c' fs => rw [ef] at p3; exact p3
      | er => rw [ef] at p3; exact p3
    | false => exact k3 σ2 H3 (st2.step s3).stM
/-! what is walked: a list, a tuple -/
def asL : D → Res (List D)
  | .lst xs => .ok xs
  | .frl xs => .ok xs
  | .tup xs => .ok xs
  | _ => .er
theorem walk_l {K : PySem.W.Frag} {mg : Str → Option Value} {S : Hp} {a : Addr} {vs : List V} {ds : List D} (h : SqL K S a vs) (r : RepL K mg S vs ds) : WalkD K mg (Itl K a) S ds where
  go := fun i d S1 H1 e s1 s2 => by
    obtain ⟨v, ev, rv⟩ := r.get e
    refine ⟨⟨vs, v, same_l s2 (same_l s1 h), ev⟩, fun x H2 ⟨e2, y⟩ => ?_⟩
    subst e2
    have := y vs (same_l s2 (same_l s1 h))
    rw [ev] at this
    cases this
    exact ⟨S1, Step.refl s2, rv.mono s1⟩
  stop := fun S1 H1 s1 s2 => ⟨vs, same_l s2 (same_l s1 h), Nat.le_of_eq r.len⟩
theorem walk_t {K : PySem.W.Frag} {mg : Str → Option Value} {S : Hp} {a : Addr} {vs : List V} {ds : List D} (h : SqT K S a vs) (r : RepL K mg S vs ds) : WalkD K mg (Itt K a) S ds where
  go := fun i d S1 H1 e s1 s2 => by
    obtain ⟨v, ev, rv⟩ := r.get e
    refine ⟨⟨vs, v, same_t s2 (same_t s1 h), ev⟩, fun x H2 ⟨e2, y⟩ => ?_⟩
    subst e2
    have := y vs (same_t s2 (same_t s1 h))
    rw [ev] at this
    cases this
    exact ⟨S1, Step.refl s2, rv.mono s1⟩
  stop := fun S1 H1 s1 s2 => ⟨vs, same_t s2 (same_t s1 h), Nat.le_of_eq r.len⟩
def iSeq (K : PySem.W.Frag) (tl : TE) : TI := fun σ H R => tl σ H fun x H1 => ∃ a, x = .ref a ∧ ((∃ xs, SqL K H1 a xs) ∧ R (Itl K a) H1 ∨ (∃ xs, SqT K H1 a xs) ∧ R (Itt K a) H1)
theorem pi_seq {l : Expr} {tl : TE} (hl : PE X l tl) : PI X tg l (iSeq X.K tl) := by
  refine ⟨fun pins s σ H R I h => thn (hl.run pins s σ H _ I h) fun v s1 hv => ?_⟩
  obtain ⟨y, Hy, Iy, ry, a, rfl, q⟩ := hv
  cases ry
  have fresh : ∀ b, b ∈ [s1.heap.objs.size] → FpOk X pins Hy b := fun b hb => by
    rw [List.mem_singleton.mp hb]
    exact Iy.fpOk (Nat.le_refl _) (Iy.hok.fresh (Nat.le_refl _))
  rcases q with ⟨⟨xs, hq⟩, q⟩ | ⟨⟨xs, hq⟩, q⟩
  · obtain ⟨its, _, pl, _⟩ := Iy.list hq
    refine wpAny_pyIter_list pl.isList ⟨_, [_], _, Itl X.K a, Hy, rfl, ?_, turn_list a _, ?_, fresh, q⟩
    · exact Iy.kept (t' := s1.toks) fun b o e => Heap.get?_push_of_some _ e
    · exact ⟨_, Heap.get?_push_size _ rfl, rfl, rfl⟩
  · obtain ⟨its, _, pl, _⟩ := Iy.tuple hq
    refine wpAny_pyIter_tuple (show s1.heap.IsTuple a its.toArray from pl) ⟨_, [_], _, Itt X.K a, Hy, rfl, ?_, turn_tuple a _, ?_, fresh, q⟩
    · exact Iy.kept (t' := s1.toks) fun b o e => Heap.get?_push_of_some _ e
    · exact ⟨_, Heap.get?_push_size _ rfl, rfl, rfl⟩
def fL (f : Env → Res D) : Env → Res (List D) := fun ρ => (f ρ).bind asL
theorem ji_seq (he : JE X E m .sh e f) : JI X E m tg e (fL f) := by
  refine ⟨⟨fun pins s σ H R I h => (pi_seq he.pe).run pins s σ H R I ?_⟩⟩
  obtain ⟨S, ρ, hm, hp⟩ := h
  refine ⟨S, ρ, hm, (PostW.bind hp).post fun d v S1 H1 s1 r k => ?_⟩
  cases d with
  | lst xs =>
    obtain ⟨a, vs, rfl, ha, rv⟩ := r.of_lst
    exact ⟨a, rfl, .inl ⟨⟨vs, .inl (.inl (s1.sub _ _ ha))⟩, k S1 H1 (Step.refl s1.sub) _ (walk_l (.inl (.inl ha)) rv)⟩⟩
  | frl xs =>
    obtain ⟨a, vs, rfl, ha, rv⟩ := r.of_frl
    exact ⟨a, rfl, .inl ⟨⟨vs, same_l s1.sub ha⟩, k S1 H1 (Step.refl s1.sub) _ (walk_l ha rv)⟩⟩
  | tup xs =>
    obtain ⟨a, vs, rfl, ha, rv⟩ := r.of_tup
    exact ⟨a, rfl, .inr ⟨⟨vs, same_t s1.sub ha⟩, k S1 H1 (Step.refl s1.sub) _ (walk_t ha rv)⟩⟩
  | _ => exact k.elim
/-! .. a range -/
def rng (lo : Int) (n : Nat) : List D := (List.range n).map fun (i : Nat) => D.int (lo + i)
theorem walk_r {K : PySem.W.Frag} {mg : Str → Option Value} {S : Hp} (lo : Int) (n : Nat) : WalkD K mg (Itr lo n) S (rng lo n) where
  go := fun i d S1 H1 e s1 s2 => by
    unfold rng at e
    rw [List.getElem?_map] at e
    have hi : i < n := by
      cases q : (List.range n)[i]? with
      | none => rw [q] at e; cases e
      | some j =>
        have := (List.getElem?_eq_some_iff.mp q).1
        rwa [List.length_range] at this
    rw [List.getElem?_range hi] at e
    cases e
    exact ⟨hi, fun x H2 ⟨e2, y⟩ => by subst e2 y; exact ⟨S1, Step.refl s2, .int _⟩⟩
  stop := fun S1 H1 s1 s2 => by
    show n ≤ (rng lo n).length
    unfold rng
    rw [List.length_map, List.length_range]
    exact Nat.le_refl _
def rngOk (i j : Int) : Bool := stuck (-(4611686018427387904) ≤ i ∧ i < 4611686018427387904 ∧ -(4611686018427387904) ≤ j ∧ j < 4611686018427387904)
theorem rngOk_ok {i j : Int} (h : rngOk i j = true) : -(2 ^ 62) ≤ i ∧ i < 2 ^ 62 ∧ -(2 ^ 62) ≤ j ∧ j < 2 ^ 62 := by
  obtain ⟨h1, h2, h3, h4⟩ := stuck_iff.mp h
  have e : (2 : Int) ^ 62 = 4611686018427387904 := by decide
  rw [e]
  exact ⟨h1, h2, h3, h4⟩
def gRng1 : List D → Res (List D)
  | [.int j] => if rngOk 0 j = true then .ok (rng 0 j.toNat) else .er
  | _ => .er
def gRng2 : List D → Res (List D)
  | [.int i, .int j] => if rngOk i j = true then .ok (rng i (j - i).toNat) else .er
  | _ => .er
theorem gRng1_ok {ds xs : List D} (h : gRng1 ds = .ok xs) : ∃ j, ds = [.int j] ∧ rngOk 0 j = true ∧ xs = rng 0 j.toNat := by
  unfold gRng1 at h
  split at h
  · rename_i j
    split at h
    · rename_i hk
      injection h with h
      exact ⟨j, rfl, hk, h.symm⟩
    · cases h
  · cases h
theorem gRng2_ok {ds xs : List D} (h : gRng2 ds = .ok xs) : ∃ i j, ds = [.int i, .int j] ∧ rngOk i j = true ∧ xs = rng i (j - i).toNat := by
  unfold gRng2 at h
  split at h
  · rename_i i j
    split at h
    · rename_i hk
      injection h with h
      exact ⟨i, j, rfl, hk, h.symm⟩
    · cases h
  · cases h
theorem gRng1_ex {ds : List D} {c : Str} {fs : List (Str × D)} : gRng1 ds ≠ .ex c fs := by
  unfold gRng1
  split
  · split <;> exact fun z => nomatch z
  · exact fun z => nomatch z
theorem gRng2_ex {ds : List D} {c : Str} {fs : List (Str × D)} : gRng2 ds ≠ .ex c fs := by
  unfold gRng2
  split
  · split <;> exact fun z => nomatch z
  · exact fun z => nomatch z
def fR1 (fs : Env → Res (List D)) : Env → Res (List D) := fun ρ => (fs ρ).bind gRng1
def fR2 (fs : Env → Res (List D)) : Env → Res (List D) := fun ρ => (fs ρ).bind gRng2
theorem PostW.of_if {α : Type} {K : PySem.W.Frag} {mg : Str → Option Value} {E : XK} {S H : Hp} {r : Res α} {c : Bool} {k : α → Hp → Hp → Prop} (h : PostW K mg E S H (if c = true then r else .er) k) : c = true ∧ PostW K mg E S H r k := by
  split at h
  · rename_i hc; exact ⟨hc, h⟩
  · exact h.elim
theorem RepL.int1 {K : PySem.W.Frag} {mg : Str → Option Value} {S : Hp} {vs : List V} {j : Int} (r : RepL K mg S vs [.int j]) : vs = [.int j] := RepL.ints (ns := [j]) r
theorem RepL.int2 {K : PySem.W.Frag} {mg : Str → Option Value} {S : Hp} {vs : List V} {i j : Int} (r : RepL K mg S vs [.int i, .int j]) : vs = [.int i, .int j] := RepL.ints (ns := [i, j]) r
theorem PostW.okOf {α : Type} {K : PySem.W.Frag} {mg : Str → Option Value} {E : XK} {S H : Hp} {r : Res α} {k : α → Hp → Hp → Prop} (h : PostW K mg E S H r k) (hx : ∀ c fs, r ≠ .ex c fs) : ∃ a, r = .ok a ∧ ∀ S' H', Step S H S' H' → k a S' H' := by
  cases r with
  | ok a => exact ⟨a, rfl, h⟩
  | ex c fs => exact absurd rfl (hx c fs)
  | er => exact h.elim
theorem ji_range1 {fs : Env → Res (List D)} {p : Pos} (ha : JA X E m [a] fs) (hm : X.mg "range" = none) (hg : Gl X "range" := by rfl) (hs : starEach [a] X.env = [(false, eval a X.env)] := by rfl) : JI X E m tg (.Call (.Name "range" p) [a] [] pos) (fR1 fs) := by
  refine ⟨⟨fun pins s σ H R I h => (pi_range1 hg hm ha.pa hs).run pins s σ H R I ?_⟩⟩
  obtain ⟨S, ρ, hm, hp⟩ := h
  refine ⟨S, ρ, hm, (PostW.bind hp).imp fun ds S1 H1 s1 k vs rv => ?_⟩
  obtain ⟨xs, e, k⟩ := PostW.okOf k fun _ _ => gRng1_ex
  obtain ⟨j, rfl, hk, rfl⟩ := gRng1_ok e
  obtain ⟨_, _, h3, h4⟩ := rngOk_ok hk
  exact ⟨j, rv.int1, h3, h4, k S1 H1 (Step.refl s1.sub) _ (walk_r 0 j.toNat)⟩
theorem ji_range2 {fs : Env → Res (List D)} {p : Pos} (ha : JA X E m [a, b] fs) (hm : X.mg "range" = none) (hg : Gl X "range" := by rfl) (hs : starEach [a, b] X.env = [(false, eval a X.env), (false, eval b X.env)] := by rfl) (hs2 : starEach [b] X.env = [(false, eval b X.env)] := by rfl) :
    JI X E m tg (.Call (.Name "range" p) [a, b] [] pos) (fR2 fs) := by
  refine ⟨⟨fun pins s σ H R I h => (pi_range2 hg hm ha.pa hs hs2).run pins s σ H R I ?_⟩⟩
  obtain ⟨S, ρ, hm, hp⟩ := h
  refine ⟨S, ρ, hm, (PostW.bind hp).imp fun ds S1 H1 s1 k vs rv => ?_⟩
  obtain ⟨xs, e, k⟩ := PostW.okOf k fun _ _ => gRng2_ex
  obtain ⟨i, j, rfl, hk, rfl⟩ := gRng2_ok e
  exact ⟨i, j, rv.int2, rngOk_ok hk, k S1 H1 (Step.refl s1.sub) _ (walk_r i (j - i).toNat)⟩
end
end Da
namespace Da
open PySem PySem.Spec L2
/-! ### defs -/
def chk (n : Nat) (f : List D → Res D) : List D → Res D := fun ds => if ds.length = n then f ds else .er
/-- what a def promises: it does to data what f does -/
def spD (K : PySem.W.Frag) (mg : Str → Option Value) (np : Nat) (md : Md) (f : List D → Res D) : Sp := fun vs H Q E => ∃ S ds, Same S H ∧ RepL K mg S vs ds ∧ Post K mg E S H md (chk np f ds) Q
def startE (n : Nat) (ds : List D) : Env := ds.map some ++ List.replicate (n - ds.length) none
/-- a body's run -/
def runF (n : Nat) (md : Md) (F : FS) (ds : List D) : Res D := match F (startE n ds) with
  | .ok (.rt d) => .ok d
  | .ok (.nx _) => if md = .sh then .ok .non else .er
  | .ok (.xc c fs _) => .ex c fs
  | _ => .er
abbrev msh (n : Nat) : Mds := List.replicate n .sh
theorem mdAt_msh {n i : Nat} : mdAt (msh n) i = .sh := by
  unfold mdAt
  rw [List.getD_eq_getElem?_getD, List.getElem?_replicate]
  split <;> rfl
theorem Post.chkd {K : PySem.W.Frag} {mg : Str → Option Value} {E : XK} {S H : Hp} {md : Md} {np : Nat} {f : List D → Res D} {ds : List D} {Q : VK} (h : Post K mg E S H md (chk np f ds) Q) : ds.length = np ∧ Post K mg E S H md (f ds) Q := by
  unfold chk at h
  split at h
  · rename_i e; exact ⟨e, h⟩
  · exact h.elim
section
variable {P : Program} {w : World} {K : PySem.W.Frag} {mg : Str → Option Value} {base : Heap}
theorem fn_ok {x qual : Str} {st : Stmt} {f : Addr} {fd : FuncData} {N ps : List Str} {k : Nat} {md : Md} {m' : Mds} {F : FS} (Fn : Fun K x qual st f fd) (Sc : FnScope N ps (defScope st)) (hnp : ps.length ≤ N.length)
    (h : ∀ (cdv : Value) (A : Around) (outer : List PySem.Env) (s : Shared) (H : Hp) (E : XK), Room k (A.deeper (PyProof.Rows.envOfC qual (defScope st) s.heap.objs.size f cdv)) →
      JSs (cxOf (L2.CX P w) P w K mg base N qual (defScope st) f cdv A outer s H E) (fun cls d _ H => E cls d H) ⟨[], [], md⟩ (msh N.length) m' (defBody st) F) :
    FnOk P w K mg base (L2.CX P w) (k + 1) f fd ps (spD K mg ps.length md (runF N.length md F)) := by
  refine Fn.okX Sc (fun vs H Q E hsp => ?_) (fun cdv A outer s H vs Q E hr hsp => ?_)
  · obtain ⟨S, ds, hs, rv, hp⟩ := hsp
    rw [rv.len]
    exact hp.chkd.1
  · obtain ⟨S, ds, hs, rv, hp⟩ := hsp
    obtain ⟨hl, hp⟩ := hp.chkd
    refine ⟨_, (h cdv A outer s H E hr).ps, S, H, startE N.length ds, ⟨S, fun _ => [], Step.refl hs, ⟨?_, fun i d e => ?_, fun i d e => List.nodup_nil, fun i j d e _ _ _ a ha => nomatch ha⟩, fun i d e a ha => nomatch ha⟩, ?_⟩
    · unfold startE L2.start
      rw [List.length_append, List.length_append, List.length_map, List.length_map, List.length_replicate, List.length_replicate, rv.len]
    · unfold startE at e
      by_cases hi : i < ds.length
      · rw [List.getElem?_append_left (by rw [List.length_map]; exact hi), List.getElem?_map, List.getElem?_eq_getElem hi] at e
        have e' : ds[i] = d := by injection e with e; injection e
        obtain ⟨v, ev, r⟩ := rv.get (List.getElem?_eq_getElem hi)
        refine ⟨v, ?_, ?_⟩
        · unfold L2.start
          rw [List.getElem?_append_left (by rw [List.length_map, rv.len]; exact hi), List.getElem?_map, ev]
          rfl
        · rw [mdAt_msh, ← e']
          exact ⟨r, rfl⟩
      · rw [List.getElem?_append_right (by rw [List.length_map]; omega), List.getElem?_replicate] at e
        split at e <;> cases e
    · unfold runF at hp
      cases ef : F (startE N.length ds) with
      | ok o =>
        rw [ef] at hp
        cases o with
        | nx ρ =>
          intro σ' H' ⟨S', F', st'⟩
          simp only at hp
          split at hp
          · rename_i hmd
            subst hmd
            exact hp .non S' H' [] st'.1 ⟨.non, rfl⟩ List.nodup_nil (fun a z => nomatch z)
          · exact hp.elim
        | rt d => exact fun v H' ⟨S', fp, s', o', n', f'⟩ => hp v S' H' fp s' o' n' f'
        | bk ρ => exact hp.elim
        | ct ρ => exact hp.elim
        | xc c fs ρ => exact fun σ' S' F' H' cls dd st' x' => hp S' H' cls dd st'.1 x'
      | ex c fs => rw [ef] at hp; exact hp.elim
      | er => rw [ef] at hp; exact hp.elim
/-- a def does what g does, where f does what g does -/
theorem fn_as {k : Nat} {f : Addr} {fd : FuncData} {ps : List Str} {np : Nat} {md : Md} {g g' : List D → Res D} (G : FnOk P w K mg base (L2.CX P w) k f fd ps (spD K mg np md g)) (h : ∀ ds d, g' ds = d → g' ds ≠ .er → g ds = d) : FnOk P w K mg base (L2.CX P w) k f fd ps (spD K mg np md g') :=
  G.imp fun vs H Q E hsp => by
    obtain ⟨S, ds, hs, rv, hp⟩ := hsp
    obtain ⟨hl, hp⟩ := hp.chkd
    refine ⟨S, ds, hs, rv, ?_⟩
    unfold chk
    rw [if_pos hl]
    cases eg : g' ds with
    | ok d => rw [h ds _ eg (by rw [eg]; exact fun z => nomatch z)]; rw [eg] at hp; exact hp
    | ex c fs => rw [h ds _ eg (by rw [eg]; exact fun z => nomatch z)]; rw [eg] at hp; exact hp
    | er => rw [eg] at hp; exact hp.elim
end
section
variable {X : Cx} {E : WX} {m : Mds} {md : Md} {a b e : Expr} {es : List Expr} {fa fb : Env → Res D} {fs : Env → Res (List D)} {pos p : Pos} {x : Str} {k np : Nat} {f : Addr} {fd : FuncData} {ps : List Str} {g : List D → Res D}
/-- the def of this name keeps its promise -/
def Keeps (P : Program) (w : World) (K : PySem.W.Frag) (mg : Str → Option Value) (base : Heap) (x : Str) (k : Nat) (ps : List Str) (np : Nat) (md : Md) (g : List D → Res D) : Prop :=
  ∃ f fd, mg x = some (.ref f) ∧ PySem.W.keepIn K (.ref f) = true ∧ Binds K fd ps [] ∧ FnOk P w K mg base (L2.CX P w) k f fd ps (spD K mg np md g)
/-- the def of this name as it stands behind the top -/
def DefAt (K : PySem.W.Frag) (mg : Str → Option Value) (x qual : Str) (st : Stmt) (ps : List Str) : Prop := ∃ f fd, Fun K x qual st f fd ∧ Binds K fd ps [] ∧ mg x = some (.ref f)
theorem keeps_of {P : Program} {w : World} {K : PySem.W.Frag} {mg : Str → Option Value} {base : Heap} {x qual : Str} {st : Stmt} {ps N : List Str} {k : Nat} {md : Md} {F : FS} (dA : DefAt K mg x qual st ps) (Sc : FnScope N ps (defScope st)) (hnp : ps.length ≤ N.length)
    (h : ∀ (f : Addr) (cdv : Value) (A : Around) (outer : List PySem.Env) (s : Shared) (H : Hp) (E : XK), Room k (A.deeper (PyProof.Rows.envOfC qual (defScope st) s.heap.objs.size f cdv)) →
      JSs (cxOf (L2.CX P w) P w K mg base N qual (defScope st) f cdv A outer s H E) (fun cls d _ H => E cls d H) ⟨[], [], md⟩ (msh N.length) (msh N.length) (defBody st) F) : Keeps P w K mg base x (k + 1) ps ps.length md (runF N.length md F) := by
  obtain ⟨f, fd, Fn, bd, gl⟩ := dA
  exact ⟨f, fd, gl, Fn.kp, bd, fn_ok Fn Sc hnp (h f)⟩
/-- of what never gives anything -/
theorem keeps_er {P : Program} {w : World} {K : PySem.W.Frag} {mg : Str → Option Value} {base : Heap} {x qual : Str} {st : Stmt} {ps : List Str} {k np : Nat} {md : Md} (dA : DefAt K mg x qual st ps) : Keeps P w K mg base x k ps np md (fun _ => .er) := by
  obtain ⟨f, fd, Fn, bd, gl⟩ := dA
  have no : ∀ vs H Q E, spD K mg np md (fun _ => .er) vs H Q E → False := fun vs H Q E ⟨S, ds, hs, rv, hp⟩ => hp.chkd.2
  exact ⟨f, fd, gl, Fn.kp, bd, ⟨fun vs H Q E h => (no vs H Q E h).elim, fun A outer s H args us vs Q E hr he hb hv h => (no vs H Q E h).elim⟩⟩
theorem Keeps.as {P : Program} {w : World} {K : PySem.W.Frag} {mg : Str → Option Value} {base : Heap} {x : Str} {ps : List Str} {k np : Nat} {md : Md} {g g' : List D → Res D} (G : Keeps P w K mg base x k ps np md g) (h : ∀ ds d, g' ds = d → g' ds ≠ .er → g ds = d) : Keeps P w K mg base x k ps np md g' := by
  obtain ⟨f, fd, e1, e2, e3, G⟩ := G
  exact ⟨f, fd, e1, e2, e3, fn_as G h⟩
theorem Keeps.mono {P : Program} {w : World} {K : PySem.W.Frag} {mg : Str → Option Value} {base : Heap} {x : Str} {ps : List Str} {k k' np : Nat} {md : Md} {g : List D → Res D} (G : Keeps P w K mg base x k ps np md g) (h : k ≤ k') : Keeps P w K mg base x k' ps np md g := by
  obtain ⟨f, fd, e1, e2, e3, G⟩ := G
  exact ⟨f, fd, e1, e2, e3, G.mono h⟩
theorem je_call (G : Keeps X.prog X.w X.K X.mg X.base x k ps np md g) (hr : Room k X.A) (tk : Takes X E)
    (ha : JA X E m (e :: es) fs) (hg : Gl X x := by rfl) (hdb : (x == ("__debug__" : Str)) = false := by decide) (he : starEach (e :: es) X.env = (false, eval e X.env) :: starEach es X.env := by rfl) (hpl : (backTo pos (starEach es X.env)).any (·.1) = false := by rfl) :
    JE X E m md (.Call (.Name x p) (e :: es) [] pos) (fOn (chk np g) fs) := by
  obtain ⟨f, fd, hm, hk, hb, G⟩ := G
  refine ⟨PEimp (pe_callS G hr hg hm hk hb (fun σ => passAt tk σ) ha.pa hdb he hpl) fun σ H Q h => ?_⟩
  obtain ⟨S, ρ, hm, hp⟩ := h
  exact ⟨S, ρ, hm, (Post.bind hp).imp fun ds S1 H1 s1 h1 vs rs => ⟨S1, ds, s1.sub, rs, h1⟩⟩
/-- an own new list that is not kept as one's own -/
theorem je_share (h : JE X E m md e fa) : JE X E m .sh e fa := by
  refine ⟨PEimp h.pe fun σ H Q q => ?_⟩
  obtain ⟨S, ρ, hm, hp⟩ := q
  refine ⟨S, ρ, hm, ?_⟩
  cases ef : fa ρ with
  | ok d =>
    rw [ef] at hp
    intro v S1 H1 fp s1 o hn hf
    let A : Addr → Prop := fun a => a ∈ fp
    have ho : ∀ a, A a → S1 a = none := fun a ha => (o.out ha).1
    refine hp v (take S1 H1 A) H1 [] ⟨s1.hh, s1.ss.trans (take_same s1.sub ho), take_sub s1.sub, fun a x => ?_⟩ ⟨o.shared s1.sub ho fun a ha => ha, rfl⟩ List.nodup_nil (fun a z => nomatch z)
    by_cases z : A a
    · exact .inr (hf a z)
    · rw [take_out z] at x
      exact s1.new a x
  | ex c fs => rw [ef] at hp; exact hp
  | er => rw [ef] at hp; exact hp.elim
end
/-! ### built-in functions -/
section
variable {K : PySem.W.Frag} {mg : Str → Option Value}
theorem repl1 {S : Hp} {vs : List V} {d : D} (r : RepL K mg S vs [d]) : ∃ v, vs = [v] ∧ Rep K mg S v d := by
  match vs, r with
  | [], r => have := r.len; simp at this
  | [v], r => exact ⟨v, rfl, r.head⟩
  | _ :: _ :: _, r => have := r.len; simp at this
theorem repl2 {S : Hp} {vs : List V} {d e : D} (r : RepL K mg S vs [d, e]) : ∃ v w, vs = [v, w] ∧ Rep K mg S v d ∧ Rep K mg S w e := by
  match vs, r with
  | [], r => have := r.len; simp at this
  | [v], r => have := r.len; simp at this
  | [v, w], r => exact ⟨v, w, rfl, r.head, r.tail.head⟩
  | _ :: _ :: _ :: _, r => have := r.len; simp at this
/-- a rule of one argument -/
def on1 (g : D → Res D) : List D → Res D
  | [d] => g d
  | _ => .er
def on2 (g : D → D → Res D) : List D → Res D
  | [d, e] => g d e
  | _ => .er
theorem calld1 {md : Md} {r : List V → Hp → VK → Prop} {g : D → Res D} (h : ∀ (E : XK) (S H : Hp) (x : V) (d : D) (Q : VK), Same S H → Rep K mg S x d → Post K mg E S H md (g d) Q → r [x] H Q) : CallD K mg md r (on1 g) := by
  intro E S H xs ds Q hs rv hp
  match ds with
  | [] => exact hp.elim
  | [d] =>
    obtain ⟨v, rfl, rd⟩ := repl1 rv
    exact h E S H v d Q hs rd hp
  | _ :: _ :: _ => exact hp.elim
theorem calld2 {md : Md} {r : List V → Hp → VK → Prop} {g : D → D → Res D} (h : ∀ (E : XK) (S H : Hp) (x y : V) (d e : D) (Q : VK), Same S H → Rep K mg S x d → Rep K mg S y e → Post K mg E S H md (g d e) Q → r [x, y] H Q) : CallD K mg md r (on2 g) := by
  intro E S H xs ds Q hs rv hp
  match ds with
  | [] => exact hp.elim
  | [d] => exact hp.elim
  | [d, e] =>
    obtain ⟨v, w, rfl, rd, re⟩ := repl2 rv
    exact h E S H v w d e Q hs rd re hp
  | _ :: _ :: _ :: _ => exact hp.elim
def dLen : D → Res D
  | .lst xs => .ok (.int xs.length)
  | .frl xs => .ok (.int xs.length)
  | .tup xs => .ok (.int xs.length)
  | .str z => if szOk z.length = true then .ok (.int z.length) else .er
  | _ => .er
theorem calld_len : CallD K mg .sh (fun xs H Q => ∃ x n, xs = [x] ∧ LenV K x H n ∧ Q (.int n) H) (on1 dLen) := calld1 fun E S H x d Q hs rx hp => by
  cases d with
  | lst ds =>
    obtain ⟨a, vs, rfl, ha, rv⟩ := rx.of_lst
    exact ⟨_, vs.length, rfl, .inl ⟨_, .inl (.inl (hs _ _ ha)), rfl⟩, by rw [rv.len]; exact Post.val hp hs (.int _)⟩
  | frl ds =>
    obtain ⟨a, vs, rfl, ha, rv⟩ := rx.of_frl
    exact ⟨_, vs.length, rfl, .inl ⟨_, same_l hs ha, rfl⟩, by rw [rv.len]; exact Post.val hp hs (.int _)⟩
  | tup ds =>
    obtain ⟨a, vs, rfl, ha, rv⟩ := rx.of_tup
    exact ⟨_, vs.length, rfl, .inr ⟨_, same_t hs ha, rfl⟩, by rw [rv.len]; exact Post.val hp hs (.int _)⟩
  | str z =>
    obtain ⟨hz, hp⟩ := Post.of_if hp
    cases rx
    exact ⟨_, z.length, rfl, ⟨szOk_ok hz, rfl⟩, hp.val hs (.int _)⟩
  | _ => exact hp.elim
def dInt : D → Res D
  | .int i => .ok (.int i)
  | .bl b => .ok (.int (if b then 1 else 0))
  | _ => .er
def dAbs : D → Res D
  | .int i => .ok (.int (if i < 0 then -i else i))
  | _ => .er
def dMax2 : D → D → Res D
  | .int i, .int j => .ok (.int (if j > i then j else i))
  | _, _ => .er
def dMin2 : D → D → Res D
  | .int i, .int j => .ok (.int (if j < i then j else i))
  | _, _ => .er
end
section
variable {X : Cx} {E : WX} {m : Mds} {md : Md} {a b e : Expr} {es : List Expr} {fs : Env → Res (List D)} {pos p : Pos}
theorem je_len (hm : X.mg "len" = none) (ha : JA X E m [e] fs) (hg : Gl X "len" := by rfl) (he : starEach [e] X.env = (false, eval e X.env) :: starEach [] X.env := by rfl) : JE X E m .sh (.Call (.Name "len" p) [e] [] pos) (fOn (on1 dLen) fs) :=
  je_callB call_len calld_len hm ha hg boot_len (by decide) (by decide) he (by rfl)
theorem je_int_ (hm : X.mg "int" = none) (ha : JA X E m [e] fs) (hg : Gl X "int" := by rfl) (he : starEach [e] X.env = (false, eval e X.env) :: starEach [] X.env := by rfl) : JE X E m .sh (.Call (.Name "int" p) [e] [] pos) (fOn (on1 dInt) fs) :=
  je_callTy call_int1 (calld1 fun E S H x d Q hs rx hp => by
    cases d with
    | int i => cases rx; exact .inl ⟨i, rfl, Post.val hp hs (.int _)⟩
    | bl i => cases rx; exact .inr ⟨i, rfl, Post.val hp hs (.int _)⟩
    | _ => exact hp.elim) hm ha hg (by decide +kernel) (by decide) (by decide) he (by rfl)
theorem je_abs (hm : X.mg "abs" = none) (ha : JA X E m [e] fs) (hg : Gl X "abs" := by rfl) (he : starEach [e] X.env = (false, eval e X.env) :: starEach [] X.env := by rfl) : JE X E m .sh (.Call (.Name "abs" p) [e] [] pos) (fOn (on1 dAbs) fs) :=
  je_callB call_abs (calld1 fun E S H x d Q hs rx hp => by
    cases d with
    | int i => cases rx; exact ⟨i, rfl, Post.val hp hs (.int _)⟩
    | _ => exact hp.elim) hm ha hg (by decide +kernel) (by decide) (by decide) he (by rfl)
theorem je_max2 (hm : X.mg "max" = none) (ha : JA X E m [a, b] fs) (hc : X.calm = true := by rfl) (hg : Gl X "max" := by rfl) (he : starEach [a, b] X.env = (false, eval a X.env) :: starEach [b] X.env := by rfl) (hpl : (backTo pos (starEach [b] X.env)).any (·.1) = false := by rfl) : JE X E m .sh (.Call (.Name "max" p) [a, b] [] pos) (fOn (on2 dMax2) fs) :=
  je_callB (call_max2 hc) (calld2 fun E S H x y d e Q hs rx ry hp => by
    cases d with
    | int i =>
      cases e with
      | int j => cases rx; cases ry; exact ⟨i, j, rfl, Post.val hp hs (.int _)⟩
      | _ => exact hp.elim
    | _ => exact hp.elim) hm ha hg (by decide +kernel) (by decide) (by decide) he hpl
theorem je_min2 (hm : X.mg "min" = none) (ha : JA X E m [a, b] fs) (hc : X.calm = true := by rfl) (hg : Gl X "min" := by rfl) (he : starEach [a, b] X.env = (false, eval a X.env) :: starEach [b] X.env := by rfl) (hpl : (backTo pos (starEach [b] X.env)).any (·.1) = false := by rfl) : JE X E m .sh (.Call (.Name "min" p) [a, b] [] pos) (fOn (on2 dMin2) fs) :=
  je_callB (call_min2 hc) (calld2 fun E S H x y d e Q hs rx ry hp => by
    cases d with
    | int i =>
      cases e with
      | int j => cases rx; cases ry; exact ⟨i, j, rfl, Post.val hp hs (.int _)⟩
      | _ => exact hp.elim
    | _ => exact hp.elim) hm ha hg (by decide +kernel) (by decide) (by decide) he hpl
end
end Da
namespace Da
open PySem PySem.Spec L2
/-! ### data compared -/
mutual
def D.py : D → Option PyData
  | .non => some .none
  | .bl b => some (.bool b)
  | .int i => some (.int i)
  | .str x => some (.str x)
  | .lst xs => match D.pys xs with
    | some ys => some (.list ys)
    | none => none
  | .tup xs => match D.pys xs with
    | some ys => some (.tuple ys)
    | none => none
  | _ => none
def D.pys : List D → Option (List PyData)
  | [] => some []
  | x :: xs => match D.py x, D.pys xs with
    | some y, some ys => some (y :: ys)
    | _, _ => none
end
section
variable {K : PySem.W.Frag} {mg : Str → Option Value} {S : Hp}
mutual
theorem dp_of : ∀ (d : D) (v : V) (y : PyData), Rep K mg S v d → D.py d = some y → Dp K S v y
  | .non, v, y, h, e => by cases h; cases e; exact .non
  | .bl b, v, y, h, e => by cases h; cases e; exact .bl b
  | .int i, v, y, h, e => by cases h; cases e; exact .int i
  | .str x, v, y, h, e => by cases h; cases e; exact .str x
  | .lst xs, v, y, h, e => by
    unfold D.py at e
    split at e
    · rename_i ys ey
      cases e
      obtain ⟨a, vs, rfl, ha, r⟩ := h.of_lst
      exact .lst (.inl (.inl ha)) (dps_of xs vs ys r ey)
    · cases e
  | .tup xs, v, y, h, e => by
    unfold D.py at e
    split at e
    · rename_i ys ey
      cases e
      obtain ⟨a, vs, rfl, ha, r⟩ := h.of_tup
      exact .tup ha (dps_of xs vs ys r ey)
    · cases e
  | .frl xs, v, y, h, e => by simp [D.py] at e
  | .dic ks vs, v, y, h, e => by simp [D.py] at e
  | .dit ks vs, v, y, h, e => by simp [D.py] at e
  | .obj c ns vs, v, y, h, e => by simp [D.py] at e
theorem dps_of : ∀ (ds : List D) (vs : List V) (ys : List PyData), RepL K mg S vs ds → D.pys ds = some ys → DpAll K S vs ys
  | [], vs, ys, r, e => by
    cases e
    rw [r.nil_iff.mpr rfl]
    exact .nil
  | d :: ds, vs, ys, r, e => by
    unfold D.pys at e
    split at e
    · rename_i y ys' e1 e2
      cases e
      match vs, r with
      | [], r => have := r.len; simp at this
      | v :: vs, r => exact .cons (dp_of d v y r.head e1) (dps_of ds vs ys' r.tail e2)
    · cases e
end
theorem dp_mono {H : Hp} (h : Same S H) : ∀ {v : V} {y : PyData}, Dp K S v y → Dp K H v y := fun {v y} x => Dp.rec (motive_1 := fun v y _ => Dp K H v y) (motive_2 := fun vs ys _ => DpAll K H vs ys)
  .non .bl .int .str (fun a _ ih => .lst (same_l h a) ih) (fun a _ ih => .tup (same_t h a) ih) .nil (fun _ _ a b => .cons a b) x
end
/-- are they equal -/
def eqD (x y : D) : Res Bool := match D.py x, D.py y with
  | some a, some b => if (SeqAt.shaped a && SeqAt.shaped b) = true then .ok (PyData.eqv a b) else .er
  | _, _ => .er
def dEq (x y : D) : Res D := (eqD x y).bind fun b => .ok (.bl b)
def dNe (x y : D) : Res D := (eqD x y).bind fun b => .ok (.bl (!b))
/-- is one among them -/
def inD (x : D) (ys : List D) : Res Bool := match D.py x, D.pys ys with
  | some a, some bs => if (SeqAt.shaped a && SeqAt.shaped (.list bs)) = true then .ok (bs.any fun z => PyData.eqv z a) else .er
  | _, _ => .er
def dIn (x y : D) : Res D := match y with
  | .lst ys => (inD x ys).bind fun b => .ok (.bl b)
  | .tup ys => (inD x ys).bind fun b => .ok (.bl b)
  | _ => .er
def dNotIn (x y : D) : Res D := match y with
  | .lst ys => (inD x ys).bind fun b => .ok (.bl (!b))
  | .tup ys => (inD x ys).bind fun b => .ok (.bl (!b))
  | _ => .er
section
variable {K : PySem.W.Frag} {mg : Str → Option Value} {E : XK} {S H : Hp}
theorem eqD_ok {x y : D} {r : Bool → Res D} {Q : VK} (h : Post K mg E S H .sh ((eqD x y).bind r) Q) : ∃ a b, D.py x = some a ∧ D.py y = some b ∧ SeqAt.shaped a = true ∧ SeqAt.shaped b = true ∧ Post K mg E S H .sh (r (PyData.eqv a b)) Q := by
  unfold eqD at h
  split at h
  · rename_i a b ea eb
    split at h
    · rename_i hs
      have hs := Bool.and_eq_true_iff.mp hs
      exact ⟨a, b, ea, eb, hs.1, hs.2, h⟩
    · exact h.elim
  · exact h.elim
theorem inD_ok {x : D} {ys : List D} {r : Bool → Res D} {Q : VK} (h : Post K mg E S H .sh ((inD x ys).bind r) Q) : ∃ a bs, D.py x = some a ∧ D.pys ys = some bs ∧ SeqAt.shaped a = true ∧ SeqAt.shaped (.list bs) = true ∧ Post K mg E S H .sh (r (bs.any fun z => PyData.eqv z a)) Q := by
  unfold inD at h
  split at h
  · rename_i a b ea eb
    split at h
    · rename_i hs
      have hs := Bool.and_eq_true_iff.mp hs
      exact ⟨a, b, ea, eb, hs.1, hs.2, h⟩
    · exact h.elim
  · exact h.elim
theorem opd_eq : OpD K mg .sh (rEqD K) dEq := by
  intro E S H x y dx dy Q hs rx ry h
  obtain ⟨a, b, ea, eb, sa, sb, h⟩ := eqD_ok h
  exact ⟨a, b, dp_mono hs (dp_of dx x a rx ea), dp_mono hs (dp_of dy y b ry eb), sa, sb, Post.val h hs (.bl _)⟩
theorem opd_ne : OpD K mg .sh (rNeD K) dNe := by
  intro E S H x y dx dy Q hs rx ry h
  obtain ⟨a, b, ea, eb, sa, sb, h⟩ := eqD_ok h
  exact ⟨a, b, dp_mono hs (dp_of dx x a rx ea), dp_mono hs (dp_of dy y b ry eb), sa, sb, Post.val h hs (.bl _)⟩
end
theorem canLayL {bs : List PyData} (h : SeqAt.shaped (.list bs) = true) : PyData.canLayAll0 bs = true := by
  have := SeqAt.canLay_of_shaped h
  unfold PyData.canLay0 at this
  exact this
section
variable {X : Cx}
def rInT (K : PySem.W.Frag) : R2 := fun x y H Q => ∃ d ds, Dp K H x d ∧ Dp K H y (.tuple ds) ∧ SeqAt.shaped d = true ∧ SeqAt.shaped (.list ds) = true ∧ Q (.bl (ds.any fun z => PyData.eqv z d)) H
def rNotInT (K : PySem.W.Frag) : R2 := fun x y H Q => ∃ d ds, Dp K H x d ∧ Dp K H y (.tuple ds) ∧ SeqAt.shaped d = true ∧ SeqAt.shaped (.list ds) = true ∧ Q (.bl (!ds.any fun z => PyData.eqv z d)) H
theorem room_in {A : Around} {d : PyData} {ds : List PyData} (hd : SeqAt.shaped d = true) (hu : A.units + 65 < cLine) : A.units + 1 + min (PyData.depthAll ds) d.depth < cLine := by
  have h1 := SeqAt.depth_of_shaped hd
  have h2 := Nat.min_le_right (PyData.depthAll ds) d.depth
  omega
theorem op_inT (hu : X.A.units + 65 < cLine) : OpR X (compareOp .In) (rInT X.K) := fun pins s σ H x y v u Q I rx ry h => by
  obtain ⟨d, ds, hd, he, sd, se, q⟩ := h
  obtain ⟨as, r1⟩ := Dp.reads I d x v hd rx
  obtain ⟨bs, r2⟩ := Dp.reads I (.tuple ds) y u he ry
  exact SeqAt.in_tuple_reads r2 r1 (canLayL se) (SeqAt.canLay_of_shaped sd) (room_in sd hu) ⟨.bl _, H, I, rfl, q⟩
theorem op_notInT (hu : X.A.units + 65 < cLine) : OpR X (compareOp .NotIn) (rNotInT X.K) := fun pins s σ H x y v u Q I rx ry h => by
  obtain ⟨d, ds, hd, he, sd, se, q⟩ := h
  obtain ⟨as, r1⟩ := Dp.reads I d x v hd rx
  obtain ⟨bs, r2⟩ := Dp.reads I (.tuple ds) y u he ry
  exact SeqAt.notIn_tuple_reads r2 r1 (canLayL se) (SeqAt.canLay_of_shaped sd) (room_in sd hu) ⟨.bl _, H, I, rfl, q⟩
end
section
variable {K : PySem.W.Frag} {mg : Str → Option Value}
theorem pys_lst {ys : List D} {bs : List PyData} (h : D.pys ys = some bs) : D.py (.lst ys) = some (.list bs) := by unfold D.py; rw [h]
theorem pys_tup {ys : List D} {bs : List PyData} (h : D.pys ys = some bs) : D.py (.tup ys) = some (.tuple bs) := by unfold D.py; rw [h]
theorem opd_in : OpD K mg .sh (fun x y H Q => rInD K x y H Q ∨ rInT K x y H Q) dIn := by
  intro E S H x y dx dy Q hs rx ry h
  cases dy with
  | lst ys =>
    obtain ⟨a, bs, ea, eb, sa, sb, h⟩ := inD_ok h
    exact .inl ⟨a, bs, dp_mono hs (dp_of dx x a rx ea), dp_mono hs (dp_of _ y _ ry (pys_lst eb)), sa, sb, Post.val h hs (.bl _)⟩
  | tup ys =>
    obtain ⟨a, bs, ea, eb, sa, sb, h⟩ := inD_ok h
    exact .inr ⟨a, bs, dp_mono hs (dp_of dx x a rx ea), dp_mono hs (dp_of _ y _ ry (pys_tup eb)), sa, sb, Post.val h hs (.bl _)⟩
  | _ => exact h.elim
theorem opd_notIn : OpD K mg .sh (fun x y H Q => rNotInD K x y H Q ∨ rNotInT K x y H Q) dNotIn := by
  intro E S H x y dx dy Q hs rx ry h
  cases dy with
  | lst ys =>
    obtain ⟨a, bs, ea, eb, sa, sb, h⟩ := inD_ok h
    exact .inl ⟨a, bs, dp_mono hs (dp_of dx x a rx ea), dp_mono hs (dp_of _ y _ ry (pys_lst eb)), sa, sb, Post.val h hs (.bl _)⟩
  | tup ys =>
    obtain ⟨a, bs, ea, eb, sa, sb, h⟩ := inD_ok h
    exact .inr ⟨a, bs, dp_mono hs (dp_of dx x a rx ea), dp_mono hs (dp_of _ y _ ry (pys_tup eb)), sa, sb, Post.val h hs (.bl _)⟩
  | _ => exact h.elim
/-! is None, is True, is False -/
def dIsN : D → Res D
  | .non => .ok (.bl true)
  | _ => .ok (.bl false)
def dIsB (c : Bool) : D → Res D
  | .bl b => .ok (.bl (b == c))
  | _ => .ok (.bl false)
def dNot1 (g : D → Res D) : D → Res D := fun d => (g d).bind fun b => match b with
  | .bl b => .ok (.bl (!b))
  | _ => .er
theorem non_iff {S : Hp} {v : V} {d : D} (r : Rep K mg S v d) : dIsN d = .ok (.bl (decide (v = .non))) := by
  cases r <;> rfl
theorem bl_iff {S : Hp} {v : V} {d : D} {c : Bool} (r : Rep K mg S v d) : dIsB c d = .ok (.bl (decide (v = .bl c))) := by
  cases r with
  | bl b => cases b <;> cases c <;> rfl
  | _ => rfl
end
section
variable {X : Cx}
def rIsB1 (c : Bool) : R2 := fun x y H Q => y = .bl c ∧ Q (.bl (decide (x = .bl c))) H
def rNotB1 (c : Bool) : R2 := fun x y H Q => y = .bl c ∧ Q (.bl (!decide (x = .bl c))) H
theorem plainB {x : V} {v : Value} {c : Bool} (r : RelV x v) : plainIs v (.bool c) = true ∧ (decide (x = .bl c) = (v == .bool c)) := by
  cases x with
  | non => cases r; exact ⟨rfl, rfl⟩
  | bl b => cases r; cases b <;> cases c <;> exact ⟨rfl, rfl⟩
  | int i => obtain ⟨t, rfl⟩ := r; exact ⟨rfl, rfl⟩
  | str i => obtain ⟨t, rfl⟩ := r; exact ⟨rfl, rfl⟩
  | byt i => obtain ⟨t, rfl⟩ := r; exact ⟨rfl, rfl⟩
  | flt i => obtain ⟨t, rfl⟩ := r; exact ⟨rfl, rfl⟩
  | ref a => cases r; exact ⟨rfl, rfl⟩
  | ty n => cases r; exact ⟨rfl, rfl⟩
theorem op_isB1 (c : Bool) : OpR X (compareOp .Is) (rIsB1 c) := fun pins s σ H x y v u Q I rx ry h => by
  obtain ⟨rfl, q⟩ := h
  cases ry
  obtain ⟨h1, h2⟩ := plainB (c := c) rx
  exact wpAny_is_plain h1 ⟨.bl _, H, I, by rw [← h2]; rfl, q⟩
theorem op_notB1 (c : Bool) : OpR X (compareOp .IsNot) (rNotB1 c) := fun pins s σ H x y v u Q I rx ry h => by
  obtain ⟨rfl, q⟩ := h
  cases ry
  obtain ⟨h1, h2⟩ := plainB (c := c) rx
  exact wpAny_isNot_plain h1 ⟨.bl _, H, I, by rw [← h2]; rfl, q⟩
end
section
variable {X : Cx} {E : WX} {m : Mds} {md : Md} {a b e : Expr} {es : List Expr} {fa fb : Env → Res D} {fs : Env → Res (List D)} {pos p pc : Pos} {k j : Nat}
/-- room for what asks no call's depth -/
def RmU (A : Around) : Prop := A.units + 200 < cLine
theorem _root_.L2.Room.u {A : Around} {k : Nat} (hr : Room k A) : RmU A := by have := hr.un; unfold RmU; omega
theorem hu65 {A : Around} (hr : RmU A) : A.units + 65 < cLine := by unfold RmU at hr; omega
theorem hu64 {A : Around} (hr : RmU A) : A.units + 64 < cLine := by unfold RmU at hr; omega
theorem je_eq (hr : RmU X.A) (ha : JE X E m .sh a fa) (hb : JE X E m .sh b fb) : JE X E m .sh (.Compare a [.Eq] [b] pos) (f2 dEq fa fb) := je_cmp (op_eqD (hu64 hr)) opd_eq ha hb (nomark _)
theorem je_ne (hr : RmU X.A) (ha : JE X E m .sh a fa) (hb : JE X E m .sh b fb) : JE X E m .sh (.Compare a [.NotEq] [b] pos) (f2 dNe fa fb) := je_cmp (op_neD (hu64 hr)) opd_ne ha hb (nomark _)
theorem je_in (hr : RmU X.A) (ha : JE X E m .sh a fa) (hb : JE X E m .sh b fb) (hm : behindInMarks .In b = false := by rfl) : JE X E m .sh (.Compare a [.In] [b] pos) (f2 dIn fa fb) := je_cmp (OpR.or (op_inD (hu65 hr)) (op_inT (hu65 hr))) opd_in ha hb hm
theorem je_notIn (hr : RmU X.A) (ha : JE X E m .sh a fa) (hb : JE X E m .sh b fb) (hm : behindInMarks .NotIn b = false := by rfl) : JE X E m .sh (.Compare a [.NotIn] [b] pos) (f2 dNotIn fa fb) := je_cmp (OpR.or (op_notInD (hu65 hr)) (op_notInT (hu65 hr))) opd_notIn ha hb hm
theorem jt_eq (hr : RmU X.A) (ha : JE X E m .sh a fa) (hb : JE X E m .sh b fb) : JT X E m (.Compare a [.Eq] [b] pos) (fB (f2 dEq fa fb)) := jt_cmp (op_eqD (hu64 hr)) opd_eq ha hb (nomark _)
theorem jt_ne (hr : RmU X.A) (ha : JE X E m .sh a fa) (hb : JE X E m .sh b fb) : JT X E m (.Compare a [.NotEq] [b] pos) (fB (f2 dNe fa fb)) := jt_cmp (op_neD (hu64 hr)) opd_ne ha hb (nomark _)
theorem jt_in (hr : RmU X.A) (ha : JE X E m .sh a fa) (hb : JE X E m .sh b fb) (hm : behindInMarks .In b = false := by rfl) : JT X E m (.Compare a [.In] [b] pos) (fB (f2 dIn fa fb)) := jt_cmp (OpR.or (op_inD (hu65 hr)) (op_inT (hu65 hr))) opd_in ha hb hm
theorem jt_notIn (hr : RmU X.A) (ha : JE X E m .sh a fa) (hb : JE X E m .sh b fb) (hm : behindInMarks .NotIn b = false := by rfl) : JT X E m (.Compare a [.NotIn] [b] pos) (fB (f2 dNotIn fa fb)) := jt_cmp (OpR.or (op_notInD (hu65 hr)) (op_notInT (hu65 hr))) opd_notIn ha hb hm
/-! is -/
theorem un_tE {K : PySem.W.Frag} {mg : Str → Option Value} {r : R2} {g : D → Res D} {c : V} {d0 : D} (hr : ∀ (E : XK) (S H : Hp) (x : V) (d : D) (Q : VK), Same S H → Rep K mg S x d → Post K mg E S H .sh (g d) Q → r x c H Q) {σ : L2.St} {H : Hp} {Q : VK}
    (h : tE K mg E m .sh (f1 g fa) σ H Q) : tOp r (tE K mg E m .sh fa) (tC c) σ H Q := by
  obtain ⟨S, ρ, hm, hp⟩ := h
  exact ⟨S, ρ, hm, (Post.bind hp).post fun dx v S1 H1 s1 r1 h1 => hr _ S1 H1 v dx Q s1.sub r1 h1⟩
theorem isN_ok {K : PySem.W.Frag} {mg : Str → Option Value} (E : XK) (S H : Hp) (x : V) (d : D) (Q : VK) (hs : Same S H) (r : Rep K mg S x d) (h : Post K mg E S H .sh (dIsN d) Q) : Q (.bl (decide (x = .non))) H := by
  rw [non_iff r] at h
  exact h.val hs (.bl _)
theorem notN_ok {K : PySem.W.Frag} {mg : Str → Option Value} (E : XK) (S H : Hp) (x : V) (d : D) (Q : VK) (hs : Same S H) (r : Rep K mg S x d) (h : Post K mg E S H .sh (dNot1 dIsN d) Q) : Q (.bl (!decide (x = .non))) H := by
  unfold dNot1 at h
  rw [non_iff r] at h
  exact Post.val h hs (.bl _)
theorem isB_ok {K : PySem.W.Frag} {mg : Str → Option Value} {c : Bool} (E : XK) (S H : Hp) (x : V) (d : D) (Q : VK) (hs : Same S H) (r : Rep K mg S x d) (h : Post K mg E S H .sh (dIsB c d) Q) : Q (.bl (decide (x = .bl c))) H := by
  rw [bl_iff r] at h
  exact h.val hs (.bl _)
theorem notB_ok {K : PySem.W.Frag} {mg : Str → Option Value} {c : Bool} (E : XK) (S H : Hp) (x : V) (d : D) (Q : VK) (hs : Same S H) (r : Rep K mg S x d) (h : Post K mg E S H .sh (dNot1 (dIsB c) d) Q) : Q (.bl (!decide (x = .bl c))) H := by
  unfold dNot1 at h
  rw [bl_iff r] at h
  exact Post.val h hs (.bl _)
theorem tT_of {K : PySem.W.Frag} {mg : Str → Option Value} {f : Env → Res D} {t : TE} (ht : ∀ σ H Q, tE K mg E m .sh f σ H Q → t σ H Q) {σ : L2.St} {H : Hp} {Q : Bool → Hp → Prop} (h : tT K mg E m (fB f) σ H Q) : tTest t σ H Q := by
  obtain ⟨S, ρ, hm, hp⟩ := h
  refine ht σ H _ ⟨S, ρ, hm, (PostW.bind hp).post fun d v S1 H1 s1 r k => ?_⟩
  cases d with
  | bl c => cases r; exact ⟨c, rfl, k S1 H1 (Step.refl s1.sub)⟩
  | _ => exact k.elim
theorem je_isN (ha : JE X E m .sh a fa) : JE X E m .sh (.Compare a [.Is] [.Constant .none j pc] pos) (f1 dIsN fa) := ⟨PEimp (pe_cmpR op_isN ha.pe pe_non (nomark _)) fun σ H Q h => un_tE (d0 := .non) (fun E S H x d Q hs r h => ⟨rfl, isN_ok E S H x d Q hs r h⟩) h⟩
theorem je_notN (ha : JE X E m .sh a fa) : JE X E m .sh (.Compare a [.IsNot] [.Constant .none j pc] pos) (f1 (dNot1 dIsN) fa) := ⟨PEimp (pe_cmpR op_notN ha.pe pe_non (nomark _)) fun σ H Q h => un_tE (d0 := .non) (fun E S H x d Q hs r h => ⟨rfl, notN_ok E S H x d Q hs r h⟩) h⟩
theorem je_isB {c : Bool} (ha : JE X E m .sh a fa) : JE X E m .sh (.Compare a [.Is] [.Constant (.bool c) j pc] pos) (f1 (dIsB c) fa) := ⟨PEimp (pe_cmpR (op_isB1 c) ha.pe pe_bl (nomark _)) fun σ H Q h => un_tE (d0 := .non) (fun E S H x d Q hs r h => ⟨rfl, isB_ok E S H x d Q hs r h⟩) h⟩
theorem je_notB {c : Bool} (ha : JE X E m .sh a fa) : JE X E m .sh (.Compare a [.IsNot] [.Constant (.bool c) j pc] pos) (f1 (dNot1 (dIsB c)) fa) := ⟨PEimp (pe_cmpR (op_notB1 c) ha.pe pe_bl (nomark _)) fun σ H Q h => un_tE (d0 := .non) (fun E S H x d Q hs r h => ⟨rfl, notB_ok E S H x d Q hs r h⟩) h⟩
theorem jt_isN (ha : JE X E m .sh a fa) : JT X E m (.Compare a [.Is] [.Constant .none j pc] pos) (fB (f1 dIsN fa)) := ⟨PTimp (pt_cmpR op_isN ha.pe pe_non (nomark _)) fun σ H Q h => tT_of (fun σ H Q h => un_tE (d0 := .non) (fun E S H x d Q hs r h => ⟨rfl, isN_ok E S H x d Q hs r h⟩) h) h⟩
theorem jt_notN (ha : JE X E m .sh a fa) : JT X E m (.Compare a [.IsNot] [.Constant .none j pc] pos) (fB (f1 (dNot1 dIsN) fa)) := ⟨PTimp (pt_cmpR op_notN ha.pe pe_non (nomark _)) fun σ H Q h => tT_of (fun σ H Q h => un_tE (d0 := .non) (fun E S H x d Q hs r h => ⟨rfl, notN_ok E S H x d Q hs r h⟩) h) h⟩
theorem jt_isB {c : Bool} (ha : JE X E m .sh a fa) : JT X E m (.Compare a [.Is] [.Constant (.bool c) j pc] pos) (fB (f1 (dIsB c) fa)) := ⟨PTimp (pt_cmpR (op_isB1 c) ha.pe pe_bl (nomark _)) fun σ H Q h => tT_of (fun σ H Q h => un_tE (d0 := .non) (fun E S H x d Q hs r h => ⟨rfl, isB_ok E S H x d Q hs r h⟩) h) h⟩
theorem jt_notB {c : Bool} (ha : JE X E m .sh a fa) : JT X E m (.Compare a [.IsNot] [.Constant (.bool c) j pc] pos) (fB (f1 (dNot1 (dIsB c)) fa)) := ⟨PTimp (pt_cmpR (op_notB1 c) ha.pe pe_bl (nomark _)) fun σ H Q h => tT_of (fun σ H Q h => un_tE (d0 := .non) (fun E S H x d Q hs r h => ⟨rfl, notB_ok E S H x d Q hs r h⟩) h) h⟩
end
/-! ### isinstance -/
def tyNm : D → Option String
  | .non => some "NoneType"
  | .bl _ => some "bool"
  | .int _ => some "int"
  | .str _ => some "str"
  | .lst _ => some "list"
  | .frl _ => some "list"
  | .tup _ => some "tuple"
  | .dic _ _ => some "dict"
  | .dit _ _ => some "dict"
  | .obj _ _ _ => none
  | .exc _ _ _ => none
def isTy (T : String) (d : D) : Res Bool := match tyNm d with
  | some a => (match kitB a T with
    | some b => .ok b
    | none => .er)
  | none => .er
def dIsi (T : String) (d : D) : Res D := (isTy T d).bind fun b => .ok (.bl b)
def dIsi2 (T U : String) (d : D) : Res D := (isTy T d).bind fun b => if b = true then .ok (.bl true) else (isTy U d).bind fun c => .ok (.bl c)
section
variable {K : PySem.W.Frag} {mg : Str → Option Value}
theorem tyx_of {S H : Hp} {v : V} {d : D} {a : String} (hs : Same S H) (r : Rep K mg S v d) (h : tyNm d = some a) : TyX K H v (.type a) := by
  cases r with
  | non => cases h; exact .base .non
  | bl b => cases h; exact .base (.bl b)
  | int b => cases h; exact .base (.int b)
  | str b => cases h; exact .base (.str b)
  | lst e => cases h; exact .base (.lst (hs _ _ e))
  | frl e =>
    cases h
    rcases e with (e | ⟨o, e⟩) | ⟨o, its, n, e, c, _⟩
    · exact .base (.lst (hs _ _ e))
    · exact .base (.frz (hs _ _ e))
    · exact .kList e c
  | tup e =>
    cases h
    rcases e with (e | ⟨o, e⟩) | ⟨o, its, n, e, c, _⟩
    · exact .base (.tup (hs _ _ e))
    · exact .fTuple (hs _ _ e)
    · exact .kTuple e c
  | dic e => cases h; exact .base (.dK (hs _ _ e))
  | dit e => cases h; exact .base (.dT (hs _ _ e))
  | exc => cases h
  | obj e => cases h
theorem isTy_ok {S H : Hp} {v : V} {d : D} {T : String} {b : Bool} (hs : Same S H) (r : Rep K mg S v d) (h : isTy T d = .ok b) : ∃ t, TyX K H v t ∧ PySem.W.kitOne K t (.type T) = some b := by
  unfold isTy at h
  split at h
  · rename_i a ea
    split at h
    · rename_i c ec
      injection h with h
      subst h
      exact ⟨.type a, tyx_of hs r ea, kit_ty ec⟩
    · cases h
  · cases h
end
section
variable {X : Cx} {E : WX} {m : Mds} {md : Md} {a b e : Expr} {es : List Expr} {fa fb : Env → Res D} {fs : Env → Res (List D)} {pos p p1 p2 p3 : Pos} {x1 : Nat}
theorem isTy_post {K : PySem.W.Frag} {mg : Str → Option Value} {E : XK} {S H : Hp} {T : String} {d : D} {r : Bool → Res D} {Q : VK} (h : Post K mg E S H .sh ((isTy T d).bind r) Q) : ∃ b, isTy T d = .ok b ∧ Post K mg E S H .sh (r b) Q := by
  cases e : isTy T d with
  | ok b => rw [e] at h; exact ⟨b, rfl, h⟩
  | ex c fs =>
    exfalso
    unfold isTy at e
    split at e
    · split at e <;> cases e
    · cases e
  | er => rw [e] at h; exact h.elim
theorem je_isi (T : String) {nT : Str} (hm : X.mg "isinstance" = none) (hT : X.mg nT = none) (ha : JE X E m .sh a fa) (hv : bootBuiltins nT = some (.type T) := by decide +kernel) (hg : Gl X "isinstance" := by rfl) (hgT : Gl X nT := by rfl) (hn : nT ≠ "__name__" := by decide) (hdb : (nT == ("__debug__" : Str)) = false := by decide)
    (he : starEach [a, .Name nT p2] X.env = (false, eval a X.env) :: starEach [.Name nT p2] X.env := by rfl) (he2 : starEach [.Name nT p2] X.env = (false, eval (.Name nT p2) X.env) :: starEach [] X.env := by rfl) (hpl : (backTo pos (starEach [.Name nT p2] X.env)).any (·.1) = false := by rfl) :
    JE X E m .sh (.Call (.Name "isinstance" p) [a, .Name nT p2] [] pos) (f1 (dIsi T) fa) := by
  refine ⟨PEimp (pe_callB call_isi hg hm (by decide +kernel) (pa_cons ha.pe (pa_cons (pe_bltn (v := .ty T) hgT hT hv rfl hn hdb) pa_nil he2) he) (by decide) (by decide) he hpl) fun σ H Q h => ?_⟩
  obtain ⟨S, ρ, hm, hp⟩ := h
  refine ⟨S, ρ, hm, (Post.bind hp).post fun d v S1 H1 s1 r k => ?_⟩
  obtain ⟨bb, eb, k⟩ := isTy_post k
  obtain ⟨t, ty, kt⟩ := isTy_ok s1.sub r eb
  exact ⟨v, .ty T, t, .type T, bb, rfl, .ty T, ty, kt, k.val s1.sub (.bl _)⟩
theorem je_isi2 (T U : String) {nT nU : Str} (hm : X.mg "isinstance" = none) (hT : X.mg nT = none) (hU : X.mg nU = none) (ha : JE X E m .sh a fa) (hv : bootBuiltins nT = some (.type T) := by decide +kernel) (hvU : bootBuiltins nU = some (.type U) := by decide +kernel) (hg : Gl X "isinstance" := by rfl)
    (hgT : Gl X nT := by rfl) (hgU : Gl X nU := by rfl) (hn : nT ≠ "__name__" := by decide) (hdb : (nT == ("__debug__" : Str)) = false := by decide) (hnU : nU ≠ "__name__" := by decide) (hdbU : (nU == ("__debug__" : Str)) = false := by decide)
    (he : starEach [a, .Tuple [.Name nT p2, .Name nU p3] x1 p1] X.env = (false, eval a X.env) :: starEach [.Tuple [.Name nT p2, .Name nU p3] x1 p1] X.env := by rfl)
    (he2 : starEach [.Tuple [.Name nT p2, .Name nU p3] x1 p1] X.env = (false, eval (.Tuple [.Name nT p2, .Name nU p3] x1 p1) X.env) :: starEach [] X.env := by rfl) (hpl : (backTo pos (starEach [.Tuple [.Name nT p2, .Name nU p3] x1 p1] X.env)).any (·.1) = false := by rfl)
    (ht1 : starEach [.Name nT p2, .Name nU p3] X.env = (false, eval (.Name nT p2) X.env) :: starEach [.Name nU p3] X.env := by rfl) (ht2 : starEach [.Name nU p3] X.env = (false, eval (.Name nU p3) X.env) :: starEach [] X.env := by rfl) :
    JE X E m .sh (.Call (.Name "isinstance" p) [a, .Tuple [.Name nT p2, .Name nU p3] x1 p1] [] pos) (f1 (dIsi2 T U) fa) := by
  refine ⟨PEimp (pe_callB call_isiT hg hm (by decide +kernel) (pa_cons ha.pe (pa_cons (pe_tup (pa_cons (pe_bltn (v := .ty T) hgT hT hv rfl hn hdb) (pa_cons (pe_bltn (v := .ty U) hgU hU hvU rfl hnU hdbU) pa_nil ht2) ht1)) pa_nil he2) he) (by decide) (by decide) he hpl) fun σ H Q h => ?_⟩
  obtain ⟨S, ρ, hm, hp⟩ := h
  refine ⟨S, ρ, hm, (Post.bind hp).post fun d v S1 H1 s1 r k => ⟨by show 2 ≤ sizeLine; decide, fun tp ntp => ?_⟩⟩
  obtain ⟨bb, eb, k⟩ := isTy_post k
  have s2 := Step.laid (o := .tup [V.ty T, V.ty U]) s1.sub ntp
  obtain ⟨t, ty, kt⟩ := isTy_ok (s1.sub.trans s2.hh) r eb
  cases bb with
  | true => exact ⟨v, tp, [.ty T, .ty U], t, [.type T, .type U], true, rfl, upd_same, .cons (.ty T) (.cons (.ty U) .nil), ty, kitAny_cons kt (fun z => nomatch z) (fun _ => rfl), (Post.step s2 k).val s2.sub (.bl _)⟩
  | false =>
    obtain ⟨cc, ec, k⟩ := isTy_post k
    have e' : tyNm d = tyNm d := rfl
    unfold isTy at eb ec
    split at eb
    · rename_i a' ea
      rw [ea] at ec
      have ec : (match kitB a' U with
        | some b => Res.ok b
        | none => .er) = .ok cc := ec
      split at eb
      · rename_i b1 k1
        split at ec
        · rename_i b2 k2
          cases eb; cases ec
          have ty' := tyx_of (s1.sub.trans s2.hh) r ea
          exact ⟨v, tp, [.ty T, .ty U], .type a', [.type T, .type U], _, rfl, upd_same, .cons (.ty T) (.cons (.ty U) .nil), ty', kitAny_cons (kit_ty k1) (fun _ => kitAny_cons (kit_ty k2) (fun h => by subst h; exact kitAny_nil) (fun h => h)) (fun z => nomatch z), (Post.step s2 k).val s2.sub (.bl _)⟩
        · cases ec
      · cases eb
    · cases eb
end
/-! ### what is one's own, looked at -/
def isSc : D → Bool
  | .non => true
  | .bl _ => true
  | .int _ => true
  | .str _ => true
  | _ => false
def fSc (f : Env → Res D) : Env → Res D := fun ρ => match f ρ with
  | .ok d => if isSc d = true then .ok d else .er
  | _ => .er
def fNx {α : Type} (f : Env → Res α) : Env → Res α := fun ρ => match f ρ with
  | .ok d => .ok d
  | _ => .er
section
variable {K : PySem.W.Frag} {mg : Str → Option Value} {m m1 : Mds} {S H : Hp} {σ : L2.St} {ρ : Env}
/-- all slots as shared ones -/
theorem EnvM.peek (h : EnvM K mg m S H σ ρ) (w : Weak m m1) : ∃ S', Same S S' ∧ EnvM K mg m1 S' H σ ρ := by
  obtain ⟨hs, F, e⟩ := h
  have st : StF K mg m (fun _ => none) (fun _ => none) S F σ ρ H := ⟨⟨(fun a o z => nomatch z), (fun a o z => nomatch z), hs, (fun a _ => .inr rfl)⟩, e, fun i d _ a _ => rfl⟩
  obtain ⟨S', F', st', ss⟩ := st.weak w
  exact ⟨S', ss, st'.envM⟩
theorem Rep.sc {S S' : Hp} {v : V} {d : D} (h : Rep K mg S v d) (hd : isSc d = true) : Rep K mg S' v d := by
  cases h with
  | non => exact .non
  | bl b => exact .bl b
  | int b => exact .int b
  | str b => exact .str b
  | _ => cases hd
end
section
variable {X : Cx} {E : WX} {m m1 : Mds} {md : Md} {a b e : Expr} {es : List Expr} {f fa fb : Env → Res D} {g : Env → Res Bool} {pos p : Pos} {x : Str}
theorem je_borrow (h : JE X E m1 .sh e f) (w : Weak m m1 := by first | exact Weak.of (by decide) | exact weak_sh _) : JE X E m .sh e (fSc f) := by
  refine ⟨PEimp h.pe fun σ H Q q => ?_⟩
  obtain ⟨S, ρ, hm, hp⟩ := q
  obtain ⟨S', ss, hm'⟩ := hm.peek w
  refine ⟨S', ρ, hm', ?_⟩
  unfold fSc at hp
  split at hp
  · rename_i d ed
    obtain ⟨hd, hp⟩ := Post.of_if hp
    rw [ed]
    intro v S1 H1 fp s1 o _ _
    exact hp v S H1 [] ⟨s1.hh, Same.refl _, hm.1.trans s1.hh, fun _ x => .inl x⟩ ⟨o.1.sc hd, rfl⟩ List.nodup_nil (fun a z => nomatch z)
  · exact hp.elim
theorem jt_borrow (h : JT X E m1 e g) (w : Weak m m1 := by first | exact Weak.of (by decide) | exact weak_sh _) : JT X E m e (fNx g) := by
  refine ⟨PTimp h.pt fun σ H Q q => ?_⟩
  obtain ⟨S, ρ, hm, hp⟩ := q
  obtain ⟨S', ss, hm'⟩ := hm.peek w
  refine ⟨S', ρ, hm', ?_⟩
  unfold fNx at hp
  split at hp
  · rename_i d ed
    rw [ed]
    intro S1 H1 s1
    exact hp S H1 ⟨s1.hh, Same.refl _, hm.1.trans s1.hh, fun _ x => .inl x⟩
  · exact hp.elim
/-- an item of an own list: shared data -/
theorem je_itemO (i : Nat) (hb : JE X E m .sh b fb) (hmd : mdAt m i = .ow := by rfl) (hN : X.N[i]? = some x := by rfl) (hv : Vis X.env.scope x := by first | exact Or.inl rfl | exact Or.inr (Or.inl rfl) | exact Or.inr (Or.inr rfl)) (hd : (x == ("__debug__" : Str)) = false := by decide)
    (hcd : (x == ("__classdict__" : Str)) = false := by decide) (hs : PlainIx b := by intro _ _; rfl) : JE X E m .sh (.Subscript (.Name x p) b pos) (f2 dIx (fV i) fb) := by
  refine ⟨PEimp (pe_ix ix_seq (pe_var hN hv hd hcd) hb.pe hs) fun σ H Q h => ?_⟩
  obtain ⟨S, ρ, hm, hp⟩ := h
  obtain ⟨hsub, F, e⟩ := id hm
  unfold f2 fV at hp
  split at hp
  · rename_i d ed
    obtain ⟨v, e1, o⟩ := e.at_ i d ed
    rw [hmd] at o
    obtain ⟨q, vs, ds, rfl, rfl, e3, e4, e5, e6⟩ := o
    have hp : Post X.K X.mg (WE E σ) S H .sh ((fb ρ).bind fun y => dIx (.lst ds) y) Q := hp
    refine ⟨_, e1, S, ρ, hm, (Post.bind hp).post fun dy y S1 H1 s1 r k => ?_⟩
    cases dy with
    | int j =>
      cases r
      simp only [dIx] at k
      split at k
      · rename_i d' ed'
        obtain ⟨v', ev, rv⟩ := e6.atI ed'
        exact .inl ⟨q, vs, j, v', rfl, rfl, .inl (.inl (s1.hh _ _ e5)), ev, k.val s1.sub (rv.mono s1.ss)⟩
      · exact k.elim
    | _ => exact k.elim
  · exact hp.elim
end
end Da
namespace Da
open PySem PySem.Spec L2
/-! ### truth -/
def trD : D → Res Bool
  | .non => .ok false
  | .bl b => .ok b
  | .int i => .ok (i != 0)
  | .str z => if szOk z.length = true then .ok ((z.length : Int) != 0) else .er
  | .lst xs => .ok (!xs.isEmpty)
  | .frl xs => .ok (!xs.isEmpty)
  | .tup xs => .ok (!xs.isEmpty)
  | .dic ks _ => .ok (!ks.isEmpty)
  | _ => .er
def fTr (f : Env → Res D) : Env → Res Bool := fun ρ => (f ρ).bind trD
section
variable {K : PySem.W.Frag} {mg : Str → Option Value}
theorem RepL.empty {S : Hp} {vs : List V} {ds : List D} (r : RepL K mg S vs ds) : (!ds.isEmpty) = !vs.isEmpty := by
  have := r.len
  cases vs with
  | nil =>
    cases ds with
    | nil => rfl
    | cons _ _ => simp at this
  | cons _ _ =>
    cases ds with
    | nil => simp at this
    | cons _ _ => rfl
theorem tru_of {S H : Hp} {v : V} {d : D} {b : Bool} (hs : Same S H) (r : Rep K mg S v d) (h : trD d = .ok b) : TruV K v H b := by
  cases d with
  | non => cases r; cases h; rfl
  | bl c => cases r; cases h; rfl
  | int c => cases r; cases h; rfl
  | str z =>
    cases r
    simp only [trD] at h
    split at h
    · rename_i hz
      cases h
      exact ⟨szOk_ok hz, rfl⟩
    · cases h
  | lst xs =>
    obtain ⟨a, vs, rfl, ha, rv⟩ := r.of_lst
    simp only [trD] at h
    cases h
    exact .inl ⟨vs, .inl (.inl (hs _ _ ha)), rv.empty⟩
  | frl xs =>
    obtain ⟨a, vs, rfl, ha, rv⟩ := r.of_frl
    simp only [trD] at h
    cases h
    exact .inl ⟨vs, same_l hs ha, rv.empty⟩
  | tup xs =>
    obtain ⟨a, vs, rfl, ha, rv⟩ := r.of_tup
    simp only [trD] at h
    cases h
    exact .inr (.inl ⟨vs, same_t hs ha, rv.empty⟩)
  | dic ks vs =>
    cases r with
    | dic e hl hi =>
      simp only [trD] at h
      cases h
      exact .inr (.inr ⟨_, hs _ _ e, by rw [List.isEmpty_map]⟩)
  | _ => cases h
end
section
variable {X : Cx} {E : WX} {m : Mds} {md : Md} {a b c e : Expr} {es : List Expr} {f fa fb fc : Env → Res D} {fs : Env → Res (List D)} {pos p p1 p2 : Pos} {x : Str}
theorem jt_tr (h : JE X E m .sh e f) (he : ∀ whole, isTrue e X.env whole = (do let v ← whole; standAt e.pos; holding [v] (truthy v)) := by intro _; rfl) : JT X E m e (fTr f) := by
  refine ⟨PTimp (pt_truth h.pe he) fun σ H Q q => ?_⟩
  obtain ⟨S, ρ, hm, hp⟩ := q
  refine ⟨S, ρ, hm, (PostW.bind hp).post fun d v S1 H1 s1 r k => ?_⟩
  cases ed : trD d with
  | ok bb =>
    rw [ed] at k
    exact ⟨bb, tru_of s1.sub r ed, k S1 H1 (Step.refl s1.sub)⟩
  | ex c fs =>
    exfalso
    cases d with
    | str z => simp only [trD] at ed; split at ed <;> cases ed
    | _ => simp only [trD] at ed; cases ed
  | er => rw [ed] at k; exact k.elim
/-! ### a < b < c -/
def fChain (g g' : D → D → Res D) (fa fb fc : Env → Res D) : Env → Res D := fun ρ => (fa ρ).bind fun x => (fb ρ).bind fun y => (g x y).bind fun z => match z with
  | .bl true => (fc ρ).bind fun w => g' y w
  | .bl false => .ok (.bl false)
  | _ => .er
theorem chain_ok {K : PySem.W.Frag} {mg : Str → Option Value} {r r' : R2} {g g' : D → D → Res D} (hr : OpD K mg .sh r g) (hr' : OpD K mg .sh r' g') {σ : L2.St} {H : Hp} {Q : VK} (h : tE K mg E m .sh (fChain g g' fa fb fc) σ H Q) : tChain r r' (tE K mg E m .sh fa) (tE K mg E m .sh fb) (tE K mg E m .sh fc) σ H Q := by
  obtain ⟨S, ρ, hm, hp⟩ := h
  refine ⟨S, ρ, hm, (Post.bind hp).post fun dx v S1 H1 s1 r1 h1 => ⟨S1, ρ, hm.step s1, (Post.bind h1).post fun dy w S2 H2 s2 r2 h2 => ?_⟩⟩
  refine hr _ S2 H2 v w dx dy _ s2.sub (r1.mono s2.ss) r2 ((Post.bind h2).post fun dz z S3 H3 s3 r3 h3 => ?_)
  cases dz with
  | bl k =>
    cases r3
    refine ⟨k, rfl, ?_⟩
    cases k with
    | true => exact ⟨S3, ρ, (hm.step s1).step (s2.trans s3), (Post.bind h3).post fun dw u S4 H4 s4 r4 h4 => hr' _ S4 H4 w u dy dw Q s4.sub (r2.mono (s3.ss.trans s4.ss)) r4 h4⟩
    | false => exact Post.val h3 s3.sub (.bl false)
  | _ => exact h3.elim
theorem je_chain {op op' : CmpOp} {r r' : R2} {g g' : D → D → Res D} (ho : OpR X (compareOp op) r) (ho' : OpR X (compareOp op') r') (hr : OpD X.K X.mg .sh r g) (hr' : OpD X.K X.mg .sh r' g') (ha : JE X E m .sh a fa) (hb : JE X E m .sh b fb) (hc : JE X E m .sh c fc)
    (hm : lastMarks [op, op'] [b, c] = false := by with_unfolding_all rfl) : JE X E m .sh (.Compare a [op, op'] [b, c] pos) (fChain g g' fa fb fc) := ⟨PEimp (pe_chain ho ho' ha.pe hb.pe hc.pe hm) fun σ H Q h => chain_ok hr hr' h⟩
theorem jt_chain {op op' : CmpOp} {r r' : R2} {g g' : D → D → Res D} (ho : OpR X (compareOp op) r) (ho' : OpR X (compareOp op') r') (hr : OpD X.K X.mg .sh r g) (hr' : OpD X.K X.mg .sh r' g') (ha : JE X E m .sh a fa) (hb : JE X E m .sh b fb) (hc : JE X E m .sh c fc)
    (hm : lastMarks [op, op'] [b, c] = false := by with_unfolding_all rfl) : JT X E m (.Compare a [op, op'] [b, c] pos) (fB (fChain g g' fa fb fc)) := ⟨PTimp (pt_chain ho ho' ha.pe hb.pe hc.pe hm) fun σ H Q h => tT_of (fun σ H Q h => chain_ok hr hr' h) h⟩
/-! ### list(x), tuple(x) -/
def dList : D → Res D
  | .lst xs => .ok (.lst xs)
  | .frl xs => .ok (.lst xs)
  | .tup xs => .ok (.lst xs)
  | _ => .er
def dTuple : D → Res D
  | .lst xs => .ok (.tup xs)
  | .frl xs => .ok (.tup xs)
  | .tup xs => .ok (.tup xs)
  | _ => .er
theorem je_list (hm : X.mg "list" = none) (ha : JA X E m [e] fs) (hmd : md = .sh ∨ md = .ow := by first | exact .inl rfl | exact .inr rfl) (hg : Gl X "list" := by rfl) (he : starEach [e] X.env = (false, eval e X.env) :: starEach [] X.env := by rfl) : JE X E m md (.Call (.Name "list" p) [e] [] pos) (fOn (on1 dList) fs) :=
  je_callTy call_list_of (calld1 fun E S H x d Q hs rx hp => by
    cases d with
    | lst xs =>
      obtain ⟨a, vs, rfl, ha, rv⟩ := rx.of_lst
      exact ⟨a, vs, rfl, .inl (.inl (.inl (hs _ _ ha))), fun l hl => Post.list hmd hp hs rv hl⟩
    | frl xs =>
      obtain ⟨a, vs, rfl, ha, rv⟩ := rx.of_frl
      exact ⟨a, vs, rfl, .inl (same_l hs ha), fun l hl => Post.list hmd hp hs rv hl⟩
    | tup xs =>
      obtain ⟨a, vs, rfl, ha, rv⟩ := rx.of_tup
      exact ⟨a, vs, rfl, .inr (same_t hs ha), fun l hl => Post.list hmd hp hs rv hl⟩
    | _ => exact hp.elim) hm ha hg (by decide +kernel) (by decide) (by decide) he (by rfl)
theorem je_tuple (hm : X.mg "tuple" = none) (ha : JA X E m [e] fs) (hg : Gl X "tuple" := by rfl) (he : starEach [e] X.env = (false, eval e X.env) :: starEach [] X.env := by rfl) : JE X E m .sh (.Call (.Name "tuple" p) [e] [] pos) (fOn (on1 dTuple) fs) :=
  je_callTy call_tuple_of (calld1 fun E S H x d Q hs rx hp => by
    cases d with
    | lst xs =>
      obtain ⟨a, vs, rfl, ha, rv⟩ := rx.of_lst
      exact ⟨a, vs, rfl, .inl ⟨.inl (.inl (hs _ _ ha)), fun l hl => Post.tup hp hs rv hl⟩⟩
    | frl xs =>
      obtain ⟨a, vs, rfl, ha, rv⟩ := rx.of_frl
      exact ⟨a, vs, rfl, .inl ⟨same_l hs ha, fun l hl => Post.tup hp hs rv hl⟩⟩
    | tup xs =>
      have hp : Post X.K X.mg E S H .sh (.ok (.tup xs)) Q := hp
      have hv := hp.val hs rx
      obtain ⟨a, vs, rfl, ha, rv⟩ := rx.of_tup
      exact ⟨a, vs, rfl, .inr ⟨same_t hs ha, hv⟩⟩
    | _ => exact hp.elim) hm ha hg (by decide +kernel) (by decide) (by decide) he (by rfl)
/-! list(range(..)), tuple(range(..)) -/
def rgnOk (i j : Int) : Bool := stuck (rngOk i j = true ∧ (j - i).toNat ≤ 16777216)
theorem rgnOk_ok {i j : Int} (h : rgnOk i j = true) : RgOk i j := by
  have h := stuck_iff.mp h
  obtain ⟨h1, h2, h3, h4⟩ := rngOk_ok h.1
  exact ⟨h1, h2, h3, h4, h.2⟩
def fListR1 (f : Env → Res D) : Env → Res D := fun ρ => (f ρ).bind fun d => match d with
  | .int j => if rgnOk 0 j = true then .ok (.lst (rng 0 (j - 0).toNat)) else .er
  | _ => .er
def fTupleR1 (f : Env → Res D) : Env → Res D := fun ρ => (f ρ).bind fun d => match d with
  | .int j => if rgnOk 0 j = true then .ok (.tup (rng 0 (j - 0).toNat)) else .er
  | _ => .er
theorem rep_rng {K : PySem.W.Frag} {mg : Str → Option Value} {S : Hp} (a b : Int) : RepL K mg S (rgV a b) (rng a (b - a).toNat) := by
  unfold rgV rng
  refine ⟨by rw [List.length_map, List.length_map], fun i v d h1 h2 => ?_⟩
  rw [List.getElem?_map] at h1 h2
  cases e : (List.range (b - a).toNat)[i]? with
  | none => rw [e] at h1; cases h1
  | some j =>
    rw [e] at h1 h2
    cases h1; cases h2
    exact .int _
theorem je_listR1 (hm : X.mg "list" = none) (hm2 : X.mg "range" = none) (ha : JE X E m .sh a fa) (hmd : md = .sh ∨ md = .ow := by first | exact .inl rfl | exact .inr rfl) (hc : X.calm = true := by rfl) (hg : Gl X "list" := by rfl) (hg2 : Gl X "range" := by rfl) (na : starEach [a] X.env = (false, eval a X.env) :: starEach [] X.env := by rfl)
    (nb : starEach [.Call (.Name "range" p1) [a] [] p2] X.env = (false, eval (.Call (.Name "range" p1) [a] [] p2) X.env) :: starEach [] X.env := by rfl) : JE X E m md (.Call (.Name "list" p) [.Call (.Name "range" p1) [a] [] p2] [] pos) (fListR1 fa) := by
  refine ⟨PEimp (pe_listRg hc hg hm (prg_1 hg2 hm2 ha.pe na) nb) fun σ H Q h => ?_⟩
  obtain ⟨S, ρ, hm, hp⟩ := h
  refine ⟨S, ρ, hm, (Post.bind hp).post fun d v S1 H1 s1 r k => ?_⟩
  cases d with
  | int j =>
    obtain ⟨hk, k⟩ := Post.of_if k
    cases r
    exact ⟨j, rfl, rgnOk_ok hk, fun q hq => Post.list hmd k s1.sub (rep_rng 0 j) hq⟩
  | _ => exact k.elim
theorem je_tupleR1 (hm : X.mg "tuple" = none) (hm2 : X.mg "range" = none) (ha : JE X E m .sh a fa) (hc : X.calm = true := by rfl) (hg : Gl X "tuple" := by rfl) (hg2 : Gl X "range" := by rfl) (na : starEach [a] X.env = (false, eval a X.env) :: starEach [] X.env := by rfl)
    (nb : starEach [.Call (.Name "range" p1) [a] [] p2] X.env = (false, eval (.Call (.Name "range" p1) [a] [] p2) X.env) :: starEach [] X.env := by rfl) : JE X E m .sh (.Call (.Name "tuple" p) [.Call (.Name "range" p1) [a] [] p2] [] pos) (fTupleR1 fa) := by
  refine ⟨PEimp (pe_tupRg hc hg hm (prg_1 hg2 hm2 ha.pe na) nb) fun σ H Q h => ?_⟩
  obtain ⟨S, ρ, hm, hp⟩ := h
  refine ⟨S, ρ, hm, (Post.bind hp).post fun d v S1 H1 s1 r k => ?_⟩
  cases d with
  | int j =>
    obtain ⟨hk, k⟩ := Post.of_if k
    cases r
    exact ⟨j, rfl, rgnOk_ok hk, fun q hq => Post.tup k s1.sub (rep_rng 0 j) hq⟩
  | _ => exact k.elim
/-! sum, all, any -/
def intsD : List D → Option (List Int)
  | [] => some []
  | .int i :: r => match intsD r with
    | some ns => some (i :: ns)
    | none => none
  | _ => none
def boolsD : List D → Option (List Bool)
  | [] => some []
  | .bl i :: r => match boolsD r with
    | some ns => some (i :: ns)
    | none => none
  | _ => none
theorem intsD_ok : ∀ {ds : List D} {ns : List Int}, intsD ds = some ns → ds = ns.map D.int
  | [], ns, h => by cases h; rfl
  | .int i :: r, ns, h => by
    simp only [intsD] at h
    split at h
    · rename_i ms e
      cases h
      rw [intsD_ok e]
      rfl
    · cases h
  | .non :: r, ns, h => by cases h
  | .bl _ :: r, ns, h => by cases h
  | .str _ :: r, ns, h => by cases h
  | .lst _ :: r, ns, h => by cases h
  | .tup _ :: r, ns, h => by cases h
  | .frl _ :: r, ns, h => by cases h
  | .dic _ _ :: r, ns, h => by cases h
  | .dit _ _ :: r, ns, h => by cases h
  | .obj _ _ _ :: r, ns, h => by cases h
theorem boolsD_ok : ∀ {ds : List D} {ns : List Bool}, boolsD ds = some ns → ds = ns.map D.bl
  | [], ns, h => by cases h; rfl
  | .bl i :: r, ns, h => by
    simp only [boolsD] at h
    split at h
    · rename_i ms e
      cases h
      rw [boolsD_ok e]
      rfl
    · cases h
  | .non :: r, ns, h => by cases h
  | .int _ :: r, ns, h => by cases h
  | .str _ :: r, ns, h => by cases h
  | .lst _ :: r, ns, h => by cases h
  | .tup _ :: r, ns, h => by cases h
  | .frl _ :: r, ns, h => by cases h
  | .dic _ _ :: r, ns, h => by cases h
  | .dit _ _ :: r, ns, h => by cases h
  | .obj _ _ _ :: r, ns, h => by cases h
@[simp] theorem intsD_map : ∀ ns : List Int, intsD (ns.map D.int) = some ns
  | [] => rfl
  | n :: ns => by simp only [List.map_cons, intsD, intsD_map ns]
@[simp] theorem boolsD_map : ∀ ns : List Bool, boolsD (ns.map D.bl) = some ns
  | [] => rfl
  | n :: ns => by simp only [List.map_cons, boolsD, boolsD_map ns]
def dSum : D → Res D
  | .lst xs => match intsD xs with
    | some ns => .ok (.int ns.sum)
    | none => .er
  | _ => .er
def dAll : D → Res D
  | .lst xs => match boolsD xs with
    | some ns => .ok (.bl (ns.all id))
    | none => .er
  | _ => .er
def dAny : D → Res D
  | .lst xs => match boolsD xs with
    | some ns => .ok (.bl (ns.any id))
    | none => .er
  | _ => .er
theorem je_sum (hm : X.mg "sum" = none) (ha : JA X E m [e] fs) (hc : X.calm = true := by rfl) (hg : Gl X "sum" := by rfl) (he : starEach [e] X.env = (false, eval e X.env) :: starEach [] X.env := by rfl) : JE X E m .sh (.Call (.Name "sum" p) [e] [] pos) (fOn (on1 dSum) fs) :=
  je_callB (cr_sum hc) (calld1 fun E S H x d Q hs rx hp => by
    cases d with
    | lst xs =>
      obtain ⟨a, vs, rfl, ha, rv⟩ := rx.of_lst
      simp only [dSum] at hp
      split at hp
      · rename_i ns en
        rw [intsD_ok en] at rv
        exact ⟨a, ns, rfl, by rw [← rv.ints]; exact .inl (.inl (hs _ _ ha)), hp.val hs (.int _)⟩
      · exact hp.elim
    | _ => exact (show False from hp).elim) hm ha hg (by decide +kernel) (by decide) (by decide) he (by rfl)
theorem je_all (hm : X.mg "all" = none) (ha : JA X E m [e] fs) (hc : X.calm = true := by rfl) (hg : Gl X "all" := by rfl) (he : starEach [e] X.env = (false, eval e X.env) :: starEach [] X.env := by rfl) : JE X E m .sh (.Call (.Name "all" p) [e] [] pos) (fOn (on1 dAll) fs) :=
  je_callB (cr_all hc) (calld1 fun E S H x d Q hs rx hp => by
    cases d with
    | lst xs =>
      obtain ⟨a, vs, rfl, ha, rv⟩ := rx.of_lst
      simp only [dAll] at hp
      split at hp
      · rename_i ns en
        rw [boolsD_ok en] at rv
        exact ⟨a, ns, rfl, by rw [← rv.bls]; exact .inl (.inl (hs _ _ ha)), hp.val hs (.bl _)⟩
      · exact hp.elim
    | _ => exact (show False from hp).elim) hm ha hg (by decide +kernel) (by decide) (by decide) he (by rfl)
theorem je_any (hm : X.mg "any" = none) (ha : JA X E m [e] fs) (hc : X.calm = true := by rfl) (hg : Gl X "any" := by rfl) (he : starEach [e] X.env = (false, eval e X.env) :: starEach [] X.env := by rfl) : JE X E m .sh (.Call (.Name "any" p) [e] [] pos) (fOn (on1 dAny) fs) :=
  je_callB (cr_any hc) (calld1 fun E S H x d Q hs rx hp => by
    cases d with
    | lst xs =>
      obtain ⟨a, vs, rfl, ha, rv⟩ := rx.of_lst
      simp only [dAny] at hp
      split at hp
      · rename_i ns en
        rw [boolsD_ok en] at rv
        exact ⟨a, ns, rfl, by rw [← rv.bls]; exact .inl (.inl (hs _ _ ha)), hp.val hs (.bl _)⟩
      · exact hp.elim
    | _ => exact (show False from hp).elim) hm ha hg (by decide +kernel) (by decide) (by decide) he (by rfl)
/-! [..] * n -/
def repOk (n : Nat) (k : Int) : Bool := stuck ((-(9223372036854775808) ≤ k ∧ k < 9223372036854775808) ∧ szOk (n * k.toNat) = true)
def dRep : D → D → Res D
  | .lst xs, .int k => if repOk xs.length k = true then .ok (.lst (List.replicate k.toNat xs).flatten) else .er
  | _, _ => .er
theorem RepL.rep {K : PySem.W.Frag} {mg : Str → Option Value} {S : Hp} {vs : List V} {ds : List D} (r : RepL K mg S vs ds) : ∀ k : Nat, RepL K mg S (List.replicate k vs).flatten (List.replicate k ds).flatten
  | 0 => .nil
  | k + 1 => by
    rw [List.replicate_succ, List.replicate_succ, List.flatten_cons, List.flatten_cons]
    exact r.append (r.rep k)
theorem je_rep (ha : JE X E m .sh a fa) (hb : JE X E m .sh b fb) (hmd : md = .sh ∨ md = .ow := by first | exact .inl rfl | exact .inr rfl) : JE X E m md (.BinOp a .Mult b pos) (f2 dRep fa fb) := je_op op_rep (fun E S H x y dx dy Q hs rx ry h => by
  cases dx with
  | lst xs =>
    cases dy with
    | int k =>
      obtain ⟨hz, h⟩ := Post.of_if h
      have hz := stuck_iff.mp hz
      have h12 := hz.1
      obtain ⟨l, vs, rfl, hl, rv⟩ := rx.of_lst
      cases ry
      have h1 := h12.1
      have h2 := h12.2
      exact ⟨l, k, vs, rfl, rfl, hs _ _ hl, by omega, by omega, by rw [rv.len]; exact szOk_ok hz.2, fun p hp => Post.list hmd h hs (rv.rep _) hp⟩
    | _ => exact h.elim
  | _ => exact h.elim) ha hb
/-! slices -/
def cutD (xs : List D) (lo hi : Option Int) : List D := (xs.drop (HT.sIx xs.length 0 lo)).take (HT.sIx xs.length xs.length hi - HT.sIx xs.length 0 lo)
def fNoI : Env → Res (Option Int) := fun _ => .ok none
def fSoI (f : Env → Res D) : Env → Res (Option Int) := fun ρ => (f ρ).bind fun d => match d with
  | .int i => .ok (some i)
  | _ => .er
def dCut (d : D) (lo hi : Option Int) : Res D := match d with
  | .lst xs => .ok (.lst (cutD xs lo hi))
  | .frl xs => .ok (.lst (cutD xs lo hi))
  | .tup xs => .ok (.tup (cutD xs lo hi))
  | _ => .er
def dCutL (d : D) (lo hi : Option Int) : Res D := match d with
  | .lst xs => .ok (.lst (cutD xs lo hi))
  | .frl xs => .ok (.lst (cutD xs lo hi))
  | _ => .er
def fCut (g : D → Option Int → Option Int → Res D) (f : Env → Res D) (fl fh : Env → Res (Option Int)) : Env → Res D := fun ρ => (f ρ).bind fun x => (fl ρ).bind fun l => (fh ρ).bind fun h => g x l h
def tO (K : PySem.W.Frag) (mg : Str → Option Value) (E : WX) (m : Mds) (f : Env → Res (Option Int)) : TO := fun σ H Q => ∃ S ρ, EnvM K mg m S H σ ρ ∧ PostW K mg (WE E σ) S H (f ρ) fun o _ H' => Q o H'
structure JO (X : Cx) (E : WX) (m : Mds) (e : Option Expr) (f : Env → Res (Option Int)) : Prop where
  po : PO X e (tO X.K X.mg E m f)
theorem POimp {t t' : TO} {o : Option Expr} (h : PO X o t) (g : ∀ σ H Q, t' σ H Q → t σ H Q) : PO X o t' := ⟨fun pins s σ H Q I q => h.run pins s σ H Q I (g σ H Q q)⟩
theorem jo_none : JO X E m none fNoI := ⟨POimp po_none fun σ H Q h => by
  obtain ⟨S, ρ, hm, hp⟩ := h
  exact hp S H (Step.refl hm.1)⟩
theorem jo_some (h : JE X E m .sh e f) : JO X E m (some e) (fSoI f) := ⟨POimp (po_some h.pe) fun σ H Q h => by
  obtain ⟨S, ρ, hm, hp⟩ := h
  refine ⟨S, ρ, hm, (PostW.bind hp).post fun d v S1 H1 s1 r k => ?_⟩
  cases d with
  | int i => cases r; exact ⟨i, rfl, k S1 H1 (Step.refl s1.sub)⟩
  | _ => exact k.elim⟩
theorem repl_cut {K : PySem.W.Frag} {mg : Str → Option Value} {S : Hp} {vs : List V} {ds : List D} (r : RepL K mg S vs ds) (lo hi : Option Int) : RepL K mg S (cutV vs lo hi) (cutD ds lo hi) := by
  unfold cutV cutD
  rw [r.len]
  exact (r.drop _).take _
def rSlAll (K : PySem.W.Frag) : V → Option Int → Option Int → Hp → VK → Prop := fun x lo hi H Q => rSlL K x lo hi H Q ∨ rSlA K x lo hi H Q
theorem sl_all : SlR X (rSlAll X.K) := SlR.or sl_list sl_tupA
theorem cut_id {α : Type} {xs : List α} {lo hi : Option Int} (h : HT.sIx xs.length 0 lo = 0 ∧ HT.sIx xs.length xs.length hi = xs.length) : (xs.drop (HT.sIx xs.length 0 lo)).take (HT.sIx xs.length xs.length hi - HT.sIx xs.length 0 lo) = xs := by
  rw [h.1, h.2]
  simp
theorem cut_ok {K : PySem.W.Frag} {mg : Str → Option Value} {E : XK} {S H : Hp} {x : V} {d : D} {lo hi : Option Int} {Q : VK} (hs : Same S H) (rx : Rep K mg S x d) (h : Post K mg E S H .sh (dCut d lo hi) Q) : rSlAll K x lo hi H Q := by
  cases d with
  | lst xs =>
    obtain ⟨a, vs, rfl, ha, rv⟩ := rx.of_lst
    exact .inl ⟨a, vs, rfl, .inl (.inl (hs _ _ ha)), fun p hp => Post.lst h hs (repl_cut rv lo hi) hp⟩
  | frl xs =>
    obtain ⟨a, vs, rfl, ha, rv⟩ := rx.of_frl
    exact .inl ⟨a, vs, rfl, same_l hs ha, fun p hp => Post.lst h hs (repl_cut rv lo hi) hp⟩
  | tup xs =>
    have rx' := rx
    obtain ⟨a, vs, rfl, ha, rv⟩ := rx.of_tup
    refine .inr ⟨a, vs, rfl, same_t hs ha, fun e => ?_, fun _ p hp => Post.tup h hs (repl_cut rv lo hi) hp⟩
    rw [rv.len] at e
    have h : Post K mg E S H .sh (.ok (.tup (cutD xs lo hi))) Q := h
    unfold cutD at h
    rw [cut_id e] at h
    exact h.val hs rx'
  | _ => exact h.elim
theorem je_cut {l h : Option Expr} {fl fh : Env → Res (Option Int)} (ha : JE X E m .sh a fa) (hl : JO X E m l fl) (hh : JO X E m h fh) : JE X E m .sh (.Subscript a (.Slice l h none p2) pos) (fCut dCut fa fl fh) := by
  refine ⟨PEimp (pe_slice sl_all ha.pe hl.po hh.po) fun σ H Q q => ?_⟩
  obtain ⟨S, ρ, hm, hp⟩ := q
  refine ⟨S, ρ, hm, (Post.bind hp).post fun d v S1 H1 s1 r k => ⟨S1, ρ, hm.step s1, (Post.bind k).imp fun lo S2 H2 s2 k2 => ⟨S2, ρ, (hm.step s1).step s2, (Post.bind k2).imp fun hi S3 H3 s3 k3 => ?_⟩⟩⟩
  exact cut_ok s3.sub (r.mono (s2.ss.trans s3.ss)) k3
theorem je_cutL {l h : Option Expr} {fl fh : Env → Res (Option Int)} (ha : JE X E m .sh a fa) (hl : JO X E m l fl) (hh : JO X E m h fh) : JE X E m .ow (.Subscript a (.Slice l h none p2) pos) (fCut dCutL fa fl fh) := by
  refine ⟨PEimp (pe_slice sl_all ha.pe hl.po hh.po) fun σ H Q q => ?_⟩
  obtain ⟨S, ρ, hm, hp⟩ := q
  refine ⟨S, ρ, hm, (Post.bind hp).post fun d v S1 H1 s1 r k => ⟨S1, ρ, hm.step s1, (Post.bind k).imp fun lo S2 H2 s2 k2 => ⟨S2, ρ, (hm.step s1).step s2, (Post.bind k2).imp fun hi S3 H3 s3 k3 => ?_⟩⟩⟩
  have rx := r.mono (s2.ss.trans s3.ss)
  cases d with
  | lst xs =>
    obtain ⟨a, vs, rfl, ha, rv⟩ := rx.of_lst
    exact .inl ⟨a, vs, rfl, .inl (.inl (s3.sub _ _ ha)), fun p hp => Post.own k3 s3.sub (repl_cut rv lo hi) hp⟩
  | frl xs =>
    obtain ⟨a, vs, rfl, ha, rv⟩ := rx.of_frl
    exact .inl ⟨a, vs, rfl, same_l s3.sub ha, fun p hp => Post.own k3 s3.sub (repl_cut rv lo hi) hp⟩
  | _ => exact k3.elim
end
end Da
namespace Da
open PySem PySem.Spec L2
/-! ### the end of a law -/
section
variable {P : Program} {w : World} {K : PySem.W.Frag} {mg : Str → Option Value} {base h : Heap}
theorem defAt_mk {x qual : Str} {st : Stmt} {ps : List Str} {f : Addr} {oc : Value} {od an : Option Addr} {osl : Array (Option Value)} {kV doc pm cdv ct : Value} (X : K.In h) (G : h.Ns mainGlobals mg) (a : PySem.W.nsIn K mainGlobals x = some (some (.ref f)))
    (l : K.lookup f = some ⟨oc, od, .func (PySem.W.fnOf x qual (defArgs st) (defBody st) (defScope st) .none kV doc pm an cdv ct), osl⟩) (c : PySem.W.codeIn K cdv qual = true) (k : PySem.W.keepIn K (.ref f) = true)
    (hb : ∀ (kV doc pm : Value) (an : Option Addr) (cdv ct : Value) (us : List Value), us.length = ps.length → bindArgs (PySem.W.fnOf x qual (defArgs st) (defBody st) (defScope st) .none kV doc pm an cdv ct) ⟨us, []⟩ = pure (ps.zip us)) : DefAt K mg x qual st ps := by
  have Fn := fun_mk (st := st) l c k
  exact ⟨f, _, Fn, Fn.binds hb, PySem.W.mg_of X G a⟩
/-- what the law is asked -/
def spLaw (K : PySem.W.Frag) : Sp := fun vs H Q _ => ∃ (a : Addr) (ns : List Int), vs = [.ref a] ∧ SqL K H a (ns.map V.int) ∧ ns.length ≤ 63 ∧ (∀ z ∈ ns, Builtin.Int.intBits z ≤ 1048576) ∧ ∀ H', Q (.bl true) H'
theorem law_imp {k : Nat} {f : Addr} {fd : FuncData} {g : List D → Res D} (G : FnOk P w K mg base (L2.CX P w) k f fd ["script"] (spD K mg 1 .sh g)) (hg : ∀ ns : List Int, ns.length ≤ 63 → (∀ z ∈ ns, Builtin.Int.intBits z ≤ 1048576) → g [.frl (ns.map D.int)] = .ok (.bl true)) :
    FnOk P w K mg base (L2.CX P w) k f fd ["script"] (spLaw K) := G.imp fun vs H Q E hsp => by
  obtain ⟨a, ns, rfl, hS, hl, hb, q⟩ := hsp
  refine ⟨H, [.frl (ns.map D.int)], Same.refl H, .cons (.frl hS (by rw [List.length_map, List.length_map]) (RepL.of_ints ns).at_) .nil, ?_⟩
  show Post K mg E H H .sh (chk 1 g [.frl (ns.map D.int)]) Q
  unfold chk
  rw [if_pos (by rfl), hg ns hl hb]
  intro v S' H' fp s' o _ _
  cases o.1
  exact q H'
theorem cx_none {H : Hp} {s s' : Shared} {e : Value} (h : L2.CX P w [] H s (fun _ _ _ => False) e s') : False := by
  obtain ⟨_, _, _, _, _, _, _, _, _, _, _, _, z⟩ := h
  exact z
theorem walk_end {l : PySem.W.OpenLaw} {q : Program} {loose : List Str} {XP : (Str → Option Value) → Heap → Prop} {YP : World → Heap → Prop} {d : DefRec} {K : Params → PySem.W.Frag} {k : Nat} (hn : l.most = some 63) (hdf : d.params.defaults = []) (hr : Room k callerA)
    (hY : ∀ (w : World) (h : Heap), YP w h → (K w.params).In h)
    (F : ∀ (w : World) (mg : Str → Option Value) (fa : Addr) (h : Heap), (K w.params).In h → h.Ns mainGlobals mg → mg d.name = some (.ref fa) →
      ∃ fd : FuncData, (∀ (s : Shared) (u : Value), BindsTo s fd ⟨[u], []⟩ [("script", u)]) ∧ ∀ base : Heap, (K w.params).In base → base.Ns mainGlobals mg → FnOk l.prog w (K w.params) mg base (L2.CX l.prog w) k fa fd ["script"] (spLaw (K w.params))) :
    PySem.W.WalkO q loose XP YP l.row.toRowW d [] (fun f vs => PySem.call f vs) :=
  L2.walk_ofB (n := 63) (k := k) (x := "script") (CX := fun w => L2.CX l.prog w) (sp := fun w => spLaw (K w.params)) hn (by decide) hdf hr hY F (fun w H a ns hl hb _ hS => ⟨a, ns, rfl, hS, hl, hb, fun _ => rfl⟩) fun w H s e s' z => cx_none z
end
end Da
namespace Da
open PySem PySem.Spec L2
/-! ### reckoning with the mirrors -/
section
variable {ρ : Env} {f fa fb fc : Env → Res D} {g : D → Res D} {g2 : D → D → Res D} {fs : Env → Res (List D)} {c ga gb : Env → Res Bool} {F G : FS} {d e : D} {i : Nat}
@[simp] theorem fC_ap : fC d ρ = .ok d := rfl
@[simp] theorem fV_nil : fV i [] = .er := by simp [fV]
@[simp] theorem fV_zero {x : D} {r : Env} : fV 0 (some x :: r) = .ok x := rfl
@[simp] theorem fV_succ {x : Option D} {r : Env} : fV (i + 1) (x :: r) = fV i r := by
  unfold fV
  rw [List.getElem?_cons_succ]
@[simp] theorem f1_ap : f1 g fa ρ = (fa ρ).bind g := rfl
@[simp] theorem f2_ap : f2 g2 fa fb ρ = (fa ρ).bind fun x => (fb ρ).bind fun y => g2 x y := rfl
@[simp] theorem fA0_ap : fA0 ρ = .ok [] := rfl
@[simp] theorem fA_ap : fA fa fs ρ = (fa ρ).bind fun x => (fs ρ).bind fun xs => .ok (x :: xs) := rfl
@[simp] theorem fOn_ap {g : List D → Res D} : fOn g fs ρ = (fs ρ).bind g := rfl
@[simp] theorem fB_ap : fB f ρ = (f ρ).bind asB := rfl
@[simp] theorem fTr_ap : fTr f ρ = (f ρ).bind trD := rfl
@[simp] theorem fBv_ap : fBv c ρ = (c ρ).bind fun b => .ok (.bl b) := rfl
@[simp] theorem asB_bl {b : Bool} : asB (.bl b) = .ok b := rfl
@[simp] theorem fAnd_ap : fAnd ga gb ρ = (ga ρ).bind fun c => if c = true then gb ρ else .ok false := rfl
@[simp] theorem fOr_ap : fOr ga gb ρ = (ga ρ).bind fun c => if c = true then .ok true else gb ρ := rfl
@[simp] theorem fNot_ap : fNot ga ρ = (ga ρ).bind fun c => .ok (!c) := rfl
@[simp] theorem fIf_ap : fIf c fa fb ρ = (c ρ).bind fun b => if b = true then fa ρ else fb ρ := rfl
@[simp] theorem fL_ap : fL f ρ = (f ρ).bind asL := rfl
@[simp] theorem fR1_ap : fR1 fs ρ = (fs ρ).bind gRng1 := rfl
@[simp] theorem fR2_ap : fR2 fs ρ = (fs ρ).bind gRng2 := rfl
@[simp] theorem asL_lst {xs : List D} : asL (.lst xs) = .ok xs := rfl
@[simp] theorem asL_frl {xs : List D} : asL (.frl xs) = .ok xs := rfl
@[simp] theorem asL_tup {xs : List D} : asL (.tup xs) = .ok xs := rfl
@[simp] theorem on1_ap {g : D → Res D} : on1 g [d] = g d := rfl
@[simp] theorem on2_ap {g : D → D → Res D} : on2 g [d, e] = g d e := rfl
@[simp] theorem gN_ap : gN i d ρ = .ok (ρ.set i (some d)) := rfl
@[simp] theorem fNext_ap : fNext ρ = .ok (.nx ρ) := rfl
@[simp] theorem fBrk_ap : fBrk ρ = .ok (.bk ρ) := rfl
@[simp] theorem fCnt_ap : fCnt ρ = .ok (.ct ρ) := rfl
@[simp] theorem fSet_ap : fSet i f ρ = lift (f ρ) ρ fun d => .ok (.nx (ρ.set i (some d))) := rfl
@[simp] theorem fRet_ap : fRet f ρ = lift (f ρ) ρ fun d => .ok (.rt d) := rfl
@[simp] theorem fRetN_ap : fRetN ρ = .ok (.rt .non) := rfl
@[simp] theorem fIfS_ap : fIfS c F G ρ = lift (c ρ) ρ fun b => if b = true then F ρ else G ρ := rfl
@[simp] theorem fDrop_ap : fDrop f ρ = lift (f ρ) ρ fun _ => .ok (.nx ρ) := rfl
@[simp] theorem fAug_ap : fAug i g2 f ρ = lift ((fV i ρ).bind fun x => (f ρ).bind fun y => g2 x y) ρ fun d => .ok (.nx (ρ.set i (some d))) := rfl
theorem fSeq_nx {ρ' : Env} (h : F ρ = .ok (.nx ρ')) : fSeq F G ρ = G ρ' := by unfold fSeq; rw [h]
theorem fSeq_rt {d : D} (h : F ρ = .ok (.rt d)) : fSeq F G ρ = .ok (.rt d) := by unfold fSeq; rw [h]
theorem fSeq_bk {ρ' : Env} (h : F ρ = .ok (.bk ρ')) : fSeq F G ρ = .ok (.bk ρ') := by unfold fSeq; rw [h]
theorem fSeq_ct {ρ' : Env} (h : F ρ = .ok (.ct ρ')) : fSeq F G ρ = .ok (.ct ρ') := by unfold fSeq; rw [h]
/-- a block behind an end -/
def andThen (o : Res Fl) (G : FS) : Res Fl := match o with
  | .ok (.nx ρ') => G ρ'
  | o => o
@[simp] theorem fSeq_ap : fSeq F G ρ = andThen (F ρ) G := rfl
@[simp] theorem andThen_nx {ρ' : Env} : andThen (.ok (.nx ρ')) G = G ρ' := rfl
@[simp] theorem andThen_rt {d : D} : andThen (.ok (.rt d)) G = .ok (.rt d) := rfl
@[simp] theorem andThen_bk {ρ' : Env} : andThen (.ok (.bk ρ')) G = .ok (.bk ρ') := rfl
@[simp] theorem andThen_ct {ρ' : Env} : andThen (.ok (.ct ρ')) G = .ok (.ct ρ') := rfl
@[simp] theorem andThen_xc {c : Str} {fs : List (Str × D)} {ρ' : Env} : andThen (.ok (.xc c fs ρ')) G = .ok (.xc c fs ρ') := rfl
@[simp] theorem andThen_er : andThen .er G = .er := rfl
@[simp] theorem andThen_ite {p : Prop} [Decidable p] {a b : Res Fl} : andThen (if p then a else b) G = if p then andThen a G else andThen b G := by split <;> rfl
@[simp] theorem fApp_zero {xs : List D} {r : Env} : fApp 0 f (some (.lst xs) :: r) = lift (f (some (.lst xs) :: r)) (some (.lst xs) :: r) fun d => if szOk (xs.length + 1) = true then .ok (.nx (some (.lst (xs ++ [d])) :: r)) else .er := rfl
/-! what the operators do to whole numbers -/
@[simp] theorem dAdd_int {i j : Int} : dAdd (.int i) (.int j) = .ok (.int (i + j)) := rfl
@[simp] theorem dSub_int {i j : Int} : dSub (.int i) (.int j) = .ok (.int (i - j)) := rfl
theorem dMul_int {i j : Int} (h : mulOk i j = true) : dMul (.int i) (.int j) = .ok (.int (i * j)) := if_pos h
@[simp] theorem dLt_int {i j : Int} : dLt (.int i) (.int j) = .ok (.bl (decide (i < j))) := rfl
@[simp] theorem dLe_int {i j : Int} : dLe (.int i) (.int j) = .ok (.bl (decide (i ≤ j))) := rfl
@[simp] theorem dGt_int {i j : Int} : dGt (.int i) (.int j) = .ok (.bl (decide (j < i))) := rfl
@[simp] theorem dGe_int {i j : Int} : dGe (.int i) (.int j) = .ok (.bl (decide (j ≤ i))) := rfl
@[simp] theorem dI_yes {g : Int → Int → Int} {i j : Int} : dI yes2 g (.int i) (.int j) = .ok (.int (g i j)) := rfl
@[simp] theorem dInt_int {i : Int} : dInt (.int i) = .ok (.int i) := rfl
@[simp] theorem dNeg_int {i : Int} : dNeg (.int i) = .ok (.int (-i)) := rfl
@[simp] theorem dAbs_int {i : Int} : dAbs (.int i) = .ok (.int (if i < 0 then -i else i)) := rfl
@[simp] theorem dMax2_int {i j : Int} : dMax2 (.int i) (.int j) = .ok (.int (if j > i then j else i)) := rfl
@[simp] theorem dMin2_int {i j : Int} : dMin2 (.int i) (.int j) = .ok (.int (if j < i then j else i)) := rfl
@[simp] theorem dLen_lst {xs : List D} : dLen (.lst xs) = .ok (.int xs.length) := rfl
@[simp] theorem dLen_frl {xs : List D} : dLen (.frl xs) = .ok (.int xs.length) := rfl
@[simp] theorem dLen_tup {xs : List D} : dLen (.tup xs) = .ok (.int xs.length) := rfl
@[simp] theorem eqD_int {i j : Int} : eqD (.int i) (.int j) = .ok (i == j) := by
  unfold eqD D.py
  simp only [SeqAt.shaped, PyData.canLay0, PyData.depth, PyData.eqv]
  rfl
@[simp] theorem dEq_int {i j : Int} : dEq (.int i) (.int j) = .ok (.bl (i == j)) := by unfold dEq; rw [eqD_int]; rfl
@[simp] theorem dNe_int {i j : Int} : dNe (.int i) (.int j) = .ok (.bl (!(i == j))) := by unfold dNe; rw [eqD_int]; rfl
theorem log2_lt {n k : Nat} (h : n < 2 ^ k) (hk : 0 < k) : n.log2 < k := PySem.Flt.log2_lt_of hk h
theorem mulOk_of {i j : Int} {a b : Nat} (hi : i.natAbs < 2 ^ a) (hj : j.natAbs < 2 ^ b) (ha : 0 < a := by decide) (hb : 0 < b := by decide) (hab : a + b ≤ 1000000 := by decide) : mulOk i j = true := mulOk_yes (wide_mul hi hj ha hb hab)
theorem mul64 {i j : Int} (hi : i.natAbs < 18446744073709551616) (hj : j.natAbs < 18446744073709551616) : mulOk i j = true := mulOk_of (a := 64) (b := 64) hi hj
theorem dMul_64 {i j : Int} (hi : i.natAbs < 18446744073709551616) (hj : j.natAbs < 18446744073709551616) : dMul (.int i) (.int j) = .ok (.int (i * j)) := dMul_int (mul64 hi hj)
/-- the greatest divisor's bound, never reckoned out -/
def Lim : Nat := 2 ^ 9000
theorem lt_lim {n : Nat} (h : n < 18446744073709551616) : n < Lim := Nat.lt_of_lt_of_le (show n < 2 ^ 64 from h) (Nat.pow_le_pow_right (by decide) (by decide))
theorem dDiv_pos {i j : Int} (h : 0 < j) (h9 : j.natAbs < Lim) : dDiv (.int i) (.int j) = .ok (.int (i / j)) := by
  show (if divOk i j = true then Res.ok (D.int (i.fdiv j)) else .er) = _
  rw [if_pos (by
    exact stuck_iff.mpr ⟨by omega, log2_lt h9 (by decide)⟩), Int.fdiv_eq_ediv_of_nonneg i (by omega)]
theorem dDiv_64 {i j : Int} (h : 0 < j) (h9 : j < 18446744073709551616) : dDiv (.int i) (.int j) = .ok (.int (i / j)) := dDiv_pos h (lt_lim (by omega))
theorem dMod_pos {i j : Int} (h : 0 < j) : dMod (.int i) (.int j) = .ok (.int (i % j)) := by
  show (if modOk i j = true then Res.ok (D.int (i.fmod j)) else .er) = _
  rw [if_pos (show modOk i j = true from decide_eq_true (by omega)), Int.fmod_eq_emod_of_nonneg i (by omega)]
theorem kb_NoneType_int : kitB "NoneType" "int" = some false := by decide +kernel
theorem kb_bool_int : kitB "bool" "int" = some true := by decide +kernel
theorem kb_int_int : kitB "int" "int" = some true := by decide +kernel
theorem kb_str_int : kitB "str" "int" = some false := by decide +kernel
theorem kb_list_int : kitB "list" "int" = some false := by decide +kernel
theorem kb_tuple_int : kitB "tuple" "int" = some false := by decide +kernel
theorem kb_dict_int : kitB "dict" "int" = some false := by decide +kernel
@[simp] theorem isTy_int_non : isTy "int" .non = .ok false := by unfold isTy tyNm; simp only [kb_NoneType_int]
@[simp] theorem isTy_int_bl {b : Bool} : isTy "int" (.bl b) = .ok true := by unfold isTy tyNm; simp only [kb_bool_int]
@[simp] theorem isTy_int_int {b : Int} : isTy "int" (.int b) = .ok true := by unfold isTy tyNm; simp only [kb_int_int]
@[simp] theorem isTy_int_str {b : Str} : isTy "int" (.str b) = .ok false := by unfold isTy tyNm; simp only [kb_str_int]
@[simp] theorem isTy_int_lst {b : List D} : isTy "int" (.lst b) = .ok false := by unfold isTy tyNm; simp only [kb_list_int]
@[simp] theorem isTy_int_frl {b : List D} : isTy "int" (.frl b) = .ok false := by unfold isTy tyNm; simp only [kb_list_int]
@[simp] theorem isTy_int_tup {b : List D} : isTy "int" (.tup b) = .ok false := by unfold isTy tyNm; simp only [kb_tuple_int]
@[simp] theorem isTy_int_dic {k : List Key} {b : List D} : isTy "int" (.dic k b) = .ok false := by unfold isTy tyNm; simp only [kb_dict_int]
@[simp] theorem isTy_int_dit {k : List (List Key)} {b : List D} : isTy "int" (.dit k b) = .ok false := by unfold isTy tyNm; simp only [kb_dict_int]
theorem kb_NoneType_bool : kitB "NoneType" "bool" = some false := by decide +kernel
theorem kb_bool_bool : kitB "bool" "bool" = some true := by decide +kernel
theorem kb_int_bool : kitB "int" "bool" = some false := by decide +kernel
theorem kb_str_bool : kitB "str" "bool" = some false := by decide +kernel
theorem kb_list_bool : kitB "list" "bool" = some false := by decide +kernel
theorem kb_tuple_bool : kitB "tuple" "bool" = some false := by decide +kernel
theorem kb_dict_bool : kitB "dict" "bool" = some false := by decide +kernel
@[simp] theorem isTy_bool_non : isTy "bool" .non = .ok false := by unfold isTy tyNm; simp only [kb_NoneType_bool]
@[simp] theorem isTy_bool_bl {b : Bool} : isTy "bool" (.bl b) = .ok true := by unfold isTy tyNm; simp only [kb_bool_bool]
@[simp] theorem isTy_bool_int {b : Int} : isTy "bool" (.int b) = .ok false := by unfold isTy tyNm; simp only [kb_int_bool]
@[simp] theorem isTy_bool_str {b : Str} : isTy "bool" (.str b) = .ok false := by unfold isTy tyNm; simp only [kb_str_bool]
@[simp] theorem isTy_bool_lst {b : List D} : isTy "bool" (.lst b) = .ok false := by unfold isTy tyNm; simp only [kb_list_bool]
@[simp] theorem isTy_bool_frl {b : List D} : isTy "bool" (.frl b) = .ok false := by unfold isTy tyNm; simp only [kb_list_bool]
@[simp] theorem isTy_bool_tup {b : List D} : isTy "bool" (.tup b) = .ok false := by unfold isTy tyNm; simp only [kb_tuple_bool]
@[simp] theorem isTy_bool_dic {k : List Key} {b : List D} : isTy "bool" (.dic k b) = .ok false := by unfold isTy tyNm; simp only [kb_dict_bool]
@[simp] theorem isTy_bool_dit {k : List (List Key)} {b : List D} : isTy "bool" (.dit k b) = .ok false := by unfold isTy tyNm; simp only [kb_dict_bool]
theorem kb_NoneType_list : kitB "NoneType" "list" = some false := by decide +kernel
theorem kb_bool_list : kitB "bool" "list" = some false := by decide +kernel
theorem kb_int_list : kitB "int" "list" = some false := by decide +kernel
theorem kb_str_list : kitB "str" "list" = some false := by decide +kernel
theorem kb_list_list : kitB "list" "list" = some true := by decide +kernel
theorem kb_tuple_list : kitB "tuple" "list" = some false := by decide +kernel
theorem kb_dict_list : kitB "dict" "list" = some false := by decide +kernel
@[simp] theorem isTy_list_non : isTy "list" .non = .ok false := by unfold isTy tyNm; simp only [kb_NoneType_list]
@[simp] theorem isTy_list_bl {b : Bool} : isTy "list" (.bl b) = .ok false := by unfold isTy tyNm; simp only [kb_bool_list]
@[simp] theorem isTy_list_int {b : Int} : isTy "list" (.int b) = .ok false := by unfold isTy tyNm; simp only [kb_int_list]
@[simp] theorem isTy_list_str {b : Str} : isTy "list" (.str b) = .ok false := by unfold isTy tyNm; simp only [kb_str_list]
@[simp] theorem isTy_list_lst {b : List D} : isTy "list" (.lst b) = .ok true := by unfold isTy tyNm; simp only [kb_list_list]
@[simp] theorem isTy_list_frl {b : List D} : isTy "list" (.frl b) = .ok true := by unfold isTy tyNm; simp only [kb_list_list]
@[simp] theorem isTy_list_tup {b : List D} : isTy "list" (.tup b) = .ok false := by unfold isTy tyNm; simp only [kb_tuple_list]
@[simp] theorem isTy_list_dic {k : List Key} {b : List D} : isTy "list" (.dic k b) = .ok false := by unfold isTy tyNm; simp only [kb_dict_list]
@[simp] theorem isTy_list_dit {k : List (List Key)} {b : List D} : isTy "list" (.dit k b) = .ok false := by unfold isTy tyNm; simp only [kb_dict_list]
theorem kb_NoneType_tuple : kitB "NoneType" "tuple" = some false := by decide +kernel
theorem kb_bool_tuple : kitB "bool" "tuple" = some false := by decide +kernel
theorem kb_int_tuple : kitB "int" "tuple" = some false := by decide +kernel
theorem kb_str_tuple : kitB "str" "tuple" = some false := by decide +kernel
theorem kb_list_tuple : kitB "list" "tuple" = some false := by decide +kernel
theorem kb_tuple_tuple : kitB "tuple" "tuple" = some true := by decide +kernel
theorem kb_dict_tuple : kitB "dict" "tuple" = some false := by decide +kernel
@[simp] theorem isTy_tuple_non : isTy "tuple" .non = .ok false := by unfold isTy tyNm; simp only [kb_NoneType_tuple]
@[simp] theorem isTy_tuple_bl {b : Bool} : isTy "tuple" (.bl b) = .ok false := by unfold isTy tyNm; simp only [kb_bool_tuple]
@[simp] theorem isTy_tuple_int {b : Int} : isTy "tuple" (.int b) = .ok false := by unfold isTy tyNm; simp only [kb_int_tuple]
@[simp] theorem isTy_tuple_str {b : Str} : isTy "tuple" (.str b) = .ok false := by unfold isTy tyNm; simp only [kb_str_tuple]
@[simp] theorem isTy_tuple_lst {b : List D} : isTy "tuple" (.lst b) = .ok false := by unfold isTy tyNm; simp only [kb_list_tuple]
@[simp] theorem isTy_tuple_frl {b : List D} : isTy "tuple" (.frl b) = .ok false := by unfold isTy tyNm; simp only [kb_list_tuple]
@[simp] theorem isTy_tuple_tup {b : List D} : isTy "tuple" (.tup b) = .ok true := by unfold isTy tyNm; simp only [kb_tuple_tuple]
@[simp] theorem isTy_tuple_dic {k : List Key} {b : List D} : isTy "tuple" (.dic k b) = .ok false := by unfold isTy tyNm; simp only [kb_dict_tuple]
@[simp] theorem isTy_tuple_dit {k : List (List Key)} {b : List D} : isTy "tuple" (.dit k b) = .ok false := by unfold isTy tyNm; simp only [kb_dict_tuple]
theorem kb_NoneType_str : kitB "NoneType" "str" = some false := by decide +kernel
theorem kb_bool_str : kitB "bool" "str" = some false := by decide +kernel
theorem kb_int_str : kitB "int" "str" = some false := by decide +kernel
theorem kb_str_str : kitB "str" "str" = some true := by decide +kernel
theorem kb_list_str : kitB "list" "str" = some false := by decide +kernel
theorem kb_tuple_str : kitB "tuple" "str" = some false := by decide +kernel
theorem kb_dict_str : kitB "dict" "str" = some false := by decide +kernel
@[simp] theorem isTy_str_non : isTy "str" .non = .ok false := by unfold isTy tyNm; simp only [kb_NoneType_str]
@[simp] theorem isTy_str_bl {b : Bool} : isTy "str" (.bl b) = .ok false := by unfold isTy tyNm; simp only [kb_bool_str]
@[simp] theorem isTy_str_int {b : Int} : isTy "str" (.int b) = .ok false := by unfold isTy tyNm; simp only [kb_int_str]
@[simp] theorem isTy_str_str {b : Str} : isTy "str" (.str b) = .ok true := by unfold isTy tyNm; simp only [kb_str_str]
@[simp] theorem isTy_str_lst {b : List D} : isTy "str" (.lst b) = .ok false := by unfold isTy tyNm; simp only [kb_list_str]
@[simp] theorem isTy_str_frl {b : List D} : isTy "str" (.frl b) = .ok false := by unfold isTy tyNm; simp only [kb_list_str]
@[simp] theorem isTy_str_tup {b : List D} : isTy "str" (.tup b) = .ok false := by unfold isTy tyNm; simp only [kb_tuple_str]
@[simp] theorem isTy_str_dic {k : List Key} {b : List D} : isTy "str" (.dic k b) = .ok false := by unfold isTy tyNm; simp only [kb_dict_str]
@[simp] theorem isTy_str_dit {k : List (List Key)} {b : List D} : isTy "str" (.dit k b) = .ok false := by unfold isTy tyNm; simp only [kb_dict_str]
theorem kb_NoneType_dict : kitB "NoneType" "dict" = some false := by decide +kernel
theorem kb_bool_dict : kitB "bool" "dict" = some false := by decide +kernel
theorem kb_int_dict : kitB "int" "dict" = some false := by decide +kernel
theorem kb_str_dict : kitB "str" "dict" = some false := by decide +kernel
theorem kb_list_dict : kitB "list" "dict" = some false := by decide +kernel
theorem kb_tuple_dict : kitB "tuple" "dict" = some false := by decide +kernel
theorem kb_dict_dict : kitB "dict" "dict" = some true := by decide +kernel
@[simp] theorem isTy_dict_non : isTy "dict" .non = .ok false := by unfold isTy tyNm; simp only [kb_NoneType_dict]
@[simp] theorem isTy_dict_bl {b : Bool} : isTy "dict" (.bl b) = .ok false := by unfold isTy tyNm; simp only [kb_bool_dict]
@[simp] theorem isTy_dict_int {b : Int} : isTy "dict" (.int b) = .ok false := by unfold isTy tyNm; simp only [kb_int_dict]
@[simp] theorem isTy_dict_str {b : Str} : isTy "dict" (.str b) = .ok false := by unfold isTy tyNm; simp only [kb_str_dict]
@[simp] theorem isTy_dict_lst {b : List D} : isTy "dict" (.lst b) = .ok false := by unfold isTy tyNm; simp only [kb_list_dict]
@[simp] theorem isTy_dict_frl {b : List D} : isTy "dict" (.frl b) = .ok false := by unfold isTy tyNm; simp only [kb_list_dict]
@[simp] theorem isTy_dict_tup {b : List D} : isTy "dict" (.tup b) = .ok false := by unfold isTy tyNm; simp only [kb_tuple_dict]
@[simp] theorem isTy_dict_dic {k : List Key} {b : List D} : isTy "dict" (.dic k b) = .ok true := by unfold isTy tyNm; simp only [kb_dict_dict]
@[simp] theorem isTy_dict_dit {k : List (List Key)} {b : List D} : isTy "dict" (.dit k b) = .ok true := by unfold isTy tyNm; simp only [kb_dict_dict]
@[simp] theorem trD_bl {b : Bool} : trD (.bl b) = .ok b := rfl
@[simp] theorem trD_non : trD .non = .ok false := rfl
@[simp] theorem trD_int {i : Int} : trD (.int i) = .ok (i != 0) := rfl
@[simp] theorem trD_lst {xs : List D} : trD (.lst xs) = .ok (!xs.isEmpty) := rfl
@[simp] theorem trD_frl {xs : List D} : trD (.frl xs) = .ok (!xs.isEmpty) := rfl
@[simp] theorem trD_tup {xs : List D} : trD (.tup xs) = .ok (!xs.isEmpty) := rfl
@[simp] theorem dIsi_ap {T : String} : dIsi T d = (isTy T d).bind fun b => .ok (.bl b) := rfl
@[simp] theorem dIsi2_ap {T U : String} : dIsi2 T U d = (isTy T d).bind fun b => if b = true then .ok (.bl true) else (isTy U d).bind fun c => .ok (.bl c) := rfl
end
end Da
namespace Da
open PySem PySem.Spec L2
/-! ### loops by their invariants -/
/-- a turn's end: N goes on, Q is wanted of what leaves the loop -/
def Turn (N : Env → Prop) (Q : Res Fl → Prop) : Res Fl → Prop
  | .ok (.nx ρ) => N ρ
  | .ok (.ct ρ) => N ρ
  | .ok (.bk ρ) => Q (.ok (.nx ρ))
  | .ok (.rt d) => Q (.ok (.rt d))
  | .ok (.xc c fs ρ) => Q (.ok (.xc c fs ρ))
  | .ex _ _ => False
  | .er => False
@[simp] theorem Turn_nx {N : Env → Prop} {Q : Res Fl → Prop} {ρ : Env} : Turn N Q (.ok (.nx ρ)) = N ρ := rfl
@[simp] theorem Turn_ct {N : Env → Prop} {Q : Res Fl → Prop} {ρ : Env} : Turn N Q (.ok (.ct ρ)) = N ρ := rfl
@[simp] theorem Turn_bk {N : Env → Prop} {Q : Res Fl → Prop} {ρ : Env} : Turn N Q (.ok (.bk ρ)) = Q (.ok (.nx ρ)) := rfl
@[simp] theorem Turn_rt {N : Env → Prop} {Q : Res Fl → Prop} {d : D} : Turn N Q (.ok (.rt d)) = Q (.ok (.rt d)) := rfl
theorem forGo_inv {g : D → Env → Res Env} {F : FS} (Q : Res Fl → Prop) (P : Nat → Env → Prop) : ∀ (xs : List D) (k : Nat) (ρ : Env), P k ρ →
    (∀ i x ρ, xs[i]? = some x → P (k + i) ρ → ∃ ρ1, g x ρ = .ok ρ1 ∧ Turn (P (k + i + 1)) Q (F ρ1)) → (∀ ρ, P (k + xs.length) ρ → Q (.ok (.nx ρ))) → Q (forGo g F xs ρ)
  | [], k, ρ, h0, _, hd => hd ρ h0
  | x :: xs, k, ρ, h0, hs, hd => by
    obtain ⟨ρ1, e1, t⟩ := hs 0 x ρ rfl h0
    unfold forGo
    rw [e1]
    have go : ∀ ρ2, P (k + 1) ρ2 → Q (forGo g F xs ρ2) := fun ρ2 h2 => forGo_inv Q P xs (k + 1) ρ2 h2 (fun i y ρ e p => by
      have := hs (i + 1) y ρ (by simpa using e) (by rw [show k + (i + 1) = k + 1 + i by omega]; exact p)
      rw [show k + 1 + i + 1 = k + (i + 1) + 1 by omega]
      exact this) (fun ρ p => hd ρ (by rw [List.length_cons, show k + (xs.length + 1) = k + 1 + xs.length by omega]; exact p))
    show Q (match F ρ1 with
      | .ok (.nx ρ2) => forGo g F xs ρ2
      | .ok (.ct ρ2) => forGo g F xs ρ2
      | .ok (.bk ρ2) => .ok (.nx ρ2)
      | o => o)
    cases ef : F ρ1 with
    | ok o =>
      rw [ef] at t
      cases o with
      | nx ρ2 => exact go ρ2 t
      | ct ρ2 => exact go ρ2 t
      | bk ρ2 => exact t
      | rt d => exact t
      | xc c fs ρ2 => exact t
    | ex c fs => rw [ef] at t; exact t.elim
    | er => rw [ef] at t; exact t.elim
theorem for_inv {g : D → Env → Res Env} {F : FS} {xs : List D} {ρ : Env} {Q : Res Fl → Prop} (P : Nat → Env → Prop) (h0 : P 0 ρ) (hs : ∀ i x ρ, xs[i]? = some x → P i ρ → ∃ ρ1, g x ρ = .ok ρ1 ∧ Turn (P (i + 1)) Q (F ρ1)) (hd : ∀ ρ, P xs.length ρ → Q (.ok (.nx ρ))) : Q (forGo g F xs ρ) :=
  forGo_inv Q P xs 0 ρ h0 (fun i x ρ e p => by rw [Nat.zero_add] at p ⊢; exact hs i x ρ e p) (fun ρ p => by rw [Nat.zero_add] at p; exact hd ρ p)
theorem rng_get {lo : Int} {n i : Nat} {x : D} (h : (rng lo n)[i]? = some x) : x = .int (lo + i) ∧ i < n := by
  unfold rng at h
  rw [List.getElem?_map] at h
  cases e : (List.range n)[i]? with
  | none => rw [e] at h; cases h
  | some j =>
    rw [e] at h
    have hi := (List.getElem?_eq_some_iff.mp e).1
    rw [List.length_range] at hi
    rw [List.getElem?_range hi] at e
    cases e
    cases h
    exact ⟨rfl, hi⟩
@[simp] theorem rng_length {lo : Int} {n : Nat} : (rng lo n).length = n := by unfold rng; rw [List.length_map, List.length_range]
theorem for_rng {g : D → Env → Res Env} {F : FS} {lo : Int} {n : Nat} {ρ : Env} {Q : Res Fl → Prop} (P : Nat → Env → Prop) (h0 : P 0 ρ) (hs : ∀ (i : Nat) ρ, i < n → P i ρ → ∃ ρ1, g (.int (lo + i)) ρ = .ok ρ1 ∧ Turn (P (i + 1)) Q (F ρ1)) (hd : ∀ ρ, P n ρ → Q (.ok (.nx ρ))) : Q (forGo g F (rng lo n) ρ) :=
  for_inv P h0 (fun i x ρ e p => by
    obtain ⟨rfl, hi⟩ := rng_get e
    exact hs i ρ hi p) (fun ρ p => hd ρ (by rw [rng_length] at p; exact p))
theorem fFor_ap {it : Env → Res (List D)} {g : D → Env → Res Env} {F : FS} {ρ : Env} {xs : List D} (h : it ρ = .ok xs) : fFor it g F ρ = forGo g F xs ρ := by unfold fFor; rw [h]; rfl
theorem gRng1_int {j : Int} (h0 : 0 ≤ j) (h : j < 4611686018427387904) : gRng1 [.int j] = .ok (rng 0 j.toNat) := by
  show (if rngOk 0 j = true then Res.ok (rng 0 j.toNat) else .er) = _
  rw [if_pos (by
    exact stuck_iff.mpr (by omega))]
theorem gRng2_int {i j : Int} (h0 : -4611686018427387904 ≤ i) (h1 : i < 4611686018427387904) (h2 : -4611686018427387904 ≤ j) (h : j < 4611686018427387904) : gRng2 [.int i, .int j] = .ok (rng i (j - i).toNat) := by
  show (if rngOk i j = true then Res.ok (rng i (j - i).toNat) else .er) = _
  rw [if_pos (by
    exact stuck_iff.mpr (by omega))]
theorem whileGo_inv {c : Env → Res Bool} {F : FS} {Q : Res Fl → Prop} (P : Env → Prop) (μ : Env → Nat) (hs : ∀ ρ, P ρ → ∃ b, c ρ = .ok b ∧ (b = true → Turn (fun ρ' => P ρ' ∧ μ ρ' < μ ρ) Q (F ρ)) ∧ (b = false → Q (.ok (.nx ρ)))) :
    ∀ (n : Nat) (ρ : Env), P ρ → μ ρ < n → Q (whileGo c F n ρ)
  | 0, ρ, _, h => absurd h (Nat.not_lt_zero _)
  | n + 1, ρ, hp, hn => by
    obtain ⟨b, eb, ht, hf⟩ := hs ρ hp
    unfold whileGo
    rw [eb]
    cases b with
    | false => exact hf rfl
    | true =>
      have t := ht rfl
      show Q (match F ρ with
        | .ok (.nx ρ2) => whileGo c F n ρ2
        | .ok (.ct ρ2) => whileGo c F n ρ2
        | .ok (.bk ρ2) => .ok (.nx ρ2)
        | o => o)
      cases ef : F ρ with
      | ok o =>
        rw [ef] at t
        cases o with
        | nx ρ2 => exact whileGo_inv P μ hs n ρ2 t.1 (by have := t.2; omega)
        | ct ρ2 => exact whileGo_inv P μ hs n ρ2 t.1 (by have := t.2; omega)
        | bk ρ2 => exact t
        | rt d => exact t
        | xc c fs ρ2 => exact t
      | ex c fs => rw [ef] at t; exact t.elim
      | er => rw [ef] at t; exact t.elim
theorem while_inv {c : Env → Res Bool} {F : FS} {Q : Res Fl → Prop} {ρ : Env} (P : Env → Prop) (μ : Env → Nat) (h0 : P ρ) (hn : μ ρ < 1000000000000000000) (hs : ∀ ρ, P ρ → ∃ b, c ρ = .ok b ∧ (b = true → Turn (fun ρ' => P ρ' ∧ μ ρ' < μ ρ) Q (F ρ)) ∧ (b = false → Q (.ok (.nx ρ)))) : Q (fWhile c F ρ) :=
  whileGo_inv P μ hs FUEL ρ h0 hn
/-- what comes behind a statement -/
theorem andThen_of {o : Res Fl} {G : FS} {Q : Res Fl → Prop} (h : Turn (fun ρ => Q (G ρ)) (fun r => match r with
  | .ok (.nx ρ) => Q (.ok (.bk ρ))
  | r => Q r) o) (hc : ∀ ρ, o ≠ .ok (.ct ρ)) : Q (andThen o G) := by
  cases o with
  | ok o =>
    cases o with
    | nx ρ => exact h
    | ct ρ => exact absurd rfl (hc ρ)
    | bk ρ => exact h
    | rt d => exact h
    | xc c fs ρ => exact h
  | ex c fs => exact h.elim
  | er => exact h.elim
/-- Q of a whole run, from a run of its first part of which R is known -/
theorem seq_by {F G : FS} {ρ : Env} {Q : Res Fl → Prop} (R : Res Fl → Prop) (h : R (F ρ)) (k : ∀ o, R o → Q (andThen o G)) : Q (fSeq F G ρ) := k _ h
theorem runF_of {n : Nat} {md : Md} {F : FS} {ds : List D} {Q : Res D → Prop} (h : (fun o : Res Fl => match o with
  | .ok (.rt d) => Q (.ok d)
  | .ok (.nx _) => if md = .sh then Q (.ok .non) else Q .er
  | .ok (.xc c fs _) => Q (.ex c fs)
  | _ => Q .er) (F (startE n ds))) : Q (runF n md F ds) := by
  unfold runF
  cases e : F (startE n ds) with
  | ok o =>
    rw [e] at h
    cases o with
    | nx ρ =>
      simp only at h ⊢
      split
      · rename_i hm; rw [if_pos hm] at h; exact h
      · rename_i hm; rw [if_neg hm] at h; exact h
    | _ => exact h
  | ex c fs => rw [e] at h; exact h
  | er => rw [e] at h; exact h
/-- a run that hands out d -/
theorem runF_rt {n : Nat} {md : Md} {F : FS} {ds : List D} {d : D} (h : F (startE n ds) = .ok (.rt d)) : runF n md F ds = .ok d := by unfold runF; rw [h]
@[simp] theorem startE_one {n : Nat} {a : D} : startE (n + 1) [a] = some a :: List.replicate n none := by simp [startE]
@[simp] theorem startE_two {n : Nat} {a b : D} : startE (n + 2) [a, b] = some a :: some b :: List.replicate n none := by simp [startE]
@[simp] theorem chk_one {f : List D → Res D} {a : D} : chk 1 f [a] = f [a] := rfl
@[simp] theorem chk_two {f : List D → Res D} {a b : D} : chk 2 f [a, b] = f [a, b] := rfl
@[simp] theorem chk_three {f : List D → Res D} {a b c : D} : chk 3 f [a, b, c] = f [a, b, c] := rfl
@[simp] theorem chk_four {f : List D → Res D} {a b c d : D} : chk 4 f [a, b, c, d] = f [a, b, c, d] := rfl
@[simp] theorem gLstD_nil : gLstD [] = .ok (.lst []) := rfl
@[simp] theorem gLstD_cons {d : D} {ds : List D} (h : ds.length < 100000 := by decide) : gLstD (d :: ds) = .ok (.lst (d :: ds)) := by
  unfold gLstD
  rw [if_pos (by rw [List.length_cons]; omega)]
theorem gLstD_of {ds : List D} (h : ds.length ≤ 100000) : gLstD ds = .ok (.lst ds) := if_pos h
theorem gTupD_of {ds : List D} (h : ds.length ≤ 100000) : gTupD ds = .ok (.tup ds) := if_pos h
theorem dIx_lst {xs : List D} {i : Int} {d : D} (h : atI xs i = some d) : dIx (.lst xs) (.int i) = .ok d := by simp only [dIx, h]
theorem dIx_tup {xs : List D} {i : Int} {d : D} (h : atI xs i = some d) : dIx (.tup xs) (.int i) = .ok d := by simp only [dIx, h]
theorem dIx_frl {xs : List D} {i : Int} {d : D} (h : atI xs i = some d) : dIx (.frl xs) (.int i) = .ok d := by simp only [dIx, h]
theorem atI_map {α : Type} {xs : List α} {f : α → D} {j : Nat} (h : j < xs.length) : atI (xs.map f) (j : Int) = some (f xs[j]) := atI_nat (by rw [List.getElem?_map, List.getElem?_eq_getElem h]; rfl)
end Da
namespace Da
open PySem PySem.Spec L2
/-! ### defs that stand in every law -/
def F_law_whole : FS := (fRet (fBv (fAnd (fB (f1 (dIsi "int") (fV 0))) (fB (fBv (fNot (fB (f1 (dIsi "bool") (fV 0)))))))))
def m_law_whole : List D → Res D := runF 1 .sh F_law_whole
def F_law_cell : FS := (fSeq (fIfS (fB (f2 dLt (fV 1) (fOn (on1 dLen) (fA (fV 0) fA0)))) (fRet (f2 dIx (fV 0) (fV 1))) fNext)
    (fSeq (fSet 2 (fC (.int 17)))
    (fSeq (fFor (fL (fV 0)) (gN 3) (fSet 2 (f2 dMod (fOn (on1 dInt) (fA (f2 dAdd (f2 dMul (fV 2) (fC (.int 31))) (f2 dMod (fOn (on1 dInt) (fA (fV 3) fA0)) (fC (.int 1000003)))) fA0)) (fC (.int 1000003)))))
    (fRet (f2 dMod (fOn (on1 dInt) (fA (f2 dMul (f2 dMul (f2 dAdd (fV 2) (fC (.int 7))) (f2 dAdd (fV 1) (fC (.int 3)))) (fC (.int 69621))) fA0)) (fC (.int 2147483647)))))))
def m_law_cell : List D → Res D := runF 4 .sh F_law_cell
def F_law_digits : FS := (fSeq (fSet 2 (fOn gLstD fA0))
    (fSeq (fSet 3 (fOn (on1 dInt) (fA (fV 0) fA0)))
    (fSeq (fIfS (fB (f2 dGe (fV 3) (f2 dPow (fC (.int 10)) (fC (.int 18))))) (fSeq (fSet 3 (f2 dSub (fV 3) (f2 dPow (fC (.int 10)) (fC (.int 18)))))
    (fSeq (fFor (fL (fV 1)) (gN 6) (fSeq (fApp 2 (f2 dMod (fOn (on1 dInt) (fA (fV 3) fA0)) (fV 6)))
    (fSet 3 (f2 dDiv (fOn (on1 dInt) (fA (fV 3) fA0)) (fV 6)))))
    (fRet (fV 2)))) fNext)
    (fSeq (fSet 4 (f2 dMod (fOn (on1 dInt) (fA (fV 3) fA0)) (fC (.int 2147483629))))
    (fSeq (fFor (fR1 (fA (fOn (on1 dLen) (fA (fV 1) fA0)) fA0)) (gN 5) (fSeq (fSet 4 (f2 dMod (fOn (on1 dInt) (fA (f2 dAdd (f2 dAdd (f2 dMul (fV 4) (fC (.int 48271))) (f2 dMul (fC (.int 974711)) (fV 5))) (fC (.int 12345))) fA0)) (fC (.int 2147483647))))
    (fSeq (fSet 7 (f2 dMod (fOn (on1 dInt) (fA (f2 dMul (fV 4) (f2 dAdd (f2 dDiv (fV 4) (fC (.int 65537))) (fC (.int 3)))) fA0)) (fC (.int 2147483629))))
    (fApp 2 (f2 dMod (f2 dDiv (fV 7) (fC (.int 19))) (f2 dIx (fV 1) (fV 5)))))))
    (fRet (fV 2)))))))
def m_law_digits : List D → Res D := runF 8 .ow F_law_digits
theorem law_whole_int {i : Int} : m_law_whole [.int i] = .ok (.bl true) := by simp [m_law_whole, runF, F_law_whole]
theorem law_cell_ok (ns : List Int) (k : Int) (hk : 0 ≤ k) (hk2 : k < 1000000) : ∃ c : Int, m_law_cell [.frl (ns.map D.int), .int k] = .ok (.int c) := by
  by_cases h : k < ns.length
  · refine ⟨ns[k.toNat], runF_rt ?_⟩
    have e := atI_map (f := D.int) (xs := ns) (j := k.toNat) (by omega)
    rw [show ((k.toNat : Nat) : Int) = k by omega] at e
    simp [F_law_cell, h, dIx_frl e]
  · have key : (fun r => ∃ s x, r = Res.ok (Fl.nx [some (.frl (ns.map D.int)), some (.int k), some (.int s), x]) ∧ 0 ≤ s ∧ s < 1000003)
        (fFor (fL (fV 0)) (gN 3) (fSet 2 (f2 dMod (fOn (on1 dInt) (fA (f2 dAdd (f2 dMul (fV 2) (fC (.int 31))) (f2 dMod (fOn (on1 dInt) (fA (fV 3) fA0)) (fC (.int 1000003)))) fA0)) (fC (.int 1000003)))) [some (.frl (ns.map D.int)), some (.int k), some (.int 17), none]) := by
      rw [fFor_ap (xs := ns.map D.int) (by simp)]
      refine for_inv (Q := fun r => ∃ s x, r = Res.ok (Fl.nx [some (.frl (ns.map D.int)), some (.int k), some (.int s), x]) ∧ 0 ≤ s ∧ s < 1000003) (fun _ ρ => ∃ s x, ρ = [some (.frl (ns.map D.int)), some (.int k), some (.int s), x] ∧ 0 ≤ s ∧ s < 1000003) ⟨17, none, rfl, by omega, by omega⟩ ?_ ?_
      · rintro i y ρ hy ⟨s, x, rfl, h1, h2⟩
        rw [List.getElem?_map] at hy
        cases e : ns[i]? with
        | none => rw [e] at hy; cases hy
        | some z =>
          rw [e] at hy
          cases hy
          refine ⟨_, rfl, ?_⟩
          simp [dMod_pos, dMul_64 (i := s) (j := 31) (by omega) (by omega)]
          omega
      · rintro ρ ⟨s, x, rfl, h1, h2⟩
        exact ⟨s, x, rfl, h1, h2⟩
    obtain ⟨s, x, e, h1, h2⟩ := key
    have m1 : 0 ≤ (s + 7) * (k + 3) ∧ (s + 7) * (k + 3) ≤ 1000010 * 1000003 := ⟨Int.mul_nonneg (by omega) (by omega), Int.mul_le_mul (by omega) (by omega) (by omega) (by omega)⟩
    refine ⟨((s + 7) * (k + 3) * 69621) % 2147483647, runF_rt ?_⟩
    simp [F_law_cell, h, e, dMod_pos, dMul_64 (i := s + 7) (j := k + 3) (by omega) (by omega), dMul_64 (i := (s + 7) * (k + 3)) (j := 69621) (by omega) (by omega)]
theorem dPow_int {i j r : Int} (h : powOk i j = true) (hr : i ^ j.toNat = r) : dPow (.int i) (.int j) = .ok (.int r) := by
  rw [← hr]
  exact if_pos h
theorem pow_10_18 : dPow (.int 10) (.int 18) = .ok (.int 1000000000000000000) := dPow_int (stuck_iff.mpr (by omega)) (by decide +kernel)
/-- a row of digits below the sizes -/
def Digs (sizes row : List Int) : Prop := row.length = sizes.length ∧ ∀ (i : Nat) (s r : Int), sizes[i]? = some s → row[i]? = some r → 0 ≤ r ∧ r < s
theorem Digs.snoc {sizes row : List Int} {n : Nat} {s r : Int} (h : Digs (sizes.take n) row) (hs : sizes[n]? = some s) (h0 : 0 ≤ r) (h1 : r < s) : Digs (sizes.take (n + 1)) (row ++ [r]) := by
  obtain ⟨hl, hd⟩ := h
  have hn := (List.getElem?_eq_some_iff.mp hs).1
  rw [List.length_take, Nat.min_eq_left (by omega)] at hl
  refine ⟨by rw [List.length_append, List.length_take, hl, Nat.min_eq_left (by omega)]; rfl, fun i s' r' e1 e2 => ?_⟩
  rw [List.getElem?_take] at e1
  split at e1
  · rename_i hi
    by_cases hin : i < n
    · exact hd i s' r' (by rw [List.getElem?_take, if_pos hin]; exact e1) (by rw [List.getElem?_append_left (by omega)] at e2; exact e2)
    · have : i = n := by omega
      subst this
      rw [hs] at e1
      cases e1
      rw [← hl, List.getElem?_concat_length] at e2
      cases e2
      exact ⟨h0, h1⟩
  · cases e1
theorem law_digits_ok (c : Int) (sizes : List Int) (hp : ∀ s ∈ sizes, 0 < s ∧ s.natAbs < Lim) (hz : sizes.length ≤ 100000) : ∃ row : List Int, m_law_digits [.int c, .lst (sizes.map D.int)] = .ok (.lst (row.map D.int)) ∧ Digs sizes row := by
  have hpow := pow_10_18
  by_cases h : 1000000000000000000 ≤ c
  · have key : (fun r => ∃ row y z, r = Res.ok (Fl.nx [some (.int c), some (.lst (sizes.map D.int)), some (.lst (row.map D.int)), some (.int y), none, none, z, none]) ∧ Digs sizes row)
        (fFor (fL (fV 1)) (gN 6) (fSeq (fApp 2 (f2 dMod (fOn (on1 dInt) (fA (fV 3) fA0)) (fV 6))) (fSet 3 (f2 dDiv (fOn (on1 dInt) (fA (fV 3) fA0)) (fV 6))))
          [some (.int c), some (.lst (sizes.map D.int)), some (.lst []), some (.int (c - 1000000000000000000)), none, none, none, none]) := by
      rw [fFor_ap (xs := sizes.map D.int) (by simp)]
      refine for_inv (Q := fun r => ∃ row y z, r = Res.ok (Fl.nx [some (.int c), some (.lst (sizes.map D.int)), some (.lst (row.map D.int)), some (.int y), none, none, z, none]) ∧ Digs sizes row)
        (fun n ρ => ∃ row y z, ρ = [some (.int c), some (.lst (sizes.map D.int)), some (.lst (row.map D.int)), some (.int y), none, none, z, none] ∧ Digs (sizes.take n) row) ⟨[], _, none, rfl, rfl, fun i s r e => by simp at e⟩ ?_ ?_
      · rintro i x ρ hx ⟨row, y, z, rfl, hd⟩
        rw [List.getElem?_map] at hx
        cases e : sizes[i]? with
        | none => rw [e] at hx; cases hx
        | some s =>
          rw [e] at hx
          cases hx
          have hs := hp s (List.mem_of_getElem? e)
          refine ⟨_, rfl, ?_⟩
          have hl : row.length ≤ 100000 := by
            have := hd.1
            rw [List.length_take] at this
            omega
          have hsz : szOk (row.length + 1) = true := szOk_yes (by omega)
          simp [fApp, hsz, dMod_pos hs.1, dDiv_pos hs.1 hs.2]
          exact ⟨row ++ [y % s], by simp, hd.snoc e (Int.emod_nonneg _ (by omega)) (Int.emod_lt_of_pos _ hs.1)⟩
      · rintro ρ ⟨row, y, z, rfl, hd⟩
        rw [List.length_map, List.take_length] at hd
        exact ⟨row, y, z, rfl, hd⟩
    obtain ⟨row, y, z, e, hd⟩ := key
    refine ⟨row, runF_rt ?_, hd⟩
    simp [F_law_digits, hpow, h, e]
  · have key : ∀ s0 : Int, 0 ≤ s0 → s0 < 2147483647 → (fun r => ∃ row s y z, r = Res.ok (Fl.nx [some (.int c), some (.lst (sizes.map D.int)), some (.lst (row.map D.int)), some (.int c), some (.int s), y, none, z]) ∧ Digs sizes row)
        (fFor (fR1 (fA (fOn (on1 dLen) (fA (fV 1) fA0)) fA0)) (gN 5) (fSeq (fSet 4 (f2 dMod (fOn (on1 dInt) (fA (f2 dAdd (f2 dAdd (f2 dMul (fV 4) (fC (.int 48271))) (f2 dMul (fC (.int 974711)) (fV 5))) (fC (.int 12345))) fA0)) (fC (.int 2147483647))))
    (fSeq (fSet 7 (f2 dMod (fOn (on1 dInt) (fA (f2 dMul (fV 4) (f2 dAdd (f2 dDiv (fV 4) (fC (.int 65537))) (fC (.int 3)))) fA0)) (fC (.int 2147483629))))
    (fApp 2 (f2 dMod (f2 dDiv (fV 7) (fC (.int 19))) (f2 dIx (fV 1) (fV 5))))))
          [some (.int c), some (.lst (sizes.map D.int)), some (.lst []), some (.int c), some (.int s0), none, none, none]) := by
      intro s0 hs0 hs1
      rw [fFor_ap (xs := rng 0 sizes.length) (by simp [gRng1_int (j := (sizes.length : Int)) (by omega) (by omega)])]
      refine for_rng (Q := fun r => ∃ row s y z, r = Res.ok (Fl.nx [some (.int c), some (.lst (sizes.map D.int)), some (.lst (row.map D.int)), some (.int c), some (.int s), y, none, z]) ∧ Digs sizes row)
        (fun n ρ => ∃ row s y z, ρ = [some (.int c), some (.lst (sizes.map D.int)), some (.lst (row.map D.int)), some (.int c), some (.int s), y, none, z] ∧ Digs (sizes.take n) row ∧ 0 ≤ s ∧ s < 2147483647) ⟨[], s0, none, none, rfl, ⟨rfl, fun i s r e => by simp at e⟩, hs0, hs1⟩ ?_ ?_
      · rintro i ρ hi ⟨row, s, y, z, rfl, hd, h1, h2⟩
        have e := List.getElem?_eq_getElem hi
        have hs := hp sizes[i] (List.mem_of_getElem? e)
        have hl : row.length ≤ 100000 := by
          have := hd.1
          rw [List.length_take] at this
          omega
        have hsz : szOk (row.length + 1) = true := szOk_yes (by omega)
        have ei := atI_map (f := D.int) (xs := sizes) (j := i) hi
        refine ⟨_, rfl, ?_⟩
        generalize hs' : (s * 48271 + 974711 * (0 + (i : Int)) + 12345) % 2147483647 = s'
        have b1 : 0 ≤ s' := by rw [← hs']; exact Int.emod_nonneg _ (by decide)
        have b2 : s' < 2147483647 := by rw [← hs']; exact Int.emod_lt_of_pos _ (by decide)
        have b3 : 0 ≤ s' / 65537 ∧ s' / 65537 < 40000 := by omega
        have hs'' : (s * 48271 + 974711 * (i : Int) + 12345) % 2147483647 = s' := by rw [← hs']; simp
        have q1 : dMod (.int (s * 48271 + 974711 * (i : Int) + 12345)) (.int 2147483647) = .ok (.int s') := by rw [dMod_pos (by decide), hs'']
        simp [fApp, hsz, q1, dMul_64 (i := s) (j := 48271) (by omega) (by omega), dMul_64 (i := 974711) (j := (i : Int)) (by omega) (by omega), dDiv_64 (i := s') (j := 65537) (by decide) (by decide), dMul_64 (i := s') (j := s' / 65537 + 3) (by omega) (by omega),
          dMod_pos (j := 2147483629), dDiv_64 (j := 19) (by decide) (by decide), dIx_lst ei, dMod_pos hs.1]
        exact ⟨row ++ [s' * (s' / 65537 + 3) % 2147483629 / 19 % sizes[i]], s', ⟨by simp, rfl⟩, hd.snoc e (Int.emod_nonneg _ (by omega)) (Int.emod_lt_of_pos _ hs.1), b1, b2⟩
      · rintro ρ ⟨row, s, y, z, rfl, hd, _, _⟩
        rw [List.take_length] at hd
        exact ⟨row, s, y, z, rfl, hd⟩
    obtain ⟨row, s, y, z, e, hd⟩ := key (c % 2147483629) (Int.emod_nonneg _ (by decide)) (by have := Int.emod_lt_of_pos c (show (0 : Int) < 2147483629 by decide); omega)
    refine ⟨row, runF_rt ?_, hd⟩
    simp [F_law_digits, hpow, h, dMod_pos, e]
end Da
namespace Da
open PySem PySem.Spec L2
/-! ### comprehensions -/
/-- the data of the slots vs forgotten -/
def wipeD (ρ : Env) : List Nat → Env
  | [] => ρ
  | v :: vs => (wipeD ρ vs).set v none
/-- the items of a comprehension -/
def lcGo (g : D → Env → Res Env) (c : Env → Res Bool) (f : Env → Res D) (ρ : Env) : List D → Res (List D)
  | [] => .ok []
  | x :: xs => match g x ρ with
    | .ok ρ1 => (match c ρ1 with
      | .ok b => if b = true then (match f ρ1 with
        | .ok y => (match lcGo g c f ρ xs with
          | .ok ys => .ok (y :: ys)
          | _ => .er)
        | _ => .er) else lcGo g c f ρ xs
      | _ => .er)
    | _ => .er
def asLst (r : Res (List D)) : Res D := match r with
  | .ok ys => .ok (.lst ys)
  | _ => .er
def fLc (vs : List Nat) (it : Env → Res (List D)) (g : D → Env → Res Env) (c : Env → Res Bool) (f : Env → Res D) : Env → Res D := fun ρ => (it ρ).bind fun xs => if szOk xs.length = true then asLst (lcGo g c f (wipeD ρ vs) xs) else .er
def fYes : Env → Res Bool := fun _ => .ok true
def EF : WX := fun _ _ _ _ => False
theorem takesF {X : Cx} : Takes X EF := fun _ _ x => by
  obtain ⟨_, _, _, _, _, _, _, _, _, _, _, _, z⟩ := x
  exact z.2.2.2.2.elim
structure JTs (X : Cx) (E : WX) (m : Mds) (es : List Expr) (f : Env → Res Bool) : Prop where
  pt : PTs X es (tT X.K X.mg E m f)
section
variable {K : PySem.W.Frag} {mg : Str → Option Value} {m : Mds} {F : Nat → List Addr} {S S' H H' : Hp} {σ : L2.St} {ρ : Env}
theorem EnvF.wipe (h : EnvF K mg m F S H σ ρ) : ∀ vs : List Nat, EnvF K mg m F S H (L2.wipe σ vs) (wipeD ρ vs)
  | [] => h
  | v :: vs => by
    have ih := EnvF.wipe h vs
    have key : ∀ {j : Nat} {d : D}, ((wipeD ρ vs).set v none)[j]? = some (some d) → j ≠ v ∧ (wipeD ρ vs)[j]? = some (some d) := fun {j d} ej => by
      by_cases hj : v = j
      · subst hj
        rw [List.getElem?_set, if_pos rfl] at ej
        split at ej <;> cases ej
      · rw [List.getElem?_set_ne hj] at ej
        exact ⟨fun z => hj z.symm, ej⟩
    unfold L2.wipe wipeD
    refine ⟨by rw [List.length_set, List.length_set]; exact ih.len, fun i d e => ?_, fun i d e => ih.nd i d (key e).2, fun i j d e hij e1 e2 => ih.apart i j d e hij (key e1).2 (key e2).2⟩
    obtain ⟨w, e1, o⟩ := ih.at_ i d (key e).2
    exact ⟨w, by rw [List.getElem?_set_ne (Ne.symm (key e).1)]; exact e1, o⟩
theorem EnvM.wipe (h : EnvM K mg m S H σ ρ) (vs : List Nat) : EnvM K mg m S H (L2.wipe σ vs) (wipeD ρ vs) := by
  obtain ⟨hs, F, h⟩ := h
  exact ⟨hs, F, h.wipe vs⟩
/-- slots as of a body that nothing was before -/
theorem EnvM.bare (h : EnvM K mg m S H σ ρ) : ∃ F, StF K mg m (fun _ => none) (fun _ => none) S F σ ρ H := by
  obtain ⟨hs, F, h⟩ := h
  exact ⟨F, ⟨(fun _ _ e => nomatch e), (fun _ _ e => nomatch e), hs, (fun _ _ => .inr rfl)⟩, h, (fun _ _ _ _ _ => rfl)⟩
theorem wipe_at {vs : List Nat} {j : Nat} : (L2.wipe σ vs)[j]? = if j ∈ vs ∧ j < σ.length then some none else σ[j]? := by
  induction vs with
  | nil => simp [L2.wipe]
  | cons v vs ih =>
    unfold L2.wipe
    rw [List.getElem?_set, L2.wipe_length, ih]
    by_cases hv : v = j
    · subst hv
      by_cases hl : v < σ.length
      · simp [hl]
      · simp [hl]
    · have : ¬ j = v := fun z => hv z.symm
      simp [hv, this]
theorem wipe_eq {σ' : L2.St} {vs ts : List Nat} (hl : σ'.length = σ.length) (hj : ∀ j, j ∉ ts → σ'[j]? = (L2.wipe σ vs)[j]?) (hts : ∀ t ∈ ts, t ∈ vs) : L2.wipe σ' vs = L2.wipe σ vs := by
  refine List.ext_getElem? fun j => ?_
  rw [wipe_at, wipe_at, hl]
  by_cases hv : j ∈ vs
  · by_cases hlt : j < σ.length
    · rw [if_pos ⟨hv, hlt⟩, if_pos ⟨hv, hlt⟩]
    · rw [if_neg (fun z => hlt z.2), if_neg (fun z => hlt z.2), List.getElem?_eq_none (by omega), List.getElem?_eq_none (by omega)]
  · rw [if_neg (fun z => hv z.1), if_neg (fun z => hv z.1)]
    have := hj j (fun z => hv (hts j z))
    rw [wipe_at, if_neg (fun z => hv z.1)] at this
    exact this
/-- a hidden new object is written -/
theorem Step.write {p : Addr} {o : HO} (st : Step S H S' H') (hs : S' p = none) (hp : H p = none) : Step S H S' (upd H' p o) := by
  refine ⟨fun b x e => ?_, st.ss, fun b x e => ?_, st.new⟩
  · rw [upd_ne (ne_of_none e hp)]
    exact st.hh b x e
  · rw [upd_ne (ne_of_none e hs)]
    exact st.sub b x e
end
section
variable {K : PySem.W.Frag} {mg : Str → Option Value} {E : WX} {m : Mds} {it : Env → Res (List D)} {g : D → Env → Res Env} {c : Env → Res Bool} {f : Env → Res D} {ts vs : List Nat}
/-- the list under way: its items so far, what is still to come -/
def LcW (K : PySem.W.Frag) (mg : Str → Option Value) (g : D → Env → Res Env) (c : Env → Res Bool) (f : Env → Res D) (ρ : Env) (xs ys : List D) (D0 : Addr) (S1 H1 : Hp) (i : Nat) (H : Hp) : Prop :=
  ∃ S2 ws ds rest, Step S1 H1 S2 H ∧ S2 D0 = none ∧ H D0 = some (.lst ws) ∧ RepL K mg S2 ws ds ∧ lcGo g c f ρ (xs.drop i) = .ok rest ∧ ys = ds ++ rest ∧ ds.length ≤ i
theorem lc_ok {σ : L2.St} {H : Hp} {Q : VK} (hts : ∀ t ∈ ts, t ∈ vs) (h : tE K mg E m .ow (fLc vs it g c f) σ H Q) :
    tLc (tI K mg E m it) (tGD K mg m ts g) (tT K mg EF m c) (tE K mg EF m .sh f) vs σ H Q := by
  obtain ⟨S, ρ, hm, hp⟩ := h
  refine ⟨S, ρ, hm, (Post.bind hp).imp fun xs S1 H1 s1 k J w D0 hD => ?_⟩
  split at k
  · rename_i hz
    have hz := szOk_ok hz
    unfold asLst at k
    split at k
    · rename_i ys eg
      refine ⟨fun i n H => n = xs.length - i ∧ i ≤ xs.length ∧ LcW K mg g c f (wipeD ρ vs) xs ys D0 S1 H1 i H, ⟨xs.length, by simp, Nat.zero_le _, S1, [], [], ys, Step.hid s1.sub hD, s1.sub.free hD, upd_same, .nil, eg, rfl, Nat.le_refl _⟩, ?_⟩
      rintro i n H2 ⟨rfl, hi, S2, ws, ds, rest, st2, hs2, hd2, rv, el, ey, hn⟩
      by_cases hlt : i < xs.length
      · obtain ⟨hgo, hyl⟩ := w.go i xs[i] S2 H2 (List.getElem?_eq_getElem hlt) st2.ss st2.sub
        refine .inr ⟨hgo, LcW K mg g c f (wipeD ρ vs) xs ys D0 S1 H1 (i + 1), fun H' z => ⟨xs.length - (i + 1), by omega, rfl, hlt, z⟩, fun x H3 y => ?_⟩
        obtain ⟨S3, s3, r3⟩ := hyl x H3 y
        rw [List.drop_eq_getElem_cons hlt] at el
        unfold lcGo at el
        split at el
        · rename_i ρ1 eg1
          have st3 := st2.trans s3
          obtain ⟨F, stF⟩ := (((hm.step s1).step st3).wipe vs).bare
          refine ⟨_, _, S3, F, wipeD ρ vs, xs[i], stF, r3, ?_⟩
          rw [eg1]
          intro σ4 S4 F4 H4 st4 s4 hfr
          refine ⟨wipe_eq (by rw [hfr.1, L2.wipe_length]) hfr.2 hts, S4, ρ1, st4.envM, ?_⟩
          split at el
          · rename_i b ec
            rw [ec]
            intro S5 H5 s5
            have a5 := (s3.trans s4).trans s5
            have st5 := st2.trans a5
            have hd5 := a5.hh _ _ hd2
            have hs5 := a5.out hs2 hd2
            cases b with
            | false =>
              rw [if_neg (by decide)] at el
              show LcW K mg g c f (wipeD ρ vs) xs ys D0 S1 H1 (i + 1) H5
              exact ⟨S5, ws, ds, rest, st5, hs5, hd5, rv.mono a5.ss, el, ey, by omega⟩
            | true =>
              rw [if_pos rfl] at el
              show tE K mg EF m Md.sh f σ4 H5 _
              split at el
              · rename_i y' ef
                refine ⟨S5, ρ1, (st4.envM).step s5, ?_⟩
                rw [ef]
                intro v S6 H6 fp s6 o _ _
                have a6 := a5.trans s6
                split at el
                · rename_i rest' er
                  cases el
                  refine ⟨ws, a6.hh _ _ hd2, by rw [rv.len]; omega, S6, ws ++ [v], ds ++ [y'], rest', (st2.trans a6).write (a6.out hs2 hd2) hD, a6.out hs2 hd2, upd_same, (rv.mono a6.ss).snoc o.1, er, by rw [ey]; simp, by rw [List.length_append]; simp; omega⟩
                · cases el
              · cases el
          · cases el
        · cases el
      · have e : i = xs.length := by omega
        subst e
        rw [List.drop_length] at el
        cases el
        rw [List.append_nil] at ey
        subst ey
        exact .inl ⟨w.stop S2 H2 st2.ss st2.sub, k _ S2 H2 [D0] st2 ⟨D0, ws, _, rfl, rfl, rfl, hs2, hd2, rv⟩ (by simp) (fun a z => by
          have : a = D0 := by simpa using z
          rw [this]; exact hD)⟩
    · exact k.elim
  · exact k.elim
end
section
variable {X : Cx} {E : WX} {L : Lp} {m : Mds} {ts : List Nat} {N0 ps0 : List Str} {sc0 : Scope} {elt tg iter e : Expr} {ifs : List Expr} {scope : Scope} {own : List (Str × Nat)} {pos : Pos} {it : Env → Res (List D)} {g : D → Env → Res Env} {c : Env → Res Bool} {f : Env → Res D}
theorem jts_nil : JTs X E m [] fYes := ⟨⟨fun pins s σ H Q I q => pts_nil.run pins s σ H Q I (by
  obtain ⟨S, ρ, hm, hp⟩ := q
  exact hp S H (Step.refl hm.1))⟩⟩
theorem jts_one (h : JT X E m e c) : JTs X E m [e] c := ⟨pts_one h.pt⟩
theorem je_lc (Sc : FnScope N0 ps0 sc0) (own : List (Str × Nat)) (hi : JI X E m tg iter it)
    (hg : ∀ (s : Shared) (H : Hp) (C : Addr) (cl : List (Str × Addr)) (fp : List Addr), JG (X.blk s H scope (compEnvC scope cl C X.env) fp) m ts tg g) (ht : ∀ (s : Shared) (H : Hp) (C : Addr) (cl : List (Str × Addr)) (fp : List Addr), JTs (X.blk s H scope (compEnvC scope cl C X.env) fp) EF m ifs c)
    (he : ∀ (s : Shared) (H : Hp) (C : Addr) (cl : List (Str × Addr)) (fp : List Addr), JE (X.blk s H scope (compEnvC scope cl C X.env) fp) EF m .sh elt f) (hc : X.calm = true := by rfl) (hN0 : X.N = N0 := by rfl) (hsc : X.env.scope = sc0 := by rfl) (ok : blkC N0 sc0 scope own = true := by decide +kernel) (hts : ∀ t ∈ ts, t ∈ own.map (·.2) := by decide)
    (hs : ∀ x, foldedSetIterable iter X.env x = pure x := by intro _; rfl) : JE X E m .ow (.ListComp elt [⟨tg, iter, ifs, 0⟩] scope pos) (fLc (own.map (·.2)) it g c f) :=
  ⟨PEimp (pe_lc (g := tGD X.K X.mg m ts g) (tt := tT X.K X.mg EF m c) (te := tE X.K X.mg EF m .sh f) hc (by rw [hN0]; exact Sc.nd) hi.pi (blkOk_by (by rw [hN0, hsc]; exact ok)) (fun s H C cl fp => (hg s H C cl fp).pg) (fun s H C cl fp => (ht s H C cl fp).pt) (fun s H C cl fp => (he s H C cl fp).pe) hs) fun σ H Q h => lc_ok hts h⟩
/-- .. within another comprehension's block -/
theorem je_lcB {scO : Scope} (Sc : FnScope N0 ps0 sc0) (own : List (Str × Nat)) (hi : JI X E m tg iter it)
    (hg : ∀ (s : Shared) (H : Hp) (C : Addr) (cl : List (Str × Addr)) (fp : List Addr), JG (X.blk s H scope (compEnvC scope cl C X.env) fp) m ts tg g) (ht : ∀ (s : Shared) (H : Hp) (C : Addr) (cl : List (Str × Addr)) (fp : List Addr), JTs (X.blk s H scope (compEnvC scope cl C X.env) fp) EF m ifs c)
    (he : ∀ (s : Shared) (H : Hp) (C : Addr) (cl : List (Str × Addr)) (fp : List Addr), JE (X.blk s H scope (compEnvC scope cl C X.env) fp) EF m .sh elt f) (hc : X.calm = true := by rfl) (hN0 : X.N = N0 := by rfl) (hsc : X.env.scope = relS scO sc0 := by rfl) (ok : blkC N0 (relS scO sc0) scope own = true := by decide +kernel) (hts : ∀ t ∈ ts, t ∈ own.map (·.2) := by decide)
    (hs : ∀ x, foldedSetIterable iter X.env x = pure x := by intro _; rfl) : JE X E m .ow (.ListComp elt [⟨tg, iter, ifs, 0⟩] scope pos) (fLc (own.map (·.2)) it g c f) :=
  ⟨PEimp (pe_lc (g := tGD X.K X.mg m ts g) (tt := tT X.K X.mg EF m c) (te := tE X.K X.mg EF m .sh f) hc (by rw [hN0]; exact Sc.nd) hi.pi (blkOk_by (by rw [hN0, hsc]; exact ok)) (fun s H C cl fp => (hg s H C cl fp).pg) (fun s H C cl fp => (ht s H C cl fp).pt) (fun s H C cl fp => (he s H C cl fp).pe) hs) fun σ H Q h => lc_ok hts h⟩
theorem js_setLc (i : Nat) {y : Str} {py spos : Pos} (Sc : FnScope N0 ps0 sc0) (own : List (Str × Nat)) (hi : JI X E m tg iter it)
    (hg : ∀ (s : Shared) (H : Hp) (C : Addr) (cl : List (Str × Addr)) (fp : List Addr), JG (X.blk s H scope (compEnvC scope cl C X.env) fp) m ts tg g) (ht : ∀ (s : Shared) (H : Hp) (C : Addr) (cl : List (Str × Addr)) (fp : List Addr), JTs (X.blk s H scope (compEnvC scope cl C X.env) fp) EF m ifs c)
    (he : ∀ (s : Shared) (H : Hp) (C : Addr) (cl : List (Str × Addr)) (fp : List Addr), JE (X.blk s H scope (compEnvC scope cl C X.env) fp) EF m .sh elt f) (hl : i < m.length := by first | decide | simp) (hc : X.calm = true := by rfl) (hy : X.N[i]? = some y := by rfl) (hyl : X.env.scope.names.lookup y = some .local := by rfl)
    (hsw : swapsWith (.ListComp elt [⟨tg, iter, ifs, 0⟩] scope pos) (some (.Name y py)) spos.line X.env = pure true := by rfl) (hN0 : X.N = N0 := by rfl) (hsc : X.env.scope = sc0 := by rfl) (ok : blkC N0 sc0 scope own = true := by decide +kernel) (hts : ∀ t ∈ ts, t ∈ own.map (·.2) := by decide)
    (hs : ∀ x, foldedSetIterable iter X.env x = pure x := by intro _; rfl) : JS X E L m (m.set i .ow) (.Assign [.Name y py] (.ListComp elt [⟨tg, iter, ifs, 0⟩] scope pos) spos) (fSet i (fLc (own.map (·.2)) it g c f)) := by
  refine ⟨PSimp (ps_setLc (g := tGD X.K X.mg m ts g) (tt := tT X.K X.mg EF m c) (te := tE X.K X.mg EF m .sh f) hc (by rw [hN0]; exact Sc.nd) hy hyl hsw hi.pi (blkOk_by (by rw [hN0, hsc]; exact ok)) (fun s H C cl fp => (hg s H C cl fp).pg) (fun s H C cl fp => (ht s H C cl fp).pt) (fun s H C cl fp => (he s H C cl fp).pe) hs) fun D σ H h => ?_⟩
  obtain ⟨S0, H0, ρ, ⟨S, Fp, st⟩, p⟩ := h
  refine lc_ok hts ⟨S, ρ, st.envM, (lift_post st p).postM fun d v S1 H1 fp s1 o hn hf k => ?_⟩
  refine k _ _ (StF.stM ((st.step s1).set hl o hn (fun a ha => st.1.hh.free (hf a ha)) fun j e' hj ej a ha z => ?_))
  obtain ⟨w, _, o'⟩ := st.2.1.at_ j e' ej
  obtain ⟨_, u, hu⟩ := o'.out ha
  rw [hf a z] at hu
  cases hu
end
end Da
namespace Da
open PySem PySem.Spec L2
/-! ### sorted -/
def D.en (d : D) : PyData := (D.py d).getD .none
def leD (x y : D) : Bool := PySem.W.dataLe false D.en x y
def SrtOk (ds : List D) : Prop := (∃ bs, D.pys ds = some bs) ∧ PySem.W.AllAlike (ds.map D.en) ∧ PySem.W.Sortable (ds.map D.en) ∧ ∀ d ∈ ds, d.en.depth ≤ 20
def srtOk (ds : List D) : Bool := stuck (SrtOk ds)
def dSorted : D → Res D
  | .lst ds => if srtOk ds = true then .ok (.lst (ds.mergeSort leD)) else .er
  | .tup ds => if srtOk ds = true then .ok (.lst (ds.mergeSort leD)) else .er
  | .frl ds => if srtOk ds = true then .ok (.lst (ds.mergeSort leD)) else .er
  | _ => .er
theorem pys_some : ∀ {ds : List D} {bs : List PyData}, D.pys ds = some bs → bs = ds.map D.en ∧ ∀ d ∈ ds, D.py d = some d.en
  | [], bs, e => by cases e; exact ⟨rfl, fun d h => nomatch h⟩
  | d :: ds, bs, e => by
    unfold D.pys at e
    split at e
    · rename_i y ys e1 e2
      cases e
      obtain ⟨h1, h2⟩ := pys_some e2
      have hy : d.en = y := by unfold D.en; rw [e1]; rfl
      refine ⟨by rw [List.map_cons, ← h1, hy], fun d' hd => ?_⟩
      rcases List.mem_cons.mp hd with rfl | hd
      · rw [hy]; exact e1
      · exact h2 d' hd
    · cases e
mutual
theorem reads_off {h : Heap} {a : Addr} (ha : h.get? a = none) : ∀ (d : PyData) (v : Value) (as : List Addr), PySem.W.alike d d = true → Reads h v d as → a ∉ as
  | .none, _, _, _, r => by cases r; simp
  | .bool _, _, _, _, r => by cases r; simp
  | .int _, _, _, _, r => by cases r; simp
  | .str _, _, _, _, r => by cases r; simp
  | .list xs, _, _, hal, r => by
    cases r with
    | list h1 h2 h3 h4 =>
      rw [List.mem_cons, not_or]
      exact ⟨fun e => by rw [e, h1] at ha; (cases ha), readsAll_off ha xs _ _ (by simpa [PySem.W.alike] using hal) h4⟩
  | .tuple xs, _, _, hal, r => by
    cases r with
    | tuple h1 h2 h3 h4 => exact readsAll_off ha xs _ _ (by simpa [PySem.W.alike] using hal) h4
  | .dict _, _, _, hal, _ => absurd hal (by simp [PySem.W.alike])
theorem readsAll_off {h : Heap} {a : Addr} (ha : h.get? a = none) : ∀ (ds : List PyData) (vs : List Value) (as : List Addr), PySem.W.alikeAll ds ds = true → ReadsAll h vs ds as → a ∉ as
  | [], _, _, _, r => by cases r; simp
  | d :: ds, _, _, hal, r => by
    cases r with
    | cons h1 h2 =>
      rw [List.mem_append, not_or]
      exact ⟨reads_off ha d _ _ (PySem.W.alike_all_cons hal).1 h1, readsAll_off ha ds _ _ (PySem.W.alike_all_cons hal).2 h2⟩
end
section
variable {prog : Program} {w : World} {A : Around} {Er : Value → Shared → Prop} {s : Shared} {β : Type} {its : List Value} {bs : List β} {enc : β → PyData} {R : Value → β → Prop}
theorem sorted_seq {l : Addr} {T : String} {o : Obj} {n : Nat} {Q : Value → Shared → Prop} (hT : T = "list" ∨ T = "tuple") (ho : s.heap.get? l = some o) (hc : o.cls = .type T) (hd : o.data = .seq its.toArray n) (hz : its.length ≤ sizeLine)
    (e : PySem.W.EachIs R its bs) (er : PySem.W.EachIs (fun v b => ∃ as, Reads s.heap v (enc b) as) its bs) (hal : PySem.W.AllAlike (bs.map enc)) (hk : PySem.W.Sortable (bs.map enc)) (hu : ∀ b, b ∈ bs → A.units + 8 + (enc b).depth < cLine)
    (h : ∀ (h1 h2 : Heap) (out : List Value) (ep : Nat), (∀ b o, s.heap.get? b = some o → h1.get? b = some o) → (∀ b o, h1.get? b = some o → h2.get? b = some o) → h2.get? h1.objs.size = some (PyProof.Rows.seqObj "list" (List.toArray out) ep) → PySem.W.EachIs R out (bs.mergeSort (PySem.W.dataLe false enc)) → Q (.ref h1.objs.size) { s with heap := h2 }) :
    wpAny (model prog w) A (call (.builtin "sorted") [.ref l]) Q Er s := by
  refine Calls.call_function_entry PyProof.Rows.kind_sorted PyProof.Rows.plain_sorted PyProof.Rows.entry_sorted (PyProof.Rows.args_sorted1 _) ?_
  unfold Builtin.«sorted»
  refine wpAny_bind (m := checkCount "sorted" 1 1 _) (wpAny_pure ?_)
  refine wpAny_bind (wpAny_collect_seq l hT ho hc hd (fun h1 k1 => ?_) (by rw [List.size_toArray]; exact hz))
  have hl : bs.length ≤ sizeLine := by rw [← e.length]; exact hz
  refine wpAny_bind (wpAny_newList ?_ hz)
  have hS : (h1.push { cls := .type "list", data := .seq its.toArray }).get? h1.objs.size = some (PyProof.Rows.seqObj "list" its.toArray 0) := Heap.get?_push_size _ rfl
  have k2 : ∀ b o, h1.get? b = some o → (h1.push { cls := .type "list", data := .seq its.toArray }).get? b = some o := fun b o q => Heap.get?_push_of_some _ q
  have off : h1.get? h1.objs.size = none := by
    cases q : h1.get? h1.objs.size with
    | none => rfl
    | some o => exact absurd (Heap.lt_size q) (Nat.lt_irrefl _)
  have er2 : PySem.W.EachIs (fun v b => ∃ as, Reads (h1.push { cls := .type "list", data := .seq its.toArray }) v (enc b) as ∧ h1.objs.size ∉ as) its bs :=
    (PySem.W.each_mem er).mono fun v b ⟨⟨as, r⟩, hb⟩ => by
      have r1 := PyProof.Rows.Reads.keeps k1 r
      exact ⟨as, PyProof.Rows.Reads.keeps k2 r1, reads_off off _ _ _ (hal _ (List.mem_map.mpr ⟨b, hb, rfl⟩) _ (List.mem_map.mpr ⟨b, hb, rfl⟩)) r1⟩
  refine wpAny_bind (wpAny_holding (PySem.W.list_sort_data (s := { s with heap := h1.push { cls := .type "list", data := .seq its.toArray } }) (a := h1.objs.size) hS e er2 hal hk hl (fun b hb => ?_) fun out _ ho2 => ?_))
  · have := hu b hb
    show A.units + _ + 1 + (enc b).depth < cLine
    omega
  · obtain ⟨ep, q⟩ := PyProof.Rows.sortedHeap_at (out := List.toArray out) hS
    refine wpAny_pure ⟨_, rfl, h h1 _ out ep k1 (fun b o q' => ?_) q ho2⟩
    have hlt := Heap.lt_size q'
    rw [PyProof.Rows.sortedHeap_old (Nat.ne_of_lt hlt) (by rw [Heap.size_push]; exact Nat.lt_succ_of_lt hlt)]
    exact k2 b o q'
end
/-- sorted(xs), of a list or a tuple -/
def rSortD (K : PySem.W.Frag) (mg : Str → Option Value) : List V → Hp → VK → Prop := fun vs H Q => ∃ (S : Hp) (a : Addr) (xs : List V) (ds : List D), vs = [V.ref a] ∧ (SqL K H a xs ∨ SqT K H a xs) ∧ Same S H ∧ RepL K mg S xs ds ∧ SrtOk ds ∧
  ∀ (p : Addr) (ys : List V), RepL K mg S ys (ds.mergeSort leD) → H p = none → Q (.ref p) (upd H p (.lst ys))
theorem each_zip {K : PySem.W.Frag} {mg : Str → Option Value} {S : Hp} : ∀ {xs : List V} {ds : List D} {us : List Value}, RepL K mg S xs ds → Vals xs us → PySem.W.EachIs (fun v (b : V × D) => RelV b.1 v) us (xs.zip ds)
  | [], _, _, _, .nil => .nil
  | x :: xs, [], _, h, _ => by have := h.len; simp at this
  | x :: xs, d :: ds, _, h, .cons r t => .cons r (each_zip h.tail t)
theorem each_out : ∀ {us : List Value} {zs : List (V × D)}, PySem.W.EachIs (fun v (b : V × D) => RelV b.1 v) us zs → Vals (zs.map (·.1)) us
  | _, _, .nil => .nil
  | _, _, .cons h t => .cons h (each_out t)
theorem zip_snd {α β : Type} : ∀ {xs : List α} {ds : List β}, xs.length = ds.length → (xs.zip ds).map (·.2) = ds
  | [], [], _ => rfl
  | [], _ :: _, h => by simp at h
  | _ :: _, [], h => by simp at h
  | x :: xs, d :: ds, h => by rw [List.zip_cons_cons, List.map_cons, zip_snd (by simpa using h)]
section
variable {X : Cx} {E : WX} {m : Mds} {e : Expr} {fs : Env → Res (List D)} {p pos : Pos}
theorem cr_sortD (hu : X.A.units + 40 < cLine) : CallR X (.builtin "sorted") (rSortD X.K X.mg) := by
  intro pins s σ H vs us Q I r h
  obtain ⟨S, a, xs, ds, rfl, hq, hS, rv, ⟨⟨bs, eb⟩, hal, hso, hdp⟩, q⟩ := h
  obtain ⟨u, rfl, ru⟩ := Vals.one r
  cases ru
  have main : ∀ (T : String) (o : Obj) (its : List Value) (n : Nat), (T = "list" ∨ T = "tuple") → s.heap.get? a = some o → o.cls = .type T → o.data = .seq its.toArray n → xs.length ≤ sizeLine → Vals xs its → wpAny (model X.prog X.w) X.A (call (.builtin "sorted") [.ref a]) (EP X pins σ Q) X.xe s := by
    intro T o its n hT ho hc hd hz vv
    obtain ⟨eqb, hpy⟩ := pys_some eb
    have zs := zip_snd rv.len
    have e1 := each_zip rv vv
    have e2 : PySem.W.EachIs (fun v (b : V × D) => ∃ as, Reads s.heap v b.2.en as) its (xs.zip ds) := (PySem.W.each_mem e1).mono fun v b ⟨hr, hb⟩ => by
      obtain ⟨i, hi⟩ := List.mem_iff_getElem?.mp hb
      rw [List.getElem?_zip_eq_some] at hi
      exact Dp.reads I b.2.en b.1 v (dp_mono hS (dp_of b.2 b.1 _ (rv.at_ i b.1 b.2 hi.1 hi.2) (hpy _ (List.mem_of_getElem? hi.2)))) hr
    have em : (xs.zip ds).map (fun b => b.2.en) = ds.map D.en := by
      rw [show (fun b : V × D => b.2.en) = D.en ∘ (·.2) from rfl, ← List.map_map, zs]
    refine sorted_seq (enc := fun b : V × D => b.2.en) hT ho hc hd (by rw [← vv.length]; exact hz) e1 e2 (by rw [em]; exact hal) (by rw [em]; exact hso) (fun b hb => ?_) fun h1 h2 out ep k1 k2 hp ho2 => ?_
    · have := hdp b.2 (by rw [← zs]; exact List.mem_map.mpr ⟨b, hb, rfl⟩)
      omega
    · have I1 : Inv X pins σ H { s with heap := h1 } := I.kept (t' := s.toks) k1
      generalize hzs : (xs.zip ds).mergeSort (PySem.W.dataLe false fun b => b.2.en) = zs2 at ho2
      have pm : zs2.Perm (xs.zip ds) := by rw [← hzs]; exact List.mergeSort_perm _ _
      have es : zs2.map (·.2) = ds.mergeSort leD := by
        have q1 := List.map_mergeSort (r := PySem.W.dataLe false fun b : V × D => b.2.en) (s := leD) (f := fun b : V × D => b.2) (l := xs.zip ds) (fun a _ b _ => rfl)
        rw [← hzs, q1, zs]
      have rz : RepL X.K X.mg S (zs2.map (·.1)) (ds.mergeSort leD) := by
        rw [← es]
        refine ⟨by rw [List.length_map, List.length_map], fun i v d a b => ?_⟩
        rw [List.getElem?_map] at a b
        cases ez : zs2[i]? with
        | none => rw [ez] at a; cases a
        | some c =>
          rw [ez] at a b
          cases a; cases b
          obtain ⟨j, hj⟩ := List.mem_iff_getElem?.mp (pm.mem_iff.mp (List.mem_of_getElem? ez))
          rw [List.getElem?_zip_eq_some] at hj
          exact rv.at_ j _ _ hj.1 hj.2
      have hl : (zs2.map (·.1)).length ≤ sizeLine := by
        rw [rz.len, List.length_mergeSort, ← rv.len]
        exact hz
      exact ⟨.ref _, upd H h1.objs.size (.lst (zs2.map (·.1))), I1.laid (t' := s.toks) k2 (Nat.le_refl _) ⟨hl, out, ep, each_out ho2, hp⟩, rfl, q _ _ rz (I1.hok.fresh (Nat.le_refl _))⟩
  rcases hq with hq | hq
  · obtain ⟨its, vv, ⟨o, n, ho, hc, _, hd⟩, hz⟩ := I.list hq
    exact main "list" o its n (.inl rfl) ho hc hd hz vv
  · obtain ⟨its, vv, ⟨o, ho, hc, n, hd⟩, hz⟩ := I.tuple hq
    exact main "tuple" o its n (.inr rfl) ho hc hd hz vv
theorem je_sorted (hr : RmU X.A) (hm : X.mg "sorted" = none) (ha : JA X E m [e] fs) (hg : Gl X "sorted" := by rfl) (he : starEach [e] X.env = (false, eval e X.env) :: starEach [] X.env := by rfl) : JE X E m .ow (.Call (.Name "sorted" p) [e] [] pos) (fOn (on1 dSorted) fs) :=
  je_callB (cr_sortD (by unfold RmU at hr; omega)) (calld1 fun E S H x d Q hs rx hp => by
    cases d with
    | lst xs =>
      obtain ⟨hz, hp⟩ := Post.of_if hp
      obtain ⟨a, vs, rfl, ha, rv⟩ := rx.of_lst
      exact ⟨S, a, vs, xs, rfl, .inl (.inl (.inl (hs _ _ ha))), hs, rv, stuck_iff.mp hz, fun p ys ry hl => Post.list (.inr rfl) hp hs ry hl⟩
    | frl xs =>
      obtain ⟨hz, hp⟩ := Post.of_if hp
      obtain ⟨a, vs, rfl, ha, rv⟩ := rx.of_frl
      exact ⟨S, a, vs, xs, rfl, .inl (same_l hs ha), hs, rv, stuck_iff.mp hz, fun p ys ry hl => Post.list (.inr rfl) hp hs ry hl⟩
    | tup xs =>
      obtain ⟨hz, hp⟩ := Post.of_if hp
      obtain ⟨a, vs, rfl, ha, rv⟩ := rx.of_tup
      exact ⟨S, a, vs, xs, rfl, .inr (same_t hs ha), hs, rv, stuck_iff.mp hz, fun p ys ry hl => Post.list (.inr rfl) hp hs ry hl⟩
    | _ => exact hp.elim) hm ha hg (by decide +kernel) (by decide) (by decide) he (by rfl)
end
end Da
/-! ### enumerate of a tuple -/
namespace Da
open PySem PySem.Spec L2
theorem enum_new {v : Value} {o : Obj} {G : Heap → Prop} (B : Begins v o G) :
    Meets (Builtin.«enumerate.__new__» ⟨[.type "enumerate", v], []⟩) (fun _ R s => G s.heap ∧
      R (.ok (.ret (.ref (s.heap.push o).objs.size))) { s with heap := (s.heap.push o).push { cls := .type "enumerate", data := .fields #[.none, .bool false, .ref s.heap.objs.size, rawInt 0, .none, .none] } }) :=
  .of_wp fun prog w A R s hh => by
    obtain ⟨hp, g, d, tk, os⟩ := s
    obtain ⟨hg, hh⟩ := hh
    have hsb := sub_enumerate
    have walk : ∀ {A' : Around} {Er : Value → Shared → Prop} {Qv : Value → Shared → Prop}, Qv (.ref hp.objs.size) ⟨hp.push o, g, d, tk, os⟩ → wpAny (model prog w) A' (pyIter v) Qv Er ⟨hp, g, d, tk, os⟩ := fun q => B.iter prog w _ _ ⟨hp, g, d, tk, os⟩ _ hg q
    wp_walk using walk
    refine wpAny_stack_any fun stk => wpAny_pure ?_
    split
    · rename_i c _ _ _ _ _
      cases (c == Value.type "enumerate") <;> (wp_walk using walk; exact ⟨_, rfl, hh⟩)
    · wp_walk using walk; exact ⟨_, rfl, hh⟩
theorem call_enumT {prog : Program} {w : World} {A : Around} {Er : Value → Shared → Prop} {s : Shared} {t : Addr} {items : Array Value} {Q : Value → Shared → Prop} (ht : s.heap.IsTuple t items)
    (h : ∀ h', IsEnum h' (s.heap.objs.size + 1) s.heap.objs.size 0 .none → h'.IsTupleIter s.heap.objs.size t 0 → (∀ b o, s.heap.get? b = some o → h'.get? b = some o) → Q (.ref (s.heap.objs.size + 1)) { s with heap := h' }) :
    wpAny (model prog w) A (call (.type "enumerate") [.ref t]) Q Er s := by
  refine callType_new F.called_enumerate (by decide) (F.typeCall_enumerate_1 _) (F.newCall_enumerate_1 _) (fun obj => F.args_object_init_2 obj _) F.entry_enumerate_new (enum_new (begins_tuple t items)) ⟨ht, ?_⟩
  have hz : (s.heap.push { cls := .type "tuple_iterator", data := .fields #[.ref t, .int 0 0] }).objs.size = s.heap.objs.size + 1 := Heap.size_push ..
  show _ ∧ _
  rw [hz]
  have he : IsEnum ((s.heap.push { cls := .type "tuple_iterator", data := .fields #[.ref t, .int 0 0] }).push { cls := .type "enumerate", data := .fields #[.none, .bool false, .ref s.heap.objs.size, rawInt 0, .none, .none] }) (s.heap.objs.size + 1) s.heap.objs.size 0 .none := by
    have q := Heap.get?_push_size (s.heap.push { cls := .type "tuple_iterator", data := .fields #[.ref t, .int 0 0] }) (o := { cls := .type "enumerate", data := .fields #[.none, .bool false, .ref s.heap.objs.size, rawInt 0, .none, .none] }) rfl
    rw [hz] at q
    exact q
  exact ⟨⟨_, he, rfl⟩, h _ he ⟨_, Heap.get?_push_of_some _ (Heap.get?_push_size _ rfl), rfl, rfl⟩ fun b o x => Heap.get?_push_of_some _ (Heap.get?_push_of_some _ x)⟩
/-- the tuple at a, each item in a new pair -/
def IteT (K : PySem.W.Frag) (a : Addr) : It :=
  ⟨fun i H => ∃ (xs : List V) (x : V), SqT K H a xs ∧ xs[i]? = some x, fun i H v H' => ∃ T x, v = .ref T ∧ H T = none ∧ H' = upd H T (.tup [.int (i : Nat), x]) ∧ ∀ xs, SqT K H a xs → xs[i]? = some x, fun i H => ∃ xs : List V, SqT K H a xs ∧ xs.length ≤ i⟩
theorem turn_enumT {P : Program} {w : World} {K : PySem.W.Frag} {elts : List Expr} {kk : Nat} {tpos : Pos} (a e it : Addr) :
    L2.Turn P w K (.Tuple elts kk tpos) (IteT K a) [e, it] e (fun i h => (∃ old, IsEnum h e it ((i : Nat) : Int) old) ∧ h.IsTupleIter it a i ∧ e ≠ it) where
  mem := by simp
  obj := fun i h st b hb => by
    obtain ⟨⟨old, he⟩, ⟨o, ho, hc, hd⟩, _⟩ := st
    rcases (show b = e ∨ b = it by simpa using hb) with z | z
    · rw [z]; exact ⟨_, he, fun v q => nomatch q⟩
    · rw [z]; exact ⟨o, ho, fun v q => by rw [hd] at q; cases q⟩
  keep := fun i h h' st k => let ⟨⟨old, he⟩, hi, hne⟩ := st; ⟨⟨old, k e (by simp) _ he⟩, hi.at fun o q => k it (by simp) o q, hne⟩
  item := by
    intro X hP hw hK hc i pins s σ H Er I hf st hg
    subst hP hw hK
    obtain ⟨⟨old, he⟩, hit, hne⟩ := st
    obtain ⟨xs, x, hq, hx⟩ := hg
    obtain ⟨its, rv, p, hz⟩ := I.tuple hq
    obtain ⟨u, hu, ru⟩ := rv.get hx
    have hel : e < s.heap.objs.size := Heap.lt_size he
    have hil : it < s.heap.objs.size := by obtain ⟨_, q, _⟩ := hit; exact Heap.lt_size q
    have ht : s.heap.IsTuple a its.toArray := p
    have hea : e ≠ a := fun z => by
      obtain ⟨o, ho, hco, _⟩ := ht
      rw [← z, he] at ho
      cases ho
      exact absurd (show Value.type "enumerate" = Value.type "tuple" from hco) (by decide)
    have hia : a ≠ it := fun z => by
      obtain ⟨o, ho, hco, _⟩ := ht
      obtain ⟨o2, ho2, hc2, _⟩ := hit
      rw [z, ho2] at ho
      cases ho
      rw [hc2] at hco
      exact absurd hco (by decide)
    have hlt : i < its.toArray.size := by
      rw [List.size_toArray]
      exact (List.getElem?_eq_some_iff.mp hu).1
    refine wpAny_pyNext_enum_itemD (Draws.tuple (A := X.A.in1) (I.ok.hd hc) it a hia its.toArray) he ⟨hit, ht⟩ hlt hne (by simp [hne, hea]) fun y h' tk hy ho hst hT hsz hk => ?_
    have hyu : y = u := by
      have q : its[i]? = some y := by simpa using hy
      rw [hu] at q
      injection q with q
      exact q.symm
    subst hyu
    refine ⟨_, rfl, wpAny_letOwnedTupleGo_enum (s := { s with heap := h', toks := tk + 1 }) ho fun h'' he' sb => ?_⟩
    have hT2 : h''.get? s.heap.objs.size = some { cls := .type "tuple", data := .seq #[.int i tk, y] } := (sb.2 _ (Nat.ne_of_gt hel)).trans hT
    have new : ObjOk X.prog X.w (upd H s.heap.objs.size (.tup [.int (i : Nat), x])) h'' s.heap.objs.size (.tup [.int (i : Nat), x]) :=
      ⟨by show 2 ≤ sizeLine; decide, [.int i tk, y], .cons ⟨_, rfl⟩ (.cons ru .nil), ⟨_, hT2, rfl, _, rfl⟩⟩
    have I1 : Inv X pins σ (upd H s.heap.objs.size (.tup [.int (i : Nat), x])) { s with heap := h'', toks := tk + 1 } :=
      I.turnedNew (ch := [e, it]) (fun b ob hb q => (sb.2 b (fun z => hb (by simp [z]))).trans (hk b ob (fun z => hb (by simp [z])) (fun z => hb (by simp [z])) q)) hf (Nat.le_refl _) new
    refine ⟨.ref s.heap.objs.size, _, I1, rfl, ⟨_, x, rfl, I.hok.fresh (Nat.le_refl _), rfl, fun ys hy => by rw [I.tuple_inj hy hq]; exact hx⟩, ⟨⟨y, ?_⟩, hst.1.at fun o q => (sb.2 it (Ne.symm hne)).trans q, hne⟩, fun b hb => ?_⟩
    · rw [show ((i + 1 : Nat) : Int) = (i : Int) + 1 by omega]
      exact he'
    · have hlt2 : b < s.heap.objs.size := by
        rcases (show b = e ∨ b = it by simpa using hb) with z | z
        · rw [z]; exact hel
        · rw [z]; exact hil
      rw [upd_ne (Nat.ne_of_lt hlt2)]
      exact (hf b hb).1
  done := by
    intro X hP hw hK hc i pins s σ H Er I hf st hg
    subst hP hw hK
    obtain ⟨⟨old, he⟩, hit, hne⟩ := st
    obtain ⟨xs, hq, hx⟩ := hg
    obtain ⟨its, rv, p, hz⟩ := I.tuple hq
    have hl := rv.length
    have ht : s.heap.IsTuple a its.toArray := p
    obtain ⟨f0, f1, f2, f3, f4, f5⟩ := hf it (by simp)
    have hT : s.TypeIs (.ref e) "enumerate" := ⟨_, he, rfl⟩
    unfold pyNext
    refine wpAny_bind (wpAny_attempt (wpAny_callSpecial?_slot (name := Str.ofString "__next__") hT F.slot_enumerate_next (wpAny_call_entry F.slot_enumerate_next hT F.entry_enumerate_next ?_ (F.args_enumerate_next_1 _))))
    show wpAny _ _ (field (.ref e) 2 >>= _) _ _ _
    refine wpAny_bind (wpAny_field he rfl (x := .ref it) rfl (wpAny_bind (wpAny_nextOf_tuple_end (I.ok.hd hc) hit ht (by simp; omega) fun h' x hx1 hx2 => ?_)))
    obtain ⟨o, ho, hco⟩ := hx2
    exact wpAny_bind (wpAny_isInstance (T := "StopIteration") (b := true) ⟨o, ho, hco⟩ isSubtype_stop (wpAny_pure ⟨rfl, I.turned (t' := s.toks) (fun b o hb q => hx1 b o hb q) f0 f1 f3 f4 f5⟩))
  self := fun A i s Q Er st h => let ⟨⟨_, he⟩, _⟩ := st; wpAny_pyIter_enum he h
def iEnumA (K : PySem.W.Frag) (ta : TA) : TI := fun σ H R => ta σ H fun vs H1 => ∃ a xs, vs = [.ref a] ∧ (SqL K H1 a xs ∧ R (Ite K a) H1 ∨ SqT K H1 a xs ∧ R (IteT K a) H1)
theorem pi_enumA {X : Cx} {e : Expr} {ta : TA} {p pos tpos : Pos} {elts : List Expr} {kk : Nat} (hg : Gl X "enumerate") (hm : X.mg "enumerate" = none) (ha : PA X [e] ta) (hs : starEach [e] X.env = [(false, eval e X.env)] := by rfl) :
    PI X (.Tuple elts kk tpos) (.Call (.Name "enumerate" p) [e] [] pos) (iEnumA X.K ta) := by
  refine ⟨fun pins s σ H R I h => PyProof.Rows.Call_ (ld_blt I hg hm PyProof.Rows.boot_enumerate (PyProof.Rows.callWith_type1 (thn (ha.run pos pins s σ H _ I h) fun us s1 ⟨vs, H1, I1, r1, q1⟩ => ?_) hs rfl))⟩
  obtain ⟨a, xs, rfl, q1⟩ := q1
  obtain ⟨u, rfl, ru⟩ := Vals.one r1
  cases ru
  have fresh : ∀ b, b ∈ [s1.heap.objs.size + 1, s1.heap.objs.size] → FpOk X pins H1 b := fun b hb => by
    have hle : s1.heap.objs.size ≤ b := by
      rcases (show b = s1.heap.objs.size + 1 ∨ b = s1.heap.objs.size by simpa using hb) with z | z
      · rw [z]; exact Nat.le_add_right _ _
      · rw [z]; exact Nat.le_refl _
    exact I1.fpOk hle (I1.hok.fresh hle)
  rcases q1 with ⟨hq, q⟩ | ⟨hq, q⟩
  · obtain ⟨its, rv, pl, _⟩ := I1.list hq
    refine call_enumerate_list pl.isList fun h' he hit _ hk => wpAny_pyIter_enum he ?_
    exact ⟨_, _, _, _, H1, rfl, I1.kept (t' := s1.toks) hk, turn_enum a (s1.heap.objs.size + 1) s1.heap.objs.size, ⟨⟨.none, he⟩, hit, Nat.succ_ne_self _⟩, fresh, q⟩
  · obtain ⟨its, rv, pl, _⟩ := I1.tuple hq
    refine call_enumT (show s1.heap.IsTuple a its.toArray from pl) fun h' he hit hk => wpAny_pyIter_enum he ?_
    exact ⟨_, _, _, _, H1, rfl, I1.kept (t' := s1.toks) hk, turn_enumT a (s1.heap.objs.size + 1) s1.heap.objs.size, ⟨⟨.none, he⟩, hit, Nat.succ_ne_self _⟩, fresh, q⟩
/-! several targets -/
def tGsD (K : PySem.W.Frag) (mg : Str → Option Value) (m : Mds) (ts : List Nat) (g : List D → Env → Res Env) : TGs := fun vs σ H Q => ∃ S0 H0 S F ρ ds, StF K mg m S0 H0 S F σ ρ H ∧ RepL K mg S vs ds ∧ (match g ds ρ with
  | .ok ρ1 => ∀ σ1 S1 F1 H1, StF K mg m S0 H0 S1 F1 σ1 ρ1 H1 → Step S H S1 H1 → (σ1.length = σ.length ∧ ∀ j, j ∉ ts → σ1[j]? = σ[j]?) → Q σ1 H1
  | _ => False)
structure JGs (X : Cx) (m : Mds) (ts : List Nat) (es : List Expr) (g : List D → Env → Res Env) : Prop where
  pgs : PGs X es (tGsD X.K X.mg m ts g)
def gs0 : List D → Env → Res Env := fun ds ρ => match ds with
  | [] => .ok ρ
  | _ => .er
def gsC (g : D → Env → Res Env) (r : List D → Env → Res Env) : List D → Env → Res Env := fun ds ρ => match ds with
  | d :: ds => (match g d ρ with
    | .ok ρ1 => r ds ρ1
    | _ => .er)
  | [] => .er
def gT (r : List D → Env → Res Env) : D → Env → Res Env := fun d ρ => match d with
  | .tup ds => r ds ρ
  | _ => .er
section
variable {X : Cx} {E : WX} {m : Mds} {ts us : List Nat} {tg e : Expr} {es elts : List Expr} {g : D → Env → Res Env} {r : List D → Env → Res Env} {fs : Env → Res (List D)} {p pos tpos : Pos} {kk : Nat}
theorem jgs_nil : JGs X m [] [] gs0 := by
  refine ⟨⟨fun pins s σ H vs uv Q I rv h => pgs_nil.run pins s σ H vs uv Q I rv ?_⟩⟩
  obtain ⟨S0, H0, S, F, ρ, ds, st, rd, q⟩ := h
  match ds, rd, q with
  | [], rd, q => exact ⟨rd.nil_iff.mpr rfl, q σ S F H st (Step.refl st.1.sub) ⟨rfl, fun _ _ => rfl⟩⟩
  | _ :: _, _, q => exact q.elim
theorem jgs_cons (h1 : JG X m ts e g) (h2 : JGs X m us es r) (hs : (assignEach (e :: es) X.env).map (·.2) = assign e X.env :: (assignEach es X.env).map (·.2) := by rfl) : JGs X m (ts ++ us) (e :: es) (gsC g r) := by
  refine ⟨⟨fun pins s σ H vs uv Q I rv h => (pgs_cons h1.pg h2.pgs hs).run pins s σ H vs uv Q I rv ?_⟩⟩
  obtain ⟨S0, H0, S, F, ρ, ds, st, rd, q⟩ := h
  match ds, rd, q with
  | [], _, q => exact q.elim
  | d :: ds, rd, q =>
    match vs, rd with
    | [], rd => have := rd.len; simp at this
    | v :: vs, rd =>
      refine ⟨v, vs, rfl, S0, H0, S, F, ρ, d, st, rd.head, ?_⟩
      unfold gsC at q
      simp only at q
      cases eg : g d ρ with
      | ok ρ1 =>
        rw [eg] at q
        simp only at q
        refine fun σ1 S1 F1 H1 st1 s1 fr1 => ⟨S0, H0, S1, F1, ρ1, ds, st1, rd.tail.mono s1.ss, ?_⟩
        cases er : r ds ρ1 with
        | ok ρ2 =>
          rw [er] at q
          refine fun σ2 S2 F2 H2 st2 s2 fr2 => q σ2 S2 F2 H2 st2 (s1.trans s2) ⟨fr2.1.trans fr1.1, fun j hj => ?_⟩
          rw [List.mem_append, not_or] at hj
          exact (fr2.2 j hj.2).trans (fr1.2 j hj.1)
        | ex c fs => rw [er] at q; exact q.elim
        | er => rw [er] at q; exact q.elim
      | ex c fs => rw [eg] at q; exact q.elim
      | er => rw [eg] at q; exact q.elim
/-- (a, b, ..) takes a tuple of that length -/
theorem jg_tup (h : JGs X m ts es r) (hr : ∀ ds ρ ρ1, r ds ρ = .ok ρ1 → ds.length = es.length) (hc : X.calm = true := by rfl) (hn : (assignEach es X.env).length = es.length := by rfl) (hst : (assignEach es X.env).findIdx? (·.1) = none := by rfl) : JG X m ts (.Tuple es kk tpos) (gT r) := by
  refine ⟨⟨fun pins s σ H v u Q I rv hq => (pg_tup hc h.pgs hn hst).run pins s σ H v u Q I rv ?_⟩⟩
  obtain ⟨S0, H0, S, F, ρ, d, st, rd, q⟩ := hq
  cases d with
  | tup ds =>
    obtain ⟨a, vs, rfl, ha, rs⟩ := rd.of_tup
    have q : (match r ds ρ with
      | .ok ρ1 => ∀ σ1 S1 F1 H1, StF X.K X.mg m S0 H0 S1 F1 σ1 ρ1 H1 → Step S H S1 H1 → (σ1.length = σ.length ∧ ∀ j, j ∉ ts → σ1[j]? = σ[j]?) → Q σ1 H1
      | _ => False) := q
    cases er : r ds ρ with
    | ok ρ1 => exact ⟨a, vs, rfl, same_t st.1.sub ha, by rw [rs.len]; exact hr ds ρ ρ1 er, S0, H0, S, F, ρ, ds, st, rs, q⟩
    | ex c fs => rw [er] at q; exact q.elim
    | er => rw [er] at q; exact q.elim
  | _ => exact q.elim
theorem gs0_len (ds : List D) (ρ ρ1 : Env) (h : gs0 ds ρ = .ok ρ1) : ds.length = 0 := by
  cases ds with
  | nil => rfl
  | cons d ds => cases h
theorem gsC_len {n : Nat} {g : D → Env → Res Env} {r : List D → Env → Res Env} (hr : ∀ ds ρ ρ1, r ds ρ = .ok ρ1 → ds.length = n) (ds : List D) (ρ ρ1 : Env) (h : gsC g r ds ρ = .ok ρ1) : ds.length = n + 1 := by
  cases ds with
  | nil => cases h
  | cons d ds =>
    unfold gsC at h
    simp only at h
    split at h
    · rw [List.length_cons, hr ds _ _ h]
    · cases h
theorem jg_tup2 {a b : Expr} {ga gb : D → Env → Res Env} (h1 : JG X m ts a ga) (h2 : JG X m us b gb) (hc : X.calm = true := by rfl) (ha : (assignEach [a, b] X.env).map (·.2) = assign a X.env :: (assignEach [b] X.env).map (·.2) := by rfl) (hb : (assignEach [b] X.env).map (·.2) = assign b X.env :: (assignEach [] X.env).map (·.2) := by rfl)
    (hn : (assignEach [a, b] X.env).length = 2 := by rfl) (hst : (assignEach [a, b] X.env).findIdx? (·.1) = none := by rfl) : JG X m (ts ++ (us ++ [])) (.Tuple [a, b] kk tpos) (gT (gsC ga (gsC gb gs0))) :=
  jg_tup (jgs_cons h1 (jgs_cons h2 jgs_nil hb) ha) (gsC_len (gsC_len gs0_len)) hc hn hst
/-! enumerate, zip -/
def enumD (i : Nat) : List D → List D
  | [] => []
  | x :: xs => .tup [.int (i : Nat), x] :: enumD (i + 1) xs
theorem enumD_length : ∀ {xs : List D} {i : Nat}, (enumD i xs).length = xs.length
  | [], _ => rfl
  | x :: xs, i => by unfold enumD; rw [List.length_cons, List.length_cons, enumD_length]
theorem enumD_at : ∀ {xs : List D} {i j : Nat}, (enumD i xs)[j]? = (xs[j]?).map fun x => .tup [.int ((i + j : Nat) : Int), x]
  | [], _, _ => by simp [enumD]
  | x :: xs, i, 0 => by simp [enumD]
  | x :: xs, i, j + 1 => by
    unfold enumD
    rw [List.getElem?_cons_succ, List.getElem?_cons_succ, enumD_at, show i + 1 + j = i + (j + 1) by omega]
def dEnum : List D → Res (List D)
  | [d] => (asL d).bind fun xs => .ok (enumD 0 xs)
  | _ => .er
def fEnum (fs : Env → Res (List D)) : Env → Res (List D) := fun ρ => (fs ρ).bind dEnum
theorem walk_e {K : PySem.W.Frag} {mg : Str → Option Value} {S : Hp} {a : Addr} {vs : List V} {ds : List D} (r : RepL K mg S vs ds) (h : SqL K S a vs) : WalkD K mg (Ite K a) S (enumD 0 ds) where
  go := fun i d S1 H1 e s1 s2 => by
    rw [enumD_at, Nat.zero_add] at e
    cases ed : ds[i]? with
    | none => rw [ed] at e; cases e
    | some d0 =>
      rw [ed] at e
      cases e
      obtain ⟨v, ev, rv⟩ := r.get ed
      refine ⟨⟨vs, v, same_l s2 (same_l s1 h), ev⟩, fun x H2 ⟨T, y, e1, hT, e2, hy⟩ => ?_⟩
      subst e1 e2
      have := hy vs (same_l s2 (same_l s1 h))
      rw [ev] at this
      cases this
      have st := Step.laid (o := HO.tup [.int (i : Nat), v]) s2 hT
      exact ⟨_, st, Rep.tupL (.inl (.inl upd_same)) (.cons (.int _) (.cons ((rv.mono s1).mono st.ss) .nil))⟩
  stop := fun S1 H1 s1 s2 => ⟨vs, same_l s2 (same_l s1 h), by rw [enumD_length]; exact Nat.le_of_eq r.len⟩
theorem walk_eT {K : PySem.W.Frag} {mg : Str → Option Value} {S : Hp} {a : Addr} {vs : List V} {ds : List D} (r : RepL K mg S vs ds) (h : SqT K S a vs) : WalkD K mg (IteT K a) S (enumD 0 ds) where
  go := fun i d S1 H1 e s1 s2 => by
    rw [enumD_at, Nat.zero_add] at e
    cases ed : ds[i]? with
    | none => rw [ed] at e; cases e
    | some d0 =>
      rw [ed] at e
      cases e
      obtain ⟨v, ev, rv⟩ := r.get ed
      refine ⟨⟨vs, v, same_t s2 (same_t s1 h), ev⟩, fun x H2 ⟨T, y, e1, hT, e2, hy⟩ => ?_⟩
      subst e1 e2
      have := hy vs (same_t s2 (same_t s1 h))
      rw [ev] at this
      cases this
      have st := Step.laid (o := HO.tup [.int (i : Nat), v]) s2 hT
      exact ⟨_, st, Rep.tupL (.inl (.inl upd_same)) (.cons (.int _) (.cons ((rv.mono s1).mono st.ss) .nil))⟩
  stop := fun S1 H1 s1 s2 => ⟨vs, same_t s2 (same_t s1 h), by rw [enumD_length]; exact Nat.le_of_eq r.len⟩
theorem dEnum_ok {ds xs : List D} (h : dEnum ds = .ok xs) : ∃ d ys, ds = [d] ∧ asL d = .ok ys ∧ xs = enumD 0 ys := by
  unfold dEnum at h
  split at h
  · rename_i d
    cases e : asL d with
    | ok ys => rw [e] at h; cases h; exact ⟨d, ys, rfl, e, rfl⟩
    | ex c fs => rw [e] at h; cases h
    | er => rw [e] at h; cases h
  · cases h
theorem asL_ex {d : D} {c : Str} {fs : List (Str × D)} : asL d ≠ .ex c fs := by
  cases d <;> exact fun z => nomatch z
theorem dEnum_ex {ds : List D} {c : Str} {fs : List (Str × D)} : dEnum ds ≠ .ex c fs := by
  unfold dEnum
  split
  · rename_i d
    cases e : asL d with
    | ok ys => exact fun z => nomatch z
    | ex c fs => exact absurd e asL_ex
    | er => exact fun z => nomatch z
  · exact fun z => nomatch z
theorem ji_enum (ha : JA X E m [e] fs) (hm : X.mg "enumerate" = none) (hg : Gl X "enumerate" := by rfl) (hs : starEach [e] X.env = [(false, eval e X.env)] := by rfl) : JI X E m (.Tuple elts kk tpos) (.Call (.Name "enumerate" p) [e] [] pos) (fEnum fs) := by
  refine ⟨⟨fun pins s σ H R I h => (pi_enumA hg hm ha.pa hs).run pins s σ H R I ?_⟩⟩
  obtain ⟨S, ρ, hm, hp⟩ := h
  refine ⟨S, ρ, hm, (PostW.bind hp).imp fun ds S1 H1 s1 k vs rv => ?_⟩
  obtain ⟨xs, e, k⟩ := PostW.okOf k fun _ _ => dEnum_ex
  obtain ⟨d, ys, rfl, ey, rfl⟩ := dEnum_ok e
  obtain ⟨v, rfl, rd⟩ := repl1 rv
  cases d with
  | lst xs =>
    cases ey
    obtain ⟨a, vs, rfl, ha, rv⟩ := rd.of_lst
    exact ⟨a, vs, rfl, .inl ⟨.inl (.inl (s1.sub _ _ ha)), k S1 H1 (Step.refl s1.sub) _ (walk_e rv (.inl (.inl ha)))⟩⟩
  | frl xs =>
    cases ey
    obtain ⟨a, vs, rfl, ha, rv⟩ := rd.of_frl
    exact ⟨a, vs, rfl, .inl ⟨same_l s1.sub ha, k S1 H1 (Step.refl s1.sub) _ (walk_e rv ha)⟩⟩
  | tup xs =>
    cases ey
    obtain ⟨a, vs, rfl, ha, rv⟩ := rd.of_tup
    exact ⟨a, vs, rfl, .inr ⟨same_t s1.sub ha, k S1 H1 (Step.refl s1.sub) _ (walk_eT rv ha)⟩⟩
  | _ => cases ey
end
end Da
namespace Da
open PySem PySem.Spec L2
/-! ### expressions that change an own list: xs.pop(i) -/
def tX (K : PySem.W.Frag) (mg : Str → Option Value) (m : Mds) (f : Env → Res (D × Env)) : TE := fun σ H Q => ∃ S0 H0 S F ρ, StF K mg m S0 H0 S F σ ρ H ∧ (match f ρ with
  | .ok (d, ρ1) => ∀ v S1 F1 H1, StF K mg m S0 H0 S1 F1 σ ρ1 H1 → Rep K mg S1 v d → Q v H1
  | _ => False)
structure JX (X : Cx) (m : Mds) (e : Expr) (f : Env → Res (D × Env)) : Prop where
  pe : PE X e (tX X.K X.mg m f)
def fPop (i : Nat) (f : Env → Res D) : Env → Res (D × Env) := fun ρ => match ρ[i]? with
  | some (some (.lst xs)) => (match f ρ with
    | .ok (.int z) => (match ixN xs.length z with
      | some k => (match xs[k]? with
        | some y => if szOk xs.length = true then .ok (y, ρ.set i (some (.lst (xs.eraseIdx k)))) else .er
        | none => .er)
      | none => .er)
    | _ => .er)
  | _ => .er
def fPop0 (i : Nat) : Env → Res (D × Env) := fun ρ => match ρ[i]? with
  | some (some (.lst xs)) => (match xs[xs.length - 1]? with
    | some y => .ok (y, ρ.set i (some (.lst xs.dropLast)))
    | none => .er)
  | _ => .er
def fSetX (i : Nat) (f : Env → Res (D × Env)) : FS := fun ρ => match f ρ with
  | .ok (d, ρ1) => .ok (.nx (ρ1.set i (some d)))
  | _ => .er
def fDropX (f : Env → Res (D × Env)) : FS := fun ρ => match f ρ with
  | .ok (_, ρ1) => .ok (.nx ρ1)
  | _ => .er
def fAppX (i : Nat) (f : Env → Res (D × Env)) : FS := fun ρ => match ρ[i]? with
  | some (some (.lst _)) => (match f ρ with
    | .ok (d, ρ1) => (match ρ1[i]? with
      | some (some (.lst xs)) => if szOk (xs.length + 1) = true then .ok (.nx (ρ1.set i (some (.lst (xs ++ [d]))))) else .er
      | _ => .er)
    | _ => .er)
  | _ => .er
theorem Same.ref_eq {a b : Addr} {σ : L2.St} {i : Nat} (h : σ[i]? = some (some (V.ref a))) (k : σ[i]? = some (some (V.ref b))) : b = a := by
  rw [h] at k
  injection k with z; injection z with z; injection z with z
  exact z.symm
theorem ix_fits {n : Nat} {z : Int} {k : Nat} (h : ixN n z = some k) (hn : n ≤ sizeLine) : -(2 ^ 63) ≤ z ∧ z < 2 ^ 63 := by
  obtain ⟨_, _, h1, h2⟩ := ixN_seq h
  rw [sizeLine_eq] at hn
  omega
section
variable {X : Cx} {E : WX} {L : Lp} {m : Mds} {e : Expr} {f : Env → Res D} {fx : Env → Res (D × Env)} {x : Str} {pos p1 p2 p3 : Pos}
theorem jx_pop (i : Nat) (he : JE X EF m .sh e f) (hmd : mdAt m i = .ow := by rfl) (hl : i < m.length := by first | decide | simp) (hN : X.N[i]? = some x := by rfl) (hv : Vis X.env.scope x := by first | exact Or.inl rfl | exact Or.inr (Or.inl rfl) | exact Or.inr (Or.inr rfl))
    (hd : (x == ("__debug__" : Str)) = false := by decide) (hcd : (x == ("__classdict__" : Str)) = false := by decide)
    (hpe : ∀ {to te : TE}, PE X (.Name x p1) to → PE X e te → PE X (.Call (.Attribute (.Name x p1) "pop" p2) [e] [] p3) (tBM X.K "list" rPopAt to (tCons te tNil)) := by
      intro to te ho he
      exact pe_bm PySem.F.plainAttrs_list PySem.F.slot_list_pop PySem.F.type_list_pop mt_popAt ho (pa_cons he pa_nil)) :
    JX X m (.Call (.Attribute (.Name x p1) "pop" p2) [e] [] p3) (fPop i f) := by
  refine ⟨⟨fun pins s σ H Q I h => (hpe (pe_var hN hv hd hcd) he.pe).run pins s σ H Q I ?_⟩⟩
  obtain ⟨S0, H0, S, Fp, ρ, st, p⟩ := h
  unfold fPop at p
  split at p
  · rename_i d ρ1 er
    split at er
    · rename_i xs exs
      obtain ⟨pa, vs, ds, eds, e1, e2, e3, e4, e5⟩ := st.own hmd exs
      cases eds
      refine ⟨_, e2, .inl ⟨rfl, vs, .inl (.inl e4)⟩, S, ρ, st.envM, ?_⟩
      split at er
      · rename_i z ez
        rw [ez]
        intro v S1 H1 fp s1 o _ _
        cases o.1
        split at er
        · rename_i k ek
          split at er
          · rename_i y ey
            split at er
            rotate_left
            · cases er
            rename_i hz0
            cases er
            obtain ⟨qa, ws, ds1, eds, q1, q2, q3, q4, q5⟩ := (st.step s1).own hmd exs
            cases eds
            obtain rfl := Same.ref_eq e2 q2
            obtain ⟨w, ew, rw'⟩ := q5.get ey
            obtain ⟨b1, b2⟩ := ix_fits ek (szOk_ok hz0)
            exact ⟨_, ws, z, k, w, rfl, rfl, q4, b1, b2, by rw [q5.len]; exact (ixN_seq ek).1, ew, p w S1 Fp _ ((st.step s1).write hl hmd exs q1 q2 q3 q4 (q5.eraseIdx k)) rw'⟩
          · cases er
        · cases er
      · cases er
    · cases er
  · exact p.elim
theorem jx_pop0 (i : Nat) (hmd : mdAt m i = .ow := by rfl) (hl : i < m.length := by first | decide | simp) (hN : X.N[i]? = some x := by rfl) (hv : Vis X.env.scope x := by first | exact Or.inl rfl | exact Or.inr (Or.inl rfl) | exact Or.inr (Or.inr rfl))
    (hd : (x == ("__debug__" : Str)) = false := by decide) (hcd : (x == ("__classdict__" : Str)) = false := by decide)
    (hpe : ∀ {to : TE}, PE X (.Name x p1) to → PE X (.Call (.Attribute (.Name x p1) "pop" p2) [] [] p3) (tBM0 X.K "list" rPop to) := by
      intro to ho
      exact pe_bm0 PySem.F.plainAttrs_list PySem.F.slot_list_pop PySem.F.type_list_pop mt_pop ho) :
    JX X m (.Call (.Attribute (.Name x p1) "pop" p2) [] [] p3) (fPop0 i) := by
  refine ⟨⟨fun pins s σ H Q I h => (hpe (pe_var hN hv hd hcd)).run pins s σ H Q I ?_⟩⟩
  obtain ⟨S0, H0, S, Fp, ρ, st, p⟩ := h
  unfold fPop0 at p
  split at p
  · rename_i d ρ1 er
    split at er
    · rename_i xs exs
      obtain ⟨pa, vs, ds, eds, e1, e2, e3, e4, e5⟩ := st.own hmd exs
      cases eds
      split at er
      · rename_i y ey
        cases er
        obtain ⟨w, ew, rw'⟩ := e5.get ey
        rw [← e5.len] at ew
        exact ⟨_, e2, .inl ⟨rfl, vs, .inl (.inl e4)⟩, _, vs, w, rfl, rfl, e4, ew, p w S Fp _ (st.write hl hmd exs e1 e2 e3 e4 e5.dropLast) rw'⟩
      · cases er
    · cases er
  · exact p.elim
theorem js_setX (i : Nat) {pos' : Pos} (he : JX X m e fx) (hN : X.N.Nodup) (hl : i < m.length := by first | decide | simp) (hi : X.N[i]? = some x := by rfl) (hx : Loc X.env.scope x := by first | exact Or.inl rfl | exact Or.inr rfl)
    (hs : swapsWith e (some (.Name x pos')) pos.line X.env = pure false := by rfl) (hf : X.fn x = true ∨ X.env.scope.names.lookup x = some .local := by first | exact .inl rfl | exact .inr rfl) :
    JS X E L m (m.set i .sh) (.Assign [.Name x pos'] e pos) (fSetX i fx) := by
  refine ⟨PSimp (ps_set hN hi hx he.pe hs hf) fun D σ H h => ?_⟩
  obtain ⟨S0, H0, ρ, ⟨S, Fp, st⟩, p⟩ := h
  unfold fSetX at p
  split at p
  · rename_i d ρ1 er
    refine ⟨S0, H0, S, Fp, ρ, st, ?_⟩
    try rw [er]
    intro v S1 F1 H1 st1 rd
    exact p _ _ (StF.stM (st1.set hl ⟨rd, rfl⟩ List.nodup_nil (fun a z => nomatch z) fun j e' hj ej a ha z => nomatch z))
  · exact p.elim
theorem js_dropX (he : JX X m e fx) (hs : swapsWith e none pos.line X.env = pure false := by rfl) : JS X E L m m (.Expr e pos) (fDropX fx) := by
  refine ⟨PSimp (ps_expr he.pe hs) fun D σ H h => ?_⟩
  obtain ⟨S0, H0, ρ, ⟨S, Fp, st⟩, p⟩ := h
  unfold fDropX at p
  split at p
  · rename_i d ρ1 er
    refine ⟨S0, H0, S, Fp, ρ, st, ?_⟩
    try rw [er]
    intro v S1 F1 H1 st1 rd
    exact p _ _ st1.stM
  · exact p.elim
theorem js_appX (i : Nat) (he : JX X m e fx) (hmd : mdAt m i = .ow := by rfl) (hl : i < m.length := by first | decide | simp) (hN : X.N[i]? = some x := by rfl) (hv : Vis X.env.scope x := by first | exact Or.inl rfl | exact Or.inr (Or.inl rfl) | exact Or.inr (Or.inr rfl))
    (hd : (x == ("__debug__" : Str)) = false := by decide) (hcd : (x == ("__classdict__" : Str)) = false := by decide)
    (hs : swapsWith (.Call (.Attribute (.Name x p1) "append" p2) [e] [] p3) none pos.line X.env = pure false := by rfl)
    (hpe : ∀ {to te : TE}, PE X (.Name x p1) to → PE X e te → PE X (.Call (.Attribute (.Name x p1) "append" p2) [e] [] p3) (tBM X.K "list" rAppend to (tCons te tNil)) := by
      intro to te ho he
      exact pe_bm PySem.F.plainAttrs_list PySem.F.slot_list_append PySem.F.type_list_append mt_append ho (pa_cons he pa_nil)) :
    JS X E L m m (.Expr (.Call (.Attribute (.Name x p1) "append" p2) [e] [] p3) pos) (fAppX i fx) := by
  refine ⟨PSimp (ps_expr (hpe (pe_var hN hv hd hcd) he.pe) hs) fun D σ H h => ?_⟩
  obtain ⟨S0, H0, ρ, ⟨S, Fp, st⟩, p⟩ := h
  unfold fAppX at p
  split at p
  · rename_i xs0 exs0
    obtain ⟨pa, vs, ds, eds, e1, e2, e3, e4, e5⟩ := st.own hmd exs0
    refine ⟨_, e2, .inl ⟨rfl, vs, .inl (.inl e4)⟩, S0, H0, S, Fp, ρ, st, ?_⟩
    split at p
    · rename_i d ρ1 er
      intro v S1 F1 H1 st1 rd
      split at p
      · rename_i xs exs
        split at p
        · rename_i hz
          obtain ⟨qa, ws, ds1, eds1, q1, q2, q3, q4, q5⟩ := st1.own hmd exs
          cases eds1
          obtain rfl := Same.ref_eq e2 q2
          exact ⟨_, ws, v, rfl, rfl, q4, by rw [q5.len]; exact szOk_lt hz, p _ _ (st1.write hl hmd exs q1 q2 q3 q4 (q5.snoc rd)).stM⟩
        · exact p.elim
      · exact p.elim
    · exact p.elim
  · exact p.elim
/-- tg = e: any target -/
def fAsg (f : Env → Res D) (g : D → Env → Res Env) : FS := fun ρ => lift (f ρ) ρ fun d => match g d ρ with
  | .ok ρ1 => .ok (.nx ρ1)
  | _ => .er
theorem js_asg {tg : Expr} {ts : List Nat} {g : D → Env → Res Env} (he : JE X E m .sh e f) (hg : JG X m ts tg g) (hs : swapsWithSole [tg] e pos.line X.env = pure false := by rfl) (hw : swappedStores [tg] e X.env = pure none := by rfl)
    (h1 : (assignEach [tg] X.env).map (·.2) = [assign tg X.env] := by rfl) : JS X E L m m (.Assign [tg] e pos) (fAsg f g) := by
  refine ⟨PSimp (ps_asg he.pe hg.pg hs hw h1) fun D σ H h => ?_⟩
  obtain ⟨S0, H0, ρ, ⟨S, Fp, st⟩, p⟩ := h
  refine ⟨S, ρ, st.envM, (lift_post st p).post fun d v S1 H1 s1 r k => ?_⟩
  refine ⟨S0, H0, S1, Fp, ρ, d, st.step s1, r, ?_⟩
  split at k
  · rename_i ρ1 eg
    try rw [eg]
    exact fun σ1 S2 F1 H2 st2 _ _ => k _ _ st2.stM
  · exact k.elim
end
end Da
namespace Da
open PySem PySem.Spec L2
/-! ### facts for plain proofs -/
/-- whole numbers from naturals -/
def nat (i : Nat) : D := .int (i : Int)
theorem nat_eq {i : Nat} : D.int (i : Int) = nat i := rfl
theorem rng_zero {n : Nat} : rng 0 n = (List.range n).map nat := by
  unfold rng
  refine List.map_congr_left fun i _ => ?_
  rw [Int.zero_add]
  rfl
@[simp] theorem rng0_length {lo : Int} {n : Nat} : (rng lo n).length = n := rng_length
theorem szOk_small {n : Nat} (h : n ≤ 1000000) : szOk n = true := szOk_yes h
@[simp] theorem dList_lst {xs : List D} : dList (.lst xs) = .ok (.lst xs) := rfl
@[simp] theorem dList_tup {xs : List D} : dList (.tup xs) = .ok (.lst xs) := rfl
@[simp] theorem dTuple_lst {xs : List D} : dTuple (.lst xs) = .ok (.tup xs) := rfl
@[simp] theorem dTuple_tup {xs : List D} : dTuple (.tup xs) = .ok (.tup xs) := rfl
@[simp] theorem fTupleR1_ap {f : Env → Res D} {ρ : Env} {j : Int} (h : f ρ = .ok (.int j)) (h0 : 0 ≤ j) (h1 : j ≤ 1000000) : fTupleR1 f ρ = .ok (.tup ((List.range j.toNat).map nat)) := by
  unfold fTupleR1
  rw [h]
  show (if rgnOk 0 j = true then Res.ok (D.tup (rng 0 (j - 0).toNat)) else .er) = _
  rw [if_pos (show rgnOk 0 j = true from stuck_iff.mpr ⟨stuck_iff.mpr (by omega), by omega⟩), rng_zero, Int.sub_zero]
theorem fListR1_ap {f : Env → Res D} {ρ : Env} {j : Int} (h : f ρ = .ok (.int j)) (h0 : 0 ≤ j) (h1 : j ≤ 1000000) : fListR1 f ρ = .ok (.lst ((List.range j.toNat).map nat)) := by
  unfold fListR1
  rw [h]
  show (if rgnOk 0 j = true then Res.ok (D.lst (rng 0 (j - 0).toNat)) else .er) = _
  rw [if_pos (show rgnOk 0 j = true from stuck_iff.mpr ⟨stuck_iff.mpr (by omega), by omega⟩), rng_zero, Int.sub_zero]
/-- a range as it is walked -/
theorem fR1_ok {fs : Env → Res (List D)} {ρ : Env} {n : Nat} (h : fs ρ = .ok [.int (n : Int)]) (h1 : n ≤ 1000000) : fR1 fs ρ = .ok (rng 0 n) := by
  unfold fR1
  rw [h]
  show gRng1 [.int (n : Int)] = _
  rw [gRng1_int (by omega) (by omega)]
  rfl
/-! comprehensions -/
theorem lcGo_map {α : Type} {g : D → Env → Res Env} {c : Env → Res Bool} {f : Env → Res D} {ρ : Env} {k : α → D} {h : α → D} {e : α → Env} : ∀ {ys : List α}, (∀ y ∈ ys, g (k y) ρ = .ok (e y) ∧ c (e y) = .ok true ∧ f (e y) = .ok (h y)) → lcGo g c f ρ (ys.map k) = .ok (ys.map h)
  | [], _ => rfl
  | y :: ys, H => by
    obtain ⟨h1, h2, h3⟩ := H y List.mem_cons_self
    rw [List.map_cons, List.map_cons]
    unfold lcGo
    rw [h1]
    simp only [h2, h3, if_true, lcGo_map fun z hz => H z (List.mem_cons_of_mem _ hz)]
/-- over things told by k, without a test, a name as the target -/
theorem fLc_map {α : Type} {vs : List Nat} {it : Env → Res (List D)} {i : Nat} {f : Env → Res D} {ρ : Env} {k : α → D} {h : α → D} {ys : List α} (hi : it ρ = .ok (ys.map k)) (hz : ys.length ≤ 1000000) (H : ∀ y ∈ ys, f ((wipeD ρ vs).set i (some (k y))) = .ok (h y)) : fLc vs it (gN i) fYes f ρ = .ok (.lst (ys.map h)) := by
  unfold fLc
  rw [hi]
  show (if szOk (ys.map k).length = true then _ else _) = _
  rw [if_pos (by rw [List.length_map]; exact szOk_yes hz), lcGo_map (e := fun y => (wipeD ρ vs).set i (some (k y))) (h := h) fun y hy => ⟨rfl, rfl, H y hy⟩]
  rfl
@[simp] theorem wipeD_one {ρ : Env} {i : Nat} : wipeD ρ [i] = ρ.set i none := rfl
@[simp] theorem fSc_int {f : Env → Res D} {ρ : Env} {j : Int} (h : f ρ = .ok (.int j)) : fSc f ρ = .ok (.int j) := by unfold fSc; rw [h]; rfl
@[simp] theorem fNx_ok {α : Type} {f : Env → Res α} {ρ : Env} {d : α} (h : f ρ = .ok d) : fNx f ρ = .ok d := by unfold fNx; rw [h]
/-! equal data -/
theorem pys_ints : ∀ ns : List Int, D.pys (ns.map D.int) = some (ns.map PyData.int)
  | [] => rfl
  | n :: ns => by
    rw [List.map_cons, List.map_cons]
    unfold D.pys
    rw [pys_ints ns]
    rfl
theorem shaped_tup {ns : List Int} : SeqAt.shaped (.tuple (ns.map PyData.int)) = true := by
  have h := PySem.W.shaped_ints ns
  unfold SeqAt.shaped at h ⊢
  simp only [PyData.canLay0, PyData.depth] at h ⊢
  exact h
theorem eqv_ints : ∀ a b : List Int, PyData.eqvAll (a.map PyData.int) (b.map PyData.int) = decide (a = b)
  | [], [] => by simp [PyData.eqvAll]
  | [], _ :: _ => by simp [PyData.eqvAll]
  | _ :: _, [] => by simp [PyData.eqvAll]
  | x :: a, y :: b => by
    rw [List.map_cons, List.map_cons, PyData.eqvAll, eqv_ints a b]
    simp only [PyData.eqv, List.cons.injEq]
    by_cases hx : x = y
    · by_cases hb : a = b <;> simp [hx, hb]
    · simp [hx]
theorem py_lst {ns : List Int} : D.py (.lst (ns.map D.int)) = some (.list (ns.map PyData.int)) := by unfold D.py; rw [pys_ints]
theorem py_tup {ns : List Int} : D.py (.tup (ns.map D.int)) = some (.tuple (ns.map PyData.int)) := by unfold D.py; rw [pys_ints]
theorem eqD_lst {a b : List Int} : eqD (.lst (a.map D.int)) (.lst (b.map D.int)) = .ok (decide (a = b)) := by
  unfold eqD
  rw [py_lst, py_lst]
  simp only [PySem.W.shaped_ints, Bool.and_self, if_true, PyData.eqv, eqv_ints]
theorem eqD_tup {a b : List Int} : eqD (.tup (a.map D.int)) (.tup (b.map D.int)) = .ok (decide (a = b)) := by
  unfold eqD
  rw [py_tup, py_tup]
  simp only [shaped_tup, Bool.and_self, if_true, PyData.eqv, eqv_ints]
/-- the same thing -/
theorem eqD_self {d : D} {a : PyData} (h : D.py d = some a) (hs : SeqAt.shaped a = true) : eqD d d = .ok true := by
  unfold eqD
  rw [h]
  simp only [hs, Bool.and_self, if_true]
  rw [SeqAt.eqv_refl _ (SeqAt.canLay_of_shaped hs)]
/-! sorted whole numbers -/
theorem en_ints {ns : List Int} : (ns.map D.int).map D.en = ns.map PyData.int := by
  rw [List.map_map]
  rfl
theorem srt_ints (ns : List Int) : SrtOk (ns.map D.int) := by
  refine ⟨⟨_, pys_ints ns⟩, ?_, ?_, fun d hd => ?_⟩
  · rw [en_ints]
    exact PySem.W.AllAlike.of fun _ _ => by simp [PySem.W.alike]
  · rw [en_ints]
    exact PySem.W.Sortable.others fun _ => ⟨(fun z => nomatch z), (fun xs z => nomatch z)⟩
  · obtain ⟨n, _, rfl⟩ := List.mem_map.mp hd
    show PyData.depth (.int n) ≤ 20
    simp [PyData.depth]
def leI (x y : Int) : Bool := decide (x ≤ y)
theorem leD_int {x y : Int} : leD (.int x) (.int y) = leI x y := by
  have := congrFun (congrFun (PySem.W.dataLe_int (fun b : Int => b)) x) y
  exact this
theorem sort_ints (ns : List Int) : (ns.map D.int).mergeSort leD = (ns.mergeSort leI).map D.int := by
  exact (List.map_mergeSort (r := leI) (s := leD) (f := D.int) (l := ns) (fun a _ b _ => (leD_int).symm)).symm
theorem dSorted_lst {ns : List Int} : dSorted (.lst (ns.map D.int)) = .ok (.lst ((ns.mergeSort leI).map D.int)) := by
  show (if srtOk (ns.map D.int) = true then _ else _) = _
  rw [if_pos (show srtOk (ns.map D.int) = true from stuck_iff.mpr (srt_ints ns)), sort_ints]
theorem dSorted_tup {ns : List Int} : dSorted (.tup (ns.map D.int)) = .ok (.lst ((ns.mergeSort leI).map D.int)) := by
  show (if srtOk (ns.map D.int) = true then _ else _) = _
  rw [if_pos (show srtOk (ns.map D.int) = true from stuck_iff.mpr (srt_ints ns)), sort_ints]
/-- 0, 1, .. n - 1 -/
def upto (n : Nat) : List Int := (List.range n).map fun (i : Nat) => (i : Int)
theorem upto_nat {n : Nat} : (List.range n).map nat = (upto n).map D.int := by unfold upto; rw [List.map_map]; rfl
theorem upto_length {n : Nat} : (upto n).length = n := by unfold upto; rw [List.length_map, List.length_range]
theorem upto_at {n i : Nat} (h : i < n) : (upto n)[i]? = some (i : Int) := by unfold upto; rw [List.getElem?_map, List.getElem?_range h]; rfl
theorem mem_upto {n : Nat} {x : Int} : x ∈ upto n ↔ 0 ≤ x ∧ x < n := by
  unfold upto
  rw [List.mem_map]
  constructor
  · rintro ⟨i, hi, rfl⟩
    have := List.mem_range.mp hi
    omega
  · intro h
    exact ⟨x.toNat, List.mem_range.mpr (by omega), by omega⟩
theorem upto_pw {n : Nat} : (upto n).Pairwise (· ≤ ·) := by
  unfold upto
  rw [List.pairwise_map]
  exact List.pairwise_lt_range.imp fun h => by omega
theorem upto_nodup {n : Nat} : (upto n).Nodup := by
  unfold upto
  rw [List.Nodup, List.pairwise_map]
  exact List.pairwise_lt_range.imp fun h z => by omega
theorem sort_perm {ns : List Int} {n : Nat} (h : ns.Perm (upto n)) : ns.mergeSort leI = upto n := by
  refine PySem.W.Srt.one _ _ ((List.mergeSort_perm _ _).trans h) ?_ upto_pw
  refine (List.pairwise_mergeSort (fun a b c h1 h2 => ?_) (fun a b => ?_) ns).imp fun h => ?_
  · have h1 := of_decide_eq_true h1
    have h2 := of_decide_eq_true h2
    exact decide_eq_true (Int.le_trans h1 h2)
  · unfold leI
    simp
    omega
  · exact of_decide_eq_true h
end Da
namespace Da
open PySem PySem.Spec L2
/-! ### dicts: keys whole numbers or texts -/
def keyD : D → Option Key
  | .int i => some (.inl i)
  | .str s => some (.inr s)
  | _ => none
def keyDs : Key → D
  | .inl i => .int i
  | .inr s => .str s
def look : List Key → List D → Key → Option D
  | k' :: ks, d :: ds, k => if k' = k then some d else look ks ds k
  | _, _, _ => none
def putKs (ks : List Key) (k : Key) : List Key := if (ks.any fun j => decide (j = k)) = true then ks else ks ++ [k]
def putVs (ks : List Key) (ds : List D) (k : Key) (d : D) : List D := if (ks.any fun j => decide (j = k)) = true then (ks.zip ds).map (fun p => if p.1 = k then d else p.2) else ds ++ [d]
section
variable {K : PySem.W.Frag} {mg : Str → Option Value} {S H : Hp}
theorem keyD_ok {v : V} {d : D} {k : Key} (r : Rep K mg S v d) (h : keyD d = some k) : v = kV k := by
  cases d with
  | int i => cases h; cases r; rfl
  | str s => cases h; cases r; rfl
  | _ => cases h
theorem Rep.of_dic {v : V} {ks : List Key} {ds : List D} (h : Rep K mg S v (.dic ks ds)) : ∃ a kvs, v = .ref a ∧ S a = some (.dK kvs) ∧ ks = kvs.map (·.1) ∧ RepL K mg S (kvs.map (·.2)) ds := by
  cases h with
  | dic h hl hi =>
    refine ⟨_, _, rfl, h, rfl, by rw [List.length_map]; exact hl, fun i v d a b => ?_⟩
    rw [List.getElem?_map] at a
    cases e : (_ : List (Key × V))[i]? with
    | none => rw [e] at a; cases a
    | some p => rw [e] at a; cases a; exact hi i p d e b
theorem look_ok : ∀ {kvs : List (Key × V)} {ds : List D} {k : Key}, RepL K mg S (kvs.map (·.2)) ds → (look (kvs.map (·.1)) ds k = none ∧ valV kvs k = none) ∨ ∃ d v, look (kvs.map (·.1)) ds k = some d ∧ valV kvs k = some v ∧ Rep K mg S v d
  | [], ds, k, r => .inl ⟨by cases ds <;> rfl, rfl⟩
  | p :: kvs, [], k, r => by have := r.len; simp at this
  | p :: kvs, d :: ds, k, r => by
    rw [List.map_cons] at r
    by_cases e : p.1 = k
    · refine .inr ⟨d, p.2, ?_, valV_pos e, r.head⟩
      show (if p.1 = k then some d else _) = _
      rw [if_pos e]
    · have ih := look_ok (k := k) r.tail
      have q : look ((p :: kvs).map (·.1)) (d :: ds) k = look (kvs.map (·.1)) ds k := by
        show (if p.1 = k then some d else _) = _
        rw [if_neg e]
      rw [q, valV_neg e]
      exact ih
theorem put_ok {kvs : List (Key × V)} {ds : List D} {k : Key} {v : V} {d : D} (r : RepL K mg S (kvs.map (·.2)) ds) (h : Rep K mg S v d) : (putK kvs k v).map (·.1) = putKs (kvs.map (·.1)) k ∧ RepL K mg S ((putK kvs k v).map (·.2)) (putVs (kvs.map (·.1)) ds k d) := by
  have ha : ((kvs.map (·.1)).any fun j => decide (j = k)) = kvs.any fun kv => decide (kv.1 = k) := by rw [List.any_map]; rfl
  unfold putK putKs putVs
  rw [ha]
  by_cases hk : (kvs.any fun kv => decide (kv.1 = k)) = true
  · rw [if_pos hk, if_pos hk, if_pos hk]
    refine ⟨?_, ?_⟩
    · rw [List.map_map]
      refine List.map_congr_left fun p _ => ?_
      show (if p.1 = k then (p.1, v) else p).1 = p.1
      split <;> rfl
    · have hl := r.len
      rw [List.length_map] at hl
      refine ⟨by simp [hl], fun i w e a b => ?_⟩
      rw [List.getElem?_map, List.getElem?_map] at a
      rw [List.getElem?_map] at b
      cases ek : kvs[i]? with
      | none => rw [ek] at a; cases a
      | some p =>
        rw [ek] at a
        cases ez : ((kvs.map (·.1)).zip ds)[i]? with
        | none => rw [ez] at b; cases b
        | some q =>
          rw [ez] at b
          rw [List.getElem?_zip_eq_some] at ez
          obtain ⟨z1, z2⟩ := ez
          rw [List.getElem?_map, ek] at z1
          have z1 : p.1 = q.1 := by injection z1
          have a : (if p.1 = k then (p.1, v) else p).2 = w := by injection a
          have b : (if q.1 = k then d else q.2) = e := by injection b
          rw [← a, ← b, ← z1]
          split
          · exact h
          · exact r.at_ i p.2 q.2 (by rw [List.getElem?_map, ek]; rfl) z2
  · rw [if_neg hk, if_neg hk, if_neg hk]
    refine ⟨by rw [List.map_append]; rfl, ?_⟩
    rw [List.map_append]
    exact r.snoc h
end
/-! d[k], k in d -/
def dGetD : D → D → Res D := fun x y => match x, keyD y with
  | .dic ks ds, some k => (match look ks ds k with
    | some d => .ok d
    | none => .er)
  | _, _ => .er
def dHas (neg : Bool) : D → D → Res D := fun y x => match x, keyD y with
  | .dic ks ds, some k => .ok (.bl ((look ks ds k).isSome != neg))
  | _, _ => .er
def rDIn (neg : Bool) : R2 := fun x y H Q => ∃ a o, y = .ref a ∧ DGet H a x o ∧ Q (.bl (o.isSome != neg)) H
def rDIx : R2 := fun x y H Q => ∃ a v, x = .ref a ∧ DGet H a y (some v) ∧ Q v H
section
variable {X : Cx} {E : WX} {m : Mds} {a b : Expr} {fa fb : Env → Res D} {pos : Pos} {k : Nat}
theorem op_dIn (hu : X.A.units + 1 < cLine) : OpR X (compareOp .In) (rDIn false) := by
  intro pins s σ H x y v u Q I rx ry h
  obtain ⟨d, o, rfl, g, q⟩ := h
  cases ry
  refine d_in hu I g rx fun s' I' => ⟨.bl o.isSome, H, I', rfl, ?_⟩
  cases o <;> exact q
theorem op_dNotIn (hu : X.A.units + 1 < cLine) : OpR X (compareOp .NotIn) (rDIn true) := by
  intro pins s σ H x y v u Q I rx ry h
  obtain ⟨d, o, rfl, g, q⟩ := h
  cases ry
  refine d_notIn hu I g rx fun s' I' => ⟨.bl (!o.isSome), H, I', rfl, ?_⟩
  cases o <;> exact q
theorem opd_dhas {K : PySem.W.Frag} {mg : Str → Option Value} {neg : Bool} : OpD K mg .sh (rDIn neg) (dHas neg) := by
  intro E S H x y dx dy Q hs rx ry h
  cases dy with
  | dic ks ds =>
    unfold dHas at h
    split at h
    · rename_i ks' ds' k e1 e2
      cases e1
      obtain ⟨a, kvs, rfl, ha, rfl, rv⟩ := ry.of_dic
      have ex := keyD_ok rx e2
      subst ex
      refine ⟨a, _, rfl, DGet.k (hs _ _ ha), ?_⟩
      have h := Post.val h hs (.bl _)
      rcases look_ok (k := k) rv with ⟨e3, e4⟩ | ⟨d, w, e3, e4, _⟩
      · rw [e3] at h; rw [e4]; exact h
      · rw [e3] at h; rw [e4]; exact h
    · exact h.elim
  | _ => exact h.elim
theorem opd_dget {K : PySem.W.Frag} {mg : Str → Option Value} : OpD K mg .sh rDIx dGetD := by
  intro E S H x y dx dy Q hs rx ry h
  cases dx with
  | dic ks ds =>
    unfold dGetD at h
    split at h
    · rename_i ks' ds' k e1 e2
      cases e1
      obtain ⟨a, kvs, rfl, ha, rfl, rv⟩ := rx.of_dic
      have ey := keyD_ok ry e2
      subst ey
      split at h
      · rename_i d ed
        rcases look_ok (k := k) rv with ⟨e3, e4⟩ | ⟨d', w, e3, e4, rw'⟩
        · rw [e3] at ed; cases ed
        · rw [e3] at ed
          cases ed
          exact ⟨a, w, rfl, by rw [← e4]; exact DGet.k (hs _ _ ha), Post.val h hs rw'⟩
      · exact h.elim
    · exact h.elim
  | _ => exact h.elim
theorem je_dget (hr : RmU X.A) (ha : JE X E m .sh a fa) (hb : JE X E m .sh b fb) (hs : NoSl b := by intro _ _; rfl) : JE X E m .sh (.Subscript a b pos) (f2 dGetD fa fb) := ⟨PEimp (pe_dget (by unfold RmU at hr; omega) ha.pe hb.pe hs) fun σ H Q h => two opd_dget h⟩
theorem je_dhas (hr : RmU X.A) (ha : JE X E m .sh a fa) (hb : JE X E m .sh b fb) (hm : behindInMarks .In b = false := by rfl) : JE X E m .sh (.Compare a [.In] [b] pos) (f2 (dHas false) fa fb) := je_cmp (op_dIn (by unfold RmU at hr; omega)) opd_dhas ha hb hm
theorem je_dhasnot (hr : RmU X.A) (ha : JE X E m .sh a fa) (hb : JE X E m .sh b fb) (hm : behindInMarks .NotIn b = false := by rfl) : JE X E m .sh (.Compare a [.NotIn] [b] pos) (f2 (dHas true) fa fb) := je_cmp (op_dNotIn (by unfold RmU at hr; omega)) opd_dhas ha hb hm
end
end Da
namespace Da
open PySem PySem.Spec L2
/-! ### dict comprehensions -/
def dcGo (g : D → Env → Res Env) (c : Env → Res Bool) (fk fv : Env → Res D) (ρ : Env) : List D → List Key → List D → Res (List Key × List D)
  | [], ks, ds => .ok (ks, ds)
  | x :: xs, ks, ds => match g x ρ with
    | .ok ρ1 => (match c ρ1 with
      | .ok b => if b = true then (match fk ρ1 with
        | .ok y => (match fv ρ1 with
          | .ok z => (match keyD y with
            | some k => dcGo g c fk fv ρ xs (putKs ks k) (putVs ks ds k z)
            | none => .er)
          | _ => .er)
        | _ => .er) else dcGo g c fk fv ρ xs ks ds
      | _ => .er)
    | _ => .er
def fDc (vs : List Nat) (it : Env → Res (List D)) (g : D → Env → Res Env) (c : Env → Res Bool) (fk fv : Env → Res D) : Env → Res D := fun ρ => (it ρ).bind fun xs => if szOk xs.length = true then (match dcGo g c fk fv (wipeD ρ vs) xs [] [] with
  | .ok q => .ok (.dic q.1 q.2)
  | _ => .er) else .er
section
variable {K : PySem.W.Frag} {mg : Str → Option Value} {E : WX} {m : Mds} {it : Env → Res (List D)} {g : D → Env → Res Env} {c : Env → Res Bool} {fk fv : Env → Res D} {ts vs : List Nat}
/-- the dict under way -/
def DcW (K : PySem.W.Frag) (mg : Str → Option Value) (g : D → Env → Res Env) (c : Env → Res Bool) (fk fv : Env → Res D) (ρ : Env) (xs : List D) (q : List Key × List D) (D0 : Addr) (S1 H1 : Hp) (i : Nat) (H : Hp) : Prop :=
  ∃ S2 kvs ds, Step S1 H1 S2 H ∧ S2 D0 = none ∧ H D0 = some (.dK kvs) ∧ RepL K mg S2 (kvs.map (·.2)) ds ∧ dcGo g c fk fv ρ (xs.drop i) (kvs.map (·.1)) ds = .ok q ∧ kvs.length ≤ i
theorem dc_ok {σ : L2.St} {H : Hp} {Q : VK} (hts : ∀ t ∈ ts, t ∈ vs) (h : tE K mg E m .dk (fDc vs it g c fk fv) σ H Q) :
    tDc (tI K mg E m it) (tGD K mg m ts g) (tT K mg EF m c) (tE K mg EF m .sh fk) (tE K mg EF m .sh fv) vs σ H Q := by
  obtain ⟨S, ρ, hm, hp⟩ := h
  refine ⟨S, ρ, hm, (Post.bind hp).imp fun xs S1 H1 s1 k J w D0 hD => ?_⟩
  split at k
  · rename_i hz
    have hz := szOk_ok hz
    split at k
    · rename_i q eg
      refine ⟨fun i n H => n = xs.length - i ∧ i ≤ xs.length ∧ DcW K mg g c fk fv (wipeD ρ vs) xs q D0 S1 H1 i H, ⟨xs.length, by simp, Nat.zero_le _, S1, [], [], Step.hid s1.sub hD, s1.sub.free hD, upd_same, .nil, eg, Nat.le_refl _⟩, ?_⟩
      rintro i n H2 ⟨rfl, hi, S2, kvs, ds, st2, hs2, hd2, rv, el, hn⟩
      by_cases hlt : i < xs.length
      · obtain ⟨hgo, hyl⟩ := w.go i xs[i] S2 H2 (List.getElem?_eq_getElem hlt) st2.ss st2.sub
        refine .inr ⟨hgo, DcW K mg g c fk fv (wipeD ρ vs) xs q D0 S1 H1 (i + 1), fun H' z => ⟨xs.length - (i + 1), by omega, rfl, hlt, z⟩, fun x H3 y => ?_⟩
        obtain ⟨S3, s3, r3⟩ := hyl x H3 y
        rw [List.drop_eq_getElem_cons hlt] at el
        unfold dcGo at el
        split at el
        · rename_i ρ1 eg1
          have st3 := st2.trans s3
          obtain ⟨F, stF⟩ := (((hm.step s1).step st3).wipe vs).bare
          refine ⟨_, _, S3, F, wipeD ρ vs, xs[i], stF, r3, ?_⟩
          try rw [eg1]
          intro σ4 S4 F4 H4 st4 s4 hfr
          refine ⟨wipe_eq (by rw [hfr.1, L2.wipe_length]) hfr.2 hts, S4, ρ1, st4.envM, ?_⟩
          split at el
          · rename_i b ec
            try rw [ec]
            intro S5 H5 s5
            have a5 := (s3.trans s4).trans s5
            have st5 := st2.trans a5
            cases b with
            | false =>
              rw [if_neg (by decide)] at el
              show DcW K mg g c fk fv (wipeD ρ vs) xs q D0 S1 H1 (i + 1) H5
              exact ⟨S5, kvs, ds, st5, a5.out hs2 hd2, a5.hh _ _ hd2, rv.mono a5.ss, el, by omega⟩
            | true =>
              rw [if_pos rfl] at el
              show tE K mg EF m Md.sh fk σ4 H5 _
              split at el
              · rename_i y' ey
                refine ⟨S5, ρ1, (st4.envM).step s5, ?_⟩
                try rw [ey]
                intro v S6 H6 fp s6 o _ _
                split at el
                · rename_i z' ez
                  refine ⟨S6, ρ1, ((st4.envM).step s5).step s6, ?_⟩
                  try rw [ez]
                  intro v2 S7 H7 fp2 s7 o2 _ _
                  split at el
                  · rename_i kk ek
                    have a7 := (a5.trans s6).trans s7
                    have ev := keyD_ok (o.1.mono s7.ss) ek
                    have pk := put_ok (k := kk) (rv.mono a7.ss) o2.1
                    refine ⟨kvs, kk, ev, a7.hh _ _ hd2, by omega, S7, putK kvs kk v2, _, (st2.trans a7).write (a7.out hs2 hd2) hD, a7.out hs2 hd2, upd_same, pk.2, ?_, by have := length_putK kvs kk v2; omega⟩
                    rw [pk.1]
                    exact el
                  · cases el
                · cases el
              · cases el
          · cases el
        · cases el
      · have e : i = xs.length := by omega
        subst e
        rw [List.drop_length] at el
        cases el
        exact .inl ⟨w.stop S2 H2 st2.ss st2.sub, k _ S2 H2 [D0] st2 ⟨D0, kvs, ds, rfl, rfl, rfl, hs2, hd2, rv⟩ (by simp) (fun a z => by
          have : a = D0 := by simpa using z
          rw [this]; exact hD)⟩
    · exact k.elim
  · exact k.elim
end
section
variable {X : Cx} {E : WX} {L : Lp} {m : Mds} {ts : List Nat} {N0 ps0 : List Str} {sc0 : Scope} {kx vx tg iter e : Expr} {ifs : List Expr} {scope : Scope} {own : List (Str × Nat)} {pos p p1 p2 p3 tpos : Pos} {it : Env → Res (List D)} {g : D → Env → Res Env} {c : Env → Res Bool} {fk fv fa fb : Env → Res D} {a b : Expr} {es elts : List Expr} {kk k : Nat} {fs : Env → Res (List D)}
theorem je_dc (Sc : FnScope N0 ps0 sc0) (own : List (Str × Nat)) (hi : JI X E m tg iter it)
    (hg : ∀ (s : Shared) (H : Hp) (C : Addr) (cl : List (Str × Addr)) (fp : List Addr), JG (X.blk s H scope (compEnvC scope cl C X.env) fp) m ts tg g) (ht : ∀ (s : Shared) (H : Hp) (C : Addr) (cl : List (Str × Addr)) (fp : List Addr), JTs (X.blk s H scope (compEnvC scope cl C X.env) fp) EF m ifs c)
    (hk : ∀ (s : Shared) (H : Hp) (C : Addr) (cl : List (Str × Addr)) (fp : List Addr), JE (X.blk s H scope (compEnvC scope cl C X.env) fp) EF m .sh kx fk)
    (he : ∀ (s : Shared) (H : Hp) (C : Addr) (cl : List (Str × Addr)) (fp : List Addr), JE (X.blk s H scope (compEnvC scope cl C X.env) fp) EF m .sh vx fv) (hc : X.calm = true := by rfl) (hN0 : X.N = N0 := by rfl) (hsc : X.env.scope = sc0 := by rfl) (ok : blkC N0 sc0 scope own = true := by decide +kernel) (hts : ∀ t ∈ ts, t ∈ own.map (·.2) := by decide)
    (hs : ∀ x, foldedSetIterable iter X.env x = pure x := by intro _; rfl) : JE X E m .dk (.DictComp kx vx [⟨tg, iter, ifs, 0⟩] scope pos) (fDc (own.map (·.2)) it g c fk fv) :=
  ⟨PEimp (pe_dc (g := tGD X.K X.mg m ts g) (tt := tT X.K X.mg EF m c) (tk := tE X.K X.mg EF m .sh fk) (tv := tE X.K X.mg EF m .sh fv) hc (by rw [hN0]; exact Sc.nd) hi.pi (blkOk_by (by rw [hN0, hsc]; exact ok)) (fun s H C cl fp => (hg s H C cl fp).pg) (fun s H C cl fp => (ht s H C cl fp).pt) (fun s H C cl fp => (hk s H C cl fp).pe) (fun s H C cl fp => (he s H C cl fp).pe) hs) fun σ H Q h => dc_ok hts h⟩
/-! index: of whole numbers -/
def idxI (xs : List D) (k : Int) : Res D := match intsD xs with
  | some ns => if k ∈ ns then .ok (.int (ns.idxOf k : Nat)) else .er
  | none => .er
def fIdx (fa fb : Env → Res D) : Env → Res D := fun ρ => (fa ρ).bind fun x => match x with
  | .lst xs => (fb ρ).bind fun y => (match y with
    | .int k => idxI xs k
    | _ => .er)
  | _ => .er
theorem idxI_ok {xs : List D} {k : Int} {K : PySem.W.Frag} {mg : Str → Option Value} {E : XK} {S H : Hp} {Q : VK} (h : Post K mg E S H .sh (idxI xs k) Q) : ∃ ns : List Int, xs = ns.map D.int ∧ k ∈ ns ∧ Post K mg E S H .sh (.ok (.int (ns.idxOf k : Nat))) Q := by
  unfold idxI at h
  cases en : intsD xs with
  | none => rw [en] at h; exact h.elim
  | some ns =>
    rw [en] at h
    by_cases hi : k ∈ ns
    · refine ⟨ns, intsD_ok en, hi, ?_⟩
      simpa [hi] using h
    · simp [hi] at h
      exact h.elim
def rIndexL (K : PySem.W.Frag) : V → List V → Hp → VK → Prop := fun x xs H Q => ∃ (a : Addr) (ns : List Int) (k : Int), x = .ref a ∧ xs = [.int k] ∧ SqL K H a (ns.map V.int) ∧ k ∈ ns ∧ Q (.int (ns.idxOf k : Nat)) H
theorem mt_indexL : MtR X "list.index" (rIndexL X.K) := by
  intro pins s σ H x xs v us Q I rx rxs h
  obtain ⟨d, ns, i, rfl, rfl, hq, hi, q⟩ := h
  cases rx
  obtain ⟨u, rfl, ru⟩ := rxs.one
  obtain ⟨t, rfl⟩ := ru
  obtain ⟨its, rv, pl, hz⟩ := I.list hq
  exact PySem.SeqAt.list_index_ints pl.isList rv.ints (by rw [List.length_map] at hz; exact hz) hi ⟨.int _, H, I.tok _, ⟨_, rfl⟩, q⟩
/-- xs.index(k), xs a list -/
theorem je_index (ha : JE X E m .sh a fa) (hb : JE X E m .sh b fb)
    (hpe : ∀ {to te : TE}, PE X a to → PE X b te → PE X (.Call (.Attribute a "index" p2) [b] [] p3) (tBM X.K "list" (rIndexL X.K) to (tCons te tNil)) := by
      intro to te ho he
      exact pe_bm PySem.F.plainAttrs_list PySem.F.slot_list_index PySem.F.type_list_index mt_indexL ho (pa_cons he pa_nil)) :
    JE X E m .sh (.Call (.Attribute a "index" p2) [b] [] p3) (fIdx fa fb) := by
  refine ⟨PEimp (hpe ha.pe hb.pe) fun σ H Q h => ?_⟩
  obtain ⟨S, ρ, hm, hp⟩ := h
  refine ⟨S, ρ, hm, (Post.bind hp).post fun dx v S1 H1 s1 rx k1 => ?_⟩
  cases dx with
  | lst xs =>
    obtain ⟨q, vs, rfl, hq, rv⟩ := rx.of_lst
    refine ⟨.inl ⟨rfl, vs, .inl (.inl (s1.sub _ _ hq))⟩, S1, ρ, hm.step s1, (Post.bind k1).post fun dy w S2 H2 s2 ry k2 => ?_⟩
    cases dy with
    | int i =>
      cases ry
      obtain ⟨ns, rfl, hi, k2⟩ := idxI_ok k2
      rw [rv.ints] at hq
      exact ⟨q, ns, i, rfl, rfl, .inl (.inl (s2.sub _ _ (s2.ss _ _ hq))), hi, Post.val k2 s2.sub (.int _)⟩
    | _ => exact k2.elim
  | _ => exact k1.elim
/-! gcd -/
def dGcd : D → D → Res D
  | .int i, .int j => .ok (.int ((Nat.gcd i.natAbs j.natAbs : Nat) : Int))
  | _, _ => .er
theorem je_gcd (hm : X.mg "gcd" = some (.builtin "math.gcd")) (ha : JA X E m [a, b] fs) (hg : Gl X "gcd" := by rfl) (he : starEach [a, b] X.env = (false, eval a X.env) :: starEach [b] X.env := by rfl) (hpl : (backTo pos (starEach [b] X.env)).any (·.1) = false := by rfl) : JE X E m .sh (.Call (.Name "gcd" p) [a, b] [] pos) (fOn (on2 dGcd) fs) :=
  ⟨PEimp (pe_callBfun cr_gcd hg hm ha.pa (by decide) he hpl) fun σ H Q h => call1 (calld2 fun E S H x y d e Q hs rx ry hp => by
    cases d with
    | int i =>
      cases e with
      | int j =>
        cases rx; cases ry
        exact ⟨i, j, rfl, Post.val hp hs (.int _)⟩
      | _ => exact hp.elim
    | _ => exact hp.elim) h⟩
/-! zip of two lists, of two tuples -/
def zipD : List D → List D → List D
  | x :: xs, y :: ys => .tup [x, y] :: zipD xs ys
  | _, _ => []
theorem zipD_at : ∀ {xs ys : List D} {i : Nat}, (zipD xs ys)[i]? = match xs[i]?, ys[i]? with
    | some x, some y => some (.tup [x, y])
    | _, _ => none
  | [], ys, i => by simp [zipD]
  | x :: xs, [], i => by
    unfold zipD
    cases (x :: xs)[i]? <;> simp
  | x :: xs, y :: ys, 0 => by simp [zipD]
  | x :: xs, y :: ys, i + 1 => by
    unfold zipD
    rw [List.getElem?_cons_succ, List.getElem?_cons_succ, List.getElem?_cons_succ, zipD_at]
theorem zipD_length : ∀ {xs ys : List D}, (zipD xs ys).length = min xs.length ys.length
  | [], ys => by simp [zipD]
  | x :: xs, [] => by simp [zipD]
  | x :: xs, y :: ys => by
    unfold zipD
    rw [List.length_cons, List.length_cons, List.length_cons, zipD_length]
    omega
def dZip : List D → Res (List D)
  | [.lst xs, .lst ys] => .ok (zipD xs ys)
  | [.tup xs, .tup ys] => .ok (zipD xs ys)
  | _ => .er
def fZip (fs : Env → Res (List D)) : Env → Res (List D) := fun ρ => (fs ρ).bind dZip
theorem walk_z {K : PySem.W.Frag} {mg : Str → Option Value} {S : Hp} {a b : Addr} {vs ws : List V} {ds es : List D} (r : RepL K mg S vs ds) (r2 : RepL K mg S ws es) (h : SqL K S a vs) (h2 : SqL K S b ws) : WalkD K mg (Itz K a b) S (zipD ds es) where
  go := fun i d S1 H1 e s1 s2 => by
    rw [zipD_at] at e
    cases ed : ds[i]? with
    | none => rw [ed] at e; cases e
    | some d0 =>
      cases ee : es[i]? with
      | none => rw [ed, ee] at e; cases e
      | some e0 =>
        rw [ed, ee] at e
        cases e
        obtain ⟨v, ev, rv⟩ := r.get ed
        obtain ⟨w, ew, rw'⟩ := r2.get ee
        refine ⟨⟨vs, ws, v, w, same_l s2 (same_l s1 h), same_l s2 (same_l s1 h2), ev, ew⟩, fun x H2 ⟨T, y, z, e1, hT, e2, hy, hz⟩ => ?_⟩
        subst e1 e2
        have q1 := hy vs (same_l s2 (same_l s1 h))
        have q2 := hz ws (same_l s2 (same_l s1 h2))
        rw [ev] at q1
        rw [ew] at q2
        cases q1; cases q2
        have st := Step.laid (o := HO.tup [v, w]) s2 hT
        exact ⟨_, st, Rep.tupL (.inl (.inl upd_same)) (.cons ((rv.mono s1).mono st.ss) (.cons ((rw'.mono s1).mono st.ss) .nil))⟩
  stop := fun S1 H1 s1 s2 => ⟨vs, ws, same_l s2 (same_l s1 h), same_l s2 (same_l s1 h2), by rw [zipD_length, r.len, r2.len]; omega⟩
theorem walk_zT {K : PySem.W.Frag} {mg : Str → Option Value} {S : Hp} {a b : Addr} {vs ws : List V} {ds es : List D} (r : RepL K mg S vs ds) (r2 : RepL K mg S ws es) (h : SqT K S a vs) (h2 : SqT K S b ws) : WalkD K mg (RZ.ItzT K a b) S (zipD ds es) where
  go := fun i d S1 H1 e s1 s2 => by
    rw [zipD_at] at e
    cases ed : ds[i]? with
    | none => rw [ed] at e; cases e
    | some d0 =>
      cases ee : es[i]? with
      | none => rw [ed, ee] at e; cases e
      | some e0 =>
        rw [ed, ee] at e
        cases e
        obtain ⟨v, ev, rv⟩ := r.get ed
        obtain ⟨w, ew, rw'⟩ := r2.get ee
        refine ⟨⟨vs, ws, v, w, same_t s2 (same_t s1 h), same_t s2 (same_t s1 h2), ev, ew⟩, fun x H2 ⟨T, y, z, e1, hT, e2, hy, hz⟩ => ?_⟩
        subst e1 e2
        have q1 := hy vs (same_t s2 (same_t s1 h))
        have q2 := hz ws (same_t s2 (same_t s1 h2))
        rw [ev] at q1
        rw [ew] at q2
        cases q1; cases q2
        have st := Step.laid (o := HO.tup [v, w]) s2 hT
        exact ⟨_, st, Rep.tupL (.inl (.inl upd_same)) (.cons ((rv.mono s1).mono st.ss) (.cons ((rw'.mono s1).mono st.ss) .nil))⟩
  stop := fun S1 H1 s1 s2 => ⟨vs, ws, same_t s2 (same_t s1 h), same_t s2 (same_t s1 h2), by rw [zipD_length, r.len, r2.len]; omega⟩
theorem dZip_ok {ds xs : List D} (h : dZip ds = .ok xs) : ∃ as bs, xs = zipD as bs ∧ (ds = [.lst as, .lst bs] ∨ ds = [.tup as, .tup bs]) := by
  unfold dZip at h
  split at h
  · cases h; exact ⟨_, _, rfl, .inl rfl⟩
  · cases h; exact ⟨_, _, rfl, .inr rfl⟩
  · cases h
theorem dZip_ex {ds : List D} {c : Str} {fs : List (Str × D)} : dZip ds ≠ .ex c fs := by
  unfold dZip
  split <;> exact fun z => nomatch z
theorem ji_zip (ha : JA X E m [a, b] fs) (hm : X.mg "zip" = none) (hg : Gl X "zip" := by rfl) (hs : starEach [a, b] X.env = (false, eval a X.env) :: starEach [b] X.env := by rfl) (hpl : (backTo pos (starEach [b] X.env)).any (·.1) = false := by rfl) : JI X E m (.Tuple elts kk tpos) (.Call (.Name "zip" p) [a, b] [] pos) (fZip fs) := by
  refine ⟨⟨fun pins s σ H R I h => (RZ.pi_zipA hg hm ha.pa hs hpl).run pins s σ H R I ?_⟩⟩
  obtain ⟨S, ρ, hm, hp⟩ := h
  refine ⟨S, ρ, hm, (PostW.bind hp).imp fun ds S1 H1 s1 k vs rv => ?_⟩
  obtain ⟨xs, e, k⟩ := PostW.okOf k fun _ _ => dZip_ex
  obtain ⟨as, bs, rfl, hd⟩ := dZip_ok e
  rcases hd with rfl | rfl
  · obtain ⟨v, w, rfl, rd, re⟩ := repl2 rv
    obtain ⟨a1, v1, rfl, h1, r1⟩ := rd.of_lst
    obtain ⟨a2, v2, rfl, h2, r2⟩ := re.of_lst
    exact ⟨a1, a2, v1, v2, rfl, .inl ⟨.inl (.inl (s1.sub _ _ h1)), .inl (.inl (s1.sub _ _ h2)), k S1 H1 (Step.refl s1.sub) _ (walk_z r1 r2 (.inl (.inl h1)) (.inl (.inl h2)))⟩⟩
  · obtain ⟨v, w, rfl, rd, re⟩ := repl2 rv
    obtain ⟨a1, v1, rfl, h1, r1⟩ := rd.of_tup
    obtain ⟨a2, v2, rfl, h2, r2⟩ := re.of_tup
    exact ⟨a1, a2, v1, v2, rfl, .inr ⟨same_t s1.sub h1, same_t s1.sub h2, k S1 H1 (Step.refl s1.sub) _ (walk_zT r1 r2 h1 h2)⟩⟩
end
end Da
namespace Da
open PySem PySem.Spec L2
/-! ### own objects -/
def lookF : List Str → List D → Str → Option D
  | n :: ns, d :: ds, f => if n = f then some d else lookF ns ds f
  | _, _, _ => none
def dFld (c f : Str) : D → Res D
  | .obj c' ns ds => if c' = c then (match lookF ns ds f with
    | some d => .ok d
    | none => .er) else .er
  | _ => .er
/-- the class c has nothing called f: its instances' own f is read and stored -/
def FldAt (K : PySem.W.Frag) (mg : Str → Option Value) (c f : Str) : Prop := ∀ C, mg c = some (.ref C) → Cls K C ∧ NoAttr K C f
section
variable {K : PySem.W.Frag} {mg : Str → Option Value} {S H : Hp}
theorem Rep.of_obj {v : V} {c : Str} {ns : List Str} {ds : List D} (h : Rep K mg S v (.obj c ns ds)) : ∃ a C dx fs, v = .ref a ∧ S a = some (.ins C dx fs) ∧ mg c = some (.ref C) ∧ ns = fs.map (·.1) ∧ RepL K mg S (fs.map (·.2)) ds := by
  cases h with
  | obj h hm hl hi =>
    refine ⟨_, _, _, _, rfl, h, hm, rfl, by rw [List.length_map]; exact hl, fun i v d a b => ?_⟩
    rw [List.getElem?_map] at a
    cases e : (_ : List (Str × V))[i]? with
    | none => rw [e] at a; cases a
    | some p => rw [e] at a; cases a; exact hi i p d e b
theorem lookF_ok : ∀ {fs : List (Str × V)} {ds : List D} {f : Str}, RepL K mg S (fs.map (·.2)) ds → (lookF (fs.map (·.1)) ds f = none ∧ fs.lookup f = none) ∨ ∃ d v, lookF (fs.map (·.1)) ds f = some d ∧ fs.lookup f = some v ∧ Rep K mg S v d
  | [], ds, f, r => .inl ⟨by cases ds <;> rfl, rfl⟩
  | p :: fs, [], f, r => by have := r.len; simp at this
  | p :: fs, d :: ds, f, r => by
    rw [List.map_cons] at r
    by_cases e : p.1 = f
    · refine .inr ⟨d, p.2, ?_, ?_, r.head⟩
      · show (if p.1 = f then some d else _) = _
        rw [if_pos e]
      · obtain ⟨n, v⟩ := p
        rw [List.lookup_cons, show (f == n) = true from by simp [show n = f from e]]
    · have ih := lookF_ok (f := f) r.tail
      have q : lookF ((p :: fs).map (·.1)) (d :: ds) f = lookF (fs.map (·.1)) ds f := by
        show (if p.1 = f then some d else _) = _
        rw [if_neg e]
      have q2 : (p :: fs).lookup f = fs.lookup f := by
        obtain ⟨n, v⟩ := p
        rw [List.lookup_cons, show (f == n) = false from by simp; exact fun z => e z.symm]
      rw [q, q2]
      exact ih
/-- a field stored, its place kept or at the end -/
def putN (f : Str) : List Str → List Str
  | [] => [f]
  | g :: r => if g = f then g :: r else g :: putN f r
def putD (f : Str) (d : D) : List Str → List D → List D
  | g :: ns, x :: ds => if g = f then d :: ds else x :: putD f d ns ds
  | _, ds => ds ++ [d]
theorem putF_ok {f : Str} {v : V} {d : D} (h : Rep K mg S v d) : ∀ {fs : List (Str × V)} {ds : List D}, RepL K mg S (fs.map (·.2)) ds → (putF f v fs).map (·.1) = putN f (fs.map (·.1)) ∧ RepL K mg S ((putF f v fs).map (·.2)) (putD f d (fs.map (·.1)) ds)
  | [], ds, r => by
    have : ds = [] := r.nil_iff.mp rfl
    subst this
    exact ⟨rfl, .cons h .nil⟩
  | p :: fs, [], r => by have := r.len; simp at this
  | (g, x) :: fs, y :: ds, r => by
    rw [List.map_cons] at r
    obtain ⟨i1, i2⟩ := putF_ok h r.tail
    by_cases e : g = f
    · refine ⟨?_, ?_⟩
      · show ((if g = f then (g, v) :: fs else (g, x) :: putF f v fs).map (·.1)) = (if g = f then g :: fs.map (·.1) else g :: putN f (fs.map (·.1)))
        rw [if_pos e, if_pos e]
        rfl
      · show RepL K mg S ((if g = f then (g, v) :: fs else (g, x) :: putF f v fs).map (·.2)) (if g = f then d :: ds else y :: putD f d (fs.map (·.1)) ds)
        rw [if_pos e, if_pos e]
        exact .cons h r.tail
    · refine ⟨?_, ?_⟩
      · show ((if g = f then (g, v) :: fs else (g, x) :: putF f v fs).map (·.1)) = (if g = f then g :: fs.map (·.1) else g :: putN f (fs.map (·.1)))
        rw [if_neg e, if_neg e, List.map_cons, i1]
      · show RepL K mg S ((if g = f then (g, v) :: fs else (g, x) :: putF f v fs).map (·.2)) (if g = f then d :: ds else y :: putD f d (fs.map (·.1)) ds)
        rw [if_neg e, if_neg e, List.map_cons]
        exact .cons r.head i2
end
section
variable {X : Cx} {E : WX} {L : Lp} {m : Mds} {a e : Expr} {fa f : Env → Res D} {pos p1 p2 : Pos} {c x : Str} {fn : Str}
theorem je_fld (c : Str) (F : FldAt X.K X.mg c fn) (ha : JE X E m .sh a fa) (hb : attributeBase a fn X.env (eval a X.env) = eval a X.env := by rfl) : JE X E m .sh (.Attribute a fn pos) (f1 (dFld c fn) fa) := by
  refine ⟨PEimp (pe_fld ha.pe hb) fun σ H Q h => ?_⟩
  obtain ⟨S, ρ, hm, hp⟩ := h
  refine ⟨S, ρ, hm, (Post.bind hp).post fun d v S1 H1 s1 r k => ?_⟩
  cases d with
  | obj c' ns ds =>
    have k2 : Post X.K X.mg (WE E σ) S1 H1 .sh (if c' = c then (match lookF ns ds fn with
      | some d => .ok d
      | none => .er) else .er) Q := k
    by_cases ec : c' = c
    · rw [if_pos ec] at k2
      subst ec
      obtain ⟨q, C, dx, fs, rfl, hq, hC, rfl, rv⟩ := r.of_obj
      obtain ⟨cl, na⟩ := F C hC
      rcases lookF_ok (f := fn) rv with ⟨e1, _⟩ | ⟨d, w, e1, e2, rw'⟩
      · rw [e1] at k2; exact k2.elim
      · rw [e1] at k2
        exact ⟨q, C, dx, fs, w, rfl, s1.sub _ _ hq, cl, na, e2, Post.val k2 s1.sub rw'⟩
    · rw [if_neg ec] at k2
      exact k2.elim
  | _ => exact k.elim
/-- .. of the object under way in slot i -/
theorem je_fldO (c : Str) (i : Nat) (F : FldAt X.K X.mg c fn) {q : Addr} (hmd : mdAt m i = .ob q := by rfl) (hN : X.N[i]? = some x := by rfl) (hv : Vis X.env.scope x := by first | exact Or.inl rfl | exact Or.inr (Or.inl rfl) | exact Or.inr (Or.inr rfl))
    (hd : (x == ("__debug__" : Str)) = false := by decide) (hcd : (x == ("__classdict__" : Str)) = false := by decide) (hb : attributeBase (.Name x p1) fn X.env (eval (.Name x p1) X.env) = eval (.Name x p1) X.env := by rfl) : JE X E m .sh (.Attribute (.Name x p1) fn pos) (f1 (dFld c fn) (fV i)) := by
  refine ⟨PEimp (pe_fld (pe_var hN hv hd hcd) hb) fun σ H Q h => ?_⟩
  obtain ⟨S, ρ, ⟨hs, Fp, en⟩, hp⟩ := h
  unfold f1 fV at hp
  split at hp
  · rename_i d ed
    obtain ⟨v, e1, o⟩ := en.at_ i d ed
    rw [hmd] at o
    obtain ⟨dx, C, c', fs, ds, rfl, rfl, _, _, _, hC, hq, _, rv⟩ := o
    have k2 : Post X.K X.mg (WE E σ) S H .sh (if c' = c then (match lookF (fs.map (·.1)) ds fn with
      | some d => .ok d
      | none => .er) else .er) Q := hp
    by_cases ec : c' = c
    · rw [if_pos ec] at k2
      subst ec
      obtain ⟨cl, na⟩ := F C hC
      rcases lookF_ok (f := fn) rv with ⟨e2, _⟩ | ⟨d, w, e2, e3, rw'⟩
      · rw [e2] at k2; exact k2.elim
      · rw [e2] at k2
        exact ⟨_, e1, q, C, dx, fs, w, rfl, hq, cl, na, e3, Post.val k2 hs rw'⟩
    · rw [if_neg ec] at k2
      exact k2.elim
  · exact hp.elim
/-- self.f = e -/
def fFld (c fn : Str) (i : Nat) (f : Env → Res D) : FS := fun ρ => match ρ[i]? with
  | some (some (.obj c' ns ds)) => if c' = c ∧ ns.length < 100 then lift (f ρ) ρ fun d => .ok (.nx (ρ.set i (some (.obj c' (putN fn ns) (putD fn d ns ds))))) else .er
  | _ => .er
/-- the object of slot i is written -/
theorem StF.writeO {K : PySem.W.Frag} {mg : Str → Option Value} {S0 H0 S H : Hp} {Fp : Nat → List Addr} {σ : L2.St} {ρ : Env} {i : Nat} {d0 : D} {p dx C : Addr} {c : Str} {gs : List (Str × V)} {ys : List D} (st : StF K mg m S0 H0 S Fp σ ρ H) (hmd : mdAt m i = .ob p) (hρ : ρ[i]? = some (some d0))
    (hp : Fp i = [p, dx]) (hσ : σ[i]? = some (some (.ref p))) (sp : S p = none) (sd : S dx = none) (hC : mg c = some (.ref C)) (hdx : H dx = some (.own p)) (r : RepL K mg S (gs.map (·.2)) ys) : StF K mg m S0 H0 S Fp σ (ρ.set i (some (.obj c (gs.map (·.1)) ys))) (upd H p (.ins C dx gs)) := by
  obtain ⟨s, e, nw⟩ := st
  have hil : i < ρ.length := (List.getElem?_eq_some_iff.mp hρ).1
  have h0 : H0 p = none := nw i _ hρ p (by rw [hp]; exact List.mem_cons_self)
  have hne : dx ≠ p := fun z => by
    have := e.nd i _ hρ
    rw [hp, z] at this
    simp at this
  have key : ∀ j d', (ρ.set i (some (.obj c (gs.map (·.1)) ys)))[j]? = some (some d') → (j = i ∧ d' = .obj c (gs.map (·.1)) ys) ∨ (j ≠ i ∧ ρ[j]? = some (some d')) := fun j d' ej => by
    by_cases hj : j = i
    · subst hj
      rw [List.getElem?_set_self hil] at ej
      injection ej with z; injection z with z
      exact .inl ⟨rfl, z.symm⟩
    · rw [List.getElem?_set_ne (Ne.symm hj)] at ej
      exact .inr ⟨hj, ej⟩
  have same : ∀ {B : Hp}, Same B H → B p = none → Same B (upd H p (.ins C dx gs)) := fun hB hb a o ea => by
    rw [upd_ne (ne_of_none ea hb)]
    exact hB a o ea
  refine ⟨⟨same s.hh h0, s.ss, same s.sub sp, s.new⟩, ⟨by rw [List.length_set]; exact e.len, fun j d' ej => ?_, fun j d' ej => ?_, fun j k d1 d2 hjk e1 e2 => ?_⟩, fun j d' ej => ?_⟩
  · rcases key j d' ej with ⟨rfl, rfl⟩ | ⟨hj, ej'⟩
    · refine ⟨_, hσ, ?_⟩
      rw [hmd]
      exact ⟨dx, C, c, gs, ys, rfl, rfl, hp, sp, sd, hC, upd_same, by rw [upd_ne hne]; exact hdx, r⟩
    · obtain ⟨w, e1, o1⟩ := e.at_ j d' ej'
      exact ⟨w, e1, o1.other sp fun z => e.apart i j _ d' (Ne.symm hj) hρ ej' p (by rw [hp]; exact List.mem_cons_self) z⟩
  · rcases key j d' ej with ⟨rfl, rfl⟩ | ⟨hj, ej'⟩
    · exact e.nd _ _ hρ
    · exact e.nd j d' ej'
  · have live : ∀ j d', (ρ.set i (some (.obj c (gs.map (·.1)) ys)))[j]? = some (some d') → ∃ d'', ρ[j]? = some (some d'') := fun j d' ej => by
      rcases key j d' ej with ⟨rfl, _⟩ | ⟨_, ej'⟩
      · exact ⟨_, hρ⟩
      · exact ⟨_, ej'⟩
    obtain ⟨d1', h1⟩ := live j d1 e1
    obtain ⟨d2', h2⟩ := live k d2 e2
    exact e.apart j k d1' d2' hjk h1 h2
  · rcases key j d' ej with ⟨rfl, rfl⟩ | ⟨hj, ej'⟩
    · exact nw _ _ hρ
    · exact nw j d' ej'
theorem js_fld (c : Str) (i : Nat) (F : FldAt X.K X.mg c fn) (he : JE X E m .sh e f) {q : Addr} (hmd : mdAt m i = .ob q := by rfl) (hN : X.N[i]? = some x := by rfl) (hv : Vis X.env.scope x := by first | exact Or.inl rfl | exact Or.inr (Or.inl rfl) | exact Or.inr (Or.inr rfl))
    (hd : (x == ("__debug__" : Str)) = false := by decide) (hcd : (x == ("__classdict__" : Str)) = false := by decide) (hs : swapsWith e (some (.Attribute (.Name x p1) fn p2)) pos.line X.env = pure false := by rfl) :
    JS X E L m m (.Assign [.Attribute (.Name x p1) fn p2] e pos) (fFld c fn i f) := by
  refine ⟨PSimp (ps_fld (pe_var hN hv hd hcd) he.pe hs) fun D σ H h => ?_⟩
  obtain ⟨S0, H0, ρ, ⟨S, Fp, st⟩, p⟩ := h
  unfold fFld at p
  split at p
  · rename_i c' ns ds exs
    by_cases hc : c' = c ∧ ns.length < 100
    · rw [if_pos hc] at p
      obtain ⟨rfl, hl⟩ := hc
      refine ⟨S, ρ, st.envM, (lift_post st p).post fun d v S1 H1 s1 r k => ?_⟩
      have st1 := st.step s1
      obtain ⟨w, e1, o⟩ := st1.2.1.at_ i _ exs
      rw [hmd] at o
      obtain ⟨dx, C, c2, gs, ys, rfl, ed, e3, e4, e5, e6, e7, e8, e9⟩ := o
      cases ed
      obtain ⟨cl, na⟩ := F C e6
      obtain ⟨k1, k2⟩ := putF_ok (f := fn) r e9
      refine ⟨_, e1, q, C, dx, gs, rfl, e7, cl, na, by rw [List.length_map] at hl; omega, ?_⟩
      have w := st1.writeO (gs := putF fn v gs) (ys := putD fn d (gs.map (·.1)) ds) hmd exs e3 e1 e4 e5 e6 e8 k2
      rw [k1] at w
      exact k σ _ w.stM
    · rw [if_neg hc] at p
      exact p.elim
  · exact p.elim
end
end Da
namespace Da
open PySem PySem.Spec L2
/-! ### __init__, and the making of an object -/
/-- what an __init__ promises: the new object at p, told by f of the arguments -/
def spI (K : PySem.W.Frag) (mg : Str → Option Value) (np : Nat) (c : Str) (f : List D → Res D) : Sp := fun vs H Q E => ∃ (S : Hp) (p dx C : Addr) (us : List V) (ds : List D), vs = .ref p :: us ∧ Same S H ∧ S p = none ∧ S dx = none ∧ dx ≠ p ∧ mg c = some (.ref C) ∧ H p = some (.ins C dx []) ∧ H dx = some (.own p) ∧ RepL K mg S us ds ∧ ds.length = np ∧
  (match f ds with
  | .ok d => ∀ S' H' fp, Step S (fun a => if a = p ∨ a = dx then none else H a) S' H' → OwnAt K mg S' H' fp (.ref p) d (.ob p) → fp.Nodup → (∀ a, a ∈ fp → a = p ∨ a = dx ∨ H a = none) → Q .non H'
  | .ex c fs => ∀ S' H' cls dd, Step S (fun a => if a = p ∨ a = dx then none else H a) S' H' → ExcAt K mg S' H' cls dd c fs → E cls dd H'
  | .er => False)
/-- the run of an __init__ -/
def runI (n : Nat) (c : Str) (F : FS) (ds : List D) : Res D := match F (some (.obj c [] []) :: (ds.map some ++ List.replicate (n - 1 - ds.length) none)) with
  | .ok (.nx ρ) => (match ρ[0]? with
    | some (some d) => .ok d
    | _ => .er)
  | .ok (.xc c fs _) => .ex c fs
  | _ => .er
section
variable {P : Program} {w : World} {K : PySem.W.Frag} {mg : Str → Option Value} {base : Heap}
theorem fn_okI {x qual c : Str} {st : Stmt} {f : Addr} {fd : FuncData} {N ps : List Str} {k np : Nat} {F : FS} (Fn : Fun K x qual st f fd) (Sc : FnScope N ps (defScope st)) (hnp : ps.length ≤ N.length) (hps : ps.length = np + 1)
    (h : ∀ (p : Addr) (cdv : Value) (A : Around) (outer : List PySem.Env) (s : Shared) (H : Hp) (E : XK), Room k (A.deeper (PyProof.Rows.envOfC qual (defScope st) s.heap.objs.size f cdv)) →
      JSs (cxOf (L2.CX P w) P w K mg base N qual (defScope st) f cdv A outer s H E) (fun cls d _ H => E cls d H) ⟨[], [], .dt⟩ (.ob p :: msh (N.length - 1)) (.ob p :: msh (N.length - 1)) (defBody st) F) :
    FnOk P w K mg base (L2.CX P w) (k + 1) f fd ps (spI K mg np c (runI N.length c F)) := by
  refine Fn.okX Sc (fun vs H Q E hsp => ?_) (fun cdv A outer s H vs Q E hr hsp => ?_)
  · obtain ⟨S, p, dx, C, us, ds, rfl, _, _, _, _, _, _, _, rv, hl, _⟩ := hsp
    rw [List.length_cons, rv.len, hl, hps]
  · obtain ⟨S, p, dx, C, us, ds, rfl, hs, sp, sd, hne, hC, hp, hd, rv, hl, hq⟩ := hsp
    have hN : N.length = np + 1 + (N.length - 1 - np) := by omega
    let H0 : Hp := fun a => if a = p ∨ a = dx then none else H a
    have h0 : ∀ a, (a = p ∨ a = dx) → H0 a = none := fun a z => if_pos z
    have h0H : Same H0 H := fun a o e => by
      have e : (if a = p ∨ a = dx then none else H a) = some o := e
      split at e
      · cases e
      · exact e
    have ml : ∀ j, j ≠ 0 → mdAt (.ob p :: msh (N.length - 1)) j = .sh := fun j hj => by
      obtain ⟨i, rfl⟩ : ∃ i, j = i + 1 := ⟨j - 1, by omega⟩
      show mdAt (msh _) i = .sh
      exact mdAt_msh
    let Fp : Nat → List Addr := fun i => if i = 0 then [p, dx] else []
    refine ⟨_, (h p cdv A outer s H E hr).ps, S, H0, some (.obj c [] []) :: (ds.map some ++ List.replicate (N.length - 1 - ds.length) none), ⟨S, Fp, ⟨h0H, Same.refl _, hs, fun _ z => .inl z⟩, ⟨?_, fun i d e => ?_, fun i d e => ?_, fun i j d e hij e1 e2 a ha => ?_⟩, fun i d e a ha => ?_⟩, ?_⟩
    · unfold L2.start
      rw [List.length_append, List.length_cons, List.length_append, List.length_map, List.length_map, List.length_replicate, List.length_replicate, List.length_cons, rv.len]
      omega
    · cases i with
      | zero =>
        rw [List.getElem?_cons_zero] at e
        have e : D.obj c [] [] = d := by injection e with e; injection e
        subst e
        refine ⟨.ref p, ?_, ?_⟩
        · unfold L2.start
          rfl
        · exact ⟨dx, C, c, [], [], rfl, rfl, rfl, sp, sd, hC, hp, hd, .nil⟩
      | succ i =>
        rw [List.getElem?_cons_succ] at e
        by_cases hi : i < ds.length
        · rw [List.getElem?_append_left (by rw [List.length_map]; exact hi), List.getElem?_map, List.getElem?_eq_getElem hi] at e
          have e' : ds[i] = d := by injection e with e; injection e
          obtain ⟨v, ev, r⟩ := rv.get (List.getElem?_eq_getElem hi)
          refine ⟨v, ?_, ?_⟩
          · unfold L2.start
            rw [List.map_cons, List.cons_append, List.getElem?_cons_succ, List.getElem?_append_left (by rw [List.length_map, rv.len]; exact hi), List.getElem?_map, ev]
            rfl
          · rw [ml _ (by omega), ← e']
            exact ⟨r, rfl⟩
        · rw [List.getElem?_append_right (by rw [List.length_map]; omega), List.getElem?_replicate] at e
          split at e <;> cases e
    · cases i with
      | zero =>
        show [p, dx].Nodup
        simp
        exact fun z => hne z.symm
      | succ i => exact List.nodup_nil
    · cases i with
      | zero =>
        cases j with
        | zero => exact absurd rfl hij
        | succ j => exact fun z => nomatch z
      | succ i => cases ha
    · cases i with
      | zero =>
        have : a = p ∨ a = dx := by simpa [Fp] using ha
        exact h0 a this
      | succ i => cases ha
    · unfold runI at hq
      cases ef : F (some (.obj c [] []) :: (ds.map some ++ List.replicate (N.length - 1 - ds.length) none)) with
      | ok o =>
        rw [ef] at hq
        cases o with
        | nx ρ =>
          intro σ' H' ⟨S', F', st'⟩
          simp only at hq
          cases e0 : ρ[0]? with
          | none => rw [e0] at hq; exact hq.elim
          | some d0 =>
            cases d0 with
            | none => rw [e0] at hq; exact hq.elim
            | some d =>
              rw [e0] at hq
              obtain ⟨v, _, o⟩ := st'.2.1.at_ 0 d e0
              have o : OwnAt K mg S' H' (F' 0) v d (.ob p) := o
              have ev : v = .ref p := by
                obtain ⟨_, _, _, _, _, e, _⟩ := o
                exact e
              subst ev
              refine hq S' H' (F' 0) st'.1 o (st'.2.1.nd 0 d e0) fun a ha => ?_
              have := st'.2.2 0 d e0 a ha
              by_cases z : a = p ∨ a = dx
              · rcases z with z | z
                · exact .inl z
                · exact .inr (.inl z)
              · have this : (if a = p ∨ a = dx then none else H a) = none := this
                rw [if_neg z] at this
                exact .inr (.inr this)
        | rt d => exact hq.elim
        | bk ρ => exact hq.elim
        | ct ρ => exact hq.elim
        | xc c fs ρ => exact fun σ' S' F' H' cls dd st' x' => hq S' H' cls dd st'.1 x'
      | ex c fs => rw [ef] at hq; exact hq.elim
      | er => rw [ef] at hq; exact hq.elim
end
section
variable {X : Cx} {E : WX} {m : Mds} {e o : Expr} {es : List Expr} {fs : Env → Res (List D)} {p pos apos : Pos} {c mn : Str} {k np : Nat} {f C : Addr} {fd : FuncData} {ps : List Str} {g : List D → Res D} {fa : Env → Res D}
/-- the class of this name makes its objects by g -/
def KeepsI (P : Program) (w : World) (K : PySem.W.Frag) (mg : Str → Option Value) (base : Heap) (c : Str) (k : Nat) (ps : List Str) (np : Nat) (g : List D → Res D) : Prop :=
  ∃ C f fd, mg c = some (.ref C) ∧ Mk K C f ∧ Binds K fd ps [] ∧ FnOk P w K mg base (L2.CX P w) k f fd ps (spI K mg np c g)
theorem make_run {E : XK} {sp : Sp} {pins : List (Addr × Obj)} {σ : L2.St} {H : Hp} {s : Shared} {Q : VK} {us : List Value} {vs : List V} (M : Mk X.K C f) (F : FnOk X.prog X.w X.K X.mg X.base (L2.CX X.prog X.w) k f fd ps sp) (hr : Room (k + 1) X.A) (hb : Binds X.K fd ps []) (hx : PassesAt (L2.CX X.prog X.w) X σ E) (I : Inv X pins σ H s) (rv : Vals vs us)
    (h : ∀ x dx, H x = none → H dx = none → dx ≠ x → sp (.ref x :: vs) (upd (upd H dx (.own x)) x (.ins C dx [])) (fun v H2 => v = .non ∧ Q (.ref x) H2) E) : wpAny (model X.prog X.w) X.A (call (.ref C) us) (EP X pins σ Q) X.xe s := by
  have n1 := I.hok.fresh (Nat.le_succ s.heap.objs.size)
  have n2 := I.hok.fresh (Nat.le_refl s.heap.objs.size)
  have hq := h (s.heap.objs.size + 1) s.heap.objs.size n1 n2 (Nat.ne_of_lt (Nat.lt_succ_self _))
  have J := Inv.made (C := C) I
  have rr : Vals (V.ref (s.heap.objs.size + 1) :: vs) (Value.ref (s.heap.objs.size + 1) :: us) := .cons rfl rv
  have hl : (Value.ref (s.heap.objs.size + 1) :: us).length = ps.length := rr.length.symm.trans (F.len _ _ _ _ hq)
  have bnd := hb _ (Value.ref (s.heap.objs.size + 1) :: us) J.kIn (by rw [List.append_nil]; exact hl)
  rw [List.append_nil] at bnd
  refine wpAny_call (make_map (f := f) I.kIn M.makes M.init (beq_iff_eq.mp M.fn) (codeAny_mono (F.run _ X.stack _ _ ⟨Value.ref (s.heap.objs.size + 1) :: us, []⟩ _ _ _ E (hr.make C us []) (J.env0.make C us []) bnd rr hq) fun fin s' hf => ?_))
  cases fin with
  | error u => exact hx pins _ _ u s' J hf
  | ok fl =>
    cases fl with
    | ret u =>
      obtain ⟨v, H', I3, ru, ev, q3⟩ := J.after hf
      subst ev
      exact ⟨ru, V.ref (s.heap.objs.size + 1), H', I3, rfl, q3⟩
    | _ => exact hf.elim
theorem je_make (G : KeepsI X.prog X.w X.K X.mg X.base c k ps np g) (hr : Room (k + 1) X.A) (tk : Takes X E) (ha : JA X E m (e :: es) fs) (hg : Gl X c := by rfl) (hdb : (c == ("__debug__" : Str)) = false := by decide)
    (he : starEach (e :: es) X.env = (false, eval e X.env) :: starEach es X.env := by rfl) (hpl : (backTo pos (starEach es X.env)).any (·.1) = false := by rfl) : JE X E m .sh (.Call (.Name c p) (e :: es) [] pos) (fOn (chk np g) fs) := by
  obtain ⟨C, f, fd, hC, M, hb, F⟩ := G
  refine ⟨⟨fun pins s σ H Q I h => ?_⟩⟩
  obtain ⟨S, ρ, hm, hp⟩ := h
  refine wpAny_Call_Name_kw (ld_glob I hg hC ?_ hdb)
  refine PySem.W.callWith_K (h₀ := X.base) I.ok.mod.kin M.kp (thn (ha.pa.run pos pins s σ H _ I ⟨S, ρ, hm, (Post.bind hp).imp fun ds S1 H1 s1 k1 => ?_⟩) fun us s1 ⟨vs, H1, I1, r, q⟩ => ⟨I1.kIn, make_run (E := WE E σ) (sp := spI X.K X.mg np c g) M F hr hb (passAt tk σ) I1 r q⟩) he hpl
  intro vs rs x dx hx hdx hne
  obtain ⟨hl, k1⟩ := k1.chkd
  have sx : S1 x = none := s1.sub.free hx
  have sd : S1 dx = none := s1.sub.free hdx
  have same : ∀ {B : Hp}, Same B H1 → Same B (upd (upd H1 dx (.own x)) x (.ins C dx [])) := fun hB a o ea => by
    have ea' := hB a o ea
    rw [upd_ne (ne_of_none ea' hx), upd_ne (ne_of_none ea' hdx)]
    exact ea'
  refine ⟨S1, x, dx, C, vs, ds, rfl, same s1.sub, sx, sd, hne, hC, upd_same, by rw [upd_ne hne, upd_same], rs, hl, ?_⟩
  have back : ∀ {S' H' : Hp}, Step S1 (fun a => if a = x ∨ a = dx then none else upd (upd H1 dx (.own x)) x (.ins C dx []) a) S' H' → Step S1 H1 S' H' := fun {S' H'} st => by
    refine ⟨fun a o ea => st.hh a o ?_, st.ss, st.sub, fun a ha => ?_⟩
    · show (if a = x ∨ a = dx then none else upd (upd H1 dx (.own x)) x (.ins C dx []) a) = some o
      have na : ¬ (a = x ∨ a = dx) := fun z => by
        rcases z with z | z
        · rw [z, hx] at ea; cases ea
        · rw [z, hdx] at ea; cases ea
      rw [if_neg na]
      exact same (Same.refl H1) a o ea
    · rcases st.new a ha with z | z
      · exact .inl z
      · have z : (if a = x ∨ a = dx then none else upd (upd H1 dx (.own x)) x (.ins C dx []) a) = none := z
        by_cases na : a = x ∨ a = dx
        · rcases na with rfl | rfl
          · exact .inr hx
          · exact .inr hdx
        · rw [if_neg na] at z
          refine .inr ?_
          rw [upd_ne (fun y => na (.inl y)), upd_ne (fun y => na (.inr y))] at z
          exact z
  cases eg : g ds with
  | ok d =>
    rw [eg] at k1
    intro S' H' fp st o hn hf
    refine ⟨rfl, ?_⟩
    -- the object is shared from here on
    have st' := back st
    let A : Addr → Prop := fun a => a ∈ fp
    have ho : ∀ a, A a → S' a = none := fun a ha => (o.out ha).1
    refine k1 (.ref x) (take S' H' A) H' [] ⟨st'.hh, st'.ss.trans (take_same st'.sub ho), take_sub st'.sub, fun a y => ?_⟩ ⟨o.shared st'.sub ho fun a ha => ha, rfl⟩ List.nodup_nil (fun a z => nomatch z)
    by_cases z : A a
    · rcases hf a z with q | q | q
      · rw [q]; exact .inr hx
      · rw [q]; exact .inr hdx
      · refine .inr ?_
        cases e1 : H1 a with
        | none => rfl
        | some u => rw [same (Same.refl H1) a u e1] at q; cases q
    · rw [take_out z] at y
      exact st'.new a y
  | ex c' fs' =>
    rw [eg] at k1
    exact fun S' H' cls dd st x' => k1 S' H' cls dd (back st) x'
  | er => rw [eg] at k1; exact k1.elim
/-- the method mn of the class c does what g does -/
def KeepsM (P : Program) (w : World) (K : PySem.W.Frag) (mg : Str → Option Value) (base : Heap) (c mn : Str) (k : Nat) (ps : List Str) (np : Nat) (md : Md) (g : List D → Res D) : Prop :=
  ∃ C f fd, mg c = some (.ref C) ∧ Cls K C ∧ Meth K C mn f ∧ Binds K fd ps [] ∧ FnOk P w K mg base (L2.CX P w) k f fd ps (spD K mg np md g)
/-- o.m(..): the object's class, no field of that name -/
def fMeth (c mn : Str) (np : Nat) (g : List D → Res D) (fa : Env → Res D) (fs : Env → Res (List D)) : Env → Res D := fun ρ => (fa ρ).bind fun x => match x with
  | .obj c' ns ds => if c' = c ∧ lookF ns ds mn = none then (fs ρ).bind fun ys => chk np g (x :: ys) else .er
  | _ => .er
theorem tMeth_ok {md : Md} (G : ∀ C, X.mg c = some (.ref C) → Cls X.K C) {σ : L2.St} {H : Hp} {Q : VK} (h : tE X.K X.mg E m md (fMeth c mn np g fa fs) σ H Q) :
    tE X.K X.mg E m .sh fa σ H fun x H1 => ∃ a dx gs C, x = .ref a ∧ X.mg c = some (.ref C) ∧ H1 a = some (.ins C dx gs) ∧ gs.lookup mn = none ∧ tA X.K X.mg E m fs σ H1 fun vs H2 => spD X.K X.mg np md g (x :: vs) H2 Q (WE E σ) := by
  obtain ⟨S, ρ, hm, hp⟩ := h
  refine ⟨S, ρ, hm, (Post.bind hp).post fun d v S1 H1 s1 r k => ?_⟩
  cases d with
  | obj c' ns ds =>
    have k2 : Post X.K X.mg (WE E σ) S1 H1 md (if c' = c ∧ lookF ns ds mn = none then (fs ρ).bind fun ys => chk np g (.obj c' ns ds :: ys) else .er) Q := k
    by_cases hc : c' = c ∧ lookF ns ds mn = none
    · rw [if_pos hc] at k2
      obtain ⟨ec, hl⟩ := hc
      obtain ⟨q, C, dx, gs, ev, hq, hC, en, rv⟩ := r.of_obj
      rw [ec] at hC
      refine ⟨q, dx, gs, C, ev, hC, s1.sub _ _ hq, ?_, S1, ρ, hm.step s1, (Post.bind k2).imp fun ys S2 H2 s2 k3 vs rs => ⟨S2, _, s2.sub, .cons (r.mono s2.ss) rs, k3⟩⟩
      rw [en] at hl
      rcases lookF_ok (f := mn) rv with ⟨_, e2⟩ | ⟨d, w, e1, _, _⟩
      · exact e2
      · rw [e1] at hl; cases hl
    · rw [if_neg hc] at k2
      exact k2.elim
  | _ => exact k.elim
theorem je_meth {md : Md} {pl : Sem Bool} (G : KeepsM X.prog X.w X.K X.mg X.base c mn k ps np md g) (hr : Room k X.A) (tk : Takes X E) (ho : JE X E m .sh o fa) (ha : JA X E m (e :: es) fs)
    (hst : starEach (e :: es) X.env = (false, eval e X.env) :: starEach es X.env := by rfl) (hpl : (backTo pos (starEach es X.env)).any (·.1) = false := by rfl)
    (ht : eval (.Call (.Attribute o mn apos) (e :: es) [] pos) X.env = (do
      let ov ← eval o X.env
      standAt apos.atName
      let (f, first) ← holding [ov] (getMethod ov mn pl)
      callWith pos f first (backTo pos (starEach (e :: es) X.env)) (backToKw pos (keywordEach [] X.env))) := by rfl) : JE X E m md (.Call (.Attribute o mn apos) (e :: es) [] pos) (fMeth c mn np g fa fs) := by
  obtain ⟨C, f, fd, hC, cl, me, hb, F⟩ := G
  refine ⟨⟨fun pins s σ H Q I h => ?_⟩⟩
  have h := tMeth_ok (fun C' hC' => by rw [hC] at hC'; injection hC' with z; injection z with z; rw [← z]; exact cl) h
  refine PySem.W.methodCall_KW (pl := pl) (thn (ho.pe.run pins s σ H _ I h) fun u s1 ⟨x, H1, I1, rx, a, dx, gs, C', ex, hC', ea, l, q⟩ => ?_) ht
  rw [hC] at hC'
  injection hC' with z
  injection z with z
  subst z ex
  obtain rfl : u = Value.ref a := rx
  refine getmeth_ok I1 ea cl me l (PySem.W.callWith_K (first := [.ref a]) (h₀ := X.base) I1.ok.mod.kin me.kp (thn (ha.pa.run pos pins s1 σ H1 _ I1 q) fun us s2 ⟨vs, H2, I2, r, q2⟩ => ⟨I2.kIn, ?_⟩) hst hpl)
  exact run_fnS (us := .ref a :: us) (vs := .ref a :: vs) F hr hb (passAt tk σ) I2 (.cons rfl r) q2
theorem je_meth0 {md : Md} {pl : Sem Bool} (G : KeepsM X.prog X.w X.K X.mg X.base c mn k ps np md g) (hr : Room k X.A) (tk : Takes X E) (ho : JE X E m .sh o fa)
    (ht : eval (.Call (.Attribute o mn apos) [] [] pos) X.env = (do
      let ov ← eval o X.env
      standAt apos.atName
      let (f, first) ← holding [ov] (getMethod ov mn pl)
      callWith pos f first (backTo pos (starEach [] X.env)) (backToKw pos (keywordEach [] X.env))) := by rfl) : JE X E m md (.Call (.Attribute o mn apos) [] [] pos) (fMeth c mn np g fa fA0) := by
  obtain ⟨C, f, fd, hC, cl, me, hb, F⟩ := G
  refine ⟨⟨fun pins s σ H Q I h => ?_⟩⟩
  have h := tMeth_ok (fun C' hC' => by rw [hC] at hC'; injection hC' with z; injection z with z; rw [← z]; exact cl) h
  refine PySem.W.methodCall_KW (pl := pl) (thn (ho.pe.run pins s σ H _ I h) fun u s1 ⟨x, H1, I1, rx, a, dx, gs, C', ex, hC', ea, l, q⟩ => ?_) ht
  rw [hC] at hC'
  injection hC' with z
  injection z with z
  subst z ex
  obtain rfl : u = Value.ref a := rx
  obtain ⟨S, ρ, hm, hp⟩ := q
  exact getmeth_ok I1 ea cl me l (PySem.W.callWith_K0 (first := [.ref a]) I1.kIn me.kp (run_fnS (us := [.ref a]) (vs := [.ref a]) F hr hb (passAt tk σ) I1 (.cons rfl .nil) (hp S H1 (Step.refl hm.1) [] .nil)))
end
end Da
namespace Da
open PySem PySem.Spec L2
/-! ### classes as they stand behind the top -/
/-- the j-th statement of a class -/
def inCls (s : Stmt) (j : Nat) : Stmt := match s with
  | .ClassDef _ _ _ body _ _ _ _ _ _ _ => body.getD j (.Pass ⟨0, 0, 0, 0⟩)
  | _ => .Pass ⟨0, 0, 0, 0⟩
def InitAt (K : PySem.W.Frag) (mg : Str → Option Value) (c qual : Str) (st : Stmt) (ps : List Str) : Prop := ∃ C f fd, mg c = some (.ref C) ∧ Mk K C f ∧ Fun K "__init__" qual st f fd ∧ Binds K fd ps []
def MethAt (K : PySem.W.Frag) (mg : Str → Option Value) (c mn qual : Str) (st : Stmt) (ps : List Str) : Prop := ∃ C f fd, mg c = some (.ref C) ∧ Cls K C ∧ Meth K C mn f ∧ Fun K mn qual st f fd ∧ Binds K fd ps []
section
variable {P : Program} {w : World} {K : PySem.W.Frag} {mg : Str → Option Value} {base h : Heap} {c mn qual : Str} {st : Stmt} {ps N : List Str} {k np : Nat} {md : Md} {F : FS} {f C : Addr} {oc : Value} {od an : Option Addr} {osl : Array (Option Value)} {kV doc pm cdv ct : Value}
theorem keepsI_of (dA : InitAt K mg c qual st ps) (Sc : FnScope N ps (defScope st)) (hnp : ps.length ≤ N.length) (hps : ps.length = np + 1)
    (h : ∀ (f p : Addr) (cdv : Value) (A : Around) (outer : List PySem.Env) (s : Shared) (H : Hp) (E : XK), Room k (A.deeper (PyProof.Rows.envOfC qual (defScope st) s.heap.objs.size f cdv)) →
      JSs (cxOf (L2.CX P w) P w K mg base N qual (defScope st) f cdv A outer s H E) (fun cls d _ H => E cls d H) ⟨[], [], .dt⟩ (.ob p :: msh (N.length - 1)) (.ob p :: msh (N.length - 1)) (defBody st) F) : KeepsI P w K mg base c (k + 1) ps np (runI N.length c F) := by
  obtain ⟨C, f, fd, hC, M, Fn, bd⟩ := dA
  exact ⟨C, f, fd, hC, M, bd, fn_okI Fn Sc hnp hps (h f)⟩
theorem keepsM_of (dA : MethAt K mg c mn qual st ps) (Sc : FnScope N ps (defScope st)) (hnp : ps.length ≤ N.length)
    (h : ∀ (f : Addr) (cdv : Value) (A : Around) (outer : List PySem.Env) (s : Shared) (H : Hp) (E : XK), Room k (A.deeper (PyProof.Rows.envOfC qual (defScope st) s.heap.objs.size f cdv)) →
      JSs (cxOf (L2.CX P w) P w K mg base N qual (defScope st) f cdv A outer s H E) (fun cls d _ H => E cls d H) ⟨[], [], md⟩ (msh N.length) (msh N.length) (defBody st) F) : KeepsM P w K mg base c mn (k + 1) ps ps.length md (runF N.length md F) := by
  obtain ⟨C, f, fd, hC, cl, me, Fn, bd⟩ := dA
  exact ⟨C, f, fd, hC, cl, me, bd, fn_ok Fn Sc hnp (h f)⟩
theorem cls_mk (pg : PySem.W.plainGet K C Str.empty = true) (hd : PySem.W.hasDictIn K C = true) (po : PySem.W.plainOver K C = true) (sa : PySem.W.findIn K (.ref C) "__setattr__" = some (some (.builtin "object.__setattr__"))) : Cls K C := ⟨pg, hd, po, sa⟩
theorem fldAt_mk {fn : Str} (X : K.In h) (G : h.Ns mainGlobals mg) (a : PySem.W.nsIn K mainGlobals c = some (some (.ref C))) (cl : Cls K C) (n : PySem.W.findIn K (.ref C) fn = some none) : FldAt K mg c fn := fun C' hC' => by
  rw [PySem.W.mg_of X G a] at hC'
  injection hC' with z
  injection z with z
  rw [← z]
  exact ⟨cl, n⟩
theorem initAt_mk (X : K.In h) (G : h.Ns mainGlobals mg) (a : PySem.W.nsIn K mainGlobals c = some (some (.ref C))) (m1 : PySem.W.makesIn K C = true) (m2 : PySem.W.findIn K (.ref C) "__init__" = some (some (.ref f))) (m3 : PySem.W.isFn K (.ref f) = true) (m4 : PySem.W.keepIn K (.ref C) = true)
    (l : K.lookup f = some ⟨oc, od, .func (PySem.W.fnOf "__init__" qual (defArgs st) (defBody st) (defScope st) .none kV doc pm an cdv ct), osl⟩) (cd : PySem.W.codeIn K cdv qual = true) (kf : PySem.W.keepIn K (.ref f) = true)
    (hb : ∀ (kV doc pm : Value) (an : Option Addr) (cdv ct : Value) (us : List Value), us.length = ps.length → bindArgs (PySem.W.fnOf "__init__" qual (defArgs st) (defBody st) (defScope st) .none kV doc pm an cdv ct) ⟨us, []⟩ = pure (ps.zip us)) : InitAt K mg c qual st ps := by
  have Fn := fun_mk (st := st) l cd kf
  exact ⟨C, f, _, PySem.W.mg_of X G a, ⟨m1, m2, m3, m4⟩, Fn, Fn.binds hb⟩
theorem methAt_mk (X : K.In h) (G : h.Ns mainGlobals mg) (a : PySem.W.nsIn K mainGlobals c = some (some (.ref C))) (cl : Cls K C) (m2 : PySem.W.findIn K (.ref C) mn = some (some (.ref f))) (m3 : PySem.W.isFn K (.ref f) = true)
    (l : K.lookup f = some ⟨oc, od, .func (PySem.W.fnOf mn qual (defArgs st) (defBody st) (defScope st) .none kV doc pm an cdv ct), osl⟩) (cd : PySem.W.codeIn K cdv qual = true) (kf : PySem.W.keepIn K (.ref f) = true)
    (hb : ∀ (kV doc pm : Value) (an : Option Addr) (cdv ct : Value) (us : List Value), us.length = ps.length → bindArgs (PySem.W.fnOf mn qual (defArgs st) (defBody st) (defScope st) .none kV doc pm an cdv ct) ⟨us, []⟩ = pure (ps.zip us)) : MethAt K mg c mn qual st ps := by
  have Fn := fun_mk (st := st) l cd kf
  exact ⟨C, f, _, PySem.W.mg_of X G a, cl, ⟨m2, m3, kf⟩, Fn, Fn.binds hb⟩
end
/-! properties -/
def PropAt (K : PySem.W.Frag) (mg : Str → Option Value) (c mn qual : Str) (st : Stmt) (ps : List Str) : Prop := ∃ C q f fd, mg c = some (.ref C) ∧ Cls K C ∧ PropOf K C mn q f ∧ Fun K mn qual st f fd ∧ Binds K fd ps []
def KeepsP (P : Program) (w : World) (K : PySem.W.Frag) (mg : Str → Option Value) (base : Heap) (c mn : Str) (k : Nat) (ps : List Str) (g : List D → Res D) : Prop :=
  ∃ C q f fd, mg c = some (.ref C) ∧ Cls K C ∧ PropOf K C mn q f ∧ Binds K fd ps [] ∧ FnOk P w K mg base (L2.CX P w) k f fd ps (spD K mg 1 .sh g)
def dProp (c : Str) (g : List D → Res D) : D → Res D
  | .obj c' ns ds => if c' = c then (match chk 1 g [.obj c' ns ds] with
    | .ok d => .ok d
    | _ => .er) else .er
  | _ => .er
section
variable {P : Program} {w : World} {K : PySem.W.Frag} {mg : Str → Option Value} {base h : Heap} {c mn qual : Str} {st : Stmt} {ps N : List Str} {k np : Nat} {F : FS} {f C q : Addr} {oc : Value} {od an : Option Addr} {osl : Array (Option Value)} {kV doc pm cdv ct : Value}
theorem keepsP_of (dA : PropAt K mg c mn qual st ps) (Sc : FnScope N ps (defScope st)) (hnp : ps.length ≤ N.length) (hps : ps.length = 1)
    (h : ∀ (f : Addr) (cdv : Value) (A : Around) (outer : List PySem.Env) (s : Shared) (H : Hp) (E : XK), Room k (A.deeper (PyProof.Rows.envOfC qual (defScope st) s.heap.objs.size f cdv)) →
      JSs (cxOf (L2.CX P w) P w K mg base N qual (defScope st) f cdv A outer s H E) (fun cls d _ H => E cls d H) ⟨[], [], .sh⟩ (msh N.length) (msh N.length) (defBody st) F) : KeepsP P w K mg base c mn (k + 1) ps (runF N.length .sh F) := by
  obtain ⟨C, q, f, fd, hC, cl, pr, Fn, bd⟩ := dA
  have G := fn_ok Fn Sc hnp (h f)
  rw [hps] at G
  exact ⟨C, q, f, fd, hC, cl, pr, bd, G⟩
theorem propAt_mk (X : K.In h) (G : h.Ns mainGlobals mg) (a : PySem.W.nsIn K mainGlobals c = some (some (.ref C))) (cl : Cls K C) (m1 : PySem.W.findIn K (.ref C) mn = some (some (.ref q))) (m2 : PySem.W.specialIn K (.ref q) "__get__" = some (some (.builtin "property.__get__"))) (m3 : PySem.W.takesIn K (.ref q) = some true) {rest : List Value} (m4 : PySem.W.recIn K q "property" = some (.ref f :: rest))
    (l : K.lookup f = some ⟨oc, od, .func (PySem.W.fnOf mn qual (defArgs st) (defBody st) (defScope st) .none kV doc pm an cdv ct), osl⟩) (cd : PySem.W.codeIn K cdv qual = true) (kf : PySem.W.keepIn K (.ref f) = true)
    (hb : ∀ (kV doc pm : Value) (an : Option Addr) (cdv ct : Value) (us : List Value), us.length = ps.length → bindArgs (PySem.W.fnOf mn qual (defArgs st) (defBody st) (defScope st) .none kV doc pm an cdv ct) ⟨us, []⟩ = pure (ps.zip us)) : PropAt K mg c mn qual st ps := by
  have Fn := fun_mk (st := st) l cd kf
  exact ⟨C, q, f, _, PySem.W.mg_of X G a, cl, ⟨m1, m2, m3, _, m4⟩, Fn, Fn.binds hb⟩
end
section
variable {X : Cx} {E : WX} {m : Mds} {e : Expr} {fa : Env → Res D} {pos : Pos} {c mn : Str} {k : Nat} {ps : List Str} {g : List D → Res D}
theorem passN : Passes (L2.CX X.prog X.w) X.nox (fun _ _ _ => False) := fun _ _ _ _ _ _ _ z => by
  obtain ⟨_, _, _, _, _, _, _, _, _, _, _, _, z⟩ := z
  exact z.elim
theorem je_prop (G : KeepsP X.prog X.w X.K X.mg X.base c mn k ps g) (hr : Room (k + 1) X.A) (ha : JE X E m .sh e fa) (hb : attributeBase e mn X.env (eval e X.env) = eval e X.env := by rfl) : JE X E m .sh (.Attribute e mn pos) (f1 (dProp c g) fa) := by
  obtain ⟨C, q, f, fd, hC, cl, pr, bd, F⟩ := G
  refine ⟨PEimp (pe_prop ha.pe cl pr F hr bd .nil passN hb) fun σ H Q h => ?_⟩
  obtain ⟨S, ρ, hm, hp⟩ := h
  refine ⟨S, ρ, hm, (Post.bind hp).post fun d v S1 H1 s1 r k1 => ?_⟩
  cases d with
  | obj c' ns ds =>
    have k2 : Post X.K X.mg (WE E σ) S1 H1 .sh (if c' = c then (match chk 1 g [.obj c' ns ds] with
      | .ok d => .ok d
      | _ => .er) else .er) Q := k1
    by_cases ec : c' = c
    · rw [if_pos ec] at k2
      obtain ⟨a, C', dx, fs, ev, hq, hC', en, rv⟩ := id r.of_obj
      rw [ec, hC] at hC'
      injection hC' with z
      injection z with z
      refine ⟨a, dx, fs, ev, by rw [z]; exact s1.sub _ _ hq, S1, [.obj c' ns ds], s1.sub, .cons (by rw [← ev]; exact r) .nil, ?_⟩
      cases eg : chk 1 g [.obj c' ns ds] with
      | ok d => rw [eg] at k2; exact k2
      | ex c2 fs2 => rw [eg] at k2; exact k2.elim
      | er => rw [eg] at k2; exact k2.elim
    · rw [if_neg ec] at k2
      exact k2.elim
  | _ => exact k1.elim
end
end Da
namespace Da
open PySem PySem.Spec L2
/-! ### the law's own Euclid -/
def F_law_gcd : FS := (fSeq (fSet 2 (fOn (on1 dAbs) (fA (fOn (on1 dInt) (fA (fV 0) fA0)) fA0)))
    (fSeq (fSet 3 (fOn (on1 dAbs) (fA (fOn (on1 dInt) (fA (fV 1) fA0)) fA0)))
    (fSeq (fFor (fR1 (fA (fC (.int 1000000)) fA0)) (gN 4) (fSeq (fIfS (fB (f2 dEq (fV 3) (fC (.int 0)))) fBrk fNext)
    (fSeq (fSet 5 (f2 dMod (fOn (on1 dInt) (fA (fV 2) fA0)) (fV 3)))
    (fSeq (fSet 2 (fV 3))
    (fSet 3 (fV 5))))))
    (fRet (fV 2)))))
def m_law_gcd : List D → Res D := runF 6 .sh F_law_gcd
def pw2 (n : Nat) : Nat := 2 ^ n
theorem pw2_succ (n : Nat) : pw2 (n + 1) = pw2 n * 2 := by unfold pw2; exact Nat.pow_succ 2 n
theorem pw2_0 : pw2 0 = 1 := rfl
def GLim : Nat := pw2 999999
theorem half_step {x y : Nat} (h : y < x) (h0 : 0 < y) : y * (x % y) * 2 ≤ x * y := by
  have h1 := Nat.mod_lt x h0
  have h2 := Nat.div_add_mod x y
  have h3 : 1 ≤ x / y := Nat.div_pos (Nat.le_of_lt h) h0
  have h4 : y * 1 ≤ y * (x / y) := Nat.mul_le_mul_left y h3
  have h5 : x % y * 2 ≤ x := by omega
  calc y * (x % y) * 2 = y * (x % y * 2) := Nat.mul_assoc _ _ _
    _ ≤ y * x := Nat.mul_le_mul_left y h5
    _ = x * y := Nat.mul_comm _ _
theorem law_gcd_ok {a b : Int} (hz : a.natAbs * b.natAbs < GLim) : m_law_gcd [.int a, .int b] = .ok (.int (Int.gcd a b)) := by
  have key : (fun r => ∃ y z w : Option D, r = Res.ok (Fl.nx [some (.int a), some (.int b), some (.int (Int.gcd a b)), y, z, w]))
      (fFor (fR1 (fA (fC (.int 1000000)) fA0)) (gN 4) (fSeq (fIfS (fB (f2 dEq (fV 3) (fC (.int 0)))) fBrk fNext)
    (fSeq (fSet 5 (f2 dMod (fOn (on1 dInt) (fA (fV 2) fA0)) (fV 3)))
    (fSeq (fSet 2 (fV 3))
    (fSet 3 (fV 5)))))
        [some (.int a), some (.int b), some (.int (a.natAbs : Int)), some (.int (b.natAbs : Int)), none, none]) := by
    rw [fFor_ap (xs := rng 0 1000000) (by simp [gRng1_int (j := 1000000) (by omega) (by omega)])]
    refine for_rng (Q := fun r => ∃ y z w : Option D, r = Res.ok (Fl.nx [some (.int a), some (.int b), some (.int (Int.gcd a b)), y, z, w]))
      (fun n ρ => ∃ (x y : Nat) (z w : Option D), ρ = [some (.int a), some (.int b), some (.int (x : Int)), some (.int (y : Int)), z, w] ∧ Nat.gcd x y = Nat.gcd a.natAbs b.natAbs ∧ (n = 0 ∨ y < x) ∧ x * y * pw2 (n - 1) ≤ a.natAbs * b.natAbs)
      ⟨a.natAbs, b.natAbs, none, none, rfl, rfl, .inl rfl, by simp [pw2_0]⟩ ?_ ?_
    · rintro i ρ hi ⟨x, y, z, w, rfl, hg, hl, hb⟩
      refine ⟨_, rfl, ?_⟩
      by_cases hy : y = 0
      · subst hy
        rw [Nat.gcd_zero_right] at hg
        simp
        rw [hg]
        rfl
      · have hy' : ¬ (y : Int) = 0 := by omega
        simp [hy', hy, dMod_pos (i := (x : Int)) (j := (y : Int)) (by omega)]
        refine ⟨y, x % y, ⟨rfl, by simp⟩, ?_, Nat.mod_lt x (by omega), ?_⟩
        · rw [← hg, Nat.gcd_comm x y, Nat.gcd_rec y x, Nat.gcd_comm]
        · rcases hl with rfl | hl
          · simp [pw2_0] at hb ⊢
            refine Nat.le_trans ?_ hb
            rw [Nat.mul_comm x y]
            exact Nat.mul_le_mul_left y (Nat.mod_le x y)
          · cases i with
            | zero =>
              simp [pw2_0] at hb ⊢
              refine Nat.le_trans ?_ hb
              rw [Nat.mul_comm x y]
              exact Nat.mul_le_mul_left y (Nat.mod_le x y)
            | succ j =>
              have := half_step hl (by omega)
              simp only [Nat.add_sub_cancel] at hb ⊢
              refine Nat.le_trans ?_ hb
              rw [pw2_succ, Nat.mul_comm (pw2 j) 2, ← Nat.mul_assoc]
              exact Nat.mul_le_mul_right _ this
    · rintro ρ ⟨x, y, z, w, rfl, hg, hl, hb⟩
      have hxy : y < x := hl.resolve_left (by decide)
      have hy : y = 0 := by
        rcases Nat.eq_zero_or_pos y with h | h
        · exact h
        · exfalso
          have h1 : 1 ≤ x * y := Nat.mul_pos (by omega) h
          have h2 := Nat.mul_le_mul_right (pw2 (1000000 - 1)) h1
          rw [Nat.one_mul] at h2
          exact absurd (Nat.lt_of_le_of_lt (Nat.le_trans h2 hb) hz) (Nat.lt_irrefl _)
      subst hy
      rw [Nat.gcd_zero_right] at hg
      exact ⟨_, z, w, by rw [hg]; rfl⟩
  obtain ⟨y, z, w, e⟩ := key
  have ea : ((a.natAbs : Nat) : Int) = if a < 0 then -a else a := by split <;> omega
  have eb : ((b.natAbs : Nat) : Int) = if b < 0 then -b else b := by split <;> omega
  rw [ea, eb] at e
  refine runF_rt ?_
  simp [F_law_gcd, e]
end Da
namespace Da
open PySem PySem.Spec L2
/-! ### fractions as pairs -/
def F_law_fraction (rec : List D → Res D) : FS := (fSeq (fIfS (fB (f2 dLt (fV 1) (fC (.int 0)))) (fRet (fOn (chk 2 rec) (fA (f1 dNeg (fV 0)) (fA (f1 dNeg (fV 1)) fA0)))) fNext)
    (fSeq (fSet 2 (fOn (chk 2 m_law_gcd) (fA (fV 0) (fA (fV 1) fA0))))
    (fRet (fOn gTupD (fA (f2 dDiv (fV 0) (fV 2)) (fA (f2 dDiv (fV 1) (fV 2)) fA0))))))
def r_law_fraction : Nat → List D → Res D
  | 0 => fun _ => .er
  | n + 1 => runF 3 .sh (F_law_fraction (r_law_fraction n))
def m_law_fraction : List D → Res D := r_law_fraction 6
def F_law_added : FS := (fRet (fOn (chk 2 m_law_fraction) (fA (f2 dAdd (f2 dMul (f2 dIx (fV 0) (fC (.int 0))) (f2 dIx (fV 1) (fC (.int 1)))) (f2 dMul (f2 dIx (fV 1) (fC (.int 0))) (f2 dIx (fV 0) (fC (.int 1))))) (fA (f2 dMul (f2 dIx (fV 0) (fC (.int 1))) (f2 dIx (fV 1) (fC (.int 1)))) fA0))))
def m_law_added : List D → Res D := runF 2 .sh F_law_added
def F_ratio : FS := (fSeq (fIfS (fB (f2 dEq (fV 1) (fC (.int 0)))) (fun _ => .er) fNext)
    (fSeq (fSet 2 (fOn (on2 dGcd) (fA (fV 0) (fA (fV 1) fA0))))
    (fSeq (fIfS (fB (f2 dLt (fV 1) (fC (.int 0)))) (fSet 2 (f1 dNeg (fV 2))) fNext)
    (fRet (fOn gTupD (fA (f2 dDiv (fV 0) (fV 2)) (fA (f2 dDiv (fV 1) (fV 2)) fA0)))))))
def m_ratio : List D → Res D := runF 3 .sh F_ratio
def F_added : FS := (fRet (fOn (chk 2 m_ratio) (fA (f2 dAdd (f2 dMul (f2 dIx (fV 0) (fC (.int 0))) (f2 dIx (fV 1) (fC (.int 1)))) (f2 dMul (f2 dIx (fV 1) (fC (.int 0))) (f2 dIx (fV 0) (fC (.int 1))))) (fA (f2 dMul (f2 dIx (fV 0) (fC (.int 1))) (f2 dIx (fV 1) (fC (.int 1)))) fA0))))
def m_added : List D → Res D := runF 2 .sh F_added
/-- the fraction t/b in its lowest terms, as a pair -/
def frac (t b : Int) : D := .tup [.int (t / Int.gcd t b), .int (b / Int.gcd t b)]
theorem glim {a b : Int} (ha : a.natAbs < Lim) (hb : b.natAbs < Lim) : a.natAbs * b.natAbs < GLim := by
  have h : a.natAbs * b.natAbs < Lim * Lim := Nat.mul_lt_mul'' ha hb
  refine Nat.lt_of_lt_of_le h ?_
  unfold Lim GLim pw2
  rw [← Nat.pow_add]
  exact Nat.pow_le_pow_right (by decide) (by decide)
theorem gcd_pos' {t b : Int} (hb : 0 < b) : 0 < (Int.gcd t b : Int) := by
  have : 0 < Int.gcd t b := Int.gcd_pos_of_ne_zero_right t (by omega)
  omega
theorem gcd_lim {t b : Int} (hb : 0 < b) (hb' : b.natAbs < Lim) : ((Int.gcd t b : Int)).natAbs < Lim := by
  have h : Int.gcd t b ≤ b.natAbs := Nat.le_of_dvd (by omega) (Nat.gcd_dvd_right _ _)
  rw [Int.natAbs_natCast]
  exact Nat.lt_of_le_of_lt h hb'
theorem law_fraction_ok {t b : Int} (hb : 0 < b) (ht : t.natAbs < Lim) (hb' : b.natAbs < Lim) : m_law_fraction [.int t, .int b] = .ok (frac t b) := by
  have hg := law_gcd_ok (glim ht hb')
  have g0 := gcd_pos' (t := t) hb
  have gl := gcd_lim (t := t) hb hb'
  show runF 3 .sh (F_law_fraction (r_law_fraction 5)) _ = _
  refine runF_rt ?_
  simp [F_law_fraction, show ¬ b < 0 by omega, hg, dDiv_pos g0 gl, gTupD_of, frac]
theorem ratio_ok {t b : Int} (hb : 0 < b) (hb' : b.natAbs < Lim) : m_ratio [.int t, .int b] = .ok (frac t b) := by
  have g0 := gcd_pos' (t := t) hb
  have gl := gcd_lim (t := t) hb hb'
  refine runF_rt ?_
  have hg : dGcd (.int t) (.int b) = .ok (.int (Int.gcd t b)) := rfl
  simp [F_ratio, show ¬ b < 0 by omega, show ¬ b = 0 by omega, hg, dDiv_pos g0 gl, gTupD_of, frac]
/-- the number q as the program's pair -/
def frQ (q : Rat) : D := .tup [.int q.num, .int (q.den : Int)]
theorem frac_eq {t b : Int} (hb : 0 < b) : frac t b = frQ ((t : Rat) / (b : Rat)) := by
  have hn : b ≠ 0 := by omega
  rw [frQ, ← Rat.divInt_eq_div, Rat.num_divInt, Rat.den_divInt, if_neg hn, Int.sign_eq_one_of_pos hb, Int.one_mul, Int.gcd_comm b t, frac]
  rw [Int.natCast_ediv, Int.natAbs_of_nonneg (Int.le_of_lt hb)]
theorem rat_eq (q : Rat) : q = (q.num : Rat) / ((q.den : Int) : Rat) := by
  rw [← Rat.divInt_eq_div, Rat.divInt_ofNat, Rat.mkRat_self]
theorem den_ne (q : Rat) : ((q.den : Int) : Rat) ≠ 0 := by
  have := q.den_nz
  intro h
  exact this (by exact_mod_cast h)
theorem add_eq (p q : Rat) : (((p.num * (q.den : Int) + q.num * (p.den : Int) : Int)) : Rat) / (((p.den : Int) * (q.den : Int) : Int) : Rat) = p + q := by
  have hp := rat_eq p
  have hq := rat_eq q
  have h1 := den_ne p
  have h2 := den_ne q
  rw [Rat.intCast_add, Rat.intCast_mul, Rat.intCast_mul, Rat.intCast_mul]
  generalize (p.num : Rat) = a at *
  generalize ((p.den : Int) : Rat) = b at *
  generalize (q.num : Rat) = c at *
  generalize ((q.den : Int) : Rat) = d at *
  rw [hp, hq]
  grind
/-- small enough to add two of them -/
def Sm (q : Rat) : Prop := q.num.natAbs < 2 ^ 4400 ∧ q.den < 2 ^ 4400
theorem pow_lim : (2 : Nat) ^ 8800 + 2 ^ 8800 ≤ Lim := by
  unfold Lim
  rw [← Nat.two_mul, Nat.mul_comm, ← Nat.pow_succ]
  exact Nat.pow_le_pow_right (by decide) (by decide)
theorem mul_lim {a b : Nat} (ha : a < 2 ^ 4400) (hb : b < 2 ^ 4400) : a * b < 2 ^ 8800 := by
  have h := Nat.mul_lt_mul'' ha hb
  rw [← Nat.pow_add] at h
  exact h
theorem mul_44 {i j : Int} (hi : i.natAbs < 2 ^ 4400) (hj : j.natAbs < 2 ^ 4400) : dMul (.int i) (.int j) = .ok (.int (i * j)) := dMul_int (mulOk_of (a := 4400) (b := 4400) hi hj)
theorem sum_lim {a b c d : Int} (ha : a.natAbs < 2 ^ 4400) (hb : b.natAbs < 2 ^ 4400) (hc : c.natAbs < 2 ^ 4400) (hd : d.natAbs < 2 ^ 4400) : (a * b + c * d).natAbs < Lim := by
  have h1 := mul_lim ha hb
  have h2 := mul_lim hc hd
  rw [← Int.natAbs_mul] at h1 h2
  have h3 := Int.natAbs_add_le (a * b) (c * d)
  exact Nat.lt_of_lt_of_le (Nat.lt_of_le_of_lt h3 (Nat.add_lt_add h1 h2)) pow_lim
theorem den_pos (p q : Rat) : 0 < (p.den : Int) * (q.den : Int) := Int.mul_pos (by have := p.den_pos; omega) (by have := q.den_pos; omega)
theorem den_lim {p q : Rat} (hp : Sm p) (hq : Sm q) : ((p.den : Int) * (q.den : Int)).natAbs < Lim := by
  rw [Int.natAbs_mul, Int.natAbs_natCast, Int.natAbs_natCast]
  exact Nat.lt_of_lt_of_le (mul_lim hp.2 hq.2) (Nat.le_trans (Nat.le_add_right _ _) pow_lim)
theorem Sm.d {p : Rat} (h : Sm p) : ((p.den : Int)).natAbs < 2 ^ 4400 := by rw [Int.natAbs_natCast]; exact h.2
theorem ix_0 (q : Rat) : dIx (frQ q) (.int 0) = .ok (.int q.num) := rfl
theorem ix_1 (q : Rat) : dIx (frQ q) (.int 1) = .ok (.int (q.den : Int)) := rfl
theorem law_added_ok {p q : Rat} (hp : Sm p) (hq : Sm q) : m_law_added [frQ p, frQ q] = .ok (frQ (p + q)) := by
  have h := law_fraction_ok (den_pos p q) (sum_lim hp.1 hq.d hq.1 hp.d) (den_lim hp hq)
  rw [frac_eq (den_pos p q), add_eq] at h
  refine runF_rt ?_
  simp only [F_law_added]
  simp [ix_0, ix_1, mul_44 hp.1 hq.d, mul_44 hq.1 hp.d, mul_44 hp.d hq.d, h]
theorem added_ok {p q : Rat} (hp : Sm p) (hq : Sm q) : m_added [frQ p, frQ q] = .ok (frQ (p + q)) := by
  have h := ratio_ok (t := p.num * (q.den : Int) + q.num * (p.den : Int)) (den_pos p q) (den_lim hp hq)
  rw [frac_eq (den_pos p q), add_eq] at h
  refine runF_rt ?_
  simp only [F_added]
  simp [ix_0, ix_1, mul_44 hp.1 hq.d, mul_44 hq.1 hp.d, mul_44 hp.d hq.d, h]
end Da
namespace Da
open PySem PySem.Spec L2
/-! ### sums of fractions -/
def F_law_sum : FS := (fSeq (fSet 1 (fOn gTupD (fA (fC (.int 0)) (fA (fC (.int 1)) fA0))))
    (fSeq (fFor (fL (fV 0)) (gN 2) (fSet 1 (fOn (chk 2 m_law_added) (fA (fV 1) (fA (fV 2) fA0)))))
    (fRet (fV 1))))
def m_law_sum : List D → Res D := runF 3 .sh F_law_sum
def F_fraction_sum : FS := (fSeq (fSet 1 (fOn gTupD (fA (fC (.int 0)) (fA (fC (.int 1)) fA0))))
    (fSeq (fFor (fL (fV 0)) (gN 2) (fSet 1 (fOn (chk 2 m_added) (fA (fV 1) (fA (fV 2) fA0)))))
    (fRet (fV 1))))
def m_fraction_sum : List D → Res D := runF 3 .sh F_fraction_sum
/-- q is some n over L, n at most B -/
def In (L B : Nat) (q : Rat) : Prop := ∃ n : Int, q = (n : Rat) / ((L : Int) : Rat) ∧ n.natAbs ≤ B
theorem In.sm {L B : Nat} {q : Rat} (h : In L B q) (h0 : 0 < L) (hL : L < 2 ^ 4400) (hB : B < 2 ^ 4400) : Sm q := by
  obtain ⟨n, e, hn⟩ := h
  have hp : (0 : Int) < (L : Int) := by omega
  have f : frac n L = frQ q := by rw [frac_eq hp, e]
  injection f with f
  injection f with f1 f2
  injection f1 with f1
  injection f2 with f2 _
  injection f2 with f2
  constructor
  · rw [← f1]
    refine Nat.lt_of_le_of_lt (Nat.le_trans ?_ hn) hB
    exact Int.natAbs_ediv_le_natAbs _ _
  · have : ((L : Int) / (Int.gcd n L : Int)) ≤ (L : Int) := Int.ediv_le_self _ (by omega)
    omega
theorem In.add {L A B : Nat} {p q : Rat} (h : In L A p) (h' : In L B q) : In L (A + B) (p + q) := by
  obtain ⟨n, rfl, hn⟩ := h
  obtain ⟨k, rfl, hk⟩ := h'
  refine ⟨n + k, ?_, Nat.le_trans (Int.natAbs_add_le n k) (Nat.add_le_add hn hk)⟩
  rw [Rat.intCast_add]
  grind
theorem In.zero {L : Nat} : In L 0 0 := ⟨0, by grind, by simp⟩
def sumQ (qs : List Rat) : Rat := qs.foldl (· + ·) 0
theorem sumQ_snoc (qs : List Rat) (q : Rat) : sumQ (qs ++ [q]) = sumQ qs + q := by unfold sumQ; rw [List.foldl_append]; rfl
theorem In.sum {L B : Nat} {qs : List Rat} (h : ∀ q ∈ qs, In L B q) (n : Nat) : In L (n * B) (sumQ (qs.take n)) := by
  induction n with
  | zero => simp [sumQ]; exact In.zero
  | succ n ih =>
    cases e : qs[n]? with
    | none =>
      have : qs.take (n + 1) = qs.take n := by
        rw [List.take_of_length_le, List.take_of_length_le] <;> have := List.getElem?_eq_none_iff.mp e <;> omega
      rw [this]
      obtain ⟨k, ek, hk⟩ := ih
      exact ⟨k, ek, Nat.le_trans hk (Nat.mul_le_mul_right B (Nat.le_succ n))⟩
    | some q =>
      rw [List.take_succ, e, Option.toList_some, sumQ_snoc, Nat.succ_mul]
      exact ih.add (h q (List.mem_of_getElem? e))
theorem frQ_0 : D.tup [.int 0, .int 1] = frQ 0 := rfl
theorem sum_loop {m : List D → Res D} (hm : ∀ p q : Rat, Sm p → Sm q → m [frQ p, frQ q] = .ok (frQ (p + q))) {L B : Nat} {qs : List Rat} {xs : D} (h0 : 0 < L) (hL : L < 2 ^ 4400) (hB : (qs.length + 1) * B < 2 ^ 4400) (h : ∀ q ∈ qs, In L B q) :
    ∃ z, forGo (gN 2) (fSet 1 (fOn (chk 2 m) (fA (fV 1) (fA (fV 2) fA0)))) (qs.map frQ) [some xs, some (frQ 0), none] = .ok (.nx [some xs, some (frQ (sumQ qs)), z]) := by
  refine for_inv (Q := fun r => ∃ z, r = Res.ok (Fl.nx [some xs, some (frQ (sumQ qs)), z]))
    (fun n ρ => ∃ z, ρ = [some xs, some (frQ (sumQ (qs.take n))), z]) ⟨none, rfl⟩ ?_ ?_
  · rintro i x ρ hx ⟨z, rfl⟩
    rw [List.getElem?_map] at hx
    cases e : qs[i]? with
    | none => rw [e] at hx; cases hx
    | some q =>
      rw [e] at hx
      cases hx
      have hi := (List.getElem?_eq_some_iff.mp e).1
      have hq := h q (List.mem_of_getElem? e)
      have b1 : i * B < 2 ^ 4400 := Nat.lt_of_le_of_lt (Nat.mul_le_mul_right B (by omega)) hB
      have b2 : B < 2 ^ 4400 := Nat.lt_of_le_of_lt (Nat.le_mul_of_pos_left B (by omega)) hB
      have ha := hm _ _ ((In.sum h i).sm h0 hL b1) (hq.sm h0 hL b2)
      refine ⟨_, rfl, ?_⟩
      simp [ha]
      rw [List.take_succ, e, Option.toList_some, sumQ_snoc]
  · rintro ρ ⟨z, rfl⟩
    rw [List.length_map, List.take_length]
    exact ⟨z, rfl⟩
theorem law_sum_ok {L B : Nat} {qs : List Rat} {xs : D} (hx : fL (fV 0) [some xs, some (frQ 0), none] = .ok (qs.map frQ)) (h0 : 0 < L) (hL : L < 2 ^ 4400) (hB : (qs.length + 1) * B < 2 ^ 4400) (h : ∀ q ∈ qs, In L B q) : m_law_sum [xs] = .ok (frQ (sumQ qs)) := by
  obtain ⟨z, e⟩ := sum_loop (xs := xs) (fun p q hp hq => law_added_ok hp hq) h0 hL hB h
  rw [← fFor_ap hx] at e
  refine runF_rt ?_
  simp [F_law_sum, gTupD_of, frQ_0, e]
theorem fraction_sum_ok {L B : Nat} {qs : List Rat} {xs : D} (hx : fL (fV 0) [some xs, some (frQ 0), none] = .ok (qs.map frQ)) (h0 : 0 < L) (hL : L < 2 ^ 4400) (hB : (qs.length + 1) * B < 2 ^ 4400) (h : ∀ q ∈ qs, In L B q) : m_fraction_sum [xs] = .ok (frQ (sumQ qs)) := by
  obtain ⟨z, e⟩ := sum_loop (xs := xs) (fun p q hp hq => added_ok hp hq) h0 hL hB h
  rw [← fFor_ap hx] at e
  refine runF_rt ?_
  simp [F_fraction_sum, gTupD_of, frQ_0, e]
end Da
namespace Da
open PySem PySem.Spec L2
/-! ### the law's own sameness -/
def F_law_same (rec : List D → Res D) : FS := (fSeq (fIfS (fOr (fTr (f1 (dIsi "tuple") (fV 1))) (fTr (f1 (dIsi "list") (fV 1)))) (fSeq (fIfS (fOr (fNot (fTr (f1 (dIsi "tuple") (fV 0)))) (fB (f2 dNe (fOn (on1 dLen) (fA (fV 0) fA0)) (fOn (on1 dLen) (fA (fV 1) fA0))))) (fRet (fC (.bl false))) fNext)
    (fSeq (fFor (fR1 (fA (fOn (on1 dLen) (fA (fV 1) fA0)) fA0)) (gN 2) (fIfS (fNot (fTr (fOn (chk 2 rec) (fA (f2 dIx (fV 0) (fV 2)) (fA (f2 dIx (fV 1) (fV 2)) fA0))))) (fRet (fC (.bl false))) fNext))
    (fRet (fC (.bl true))))) fNext)
    (fSeq (fIfS (fB (f1 dIsN (fV 1))) (fRet (f1 dIsN (fV 0))) fNext)
    (fSeq (fIfS (fB (f1 (dIsB true) (fV 1))) (fRet (f1 (dIsB true) (fV 0))) fNext)
    (fSeq (fIfS (fB (f1 (dIsB false) (fV 1))) (fRet (f1 (dIsB false) (fV 0))) fNext)
    (fSeq (fIfS (fTr (f1 (dIsi "str") (fV 1))) (fRet (fBv (fAnd (fB (f1 (dIsi "str") (fV 0))) (fB (f2 dEq (fV 0) (fV 1)))))) fNext)
    (fRet (fBv (fAnd (fB (fOn (chk 1 m_law_whole) (fA (fV 0) fA0))) (fB (f2 dEq (fV 0) (fV 1)))))))))))
def r_law_same : Nat → List D → Res D
  | 0 => fun _ => .er
  | n + 1 => runF 3 .sh (F_law_same (r_law_same n))
def m_law_same : List D → Res D := r_law_same 6
theorem same_int (n : Nat) (i : Int) : r_law_same (n + 1) [.int i, .int i] = .ok (.bl true) := by
  show runF 3 .sh (F_law_same (r_law_same n)) _ = _
  refine runF_rt ?_
  simp [F_law_same, law_whole_int, dIsN, dIsB]
theorem law_same_frQ (q : Rat) : m_law_same [frQ q, frQ q] = .ok (.bl true) := by
  show runF 3 .sh (F_law_same (r_law_same 5)) _ = _
  have h1 := same_int 4 q.num
  have h2 := same_int 4 (q.den : Int)
  have hr : rng 0 2 = [.int 0, .int 1] := rfl
  have g := gRng1_int (j := 2) (by decide) (by decide)
  have g2 : gRng1 [.int 2] = .ok [.int 0, .int 1] := g
  have ex : forGo (gN 2) (fIfS (fNot (fTr (fOn (chk 2 (r_law_same 5)) (fA (f2 dIx (fV 0) (fV 2)) (fA (f2 dIx (fV 1) (fV 2)) fA0))))) (fRet (fC (.bl false))) fNext) [.int 0, .int 1] [some (frQ q), some (frQ q), none] = .ok (.nx [some (frQ q), some (frQ q), some (.int 1)]) := by
    simp [forGo, ix_0, ix_1, h1, h2]
  refine runF_rt ?_
  simp only [frQ] at ex ⊢
  simp [F_law_same, fFor, g2, ex]
theorem In.mono {L A B : Nat} {q : Rat} (h : In L A q) (hab : A ≤ B) : In L B q := by
  obtain ⟨n, e, hn⟩ := h
  exact ⟨n, e, Nat.le_trans hn hab⟩
theorem In.of {t b : Int} {L : Nat} (k : Nat) (hb : 0 < b) (h0 : 0 < L) (hk : b * k = L) : In L (t.natAbs * k) ((t : Rat) / (b : Rat)) := by
  refine ⟨t * k, ?_, by rw [Int.natAbs_mul, Int.natAbs_natCast]; exact Nat.le_refl _⟩
  have hkn : (k : Int) ≠ 0 := by
    intro h
    rw [h, Int.mul_zero] at hk
    omega
  have h1 : ((k : Int) : Rat) ≠ 0 := by exact_mod_cast hkn
  have h2 : (b : Rat) ≠ 0 := by exact_mod_cast (show b ≠ 0 by omega)
  rw [← hk, Rat.intCast_mul, Rat.intCast_mul]
  generalize ((k : Int) : Rat) = x at *
  generalize (b : Rat) = y at *
  generalize (t : Rat) = z at *
  grind
end Da
namespace Da
open PySem PySem.Spec L2
/-! ### list comprehensions of two clauses -/
def lc2Go (g : D → Env → Res Env) (c : Env → Res Bool) (vs1 : List Nat) (it1 : Env → Res (List D)) (g1 : D → Env → Res Env) (c1 : Env → Res Bool) (f : Env → Res D) (ρ : Env) : List D → Res (List D)
  | [] => .ok []
  | x :: xs => match g x ρ with
    | .ok ρ1 => (match c ρ1 with
      | .ok b => if b = true then (match it1 ρ1 with
        | .ok ys => (match lcGo g1 c1 f (wipeD ρ1 vs1) ys with
          | .ok zs => (match lc2Go g c vs1 it1 g1 c1 f ρ xs with
            | .ok ws => .ok (zs ++ ws)
            | _ => .er)
          | _ => .er)
        | _ => .er) else lc2Go g c vs1 it1 g1 c1 f ρ xs
      | _ => .er)
    | _ => .er
def fLc2 (vs : List Nat) (it : Env → Res (List D)) (g : D → Env → Res Env) (c : Env → Res Bool) (vs1 : List Nat) (it1 : Env → Res (List D)) (g1 : D → Env → Res Env) (c1 : Env → Res Bool) (f : Env → Res D) : Env → Res D := fun ρ => (it ρ).bind fun xs => match lc2Go g c vs1 it1 g1 c1 f (wipeD ρ vs) xs with
  | .ok ys => if szOk ys.length = true then .ok (.lst ys) else .er
  | _ => .er
section
variable {K : PySem.W.Frag} {mg : Str → Option Value} {E : WX} {m : Mds} {it it1 : Env → Res (List D)} {g g1 : D → Env → Res Env} {c c1 : Env → Res Bool} {f : Env → Res D} {ts ts1 vs vs1 : List Nat}
/-- the list under way, rest still to come -/
def AcW (K : PySem.W.Frag) (mg : Str → Option Value) (D0 : Addr) (S1 H1 : Hp) (ys rest : List D) (H : Hp) : Prop :=
  ∃ S2 ws ds, Step S1 H1 S2 H ∧ S2 D0 = none ∧ H D0 = some (.lst ws) ∧ RepL K mg S2 ws ds ∧ ys = ds ++ rest
theorem upd_upd {H : Hp} {p : Addr} {o o' : HO} : upd (upd H p o) p o' = upd H p o' := by
  funext a
  by_cases h : a = p
  · subst h; rw [upd_same, upd_same]
  · rw [upd_ne h, upd_ne h, upd_ne h]
theorem upd_self {H : Hp} {p : Addr} {o : HO} (h : H p = some o) : upd H p o = H := by
  funext a
  by_cases e : a = p
  · subst e; rw [upd_same, h]
  · rw [upd_ne e]
theorem Step.swap {S H S' H' : Hp} {p : Addr} {o : HO} (st : Step S H S' H') (hs : S' p = none) : Step S (upd H p o) S' (upd H' p o) := by
  refine ⟨fun b x e => ?_, st.ss, fun b x e => ?_, fun a x => ?_⟩
  · by_cases h : b = p
    · subst h; rw [upd_same] at e ⊢; exact e
    · rw [upd_ne h] at e ⊢; exact st.hh b x e
  · rw [upd_ne (ne_of_none e hs)]
    exact st.sub b x e
  · have h : a ≠ p := fun z => by rw [z] at x; exact x hs
    rw [upd_ne h]
    exact st.new a x
/-- slots beside an object that is written -/
theorem EnvF.aside {m : Mds} {F : Nat → List Addr} {S6 H6 S7 H : Hp} {σ : L2.St} {ρ : Env} {D0 : Addr} {o o7 : HO} (h : EnvF K mg m F S6 H6 σ ρ) (hn : ∀ i d, ρ[i]? = some (some d) → D0 ∉ F i) (st : Step S6 H6 S7 (upd H D0 o)) (h7 : S7 D0 = none) (hD : H D0 = some o7) : EnvF K mg m F S7 H σ ρ := by
  have q := h.step st
  refine ⟨q.len, fun i d e => ?_, q.nd, q.apart⟩
  obtain ⟨v, e1, e2⟩ := q.at_ i d e
  have e3 := e2.other (o := o7) h7 (hn i d e)
  rw [upd_upd, upd_self hD] at e3
  exact ⟨v, e1, e3⟩
/-- slots as of a body before which nothing was but one object, that is none of theirs -/
theorem EnvM.bareX {m : Mds} {S1 H1 S H : Hp} {σ : L2.St} {ρ : Env} {D0 : Addr} {o : HO} (vs : List Nat) (h : EnvM K mg m S1 H1 σ ρ) (hD : H1 D0 = none) (st : Step S1 H1 S H) (hS : S D0 = none) (hH : H D0 = some o) : ∃ F, StF K mg m (fun _ => none) (fun a => if a = D0 then some o else none) S F (L2.wipe σ vs) (wipeD ρ vs) H := by
  obtain ⟨_, F, h⟩ := h
  have hw := h.wipe vs
  refine ⟨F, ⟨fun b x e => ?_, (fun _ _ e => nomatch e), st.sub, fun a x => ?_⟩, hw.step st, fun i d e a ha => ?_⟩
  · have e : (if b = D0 then some o else none) = some x := e
    by_cases hb : b = D0
    · rw [if_pos hb] at e; rw [hb, hH]; exact e
    · rw [if_neg hb] at e; cases e
  · by_cases ha : a = D0
    · rw [ha] at x; exact absurd hS x
    · exact .inr (if_neg ha)
  · obtain ⟨v, _, ow⟩ := hw.at_ i d e
    obtain ⟨_, u, hu⟩ := ow.out ha
    exact if_neg fun z => by rw [z, hD] at hu; cases hu
theorem lc2_ok {σ : L2.St} {H : Hp} {Q : VK} (hts : ∀ t ∈ ts, t ∈ vs) (hts1 : ∀ t ∈ ts1, t ∈ vs1) (h : tE K mg E m .ow (fLc2 vs it g c vs1 it1 g1 c1 f) σ H Q) :
    tLc2 (tI K mg E m it) (tGD K mg m ts g) (tT K mg EF m c) (tI K mg EF m it1) (tGD K mg m ts1 g1) (tT K mg EF m c1) (tE K mg EF m .sh f) vs vs1 σ H Q := by
  obtain ⟨S, ρ, hm, hp⟩ := h
  refine ⟨S, ρ, hm, (Post.bind hp).imp fun xs S1 H1 s1 k J w D0 hD => ?_⟩
  cases eg : lc2Go g c vs1 it1 g1 c1 f (wipeD ρ vs) xs with
  | ex c' fs => rw [eg] at k; exact k.elim
  | er => rw [eg] at k; exact k.elim
  | ok ys =>
    rw [eg] at k
    have k : Post K mg (WE E σ) S1 H1 .ow (if szOk ys.length = true then .ok (.lst ys) else .er) Q := k
    obtain ⟨hz, k⟩ := Post.of_if k
    have hz := szOk_le hz
    refine ⟨fun i n H => n = xs.length - i ∧ i ≤ xs.length ∧ ∃ rest, lc2Go g c vs1 it1 g1 c1 f (wipeD ρ vs) (xs.drop i) = .ok rest ∧ AcW K mg D0 S1 H1 ys rest H, ⟨xs.length, by simp, Nat.zero_le _, ys, eg, S1, [], [], Step.hid s1.sub hD, s1.sub.free hD, upd_same, .nil, rfl⟩, ?_⟩
    rintro i n H2 ⟨rfl, hi, rest, el, S2, ws, ds, st2, hs2, hd2, rv, ey⟩
    by_cases hlt : i < xs.length
    · obtain ⟨hgo, hyl⟩ := w.go i xs[i] S2 H2 (List.getElem?_eq_getElem hlt) st2.ss st2.sub
      refine .inr ⟨hgo, fun H => ∃ rest, lc2Go g c vs1 it1 g1 c1 f (wipeD ρ vs) (xs.drop (i + 1)) = .ok rest ∧ AcW K mg D0 S1 H1 ys rest H, fun H' z => ⟨xs.length - (i + 1), by omega, rfl, hlt, z⟩, fun x H3 y => ?_⟩
      obtain ⟨S3, s3, r3⟩ := hyl x H3 y
      rw [List.drop_eq_getElem_cons hlt] at el
      unfold lc2Go at el
      cases eg1 : g xs[i] (wipeD ρ vs) with
      | ex c' fs => rw [eg1] at el; cases el
      | er => rw [eg1] at el; cases el
      | ok ρ1 =>
        rw [eg1] at el
        simp only at el
        have st3 := st2.trans s3
        obtain ⟨F, stF⟩ := EnvM.bareX vs (hm.step s1) hD st3 (s3.out hs2 hd2) (s3.hh _ _ hd2)
        refine ⟨_, _, S3, F, wipeD ρ vs, xs[i], stF, r3, ?_⟩
        rw [eg1]
        intro σ4 S4 F4 H4 st4 s4 hfr
        refine ⟨wipe_eq (by rw [hfr.1, L2.wipe_length]) hfr.2 hts, S4, ρ1, st4.envM, ?_⟩
        cases ec : c ρ1 with
        | ex c' fs => rw [ec] at el; cases el
        | er => rw [ec] at el; cases el
        | ok b =>
          rw [ec] at el
          simp only at el
          intro S5 H5 s5
          have a5 := (s3.trans s4).trans s5
          have em5 := (st4.envM).step s5
          cases b with
          | false =>
            rw [if_neg (by decide)] at el
            show ∃ rest, lc2Go g c vs1 it1 g1 c1 f (wipeD ρ vs) (xs.drop (i + 1)) = .ok rest ∧ AcW K mg D0 S1 H1 ys rest H5
            exact ⟨rest, el, S5, ws, ds, st2.trans a5, a5.out hs2 hd2, a5.hh _ _ hd2, rv.mono a5.ss, ey⟩
          | true =>
            rw [if_pos rfl] at el
            show tI K mg EF m it1 σ4 H5 _
            refine ⟨S5, ρ1, em5, ?_⟩
            cases ei : it1 ρ1 with
            | ex c' fs => rw [ei] at el; cases el
            | er => rw [ei] at el; cases el
            | ok ys1 =>
              rw [ei] at el
              simp only at el
              cases ez : lcGo g1 c1 f (wipeD ρ1 vs1) ys1 with
              | ex c' fs => rw [ez] at el; cases el
              | er => rw [ez] at el; cases el
              | ok zs =>
                rw [ez] at el
                simp only at el
                cases ew : lc2Go g c vs1 it1 g1 c1 f (wipeD ρ vs) (xs.drop (i + 1)) with
                | ex c' fs => rw [ew] at el; cases el
                | er => rw [ew] at el; cases el
                | ok us =>
                  rw [ew] at el
                  cases el
                  intro S6 H6 s6 J1 w1
                  have a6 := a5.trans s6
                  have em6 := em5.step s6
                  refine ⟨fun j n H => n = ys1.length - j ∧ j ≤ ys1.length ∧ ∃ rest1 S7 ws7 ds7, lcGo g1 c1 f (wipeD ρ1 vs1) (ys1.drop j) = .ok rest1 ∧ Step S6 H6 S7 (upd H D0 (.lst ws)) ∧ Step S1 H1 S7 H ∧ S7 D0 = none ∧ H D0 = some (.lst ws7) ∧ RepL K mg S7 ws7 ds7 ∧ ys = ds7 ++ (rest1 ++ us), ⟨ys1.length, by simp, Nat.zero_le _, zs, S6, ws, ds, ez, ?_, st2.trans a6, a6.out hs2 hd2, a6.hh _ _ hd2, rv.mono a6.ss, ey⟩, ?_⟩
                  · rw [upd_self (a6.hh _ _ hd2)]
                    exact Step.refl s6.sub
                  rintro j n7 H7 ⟨rfl, hj, rest1, S7, ws7, ds7, el1, t7, u7, hs7, hd7, rv7, ey7⟩
                  by_cases hlt1 : j < ys1.length
                  · obtain ⟨hgo1, hyl1⟩ := w1.go j ys1[j] S7 H7 (List.getElem?_eq_getElem hlt1) t7.ss u7.sub
                    refine .inr ⟨hgo1, fun H => ∃ rest1 S7 ws7 ds7, lcGo g1 c1 f (wipeD ρ1 vs1) (ys1.drop (j + 1)) = .ok rest1 ∧ Step S6 H6 S7 (upd H D0 (.lst ws)) ∧ Step S1 H1 S7 H ∧ S7 D0 = none ∧ H D0 = some (.lst ws7) ∧ RepL K mg S7 ws7 ds7 ∧ ys = ds7 ++ (rest1 ++ us), fun H' z => ⟨ys1.length - (j + 1), by omega, rfl, hlt1, z⟩, fun x1 H8 y1 => ?_⟩
                    obtain ⟨S8, s8, r8⟩ := hyl1 x1 H8 y1
                    have nD : ∀ i d, ρ1[i]? = some (some d) → D0 ∉ F4 i := fun i d e z => by
                      have := st4.2.2 i d e D0 z
                      have : (if D0 = D0 then some (HO.lst ws) else none) = none := this
                      rw [if_pos rfl] at this
                      cases this
                    have e6 := (st4.2.1.step s5).step s6
                    have e7 := e6.aside nD t7 hs7 hd7
                    have em8 : EnvM K mg m S8 H8 σ4 ρ1 := ⟨s8.sub, F4, e7.step s8⟩
                    obtain ⟨F8, st8⟩ := (em8.wipe vs1).bare
                    rw [List.drop_eq_getElem_cons hlt1] at el1
                    unfold lcGo at el1
                    cases eg2 : g1 ys1[j] (wipeD ρ1 vs1) with
                    | ex c' fs => rw [eg2] at el1; cases el1
                    | er => rw [eg2] at el1; cases el1
                    | ok ρ2 =>
                      rw [eg2] at el1
                      simp only at el1
                      refine ⟨_, _, S8, F8, wipeD ρ1 vs1, ys1[j], st8, r8, ?_⟩
                      rw [eg2]
                      intro σ9 S9 F9 H9 st9 s9 hfr9
                      refine ⟨wipe_eq (by rw [hfr9.1, L2.wipe_length]) hfr9.2 hts1, S9, ρ2, st9.envM, ?_⟩
                      cases ec1 : c1 ρ2 with
                      | ex c' fs => rw [ec1] at el1; cases el1
                      | er => rw [ec1] at el1; cases el1
                      | ok b1 =>
                        rw [ec1] at el1
                        simp only at el1
                        intro S10 H10 s10
                        have a10 := (s8.trans s9).trans s10
                        cases b1 with
                        | false =>
                          rw [if_neg (by decide)] at el1
                          exact ⟨rest1, S10, ws7, ds7, el1, t7.trans (a10.swap (a10.out hs7 hd7)), u7.trans a10, a10.out hs7 hd7, a10.hh _ _ hd7, rv7.mono a10.ss, ey7⟩
                        | true =>
                          rw [if_pos rfl] at el1
                          show tE K mg EF m Md.sh f σ9 H10 _
                          refine ⟨S10, ρ2, (st9.envM).step s10, ?_⟩
                          cases ef : f ρ2 with
                          | ex c' fs => rw [ef] at el1; cases el1
                          | er => rw [ef] at el1; cases el1
                          | ok z' =>
                            rw [ef] at el1
                            simp only at el1
                            intro v S11 H11 fp s11 o _ _
                            have a11 := a10.trans s11
                            cases er : lcGo g1 c1 f (wipeD ρ1 vs1) (ys1.drop (j + 1)) with
                            | ex c' fs => rw [er] at el1; cases el1
                            | er => rw [er] at el1; cases el1
                            | ok rest2 =>
                              rw [er] at el1
                              cases el1
                              have hl7 := rv7.len
                              have hly : ys.length = ds7.length + (1 + rest2.length + us.length) := by rw [ey7]; simp; omega
                              refine ⟨ws7, a11.hh _ _ hd7, by rw [hl7, sizeLine_eq]; omega, rest2, S11, ws7 ++ [v], ds7 ++ [z'], rfl, ?_, (u7.trans a11).write (a11.out hs7 hd7) hD, a11.out hs7 hd7, upd_same, (rv7.mono a11.ss).snoc o.1, by rw [ey7]; simp⟩
                              rw [upd_upd]
                              exact t7.trans (a11.swap (a11.out hs7 hd7))
                  · have e : j = ys1.length := by omega
                    subst e
                    rw [List.drop_length] at el1
                    cases el1
                    refine .inl ⟨w1.stop S7 H7 t7.ss u7.sub, us, rfl, S7, ws7, ds7, u7, hs7, hd7, rv7, by rw [ey7]; simp⟩
    · have e : i = xs.length := by omega
      subst e
      rw [List.drop_length] at el
      cases el
      rw [List.append_nil] at ey
      subst ey
      exact .inl ⟨w.stop S2 H2 st2.ss st2.sub, k _ S2 H2 [D0] st2 ⟨D0, ws, _, rfl, rfl, rfl, hs2, hd2, rv⟩ (by simp) (fun a z => by
        have : a = D0 := by simpa using z
        rw [this]; exact hD)⟩
end
section
variable {X : Cx} {E : WX} {L : Lp} {m : Mds} {ts ts1 : List Nat} {N0 ps0 : List Str} {sc0 scO : Scope} {elt tg iter tg1 iter1 : Expr} {ifs ifs1 : List Expr} {scope : Scope} {pos : Pos} {it it1 : Env → Res (List D)} {g g1 : D → Env → Res Env} {c c1 : Env → Res Bool} {f : Env → Res D}
theorem je_lc2 (Sc : FnScope N0 ps0 sc0) (own : List (Str × Nat)) (vs1 : List Nat) (hi : JI X E m tg iter it)
    (hg : ∀ (s : Shared) (H : Hp) (C : Addr) (cl : List (Str × Addr)) (fp : List Addr), JG (X.blk s H scope (compEnvC scope cl C X.env) fp) m ts tg g) (ht : ∀ (s : Shared) (H : Hp) (C : Addr) (cl : List (Str × Addr)) (fp : List Addr), JTs (X.blk s H scope (compEnvC scope cl C X.env) fp) EF m ifs c)
    (hi1 : ∀ (s : Shared) (H : Hp) (C : Addr) (cl : List (Str × Addr)) (fp : List Addr), JI (X.blk s H scope (compEnvC scope cl C X.env) fp) EF m tg1 iter1 it1) (hg1 : ∀ (s : Shared) (H : Hp) (C : Addr) (cl : List (Str × Addr)) (fp : List Addr), JG (X.blk s H scope (compEnvC scope cl C X.env) fp) m ts1 tg1 g1) (ht1 : ∀ (s : Shared) (H : Hp) (C : Addr) (cl : List (Str × Addr)) (fp : List Addr), JTs (X.blk s H scope (compEnvC scope cl C X.env) fp) EF m ifs1 c1)
    (he : ∀ (s : Shared) (H : Hp) (C : Addr) (cl : List (Str × Addr)) (fp : List Addr), JE (X.blk s H scope (compEnvC scope cl C X.env) fp) EF m .sh elt f) (hc : X.calm = true := by rfl) (hN0 : X.N = N0 := by rfl) (hsc : X.env.scope = sc0 := by rfl) (ok : blkC N0 (sc0) scope own = true := by decide +kernel) (hts : ∀ t ∈ ts, t ∈ own.map (·.2) := by decide) (hts1 : ∀ t ∈ ts1, t ∈ vs1 := by decide) (hv : ∀ i ∈ vs1, i ∈ own.map (·.2) := by decide)
    (hs : ∀ x, foldedSetIterable iter X.env x = pure x := by intro _; rfl) (hs1 : ∀ env x, foldedSetIterable iter1 env x = pure x := by intro _ _; rfl) : JE X E m .ow (.ListComp elt [⟨tg, iter, ifs, 0⟩, ⟨tg1, iter1, ifs1, 0⟩] scope pos) (fLc2 (own.map (·.2)) it g c vs1 it1 g1 c1 f) :=
  ⟨PEimp (pe_lc2 (g := tGD X.K X.mg m ts g) (tt := tT X.K X.mg EF m c) (wi1 := tI X.K X.mg EF m it1) (g1 := tGD X.K X.mg m ts1 g1) (tt1 := tT X.K X.mg EF m c1) (te := tE X.K X.mg EF m .sh f) hc (by rw [hN0]; exact Sc.nd) hi.pi (blkOk_by (by rw [hN0, hsc]; exact ok)) hv (fun s H C cl fp => (hg s H C cl fp).pg) (fun s H C cl fp => (ht s H C cl fp).pt) (fun s H C cl fp => (hi1 s H C cl fp).pi) (fun s H C cl fp => (hg1 s H C cl fp).pg) (fun s H C cl fp => (ht1 s H C cl fp).pt) (fun s H C cl fp => (he s H C cl fp).pe) hs hs1) fun σ H Q h => lc2_ok hts hts1 h⟩
theorem je_lc2B (Sc : FnScope N0 ps0 sc0) (own : List (Str × Nat)) (vs1 : List Nat) (hi : JI X E m tg iter it)
    (hg : ∀ (s : Shared) (H : Hp) (C : Addr) (cl : List (Str × Addr)) (fp : List Addr), JG (X.blk s H scope (compEnvC scope cl C X.env) fp) m ts tg g) (ht : ∀ (s : Shared) (H : Hp) (C : Addr) (cl : List (Str × Addr)) (fp : List Addr), JTs (X.blk s H scope (compEnvC scope cl C X.env) fp) EF m ifs c)
    (hi1 : ∀ (s : Shared) (H : Hp) (C : Addr) (cl : List (Str × Addr)) (fp : List Addr), JI (X.blk s H scope (compEnvC scope cl C X.env) fp) EF m tg1 iter1 it1) (hg1 : ∀ (s : Shared) (H : Hp) (C : Addr) (cl : List (Str × Addr)) (fp : List Addr), JG (X.blk s H scope (compEnvC scope cl C X.env) fp) m ts1 tg1 g1) (ht1 : ∀ (s : Shared) (H : Hp) (C : Addr) (cl : List (Str × Addr)) (fp : List Addr), JTs (X.blk s H scope (compEnvC scope cl C X.env) fp) EF m ifs1 c1)
    (he : ∀ (s : Shared) (H : Hp) (C : Addr) (cl : List (Str × Addr)) (fp : List Addr), JE (X.blk s H scope (compEnvC scope cl C X.env) fp) EF m .sh elt f) (hc : X.calm = true := by rfl) (hN0 : X.N = N0 := by rfl) (hsc : X.env.scope = relS scO sc0 := by rfl) (ok : blkC N0 (relS scO sc0) scope own = true := by decide +kernel) (hts : ∀ t ∈ ts, t ∈ own.map (·.2) := by decide) (hts1 : ∀ t ∈ ts1, t ∈ vs1 := by decide) (hv : ∀ i ∈ vs1, i ∈ own.map (·.2) := by decide)
    (hs : ∀ x, foldedSetIterable iter X.env x = pure x := by intro _; rfl) (hs1 : ∀ env x, foldedSetIterable iter1 env x = pure x := by intro _ _; rfl) : JE X E m .ow (.ListComp elt [⟨tg, iter, ifs, 0⟩, ⟨tg1, iter1, ifs1, 0⟩] scope pos) (fLc2 (own.map (·.2)) it g c vs1 it1 g1 c1 f) :=
  ⟨PEimp (pe_lc2 (g := tGD X.K X.mg m ts g) (tt := tT X.K X.mg EF m c) (wi1 := tI X.K X.mg EF m it1) (g1 := tGD X.K X.mg m ts1 g1) (tt1 := tT X.K X.mg EF m c1) (te := tE X.K X.mg EF m .sh f) hc (by rw [hN0]; exact Sc.nd) hi.pi (blkOk_by (by rw [hN0, hsc]; exact ok)) hv (fun s H C cl fp => (hg s H C cl fp).pg) (fun s H C cl fp => (ht s H C cl fp).pt) (fun s H C cl fp => (hi1 s H C cl fp).pi) (fun s H C cl fp => (hg1 s H C cl fp).pg) (fun s H C cl fp => (ht1 s H C cl fp).pt) (fun s H C cl fp => (he s H C cl fp).pe) hs hs1) fun σ H Q h => lc2_ok hts hts1 h⟩
theorem js_setLc2 (i : Nat) {y : Str} {py spos : Pos} (Sc : FnScope N0 ps0 sc0) (own : List (Str × Nat)) (vs1 : List Nat) (hi : JI X E m tg iter it)
    (hg : ∀ (s : Shared) (H : Hp) (C : Addr) (cl : List (Str × Addr)) (fp : List Addr), JG (X.blk s H scope (compEnvC scope cl C X.env) fp) m ts tg g) (ht : ∀ (s : Shared) (H : Hp) (C : Addr) (cl : List (Str × Addr)) (fp : List Addr), JTs (X.blk s H scope (compEnvC scope cl C X.env) fp) EF m ifs c)
    (hi1 : ∀ (s : Shared) (H : Hp) (C : Addr) (cl : List (Str × Addr)) (fp : List Addr), JI (X.blk s H scope (compEnvC scope cl C X.env) fp) EF m tg1 iter1 it1) (hg1 : ∀ (s : Shared) (H : Hp) (C : Addr) (cl : List (Str × Addr)) (fp : List Addr), JG (X.blk s H scope (compEnvC scope cl C X.env) fp) m ts1 tg1 g1) (ht1 : ∀ (s : Shared) (H : Hp) (C : Addr) (cl : List (Str × Addr)) (fp : List Addr), JTs (X.blk s H scope (compEnvC scope cl C X.env) fp) EF m ifs1 c1)
    (he : ∀ (s : Shared) (H : Hp) (C : Addr) (cl : List (Str × Addr)) (fp : List Addr), JE (X.blk s H scope (compEnvC scope cl C X.env) fp) EF m .sh elt f) (hl : i < m.length := by first | decide | simp) (hy : X.N[i]? = some y := by rfl) (hyl : X.env.scope.names.lookup y = some .local := by rfl)
    (hsw : swapsWith (.ListComp elt [⟨tg, iter, ifs, 0⟩, ⟨tg1, iter1, ifs1, 0⟩] scope pos) (some (.Name y py)) spos.line X.env = pure true := by rfl) (hc : X.calm = true := by rfl) (hN0 : X.N = N0 := by rfl) (hsc : X.env.scope = sc0 := by rfl) (ok : blkC N0 (sc0) scope own = true := by decide +kernel) (hts : ∀ t ∈ ts, t ∈ own.map (·.2) := by decide) (hts1 : ∀ t ∈ ts1, t ∈ vs1 := by decide) (hv : ∀ i ∈ vs1, i ∈ own.map (·.2) := by decide)
    (hs : ∀ x, foldedSetIterable iter X.env x = pure x := by intro _; rfl) (hs1 : ∀ env x, foldedSetIterable iter1 env x = pure x := by intro _ _; rfl) : JS X E L m (m.set i .ow) (.Assign [.Name y py] (.ListComp elt [⟨tg, iter, ifs, 0⟩, ⟨tg1, iter1, ifs1, 0⟩] scope pos) spos) (fSet i (fLc2 (own.map (·.2)) it g c vs1 it1 g1 c1 f)) := by
  refine ⟨PSimp (ps_setLc2 (g := tGD X.K X.mg m ts g) (tt := tT X.K X.mg EF m c) (wi1 := tI X.K X.mg EF m it1) (g1 := tGD X.K X.mg m ts1 g1) (tt1 := tT X.K X.mg EF m c1) (te := tE X.K X.mg EF m .sh f) hc (by rw [hN0]; exact Sc.nd) hy hyl hsw hi.pi (blkOk_by (by rw [hN0, hsc]; exact ok)) hv (fun s H C cl fp => (hg s H C cl fp).pg) (fun s H C cl fp => (ht s H C cl fp).pt) (fun s H C cl fp => (hi1 s H C cl fp).pi) (fun s H C cl fp => (hg1 s H C cl fp).pg) (fun s H C cl fp => (ht1 s H C cl fp).pt) (fun s H C cl fp => (he s H C cl fp).pe) hs hs1) fun D σ H h => ?_⟩
  obtain ⟨S0, H0, ρ, ⟨S, Fp, st⟩, p⟩ := h
  refine lc2_ok hts hts1 ⟨S, ρ, st.envM, (lift_post st p).postM fun d v S1 H1 fp s1 o hn hf k => ?_⟩
  refine k _ _ (StF.stM ((st.step s1).set hl o hn (fun a ha => st.1.hh.free (hf a ha)) fun j e' hj ej a ha z => ?_))
  obtain ⟨w, _, o'⟩ := st.2.1.at_ j e' ej
  obtain ⟨_, u, hu⟩ := o'.out ha
  rw [hf a z] at hu
  cases hu
end
end Da
namespace Da
open PySem PySem.Spec L2
/-! ### own dicts: {}, d[k] = v -/
section
variable {X : Cx} {E : WX} {L : Lp} {m : Mds} {e j : Expr} {f fj : Env → Res D} {x : Str} {pos p1 p2 : Pos} {k : Nat}
/-- what slot i owns is written -/
theorem StF.writeG {K : PySem.W.Frag} {mg : Str → Option Value} {S0 H0 S H : Hp} {Fp : Nat → List Addr} {σ : L2.St} {ρ : Env} {i : Nat} {d0 d1 : D} {v : V} {p : Addr} {o : HO} (st : StF K mg m S0 H0 S Fp σ ρ H) (hρ : ρ[i]? = some (some d0)) (hp : Fp i = [p]) (hσ : σ[i]? = some (some v)) (sp : S p = none)
    (ow : OwnAt K mg S (upd H p o) [p] v d1 (mdAt m i)) : StF K mg m S0 H0 S Fp σ (ρ.set i (some d1)) (upd H p o) := by
  obtain ⟨s, en, nw⟩ := st
  have hil : i < ρ.length := (List.getElem?_eq_some_iff.mp hρ).1
  have h0 : H0 p = none := nw i _ hρ p (by rw [hp]; exact List.mem_cons_self)
  have key : ∀ j d', (ρ.set i (some d1))[j]? = some (some d') → (j = i ∧ d' = d1) ∨ (j ≠ i ∧ ρ[j]? = some (some d')) := fun j d' ej => by
    by_cases hj : j = i
    · subst hj
      rw [List.getElem?_set_self hil] at ej
      injection ej with z; injection z with z
      exact .inl ⟨rfl, z.symm⟩
    · rw [List.getElem?_set_ne (Ne.symm hj)] at ej
      exact .inr ⟨hj, ej⟩
  have same : ∀ {B : Hp}, Same B H → B p = none → Same B (upd H p o) := fun hB hb a u ea => by
    rw [upd_ne (ne_of_none ea hb)]
    exact hB a u ea
  have live : ∀ j d', (ρ.set i (some d1))[j]? = some (some d') → ∃ d'', ρ[j]? = some (some d'') := fun j d' ej => by
    rcases key j d' ej with ⟨rfl, _⟩ | ⟨_, ej'⟩
    · exact ⟨_, hρ⟩
    · exact ⟨_, ej'⟩
  refine ⟨⟨same s.hh h0, s.ss, same s.sub sp, s.new⟩, ⟨by rw [List.length_set]; exact en.len, fun j d' ej => ?_, fun j d' ej => ?_, fun j k a b hjk e1 e2 => ?_⟩, fun j d' ej => ?_⟩
  · rcases key j d' ej with ⟨rfl, rfl⟩ | ⟨hj, ej'⟩
    · exact ⟨v, hσ, by rw [hp]; exact ow⟩
    · obtain ⟨w, e1, o1⟩ := en.at_ j d' ej'
      exact ⟨w, e1, o1.other sp fun z => en.apart i j _ d' (Ne.symm hj) hρ ej' p (by rw [hp]; exact List.mem_cons_self) z⟩
  · obtain ⟨d'', h⟩ := live j d' ej
    exact en.nd j d'' h
  · obtain ⟨a', h1⟩ := live j a e1
    obtain ⟨b', h2⟩ := live k b e2
    exact en.apart j k a' b' hjk h1 h2
  · obtain ⟨d'', h⟩ := live j d' ej
    exact nw j d'' h
theorem je_dnew : JE X E m .dk (.Dict [] [] pos) (fC (.dic [] [])) := ⟨PEimp pe_dnewK fun σ H Q h => by
  obtain ⟨S, ρ, hm, hp⟩ := h
  intro p hn
  exact hp _ S _ [p] (Step.hid hm.1 hn) ⟨p, [], [], rfl, rfl, rfl, hm.1.free hn, upd_same, .nil⟩ (by simp) (fun a z => by
    have : a = p := by simpa using z
    rw [this]; exact hn)⟩
/-- x[j] = e of an own dict -/
def fPut (i : Nat) (fe fj : Env → Res D) : FS := fun ρ => match ρ[i]? with
  | some (some (.dic ks ds)) => lift (fe ρ) ρ fun d => lift (fj ρ) ρ fun y => match keyD y with
    | some k => if szOk (ks.length + 1) = true then .ok (.nx (ρ.set i (some (.dic (putKs ks k) (putVs ks ds k d))))) else .er
    | none => .er
  | _ => .er
theorem js_dput (i : Nat) (hr : RmU X.A) (he : JE X E m .sh e f) (hj : JE X E m .sh j fj) (hmd : mdAt m i = .dk := by rfl) (hN : X.N[i]? = some x := by rfl) (hv : Vis X.env.scope x := by first | exact Or.inl rfl | exact Or.inr (Or.inl rfl) | exact Or.inr (Or.inr rfl))
    (hd : (x == ("__debug__" : Str)) = false := by decide) (hcd : (x == ("__classdict__" : Str)) = false := by decide) (hs : swapsWith e (some (.Subscript (.Name x p1) j p2)) pos.line X.env = pure false := by rfl) :
    JS X E L m m (.Assign [.Subscript (.Name x p1) j p2] e pos) (fPut i f fj) := by
  refine ⟨PSimp (ps_dput (by unfold RmU at hr; omega) (pe_var hN hv hd hcd) hj.pe he.pe hs) fun D σ H h => ?_⟩
  obtain ⟨S0, H0, ρ, ⟨S, Fp, st⟩, p⟩ := h
  unfold fPut at p
  split at p
  · rename_i ks ds exs
    refine ⟨S, ρ, st.envM, (lift_post st p).post fun d v S1 H1 s1 r k1 => ?_⟩
    have st1 := st.step s1
    obtain ⟨w, e1, o⟩ := st1.2.1.at_ i _ exs
    refine ⟨w, e1, S1, ρ, st1.envM, (lift_post st1 k1).post fun y vy S2 H2 s2 ry k2 => ?_⟩
    have st2 := st1.step s2
    obtain ⟨w2, e2, o2⟩ := st2.2.1.at_ i _ exs
    rw [e1] at e2
    cases e2
    rw [hmd] at o2
    obtain ⟨q, kvs, ds', ew, ed, efp, sq, hq, rv⟩ := o2
    cases ed
    cases ek : keyD y with
    | none => rw [ek] at k2; exact k2.elim
    | some kk =>
      rw [ek] at k2
      have k2 : SPost X.K X.mg E L S0 H0 m (if szOk ((kvs.map (·.1)).length + 1) = true then .ok (.nx (ρ.set i (some (.dic (putKs (kvs.map (·.1)) kk) (putVs (kvs.map (·.1)) ds kk d))))) else .er) D := k2
      split at k2
      · rename_i hz
        have hz := szOk_lt hz
        rw [List.length_map] at hz
        have ey := keyD_ok ry ek
        obtain ⟨pk1, pk2⟩ := put_ok (k := kk) rv (r.mono s2.ss)
        refine ⟨q, upd H2 q (.dK (putK kvs kk v)), ew, by rw [ey]; exact DPut.k hq hz, ?_⟩
        refine k2 σ _ (st2.writeG (v := w) (d1 := .dic (putKs (kvs.map (·.1)) kk) (putVs (kvs.map (·.1)) ds kk d)) exs efp e1 sq ?_).stM
        rw [hmd]
        exact ⟨q, putK kvs kk v, _, ew, by rw [pk1], rfl, sq, upd_same, pk2⟩
      · exact k2.elim
  · exact p.elim
/-- d[j] of an own dict -/
theorem je_dgetO (i : Nat) (hr : RmU X.A) (hj : JE X E m .sh j fj) (hmd : mdAt m i = .dk := by rfl) (hN : X.N[i]? = some x := by rfl) (hv : Vis X.env.scope x := by first | exact Or.inl rfl | exact Or.inr (Or.inl rfl) | exact Or.inr (Or.inr rfl))
    (hd : (x == ("__debug__" : Str)) = false := by decide) (hcd : (x == ("__classdict__" : Str)) = false := by decide) (hs : NoSl j := by intro _ _; rfl) : JE X E m .sh (.Subscript (.Name x p1) j pos) (f2 dGetD (fV i) fj) := by
  refine ⟨PEimp (pe_dget (by unfold RmU at hr; omega) (pe_var hN hv hd hcd) hj.pe hs) fun σ H Q h => ?_⟩
  obtain ⟨S, ρ, hm, hp⟩ := h
  obtain ⟨hs0, Fp, en⟩ := id hm
  unfold f2 fV at hp
  split at hp
  · rename_i d ed
    obtain ⟨v, e1, o⟩ := en.at_ i d ed
    have o1 := o
    rw [hmd] at o1
    obtain ⟨q, kvs, ds, ev, e0, _, sq, hq, rv⟩ := o1
    subst e0
    have hp : Post X.K X.mg (WE E σ) S H .sh ((fj ρ).bind fun y => dGetD (.dic (kvs.map (·.1)) ds) y) Q := hp
    refine ⟨v, e1, S, ρ, hm, (Post.bind hp).post fun dy vy S1 H1 s1 ry k1 => ?_⟩
    cases ek : keyD dy with
    | none => unfold dGetD at k1; rw [ek] at k1; exact k1.elim
    | some kk =>
      have ey := keyD_ok ry ek
      have k2 : Post X.K X.mg (WE E σ) S1 H1 .sh (match look (kvs.map (·.1)) ds kk with
        | some d => .ok d
        | none => .er) Q := by
        unfold dGetD at k1
        rw [ek] at k1
        exact k1
      rcases look_ok (k := kk) rv with ⟨e3, _⟩ | ⟨d', w, e3, e4, rw'⟩
      · rw [e3] at k2; exact k2.elim
      · rw [e3] at k2
        refine ⟨q, w, ev, ?_, Post.val k2 s1.sub (rw'.mono s1.ss)⟩
        rw [ey, ← e4]
        exact DGet.k (s1.hh _ _ hq)
  · exact hp.elim
end
end Da
namespace Da
open PySem PySem.Spec L2
/-! ### own lists of own lists -/
section
variable {K : PySem.W.Frag} {mg : Str → Option Value} {E : WX} {m : Mds} {it : Env → Res (List D)} {g : D → Env → Res Env} {c : Env → Res Bool} {f : Env → Res D} {ts vs : List Nat}
/-- the list of new lists under way -/
def LcO (K : PySem.W.Frag) (mg : Str → Option Value) (g : D → Env → Res Env) (c : Env → Res Bool) (f : Env → Res D) (ρ : Env) (xs ys : List D) (D0 : Addr) (S1 H1 : Hp) (i : Nat) (H : Hp) : Prop :=
  ∃ (S2 : Hp) (ps : List Addr) (dss : List (List D)) (rest : List D), Step S1 H1 S2 H ∧ S2 D0 = none ∧ H D0 = some (.lst (ps.map V.ref)) ∧ ps.length = dss.length ∧ (∀ (j : Nat) (q : Addr) (ds : List D), ps[j]? = some q → dss[j]? = some ds → S2 q = none ∧ ∃ ws, H q = some (.lst ws) ∧ RepL K mg S2 ws ds) ∧
    (D0 :: ps).Nodup ∧ (∀ q, q ∈ ps → H1 q = none) ∧ lcGo g c f ρ (xs.drop i) = .ok rest ∧ ys = dss.map D.lst ++ rest ∧ dss.length ≤ i
theorem lcO_ok {σ : L2.St} {H : Hp} {Q : VK} (hts : ∀ t ∈ ts, t ∈ vs) (h : tE K mg E m .ow2 (fLc vs it g c f) σ H Q) :
    tLc (tI K mg E m it) (tGD K mg m ts g) (tT K mg EF m c) (tE K mg EF m .ow f) vs σ H Q := by
  obtain ⟨S, ρ, hm, hp⟩ := h
  refine ⟨S, ρ, hm, (Post.bind hp).imp fun xs S1 H1 s1 k J w D0 hD => ?_⟩
  split at k
  rotate_left
  · exact k.elim
  rename_i hz
  have hz := szOk_ok hz
  cases eg : lcGo g c f (wipeD ρ vs) xs with
  | ex c' fs => rw [eg] at k; exact k.elim
  | er => rw [eg] at k; exact k.elim
  | ok ys =>
    rw [eg] at k
    have k : Post K mg (WE E σ) S1 H1 .ow2 (.ok (.lst ys)) Q := k
    refine ⟨fun i n H => n = xs.length - i ∧ i ≤ xs.length ∧ LcO K mg g c f (wipeD ρ vs) xs ys D0 S1 H1 i H, ⟨xs.length, by simp, Nat.zero_le _, S1, [], [], ys, Step.hid s1.sub hD, s1.sub.free hD, upd_same, rfl, (fun j q ds a _ => by simp at a), (by simp), (fun q hq => by simp at hq), eg, rfl, Nat.le_refl _⟩, ?_⟩
    rintro i n H2 ⟨rfl, hi, S2, ps, dss, rest, st2, hs2, hd2, hl, hin, hnd, hnew, el, ey, hn⟩
    by_cases hlt : i < xs.length
    · obtain ⟨hgo, hyl⟩ := w.go i xs[i] S2 H2 (List.getElem?_eq_getElem hlt) st2.ss st2.sub
      refine .inr ⟨hgo, LcO K mg g c f (wipeD ρ vs) xs ys D0 S1 H1 (i + 1), fun H' z => ⟨xs.length - (i + 1), by omega, rfl, hlt, z⟩, fun x H3 y => ?_⟩
      obtain ⟨S3, s3, r3⟩ := hyl x H3 y
      rw [List.drop_eq_getElem_cons hlt] at el
      unfold lcGo at el
      cases eg1 : g xs[i] (wipeD ρ vs) with
      | ex c' fs => rw [eg1] at el; cases el
      | er => rw [eg1] at el; cases el
      | ok ρ1 =>
        rw [eg1] at el
        simp only at el
        have st3 := st2.trans s3
        obtain ⟨F, stF⟩ := (((hm.step s1).step st3).wipe vs).bare
        refine ⟨_, _, S3, F, wipeD ρ vs, xs[i], stF, r3, ?_⟩
        rw [eg1]
        intro σ4 S4 F4 H4 st4 s4 hfr
        refine ⟨wipe_eq (by rw [hfr.1, L2.wipe_length]) hfr.2 hts, S4, ρ1, st4.envM, ?_⟩
        cases ec : c ρ1 with
        | ex c' fs => rw [ec] at el; cases el
        | er => rw [ec] at el; cases el
        | ok b =>
          rw [ec] at el
          simp only at el
          intro S5 H5 s5
          have a5 := (s3.trans s4).trans s5
          have keep : ∀ {S' H' : Hp}, Step S2 H2 S' H' → ∀ (j : Nat) (q : Addr) (ds : List D), ps[j]? = some q → dss[j]? = some ds → S' q = none ∧ ∃ ws, H' q = some (.lst ws) ∧ RepL K mg S' ws ds := fun st j q ds e1 e2 => by
            obtain ⟨z1, ws, z2, z3⟩ := hin j q ds e1 e2
            exact ⟨st.out z1 z2, ws, st.hh _ _ z2, z3.mono st.ss⟩
          cases b with
          | false =>
            rw [if_neg (by decide)] at el
            show LcO K mg g c f (wipeD ρ vs) xs ys D0 S1 H1 (i + 1) H5
            exact ⟨S5, ps, dss, rest, st2.trans a5, a5.out hs2 hd2, a5.hh _ _ hd2, hl, keep a5, hnd, hnew, el, ey, by omega⟩
          | true =>
            rw [if_pos rfl] at el
            show tE K mg EF m Md.ow f σ4 H5 _
            refine ⟨S5, ρ1, (st4.envM).step s5, ?_⟩
            cases ef : f ρ1 with
            | ex c' fs => rw [ef] at el; cases el
            | er => rw [ef] at el; cases el
            | ok y' =>
              rw [ef] at el
              simp only at el
              intro v S6 H6 fp s6 o _ hf
              have a6 := a5.trans s6
              cases er : lcGo g c f (wipeD ρ vs) (xs.drop (i + 1)) with
              | ex c' fs => rw [er] at el; cases el
              | er => rw [er] at el; cases el
              | ok rest' =>
                rw [er] at el
                cases el
                obtain ⟨p, us, es, rfl, rfl, rfl, sp, hp6, rp⟩ := o
                have hp5 : H5 p = none := hf p List.mem_cons_self
                have hpD : p ≠ D0 := fun z => by rw [z, a5.hh _ _ hd2] at hp5; cases hp5
                have hp1 : H1 p = none := (st2.trans a5).hh.free hp5
                have hpp : p ∉ ps := fun z => by
                  obtain ⟨j, hj⟩ := List.mem_iff_getElem?.mp z
                  have hjl := (List.getElem?_eq_some_iff.mp hj).1
                  obtain ⟨_, ws, z2, _⟩ := hin j p _ hj (List.getElem?_eq_getElem (by omega))
                  rw [a5.hh _ _ z2] at hp5
                  cases hp5
                refine ⟨ps.map V.ref, a6.hh _ _ hd2, by rw [List.length_map]; omega, S6, ps ++ [p], dss ++ [es], rest', (st2.trans a6).write (a6.out hs2 hd2) hD, a6.out hs2 hd2, ?_, by simp [hl], fun j q ds e1 e2 => ?_, ?_, fun q hq => ?_, er, by rw [ey]; simp, by simp; omega⟩
                · rw [upd_same]; simp
                · by_cases hj : j < ps.length
                  · rw [List.getElem?_append_left hj] at e1
                    rw [List.getElem?_append_left (by omega)] at e2
                    obtain ⟨z1, ws, z2, z3⟩ := keep a6 j q ds e1 e2
                    refine ⟨z1, ws, ?_, z3⟩
                    rw [upd_ne (fun z => ?_)]
                    · exact z2
                    · have := (List.nodup_cons.mp hnd).1
                      exact this (by rw [← z]; exact List.mem_of_getElem? e1)
                  · have hjl := (List.getElem?_eq_some_iff.mp e1).1
                    rw [List.length_append] at hjl
                    have : j = ps.length := by simp at hjl; omega
                    subst this
                    rw [List.getElem?_concat_length] at e1
                    rw [hl, List.getElem?_concat_length] at e2
                    cases e1; cases e2
                    exact ⟨sp, us, by rw [upd_ne hpD]; exact hp6, rp⟩
                · rw [List.nodup_cons] at hnd ⊢
                  refine ⟨fun z => ?_, ?_⟩
                  · rcases List.mem_append.mp z with z | z
                    · exact hnd.1 z
                    · have z : D0 = p := by simpa using z
                      exact hpD z.symm
                  · rw [List.nodup_append]
                    refine ⟨hnd.2, by simp, fun a ha b hb z => ?_⟩
                    have : b = p := by simpa using hb
                    rw [z, this] at ha
                    exact hpp ha
                · rcases List.mem_append.mp hq with z | z
                  · exact hnew q z
                  · have : q = p := by simpa using z
                    rw [this]; exact hp1
    · have e : i = xs.length := by omega
      subst e
      rw [List.drop_length] at el
      cases el
      rw [List.append_nil] at ey
      subst ey
      refine .inl ⟨w.stop S2 H2 st2.ss st2.sub, k _ S2 H2 (D0 :: ps) st2 ⟨D0, ps, dss, rfl, rfl, rfl, hs2, hd2, hl, hin⟩ hnd (fun a z => ?_)⟩
      rcases List.mem_cons.mp z with z | z
      · rw [z]; exact hD
      · exact hnew a z
end
section
variable {X : Cx} {E : WX} {L : Lp} {m : Mds} {ts : List Nat} {N0 ps0 : List Str} {sc0 : Scope} {elt tg iter e j : Expr} {ifs : List Expr} {scope : Scope} {pos p1 p2 p3 p4 : Pos} {it : Env → Res (List D)} {g : D → Env → Res Env} {c : Env → Res Bool} {f fj : Env → Res D} {x : Str}
theorem je_lcO (Sc : FnScope N0 ps0 sc0) (own : List (Str × Nat)) (hi : JI X E m tg iter it)
    (hg : ∀ (s : Shared) (H : Hp) (C : Addr) (cl : List (Str × Addr)) (fp : List Addr), JG (X.blk s H scope (compEnvC scope cl C X.env) fp) m ts tg g) (ht : ∀ (s : Shared) (H : Hp) (C : Addr) (cl : List (Str × Addr)) (fp : List Addr), JTs (X.blk s H scope (compEnvC scope cl C X.env) fp) EF m ifs c) (he : ∀ (s : Shared) (H : Hp) (C : Addr) (cl : List (Str × Addr)) (fp : List Addr), JE (X.blk s H scope (compEnvC scope cl C X.env) fp) EF m .ow elt f) (hc : X.calm = true := by rfl) (hN0 : X.N = N0 := by rfl) (hsc : X.env.scope = sc0 := by rfl) (ok : blkC N0 sc0 scope own = true := by decide +kernel) (hts : ∀ t ∈ ts, t ∈ own.map (·.2) := by decide)
    (hs : ∀ x, foldedSetIterable iter X.env x = pure x := by intro _; rfl) : JE X E m .ow2 (.ListComp elt [⟨tg, iter, ifs, 0⟩] scope pos) (fLc (own.map (·.2)) it g c f) :=
  ⟨PEimp (pe_lc (g := tGD X.K X.mg m ts g) (tt := tT X.K X.mg EF m c) (te := tE X.K X.mg EF m .ow f) hc (by rw [hN0]; exact Sc.nd) hi.pi (blkOk_by (by rw [hN0, hsc]; exact ok)) (fun s H C cl fp => (hg s H C cl fp).pg) (fun s H C cl fp => (ht s H C cl fp).pt) (fun s H C cl fp => (he s H C cl fp).pe) hs) fun σ H Q h => lcO_ok hts h⟩
theorem js_setLcO (i : Nat) {y : Str} {py spos : Pos} (Sc : FnScope N0 ps0 sc0) (own : List (Str × Nat)) (hi : JI X E m tg iter it)
    (hg : ∀ (s : Shared) (H : Hp) (C : Addr) (cl : List (Str × Addr)) (fp : List Addr), JG (X.blk s H scope (compEnvC scope cl C X.env) fp) m ts tg g) (ht : ∀ (s : Shared) (H : Hp) (C : Addr) (cl : List (Str × Addr)) (fp : List Addr), JTs (X.blk s H scope (compEnvC scope cl C X.env) fp) EF m ifs c) (he : ∀ (s : Shared) (H : Hp) (C : Addr) (cl : List (Str × Addr)) (fp : List Addr), JE (X.blk s H scope (compEnvC scope cl C X.env) fp) EF m .ow elt f) (hl : i < m.length := by first | decide | simp) (hy : X.N[i]? = some y := by rfl) (hyl : X.env.scope.names.lookup y = some .local := by rfl)
    (hsw : swapsWith (.ListComp elt [⟨tg, iter, ifs, 0⟩] scope pos) (some (.Name y py)) spos.line X.env = pure true := by rfl) (hc : X.calm = true := by rfl) (hN0 : X.N = N0 := by rfl) (hsc : X.env.scope = sc0 := by rfl) (ok : blkC N0 sc0 scope own = true := by decide +kernel) (hts : ∀ t ∈ ts, t ∈ own.map (·.2) := by decide)
    (hs : ∀ x, foldedSetIterable iter X.env x = pure x := by intro _; rfl) : JS X E L m (m.set i .ow2) (.Assign [.Name y py] (.ListComp elt [⟨tg, iter, ifs, 0⟩] scope pos) spos) (fSet i (fLc (own.map (·.2)) it g c f)) := by
  refine ⟨PSimp (ps_setLc (g := tGD X.K X.mg m ts g) (tt := tT X.K X.mg EF m c) (te := tE X.K X.mg EF m .ow f) hc (by rw [hN0]; exact Sc.nd) hy hyl hsw hi.pi (blkOk_by (by rw [hN0, hsc]; exact ok)) (fun s H C cl fp => (hg s H C cl fp).pg) (fun s H C cl fp => (ht s H C cl fp).pt) (fun s H C cl fp => (he s H C cl fp).pe) hs) fun D σ H h => ?_⟩
  obtain ⟨S0, H0, ρ, ⟨S, Fp, st⟩, p⟩ := h
  refine lcO_ok hts ⟨S, ρ, st.envM, (lift_post st p).postM fun d v S1 H1 fp s1 o hn hf k => ?_⟩
  refine k _ _ (StF.stM ((st.step s1).set hl o hn (fun a ha => st.1.hh.free (hf a ha)) fun j e' hj ej a ha z => ?_))
  obtain ⟨w, _, o'⟩ := st.2.1.at_ j e' ej
  obtain ⟨_, u, hu⟩ := o'.out ha
  rw [hf a z] at hu
  cases hu
/-- x[j].append(e) of an own list of own lists -/
def fApp2 (i : Nat) (fj fe : Env → Res D) : FS := fun ρ => match ρ[i]? with
  | some (some (.lst xs)) => lift (fj ρ) ρ fun y => match y with
    | .int z => (match ixN xs.length z with
      | some k => (match xs[k]? with
        | some (.lst us) => lift (fe ρ) ρ fun d => if szOk (us.length + 1) = true then .ok (.nx (ρ.set i (some (.lst (xs.set k (.lst (us ++ [d]))))))) else .er
        | _ => .er)
      | none => .er)
    | _ => .er
  | _ => .er
/-- an inner list of slot i is written -/
theorem StF.write2 {K : PySem.W.Frag} {mg : Str → Option Value} {S0 H0 S H : Hp} {Fp : Nat → List Addr} {σ : L2.St} {ρ : Env} {i k : Nat} {ps : List Addr} {p q : Addr} {dss : List (List D)} {ws : List V} {es : List D} (st : StF K mg m S0 H0 S Fp σ ρ H) (hmd : mdAt m i = .ow2) (hρ : ρ[i]? = some (some (.lst (dss.map D.lst))))
    (hp : Fp i = p :: ps) (hσ : σ[i]? = some (some (.ref p))) (sp : S p = none) (hv : H p = some (.lst (ps.map V.ref))) (hl : ps.length = dss.length) (hin : ∀ (j : Nat) (q : Addr) (ds : List D), ps[j]? = some q → dss[j]? = some ds → S q = none ∧ ∃ vs, H q = some (.lst vs) ∧ RepL K mg S vs ds) (hk : ps[k]? = some q) (r : RepL K mg S ws es) :
    StF K mg m S0 H0 S Fp σ (ρ.set i (some (.lst ((dss.set k es).map D.lst)))) (upd H q (.lst ws)) := by
  obtain ⟨s, en, nw⟩ := st
  have hil : i < ρ.length := (List.getElem?_eq_some_iff.mp hρ).1
  have hkl := (List.getElem?_eq_some_iff.mp hk).1
  have sq : S q = none := (hin k q _ hk (List.getElem?_eq_getElem (by omega))).1
  have hq : q ∈ Fp i := by rw [hp]; exact List.mem_cons_of_mem _ (List.mem_of_getElem? hk)
  have h0 : H0 q = none := nw i _ hρ q hq
  have nd := en.nd i _ hρ
  rw [hp, List.nodup_cons] at nd
  have hqp : p ≠ q := fun z => nd.1 (by rw [z]; exact List.mem_of_getElem? hk)
  have key : ∀ j d', (ρ.set i (some (.lst ((dss.set k es).map D.lst))))[j]? = some (some d') → (j = i ∧ d' = .lst ((dss.set k es).map D.lst)) ∨ (j ≠ i ∧ ρ[j]? = some (some d')) := fun j d' ej => by
    by_cases hj : j = i
    · subst hj
      rw [List.getElem?_set_self hil] at ej
      injection ej with z; injection z with z
      exact .inl ⟨rfl, z.symm⟩
    · rw [List.getElem?_set_ne (Ne.symm hj)] at ej
      exact .inr ⟨hj, ej⟩
  have live : ∀ j d', (ρ.set i (some (.lst ((dss.set k es).map D.lst))))[j]? = some (some d') → ∃ d'', ρ[j]? = some (some d'') := fun j d' ej => by
    rcases key j d' ej with ⟨rfl, _⟩ | ⟨_, ej'⟩
    · exact ⟨_, hρ⟩
    · exact ⟨_, ej'⟩
  have same : ∀ {B : Hp}, Same B H → B q = none → Same B (upd H q (.lst ws)) := fun hB hb a u ea => by
    rw [upd_ne (ne_of_none ea hb)]
    exact hB a u ea
  refine ⟨⟨same s.hh h0, s.ss, same s.sub sq, s.new⟩, ⟨by rw [List.length_set]; exact en.len, fun j d' ej => ?_, fun j d' ej => ?_, fun j k' a b hjk e1 e2 => ?_⟩, fun j d' ej => ?_⟩
  · rcases key j d' ej with ⟨rfl, rfl⟩ | ⟨hj, ej'⟩
    · refine ⟨_, hσ, ?_⟩
      rw [hmd]
      refine ⟨p, ps, dss.set k es, rfl, rfl, hp, sp, by rw [upd_ne hqp]; exact hv, by rw [List.length_set]; exact hl, fun j' q' ds' e1 e2 => ?_⟩
      by_cases hjk : j' = k
      · subst hjk
        rw [hk] at e1
        cases e1
        rw [List.getElem?_set_self (by omega)] at e2
        cases e2
        exact ⟨sq, ws, upd_same, r⟩
      · rw [List.getElem?_set_ne (Ne.symm hjk)] at e2
        obtain ⟨z1, vs, z2, z3⟩ := hin j' q' ds' e1 e2
        have hne : q' ≠ q := fun z => by
          obtain ⟨b1, c1⟩ := List.getElem?_eq_some_iff.mp e1
          obtain ⟨b2, c2⟩ := List.getElem?_eq_some_iff.mp hk
          exact hjk ((List.getElem_inj nd.2).mp (c1.trans (z.trans c2.symm)))
        exact ⟨z1, vs, by rw [upd_ne hne]; exact z2, z3⟩
    · obtain ⟨w, e1, o1⟩ := en.at_ j d' ej'
      exact ⟨w, e1, o1.other sq fun z => en.apart i j _ d' (Ne.symm hj) hρ ej' q hq z⟩
  · obtain ⟨d'', h⟩ := live j d' ej
    exact en.nd j d'' h
  · obtain ⟨a', h1⟩ := live j a e1
    obtain ⟨b', h2⟩ := live k' b e2
    exact en.apart j k' a' b' hjk h1 h2
  · obtain ⟨d'', h⟩ := live j d' ej
    exact nw j d'' h
theorem js_app2 (i : Nat) (hj : JE X E m .sh j fj) (he : JE X E m .sh e f) (hmd : mdAt m i = .ow2 := by rfl) (hN : X.N[i]? = some x := by rfl) (hv : Vis X.env.scope x := by first | exact Or.inl rfl | exact Or.inr (Or.inl rfl) | exact Or.inr (Or.inr rfl))
    (hd : (x == ("__debug__" : Str)) = false := by decide) (hcd : (x == ("__classdict__" : Str)) = false := by decide)
    (hs : swapsWith (.Call (.Attribute (.Subscript (.Name x p1) j p4) "append" p2) [e] [] p3) none pos.line X.env = pure false := by rfl) (hsl : PlainIx j := by intro _ _; rfl)
    (hpe : ∀ {to te : TE}, PE X (.Subscript (.Name x p1) j p4) to → PE X e te → PE X (.Call (.Attribute (.Subscript (.Name x p1) j p4) "append" p2) [e] [] p3) (tBM X.K "list" rAppend to (tCons te tNil)) := by
      intro to te ho he
      exact pe_bm PySem.F.plainAttrs_list PySem.F.slot_list_append PySem.F.type_list_append mt_append ho (pa_cons he pa_nil)) :
    JS X E L m m (.Expr (.Call (.Attribute (.Subscript (.Name x p1) j p4) "append" p2) [e] [] p3) pos) (fApp2 i fj f) := by
  refine ⟨PSimp (ps_expr (hpe (pe_ix ix_seq (pe_var hN hv hd hcd) hj.pe hsl) he.pe) hs) fun Dn σ H h => ?_⟩
  obtain ⟨S0, H0, ρ, ⟨S, Fp, st⟩, p⟩ := h
  unfold fApp2 at p
  split at p
  · rename_i xs exs
    obtain ⟨w0, e0, o0⟩ := st.2.1.at_ i _ exs
    rw [hmd] at o0
    obtain ⟨pa, ps, dss, ew, ed, efp, sp, hp, hl, hin⟩ := o0
    have ed : xs = dss.map D.lst := by injection ed
    subst ed ew
    refine ⟨_, e0, S, ρ, st.envM, (lift_post st p).post fun dy vy S1 H1 s1 ry k1 => ?_⟩
    cases dy with
    | int z =>
      cases ry
      have k1 : SPost X.K X.mg E L S0 H0 m (match ixN (dss.map D.lst).length z with
        | some k => (match (dss.map D.lst)[k]? with
          | some (.lst us) => lift (f ρ) ρ fun d => if szOk (us.length + 1) = true then .ok (.nx (ρ.set i (some (.lst ((dss.map D.lst).set k (.lst (us ++ [d]))))))) else .er
          | _ => .er)
        | none => .er) Dn := k1
      cases ek : ixN (dss.map D.lst).length z with
      | none => rw [ek] at k1; exact k1.elim
      | some k =>
        rw [ek] at k1
        simp only at k1
        rw [List.getElem?_map] at k1
        cases eu : dss[k]? with
        | none => rw [eu] at k1; exact k1.elim
        | some us =>
          rw [eu] at k1
          have k1 : SPost X.K X.mg E L S0 H0 m (lift (f ρ) ρ fun d => if szOk (us.length + 1) = true then .ok (.nx (ρ.set i (some (.lst ((dss.map D.lst).set k (.lst (us ++ [d]))))))) else .er) Dn := k1
          have hkl := (List.getElem?_eq_some_iff.mp eu).1
          obtain ⟨q, hq⟩ : ∃ q, ps[k]? = some q := ⟨ps[k]'(by omega), List.getElem?_eq_getElem (by omega)⟩
          have st1 := st.step s1
          have hp1 := s1.hh _ _ hp
          have hat : L2.atI (ps.map V.ref) z = some (V.ref q) := by
            unfold L2.atI
            rw [List.length_map, hl]
            rw [List.length_map] at ek
            rw [ek]
            show (ps.map V.ref)[k]? = _
            rw [List.getElem?_map, hq]
            rfl
          refine .inl ⟨pa, ps.map V.ref, z, V.ref q, rfl, rfl, .inl (.inl hp1), hat, ?_⟩
          obtain ⟨sq, ws, hw, rw'⟩ := hin k q us hq eu
          refine ⟨.inl ⟨rfl, ws, .inl (.inl (s1.hh _ _ hw))⟩, S1, ρ, st1.envM, (lift_post st1 k1).post fun d v S2 H2 s2 r k2 => ?_⟩
          split at k2
          · rename_i hz
            have st2 := st1.step s2
            have s12 := s1.trans s2
            have hin2 : ∀ (j : Nat) (q : Addr) (ds : List D), ps[j]? = some q → dss[j]? = some ds → S2 q = none ∧ ∃ vs, H2 q = some (.lst vs) ∧ RepL X.K X.mg S2 vs ds := fun j q ds a b => by
              obtain ⟨z1, vs, z2, z3⟩ := hin j q ds a b
              exact ⟨s12.out z1 z2, vs, s12.hh _ _ z2, z3.mono s12.ss⟩
            refine ⟨q, ws, v, rfl, rfl, s12.hh _ _ hw, by rw [rw'.len]; exact szOk_lt hz, ?_⟩
            have wr := st2.write2 (es := us ++ [d]) hmd exs efp e0 (s12.out sp hp) (s12.hh _ _ hp) hl hin2 hq ((rw'.mono s12.ss).snoc r)
            rw [List.map_set] at wr
            exact k2 σ _ wr.stM
          · exact k2.elim
    | _ => exact k1.elim
  · exact p.elim
end
end Da
namespace Da
open PySem PySem.Spec L2
/-! ### max(xs), min(xs) of a list of whole numbers -/
def mxI : Int → List Int → Int
  | x, [] => x
  | x, y :: ys => mxI (if y > x then y else x) ys
def mnI : Int → List Int → Int
  | x, [] => x
  | x, y :: ys => mnI (if y < x then y else x) ys
theorem mxI_spec : ∀ (ys : List Int) (x : Int), mxI x ys ∈ x :: ys ∧ ∀ z ∈ x :: ys, z ≤ mxI x ys
  | [], x => ⟨by simp [mxI], fun z hz => by
      have : z = x := by simpa using hz
      rw [this]; exact Int.le_refl _⟩
  | y :: ys, x => by
    have ih := mxI_spec ys (if y > x then y else x)
    unfold mxI
    refine ⟨?_, fun z hz => ?_⟩
    · rcases List.mem_cons.mp ih.1 with h | h
      · rw [h]
        split <;> simp
      · exact List.mem_cons_of_mem _ (List.mem_cons_of_mem _ h)
    · have hx := ih.2 _ List.mem_cons_self
      rcases List.mem_cons.mp hz with h | h
      · rw [h]
        split at hx <;> rename_i q <;> simp only [q, if_true, if_false] <;> omega
      · rcases List.mem_cons.mp h with h | h
        · rw [h]
          split at hx <;> rename_i q <;> simp only [q, if_true, if_false] <;> omega
        · exact ih.2 z (List.mem_cons_of_mem _ h)
theorem mnI_spec : ∀ (ys : List Int) (x : Int), mnI x ys ∈ x :: ys ∧ ∀ z ∈ x :: ys, mnI x ys ≤ z
  | [], x => ⟨by simp [mnI], fun z hz => by
      have : z = x := by simpa using hz
      rw [this]; exact Int.le_refl _⟩
  | y :: ys, x => by
    have ih := mnI_spec ys (if y < x then y else x)
    unfold mnI
    refine ⟨?_, fun z hz => ?_⟩
    · rcases List.mem_cons.mp ih.1 with h | h
      · rw [h]
        split <;> simp
      · exact List.mem_cons_of_mem _ (List.mem_cons_of_mem _ h)
    · have hx := ih.2 _ List.mem_cons_self
      rcases List.mem_cons.mp hz with h | h
      · rw [h]
        split at hx <;> rename_i q <;> simp only [q, if_true, if_false] <;> omega
      · rcases List.mem_cons.mp h with h | h
        · rw [h]
          split at hx <;> rename_i q <;> simp only [q, if_true, if_false] <;> omega
        · exact ih.2 z (List.mem_cons_of_mem _ h)
def dMaxL : D → Res D
  | .lst xs => match intsD xs with
    | some (x :: ys) => .ok (.int (mxI x ys))
    | _ => .er
  | _ => .er
def dMinL : D → Res D
  | .lst xs => match intsD xs with
    | some (x :: ys) => .ok (.int (mnI x ys))
    | _ => .er
  | _ => .er
section
variable {X : Cx} {E : WX} {m : Mds} {e : Expr} {fs : Env → Res (List D)} {p pos : Pos}
theorem je_maxL (hm : X.mg "max" = none) (ha : JA X E m [e] fs) (hc : X.calm = true := by rfl) (hg : Gl X "max" := by rfl) (he : starEach [e] X.env = (false, eval e X.env) :: starEach [] X.env := by rfl) : JE X E m .sh (.Call (.Name "max" p) [e] [] pos) (fOn (on1 dMaxL) fs) :=
  je_callB (cr_max hc) (calld1 fun E S H x d Q hs rx hp => by
    cases d with
    | lst xs =>
      have hq : Post X.K X.mg E S H .sh (match intsD xs with
        | some (x :: ys) => .ok (.int (mxI x ys))
        | _ => .er) Q := hp
      cases en : intsD xs with
      | none => rw [en] at hq; exact hq.elim
      | some ns =>
        cases ns with
        | nil => rw [en] at hq; exact hq.elim
        | cons y ys =>
          rw [en] at hq
          have ex := intsD_ok en
          subst ex
          obtain ⟨a, vs, rfl, ha, rv⟩ := rx.of_lst
          rw [rv.ints] at ha
          refine ⟨a, y :: ys, rfl, .inl (.inl (hs _ _ ha)), by simp, fun k hk hle => ?_⟩
          obtain ⟨h1, h2⟩ := mxI_spec ys y
          have : k = mxI y ys := Int.le_antisymm (h2 k hk) (hle _ h1)
          rw [this]
          exact Post.val hq hs (.int _)
    | _ => exact hp.elim) hm ha hg (by decide +kernel) (by decide) (by decide) he (by rfl)
theorem je_minL (hm : X.mg "min" = none) (ha : JA X E m [e] fs) (hc : X.calm = true := by rfl) (hg : Gl X "min" := by rfl) (he : starEach [e] X.env = (false, eval e X.env) :: starEach [] X.env := by rfl) : JE X E m .sh (.Call (.Name "min" p) [e] [] pos) (fOn (on1 dMinL) fs) :=
  je_callB (cr_min hc) (calld1 fun E S H x d Q hs rx hp => by
    cases d with
    | lst xs =>
      have hq : Post X.K X.mg E S H .sh (match intsD xs with
        | some (x :: ys) => .ok (.int (mnI x ys))
        | _ => .er) Q := hp
      cases en : intsD xs with
      | none => rw [en] at hq; exact hq.elim
      | some ns =>
        cases ns with
        | nil => rw [en] at hq; exact hq.elim
        | cons y ys =>
          rw [en] at hq
          have ex := intsD_ok en
          subst ex
          obtain ⟨a, vs, rfl, ha, rv⟩ := rx.of_lst
          rw [rv.ints] at ha
          refine ⟨a, y :: ys, rfl, .inl (.inl (hs _ _ ha)), by simp, fun k hk hle => ?_⟩
          obtain ⟨h1, h2⟩ := mnI_spec ys y
          have : k = mnI y ys := Int.le_antisymm (hle _ h1) (h2 k hk)
          rw [this]
          exact Post.val hq hs (.int _)
    | _ => exact hp.elim) hm ha hg (by decide +kernel) (by decide) (by decide) he (by rfl)
end
end Da
namespace Da
open PySem PySem.Spec L2
/-! ### native readings of the mirrors: r tells what m gives, by e -/
def Rf {α β : Type} (m : Res β) (r : Res α) (e : α → β) : Prop := match r with
  | .ok v => m = .ok (e v)
  | .ex c fs => m = .ex c fs
  | .er => True
section
variable {α β γ δ : Type} {m : Res β} {r : Res α} {e : α → β} {k : β → Res δ} {h : α → Res γ} {o : γ → δ} {v : α}
theorem rf_er : Rf m (.er : Res α) e := trivial
theorem rf_ok (h : m = .ok (e v)) : Rf m (.ok v) e := h
theorem rf_id : Rf m m (fun x => x) := by cases m <;> first | exact rfl | exact trivial
theorem rf_eq {m' : Res β} (h : m = m') (k : Rf m' r e) : Rf m r e := by rw [h]; exact k
theorem b_p {d : β} {r : Res γ} (hm : m = .ok d) (hk : Rf (k d) r o) : Rf (m.bind k) r o := by rw [hm]; exact hk
theorem b_i (hm : Rf m r e) (hk : ∀ x, Rf (k (e x)) (h x) o) : Rf (m.bind k) (r.bind h) o := by
  cases r with
  | ok v => rw [show m = _ from hm]; exact hk v
  | ex c fs => rw [show m = _ from hm]; exact rfl
  | er => exact trivial
/-- the same, told by another -/
theorem rf_co {α' : Type} {e' : α' → β} (c : α → α') (hm : Rf m r e) (he : ∀ x, e x = e' (c x)) : Rf m (r.bind fun x => .ok (c x)) e' := by
  cases r with
  | ok v => exact (show m = _ from hm).trans (congrArg _ (he v))
  | ex c fs => exact hm
  | er => exact trivial
/-- without exceptions -/
def nx {α : Type} (r : Res α) : Res α := match r with
  | .ok v => .ok v
  | _ => .er
@[simp] theorem nx_ok {α : Type} {v : α} : nx (.ok v) = .ok v := rfl
theorem rf_use {v : α} (hm : Rf m r e) (hr : r = .ok v) : m = .ok (e v) := by rw [hr] at hm; exact hm
end
/-! argument lists -/
section
variable {α γ δ : Type} {ρ : Env} {fa : Env → Res D} {fs : Env → Res (List D)} {k : List D → Res δ} {o : γ → δ}
theorem a_0 {r : Res γ} (h : Rf (k []) r o) : Rf ((fA0 ρ).bind k) r o := h
theorem a_p {d : D} {r : Res γ} (ha : fa ρ = .ok d) (h : Rf ((fs ρ).bind fun xs => k (d :: xs)) r o) : Rf ((fA fa fs ρ).bind k) r o := by
  show Rf (((fa ρ).bind _).bind k) r o
  rw [ha]
  show Rf (((fs ρ).bind fun xs => .ok (d :: xs)).bind k) r o
  revert h
  cases fs ρ <;> exact id
theorem a_i {ra : Res α} {ea : α → D} {h : α → Res γ} (ha : Rf (fa ρ) ra ea) (hk : ∀ x, Rf ((fs ρ).bind fun xs => k (ea x :: xs)) (h x) o) : Rf ((fA fa fs ρ).bind k) (ra.bind h) o := by
  cases ra with
  | ok v => exact a_p ha (hk v)
  | ex c fs' =>
    show ((fa ρ).bind _).bind k = _
    rw [show fa ρ = _ from ha]
    rfl
  | er => exact trivial
end
/-! values -/
section
variable {ρ : Env} {fa fb f : Env → Res D} {g : D → Res D} {g2 : D → D → Res D} {c ca cb : Env → Res Bool} {x y z : D} {a b : Bool}
theorem ev1 (ha : fa ρ = .ok x) (hg : g x = .ok z) : f1 g fa ρ = .ok z := by unfold f1; rw [ha]; exact hg
theorem ev2 (ha : fa ρ = .ok x) (hb : fb ρ = .ok y) (hg : g2 x y = .ok z) : f2 g2 fa fb ρ = .ok z := by unfold f2; rw [ha]; show (fb ρ).bind _ = _; rw [hb]; exact hg
theorem evB (ha : f ρ = .ok (.bl a)) : fB f ρ = .ok a := by unfold fB; rw [ha]; rfl
theorem evBv (ha : c ρ = .ok a) : fBv c ρ = .ok (.bl a) := by unfold fBv; rw [ha]; rfl
theorem evTr (ha : f ρ = .ok x) (ht : trD x = .ok a) : fTr f ρ = .ok a := by unfold fTr; rw [ha]; exact ht
theorem evNot (ha : c ρ = .ok a) : fNot c ρ = .ok (!a) := by unfold fNot; rw [ha]; rfl
theorem evAnd (ha : ca ρ = .ok a) (hb : cb ρ = .ok b) : fAnd ca cb ρ = .ok (a && b) := by unfold fAnd; rw [ha]; cases a <;> first | rfl | exact hb
theorem evOr (ha : ca ρ = .ok a) (hb : cb ρ = .ok b) : fOr ca cb ρ = .ok (a || b) := by unfold fOr; rw [ha]; cases a <;> first | rfl | exact hb
theorem evAndF (ha : ca ρ = .ok false) : fAnd ca cb ρ = .ok false := by unfold fAnd; rw [ha]; rfl
theorem evAndT (ha : ca ρ = .ok true) (hb : cb ρ = .ok b) : fAnd ca cb ρ = .ok b := by unfold fAnd; rw [ha]; exact hb
theorem evOrT (ha : ca ρ = .ok true) : fOr ca cb ρ = .ok true := by unfold fOr; rw [ha]; rfl
theorem evOrF (ha : ca ρ = .ok false) (hb : cb ρ = .ok b) : fOr ca cb ρ = .ok b := by unfold fOr; rw [ha]; exact hb
theorem evIf (hc : c ρ = .ok a) (ha : fa ρ = .ok x) (hb : fb ρ = .ok y) : fIf c fa fb ρ = .ok (if a = true then x else y) := by unfold fIf; rw [hc]; cases a <;> assumption
theorem evSc (h : f ρ = .ok x) (hs : isSc x = true) : fSc f ρ = .ok x := by unfold fSc; rw [h]; show (if isSc x = true then _ else _) = _; rw [hs]; rfl
theorem evNx {α : Type} {f : Env → Res α} {x : α} (h : f ρ = .ok x) : fNx f ρ = .ok x := by unfold fNx; rw [h]
theorem evA {fs : Env → Res (List D)} {xs : List D} (ha : fa ρ = .ok x) (hs : fs ρ = .ok xs) : fA fa fs ρ = .ok (x :: xs) := by unfold fA; rw [ha]; show (fs ρ).bind _ = _; rw [hs]; rfl
theorem evOn {fs : Env → Res (List D)} {xs : List D} {g : List D → Res D} (ha : fs ρ = .ok xs) (hg : g xs = .ok z) : fOn g fs ρ = .ok z := by unfold fOn; rw [ha]; exact hg
theorem evL {xs : List D} (ha : f ρ = .ok x) (hx : asL x = .ok xs) : fL f ρ = .ok xs := by unfold fL; rw [ha]; exact hx
variable {α γ : Type} {o : γ → D} {oB : γ → Bool} {ra : Res α} {ea : α → D}
/-! tests that may fail -/
theorem rAnd {rb : Res Bool} (ha : ca ρ = .ok a) (hb : Rf (cb ρ) rb (fun x => x)) : Rf (fAnd ca cb ρ) (if a = true then rb else .ok false) (fun x => x) := by
  unfold fAnd; rw [ha]; cases a with
  | true => exact hb
  | false => exact rfl
theorem rOr {rb : Res Bool} (ha : ca ρ = .ok a) (hb : Rf (cb ρ) rb (fun x => x)) : Rf (fOr ca cb ρ) (if a = true then .ok true else rb) (fun x => x) := by
  unfold fOr; rw [ha]; cases a with
  | true => exact rfl
  | false => exact hb
theorem rAndI {ra rb : Res Bool} (ha : Rf (ca ρ) ra (fun x => x)) (hb : Rf (cb ρ) rb (fun x => x)) : Rf (fAnd ca cb ρ) (ra.bind fun a => if a = true then rb else .ok false) (fun x => x) := b_i ha fun a => by
  cases a with
  | true => exact hb
  | false => exact rfl
theorem rOrI {ra rb : Res Bool} (ha : Rf (ca ρ) ra (fun x => x)) (hb : Rf (cb ρ) rb (fun x => x)) : Rf (fOr ca cb ρ) (ra.bind fun a => if a = true then .ok true else rb) (fun x => x) := b_i ha fun a => by
  cases a with
  | true => exact rfl
  | false => exact hb
theorem rIf {α : Type} {e : α → D} {r1 r2 : Res α} (hc : c ρ = .ok a) (h1 : Rf (fa ρ) r1 e) (h2 : Rf (fb ρ) r2 e) : Rf (fIf c fa fb ρ) (if a = true then r1 else r2) e := by
  unfold fIf; rw [hc]; cases a with
  | true => exact h1
  | false => exact h2
theorem rIfI {α : Type} {e : α → D} {rc : Res Bool} {r1 r2 : Res α} (hc : Rf (c ρ) rc (fun x => x)) (h1 : Rf (fa ρ) r1 e) (h2 : Rf (fb ρ) r2 e) : Rf (fIf c fa fb ρ) (rc.bind fun a => if a = true then r1 else r2) e := b_i hc fun a => by
  cases a with
  | true => exact h1
  | false => exact h2
theorem rSc (h : Rf (f ρ) ra ea) (hs : ∀ x, isSc (ea x) = true) : Rf (fSc f ρ) (nx ra) ea := by
  cases ra with
  | ok v => exact evSc h (hs v)
  | _ => exact trivial
theorem rNx {α : Type} {β : Type} {f : Env → Res β} {ra : Res α} {ea : α → β} (h : Rf (f ρ) ra ea) : Rf (fNx f ρ) (nx ra) ea := by
  cases ra with
  | ok v => exact evNx h
  | _ => exact trivial
end
/-! encoders -/
def eL {α : Type} (e : α → D) : List α → D := fun xs => .lst (xs.map e)
def eT {α : Type} (e : α → D) : List α → D := fun xs => .tup (xs.map e)
def eF {α : Type} (e : α → D) : List α → D := fun xs => .frl (xs.map e)
def eO {α : Type} (e : α → D) : Option α → D := fun x => match x with
  | none => .non
  | some v => e v
def eN : Unit → D := fun _ => .non
def eP1 {α : Type} (e : α → D) : α → D := fun p => .tup [e p]
def eP2 {α β : Type} (e : α → D) (f : β → D) : α × β → D := fun p => .tup [e p.1, f p.2]
def eP3 {α β γ : Type} (e : α → D) (f : β → D) (g : γ → D) : α × β × γ → D := fun p => .tup [e p.1, f p.2.1, g p.2.2]
def eP4 {α β γ δ : Type} (e : α → D) (f : β → D) (g : γ → D) (h : δ → D) : α × β × γ × δ → D := fun p => .tup [e p.1, f p.2.1, g p.2.2.1, h p.2.2.2]
def eH1 {α : Type} (e : α → D) : α → D := fun p => .lst [e p]
def eH2 {α β : Type} (e : α → D) (f : β → D) : α × β → D := fun p => .lst [e p.1, f p.2]
def eH3 {α β γ : Type} (e : α → D) (f : β → D) (g : γ → D) : α × β × γ → D := fun p => .lst [e p.1, f p.2.1, g p.2.2]
def eH4 {α β γ δ : Type} (e : α → D) (f : β → D) (g : γ → D) (h : δ → D) : α × β × γ × δ → D := fun p => .lst [e p.1, f p.2.1, g p.2.2.1, h p.2.2.2]
def eHH5 {α1 α2 α3 α4 α5 : Type} (e1 : α1 → D) (e2 : α2 → D) (e3 : α3 → D) (e4 : α4 → D) (e5 : α5 → D) : α1 × α2 × α3 × α4 × α5 → D := fun p => .lst [e1 p.1, e2 p.2.1, e3 p.2.2.1, e4 p.2.2.2.1, e5 p.2.2.2.2]
/-- own objects: by their fields' encoders -/
def eOb1 {α : Type} (c : Str) (n1 : Str) (e : α → D) : α → D := fun p => .obj c [n1] [e p]
def eOb2 {α β : Type} (c : Str) (n1 n2 : Str) (e : α → D) (f : β → D) : α × β → D := fun p => .obj c [n1, n2] [e p.1, f p.2]
def eOb3 {α β γ : Type} (c : Str) (n1 n2 n3 : Str) (e : α → D) (f : β → D) (g : γ → D) : α × β × γ → D := fun p => .obj c [n1, n2, n3] [e p.1, f p.2.1, g p.2.2]
def eOb4 {α β γ δ : Type} (c : Str) (n1 n2 n3 n4 : Str) (e : α → D) (f : β → D) (g : γ → D) (h : δ → D) : α × β × γ × δ → D := fun p => .obj c [n1, n2, n3, n4] [e p.1, f p.2.1, g p.2.2.1, h p.2.2.2]
def eOb5 {α1 α2 α3 α4 α5 : Type} (c : Str) (n1 n2 n3 n4 n5 : Str) (e1 : α1 → D) (e2 : α2 → D) (e3 : α3 → D) (e4 : α4 → D) (e5 : α5 → D) : α1 × α2 × α3 × α4 × α5 → D := fun p => .obj c [n1, n2, n3, n4, n5] [e1 p.1, e2 p.2.1, e3 p.2.2.1, e4 p.2.2.2.1, e5 p.2.2.2.2]
/-! partial operations -/
def mulR (i j : Int) : Res Int := if mulOk i j = true then .ok (i * j) else .er
def divR (i j : Int) : Res Int := if 0 < j ∧ j.natAbs.log2 < 9000 then .ok (i / j) else if j < 0 ∧ j.natAbs.log2 < 9000 then .ok (-i / -j) else .er
def modR (i j : Int) : Res Int := if 0 < j then .ok (i % j) else .er
def powR (i j : Int) : Res Int := if powOk i j = true then .ok (i ^ j.toNat) else .er
def shlR (i j : Int) : Res Int := if powOk i j = true then .ok (i * 2 ^ j.toNat) else .er
def shrR (i j : Int) : Res Int := if 0 ≤ j then .ok (i / 2 ^ j.toNat) else .er
def ixR {α : Type} (xs : List α) (i : Int) : Res α := match atI xs i with
  | some x => .ok x
  | none => .er
def catR {α : Type} (xs ys : List α) : Res (List α) := if szOk (xs.length + ys.length) = true then .ok (xs ++ ys) else .er
def appR {α : Type} (xs : List α) (x : α) : Res (List α) := if szOk (xs.length + 1) = true then .ok (xs ++ [x]) else .er
def repR {α : Type} (xs : List α) (k : Int) : Res (List α) := if repOk xs.length k = true then .ok (List.replicate k.toNat xs).flatten else .er
def setR {α : Type} (xs : List α) (i : Int) (x : α) : Res (List α) := match ixN xs.length i with
  | some k => .ok (xs.set k x)
  | none => .er
def popR {α : Type} (xs : List α) (i : Int) : Res (α × List α) := match ixN xs.length i with
  | some k => (match xs[k]? with
    | some y => if szOk xs.length = true then .ok (y, xs.eraseIdx k) else .er
    | none => .er)
  | none => .er
def pop0R {α : Type} (xs : List α) : Res (α × List α) := match xs[xs.length - 1]? with
  | some y => .ok (y, xs.dropLast)
  | none => .er
def app2R {α : Type} (xs : List (List α)) (i : Int) (x : α) : Res (List (List α)) := match ixN xs.length i with
  | some k => (match xs[k]? with
    | some us => if szOk (us.length + 1) = true then .ok (xs.set k (us ++ [x])) else .er
    | none => .er)
  | none => .er
def rngI (lo : Int) (n : Nat) : List Int := (List.range n).map fun (i : Nat) => lo + (i : Int)
def rngR (j : Int) : Res (List Int) := if rngOk 0 j = true then .ok (rngI 0 j.toNat) else .er
def rng2R (i j : Int) : Res (List Int) := if rngOk i j = true then .ok (rngI i (j - i).toNat) else .er
def rngLR (j : Int) : Res (List Int) := if rgnOk 0 j = true then .ok (rngI 0 j.toNat) else .er
def enumI {α : Type} (i : Nat) : List α → List (Int × α)
  | [] => []
  | x :: xs => ((i : Int), x) :: enumI (i + 1) xs
def maxR (xs : List Int) : Res Int := match xs with
  | x :: ys => .ok (mxI x ys)
  | [] => .er
def minR (xs : List Int) : Res Int := match xs with
  | x :: ys => .ok (mnI x ys)
  | [] => .er
def idxR (xs : List Int) (k : Int) : Res Int := if k ∈ xs then .ok (xs.idxOf k : Nat) else .er
def sizeR {α : Type} (xs : List α) : Res Unit := if xs.length ≤ 100000 then .ok () else .er
def cutN {α : Type} (xs : List α) (lo hi : Option Int) : List α := (xs.drop (HT.sIx xs.length 0 lo)).take (HT.sIx xs.length xs.length hi - HT.sIx xs.length 0 lo)
/-- comprehensions -/
def lcR {α β : Type} (xs : List α) (c : α → Res Bool) (f : α → Res β) : Res (List β) := if szOk xs.length = true then go xs else .er
where go : List α → Res (List β)
  | [] => .ok []
  | x :: xs => (nx (c x)).bind fun b => if b = true then (nx (f x)).bind fun y => (go xs).bind fun ys => .ok (y :: ys) else go xs
def lc2R {α β γ : Type} (xs : List α) (c : α → Res Bool) (i1 : α → Res (List β)) (c1 : α → β → Res Bool) (f : α → β → Res γ) : Res (List γ) := (go xs).bind fun ys => if szOk ys.length = true then .ok ys else .er
where go : List α → Res (List γ)
  | [] => .ok []
  | x :: xs => (nx (c x)).bind fun b => if b = true then (nx (i1 x)).bind fun ys => (lcR.go (c1 x) (f x) ys).bind fun zs => (go xs).bind fun ws => .ok (zs ++ ws) else go xs
/-- loops -/
inductive Ctl (σ β : Type) where
  | go (s : σ) | out (s : σ) | ret (b : β)
def forR {α σ : Type} (f : σ → α → Res σ) : List α → σ → Res σ
  | [], s => .ok s
  | x :: xs, s => (f s x).bind fun s => forR f xs s
/-- with breaks and returns -/
def forC {α σ β : Type} (f : σ → α → Res (Ctl σ β)) : List α → σ → Res (Ctl σ β)
  | [], s => .ok (.go s)
  | x :: xs, s => (f s x).bind fun o => match o with
    | .go s => forC f xs s
    | .out s => .ok (.go s)
    | .ret b => .ok (.ret b)
def whileC {σ β : Type} (c : σ → Res Bool) (f : σ → Res (Ctl σ β)) : Nat → σ → Res (Ctl σ β)
  | 0, _ => .er
  | n + 1, s => (c s).bind fun b => if b = true then (f s).bind fun o => (match o with
    | .go s => whileC c f n s
    | .out s => .ok (.go s)
    | .ret b => .ok (.ret b)) else .ok (.go s)
/-- a loop's end without a return -/
def ctlS {σ β : Type} (o : Ctl σ β) : Res σ := match o with
  | .go s => .ok s
  | .out s => .ok s
  | .ret _ => .er
/-! ends of runs -/
structure Fin {δ : Type} (K : Res Fl → Res δ) : Prop where
  xc : ∀ c fs ρ, K (.ok (.xc c fs ρ)) = .ex c fs
/-- the slots vs forgotten -/
def fgt (vs : List Nat) (m : Res Fl) : Res Fl := match m with
  | .ok (.nx ρ) => .ok (.nx (wipeD ρ vs))
  | .ok (.bk ρ) => .ok (.bk (wipeD ρ vs))
  | .ok (.ct ρ) => .ok (.ct (wipeD ρ vs))
  | m => m
def fFgt (vs : List Nat) (F : FS) : FS := fun ρ => fgt vs (F ρ)
def finS (vs : List Nat) (m : Res Fl) : Res Fl := match m with
  | .ok (.nx ρ) => .ok (.nx (wipeD ρ vs))
  | .ok (.xc c fs _) => .ex c fs
  | _ => .er
def finL (vs : List Nat) (m : Res Fl) : Res Fl := match m with
  | .ok (.nx ρ) => .ok (.nx (wipeD ρ vs))
  | .ok (.ct ρ) => .ok (.nx (wipeD ρ vs))
  | .ok (.bk ρ) => .ok (.bk (wipeD ρ vs))
  | .ok (.rt d) => .ok (.rt d)
  | .ok (.xc c fs _) => .ex c fs
  | _ => .er
def finF (md : Md) (m : Res Fl) : Res D := match m with
  | .ok (.rt d) => .ok d
  | .ok (.nx _) => if md = .sh then .ok .non else .er
  | .ok (.xc c fs _) => .ex c fs
  | _ => .er
def finI (m : Res Fl) : Res D := match m with
  | .ok (.nx ρ) => (match ρ[0]? with
    | some (some d) => .ok d
    | _ => .er)
  | .ok (.xc c fs _) => .ex c fs
  | _ => .er
theorem fin_S {vs : List Nat} : Fin (finS vs) := ⟨fun _ _ _ => rfl⟩
theorem fin_L {vs : List Nat} : Fin (finL vs) := ⟨fun _ _ _ => rfl⟩
theorem fin_F {md : Md} : Fin (finF md) := ⟨fun _ _ _ => rfl⟩
theorem fin_I : Fin finI := ⟨fun _ _ _ => rfl⟩
section
variable {α β γ δ σ : Type} {K : Res Fl → Res δ} {F G A B C : FS} {ρ ρ' : Env} {N N1 N2 : Res γ} {o : γ → δ} {r : Res α} {E : α → Env} {k : α → Res γ} {c : Env → Res Bool} {b : Bool} {f : Env → Res D} {e : α → D} {v : α} {d : D} {i : Nat}
theorem n_runF {n : Nat} {md : Md} {ds : List D} {e : γ → D} (h : Rf (finF md (F (startE n ds))) N e) : Rf (runF n md F ds) N e := h
theorem n_runI {n : Nat} {cn : Str} {ds : List D} {e : γ → D} (h : Rf (finI (F (some (.obj cn [] []) :: (ds.map some ++ List.replicate (n - 1 - ds.length) none)))) N e) : Rf (runI n cn F ds) N e := h
theorem finS_nx {vs : List Nat} {m : Res Fl} {ρ : Env} (h : finS vs m = .ok (.nx ρ)) : ∃ ρ1, m = .ok (.nx ρ1) ∧ wipeD ρ1 vs = ρ := by
  unfold finS at h
  split at h
  · cases h; exact ⟨_, rfl, rfl⟩
  · cases h
  · cases h
theorem finS_ex {vs : List Nat} {m : Res Fl} {c : Str} {fs : List (Str × D)} (h : finS vs m = .ex c fs) : ∃ ρ1, m = .ok (.xc c fs ρ1) := by
  unfold finS at h
  split at h
  · cases h
  · cases h; exact ⟨_, rfl⟩
  · cases h
theorem t_seq (hK : Fin K) (E : α → Env) (h : Rf (finS [] (F ρ)) r (fun s => .nx (E s))) (hk : ∀ s, Rf (K (G (E s))) (k s) o) : Rf (K (fSeq F G ρ)) (r.bind k) o := by
  cases r with
  | ok s =>
    obtain ⟨ρ1, e1, e2⟩ := finS_nx h
    have e2 : ρ1 = E s := e2
    subst e2
    rw [fSeq_nx e1]
    exact hk s
  | ex c fs =>
    obtain ⟨ρ1, e1⟩ := finS_ex h
    have : fSeq F G ρ = .ok (.xc c fs ρ1) := by unfold fSeq; rw [e1]
    rw [this, hK.xc]
    exact rfl
  | er => exact trivial
theorem t_seqp (ρ' : Env) (h : F ρ = .ok (.nx ρ')) (hk : Rf (K (G ρ')) N o) : Rf (K (fSeq F G ρ)) N o := by rw [fSeq_nx h]; exact hk
theorem t_end (h : Rf (K (fSeq F fNext ρ)) N o) : Rf (K (F ρ)) N o := by
  have : fSeq F fNext ρ = F ρ := by
    unfold fSeq
    split
    · rename_i e; rw [e]; rfl
    · rfl
  rw [this] at h
  exact h
theorem t_assoc (h : Rf (K (fSeq A (fSeq B C) ρ)) N o) : Rf (K (fSeq (fSeq A B) C ρ)) N o := by
  have : fSeq A (fSeq B C) ρ = fSeq (fSeq A B) C ρ := by
    show andThen (A ρ) (fSeq B C) = andThen (andThen (A ρ) B) C
    cases A ρ with
    | ok x => cases x <;> rfl
    | _ => rfl
  rw [this] at h
  exact h
theorem t_nextS (h : Rf (K (G ρ)) N o) : Rf (K (fSeq fNext G ρ)) N o := h
theorem t_next {v : γ} (h : K (.ok (.nx ρ)) = .ok (o v)) : Rf (K (fNext ρ)) (.ok v) o := h
theorem t_brk {v : γ} (h : K (.ok (.bk ρ)) = .ok (o v)) : Rf (K (fSeq fBrk G ρ)) (.ok v) o := h
theorem t_cnt {v : γ} (h : K (.ok (.ct ρ)) = .ok (o v)) : Rf (K (fSeq fCnt G ρ)) (.ok v) o := h
theorem t_retp {v : γ} {d : D} (hf : f ρ = .ok d) (h : K (.ok (.rt d)) = .ok (o v)) : Rf (K (fSeq (fRet f) G ρ)) (.ok v) o := by
  show K (fSeq (fRet f) G ρ) = _
  have : fSeq (fRet f) G ρ = .ok (.rt d) := by unfold fSeq fRet; rw [hf]; rfl
  rw [this, h]
theorem t_ret (hK : Fin K) {h : α → γ} (hf : Rf (f ρ) r e) (hk : ∀ v, K (.ok (.rt (e v))) = .ok (o (h v))) : Rf (K (fSeq (fRet f) G ρ)) (r.bind fun v => .ok (h v)) o := by
  cases r with
  | ok v => exact t_retp hf (hk v)
  | ex c fs =>
    have : fSeq (fRet f) G ρ = .ok (.xc c fs ρ) := by unfold fSeq fRet; rw [show f ρ = _ from hf]; rfl
    rw [this, hK.xc]
    exact rfl
  | er => exact trivial
/-- at a def's level -/
theorem t_retF {md : Md} {e : γ → D} (hf : Rf (f ρ) N e) : Rf (finF md (fSeq (fRet f) G ρ)) N e := by
  cases N with
  | ok v => exact t_retp hf rfl
  | ex c fs =>
    have : fSeq (fRet f) G ρ = .ok (.xc c fs ρ) := by unfold fSeq fRet; rw [show f ρ = _ from hf]; rfl
    rw [this]
    exact rfl
  | er => exact trivial
theorem t_retNp {v : γ} (h : K (.ok (.rt .non)) = .ok (o v)) : Rf (K (fSeq fRetN G ρ)) (.ok v) o := h
theorem lift_p {α : Type} {r : Res α} {a : α} {k : α → Res Fl} (h : r = .ok a) : lift r ρ k = k a := by rw [h]; rfl
theorem t_if (hc : c ρ = .ok b) (h1 : Rf (K (fSeq A G ρ)) N1 o) (h2 : Rf (K (fSeq B G ρ)) N2 o) : Rf (K (fSeq (fIfS c A B) G ρ)) (if b = true then N1 else N2) o := by
  have : fSeq (fIfS c A B) G ρ = if b = true then fSeq A G ρ else fSeq B G ρ := by
    show andThen (lift (c ρ) ρ _) G = _
    rw [lift_p hc]
    cases b <;> rfl
  rw [this]
  cases b with
  | true => exact h1
  | false => exact h2
theorem t_ifT (hc : c ρ = .ok true) (h1 : Rf (K (fSeq A G ρ)) N o) : Rf (K (fSeq (fIfS c A B) G ρ)) N o := t_if (N2 := .er) hc h1 trivial
theorem t_ifF (hc : c ρ = .ok false) (h1 : Rf (K (fSeq B G ρ)) N o) : Rf (K (fSeq (fIfS c A B) G ρ)) N o := t_if (N1 := .er) hc trivial h1
theorem t_ifI (hK : Fin K) {rc : Res Bool} (hc : Rf (c ρ) rc (fun x => x)) (h1 : Rf (K (fSeq A G ρ)) N1 o) (h2 : Rf (K (fSeq B G ρ)) N2 o) : Rf (K (fSeq (fIfS c A B) G ρ)) (rc.bind fun b => if b = true then N1 else N2) o := by
  cases rc with
  | ok b => exact t_if hc h1 h2
  | ex cn fs =>
    have : fSeq (fIfS c A B) G ρ = .ok (.xc cn fs ρ) := by
      show andThen (lift (c ρ) ρ _) G = _
      rw [show c ρ = _ from hc]
      rfl
    rw [this, hK.xc]
    exact rfl
  | er => exact trivial
/-- a test for None of what may be None -/
theorem t_ifN {τ : Type} {x : Option τ} {n2 : τ → Res γ} (h1 : x = none → Rf (K (F ρ)) N1 o) (h2 : ∀ y, x = some y → Rf (K (F ρ)) (n2 y) o) : Rf (K (F ρ)) (match x with | none => N1 | some y => n2 y) o := by
  cases x with
  | none => exact h1 rfl
  | some y => exact h2 y rfl
/-- single statements -/
theorem s_if {vs : List Nat} (hF : Rf (finS vs (fSeq F fNext ρ)) N1 o') : Rf (finS [] (fFgt vs F ρ)) N1 o' := by
  have h := t_end hF
  have : finS [] (fFgt vs F ρ) = finS vs (F ρ) := by
    unfold fFgt fgt finS
    cases F ρ with
    | ok x => cases x <;> rfl
    | _ => rfl
  rw [this]
  exact h
theorem s_setp (E : α → Env) (hf : f ρ = .ok (e v)) (hE : ρ.set i (some (e v)) = E v) : Rf (finS [] (fSet i f ρ)) (.ok v) (fun s => .nx (E s)) := by
  show finS [] (lift (f ρ) ρ _) = _
  rw [lift_p hf]
  show Res.ok (Fl.nx (ρ.set i (some (e v)))) = Res.ok (Fl.nx (E v))
  rw [hE]
theorem s_set (E : α → Env) (hf : Rf (f ρ) r e) (hE : ∀ v, ρ.set i (some (e v)) = E v) : Rf (finS [] (fSet i f ρ)) r (fun s => .nx (E s)) := by
  cases r with
  | ok v => exact s_setp E hf (hE v)
  | ex c fs =>
    show finS [] (lift (f ρ) ρ _) = _
    rw [show f ρ = _ from hf]
    rfl
  | er => exact trivial
theorem s_drop (hf : Rf (f ρ) r e) : Rf (finS [] (fDrop f ρ)) r (fun _ => .nx ρ) := by
  cases r with
  | ok v => show finS [] (lift (f ρ) ρ _) = _; rw [lift_p hf]; rfl
  | ex c fs => show finS [] (lift (f ρ) ρ _) = _; rw [show f ρ = _ from hf]; rfl
  | er => exact trivial
end
end Da
namespace Da
open PySem PySem.Spec L2
/-! ### slots forgotten behind a statement -/
theorem wipe_some {ρ : Env} {i : Nat} {d : D} : ∀ {vs : List Nat}, (wipeD ρ vs)[i]? = some (some d) → ρ[i]? = some (some d)
  | [], h => h
  | v :: vs, h => by
    unfold wipeD at h
    rw [List.getElem?_set] at h
    split at h
    · split at h <;> cases h
    · exact wipe_some h
theorem wipe_len {ρ : Env} : ∀ {vs : List Nat}, (wipeD ρ vs).length = ρ.length
  | [] => rfl
  | v :: vs => by unfold wipeD; rw [List.length_set, wipe_len]
section
variable {K : PySem.W.Frag} {mg : Str → Option Value} {m : Mds} {S0 H0 H : Hp} {σ : L2.St} {ρ : Env} {vs : List Nat}
theorem StM.wipe (h : StM K mg m S0 H0 σ ρ H) : StM K mg m S0 H0 σ (wipeD ρ vs) H := by
  obtain ⟨S, F, h1, h2, h3⟩ := h
  exact ⟨S, F, h1, ⟨by rw [wipe_len]; exact h2.len, fun i d e => h2.at_ i d (wipe_some e), fun i d e => h2.nd i d (wipe_some e), fun i j d e n a b => h2.apart i j d e n (wipe_some a) (wipe_some b)⟩, fun i d e => h3 i d (wipe_some e)⟩
theorem spost_fgt {E : WX} {L : Lp} {m' : Mds} {o : Res Fl} {Dn : Ends} (h : SPost K mg E L S0 H0 m' (fgt vs o) Dn) : SPost K mg E L S0 H0 m' o Dn := by
  cases o with
  | ok o =>
    cases o with
    | nx ρ => exact fun σ H s => h σ H s.wipe
    | bk ρ => exact fun σ H s => h σ H s.wipe
    | ct ρ => exact fun σ H s => h σ H s.wipe
    | rt d => exact h
    | xc c fs ρ => exact h
  | ex c fs => exact h
  | er => exact h
end
section
variable {X : Cx} {E : WX} {L : Lp} {m m' : Mds} {st : Stmt} {sts : List Stmt} {F : FS}
theorem js_fgt (vs : List Nat) (h : JS X E L m m' st F) : JS X E L m m' st (fFgt vs F) :=
  ⟨PSimp h.ps fun D σ H q => by
    obtain ⟨S0, H0, ρ, a, b⟩ := q
    exact ⟨S0, H0, ρ, a, spost_fgt b⟩⟩
theorem jss_fgt (vs : List Nat) (h : JSs X E L m m' sts F) : JSs X E L m m' sts (fFgt vs F) :=
  ⟨PSsimp h.ps fun D σ H q => by
    obtain ⟨S0, H0, ρ, a, b⟩ := q
    exact ⟨S0, H0, ρ, a, spost_fgt b⟩⟩
end
end Da
namespace Da
open PySem PySem.Spec L2
/-! ### own errors: made and raised -/
def veT : List Value := [.type "ValueError", .type "Exception", .type "BaseException", .type "object"]
/-- an own error class without an __init__ -/
def Err0 (K : PySem.W.Frag) (mg : Str → Option Value) (x : Str) : Prop := ∃ C, mg x = some (.ref C) ∧ PySem.W.excIn K C veT "ValueError.__new__" = true ∧ PySem.W.keepIn K (.ref C) = true ∧
  PySem.W.subIn K (.ref C) (.type "BaseException") = some true ∧ PySem.W.typeIn K (.ref C) = some (.type "type")
/-- raise c(..): the fields stand in the reverse of their order -/
def fRaise (c : Str) (ns : List Str) (fs : Env → Res (List D)) : FS := fun ρ => lift (fs ρ) ρ fun ds => if ds.length = ns.length then .ok (.xc c (ns.zip ds).reverse ρ) else .er
section
variable {X : Cx} {E : WX} {L : Lp} {m m' : Mds} {c : Str} {p pos p1 : Pos}
theorem pmk_none (T : Err0 X.K X.mg c) (hg : Gl X c) (hdb : (c == ("__debug__" : Str)) = false) : PMk X (.Call (.Name c p) [] [] pos) (fun _ H Q => ∀ C, X.mg c = some (.ref C) → Q (.ref C) none H) := by
  obtain ⟨C, gC, q, kC, e1, e2⟩ := T
  intro pins s σ H Q I h
  have rr : Raises X (.ref C) := raises_own e1 e2
  apply wpAny_Call_Name_kw
  refine ld_glob I hg gC ?_ hdb
  refine PySem.W.callWith_K0 I.kIn kC ?_
  show wpAny _ _ (call (.ref C) []) _ _ _
  obtain ⟨b1, b2, b3, b4, b5, b6, b7, b8, b9, b10, b11, b12, b13, b14, b15, b16, b17, o1, o2, o3, o4⟩ := exc_obj I.kIn q
  exact wpAny_call_exc_subT PySem.F.excBase_ValueError o4 o1 o2 o3 (fun h' e made => mk_of I made rr (h C gC) (I.hok.gone made.new)) (Nat.zero_le _)
theorem js_raise0 (T : Err0 X.K X.mg c) (tk : Takes X E) (hc : X.calm = true := by rfl) (hg : Gl X c := by rfl) (hdb : (c == ("__debug__" : Str)) = false := by decide) :
    JS X E L m m' (.Raise (some (.Call (.Name c p) [] [] p1)) none pos) (fRaise c [] fA0) := by
  refine ⟨PSimp (ps_raise hc tk (pmk_none T hg hdb)) fun D σ H h => ?_⟩
  obtain ⟨S0, H0, ρ, ⟨S, Fp, st⟩, q⟩ := h
  intro C gC
  obtain ⟨S2, F2, st2, ss⟩ := st.weak (Weak.nil m)
  exact q σ S2 F2 H _ none st2 ⟨gC, .inl ⟨rfl, rfl⟩⟩
end
/-! an __init__ that stores what it is given -/
def tInit (K : PySem.W.Frag) : List (Str × Nat) → TS
  | [] => tNext
  | q :: r => tSeq (tOst K q.1 (tVar 0) (tVar q.2)) (tInit K r)
/-- the error at a, with the fields acc stored so far -/
def Made (a C : Addr) (H0 : Hp) (acc : List (Str × V)) (H : Hp) : Prop := (acc = [] ∧ H = H0 ∧ H0 a = some (exo a C none)) ∨ ∃ d, H0 d = none ∧ d ≠ a ∧ H = upd (upd H0 d (exd d acc)) a (exo a C (some d))
theorem upd_twice {H : Hp} {a : Addr} {o u : HO} : upd (upd H a o) a u = upd H a u := by
  funext b
  by_cases h : b = a
  · rw [h, upd_same, upd_same]
  · rw [upd_ne h, upd_ne h, upd_ne h]
theorem upd_swap {H : Hp} {a b : Addr} {o u : HO} (h : a ≠ b) : upd (upd H a o) b u = upd (upd H b u) a o := by
  funext x
  by_cases hb : x = b
  · subst hb
    rw [upd_same, upd_ne (fun z => h z.symm), upd_same]
  · rw [upd_ne hb]
    by_cases ha : x = a
    · subst ha; rw [upd_same, upd_same]
    · rw [upd_ne ha, upd_ne ha, upd_ne hb]
theorem init_run {K : PySem.W.Frag} {a C : Addr} {σ : L2.St} {D : Ends} {H0 : Hp} (T : OexC K C) (hσ : σ[0]? = some (some (.ref a))) : ∀ (fj : List (Str × Nat)) (ys : List V) (acc : List (Str × V)) (H : Hp), fj.length = ys.length →
    (∀ (k : Nat) (q : Str × Nat) (y : V), fj[k]? = some q → ys[k]? = some y → σ[q.2]? = some (some y)) → (∀ q ∈ fj, PySem.W.findIn K (.ref C) q.1 = some none) → acc.length + fj.length ≤ 900 → Made a C H0 acc H →
    (∀ H', Made a C H0 (((fj.map (·.1)).zip ys).reverse ++ acc) H' → D.nx σ H') → tInit K fj D σ H
  | [], ys, acc, H, hl, hy, hn, hz, hm, k => k H hm
  | q :: r, [], acc, H, hl, hy, hn, hz, hm, k => by cases hl
  | q :: r, y :: ys, acc, H, hl, hy, hn, hz, hm, k => by
    have go : ∀ H', Made a C H0 ((q.1, y) :: acc) H' → tInit K r D σ H' := fun H' m' => by
      refine init_run T hσ r ys _ H' (by simpa using hl) (fun k' q' y' a b => hy (k' + 1) q' y' (by simpa using a) (by simpa using b)) (fun q' h' => hn q' (List.mem_cons_of_mem _ h')) (by simp at hz ⊢; omega) m' fun H2 m2 => k H2 ?_
      simpa using m2
    refine ⟨y, hy 0 q y rfl rfl, .ref a, hσ, a, C, rfl, T, hn q List.mem_cons_self, ?_⟩
    rcases hm with ⟨e1, e2, e3⟩ | ⟨d, e1, e2, e3⟩
    · subst e1; subst e2
      exact .inl ⟨e3, fun dx hd hne => go _ (.inr ⟨dx, hd, hne, rfl⟩)⟩
    · subst e3
      refine .inr ⟨d, acc, upd_same, by rw [upd_ne e2]; exact upd_same, by simp at hz; omega, go _ (.inr ⟨d, e1, e2, ?_⟩)⟩
      rw [upd_swap (fun z => e2 z.symm), upd_twice]
/-- what such an __init__ promises -/
def spX (K : PySem.W.Frag) (C : Addr) (ns : List Str) : Sp := fun vs H Q _ => ∃ a us, vs = .ref a :: us ∧ us.length = ns.length ∧ H a = some (exo a C none) ∧ ∀ d, H d = none → d ≠ a → Q .non (upd (upd H d (exd d (ns.zip us).reverse)) a (exo a C (some d)))
/-- an own error class with such an __init__ -/
def ErrN (P : Program) (w : World) (K : PySem.W.Frag) (mg : Str → Option Value) (base : Heap) (x : Str) (k : Nat) (ns : List Str) : Prop := ∃ C fI fd ps, mg x = some (.ref C) ∧ OexC K C ∧
  PySem.W.findIn K (.ref C) "__init__" = some (some (.ref fI)) ∧ PySem.W.typeIn K (.ref fI) = some (.type "function") ∧ Binds K fd ps [] ∧ FnOk P w K mg base (L2.CX P w) k fI fd ps (spX K C ns)
def ErrAt (K : PySem.W.Frag) (mg : Str → Option Value) (x qual : Str) (st : Stmt) (ps ns : List Str) : Prop := ∃ C fI fd, mg x = some (.ref C) ∧ OexC K C ∧
  PySem.W.findIn K (.ref C) "__init__" = some (some (.ref fI)) ∧ PySem.W.typeIn K (.ref fI) = some (.type "function") ∧ Fun K "__init__" qual st fI fd ∧ Binds K fd ps [] ∧ ∀ f ∈ ns, PySem.W.findIn K (.ref C) f = some none
section
variable {P : Program} {w : World} {K : PySem.W.Frag} {mg : Str → Option Value} {base h : Heap} {x qual : Str} {st : Stmt} {ps ns N : List Str} {k : Nat}
theorem errN_of {fj : List (Str × Nat)} (dA : ErrAt K mg x qual st ps ns) (Sc : FnScope N ps (defScope st)) (hns : fj.map (·.1) = ns) (hj : fj.map (·.2) = (List.range ns.length).map (· + 1)) (hps : ps.length = ns.length + 1) (hN : N.length = ps.length) (h0 : ns ≠ []) (hz : ns.length ≤ 900)
    (h : ∀ (f : Addr) (cdv : Value) (A : Around) (outer : List PySem.Env) (s : Shared) (H : Hp) (E : XK), PSs (cxOf (L2.CX P w) P w K mg base N qual (defScope st) f cdv A outer s H E) (defBody st) (tInit K fj)) : ErrN P w K mg base x (k + 1) ns := by
  obtain ⟨C, fI, fd, hC, T, i1, i2, Fn, bd, hf⟩ := dA
  refine ⟨C, fI, fd, ps, hC, T, i1, i2, bd, Fn.okX Sc (fun vs H Q E hsp => ?_) (fun cdv A outer s H vs Q E hr hsp => ⟨_, h fI cdv A outer s H E, ?_⟩)⟩
  · obtain ⟨a, us, rfl, e, _⟩ := hsp
    rw [List.length_cons, e, hps]
  · obtain ⟨a, us, rfl, e, ea, q⟩ := hsp
    have hfl : fj.length = ns.length := by rw [← hns, List.length_map]
    have hst : L2.start N (.ref a :: us) = (V.ref a :: us).map some := by
      unfold L2.start
      rw [show N.length - (V.ref a :: us).length = 0 from by rw [hN, hps, List.length_cons, e]; omega]
      simp
    refine init_run T (by rw [hst]; rfl) fj us [] H (by rw [hfl, e]) (fun k' q' y a1 a2 => ?_) (fun q' hq => hf _ (by rw [← hns]; exact List.mem_map_of_mem hq)) (by rw [hfl]; simpa using hz) (.inl ⟨rfl, rfl, ea⟩) fun H' m' => ?_
    · have : (fj.map (·.2))[k']? = some q'.2 := by rw [List.getElem?_map, a1]; rfl
      rw [hj, List.getElem?_map] at this
      have hk : k' < ns.length := by rw [← hfl]; exact (List.getElem?_eq_some_iff.mp a1).1
      rw [List.getElem?_range hk] at this
      have e2 : k' + 1 = q'.2 := by simpa using this
      rw [← e2, hst, List.getElem?_map, List.getElem?_cons_succ, a2]
      rfl
    · rw [List.append_nil] at m'
      rcases m' with ⟨z, _, _⟩ | ⟨d, e1, e2, e3⟩
      · exfalso
        have := congrArg List.length z
        rw [List.length_reverse, List.length_zip, List.length_map, hfl, e, Nat.min_self, List.length_nil] at this
        exact h0 (List.length_eq_zero_iff.mp this)
      · rw [e3, hns]
        exact q d e1 e2
theorem errAt_mk {C f : Addr} {oc : Value} {od an : Option Addr} {osl : Array (Option Value)} {kV doc pm cdv ct : Value} {nm q : Str} {Nx : Addr} {bs bm : List Value} {sn sub ab col : _} {dd : _} {k0 k1 k2 k3 k5 : _} (X : K.In h) (G : h.Ns mainGlobals mg) (a : PySem.W.nsIn K mainGlobals x = some (some (.ref C)))
    (e1 : K.lookup C = some (excClassObj nm q C Nx bs bm true sn sub ab col dd k0 k1 k2 k3 k5 "ValueError.__new__")) (e2 : PySem.HandSPX.refsVE bm = true) (e3 : PySem.W.findIn K (.ref C) "__setattr__" = some (some (.builtin "object.__setattr__"))) (e4 : PySem.W.subIn K (.ref C) (.type "BaseException") = some true)
    (e5 : PySem.W.typeIn K (.ref C) = some (.type "type")) (e6 : PySem.W.keepIn K (.ref C) = true) (m2 : PySem.W.findIn K (.ref C) "__init__" = some (some (.ref f))) (m3 : PySem.W.typeIn K (.ref f) = some (.type "function"))
    (l : K.lookup f = some ⟨oc, od, .func (PySem.W.fnOf "__init__" qual (defArgs st) (defBody st) (defScope st) .none kV doc pm an cdv ct), osl⟩) (cd : PySem.W.codeIn K cdv qual = true) (kf : PySem.W.keepIn K (.ref f) = true)
    (hb : ∀ (kV doc pm : Value) (an : Option Addr) (cdv ct : Value) (us : List Value), us.length = ps.length → bindArgs (PySem.W.fnOf "__init__" qual (defArgs st) (defBody st) (defScope st) .none kV doc pm an cdv ct) ⟨us, []⟩ = pure (ps.zip us))
    (hf : ∀ g ∈ ns, PySem.W.findIn K (.ref C) g = some none) : ErrAt K mg x qual st ps ns := by
  have Fn := fun_mk (st := st) l cd kf
  exact ⟨C, f, _, PySem.W.mg_of X G a, ⟨⟨_, _, _, _, _, _, _, _, _, _, _, _, _, _, _, e1, e2⟩, e3, e4, e5, e6⟩, m2, m3, Fn, Fn.binds hb, hf⟩
end
theorem RepL.rev {K : PySem.W.Frag} {mg : Str → Option Value} {S : Hp} {vs : List V} {ds : List D} (r : RepL K mg S vs ds) : RepL K mg S vs.reverse ds.reverse := by
  refine ⟨by rw [List.length_reverse, List.length_reverse, r.len], fun i v d a b => ?_⟩
  have hi : i < vs.length := by simpa using (List.getElem?_eq_some_iff.mp a).1
  rw [List.getElem?_reverse hi] at a
  rw [List.getElem?_reverse (by rw [← r.len]; exact hi), ← r.len] at b
  exact r.at_ _ v d a b
section
variable {X : Cx} {E : WX} {L : Lp} {m m' : Mds} {c : Str} {ns : List Str} {k : Nat} {p pos p1 : Pos} {e : Expr} {es : List Expr} {fs : Env → Res (List D)}
theorem js_raiseN (T : ErrN X.prog X.w X.K X.mg X.base c k ns) (hr : Room (k + 1) X.A) (tk : Takes X E) (ha : JA X E m (e :: es) fs) (hz : ns.length ≤ 900 := by decide) (hc : X.calm = true := by rfl) (hg : Gl X c := by rfl) (hdb : (c == ("__debug__" : Str)) = false := by decide)
    (he : starEach (e :: es) X.env = (false, eval e X.env) :: starEach es X.env := by rfl) (hpl : (backTo p1 (starEach es X.env)).any (·.1) = false := by rfl) :
    JS X E L m m' (.Raise (some (.Call (.Name c p) (e :: es) [] p1)) none pos) (fRaise c ns fs) := by
  obtain ⟨C, fI, fd, ps, gC, oC, i1, i2, bd, G⟩ := T
  have hx : Passes (L2.CX X.prog X.w) X (fun _ _ _ => False) := fun _ _ _ _ _ _ _ z => by
    obtain ⟨_, _, _, _, _, _, _, _, _, _, _, _, hE⟩ := z
    exact hE.elim
  refine ⟨PSimp (ps_raise hc tk (pmk_oex oC i1 i2 G hr bd .nil hx hg gC ha.pa hdb he hpl)) fun D σ H h => ?_⟩
  obtain ⟨S0, H0, ρ, ⟨S, Fp, st⟩, q⟩ := h
  refine ⟨S, ρ, st.envM, (lift_post st q).imp fun ds S1 H1 s1 q1 vs rs => ?_⟩
  split at q1
  · rename_i hl
    refine ⟨by rw [rs.len, hl]; exact Nat.le_trans hz (by decide), fun a na => ⟨a, vs, by rw [List.append_nil], by rw [rs.len, hl], upd_same, fun d nd hne => ?_⟩⟩
    have nd1 : H1 d = none := by rw [upd_ne hne] at nd; exact nd
    refine ⟨rfl, d, (ns.zip vs).reverse, upd_same, by rw [upd_ne hne]; exact upd_same, nd1, ?_⟩
    have eh : upd (del (upd (upd (upd H1 a (exo a C none)) d (exd d (ns.zip vs).reverse)) a (exo a C (some d))) a) d (.xd (ns.zip vs).reverse) = upd H1 d (.xd (ns.zip vs).reverse) := by
      funext b
      by_cases hb : b = d
      · rw [hb, upd_same, upd_same]
      · rw [upd_ne hb, upd_ne hb]
        by_cases hb2 : b = a
        · rw [hb2, del_same, na]
        · rw [del_ne hb2, upd_ne hb2, upd_ne hb, upd_ne hb2]
    rw [eh]
    have s2 := Step.laid (o := .xd (ns.zip vs).reverse) s1.sub nd1
    obtain ⟨S3, F3, st3, ss⟩ := ((st.step s1).step s2).weak (Weak.nil m)
    refine q1 σ S3 F3 _ _ (some d) st3 ⟨gC, .inr ⟨d, (ns.zip vs).reverse, rfl, ss _ _ upd_same, ?_, ?_⟩⟩
    · rw [List.map_reverse, List.map_reverse, List.map_fst_zip (by rw [rs.len, hl]; exact Nat.le_refl _), List.map_fst_zip (by rw [hl]; exact Nat.le_refl _)]
    · rw [List.map_reverse, List.map_reverse, List.map_snd_zip (by rw [rs.len, hl]; exact Nat.le_refl _), List.map_snd_zip (by rw [hl]; exact Nat.le_refl _)]
      exact (rs.mono (s2.ss.trans ss)).rev
  · exact q1.elim
end
end Da
namespace Da
open PySem PySem.Spec L2
/-! ### try: .. except C as e: .. -/
/-- of the classes in l it is known whether a clause, an isinstance takes them -/
def askOf (l : List (Str × Bool)) (c : Str) : Option Bool := l.lookup c
/-- l tells what the clause of hcls takes -/
def SubAt (K : PySem.W.Frag) (mg : Str → Option Value) (hcls : Value) (l : List (Str × Bool)) : Prop := ∀ q ∈ l, ∃ C, mg q.1 = some (.ref C) ∧ PySem.W.exmOne K (.ref C) hcls = some q.2
/-- l tells what isinstance(e, cv) answers -/
def AskAt (K : PySem.W.Frag) (mg : Str → Option Value) (cv : Value) (l : List (Str × Bool)) : Prop := ∀ q ∈ l, ∃ C, mg q.1 = some (.ref C) ∧ PySem.W.kitOne K (.ref C) cv = some q.2
/-- an error class whose errors may be asked -/
def ErrC (K : PySem.W.Frag) (mg : Str → Option Value) (c : Str) : Prop := ∃ C, mg c = some (.ref C) ∧ ExcC K C
theorem mem_of_lookup {β : Type} {c : Str} {b : β} : ∀ {l : List (Str × β)}, l.lookup c = some b → (c, b) ∈ l
  | [], h => by cases h
  | q :: l, h => by
    rw [List.lookup_cons] at h
    split at h
    · rename_i e
      cases h
      have := eq_of_beq e
      rw [this]
      exact List.mem_cons_self
    · exact List.mem_cons_of_mem _ (mem_of_lookup h)
theorem subAt_nil {K : PySem.W.Frag} {mg : Str → Option Value} {v : Value} : SubAt K mg v [] := fun q h => nomatch h
theorem subAt_cons {K : PySem.W.Frag} {mg : Str → Option Value} {v : Value} {c : Str} {b : Bool} {C : Addr} {l : List (Str × Bool)} (h : mg c = some (.ref C)) (e : PySem.W.exmOne K (.ref C) v = some b) (t : SubAt K mg v l) : SubAt K mg v ((c, b) :: l) := fun q hq => by
  rcases List.mem_cons.mp hq with rfl | z
  · exact ⟨C, h, e⟩
  · exact t q z
theorem askAt_nil {K : PySem.W.Frag} {mg : Str → Option Value} {v : Value} : AskAt K mg v [] := fun q h => nomatch h
theorem askAt_cons {K : PySem.W.Frag} {mg : Str → Option Value} {v : Value} {c : Str} {b : Bool} {C : Addr} {l : List (Str × Bool)} (h : mg c = some (.ref C)) (e : PySem.W.kitOne K (.ref C) v = some b) (t : AskAt K mg v l) : AskAt K mg v ((c, b) :: l) := fun q hq => by
  rcases List.mem_cons.mp hq with rfl | z
  · exact ⟨C, h, e⟩
  · exact t q z
/-- the suite's end -/
def endTry (i : Nat) : Res Fl → Res Fl
  | .ok (.nx ρ) => .ok (.nx (ρ.set i none))
  | .ok (.rt d) => .ok (.rt d)
  | _ => .er
/-- the slots of a suite: its error alone -/
def envX (k i : Nat) (c : Str) (fs : List (Str × D)) : Env := (List.replicate k none).set i (some (.exc c (fs.map (·.1)) (fs.map (·.2))))
/-- the clause takes what l says -/
def fTry (k i : Nat) (l : List (Str × Bool)) (F G : FS) : FS := fun ρ => match F ρ with
  | .ok (.xc c fs ρ1) => (match askOf l c with
    | some true => endTry i (G (envX k i c fs))
    | some false => .ok (.xc c fs ρ1)
    | none => .er)
  | o => o
theorem StF.unset {K : PySem.W.Frag} {mg : Str → Option Value} {m : Mds} {S0 H0 S H : Hp} {F : Nat → List Addr} {σ : L2.St} {ρ : Env} (i : Nat) (h : StF K mg m S0 H0 S F σ ρ H) : StF K mg m S0 H0 S F (σ.set i none) (ρ.set i none) H := by
  obtain ⟨st, e, nw⟩ := h
  have key : ∀ j d, (ρ.set i none)[j]? = some (some d) → j ≠ i ∧ ρ[j]? = some (some d) := fun j d ej => by
    by_cases hj : j = i
    · subst hj
      rw [List.getElem?_set, if_pos rfl] at ej
      split at ej <;> cases ej
    · rw [List.getElem?_set_ne (Ne.symm hj)] at ej
      exact ⟨hj, ej⟩
  refine ⟨st, ⟨by rw [List.length_set, List.length_set]; exact e.len, fun j d ej => ?_, fun j d ej => e.nd j d (key j d ej).2, fun j k d d' hjk ej ek => e.apart j k d d' hjk (key j d ej).2 (key k d' ek).2⟩, fun j d ej => nw j d (key j d ej).2⟩
  obtain ⟨hj, ej⟩ := key j d ej
  obtain ⟨v, e1, e2⟩ := e.at_ j d ej
  exact ⟨v, by rw [List.getElem?_set_ne (Ne.symm hj)]; exact e1, e2⟩
section
variable {X : Cx} {E : WX} {L : Lp} {m m' : Mds} {body suite : List Stmt} {b₀ : Stmt} {F G : FS} {x n : Str} {np pos pos' : Pos} {l : List (Str × Bool)}
theorem js_try {hcls : Value} (i : Nat) (k : Nat) (tk : Takes X E) (sa : SubAt X.K X.mg hcls l) (hc : Names X x hcls)
    (hb : ∀ (W : WX) (pn : List (Addr × Obj)) (xe : Value → Shared → Prop), Takes (X.tr pn xe) W → PassesOwn (model X.prog X.w) X.A X.env xe → JSs (X.tr pn xe) W L m m' body F)
    (hsu : ∀ (a : Addr) (oe : Obj) (cls : Value) (d : Option Addr) (pn : List (Addr × Obj)), Zc cls d oe → (∃ vs, oe.data = .fields vs) → JSs (X.suite a ((a, oe) :: pn)) (fun _ _ _ _ => False) ⟨[], [], L.md⟩ ((msh k).set i (.ex a cls d)) ((msh k).set i (.ex a cls d)) (b₀ :: suite) G)
    (hN : X.N.Nodup) (hi : X.N[i]? = some n := by rfl) (hk : i < k := by decide) (hkN : X.N.length = k := by rfl) (hm : m' = msh k := by rfl)
    (hln : X.env.kindOf n = some .local := by rfl) (hs : X.stack = X.env :: X.outer := by rfl) (hf : X.env.frame = some X.env.locals := by rfl) :
    JS X E L m m' (.Try body [.ExceptHandler (some (.Name x np)) (some n) (b₀ :: suite) pos'] [] [] pos) (fTry k i l F G) := by
  refine ⟨PSimp (ps_try_as (tb := fun W => tS X.K X.mg W L m m' F) (ts := fun a cls d => fun Dn σ H => σ.length = X.N.length → tS X.K X.mg (fun _ _ _ _ => False) ⟨[], [], L.md⟩ ((msh k).set i (.ex a cls d)) ((msh k).set i (.ex a cls d)) G Dn σ H) hs hf hN hi hln hc tk (fun W pn xe t1 t2 => (hb W pn xe t1 t2).ps)
    (fun a oe cls d pn hz hfd => ⟨fun pins s σ H D I q => (hsu a oe cls d pn hz hfd).ps.run pins s σ H D I (q I.len)⟩)) fun D σ H h => ?_⟩
  obtain ⟨S0, H0, ρ, st, p⟩ := h
  refine ⟨S0, H0, ρ, st, ?_⟩
  unfold fTry at p
  cases ef : F ρ with
  | er => rw [ef] at p; exact p
  | ex c fs => rw [ef] at p; exact p
  | ok o =>
    rw [ef] at p
    cases o with
    | nx ρ' => exact p
    | rt d => exact p
    | bk ρ' => exact p
    | ct ρ' => exact p
    | xc c fs ρ1 =>
      intro σ1 S1 F1 H1 cls dd st1 xa
      dsimp only at p
      cases ea : askOf l c with
      | none => rw [ea] at p; exact p.elim
      | some b =>
        rw [ea] at p
        obtain ⟨C, gC, ex⟩ := sa _ (mem_of_lookup ea)
        have ec : cls = .ref C := by
          have := xa.1
          rw [gC] at this
          exact (Option.some.inj this).symm
        refine ⟨b, by rw [ec]; exact ex, fun hb1 a na => ?_, fun hb1 => ?_⟩
        · subst hb1
          have p : SPost X.K X.mg E L S0 H0 m' (endTry i (G (envX k i c fs))) D := p
          intro hle
          have hlen : σ1.length = k := (List.length_set.symm.trans hle).trans hkN
          have o : OwnAt X.K X.mg S1 H1 [] (.ref a) (.exc c (fs.map (·.1)) (fs.map (·.2))) (.ex a cls dd) := by
            rcases xa.2 with ⟨z1, z2⟩ | ⟨dx, vfs, e1, e2, e3, e4⟩
            · subst z1
              exact ⟨c, [], [], rfl, rfl, rfl, xa.1, .inl ⟨rfl, z2⟩, .nil⟩
            · exact ⟨c, vfs, fs.map (·.2), rfl, by rw [e3], rfl, xa.1, .inr ⟨dx, e1, e2⟩, e4⟩
          have key : ∀ j d', (envX k i c fs)[j]? = some (some d') → j = i ∧ d' = .exc c (fs.map (·.1)) (fs.map (·.2)) := fun j d' ej => by
            unfold envX at ej
            rw [List.getElem?_set] at ej
            split at ej
            · rename_i hji
              split at ej
              · exact ⟨hji.symm, by injection ej with ej; injection ej with ej; exact ej.symm⟩
              · cases ej
            · rw [List.getElem?_replicate] at ej
              split at ej <;> cases ej
          have st3 : StF X.K X.mg ((msh k).set i (.ex a cls dd)) S0 H0 S1 (fun _ => []) (σ1.set i (some (.ref a))) (envX k i c fs) H1 := by
            refine ⟨st1.1, ⟨by unfold envX; rw [List.length_set, List.length_set, List.length_replicate, hlen], fun j d' ej => ?_, fun j d' ej => List.nodup_nil, fun j j2 d' e' hj ej ek x hx => nomatch hx⟩, fun j d' ej x hx => nomatch hx⟩
            obtain ⟨hj, hd⟩ := key j d' ej
            subst hj; subst hd
            refine ⟨.ref a, ?_, ?_⟩
            · rw [List.getElem?_set, if_pos rfl, if_pos (by rw [hlen]; exact hk)]
            · have hmd : mdAt ((msh k).set j (.ex a cls dd)) j = .ex a cls dd := by
                unfold mdAt
                rw [List.getD_eq_getElem?_getD, List.getElem?_set, if_pos rfl, if_pos (by simpa using hk)]
                rfl
              rw [hmd]
              exact o
          refine ⟨S0, H0, _, ⟨_, _, st3⟩, ?_⟩
          cases eg : G (envX k i c fs) with
          | er => rw [eg] at p; exact p.elim
          | ex c fs => rw [eg] at p; exact p.elim
          | ok o =>
            rw [eg] at p
            cases o with
            | nx ρ' =>
              intro σ' H' ⟨S', F', st'⟩
              obtain ⟨S4, F4, st4, _⟩ := (st'.unset i).weak (m1 := msh k) (fun j => .inr mdAt_msh)
              rw [hm] at p
              exact p _ _ ⟨S4, F4, st4⟩
            | rt d => exact p
            | bk ρ' => exact p.elim
            | ct ρ' => exact p.elim
            | xc c fs ρ' => exact p.elim
        · subst hb1
          exact p σ1 S1 F1 H1 cls dd st1 xa
end
/-! ### what a suite asks of its error -/
/-- isinstance(e, c), e with or without fields -/
def rIsX (K : PySem.W.Frag) (D a : Addr) (d : Option Addr) : List V → Hp → VK → Prop := fun xs H Q => ∃ (c : V) (cv : Value) (b : Bool), xs = [.ref a, c] ∧ (∀ u, RelV c u → u = cv) ∧ (d = none ∨ ∃ dd fs, d = some dd ∧ H dd = some (.xd fs)) ∧ PySem.W.kitOne K (.ref D) cv = some b ∧ Q (.bl b) H
theorem call_isX {X : Cx} {a D : Addr} {oe : Obj} {d : Option Addr} {pn : List (Addr × Obj)} (C : ExcC X.K D) (hz : Zc (.ref D) d oe) (hf : ∃ vs, oe.data = .fields vs) : CallR (X.suite a ((a, oe) :: pn)) (.builtin "isinstance") (rIsX X.K D a d) := by
  intro pins s σ H xs us Q I r h
  obtain ⟨c, cv, b, e0, hcv, hd, e, q⟩ := h
  subst e0
  cases r with
  | cons rx rr =>
    cases rr with
    | cons rt rr =>
      cases rr
      cases rx
      have ec := hcv _ rt
      subst ec
      have hget := (I.pin (a, oe) (List.mem_append.mpr (.inl List.mem_cons_self))).1
      obtain ⟨vs, hv⟩ := hf
      have hcl : (PySem.W.clsIn X.K D).isSome = true := by
        have z := C.hd
        unfold PySem.W.hasDictIn at z
        cases y : PySem.W.clsIn X.K D with
        | none => rw [y] at z; cases z
        | some _ => rfl
      have J : ∃ od, PySem.W.InstAt s.heap a oe D od := by
        have hno : PySem.W.notCls oe = true := by unfold PySem.W.notCls; rw [hv] <;> rfl
        rcases hd with z | ⟨dd, fs, z, y⟩
        · exact ⟨none, hget, hz.1, hno, by rw [hz.2, z]; exact trivial⟩
        · have hx : ObjOk X.prog X.w H s.heap dd (.xd fs) := I.hok dd _ y
          obtain ⟨mA, hns, hr⟩ := hx
          obtain ⟨od, ho, hl⟩ := lookIn_ns hns
          exact ⟨some od, hget, hz.1, hno, by rw [hz.2, z]; exact ho⟩
      obtain ⟨od, J⟩ := J
      exact PySem.W.kia_one (PySem.W.kitx_exc (od := od) (gt := none) hcl C.hg C.hk C.hs C.ha C.hn C.ht C.hm) I.kIn J e (fun z => nomatch z) fun tk => ⟨.bl b, H, I.kept (t' := tk) fun _ _ z => z, rfl, q⟩
def fIsE (i : Nat) (l : List (Str × Bool)) : Env → Res D := fun ρ => match ρ[i]? with
  | some (some (.exc c _ _)) => (match askOf l c with
    | some b => .ok (.bl b)
    | none => .er)
  | _ => .er
def fFldE (i : Nat) (f : Str) : Env → Res D := fun ρ => match ρ[i]? with
  | some (some (.exc _ ns ds)) => (match (ns.zip ds).lookup f with
    | some d => .ok d
    | none => .er)
  | _ => .er
section
variable {X : Cx} {E : WX} {m : Mds} {l : List (Str × Bool)} {a : Addr} {oe : Obj} {cls : Value} {d : Option Addr} {pn : List (Addr × Obj)} {n y : Str} {p p1 p2 pos : Pos}
theorem je_isE0 (i : Nat) {cV : V} {cv : Value} (hz : Zc cls d oe) (hf : ∃ vs, oe.data = .fields vs) (hm : X.mg "isinstance" = none) (hY : PE (X.suite a ((a, oe) :: pn)) (.Name y p2) (tC cV)) (hrel : ∀ u, RelV cV u → u = cv) (aa : AskAt X.K X.mg cv l) (ec : ∀ q ∈ l, ErrC X.K X.mg q.1) (hmd : mdAt m i = .ex a cls d) (hi : X.N[i]? = some n)
    (hv : Vis X.env.scope n) (hg : Gl X "isinstance") (hd1 : (n == ("__debug__" : Str)) = false) (hd2 : (n == ("__classdict__" : Str)) = false)
    (he : starEach [.Name n p1, .Name y p2] X.env = (false, eval (.Name n p1) X.env) :: starEach [.Name y p2] X.env) (he2 : starEach [.Name y p2] X.env = (false, eval (.Name y p2) X.env) :: starEach [] X.env) (hpl : (backTo pos (starEach [.Name y p2] X.env)).any (·.1) = false) :
    JE (X.suite a ((a, oe) :: pn)) E m .sh (.Call (.Name "isinstance" p) [.Name n p1, .Name y p2] [] pos) (fIsE i l) := by
  by_cases hC : ∃ C, cls = .ref C ∧ ExcC X.K C
  · obtain ⟨C, rfl, hC⟩ := hC
    refine ⟨PEimp (pe_callB (call_isX hC hz hf) hg hm (by decide +kernel) (pa_cons (pe_var (X := X.suite a ((a, oe) :: pn)) hi hv hd1 hd2) (pa_cons hY pa_nil he2) he) (by decide) (by decide) he hpl) fun σ H Q h => ?_⟩
    obtain ⟨S, ρ, hm, hp⟩ := h
    unfold fIsE at hp
    split at hp
    · rename_i c ns vs e
      obtain ⟨hs, F, hm⟩ := hm
      obtain ⟨v, e1, e2⟩ := hm.at_ i _ e
      rw [hmd] at e2
      obtain ⟨c', vfs, ds, y1, y2, y3, y4, y5, y6⟩ := e2
      cases y2
      subst y1
      refine ⟨_, e1, ?_⟩
      split at hp
      · rename_i b eb
        obtain ⟨C2, gC, ek⟩ := aa _ (mem_of_lookup eb)
        have e3 : Value.ref C = .ref C2 := by rw [gC] at y4; exact (Option.some.inj y4).symm
        refine ⟨cV, cv, b, rfl, hrel, ?_, by rw [e3]; exact ek, hp.val hs (.bl _)⟩
        rcases y5 with z | ⟨dx, z1, z2⟩
        · exact .inl z.2
        · exact .inr ⟨dx, vfs, z1, hs _ _ z2⟩
      · exact hp.elim
    · exact hp.elim
  · refine ⟨⟨fun pins s σ H Q I h => ?_⟩⟩
    exfalso
    obtain ⟨S, ρ, hm, hp⟩ := h
    unfold fIsE at hp
    split at hp
    · rename_i c ns vs e
      obtain ⟨hs, F, hm⟩ := hm
      obtain ⟨v, e1, e2⟩ := hm.at_ i _ e
      rw [hmd] at e2
      obtain ⟨c', vfs, ds, y1, y2, y3, y4, y5, y6⟩ := e2
      cases y2
      split at hp
      · rename_i b eb
        obtain ⟨C2, gC, ek⟩ := ec _ (mem_of_lookup eb)
        exact hC ⟨C2, by rw [gC] at y4; exact (Option.some.inj y4).symm, ek⟩
      · exact hp.elim
    · exact hp.elim
/-- the class asked for is an own one, a built-in one -/
theorem je_isE (i : Nat) {Y : Addr} (hz : Zc cls d oe) (hf : ∃ vs, oe.data = .fields vs) (hm : X.mg "isinstance" = none) (hY : X.mg y = some (.ref Y)) (aa : AskAt X.K X.mg (.ref Y) l) (ec : ∀ q ∈ l, ErrC X.K X.mg q.1) (hmd : mdAt m i = .ex a cls d := by rfl) (hi : X.N[i]? = some n := by rfl)
    (hv : Vis X.env.scope n := by first | exact Or.inl rfl | exact Or.inr (Or.inl rfl) | exact Or.inr (Or.inr rfl)) (hg : Gl X "isinstance" := by rfl) (hgY : Gl X y := by rfl) (hdb : (y == ("__debug__" : Str)) = false := by decide) (hd1 : (n == ("__debug__" : Str)) = false := by decide) (hd2 : (n == ("__classdict__" : Str)) = false := by decide)
    (he : starEach [.Name n p1, .Name y p2] X.env = (false, eval (.Name n p1) X.env) :: starEach [.Name y p2] X.env := by rfl) (he2 : starEach [.Name y p2] X.env = (false, eval (.Name y p2) X.env) :: starEach [] X.env := by rfl) (hpl : (backTo pos (starEach [.Name y p2] X.env)).any (·.1) = false := by rfl) :
    JE (X.suite a ((a, oe) :: pn)) E m .sh (.Call (.Name "isinstance" p) [.Name n p1, .Name y p2] [] pos) (fIsE i l) :=
  je_isE0 i hz hf hm (pe_glob (X := X.suite a ((a, oe) :: pn)) (v := .ref Y) hgY hY rfl hdb) (fun u z => z) aa ec hmd hi hv hg hd1 hd2 he he2 hpl
theorem je_isEB (i : Nat) (T : String) (hz : Zc cls d oe) (hf : ∃ vs, oe.data = .fields vs) (hm : X.mg "isinstance" = none) (hY : X.mg y = none) (aa : AskAt X.K X.mg (.type T) l) (ec : ∀ q ∈ l, ErrC X.K X.mg q.1) (hmd : mdAt m i = .ex a cls d := by rfl) (hi : X.N[i]? = some n := by rfl)
    (hvT : bootBuiltins y = some (.type T) := by decide +kernel) (hn : y ≠ "__name__" := by decide)
    (hv : Vis X.env.scope n := by first | exact Or.inl rfl | exact Or.inr (Or.inl rfl) | exact Or.inr (Or.inr rfl)) (hg : Gl X "isinstance" := by rfl) (hgY : Gl X y := by rfl) (hdb : (y == ("__debug__" : Str)) = false := by decide) (hd1 : (n == ("__debug__" : Str)) = false := by decide) (hd2 : (n == ("__classdict__" : Str)) = false := by decide)
    (he : starEach [.Name n p1, .Name y p2] X.env = (false, eval (.Name n p1) X.env) :: starEach [.Name y p2] X.env := by rfl) (he2 : starEach [.Name y p2] X.env = (false, eval (.Name y p2) X.env) :: starEach [] X.env := by rfl) (hpl : (backTo pos (starEach [.Name y p2] X.env)).any (·.1) = false := by rfl) :
    JE (X.suite a ((a, oe) :: pn)) E m .sh (.Call (.Name "isinstance" p) [.Name n p1, .Name y p2] [] pos) (fIsE i l) :=
  je_isE0 i hz hf hm (pe_bltn (X := X.suite a ((a, oe) :: pn)) (v := .ty T) hgY hY hvT rfl hn hdb) (fun u z => z) aa ec hmd hi hv hg hd1 hd2 he he2 hpl
/-- e.f -/
theorem lookup_zipV {K : PySem.W.Frag} {mg : Str → Option Value} {S : Hp} {f : Str} {d0 : D} : ∀ (vfs : List (Str × V)) (ds : List D), RepL K mg S (vfs.map (·.2)) ds → ((vfs.map (·.1)).zip ds).lookup f = some d0 → ∃ v, vfs.lookup f = some v ∧ Rep K mg S v d0
  | [], ds, r, h => by cases ds <;> cases h
  | q :: vfs, [], r, h => by cases h
  | q :: vfs, e :: ds, r, h => by
    rw [List.map_cons, List.zip_cons_cons, List.lookup_cons] at h
    obtain ⟨q1, q2⟩ := q
    rw [List.lookup_cons]
    split at h
    · cases h
      rename_i hq
      dsimp only at hq
      rw [hq]
      exact ⟨q2, rfl, r.head⟩
    · rename_i hq
      dsimp only at hq
      rw [hq]
      exact lookup_zipV vfs ds r.tail h
def FldE (K : PySem.W.Frag) (mg : Str → Option Value) (f : Str) (cs : List Str) : Prop := ∀ c ∈ cs, ∃ C, mg c = some (.ref C) ∧ XfC K C ∧ PySem.W.findIn K (.ref C) f = some none
def fFldC (i : Nat) (f : Str) (cs : List Str) : Env → Res D := fun ρ => match ρ[i]? with
  | some (some (.exc c _ _)) => if cs.contains c = true then fFldE i f ρ else .er
  | _ => .er
theorem je_fldE (i : Nat) {f : Str} {cs : List Str} (hz : Zc cls d oe) (hf : ∃ vs, oe.data = .fields vs) (fc : FldE X.K X.mg f cs) (hmd : mdAt m i = .ex a cls d := by rfl) (hi : X.N[i]? = some n := by rfl)
    (hv : Vis X.env.scope n := by first | exact Or.inl rfl | exact Or.inr (Or.inl rfl) | exact Or.inr (Or.inr rfl)) (hd1 : (n == ("__debug__" : Str)) = false := by decide) (hd2 : (n == ("__classdict__" : Str)) = false := by decide)
    (hb : attributeBase (.Name n p1) f X.env (eval (.Name n p1) X.env) = eval (.Name n p1) X.env := by rfl) :
    JE (X.suite a ((a, oe) :: pn)) E m .sh (.Attribute (.Name n p1) f pos) (fFldC i f cs) := by
  have key : ∀ σ H Q, tE X.K X.mg E m .sh (fFldC i f cs) σ H Q → ∃ C, cls = .ref C ∧ XfC X.K C ∧ PySem.W.findIn X.K (.ref C) f = some none ∧ tXf a cls d C f (tVar i) σ H Q := fun σ H Q h => by
    obtain ⟨S, ρ, hm, hp⟩ := h
    unfold fFldC at hp
    split at hp
    · rename_i c ns vs e
      obtain ⟨hs, F, hm⟩ := hm
      obtain ⟨v, e1, e2⟩ := hm.at_ i _ e
      rw [hmd] at e2
      obtain ⟨c', vfs, ds, y1, y2, y3, y4, y5, y6⟩ := e2
      cases y2
      subst y1
      split at hp
      · rename_i hcs
        obtain ⟨C, gC, T, no⟩ := fc c (by simpa using hcs)
        have ec : cls = .ref C := by rw [gC] at y4; exact (Option.some.inj y4).symm
        refine ⟨C, ec, T, no, _, e1, rfl, ec, ?_⟩
        unfold fFldE at hp
        rw [e] at hp
        dsimp only at hp
        split at hp
        · rename_i d0 el
          obtain ⟨v0, ev, rv⟩ := lookup_zipV vfs _ y6 el
          rcases y5 with z | ⟨dx, z1, z2⟩
          · rw [z.1] at ev; cases ev
          · exact ⟨dx, vfs, v0, z1, hs _ _ z2, ev, hp.val hs rv⟩
        · exact hp.elim
      · exact hp.elim
    · exact hp.elim
  by_cases hC : ∃ C, cls = .ref C ∧ XfC X.K C ∧ PySem.W.findIn X.K (.ref C) f = some none
  · obtain ⟨C, e, T, no⟩ := hC
    refine ⟨PEimp (pe_xf T no hz hf (pe_var (X := X.suite a ((a, oe) :: pn)) hi hv hd1 hd2) hb) fun σ H Q h => ?_⟩
    obtain ⟨C', e', _, _, k⟩ := key σ H Q h
    rw [e] at e'
    have e' : C = C' := Value.ref.inj e'
    rw [e']
    exact k
  · exact ⟨⟨fun pins s σ H Q I h => by
      obtain ⟨C, e, T, no, _⟩ := key σ H Q h
      exact absurd ⟨C, e, T, no⟩ hC⟩⟩
end
theorem errF {K : PySem.W.Frag} {C : Addr} {f : Str} {fs : List Str} (h : PySem.W.findIn K (.ref C) f = some none) (t : ∀ g ∈ fs, PySem.W.findIn K (.ref C) g = some none) : ∀ g ∈ f :: fs, PySem.W.findIn K (.ref C) g = some none := fun g hg => by
  rcases List.mem_cons.mp hg with rfl | z
  · exact h
  · exact t g z
/-! as the text tells it -/
def ClauseAt (K : PySem.W.Frag) (mg : Str → Option Value) (x : Str) (l : List (Str × Bool)) : Prop := ∃ C, mg x = some (.ref C) ∧ SubAt K mg (.ref C) l
def AskOwn (K : PySem.W.Frag) (mg : Str → Option Value) (y : Str) (l : List (Str × Bool)) : Prop := ∃ Y, mg y = some (.ref Y) ∧ AskAt K mg (.ref Y) l
def ErrsC (K : PySem.W.Frag) (mg : Str → Option Value) (cs : List Str) : Prop := ∀ c ∈ cs, ErrC K mg c
theorem errsC_nil {K : PySem.W.Frag} {mg : Str → Option Value} : ErrsC K mg [] := fun c h => nomatch h
theorem errsC_cons {K : PySem.W.Frag} {mg : Str → Option Value} {c : Str} {C : Addr} {cs : List Str} (h : mg c = some (.ref C)) (e : ExcC K C) (t : ErrsC K mg cs) : ErrsC K mg (c :: cs) := fun q hq => by
  rcases List.mem_cons.mp hq with rfl | z
  · exact ⟨C, h, e⟩
  · exact t q z
theorem fldE_nil {K : PySem.W.Frag} {mg : Str → Option Value} {f : Str} : FldE K mg f [] := fun c h => nomatch h
theorem fldE_cons {K : PySem.W.Frag} {mg : Str → Option Value} {f c : Str} {C : Addr} {cs : List Str} (h : mg c = some (.ref C)) (e : xfB K C = true) (n : PySem.W.findIn K (.ref C) f = some none) (t : FldE K mg f cs) : FldE K mg f (c :: cs) := fun q hq => by
  rcases List.mem_cons.mp hq with rfl | z
  · exact ⟨C, h, xfB_ok e, n⟩
  · exact t q z
theorem clauseAt_mk {K : PySem.W.Frag} {mg : Str → Option Value} {x : Str} {C : Addr} {l : List (Str × Bool)} (h : mg x = some (.ref C)) (s : SubAt K mg (.ref C) l) : ClauseAt K mg x l := ⟨C, h, s⟩
theorem askOwn_mk {K : PySem.W.Frag} {mg : Str → Option Value} {x : Str} {C : Addr} {l : List (Str × Bool)} (h : mg x = some (.ref C)) (s : AskAt K mg (.ref C) l) : AskOwn K mg x l := ⟨C, h, s⟩
def excB (K : PySem.W.Frag) (D : Addr) : Bool := decide (PySem.W.findIn K (.ref D) "__getattribute__" = some (some (.builtin "BaseException.__getattribute__"))) && (decide (PySem.W.findIn K (.ref D) "__getattr__" = some none) && (decide (PySem.W.subIn K (.ref D) (.type "BaseException") = some true) &&
  (PySem.W.hasDictIn K D && (decide (PySem.W.findIn K (.ref D) "__class__" = some (some (.builtin "object.__class__"))) && (decide (PySem.W.specialIn K (.builtin "object.__class__") "__get__" = some (some (.builtin "getset_descriptor.__get__"))) &&
  (decide (PySem.W.takesIn K (.builtin "object.__class__") = some true) && decide (PySem.W.mroIn K D (.type "object") = some true)))))))
theorem excB_ok {K : PySem.W.Frag} {D : Addr} (h : excB K D = true) : ExcC K D := by
  unfold excB at h
  simp only [Bool.and_eq_true, decide_eq_true_eq] at h
  obtain ⟨h1, h2, h3, h4, h5, h6, h7, h8⟩ := h
  exact ⟨h1, h2, h3, h4, h5, h6, h7, h8⟩
theorem err0_mk {K : PySem.W.Frag} {mg : Str → Option Value} {x : Str} {C : Addr} (h : mg x = some (.ref C)) (e1 : PySem.W.excIn K C veT "ValueError.__new__" = true) (e2 : PySem.W.keepIn K (.ref C) = true) (e3 : PySem.W.subIn K (.ref C) (.type "BaseException") = some true) (e4 : PySem.W.typeIn K (.ref C) = some (.type "type")) : Err0 K mg x := ⟨C, h, e1, e2, e3, e4⟩
section
variable {X : Cx} {E : WX} {L : Lp} {m m' : Mds} {body suite : List Stmt} {b₀ : Stmt} {F G : FS} {x n : Str} {np pos pos' : Pos} {l : List (Str × Bool)}
theorem js_tryN (i : Nat) (k : Nat) (tk : Takes X E) (sa : ClauseAt X.K X.mg x l)
    (hb : ∀ (W : WX) (pn : List (Addr × Obj)) (xe : Value → Shared → Prop), Takes (X.tr pn xe) W → PassesOwn (model X.prog X.w) X.A X.env xe → JSs (X.tr pn xe) W L m m' body F)
    (hsu : ∀ (a : Addr) (oe : Obj) (cls : Value) (d : Option Addr) (pn : List (Addr × Obj)), Zc cls d oe → (∃ vs, oe.data = .fields vs) → JSs (X.suite a ((a, oe) :: pn)) (fun _ _ _ _ => False) ⟨[], [], L.md⟩ ((msh k).set i (.ex a cls d)) ((msh k).set i (.ex a cls d)) (b₀ :: suite) G)
    (hN : X.N.Nodup) (hi : X.N[i]? = some n := by rfl) (hk : i < k := by decide) (hkN : X.N.length = k := by rfl) (hm : m' = msh k := by rfl) (hg : Gl X x := by rfl) (hdb : (x == ("__debug__" : Str)) = false := by decide)
    (hln : X.env.kindOf n = some .local := by rfl) (hs : X.stack = X.env :: X.outer := by rfl) (hf : X.env.frame = some X.env.locals := by rfl) :
    JS X E L m m' (.Try body [.ExceptHandler (some (.Name x np)) (some n) (b₀ :: suite) pos'] [] [] pos) (fTry k i l F G) := by
  obtain ⟨C, hC, sa⟩ := sa
  exact js_try i k tk sa ⟨hg, hdb, .inl hC⟩ hb hsu hN hi hk hkN hm hln hs hf
end
section
variable {X : Cx} {E : WX} {m : Mds} {l : List (Str × Bool)} {a : Addr} {oe : Obj} {cls : Value} {d : Option Addr} {pn : List (Addr × Obj)} {n y : Str} {p p1 p2 pos : Pos} {cs : List Str}
theorem ErrsC.of (h : ErrsC X.K X.mg cs) (e : l.all (fun q => cs.contains q.1) = true) : ∀ q ∈ l, ErrC X.K X.mg q.1 := fun q hq => h _ (by
  have := List.all_eq_true.mp e q hq
  simpa using this)
theorem je_isEO (i : Nat) (hz : Zc cls d oe) (hf : ∃ vs, oe.data = .fields vs) (hm : X.mg "isinstance" = none) (hY : AskOwn X.K X.mg y l) (ec : ErrsC X.K X.mg cs) (hcs : l.all (fun q => cs.contains q.1) = true := by decide) (hmd : mdAt m i = .ex a cls d := by rfl) (hi : X.N[i]? = some n := by rfl)
    (hv : Vis X.env.scope n := by first | exact Or.inl rfl | exact Or.inr (Or.inl rfl) | exact Or.inr (Or.inr rfl)) (hg : Gl X "isinstance" := by rfl) (hgY : Gl X y := by rfl) (hdb : (y == ("__debug__" : Str)) = false := by decide) (hd1 : (n == ("__debug__" : Str)) = false := by decide) (hd2 : (n == ("__classdict__" : Str)) = false := by decide)
    (he : starEach [.Name n p1, .Name y p2] X.env = (false, eval (.Name n p1) X.env) :: starEach [.Name y p2] X.env := by rfl) (he2 : starEach [.Name y p2] X.env = (false, eval (.Name y p2) X.env) :: starEach [] X.env := by rfl) (hpl : (backTo pos (starEach [.Name y p2] X.env)).any (·.1) = false := by rfl) :
    JE (X.suite a ((a, oe) :: pn)) E m .sh (.Call (.Name "isinstance" p) [.Name n p1, .Name y p2] [] pos) (fIsE i l) := by
  obtain ⟨Y, hY, aa⟩ := hY
  exact je_isE i hz hf hm hY aa (ec.of hcs) hmd hi hv hg hgY hdb hd1 hd2 he he2 hpl
end
end Da
namespace Da
open PySem PySem.Spec L2
/-! ### native readings: operations on told data -/
section
variable {α β γ : Type} {e : α → D} {f : β → D} {ρ : Env} {fa fb : Env → Res D}
theorem op_mul {i j : Int} : Rf (dMul (.int i) (.int j)) (mulR i j) D.int := by
  unfold mulR
  split
  · rename_i h; exact dMul_int h
  · trivial
theorem op_div {i j : Int} : Rf (dDiv (.int i) (.int j)) (divR i j) D.int := by
  unfold divR
  split
  · rename_i h
    show (if divOk i j = true then Res.ok (D.int (i.fdiv j)) else .er) = _
    rw [if_pos (show divOk i j = true from stuck_iff.mpr ⟨by omega, h.2⟩), Int.fdiv_eq_ediv_of_nonneg i (by omega)]
  · split
    · rename_i h
      show (if divOk i j = true then Res.ok (D.int (i.fdiv j)) else .er) = _
      have hf : i.fdiv j = -i / -j := by
        have h1 : i.fdiv j = (-i).fdiv (-j) := (Int.neg_fdiv_neg i j).symm
        rw [h1, Int.fdiv_eq_ediv_of_nonneg _ (by omega)]
      rw [if_pos (show divOk i j = true from stuck_iff.mpr ⟨by omega, h.2⟩), hf]
    · trivial
theorem op_mod {i j : Int} : Rf (dMod (.int i) (.int j)) (modR i j) D.int := by
  unfold modR
  split
  · rename_i h; exact dMod_pos h
  · trivial
theorem op_divp {i j : Int} (h : 0 < j) (h9 : j < 18446744073709551616) : dDiv (.int i) (.int j) = .ok (.int (i / j)) := dDiv_64 h h9
theorem op_modp {i j : Int} (h : 0 < j) : dMod (.int i) (.int j) = .ok (.int (i % j)) := dMod_pos h
theorem op_pow {i j : Int} : Rf (dPow (.int i) (.int j)) (powR i j) D.int := by
  unfold powR
  split
  · rename_i h; exact if_pos h
  · trivial
theorem op_shl {i j : Int} : Rf (dShl (.int i) (.int j)) (shlR i j) D.int := by
  unfold shlR
  split
  · rename_i h; exact if_pos h
  · trivial
theorem op_shr {i j : Int} : Rf (dShr (.int i) (.int j)) (shrR i j) D.int := by
  unfold shrR
  split
  · rename_i h; exact if_pos (decide_eq_true h)
  · trivial
theorem atI_mapN {xs : List α} {i : Int} : atI (xs.map e) i = (atI xs i).map e := by
  unfold atI ixN
  rw [List.length_map]
  split <;> (try split) <;> simp
theorem op_ixL {xs : List α} {i : Int} : Rf (dIx (eL e xs) (.int i)) (ixR xs i) e := by
  unfold ixR
  cases h : atI xs i with
  | some x => exact dIx_lst (by rw [atI_mapN, h]; rfl)
  | none => trivial
theorem op_ixT {xs : List α} {i : Int} : Rf (dIx (eT e xs) (.int i)) (ixR xs i) e := by
  unfold ixR
  cases h : atI xs i with
  | some x => exact dIx_tup (by rw [atI_mapN, h]; rfl)
  | none => trivial
theorem op_ixF {xs : List α} {i : Int} : Rf (dIx (eF e xs) (.int i)) (ixR xs i) e := by
  unfold ixR
  cases h : atI xs i with
  | some x => exact dIx_frl (by rw [atI_mapN, h]; rfl)
  | none => trivial
theorem op_catL {xs ys : List α} : Rf (dAdd (eL e xs) (eL e ys)) (catR xs ys) (eL e) := by
  unfold catR
  split
  · rename_i h
    show (if szOk ((xs.map e).length + (ys.map e).length) = true then Res.ok (D.lst (xs.map e ++ ys.map e)) else .er) = Res.ok (D.lst ((xs ++ ys).map e))
    rw [List.length_map, List.length_map, h, List.map_append]; rfl
  · trivial
theorem op_catT {xs ys : List α} : Rf (dAdd (eT e xs) (eT e ys)) (catR xs ys) (eT e) := by
  unfold catR
  split
  · rename_i h
    show (if szOk ((xs.map e).length + (ys.map e).length) = true then Res.ok (D.tup (xs.map e ++ ys.map e)) else .er) = Res.ok (D.tup ((xs ++ ys).map e))
    rw [List.length_map, List.length_map, h, List.map_append]; rfl
  · trivial
theorem op_catLL {xs ys : List α} : Rf (dAddL (eL e xs) (eL e ys)) (catR xs ys) (eL e) := by
  unfold catR
  split
  · rename_i h
    show (if szOk ((xs.map e).length + (ys.map e).length) = true then Res.ok (D.lst (xs.map e ++ ys.map e)) else .er) = Res.ok (D.lst ((xs ++ ys).map e))
    rw [List.length_map, List.length_map, h, List.map_append]; rfl
  · trivial
def scatR (a b : Str) : Res Str := if szOk (a.length + b.length) = true then .ok (a ++ b) else .er
theorem op_catS {a b : Str} : Rf (dAdd (.str a) (.str b)) (scatR a b) D.str := by
  unfold scatR
  split
  · rename_i h; exact if_pos h
  · trivial
theorem op_rep {xs : List α} {k : Int} : Rf (dRep (eL e xs) (.int k)) (repR xs k) (eL e) := by
  unfold repR
  split
  · rename_i h
    show (if repOk (xs.map e).length k = true then Res.ok (D.lst (List.replicate k.toNat (xs.map e)).flatten) else .er) = Res.ok (D.lst (((List.replicate k.toNat xs).flatten).map e))
    rw [List.length_map, h, List.map_flatten, List.map_replicate]; rfl
  · trivial
theorem op_lenL {xs : List α} : dLen (eL e xs) = .ok (.int xs.length) := by show Res.ok (D.int (xs.map e).length) = _; rw [List.length_map]
theorem op_lenT {xs : List α} : dLen (eT e xs) = .ok (.int xs.length) := by show Res.ok (D.int (xs.map e).length) = _; rw [List.length_map]
theorem op_lenF {xs : List α} : dLen (eF e xs) = .ok (.int xs.length) := by show Res.ok (D.int (xs.map e).length) = _; rw [List.length_map]
theorem op_trL {xs : List α} : trD (eL e xs) = .ok (!xs.isEmpty) := by show Res.ok (!(xs.map e).isEmpty) = _; rw [List.isEmpty_map]
theorem op_trT {xs : List α} : trD (eT e xs) = .ok (!xs.isEmpty) := by show Res.ok (!(xs.map e).isEmpty) = _; rw [List.isEmpty_map]
theorem op_sumL {xs : List Int} : dSum (eL D.int xs) = .ok (.int xs.sum) := by show (match intsD (xs.map D.int) with | some ns => Res.ok (D.int ns.sum) | none => .er) = _; rw [intsD_map]
theorem op_allL {xs : List Bool} : dAll (eL D.bl xs) = .ok (.bl (xs.all id)) := by show (match boolsD (xs.map D.bl) with | some ns => Res.ok (D.bl (ns.all id)) | none => .er) = _; rw [boolsD_map]
theorem op_anyL {xs : List Bool} : dAny (eL D.bl xs) = .ok (.bl (xs.any id)) := by show (match boolsD (xs.map D.bl) with | some ns => Res.ok (D.bl (ns.any id)) | none => .er) = _; rw [boolsD_map]
theorem op_maxL {xs : List Int} : Rf (dMaxL (eL D.int xs)) (maxR xs) D.int := by
  cases xs with
  | nil => trivial
  | cons x ys =>
    show (match intsD ((x :: ys).map D.int) with | some (x :: ys) => Res.ok (D.int (mxI x ys)) | _ => .er) = _
    rw [intsD_map]
theorem op_minL {xs : List Int} : Rf (dMinL (eL D.int xs)) (minR xs) D.int := by
  cases xs with
  | nil => trivial
  | cons x ys =>
    show (match intsD ((x :: ys).map D.int) with | some (x :: ys) => Res.ok (D.int (mnI x ys)) | _ => .er) = _
    rw [intsD_map]
theorem op_sortL {xs : List Int} : dSorted (eL D.int xs) = .ok (eL D.int (xs.mergeSort leI)) := dSorted_lst
theorem op_sortT {xs : List Int} : dSorted (eT D.int xs) = .ok (eL D.int (xs.mergeSort leI)) := dSorted_tup
theorem op_idx {xs : List Int} {k : Int} (ha : fa ρ = .ok (eL D.int xs)) (hb : fb ρ = .ok (.int k)) : Rf (fIdx fa fb ρ) (idxR xs k) D.int := by
  unfold fIdx
  rw [ha]
  show Rf ((fb ρ).bind _) _ _
  rw [hb]
  show Rf (idxI (xs.map D.int) k) _ _
  unfold idxI idxR
  rw [intsD_map]
  dsimp only
  split
  · rename_i h; rfl
  · trivial
theorem op_cutL {xs : List α} {lo hi : Option Int} : dCut (eL e xs) lo hi = .ok (eL e (cutN xs lo hi)) := by
  show Res.ok (D.lst (cutD (xs.map e) lo hi)) = Res.ok (D.lst ((cutN xs lo hi).map e))
  unfold cutD cutN
  rw [List.length_map, List.map_take, List.map_drop]
theorem op_cutT {xs : List α} {lo hi : Option Int} : dCut (eT e xs) lo hi = .ok (eT e (cutN xs lo hi)) := by
  show Res.ok (D.tup (cutD (xs.map e) lo hi)) = Res.ok (D.tup ((cutN xs lo hi).map e))
  unfold cutD cutN
  rw [List.length_map, List.map_take, List.map_drop]
theorem evCut {f : Env → Res D} {fl fh : Env → Res (Option Int)} {g : D → Option Int → Option Int → Res D} {x z : D} {l h : Option Int} (hf : f ρ = .ok x) (hl : fl ρ = .ok l) (hh : fh ρ = .ok h) (hg : g x l h = .ok z) : fCut g f fl fh ρ = .ok z := by
  unfold fCut
  rw [hf]; show (fl ρ).bind _ = _
  rw [hl]; show (fh ρ).bind _ = _
  rw [hh]; exact hg
theorem evSoI {f : Env → Res D} {i : Int} (hf : f ρ = .ok (.int i)) : fSoI f ρ = .ok (some i) := by unfold fSoI; rw [hf]; rfl
theorem rSoI {f : Env → Res D} {r : Res Int} (hf : Rf (f ρ) r D.int) : Rf (fSoI f ρ) r some := by
  cases r with
  | ok v => exact evSoI hf
  | ex c fs => show fSoI f ρ = _; unfold fSoI; rw [show f ρ = _ from hf]; rfl
  | er => trivial
/-! calls of one, of two -/
theorem evOn1 {g : D → Res D} {x z : D} (ha : fa ρ = .ok x) (hg : g x = .ok z) : fOn (on1 g) (fA fa fA0) ρ = .ok z := evOn (evA ha rfl) hg
theorem evOn2 {g : D → D → Res D} {x y z : D} (ha : fa ρ = .ok x) (hb : fb ρ = .ok y) (hg : g x y = .ok z) : fOn (on2 g) (fA fa (fA fb fA0)) ρ = .ok z := evOn (evA ha (evA hb rfl)) hg
theorem evTup2 {x y : D} (ha : fa ρ = .ok x) (hb : fb ρ = .ok y) : fOn gTupD (fA fa (fA fb fA0)) ρ = .ok (.tup [x, y]) := evOn (evA ha (evA hb rfl)) rfl
theorem rf_chk {n : Nat} {m : List D → Res D} {ds : List D} {r : Res α} (h : Rf (m ds) r e) (hl : ds.length = n) : Rf (chk n m ds) r e := by
  unfold chk; rw [if_pos hl]; exact h
theorem ev_chk {n : Nat} {m : List D → Res D} {ds : List D} {d : D} (h : m ds = .ok d) (hl : ds.length = n) : chk n m ds = .ok d := by
  unfold chk; rw [if_pos hl]; exact h
theorem gtup_ok {ds : List D} (h : ds.length ≤ 100000) : gTupD ds = .ok (.tup ds) := if_pos h
theorem glst_ok {ds : List D} (h : ds.length ≤ 100000) : gLstD ds = .ok (.lst ds) := if_pos h
/-! what is walked -/
theorem it_L {xs : List α} (h : fa ρ = .ok (eL e xs)) : fL fa ρ = .ok (xs.map e) := evL h rfl
theorem it_T {xs : List α} (h : fa ρ = .ok (eT e xs)) : fL fa ρ = .ok (xs.map e) := evL h rfl
theorem it_F {xs : List α} (h : fa ρ = .ok (eF e xs)) : fL fa ρ = .ok (xs.map e) := evL h rfl
theorem rng_mapI {lo : Int} {n : Nat} : rng lo n = (rngI lo n).map D.int := by unfold rng rngI; rw [List.map_map]; rfl
theorem it_R1 {fs : Env → Res (List D)} {j : Int} (h : fs ρ = .ok [.int j]) : Rf (fR1 fs ρ) (rngR j) (fun xs => xs.map D.int) := by
  unfold fR1
  rw [h]
  show Rf (if rngOk 0 j = true then Res.ok (rng 0 j.toNat) else .er) _ _
  unfold rngR
  split
  · rw [rng_mapI]; rfl
  · trivial
theorem it_R2 {fs : Env → Res (List D)} {i j : Int} (h : fs ρ = .ok [.int i, .int j]) : Rf (fR2 fs ρ) (rng2R i j) (fun xs => xs.map D.int) := by
  unfold fR2
  rw [h]
  show Rf (if rngOk i j = true then Res.ok (rng i (j - i).toNat) else .er) _ _
  unfold rng2R
  split
  · rw [rng_mapI]; rfl
  · trivial
theorem op_listR {j : Int} (h : fa ρ = .ok (.int j)) : Rf (fListR1 fa ρ) (rngLR j) (eL D.int) := by
  unfold fListR1
  rw [h]
  show Rf (if rgnOk 0 j = true then Res.ok (D.lst (rng 0 (j - 0).toNat)) else .er) _ _
  unfold rngLR
  split
  · rw [rng_mapI, Int.sub_zero]; rfl
  · trivial
theorem op_tupleR {j : Int} (h : fa ρ = .ok (.int j)) : Rf (fTupleR1 fa ρ) (rngLR j) (eT D.int) := by
  unfold fTupleR1
  rw [h]
  show Rf (if rgnOk 0 j = true then Res.ok (D.tup (rng 0 (j - 0).toNat)) else .er) _ _
  unfold rngLR
  split
  · rw [rng_mapI, Int.sub_zero]; rfl
  · trivial
theorem enum_map : ∀ {xs : List α} {i : Nat}, enumD i (xs.map e) = (enumI i xs).map (eP2 D.int e)
  | [], _ => rfl
  | x :: xs, i => by
    show D.tup [.int (i : Int), e x] :: enumD (i + 1) (xs.map e) = _
    rw [enum_map]
    rfl
theorem it_enL {xs : List α} (h : fa ρ = .ok (eL e xs)) : fEnum (fA fa fA0) ρ = .ok ((enumI 0 xs).map (eP2 D.int e)) := by
  unfold fEnum
  rw [evA h rfl, ← enum_map]
  rfl
theorem it_enT {xs : List α} (h : fa ρ = .ok (eT e xs)) : fEnum (fA fa fA0) ρ = .ok ((enumI 0 xs).map (eP2 D.int e)) := by
  unfold fEnum
  rw [evA h rfl, ← enum_map]
  rfl
theorem zip_map : ∀ {xs : List α} {ys : List β}, zipD (xs.map e) (ys.map f) = (xs.zip ys).map (eP2 e f)
  | [], ys => by simp [zipD]
  | x :: xs, [] => by simp [zipD]
  | x :: xs, y :: ys => by
    show D.tup [e x, f y] :: zipD (xs.map e) (ys.map f) = _
    rw [zip_map]
    rfl
theorem it_zipL {xs : List α} {ys : List β} (h : fa ρ = .ok (eL e xs)) (k : fb ρ = .ok (eL f ys)) : fZip (fA fa (fA fb fA0)) ρ = .ok ((xs.zip ys).map (eP2 e f)) := by
  unfold fZip
  rw [evA h (evA k rfl), ← zip_map]
  rfl
theorem it_zipT {xs : List α} {ys : List β} (h : fa ρ = .ok (eT e xs)) (k : fb ρ = .ok (eT f ys)) : fZip (fA fa (fA fb fA0)) ρ = .ok ((xs.zip ys).map (eP2 e f)) := by
  unfold fZip
  rw [evA h (evA k rfl), ← zip_map]
  rfl
/-- an iterable told by a value that may fail -/
theorem it_i {r : Res α} {xs : α → List β} {it : D → Res (List D)} {ea : α → D} (h : Rf (fa ρ) r ea) (k : ∀ x, it (ea x) = .ok ((xs x).map f)) : Rf ((fa ρ).bind it) (r.bind fun x => .ok (xs x)) (fun ys => ys.map f) := b_i h fun x => k x
end
/-! comprehensions -/
section
variable {α β γ α' : Type} {ex : α → D} {e : β → D} {vs vs1 : List Nat} {it it1 : Env → Res (List D)} {g g1 : D → Env → Res Env} {c c1 : Env → Res Bool} {f : Env → Res D} {ρ : Env}
theorem lcGo_rf {rc : α → Res Bool} {rf : α → Res β} {E1 : α → Env} (hg : ∀ x, g (ex x) ρ = .ok (E1 x)) (hc : ∀ x, Rf (c (E1 x)) (rc x) (fun b => b)) (hf : ∀ x, Rf (f (E1 x)) (rf x) e) : ∀ xs : List α, match lcR.go rc rf xs with
    | .ok ys => lcGo g c f ρ (xs.map ex) = .ok (ys.map e)
    | .ex _ _ => False
    | .er => True
  | [] => rfl
  | x :: xs => by
    have ih := lcGo_rf hg hc hf xs
    unfold lcR.go
    rw [List.map_cons]
    unfold lcGo
    rw [hg]
    have h1 := hc x
    have h2 := hf x
    cases q : rc x with
    | ok b =>
      rw [q] at h1
      have h1 : c (E1 x) = .ok b := h1
      dsimp only
      rw [h1]
      cases b with
      | true =>
        cases q2 : rf x with
        | ok y =>
          rw [q2] at h2
          have h2 : f (E1 x) = .ok (e y) := h2
          dsimp only
          rw [h2]
          cases q3 : lcR.go rc rf xs with
          | ok ys => rw [q3] at ih; dsimp only at ih ⊢; rw [ih]; rfl
          | ex _ _ => rw [q3] at ih; exact ih.elim
          | er => exact trivial
        | ex _ _ => exact trivial
        | er => exact trivial
      | false => exact ih
    | ex _ _ => exact trivial
    | er => exact trivial
theorem rf_lcp {rc : α → Res Bool} {rf : α → Res β} {xs : List α} (hi : it ρ = .ok (xs.map ex)) (E1 : α → Env) (hg : ∀ x, g (ex x) (wipeD ρ vs) = .ok (E1 x)) (hc : ∀ x, Rf (c (E1 x)) (rc x) (fun b => b)) (hf : ∀ x, Rf (f (E1 x)) (rf x) e) : Rf (fLc vs it g c f ρ) (lcR xs rc rf) (eL e) := by
  unfold fLc lcR
  rw [hi]
  show Rf (if szOk (xs.map ex).length = true then asLst (lcGo g c f (wipeD ρ vs) (xs.map ex)) else .er) _ _
  rw [List.length_map]
  split
  · have := lcGo_rf hg hc hf xs
    cases q : lcR.go rc rf xs with
    | ok ys => rw [q] at this; dsimp only at this; rw [this]; exact rfl
    | ex _ _ => rw [q] at this; exact this.elim
    | er => exact trivial
  · exact trivial
theorem rf_lc {rc : α → Res Bool} {rf : α → Res β} {rxs : Res (List α)} (hi : Rf (it ρ) rxs (fun xs => xs.map ex)) (E1 : α → Env) (hg : ∀ x, g (ex x) (wipeD ρ vs) = .ok (E1 x)) (hc : ∀ x, Rf (c (E1 x)) (rc x) (fun b => b)) (hf : ∀ x, Rf (f (E1 x)) (rf x) e) : Rf (fLc vs it g c f ρ) (rxs.bind fun xs => lcR xs rc rf) (eL e) := by
  cases rxs with
  | ok xs => exact rf_lcp hi E1 hg hc hf
  | ex cn fs =>
    show fLc vs it g c f ρ = _
    unfold fLc
    rw [show it ρ = _ from hi]
    rfl
  | er => exact trivial
theorem lc2Go_rf {rc : α → Res Bool} {i1 : α → Res (List β)} {c1r : α → β → Res Bool} {rf : α → β → Res γ} {ey : β → D} {ez : γ → D} {E1 : α → Env} {E2 : α → β → Env} (hg : ∀ x, g (ex x) ρ = .ok (E1 x)) (hc : ∀ x, Rf (c (E1 x)) (rc x) (fun b => b))
    (hi1 : ∀ x, Rf (it1 (E1 x)) (i1 x) (fun ys => ys.map ey)) (hg1 : ∀ x y, g1 (ey y) (wipeD (E1 x) vs1) = .ok (E2 x y)) (hc1 : ∀ x y, Rf (c1 (E2 x y)) (c1r x y) (fun b => b)) (hf : ∀ x y, Rf (f (E2 x y)) (rf x y) ez) : ∀ xs : List α, match lc2R.go rc i1 c1r rf xs with
    | .ok ys => lc2Go g c vs1 it1 g1 c1 f ρ (xs.map ex) = .ok (ys.map ez)
    | .ex _ _ => False
    | .er => True
  | [] => rfl
  | x :: xs => by
    have ih := lc2Go_rf hg hc hi1 hg1 hc1 hf xs
    unfold lc2R.go
    rw [List.map_cons]
    unfold lc2Go
    rw [hg]
    have h1 := hc x
    have h2 := hi1 x
    cases q : rc x with
    | ok b =>
      rw [q] at h1
      have h1 : c (E1 x) = .ok b := h1
      dsimp only
      rw [h1]
      cases b with
      | true =>
        cases q2 : i1 x with
        | ok ys =>
          rw [q2] at h2
          have h2 : it1 (E1 x) = .ok (ys.map ey) := h2
          dsimp only
          rw [h2]
          have h3 := lcGo_rf (hg1 x) (hc1 x) (hf x) ys
          cases q3 : lcR.go (c1r x) (rf x) ys with
          | ok zs =>
            rw [q3] at h3
            dsimp only at h3
            simp only [nx_ok, Res.bind_ok, if_true, q3, h3]
            cases q4 : lc2R.go rc i1 c1r rf xs with
            | ok ws => rw [q4] at ih; dsimp only at ih ⊢; rw [ih]; simp only [Res.bind_ok, List.map_append]
            | ex _ _ => rw [q4] at ih; exact ih.elim
            | er => exact trivial
          | ex _ _ => rw [q3] at h3; exact h3.elim
          | er => simp only [nx_ok, Res.bind_ok, if_true, q3, Res.bind_er]
        | ex _ _ => exact trivial
        | er => exact trivial
      | false => exact ih
    | ex _ _ => exact trivial
    | er => exact trivial
theorem rf_lc2p {rc : α → Res Bool} {i1 : α → Res (List β)} {c1r : α → β → Res Bool} {rf : α → β → Res γ} {ey : β → D} {ez : γ → D} {xs : List α} (hi : it ρ = .ok (xs.map ex)) (E1 : α → Env) (E2 : α → β → Env) (hg : ∀ x, g (ex x) (wipeD ρ vs) = .ok (E1 x)) (hc : ∀ x, Rf (c (E1 x)) (rc x) (fun b => b))
    (hi1 : ∀ x, Rf (it1 (E1 x)) (i1 x) (fun ys => ys.map ey)) (hg1 : ∀ x y, g1 (ey y) (wipeD (E1 x) vs1) = .ok (E2 x y)) (hc1 : ∀ x y, Rf (c1 (E2 x y)) (c1r x y) (fun b => b)) (hf : ∀ x y, Rf (f (E2 x y)) (rf x y) ez) : Rf (fLc2 vs it g c vs1 it1 g1 c1 f ρ) (lc2R xs rc i1 c1r rf) (eL ez) := by
  unfold fLc2 lc2R
  rw [hi]
  show Rf (match lc2Go g c vs1 it1 g1 c1 f (wipeD ρ vs) (xs.map ex) with
    | .ok ys => if szOk ys.length = true then .ok (D.lst ys) else .er
    | _ => .er) _ _
  have := lc2Go_rf hg hc hi1 hg1 hc1 hf xs
  cases q : lc2R.go rc i1 c1r rf xs with
  | ok ys =>
    rw [q] at this
    dsimp only at this
    rw [this]
    dsimp only
    show Rf _ (if szOk ys.length = true then Res.ok ys else .er) _
    rw [List.length_map]
    split
    · exact rfl
    · exact trivial
  | ex _ _ => rw [q] at this; exact this.elim
  | er => exact trivial
theorem rf_lc2 {rc : α → Res Bool} {i1 : α → Res (List β)} {c1r : α → β → Res Bool} {rf : α → β → Res γ} {ey : β → D} {ez : γ → D} {rxs : Res (List α)} (hi : Rf (it ρ) rxs (fun xs => xs.map ex)) (E1 : α → Env) (E2 : α → β → Env) (hg : ∀ x, g (ex x) (wipeD ρ vs) = .ok (E1 x)) (hc : ∀ x, Rf (c (E1 x)) (rc x) (fun b => b))
    (hi1 : ∀ x, Rf (it1 (E1 x)) (i1 x) (fun ys => ys.map ey)) (hg1 : ∀ x y, g1 (ey y) (wipeD (E1 x) vs1) = .ok (E2 x y)) (hc1 : ∀ x y, Rf (c1 (E2 x y)) (c1r x y) (fun b => b)) (hf : ∀ x y, Rf (f (E2 x y)) (rf x y) ez) : Rf (fLc2 vs it g c vs1 it1 g1 c1 f ρ) (rxs.bind fun xs => lc2R xs rc i1 c1r rf) (eL ez) := by
  cases rxs with
  | ok xs => exact rf_lc2p hi E1 E2 hg hc hi1 hg1 hc1 hf
  | ex cn fs =>
    show fLc2 vs it g c vs1 it1 g1 c1 f ρ = _
    unfold fLc2
    rw [show it ρ = _ from hi]
    rfl
  | er => exact trivial
/-- over a written row -/
theorem rf_lcN1 {e1 : α → D} {r1 : Res α} {d1 : D} {ρ1 : Env} (hi : it ρ = .ok [d1]) (hg1 : g d1 (wipeD ρ vs) = .ok ρ1) (hf1 : Rf (f ρ1) r1 e1) : Rf (fLc vs it g fYes f ρ) (nx r1) (eH1 e1) := by
  unfold fLc
  rw [hi]
  show Rf (if szOk 1 = true then asLst (lcGo g fYes f (wipeD ρ vs) [d1]) else .er) _ _
  rw [if_pos (szOk_yes (by decide))]
  unfold lcGo
  rw [hg1]
  cases r1 with
  | ok y => dsimp only [fYes]; rw [show f ρ1 = _ from hf1]; exact rfl
  | _ => exact trivial
theorem rf_lcN2 {e1 : α → D} {e2 : β → D} {r1 : Res α} {r2 : Res β} {d1 d2 : D} {ρ1 ρ2 : Env} (hi : it ρ = .ok [d1, d2]) (hg1 : g d1 (wipeD ρ vs) = .ok ρ1) (hg2 : g d2 (wipeD ρ vs) = .ok ρ2) (hf1 : Rf (f ρ1) r1 e1) (hf2 : Rf (f ρ2) r2 e2) : Rf (fLc vs it g fYes f ρ) ((nx r1).bind fun x => (nx r2).bind fun y => .ok (x, y)) (eH2 e1 e2) := by
  unfold fLc
  rw [hi]
  show Rf (if szOk 2 = true then asLst (lcGo g fYes f (wipeD ρ vs) [d1, d2]) else .er) _ _
  rw [if_pos (szOk_yes (by decide))]
  cases r1 with
  | ok y =>
    cases r2 with
    | ok z => simp only [lcGo, hg1, hg2, fYes, show f ρ1 = _ from hf1, show f ρ2 = _ from hf2, if_true]; exact rfl
    | _ => exact trivial
  | _ => exact trivial
end
/-! loops -/
section
variable {α β γ δ σ : Type} {ex : α → D} {e : β → D} {vs : List Nat} {it : Env → Res (List D)} {g : D → Env → Res Env} {F G : FS} {ρ : Env} {K : Res Fl → Res δ} {o : γ → δ}
def ctlO {σ β : Type} (E : σ → Env) (e : β → D) : Ctl σ β → Fl
  | .go s => .nx (E s)
  | .out s => .bk (E s)
  | .ret v => .rt (e v)
def LoopC {σ β : Type} (E : σ → Env) (e : β → D) (m : Res Fl) (r : Res (Ctl σ β)) : Prop := match r with
  | .ok (.go s') => m = .ok (.nx (E s'))
  | .ok (.out _) => False
  | .ok (.ret v) => m = .ok (.rt (e v))
  | .ex c fs => ∃ ρ, m = .ok (.xc c fs ρ)
  | .er => True
def LoopR {σ : Type} (E : σ → Env) (m : Res Fl) (r : Res σ) : Prop := match r with
  | .ok s' => m = .ok (.nx (E s'))
  | .ex c fs => ∃ ρ, m = .ok (.xc c fs ρ)
  | .er => True
theorem finL_nx {vs : List Nat} {m : Res Fl} {ρ : Env} (h : finL vs m = .ok (.nx ρ)) : fgt vs m = .ok (.nx ρ) ∨ fgt vs m = .ok (.ct ρ) := by
  unfold finL at h
  split at h <;> cases h
  · exact .inl rfl
  · exact .inr rfl
theorem finL_bk {vs : List Nat} {m : Res Fl} {ρ : Env} (h : finL vs m = .ok (.bk ρ)) : fgt vs m = .ok (.bk ρ) := by
  unfold finL at h
  split at h <;> cases h
  rfl
theorem finL_rt {vs : List Nat} {m : Res Fl} {d : D} (h : finL vs m = .ok (.rt d)) : fgt vs m = .ok (.rt d) := by
  unfold finL at h
  split at h <;> cases h
  rfl
theorem finL_ex {vs : List Nat} {m : Res Fl} {c : Str} {fs : List (Str × D)} (h : finL vs m = .ex c fs) : ∃ ρ, fgt vs m = .ok (.xc c fs ρ) := by
  unfold finL at h
  split at h <;> cases h
  exact ⟨_, rfl⟩
theorem finL_end {vs : List Nat} {N : Res γ} {o : γ → Fl} (h : Rf (finL vs (fSeq F fNext ρ)) N o) : Rf (finL vs (F ρ)) N o := t_end h
theorem forGo_C {E : σ → Env} {E1 : σ → α → Env} {f : σ → α → Res (Ctl σ β)} (hg : ∀ s x, g (ex x) (E s) = .ok (E1 s x)) (hb : ∀ s x, Rf (finL vs (fSeq F fNext (E1 s x))) (f s x) (ctlO E e)) : ∀ (xs : List α) (s : σ), LoopC E e (forGo g (fFgt vs F) (xs.map ex) (E s)) (forC f xs s)
  | [], s => rfl
  | x :: xs, s => by
    unfold forC
    rw [List.map_cons]
    unfold forGo
    rw [hg]
    have h := finL_end (hb s x)
    cases q : f s x with
    | ok c =>
      rw [q] at h
      cases c with
      | go s' =>
        have ih := forGo_C hg hb xs s'
        rcases finL_nx h with h | h
        · dsimp only [Res.bind_ok, fFgt]
          rw [h]
          exact ih
        · dsimp only [Res.bind_ok, fFgt]
          rw [h]
          exact ih
      | out s' =>
        dsimp only [Res.bind_ok, fFgt]
        rw [finL_bk h]; exact rfl
      | ret v =>
        dsimp only [Res.bind_ok, fFgt]
        rw [finL_rt h]; exact rfl
    | ex c fs =>
      rw [q] at h
      obtain ⟨ρ1, h⟩ := finL_ex h
      dsimp only [Res.bind_ex, fFgt]
      rw [h]
      exact ⟨ρ1, rfl⟩
    | er => exact trivial
theorem forGo_R {E : σ → Env} {E1 : σ → α → Env} {f : σ → α → Res σ} (hg : ∀ s x, g (ex x) (E s) = .ok (E1 s x)) (hb : ∀ s x, Rf (finL vs (fSeq F fNext (E1 s x))) (f s x) (fun s => .nx (E s))) : ∀ (xs : List α) (s : σ), LoopR E (forGo g (fFgt vs F) (xs.map ex) (E s)) (forR f xs s)
  | [], s => rfl
  | x :: xs, s => by
    unfold forR
    rw [List.map_cons]
    unfold forGo
    rw [hg]
    have h := finL_end (hb s x)
    cases q : f s x with
    | ok s' =>
      rw [q] at h
      have ih := forGo_R hg hb xs s'
      rcases finL_nx h with h | h
      · dsimp only [Res.bind_ok, fFgt]
        rw [h]
        exact ih
      · dsimp only [Res.bind_ok, fFgt]
        rw [h]
        exact ih
    | ex c fs =>
      rw [q] at h
      obtain ⟨ρ1, h⟩ := finL_ex h
      dsimp only [Res.bind_ex, fFgt]
      rw [h]
      exact ⟨ρ1, rfl⟩
    | er => exact trivial
/-- a loop that neither breaks nor returns -/
theorem s_forp {f : σ → α → Res σ} {xs : List α} {s0 : σ} (hi : it ρ = .ok (xs.map ex)) (E : σ → Env) (E1 : σ → α → Env) (h0 : ρ = E s0) (hg : ∀ s x, g (ex x) (E s) = .ok (E1 s x)) (hb : ∀ s x, Rf (finL vs (fSeq F fNext (E1 s x))) (f s x) (fun s => .nx (E s))) : Rf (finS [] (fFor it g (fFgt vs F) ρ)) (forR f xs s0) (fun s => .nx (E s)) := by
  have h := forGo_R hg hb xs s0
  rw [fFor_ap hi]
  cases q : forR f xs s0 with
  | ok s' => rw [q] at h; have h : _ = _ := h; rw [h0, h]; exact rfl
  | ex c fs => rw [q] at h; obtain ⟨ρ1, h⟩ := h; rw [h0, h]; exact rfl
  | er => exact trivial
theorem s_for {f : σ → α → Res σ} {rxs : Res (List α)} {s0 : σ} (hi : Rf (it ρ) rxs (fun xs => xs.map ex)) (E : σ → Env) (E1 : σ → α → Env) (h0 : ρ = E s0) (hg : ∀ s x, g (ex x) (E s) = .ok (E1 s x)) (hb : ∀ s x, Rf (finL vs (fSeq F fNext (E1 s x))) (f s x) (fun s => .nx (E s))) : Rf (finS [] (fFor it g (fFgt vs F) ρ)) (rxs.bind fun xs => forR f xs s0) (fun s => .nx (E s)) := by
  cases rxs with
  | ok xs => exact s_forp hi E E1 h0 hg hb
  | ex c fs =>
    show finS [] (lift (it ρ) ρ _) = _
    rw [show it ρ = _ from hi]
    rfl
  | er => exact trivial
/-- a loop with breaks -/
theorem s_forBp {f : σ → α → Res (Ctl σ Unit)} {xs : List α} {s0 : σ} (hi : it ρ = .ok (xs.map ex)) (E : σ → Env) (E1 : σ → α → Env) (h0 : ρ = E s0) (hg : ∀ s x, g (ex x) (E s) = .ok (E1 s x)) (hb : ∀ s x, Rf (finL vs (fSeq F fNext (E1 s x))) (f s x) (ctlO E eN)) : Rf (finS [] (fFor it g (fFgt vs F) ρ)) ((forC f xs s0).bind ctlS) (fun s => .nx (E s)) := by
  have h := forGo_C hg hb xs s0
  rw [fFor_ap hi]
  cases q : forC f xs s0 with
  | ok c =>
    rw [q] at h
    cases c with
    | go s' => have h : _ = _ := h; rw [h0, h]; exact rfl
    | out s' => exact h.elim
    | ret v => exact trivial
  | ex c fs => rw [q] at h; obtain ⟨ρ1, h⟩ := h; rw [h0, h]; exact rfl
  | er => exact trivial
theorem s_forB {f : σ → α → Res (Ctl σ Unit)} {rxs : Res (List α)} {s0 : σ} (hi : Rf (it ρ) rxs (fun xs => xs.map ex)) (E : σ → Env) (E1 : σ → α → Env) (h0 : ρ = E s0) (hg : ∀ s x, g (ex x) (E s) = .ok (E1 s x)) (hb : ∀ s x, Rf (finL vs (fSeq F fNext (E1 s x))) (f s x) (ctlO E eN)) : Rf (finS [] (fFor it g (fFgt vs F) ρ)) (rxs.bind fun xs => (forC f xs s0).bind ctlS) (fun s => .nx (E s)) := by
  cases rxs with
  | ok xs => exact s_forBp hi E E1 h0 hg hb
  | ex c fs =>
    show finS [] (lift (it ρ) ρ _) = _
    rw [show it ρ = _ from hi]
    rfl
  | er => exact trivial
/-- a loop that may return -/
def ctlK {σ β γ : Type} (k : σ → Res γ) (rk : β → γ) (o : Ctl σ β) : Res γ := match o with
  | .go s => k s
  | .out s => k s
  | .ret v => .ok (rk v)
theorem t_forCp (hK : Fin K) {f : σ → α → Res (Ctl σ β)} {xs : List α} {s0 : σ} {k : σ → Res γ} {rk : β → γ} (hi : it ρ = .ok (xs.map ex)) (E : σ → Env) (E1 : σ → α → Env) (h0 : ρ = E s0) (hg : ∀ s x, g (ex x) (E s) = .ok (E1 s x)) (hb : ∀ s x, Rf (finL vs (fSeq F fNext (E1 s x))) (f s x) (ctlO E e))
    (hk : ∀ s, Rf (K (G (E s))) (k s) o) (hr : ∀ v, K (.ok (.rt (e v))) = .ok (o (rk v))) : Rf (K (fSeq (fFor it g (fFgt vs F)) G ρ)) ((forC f xs s0).bind (ctlK k rk)) o := by
  have h := forGo_C hg hb xs s0
  have e1 : fSeq (fFor it g (fFgt vs F)) G ρ = andThen (forGo g (fFgt vs F) (xs.map ex) (E s0)) G := by
    rw [fSeq_ap, fFor_ap hi, h0]
  rw [e1]
  cases q : forC f xs s0 with
  | ok c =>
    rw [q] at h
    cases c with
    | go s' => have h : _ = _ := h; rw [h]; exact hk s'
    | out s' => exact h.elim
    | ret v => have h : _ = _ := h; rw [h]; exact hr v
  | ex c fs => rw [q] at h; obtain ⟨ρ1, h⟩ := h; rw [h]; exact hK.xc _ _ _
  | er => exact trivial
theorem t_forC (hK : Fin K) {f : σ → α → Res (Ctl σ β)} {rxs : Res (List α)} {s0 : σ} {k : σ → Res γ} {rk : β → γ} (hi : Rf (it ρ) rxs (fun xs => xs.map ex)) (E : σ → Env) (E1 : σ → α → Env) (h0 : ρ = E s0) (hg : ∀ s x, g (ex x) (E s) = .ok (E1 s x)) (hb : ∀ s x, Rf (finL vs (fSeq F fNext (E1 s x))) (f s x) (ctlO E e))
    (hk : ∀ s, Rf (K (G (E s))) (k s) o) (hr : ∀ v, K (.ok (.rt (e v))) = .ok (o (rk v))) : Rf (K (fSeq (fFor it g (fFgt vs F)) G ρ)) (rxs.bind fun xs => (forC f xs s0).bind (ctlK k rk)) o := by
  cases rxs with
  | ok xs => exact t_forCp hK hi E E1 h0 hg hb hk hr
  | ex c fs =>
    have : fSeq (fFor it g (fFgt vs F)) G ρ = .ok (.xc c fs ρ) := by
      show andThen (lift (it ρ) ρ _) G = _
      rw [show it ρ = _ from hi]
      rfl
    rw [this]
    exact hK.xc _ _ _
  | er => exact trivial
theorem whileGo_C {c : Env → Res Bool} {E : σ → Env} {rc : σ → Res Bool} {f : σ → Res (Ctl σ β)} (hc : ∀ s, Rf (c (E s)) (rc s) (fun b => b)) (hb : ∀ s, Rf (finL vs (fSeq F fNext (E s))) (f s) (ctlO E e)) : ∀ (n : Nat) (s : σ), LoopC E e (whileGo c (fFgt vs F) n (E s)) (whileC rc f n s)
  | 0, s => trivial
  | n + 1, s => by
    unfold whileC whileGo
    have h1 := hc s
    cases q1 : rc s with
    | ok b =>
      rw [q1] at h1
      rw [show c (E s) = _ from h1]
      cases b with
      | false => exact rfl
      | true =>
        have h := finL_end (hb s)
        dsimp only [Res.bind_ok, lift_ok]
        rw [if_pos rfl, if_pos rfl]
        cases q : f s with
        | ok c' =>
          rw [q] at h
          cases c' with
          | go s' =>
            have ih := whileGo_C hc hb n s'
            rcases finL_nx h with h | h
            · dsimp only [Res.bind_ok, fFgt]
              rw [h]
              exact ih
            · dsimp only [Res.bind_ok, fFgt]
              rw [h]
              exact ih
          | out s' =>
            dsimp only [Res.bind_ok, fFgt]
            rw [finL_bk h]; exact rfl
          | ret v =>
            dsimp only [Res.bind_ok, fFgt]
            rw [finL_rt h]; exact rfl
        | ex c fs =>
          rw [q] at h
          obtain ⟨ρ1, h⟩ := finL_ex h
          dsimp only [Res.bind_ex, fFgt]
          rw [h]
          exact ⟨ρ1, rfl⟩
        | er => exact trivial
    | ex c' fs =>
      rw [q1] at h1
      rw [show c (E s) = _ from h1]
      exact ⟨_, rfl⟩
    | er => exact trivial
theorem s_while {c : Env → Res Bool} {rc : σ → Res Bool} {f : σ → Res (Ctl σ Unit)} {s0 : σ} (E : σ → Env) (h0 : ρ = E s0) (hc : ∀ s, Rf (c (E s)) (rc s) (fun b => b)) (hb : ∀ s, Rf (finL vs (fSeq F fNext (E s))) (f s) (ctlO E eN)) : Rf (finS [] (fWhile c (fFgt vs F) ρ)) ((whileC rc f FUEL s0).bind ctlS) (fun s => .nx (E s)) := by
  have h := whileGo_C hc hb FUEL s0
  unfold fWhile
  cases q : whileC rc f FUEL s0 with
  | ok c =>
    rw [q] at h
    cases c with
    | go s' => have h : _ = _ := h; rw [h0, h]; exact rfl
    | out s' => exact h.elim
    | ret v => exact trivial
  | ex c fs => rw [q] at h; obtain ⟨ρ1, h⟩ := h; rw [h0, h]; exact rfl
  | er => exact trivial
theorem t_whileC (hK : Fin K) {c : Env → Res Bool} {rc : σ → Res Bool} {f : σ → Res (Ctl σ β)} {s0 : σ} {k : σ → Res γ} {rk : β → γ} (E : σ → Env) (h0 : ρ = E s0) (hc : ∀ s, Rf (c (E s)) (rc s) (fun b => b)) (hb : ∀ s, Rf (finL vs (fSeq F fNext (E s))) (f s) (ctlO E e))
    (hk : ∀ s, Rf (K (G (E s))) (k s) o) (hr : ∀ v, K (.ok (.rt (e v))) = .ok (o (rk v))) : Rf (K (fSeq (fWhile c (fFgt vs F)) G ρ)) ((whileC rc f FUEL s0).bind (ctlK k rk)) o := by
  have h := whileGo_C hc hb FUEL s0
  have e1 : fSeq (fWhile c (fFgt vs F)) G ρ = andThen (whileGo c (fFgt vs F) FUEL (E s0)) G := by rw [fSeq_ap, h0]; rfl
  rw [e1]
  cases q : whileC rc f FUEL s0 with
  | ok c =>
    rw [q] at h
    cases c with
    | go s' => have h : _ = _ := h; rw [h]; exact hk s'
    | out s' => exact h.elim
    | ret v => have h : _ = _ := h; rw [h]; exact hr v
  | ex c fs => rw [q] at h; obtain ⟨ρ1, h⟩ := h; rw [h]; exact hK.xc _ _ _
  | er => exact trivial
end
end Da
namespace Da
open PySem PySem.Spec L2
/-! ### native readings: statements, data compared -/
section
variable {α β γ δ σ : Type} {K : Res Fl → Res δ} {F G : FS} {ρ : Env} {f fa fb fj : Env → Res D} {e : α → D} {i j : Nat} {r : Res α} {N : Res γ} {o : γ → δ} {fs : Env → Res (List D)} {c : Env → Res Bool} {g1 : D → Res D} {g2 : D → D → Res D}
theorem rf_bv {rb : Res Bool} {m : Res Bool} (h : Rf m rb (fun b => b)) : Rf (m.bind fun b => .ok (.bl b)) rb D.bl := by
  cases rb with
  | ok b => rw [show m = _ from h]; rfl
  | ex c fs => rw [show m = _ from h]; rfl
  | er => trivial
theorem b_iB {m : Res D} {rb : Res Bool} (h : Rf m rb D.bl) : Rf (m.bind asB) rb (fun b => b) := by
  cases rb with
  | ok b => rw [show m = _ from h]; rfl
  | ex c fs => rw [show m = _ from h]; rfl
  | er => trivial
theorem b_iT {m : Res D} {rb : Res Bool} (h : Rf m rb D.bl) : Rf (m.bind trD) rb (fun b => b) := by
  cases rb with
  | ok b => rw [show m = _ from h]; rfl
  | ex c fs => rw [show m = _ from h]; rfl
  | er => trivial
theorem b_iL {m : Res D} {r : Res (List α)} {q : List α → D} (h : Rf m r q) (hq : ∀ xs, asL (q xs) = .ok (xs.map e)) : Rf (m.bind asL) r (fun xs => xs.map e) := by
  cases r with
  | ok b => rw [show m = _ from h]; exact hq b
  | ex c fs => rw [show m = _ from h]; rfl
  | er => trivial
theorem evChain {g g' : D → D → Res D} {fc : Env → Res D} {x y z : D} {a b : Bool} (ha : fa ρ = .ok x) (hb : fb ρ = .ok y) (hc : fc ρ = .ok z) (h1 : g x y = .ok (.bl a)) (h2 : g' y z = .ok (.bl b)) : fChain g g' fa fb fc ρ = .ok (.bl (a && b)) := by
  unfold fChain
  rw [ha]; show (fb ρ).bind _ = _
  rw [hb]; show (g x y).bind _ = _
  rw [h1]
  cases a with
  | true => show (fc ρ).bind _ = _; rw [hc]; exact h2
  | false => rfl
theorem rAndT {rb : Res Bool} {ca cb : Env → Res Bool} (ha : ca ρ = .ok true) (hb : Rf (cb ρ) rb (fun x => x)) : Rf (fAnd ca cb ρ) rb (fun x => x) := by unfold fAnd; rw [ha]; exact hb
theorem rOrF {rb : Res Bool} {ca cb : Env → Res Bool} (ha : ca ρ = .ok false) (hb : Rf (cb ρ) rb (fun x => x)) : Rf (fOr ca cb ρ) rb (fun x => x) := by unfold fOr; rw [ha]; exact hb
theorem it_row1 {d1 : D} {t : D} (h : fa ρ = .ok t) (ht : asL t = .ok [d1] := by rfl) : fL fa ρ = .ok [d1] := evL h ht
theorem it_row2 {d1 d2 : D} {t : D} (h : fa ρ = .ok t) (ht : asL t = .ok [d1, d2] := by rfl) : fL fa ρ = .ok [d1, d2] := evL h ht
theorem q_f1 (h : Rf ((fa ρ).bind g1) N o') : Rf (f1 g1 fa ρ) N o' := h
theorem q_f2 (h : Rf ((fa ρ).bind fun x => (fb ρ).bind fun y => g2 x y) N o') : Rf (f2 g2 fa fb ρ) N o' := h
theorem q_on {g : List D → Res D} (h : Rf ((fs ρ).bind g) N o') : Rf (fOn g fs ρ) N o' := h
theorem q_B {o' : γ → Bool} (h : Rf ((f ρ).bind asB) N o') : Rf (fB f ρ) N o' := h
theorem q_Bv {o' : γ → D} (h : Rf ((c ρ).bind fun b => .ok (.bl b)) N o') : Rf (fBv c ρ) N o' := h
theorem q_Tr {o' : γ → Bool} (h : Rf ((f ρ).bind trD) N o') : Rf (fTr f ρ) N o' := h
theorem q_Not {o' : γ → Bool} (h : Rf ((c ρ).bind fun c => .ok (!c)) N o') : Rf (fNot c ρ) N o' := h
theorem q_L {o' : γ → List D} (h : Rf ((f ρ).bind asL) N o') : Rf (fL f ρ) N o' := h
theorem q_R1 {o' : γ → List D} (h : Rf ((fs ρ).bind gRng1) N o') : Rf (fR1 fs ρ) N o' := h
theorem q_R2 {o' : γ → List D} (h : Rf ((fs ρ).bind gRng2) N o') : Rf (fR2 fs ρ) N o' := h
theorem q_En {o' : γ → List D} (h : Rf ((fs ρ).bind dEnum) N o') : Rf (fEnum fs ρ) N o' := h
theorem q_Zip {o' : γ → List D} (h : Rf ((fs ρ).bind dZip) N o') : Rf (fZip fs ρ) N o' := h
theorem q_Cut {g : D → Option Int → Option Int → Res D} {fl fh : Env → Res (Option Int)} {o' : γ → D} (h : Rf ((f ρ).bind fun x => (fl ρ).bind fun l => (fh ρ).bind fun h => g x l h) N o') : Rf (fCut g f fl fh ρ) N o' := h
theorem k_R1 {j : Int} : Rf (gRng1 [.int j]) (rngR j) (fun xs => xs.map D.int) := it_R1 (ρ := []) (fs := fun _ => .ok [.int j]) rfl
theorem k_R2 {i j : Int} : Rf (gRng2 [.int i, .int j]) (rng2R i j) (fun xs => xs.map D.int) := it_R2 (ρ := []) (fs := fun _ => .ok [.int i, .int j]) rfl
theorem k_enL {xs : List α} : dEnum [eL e xs] = .ok ((enumI 0 xs).map (eP2 D.int e)) := by rw [← enum_map]; rfl
theorem k_enT {xs : List α} : dEnum [eT e xs] = .ok ((enumI 0 xs).map (eP2 D.int e)) := by rw [← enum_map]; rfl
theorem k_zipL {f : β → D} {xs : List α} {ys : List β} : dZip [eL e xs, eL f ys] = .ok ((xs.zip ys).map (eP2 e f)) := by rw [← zip_map]; rfl
theorem k_zipT {f : β → D} {xs : List α} {ys : List β} : dZip [eT e xs, eT f ys] = .ok ((xs.zip ys).map (eP2 e f)) := by rw [← zip_map]; rfl
theorem k_idx {xs : List Int} {k : Int} : Rf (match eL D.int xs with | .lst xs => (match D.int k with | .int k => idxI xs k | _ => .er) | _ => .er) (idxR xs k) D.int := op_idx (ρ := []) (fa := fun _ => .ok (eL D.int xs)) (fb := fun _ => .ok (.int k)) rfl rfl
theorem q_Idx {x y : D} (ha : fa ρ = .ok (.lst x')) (h : Rf ((fb ρ).bind fun y => (match y with | .int k => idxI x' k | _ => .er)) N o') : Rf (fIdx fa fb ρ) N o' := by
  unfold fIdx; rw [ha]; exact h
theorem k_listR {j : Int} : Rf (match D.int j with | .int j => if rgnOk 0 j = true then Res.ok (.lst (rng 0 (j - 0).toNat)) else .er | _ => .er) (rngLR j) (eL D.int) := op_listR (ρ := []) (fa := fun _ => .ok (.int j)) rfl
theorem q_lR (h : Rf ((f ρ).bind fun d => match d with
  | .int j => if rgnOk 0 j = true then .ok (.lst (rng 0 (j - 0).toNat)) else .er
  | _ => .er) N o') : Rf (fListR1 f ρ) N o' := h
theorem q_tR (h : Rf ((f ρ).bind fun d => match d with
  | .int j => if rgnOk 0 j = true then .ok (.tup (rng 0 (j - 0).toNat)) else .er
  | _ => .er) N o') : Rf (fTupleR1 f ρ) N o' := h
theorem k_tupleR {j : Int} : Rf (match D.int j with | .int j => if rgnOk 0 j = true then Res.ok (.tup (rng 0 (j - 0).toNat)) else .er | _ => .er) (rngLR j) (eT D.int) := op_tupleR (ρ := []) (fa := fun _ => .ok (.int j)) rfl
theorem set_p {d : D} {ρ' : Env} (hf : f ρ = .ok d) (h : ρ.set i (some d) = ρ') : fSet i f ρ = .ok (.nx ρ') := by
  show lift (f ρ) ρ _ = _
  rw [hf, ← h]
  rfl
theorem s_lift {α : Type} {m : Res α} {k : α → Res Fl} {d : α} {N : Res γ} {o : γ → Fl} (h : m = .ok d) (hk : Rf (finS [] (k d)) N o) : Rf (finS [] (lift m ρ k)) N o := by rw [h]; exact hk
theorem s_liftI {α τ : Type} {m : Res α} {k : α → Res Fl} {r : Res τ} {e : τ → α} {N : τ → Res γ} {o : γ → Fl} (h : Rf m r e) (hk : ∀ x, Rf (finS [] (k (e x))) (N x) o) : Rf (finS [] (lift m ρ k)) (r.bind N) o := by
  cases r with
  | ok v => rw [show m = _ from h]; exact hk v
  | ex c fs => rw [show m = _ from h]; exact rfl
  | er => exact trivial
theorem fApp_at {xs : List D} (h : ρ[i]? = some (some (.lst xs))) : fApp i f ρ = lift (f ρ) ρ fun d => if szOk (xs.length + 1) = true then .ok (.nx (ρ.set i (some (.lst (xs ++ [d]))))) else .er := by unfold fApp; rw [h]
theorem k_app {xs : List α} {d : α} (E : List α → Env) (hE : ∀ ys, ρ.set i (some (eL e ys)) = E ys) : Rf (finS [] (if szOk ((xs.map e).length + 1) = true then .ok (.nx (ρ.set i (some (.lst (xs.map e ++ [e d]))))) else .er)) (appR xs d) (fun ys => .nx (E ys)) := by
  unfold appR
  rw [List.length_map]
  split
  · show Res.ok (Fl.nx _) = Res.ok (Fl.nx _)
    rw [← hE, show eL e (xs ++ [d]) = .lst (xs.map e ++ [e d]) by unfold eL; rw [List.map_append]; rfl]
    rfl
  · trivial
theorem s_app {xs : List α} {d : α} (E : List α → Env) (h : ρ[i]? = some (some (eL e xs))) (hf : f ρ = .ok (e d)) (hE : ∀ ys, ρ.set i (some (eL e ys)) = E ys) : Rf (finS [] (fApp i f ρ)) (appR xs d) (fun ys => .nx (E ys)) := by
  rw [fApp_at h]
  exact s_lift hf (k_app E hE)
theorem s_appI {xs : List α} {r : Res α} (E : List α → Env) (h : ρ[i]? = some (some (eL e xs))) (hf : Rf (f ρ) r e) (hE : ∀ ys, ρ.set i (some (eL e ys)) = E ys) : Rf (finS [] (fApp i f ρ)) (r.bind fun d => appR xs d) (fun ys => .nx (E ys)) := by
  rw [fApp_at h]
  exact s_liftI hf fun d => k_app E hE
/-- the same, what is appended told by another -/
theorem s_appC {xs : List α} {τ : Type} {r : Res τ} {e' : τ → D} (co : τ → α) (E : List α → Env) (h : ρ[i]? = some (some (eL e xs))) (hf : Rf (f ρ) r e') (hc : ∀ x, e' x = e (co x)) (hE : ∀ ys, ρ.set i (some (eL e ys)) = E ys) : Rf (finS [] (fApp i f ρ)) (r.bind fun d => appR xs (co d)) (fun ys => .nx (E ys)) := by
  rw [fApp_at h]
  exact s_liftI hf fun d => by rw [hc]; exact k_app E hE
theorem fSetIx_at {xs : List D} (h : ρ[i]? = some (some (.lst xs))) : fSetIx i f fj ρ = lift (f ρ) ρ fun d => lift (fj ρ) ρ fun j => match j with
    | .int z => (match ixN xs.length z with
      | some k => .ok (.nx (ρ.set i (some (.lst (xs.set k d)))))
      | none => .er)
    | _ => .er := by unfold fSetIx; rw [h]; try rfl
theorem s_setIx {xs : List α} {d : α} {z : Int} (E : List α → Env) (h : ρ[i]? = some (some (eL e xs))) (hf : f ρ = .ok (e d)) (hj : fj ρ = .ok (.int z)) (hE : ∀ ys, ρ.set i (some (eL e ys)) = E ys) : Rf (finS [] (fSetIx i f fj ρ)) (setR xs z d) (fun ys => .nx (E ys)) := by
  rw [fSetIx_at h]
  refine s_lift hf (s_lift hj ?_)
  unfold setR
  dsimp only
  rw [List.length_map]
  cases ixN xs.length z with
  | some k =>
    show Res.ok (Fl.nx _) = Res.ok (Fl.nx _)
    rw [← hE, show eL e (xs.set k d) = .lst ((xs.map e).set k (e d)) by unfold eL; rw [List.map_set]]
    rfl
  | none => trivial
theorem s_setIxI {xs : List α} {r : Res α} {z : Int} (E : List α → Env) (h : ρ[i]? = some (some (eL e xs))) (hf : Rf (f ρ) r e) (hj : fj ρ = .ok (.int z)) (hE : ∀ ys, ρ.set i (some (eL e ys)) = E ys) : Rf (finS [] (fSetIx i f fj ρ)) (r.bind fun d => setR xs z d) (fun ys => .nx (E ys)) := by
  cases r with
  | ok d => exact s_setIx E h hf hj hE
  | ex c fs => rw [fSetIx_at h, show f ρ = _ from hf]; exact rfl
  | er => trivial
theorem s_setIxJ {xs : List α} {d : α} {rj : Res Int} (E : List α → Env) (h : ρ[i]? = some (some (eL e xs))) (hf : f ρ = .ok (e d)) (hj : Rf (fj ρ) rj D.int) (hE : ∀ ys, ρ.set i (some (eL e ys)) = E ys) : Rf (finS [] (fSetIx i f fj ρ)) (rj.bind fun z => setR xs z d) (fun ys => .nx (E ys)) := by
  cases rj with
  | ok z => exact s_setIx E h hf hj hE
  | ex c fs => rw [fSetIx_at h, hf, show fj ρ = _ from hj]; exact rfl
  | er => trivial
theorem s_setIxIJ {xs : List α} {r : Res α} {rj : Res Int} (E : List α → Env) (h : ρ[i]? = some (some (eL e xs))) (hf : Rf (f ρ) r e) (hj : Rf (fj ρ) rj D.int) (hE : ∀ ys, ρ.set i (some (eL e ys)) = E ys) : Rf (finS [] (fSetIx i f fj ρ)) (r.bind fun d => rj.bind fun z => setR xs z d) (fun ys => .nx (E ys)) := by
  cases r with
  | ok d => exact s_setIxJ E h hf hj hE
  | ex c fs => rw [fSetIx_at h, show f ρ = _ from hf]; exact rfl
  | er => trivial
theorem s_app2 {xs : List (List α)} {d : α} {z : Int} (E : List (List α) → Env) (h : ρ[i]? = some (some (eL (eL e) xs))) (hf : f ρ = .ok (e d)) (hj : fj ρ = .ok (.int z)) (hE : ∀ ys, ρ.set i (some (eL (eL e) ys)) = E ys) : Rf (finS [] (fApp2 i fj f ρ)) (app2R xs z d) (fun ys => .nx (E ys)) := by
  unfold fApp2
  rw [h]
  refine s_lift hj ?_
  unfold app2R
  dsimp only [eL]
  rw [List.length_map]
  cases ixN xs.length z with
  | some k =>
    dsimp only
    rw [List.getElem?_map]
    cases q : xs[k]? with
    | some us =>
      dsimp only [Option.map]
      refine s_lift hf ?_
      rw [List.length_map]
      split
      · show Res.ok (Fl.nx _) = Res.ok (Fl.nx _)
        rw [← hE, show eL (eL e) (xs.set k (us ++ [d])) = .lst ((xs.map (eL e)).set k (.lst (us.map e ++ [e d]))) by
          unfold eL; rw [List.map_set, List.map_append]; rfl]
        rfl
      · trivial
    | none => trivial
  | none => trivial
theorem s_app2J {xs : List (List α)} {d : α} {rj : Res Int} (E : List (List α) → Env) (h : ρ[i]? = some (some (eL (eL e) xs))) (hf : f ρ = .ok (e d)) (hj : Rf (fj ρ) rj D.int) (hE : ∀ ys, ρ.set i (some (eL (eL e) ys)) = E ys) : Rf (finS [] (fApp2 i fj f ρ)) (rj.bind fun z => app2R xs z d) (fun ys => .nx (E ys)) := by
  cases rj with
  | ok z => exact s_app2 E h hf hj hE
  | ex c fs => unfold fApp2; rw [h]; dsimp only [eL]; rw [show fj ρ = _ from hj]; exact rfl
  | er => trivial
theorem s_app2IJ {xs : List (List α)} {r : Res α} {rj : Res Int} (E : List (List α) → Env) (h : ρ[i]? = some (some (eL (eL e) xs))) (hf : Rf (f ρ) r e) (hj : Rf (fj ρ) rj D.int) (hE : ∀ ys, ρ.set i (some (eL (eL e) ys)) = E ys) : Rf (finS [] (fApp2 i fj f ρ)) (rj.bind fun z => (nx r).bind fun d => app2R xs z d) (fun ys => .nx (E ys)) := by
  cases r with
  | ok d => exact s_app2J E h hf hj hE
  | _ =>
    cases rj with
    | ok z => trivial
    | ex c fs => unfold fApp2; rw [h]; dsimp only [eL]; rw [show fj ρ = _ from hj]; exact rfl
    | er => trivial
/-- pops -/
def RfX {α τ : Type} (m : Res (D × Env)) (r : Res (α × τ)) (e : α → D) (E : τ → Env) : Prop := match r with
  | .ok v => m = .ok (e v.1, E v.2)
  | _ => True
theorem x_pop {xs : List α} {z : Int} (E : List α → Env) (h : ρ[i]? = some (some (eL e xs))) (hf : f ρ = .ok (.int z)) (hE : ∀ ys, ρ.set i (some (eL e ys)) = E ys) : RfX (fPop i f ρ) (popR xs z) e E := by
  unfold fPop
  rw [h, hf]
  unfold popR
  dsimp only [eL]
  rw [List.length_map]
  cases q : ixN xs.length z with
  | some k =>
    dsimp only
    rw [List.getElem?_map]
    cases q2 : xs[k]? with
    | some y =>
      dsimp only [Option.map]
      split
      · rename_i hs
        show Res.ok _ = Res.ok _
        rw [← hE]
        show Res.ok (e y, ρ.set i (some (.lst ((xs.map e).eraseIdx k)))) = Res.ok (e y, ρ.set i (some (.lst ((xs.eraseIdx k).map e))))
        rw [show (xs.map e).eraseIdx k = (xs.eraseIdx k).map e by
          rw [List.eraseIdx_eq_take_drop_succ, List.eraseIdx_eq_take_drop_succ, List.map_append, List.map_take, List.map_drop]]
      · trivial
    | none => trivial
  | none => trivial
theorem x_popI {xs : List α} {rz : Res Int} (E : List α → Env) (h : ρ[i]? = some (some (eL e xs))) (hf : Rf (f ρ) rz D.int) (hE : ∀ ys, ρ.set i (some (eL e ys)) = E ys) : RfX (fPop i f ρ) ((nx rz).bind fun z => popR xs z) e E := by
  cases rz with
  | ok z => exact x_pop E h hf hE
  | _ => trivial
theorem x_pop0 {xs : List α} (E : List α → Env) (h : ρ[i]? = some (some (eL e xs))) (hE : ∀ ys, ρ.set i (some (eL e ys)) = E ys) : RfX (fPop0 i ρ) (pop0R xs) e E := by
  unfold fPop0
  rw [h]
  unfold pop0R
  dsimp only [eL]
  rw [List.length_map, List.getElem?_map]
  cases q : xs[xs.length - 1]? with
  | some y =>
    dsimp only [Option.map]
    show Res.ok _ = Res.ok _
    rw [← hE]
    show Res.ok (e y, ρ.set i (some (.lst ((xs.map e).dropLast)))) = Res.ok (e y, ρ.set i (some (.lst ((xs.dropLast).map e))))
    rw [← List.map_dropLast]
  | none => trivial
theorem s_setX {τ : Type} {f : Env → Res (D × Env)} {r : Res (α × τ)} {E1 : τ → Env} (E : α × τ → Env) (hf : RfX (f ρ) r e E1) (hE : ∀ v, (E1 v.2).set i (some (e v.1)) = E v) : Rf (finS [] (fSetX i f ρ)) (nx r) (fun s => .nx (E s)) := by
  cases r with
  | ok v =>
    show finS [] (fSetX i f ρ) = _
    unfold fSetX
    rw [show f ρ = .ok (e v.1, E1 v.2) from hf]
    dsimp only
    rw [hE]
    rfl
  | _ => trivial
theorem s_dropX {τ : Type} {f : Env → Res (D × Env)} {r : Res (α × τ)} {E1 : τ → Env} (hf : RfX (f ρ) r e E1) : Rf (finS [] (fDropX f ρ)) ((nx r).bind fun v => .ok v.2) (fun s => .nx (E1 s)) := by
  cases r with
  | ok v =>
    show finS [] (fDropX f ρ) = _
    unfold fDropX
    rw [show f ρ = .ok (e v.1, E1 v.2) from hf]
    rfl
  | _ => trivial
theorem s_appX {τ : Type} {f : Env → Res (D × Env)} {r : Res (α × τ)} {E1 : τ → Env} {xs : List α} (E : List α × τ → Env) (h : ρ[i]? = some (some (eL e xs))) (hf : RfX (f ρ) r e E1) (h1 : ∀ t, (E1 t)[i]? = some (some (eL e xs))) (hE : ∀ ys t, (E1 t).set i (some (eL e ys)) = E (ys, t)) :
    Rf (finS [] (fAppX i f ρ)) ((nx r).bind fun v => (appR xs v.1).bind fun ys => .ok (ys, v.2)) (fun s => .nx (E s)) := by
  cases r with
  | ok v =>
    show Rf _ ((appR xs v.1).bind fun ys => .ok (ys, v.2)) _
    unfold fAppX
    rw [h]
    dsimp only [eL]
    rw [show f ρ = .ok (e v.1, E1 v.2) from hf]
    dsimp only
    rw [h1]
    unfold appR
    dsimp only [eL]
    rw [List.length_map]
    split
    · show Res.ok (Fl.nx _) = Res.ok (Fl.nx _)
      rw [← hE, show eL e (xs ++ [v.1]) = .lst (xs.map e ++ [e v.1]) by unfold eL; rw [List.map_append]; rfl]
      rfl
    · trivial
  | _ => trivial
theorem asg_p {d : D} {ρ' : Env} {g : D → Env → Res Env} (hf : f ρ = .ok d) (h : g d ρ = .ok ρ') : fAsg f g ρ = .ok (.nx ρ') := by
  show lift (f ρ) ρ _ = _
  rw [hf]
  show (match g d ρ with | .ok ρ1 => Res.ok (Fl.nx ρ1) | _ => .er) = _
  rw [h]
theorem s_asg {g : D → Env → Res Env} (E : α → Env) (hf : Rf (f ρ) r e) (hE : ∀ v, g (e v) ρ = .ok (E v)) : Rf (finS [] (fAsg f g ρ)) r (fun s => .nx (E s)) := by
  cases r with
  | ok v => rw [asg_p (show f ρ = .ok (e v) from hf) (hE v)]; exact rfl
  | ex c fs => show finS [] (lift (f ρ) ρ _) = _; rw [show f ρ = _ from hf]; rfl
  | er => trivial
theorem s_fld {c fn : Str} {ns : List Str} {ds : List D} (E : α → Env) (hρ : ρ[i]? = some (some (.obj c ns ds))) (hn : ns.length < 100) (hf : Rf (f ρ) r e) (hE : ∀ v, ρ.set i (some (.obj c (putN fn ns) (putD fn (e v) ns ds))) = E v) : Rf (finS [] (fFld c fn i f ρ)) r (fun s => .nx (E s)) := by
  have h : fFld c fn i f ρ = lift (f ρ) ρ fun d => .ok (.nx (ρ.set i (some (.obj c (putN fn ns) (putD fn d ns ds))))) := by
    unfold fFld
    rw [hρ]
    dsimp only
    rw [if_pos ⟨rfl, hn⟩]
  rw [h]
  cases r with
  | ok v => rw [show f ρ = .ok (e v) from hf]; show finS [] (.ok (.nx _)) = _; rw [hE]; rfl
  | ex c fs => rw [show f ρ = _ from hf]; rfl
  | er => trivial
theorem fld_hit {c f : Str} {ns : List Str} {d : D} {ds : List D} : dFld c f (.obj c (f :: ns) (d :: ds)) = .ok d := by
  unfold dFld
  dsimp only
  rw [if_pos rfl]
  unfold lookF
  rw [if_pos rfl]
theorem fld_skip {c f g : Str} {ns : List Str} {x d : D} {ds : List D} (h : g ≠ f) (k : dFld c f (.obj c ns ds) = .ok d) : dFld c f (.obj c (g :: ns) (x :: ds)) = .ok d := by
  unfold dFld at k ⊢
  dsimp only at k ⊢
  rw [if_pos rfl] at k ⊢
  unfold lookF
  rw [if_neg h]
  exact k
theorem q_meth {c mn : Str} {np : Nat} {g : List D → Res D} {ns : List Str} {ds : List D} (hx : fa ρ = .ok (.obj c ns ds)) (hl : lookF ns ds mn = none) (h : Rf ((fs ρ).bind fun ys => chk np g (.obj c ns ds :: ys)) N o') : Rf (fMeth c mn np g fa fs ρ) N o' := by
  unfold fMeth
  rw [hx]
  show Rf (if c = c ∧ lookF ns ds mn = none then _ else _) _ _
  rw [if_pos ⟨rfl, hl⟩]
  exact h
theorem q_prop {c : Str} {g : List D → Res D} {ns : List Str} {ds : List D} {e' : γ → D} (h : Rf (g [.obj c ns ds]) N e') : Rf (dProp c g (.obj c ns ds)) (nx N) e' := by
  unfold dProp
  dsimp only
  rw [if_pos rfl]
  cases N with
  | ok v =>
    show (match chk 1 g [.obj c ns ds] with | .ok d => Res.ok d | _ => .er) = _
    rw [chk_one, show g _ = _ from h]
  | _ => trivial
/-- a test whose ways go on apart -/
theorem t_ifW {vs : List Nat} {A B : FS} {N1 N2 : Res γ} {b : Bool} (hc : c ρ = .ok b) (h1 : Rf (K (fSeq (fFgt vs A) G ρ)) N1 o) (h2 : Rf (K (fSeq (fFgt vs B) G ρ)) N2 o) : Rf (K (fSeq (fFgt vs (fIfS c A B)) G ρ)) (if b = true then N1 else N2) o := by
  have : fSeq (fFgt vs (fIfS c A B)) G ρ = if b = true then fSeq (fFgt vs A) G ρ else fSeq (fFgt vs B) G ρ := by
    show andThen (fgt vs (lift (c ρ) ρ _)) G = _
    rw [lift_p hc]
    cases b <;> rfl
  rw [this]
  cases b with
  | true => exact h1
  | false => exact h2
theorem t_ifWI (hK : Fin K) {vs : List Nat} {A B : FS} {N1 N2 : Res γ} {rc : Res Bool} (hc : Rf (c ρ) rc (fun x => x)) (h1 : Rf (K (fSeq (fFgt vs A) G ρ)) N1 o) (h2 : Rf (K (fSeq (fFgt vs B) G ρ)) N2 o) : Rf (K (fSeq (fFgt vs (fIfS c A B)) G ρ)) (rc.bind fun b => if b = true then N1 else N2) o := by
  cases rc with
  | ok b => exact t_ifW hc h1 h2
  | ex cn fs =>
    have : fSeq (fFgt vs (fIfS c A B)) G ρ = .ok (.xc cn fs ρ) := by
      show andThen (fgt vs (lift (c ρ) ρ _)) G = _
      rw [show c ρ = _ from hc]
      rfl
    rw [this, hK.xc]
    exact rfl
  | er => exact trivial
theorem t_ifWT {vs : List Nat} {A B : FS} (hc : c ρ = .ok true) (h1 : Rf (K (fSeq (fFgt vs A) G ρ)) N o) : Rf (K (fSeq (fFgt vs (fIfS c A B)) G ρ)) N o := t_ifW (N2 := .er) hc h1 trivial
theorem t_ifWF {vs : List Nat} {A B : FS} (hc : c ρ = .ok false) (h1 : Rf (K (fSeq (fFgt vs B) G ρ)) N o) : Rf (K (fSeq (fFgt vs (fIfS c A B)) G ρ)) N o := t_ifW (N1 := .er) hc trivial h1
/-- what may be None, tested -/
theorem t_ifO {τ : Type} {x : Option τ} {n2 : τ → Res γ} (E : Option τ → Env) (h1 : Rf (K (F (E none))) N o) (h2 : ∀ y, Rf (K (F (E (some y)))) (n2 y) o) : Rf (K (F (E x))) (match x with | none => N | some y => n2 y) o := by
  cases x with
  | none => exact h1
  | some y => exact h2 y
end
/-! data compared -/
class Dat {α : Type} [DecidableEq α] (e : α → D) (k : outParam Nat) : Prop where
  py : ∀ x, ∃ y, D.py (e x) = some y ∧ y.canLay0 = true ∧ y.depth ≤ k
  inj : ∀ x x' y y', D.py (e x) = some y → D.py (e x') = some y' → PyData.eqv y y' = decide (x = x')
section
variable {α β : Type} [DecidableEq α] [DecidableEq β] {e : α → D} {f : β → D} {k l : Nat}
instance : Dat D.int 0 where
  py x := ⟨.int x, rfl, rfl, by simp [PyData.depth]⟩
  inj x x' y y' h h' := by
    cases h; cases h'
    simp only [PyData.eqv]
    by_cases hx : x = x' <;> simp [hx]
instance : Dat D.bl 0 where
  py x := ⟨.bool x, rfl, rfl, by simp [PyData.depth]⟩
  inj x x' y y' h h' := by
    cases h; cases h'
    cases x <;> cases x' <;> rfl
theorem pys_map [Dat e k] : ∀ xs : List α, ∃ ys, D.pys (xs.map e) = some ys ∧ PyData.canLayAll0 ys = true ∧ PyData.depthAll ys ≤ k
  | [] => ⟨[], rfl, rfl, by simp [PyData.depthAll]⟩
  | x :: xs => by
    obtain ⟨y, h1, h2, h3⟩ := Dat.py (e := e) x
    obtain ⟨ys, k1, k2, k3⟩ := pys_map xs
    refine ⟨y :: ys, ?_, ?_, ?_⟩
    · rw [List.map_cons]; unfold D.pys; rw [h1, k1]
    · simp only [PyData.canLayAll0, h2, k2, Bool.and_self]
    · simp only [PyData.depthAll]; omega
theorem pys_inj [Dat e k] : ∀ (xs xs' : List α) (ys ys' : List PyData), D.pys (xs.map e) = some ys → D.pys (xs'.map e) = some ys' → PyData.eqvAll ys ys' = decide (xs = xs')
  | [], [], ys, ys', h, h' => by cases h; cases h'; simp [PyData.eqvAll]
  | [], x' :: xs', ys, ys', h, h' => by
    cases h
    rw [List.map_cons] at h'
    unfold D.pys at h'
    split at h'
    · cases h'; simp [PyData.eqvAll]
    · cases h'
  | x :: xs, [], ys, ys', h, h' => by
    cases h'
    rw [List.map_cons] at h
    unfold D.pys at h
    split at h
    · cases h; simp [PyData.eqvAll]
    · cases h
  | x :: xs, x' :: xs', ys, ys', h, h' => by
    rw [List.map_cons] at h h'
    unfold D.pys at h h'
    split at h
    · rename_i y zs e1 e2
      cases h
      split at h'
      · rename_i y' zs' e1' e2'
        cases h'
        rw [PyData.eqvAll, Dat.inj x x' _ _ e1 e1', pys_inj xs xs' _ _ e2 e2']
        by_cases h1 : x = x' <;> by_cases h2 : xs = xs' <;> simp [h1, h2]
      · cases h'
    · cases h
theorem py_lst' {ds : List D} {ys : List PyData} (h : D.pys ds = some ys) : D.py (.lst ds) = some (.list ys) := by unfold D.py; rw [h]
theorem py_tup' {ds : List D} {ys : List PyData} (h : D.pys ds = some ys) : D.py (.tup ds) = some (.tuple ys) := by unfold D.py; rw [h]
theorem py_lst_of {ds : List D} {y : PyData} (h : D.py (.lst ds) = some y) : ∃ ys, D.pys ds = some ys ∧ y = .list ys := by
  unfold D.py at h
  split at h
  · rename_i ys e; cases h; exact ⟨ys, e, rfl⟩
  · cases h
theorem py_tup_of {ds : List D} {y : PyData} (h : D.py (.tup ds) = some y) : ∃ ys, D.pys ds = some ys ∧ y = .tuple ys := by
  unfold D.py at h
  split at h
  · rename_i ys e; cases h; exact ⟨ys, e, rfl⟩
  · cases h
instance [Dat e k] : Dat (eL e) (k + 1) where
  py xs := by
    obtain ⟨ys, h1, h2, h3⟩ := pys_map (e := e) xs
    refine ⟨.list ys, py_lst' h1, ?_, ?_⟩
    · simp only [PyData.canLay0, h2]
    · simp only [PyData.depth]; omega
  inj x x' y y' h h' := by
    obtain ⟨ys, h1, rfl⟩ := py_lst_of h
    obtain ⟨ys', h1', rfl⟩ := py_lst_of h'
    simp only [PyData.eqv]
    exact pys_inj _ _ _ _ h1 h1'
instance [Dat e k] : Dat (eT e) (k + 1) where
  py xs := by
    obtain ⟨ys, h1, h2, h3⟩ := pys_map (e := e) xs
    refine ⟨.tuple ys, py_tup' h1, ?_, ?_⟩
    · simp only [PyData.canLay0, h2]
    · simp only [PyData.depth]; omega
  inj x x' y y' h h' := by
    obtain ⟨ys, h1, rfl⟩ := py_tup_of h
    obtain ⟨ys', h1', rfl⟩ := py_tup_of h'
    simp only [PyData.eqv]
    exact pys_inj _ _ _ _ h1 h1'
theorem pys2 {a b : D} {y z : PyData} (h1 : D.py a = some y) (h2 : D.py b = some z) : D.pys [a, b] = some [y, z] := by simp [D.pys, h1, h2]
theorem pys2_of {a b : D} {ys : List PyData} (h : D.pys [a, b] = some ys) : ∃ y z, D.py a = some y ∧ D.py b = some z ∧ ys = [y, z] := by
  unfold D.pys at h
  split at h
  · rename_i y zs e1 e2
    unfold D.pys at e2
    split at e2
    · rename_i z ws e3 e4
      cases e4; cases e2; cases h
      exact ⟨y, z, e1, e3, rfl⟩
    · cases e2
  · cases h
instance [Dat e k] [Dat f l] : Dat (eP2 e f) (max k l + 1) where
  py x := by
    obtain ⟨y, h1, h2, h3⟩ := Dat.py (e := e) x.1
    obtain ⟨z, k1, k2, k3⟩ := Dat.py (e := f) x.2
    refine ⟨.tuple [y, z], py_tup' (pys2 h1 k1), ?_, ?_⟩
    · simp only [PyData.canLay0, PyData.canLayAll0, h2, k2, Bool.and_self]
    · simp only [PyData.depth, PyData.depthAll]; omega
  inj x x' y y' h h' := by
    obtain ⟨ys, h1, rfl⟩ := py_tup_of h
    obtain ⟨ys', h1', rfl⟩ := py_tup_of h'
    obtain ⟨a, b, ea, eb, rfl⟩ := pys2_of h1
    obtain ⟨a', b', ea', eb', rfl⟩ := pys2_of h1'
    simp only [PyData.eqv, PyData.eqvAll, Dat.inj _ _ _ _ ea ea', Dat.inj _ _ _ _ eb eb']
    by_cases h1 : x.1 = x'.1 <;> by_cases h2 : x.2 = x'.2 <;> simp [h1, h2, Prod.ext_iff]
instance [Dat e k] : Dat (eP1 e) (k + 1) where
  py x := by
    obtain ⟨y, h1, h2, h3⟩ := Dat.py (e := e) x
    refine ⟨.tuple [y], py_tup' (by simp [D.pys, h1]), ?_, ?_⟩
    · simp only [PyData.canLay0, PyData.canLayAll0, h2, Bool.and_self]
    · simp only [PyData.depth, PyData.depthAll]; omega
  inj x x' y y' h h' := by
    obtain ⟨ys, h1, rfl⟩ := py_tup_of h
    obtain ⟨ys', h1', rfl⟩ := py_tup_of h'
    have q := pys_inj (e := e) [x] [x'] _ _ h1 h1'
    simp only [PyData.eqv]
    rw [q]
    by_cases h1 : x = x' <;> simp [h1]
theorem shp [Dat e k] (hk : k ≤ 64) {x : α} {y : PyData} (h : D.py (e x) = some y) : SeqAt.shaped y = true := by
  obtain ⟨y', h1, h2, h3⟩ := Dat.py (e := e) x
  rw [h] at h1
  cases h1
  unfold SeqAt.shaped
  rw [h2, decide_eq_true (show y.depth ≤ 64 by omega)]
  rfl
theorem eqD_dat [Dat e k] {x x' : α} (hk : k ≤ 64) : eqD (e x) (e x') = .ok (decide (x = x')) := by
  obtain ⟨y, h1, _⟩ := Dat.py (e := e) x
  obtain ⟨y', h1', _⟩ := Dat.py (e := e) x'
  unfold eqD
  rw [h1, h1']
  simp only [shp hk h1, shp hk h1', Bool.and_self, if_true, Dat.inj x x' _ _ h1 h1']
theorem op_eq [Dat e k] {x x' : α} (hk : k ≤ 64 := by decide) : dEq (e x) (e x') = .ok (.bl (decide (x = x'))) := by unfold dEq; rw [eqD_dat hk]; rfl
theorem op_ne [Dat e k] {x x' : α} (hk : k ≤ 64 := by decide) : dNe (e x) (e x') = .ok (.bl (!decide (x = x'))) := by unfold dNe; rw [eqD_dat hk]; rfl
theorem any_in [Dat e k] {x : α} {y : PyData} (hy : D.py (e x) = some y) : ∀ {xs : List α} {ys : List PyData}, D.pys (xs.map e) = some ys → (ys.any fun z => PyData.eqv z y) = decide (x ∈ xs)
  | [], ys, h => by cases h; simp
  | a :: xs, ys, h => by
    rw [List.map_cons] at h
    unfold D.pys at h
    split at h
    · rename_i z zs e1 e2
      cases h
      rw [List.any_cons, any_in hy e2, Dat.inj a x _ _ e1 hy]
      by_cases h1 : a = x
      · simp [h1]
      · simp [h1, Ne.symm h1]
    · cases h
theorem inD_dat [Dat e k] {x : α} {xs : List α} (hk : k < 64) : inD (e x) (xs.map e) = .ok (decide (x ∈ xs)) := by
  obtain ⟨y, h1, _⟩ := Dat.py (e := e) x
  obtain ⟨ys, k1, k2, k3⟩ := pys_map (e := e) xs
  unfold inD
  rw [h1, k1]
  have hs : SeqAt.shaped (.list ys) = true := by
    unfold SeqAt.shaped
    simp only [PyData.canLay0, PyData.depth, k2, Bool.true_and]
    exact decide_eq_true (by omega)
  simp only [shp (by omega) h1, hs, Bool.and_self, if_true, any_in h1 k1]
theorem op_memL [Dat e k] {x : α} {xs : List α} (hk : k < 64 := by decide) : dIn (e x) (eL e xs) = .ok (.bl (decide (x ∈ xs))) := by
  show (inD (e x) (xs.map e)).bind _ = _; rw [inD_dat hk]; rfl
theorem op_memT [Dat e k] {x : α} {xs : List α} (hk : k < 64 := by decide) : dIn (e x) (eT e xs) = .ok (.bl (decide (x ∈ xs))) := by
  show (inD (e x) (xs.map e)).bind _ = _; rw [inD_dat hk]; rfl
theorem op_nmemL [Dat e k] {x : α} {xs : List α} (hk : k < 64 := by decide) : dNotIn (e x) (eL e xs) = .ok (.bl (!decide (x ∈ xs))) := by
  show (inD (e x) (xs.map e)).bind _ = _; rw [inD_dat hk]; rfl
theorem op_nmemT [Dat e k] {x : α} {xs : List α} (hk : k < 64 := by decide) : dNotIn (e x) (eT e xs) = .ok (.bl (!decide (x ∈ xs))) := by
  show (inD (e x) (xs.map e)).bind _ = _; rw [inD_dat hk]; rfl
end
/-! isinstance of told data -/
theorem isi_of {T : String} {d : D} {b : Bool} (h : isTy T d = .ok b) : dIsi T d = .ok (.bl b) := by unfold dIsi; rw [h]; rfl
theorem isi2_a {T U : String} {d : D} (h : isTy T d = .ok true) : dIsi2 T U d = .ok (.bl true) := by unfold dIsi2; rw [h]; rfl
theorem isi2_b {T U : String} {d : D} {b : Bool} (h : isTy T d = .ok false) (k : isTy U d = .ok b) : dIsi2 T U d = .ok (.bl b) := by unfold dIsi2; rw [h]; show (isTy U d).bind _ = _; rw [k]; rfl
/-! runs of loops -/
theorem forR_inv {α σ : Type} {f : σ → α → Res σ} {xs : List α} {s : σ} (P : Nat → σ → Prop) (h0 : P 0 s) (hs : ∀ i x s, xs[i]? = some x → P i s → ∃ s', f s x = .ok s' ∧ P (i + 1) s') : ∃ s', forR f xs s = .ok s' ∧ P xs.length s' := by
  suffices h : ∀ (ys : List α) (k : Nat) (s : σ), P k s → (∀ i x, ys[i]? = some x → xs[k + i]? = some x) → k + ys.length = xs.length → ∃ s', forR f ys s = .ok s' ∧ P xs.length s' by
    exact h xs 0 s h0 (fun i x e => by rw [Nat.zero_add]; exact e) (Nat.zero_add _)
  intro ys
  induction ys with
  | nil => intro k s hp _ hl; exact ⟨s, rfl, by rw [← hl]; exact hp⟩
  | cons y ys ih =>
    intro k s hp hx hl
    obtain ⟨s1, e1, p1⟩ := hs k y s (by have := hx 0 y rfl; simpa using this) hp
    obtain ⟨s2, e2, p2⟩ := ih (k + 1) s1 p1 (fun i x e => by
      have := hx (i + 1) x (by simpa using e)
      rw [show k + 1 + i = k + (i + 1) by omega]; exact this) (by rw [List.length_cons] at hl; omega)
    exact ⟨s2, by unfold forR; rw [e1]; exact e2, p2⟩
/-- a loop as a fold -/
theorem forR_fold {α σ : Type} {f : σ → α → Res σ} {g : σ → α → σ} {xs : List α} {s : σ} (P : σ → Prop) (h0 : P s) (hs : ∀ x s, x ∈ xs → P s → f s x = .ok (g s x) ∧ P (g s x)) : forR f xs s = .ok (xs.foldl g s) ∧ P (xs.foldl g s) := by
  induction xs generalizing s with
  | nil => exact ⟨rfl, h0⟩
  | cons x xs ih =>
    obtain ⟨e, p⟩ := hs x s List.mem_cons_self h0
    have := ih p fun y s hy => hs y s (List.mem_cons_of_mem _ hy)
    unfold forR
    rw [e]
    exact this
theorem forC_inv {α σ β : Type} {f : σ → α → Res (Ctl σ β)} {xs : List α} {s : σ} (Q : Ctl σ β → Prop) (P : Nat → σ → Prop) (h0 : P 0 s) (hs : ∀ i x s, xs[i]? = some x → P i s → ∃ o, f s x = .ok o ∧ (match o with
    | .go s' => P (i + 1) s'
    | .out s' => Q (.go s')
    | .ret b => Q (.ret b))) (hd : ∀ s, P xs.length s → Q (.go s)) : ∃ o, forC f xs s = .ok o ∧ Q o := by
  suffices h : ∀ (ys : List α) (k : Nat) (s : σ), P k s → (∀ i x, ys[i]? = some x → xs[k + i]? = some x) → k + ys.length = xs.length → ∃ o, forC f ys s = .ok o ∧ Q o by
    exact h xs 0 s h0 (fun i x e => by rw [Nat.zero_add]; exact e) (Nat.zero_add _)
  intro ys
  induction ys with
  | nil => intro k s hp _ hl; exact ⟨_, rfl, hd s (by rw [← hl]; exact hp)⟩
  | cons y ys ih =>
    intro k s hp hx hl
    obtain ⟨o, e1, p1⟩ := hs k y s (by have := hx 0 y rfl; simpa using this) hp
    cases o with
    | go s1 =>
      obtain ⟨o2, e2, p2⟩ := ih (k + 1) s1 p1 (fun i x e => by
        have := hx (i + 1) x (by simpa using e)
        rw [show k + 1 + i = k + (i + 1) by omega]; exact this) (by rw [List.length_cons] at hl; omega)
      exact ⟨o2, by unfold forC; rw [e1]; exact e2, p2⟩
    | out s1 => exact ⟨.go s1, by unfold forC; rw [e1]; rfl, p1⟩
    | ret b => exact ⟨.ret b, by unfold forC; rw [e1]; rfl, p1⟩
theorem lcR_map {α β : Type} {xs : List α} {f : α → Res β} {g : α → β} (hz : xs.length ≤ 1000000) (h : ∀ x ∈ xs, f x = .ok (g x)) : lcR xs (fun _ => .ok true) f = .ok (xs.map g) := by
  unfold lcR
  rw [if_pos (szOk_yes hz)]
  clear hz
  induction xs with
  | nil => rfl
  | cons x xs ih =>
    unfold lcR.go
    rw [h x List.mem_cons_self, ih fun y hy => h y (List.mem_cons_of_mem _ hy)]
    rfl
theorem lcR_filter {α β : Type} {xs : List α} {c : α → Res Bool} {p : α → Bool} {f : α → Res β} {g : α → β} (hz : xs.length ≤ 1000000) (hc : ∀ x ∈ xs, c x = .ok (p x)) (h : ∀ x ∈ xs, p x = true → f x = .ok (g x)) : lcR xs c f = .ok ((xs.filter p).map g) := by
  unfold lcR
  rw [if_pos (szOk_yes hz)]
  clear hz
  induction xs with
  | nil => rfl
  | cons x xs ih =>
    unfold lcR.go
    rw [hc x List.mem_cons_self, ih (fun y hy => hc y (List.mem_cons_of_mem _ hy)) fun y hy => h y (List.mem_cons_of_mem _ hy), List.filter_cons]
    cases q : p x with
    | true => rw [h x List.mem_cons_self q]; rfl
    | false => rfl
end Da
namespace Da
theorem op_isN {α : Type} {e : α → D} (h : ∀ v, dIsN (e v) = .ok (.bl false)) {x : Option α} : dIsN (eO e x) = .ok (.bl (Option.isNone x)) := by
  cases x with
  | none => rfl
  | some v => exact h v
theorem op_not1 {g : D → Res D} {x : D} {b : Bool} (h : g x = .ok (.bl b)) : dNot1 g x = .ok (.bl (!b)) := by
  unfold dNot1
  rw [h]
  rfl
end Da
namespace Da
open PySem PySem.Spec L2
/-! ### raised and caught, natively -/
section
variable {α β γ δ : Type} {K : Res Fl → Res δ} {F G : FS} {ρ : Env} {r : Res γ} {o : γ → δ} {c : Str} {ns : List Str} {fs : Env → Res (List D)} {l : List (Str × Bool)} {i k : Nat}
theorem rf_ex {m : Res β} {e : α → β} {fs : List (Str × D)} (h : m = .ex c fs) : Rf m (.ex c fs : Res α) e := h
theorem t_raise (hK : Fin K) (h : Rf ((fs ρ).bind fun ds => if ds.length = ns.length then (.ex c (ns.zip ds).reverse : Res δ) else .er) r o) : Rf (K (fSeq (fRaise c ns fs) G ρ)) r o := by
  unfold fSeq fRaise
  cases e : fs ρ with
  | ok ds =>
    rw [e] at h
    have h : Rf (if ds.length = ns.length then (.ex c (ns.zip ds).reverse : Res δ) else .er) r o := h
    show Rf (K (match (if ds.length = ns.length then .ok (.xc c (ns.zip ds).reverse ρ) else .er : Res Fl) with | .ok (.nx ρ') => G ρ' | o => o)) r o
    split at h
    · rename_i hl
      rw [if_pos hl]
      show Rf (K (.ok (.xc c (ns.zip ds).reverse ρ))) r o
      rw [hK.xc]
      exact h
    · cases r with
      | ok v => exact nomatch (show (Res.er : Res δ) = _ from h)
      | ex c fs => exact nomatch (show (Res.er : Res δ) = _ from h)
      | er => exact trivial
  | ex c' fs' =>
    rw [e] at h
    show Rf (K (.ok (.xc c' fs' ρ))) r o
    rw [hK.xc]
    exact h
  | er =>
    rw [e] at h
    cases r with
    | ok v => exact nomatch (show (Res.er : Res δ) = _ from h)
    | ex c fs => exact nomatch (show (Res.er : Res δ) = _ from h)
    | er => exact trivial
/-- a clause -/
def tryR (l : List (Str × Bool)) (r : Res γ) (g : Str → List (Str × D) → Res γ) : Res γ := match r with
  | .ex c fs => (match askOf l c with
    | some true => nx (g c fs)
    | some false => .ex c fs
    | none => .er)
  | r => r
@[simp] theorem tryR_ok {v : γ} {g : Str → List (Str × D) → Res γ} : tryR l (.ok v) g = .ok v := rfl
theorem tryR_ex {fs : List (Str × D)} {g : Str → List (Str × D) → Res γ} (h : askOf l c = some true) : tryR l (.ex c fs) g = nx (g c fs) := by
  unfold tryR
  dsimp only
  rw [h]
theorem t_tryF {md : Md} {r : Res γ} {o : γ → D} {g : Str → List (Str × D) → Res γ} (hF : Rf (finF md (F ρ)) r o) (hG : ∀ c fs, Rf (finF md (G (envX k i c fs))) (g c fs) o) : Rf (finF md (fTry k i l F G ρ)) (tryR l r g) o := by
  cases r with
  | er => exact trivial
  | ok v =>
    have hF : finF md (F ρ) = .ok (o v) := hF
    unfold fTry
    cases e : F ρ with
    | er => rw [e] at hF; cases hF
    | ex c fs => rw [e] at hF; cases hF
    | ok q =>
      rw [e] at hF
      cases q with
      | xc c fs ρ1 => cases hF
      | _ => exact hF
  | ex c fs =>
    have hF : finF md (F ρ) = .ex c fs := hF
    have : ∃ ρ1, F ρ = .ok (.xc c fs ρ1) := by
      cases e : F ρ with
      | er => rw [e] at hF; cases hF
      | ex c fs => rw [e] at hF; cases hF
      | ok q =>
        rw [e] at hF
        cases q with
        | xc c' fs' ρ1 => cases hF; exact ⟨ρ1, rfl⟩
        | nx ρ' =>
          have hF : (if md = .sh then Res.ok D.non else .er) = .ex c fs := hF
          split at hF <;> cases hF
        | rt d => cases hF
        | bk ρ' => cases hF
        | ct ρ' => cases hF
    obtain ⟨ρ1, e⟩ := this
    unfold fTry tryR
    rw [e]
    dsimp only
    cases ea : askOf l c with
    | none => exact trivial
    | some b =>
      cases b with
      | false => exact rfl
      | true =>
        have hG := hG c fs
        dsimp only
        cases eg : g c fs with
        | er => exact trivial
        | ex c2 fs2 => exact trivial
        | ok v =>
          rw [eg] at hG
          have hG : finF md (G (envX k i c fs)) = .ok (o v) := hG
          show finF md (endTry i (G (envX k i c fs))) = .ok (o v)
          cases e2 : G (envX k i c fs) with
          | er => rw [e2] at hG; cases hG
          | ex c fs => rw [e2] at hG; cases hG
          | ok q =>
            rw [e2] at hG
            cases q with
            | xc c fs ρ1 => cases hG
            | bk ρ1 => cases hG
            | ct ρ1 => cases hG
            | nx ρ1 => exact hG
            | rt d => exact hG
/-- isinstance(e, ..), e.f -/
def askR (l : List (Str × Bool)) (c : Str) : Res Bool := match askOf l c with
  | some b => .ok b
  | none => .er
def fldR (cs : List Str) (f c : Str) (fs : List (Str × D)) : Res Int := if cs.contains c = true then (match fs.lookup f with
  | some (.int z) => .ok z
  | _ => .er) else .er
theorem e_isE {fs : List (Str × D)} (h : ρ[i]? = some (some (.exc c (fs.map (·.1)) (fs.map (·.2))))) : Rf (fIsE i l ρ) (askR l c) D.bl := by
  unfold fIsE askR
  rw [h]
  dsimp only
  cases askOf l c with
  | some b => exact rfl
  | none => exact trivial
theorem zip_fs : ∀ fs : List (Str × D), (fs.map (·.1)).zip (fs.map (·.2)) = fs
  | [] => rfl
  | q :: fs => by rw [List.map_cons, List.map_cons, List.zip_cons_cons, zip_fs fs]
theorem e_fldE {fs : List (Str × D)} {cs : List Str} {f : Str} (h : ρ[i]? = some (some (.exc c (fs.map (·.1)) (fs.map (·.2))))) : Rf (fFldC i f cs ρ) (fldR cs f c fs) D.int := by
  unfold fFldC fldR fFldE
  rw [h]
  dsimp only
  rw [zip_fs]
  split
  · cases fs.lookup f with
    | none => exact trivial
    | some d => cases d <;> first | exact rfl | exact trivial
  · exact trivial
/-! what is known as raw data only -/
theorem rf_asB {m : Res D} : Rf m (m.bind asB) D.bl := by
  cases m with
  | ok d => cases d <;> first | exact rfl | exact trivial
  | ex c fs => exact rfl
  | er => exact trivial
def asIR : D → Res Int
  | .int z => .ok z
  | _ => .er
theorem rf_asI {m : Res D} : Rf m (m.bind asIR) D.int := by
  cases m with
  | ok d => cases d <;> first | exact rfl | exact trivial
  | ex c fs => exact rfl
  | er => exact trivial
theorem q_BD {f : Env → Res D} {ra : Res D} (h : Rf (f ρ) ra (fun d : D => d)) : Rf (fB f ρ) (ra.bind asB) (fun b => b) := b_i h fun x => rf_id
theorem q_TrD {f : Env → Res D} {ra : Res D} (h : Rf (f ρ) ra (fun d : D => d)) : Rf (fTr f ρ) (ra.bind trD) (fun b => b) := b_i h fun x => rf_id
end
end Da
namespace Kx
open PySem PySem.Spec L2 Da
def F_law_digits : FS := (fSeq (fSet 2 (fOn gLstD fA0))
    (fSeq (fSet 3 (fOn (on1 dInt) (fA (fV 0) fA0)))
    (fSeq (fIfS (fB (f2 dGe (fV 3) (f2 dPow (fC (.int 10)) (fC (.int 18))))) (fSeq (fSet 3 (f2 dSub (fV 3) (f2 dPow (fC (.int 10)) (fC (.int 18)))))
    (fSeq (fFor (fL (fV 1)) (gN 6) (fFgt [6] (fSeq (fApp 2 (f2 dMod (fOn (on1 dInt) (fA (fV 3) fA0)) (fV 6)))
    (fSet 3 (f2 dDiv (fOn (on1 dInt) (fA (fV 3) fA0)) (fV 6))))))
    (fRet (fV 2)))) fNext)
    (fSeq (fSet 4 (f2 dMod (fOn (on1 dInt) (fA (fV 3) fA0)) (fC (.int 2147483629))))
    (fSeq (fFor (fR1 (fA (fOn (on1 dLen) (fA (fV 1) fA0)) fA0)) (gN 5) (fFgt [5, 7] (fSeq (fSet 4 (f2 dMod (fOn (on1 dInt) (fA (f2 dAdd (f2 dAdd (f2 dMul (fV 4) (fC (.int 48271))) (f2 dMul (fC (.int 974711)) (fV 5))) (fC (.int 12345))) fA0)) (fC (.int 2147483647))))
    (fSeq (fSet 7 (f2 dMod (fOn (on1 dInt) (fA (f2 dMul (fV 4) (f2 dAdd (f2 dDiv (fV 4) (fC (.int 65537))) (fC (.int 3)))) fA0)) (fC (.int 2147483629))))
    (fApp 2 (f2 dMod (f2 dDiv (fV 7) (fC (.int 19))) (f2 dIx (fV 1) (fV 5))))))))
    (fRet (fV 2)))))))
def m_law_digits : List D → Res D := runF 8 .ow F_law_digits
def F_law_gcd : FS := (fSeq (fSet 2 (fOn (on1 dAbs) (fA (fOn (on1 dInt) (fA (fV 0) fA0)) fA0)))
    (fSeq (fSet 3 (fOn (on1 dAbs) (fA (fOn (on1 dInt) (fA (fV 1) fA0)) fA0)))
    (fSeq (fFor (fR1 (fA (fC (.int 1000000)) fA0)) (gN 4) (fFgt [4, 5] (fSeq (fIfS (fB (f2 dEq (fV 3) (fC (.int 0)))) fBrk fNext)
    (fSeq (fSet 5 (f2 dMod (fOn (on1 dInt) (fA (fV 2) fA0)) (fV 3)))
    (fSeq (fSet 2 (fV 3))
    (fSet 3 (fV 5)))))))
    (fRet (fV 2)))))
def m_law_gcd : List D → Res D := runF 6 .sh F_law_gcd
def F_law_fraction (rec : List D → Res D) : FS := (fSeq (fIfS (fB (f2 dLt (fV 1) (fC (.int 0)))) (fRet (fOn (chk 2 rec) (fA (f1 dNeg (fV 0)) (fA (f1 dNeg (fV 1)) fA0)))) fNext)
    (fSeq (fSet 2 (fOn (chk 2 m_law_gcd) (fA (fV 0) (fA (fV 1) fA0))))
    (fRet (fOn gTupD (fA (f2 dDiv (fV 0) (fV 2)) (fA (f2 dDiv (fV 1) (fV 2)) fA0))))))
def r_law_fraction : Nat → List D → Res D
  | 0 => fun _ => .er
  | n + 1 => runF 3 .sh (F_law_fraction (r_law_fraction n))
def m_law_fraction : List D → Res D := r_law_fraction 6
def F_law_added : FS := (fRet (fOn (chk 2 m_law_fraction) (fA (f2 dAdd (f2 dMul (f2 dIx (fV 0) (fC (.int 0))) (f2 dIx (fV 1) (fC (.int 1)))) (f2 dMul (f2 dIx (fV 1) (fC (.int 0))) (f2 dIx (fV 0) (fC (.int 1))))) (fA (f2 dMul (f2 dIx (fV 0) (fC (.int 1))) (f2 dIx (fV 1) (fC (.int 1)))) fA0))))
def m_law_added : List D → Res D := runF 2 .sh F_law_added
def F_law_sum : FS := (fSeq (fSet 1 (fOn gTupD (fA (fC (.int 0)) (fA (fC (.int 1)) fA0))))
    (fSeq (fFor (fL (fV 0)) (gN 2) (fFgt [2] (fSet 1 (fOn (chk 2 m_law_added) (fA (fV 1) (fA (fV 2) fA0))))))
    (fRet (fV 1))))
def m_law_sum : List D → Res D := runF 3 .sh F_law_sum
def F_law_cell : FS := (fSeq (fIfS (fB (f2 dLt (fV 1) (fOn (on1 dLen) (fA (fV 0) fA0)))) (fRet (f2 dIx (fV 0) (fV 1))) fNext)
    (fSeq (fSet 2 (fC (.int 17)))
    (fSeq (fFor (fL (fV 0)) (gN 3) (fFgt [3] (fSet 2 (f2 dMod (fOn (on1 dInt) (fA (f2 dAdd (f2 dMul (fV 2) (fC (.int 31))) (f2 dMod (fOn (on1 dInt) (fA (fV 3) fA0)) (fC (.int 1000003)))) fA0)) (fC (.int 1000003))))))
    (fRet (f2 dMod (fOn (on1 dInt) (fA (f2 dMul (f2 dMul (f2 dAdd (fV 2) (fC (.int 7))) (f2 dAdd (fV 1) (fC (.int 3)))) (fC (.int 69621))) fA0)) (fC (.int 2147483647)))))))
def m_law_cell : List D → Res D := runF 4 .sh F_law_cell
def F_law_whole : FS := (fRet (fBv (fAnd (fB (f1 (dIsi "int") (fV 0))) (fB (fBv (fNot (fB (f1 (dIsi "bool") (fV 0)))))))))
def m_law_whole : List D → Res D := runF 1 .sh F_law_whole
def F_law_same (rec : List D → Res D) : FS := (fSeq (fIfS (fOr (fTr (f1 (dIsi "tuple") (fV 1))) (fTr (f1 (dIsi "list") (fV 1)))) (fSeq (fIfS (fOr (fNot (fTr (f1 (dIsi "tuple") (fV 0)))) (fB (f2 dNe (fOn (on1 dLen) (fA (fV 0) fA0)) (fOn (on1 dLen) (fA (fV 1) fA0))))) (fRet (fC (.bl false))) fNext)
    (fSeq (fFor (fR1 (fA (fOn (on1 dLen) (fA (fV 1) fA0)) fA0)) (gN 2) (fFgt [2] (fIfS (fNot (fTr (fOn (chk 2 rec) (fA (f2 dIx (fV 0) (fV 2)) (fA (f2 dIx (fV 1) (fV 2)) fA0))))) (fRet (fC (.bl false))) fNext)))
    (fRet (fC (.bl true))))) fNext)
    (fSeq (fIfS (fB (f1 dIsN (fV 1))) (fRet (f1 dIsN (fV 0))) fNext)
    (fSeq (fIfS (fB (f1 (dIsB true) (fV 1))) (fRet (f1 (dIsB true) (fV 0))) fNext)
    (fSeq (fIfS (fB (f1 (dIsB false) (fV 1))) (fRet (f1 (dIsB false) (fV 0))) fNext)
    (fSeq (fIfS (fTr (f1 (dIsi "str") (fV 1))) (fRet (fBv (fAnd (fB (f1 (dIsi "str") (fV 0))) (fB (f2 dEq (fV 0) (fV 1)))))) fNext)
    (fRet (fBv (fAnd (fB (fOn (chk 1 m_law_whole) (fA (fV 0) fA0))) (fB (f2 dEq (fV 0) (fV 1)))))))))))
def r_law_same : Nat → List D → Res D
  | 0 => fun _ => .er
  | n + 1 => runF 3 .sh (F_law_same (r_law_same n))
def m_law_same : List D → Res D := r_law_same 6
def F_law_day : FS := (fSeq (fSet 2 (fLc [4] (fR1 (fA (fV 0) fA0)) (gN 4) fYes (fV 4)))
    (fSeq (fSet 3 (fOn gLstD fA0))
    (fSeq (fFor (fR1 (fA (fV 0) fA0)) (gN 4) (fFgt [4] (fAppX 3 (fPop 2 (f2 dMod (fOn (on1 dInt) (fA (f2 dIx (fV 1) (fV 4)) fA0)) (fSc (fOn (on1 dLen) (fA (fV 2) fA0))))))))
    (fRet (fOn (on1 dTuple) (fA (fV 3) fA0))))))
def m_law_day : List D → Res D := runF 5 .sh F_law_day
def F_ratio : FS := (fSeq (fIfS (fB (f2 dEq (fV 1) (fC (.int 0)))) (fRaise "ZeroBottom" [] fA0) fNext)
    (fSeq (fSet 2 (fOn (on2 dGcd) (fA (fV 0) (fA (fV 1) fA0))))
    (fSeq (fFgt [] (fIfS (fB (f2 dLt (fV 1) (fC (.int 0)))) (fSet 2 (f1 dNeg (fV 2))) fNext))
    (fRet (fOn gTupD (fA (f2 dDiv (fV 0) (fV 2)) (fA (f2 dDiv (fV 1) (fV 2)) fA0)))))))
def m_ratio : List D → Res D := runF 3 .sh F_ratio
def F_added : FS := (fRet (fOn (chk 2 m_ratio) (fA (f2 dAdd (f2 dMul (f2 dIx (fV 0) (fC (.int 0))) (f2 dIx (fV 1) (fC (.int 1)))) (f2 dMul (f2 dIx (fV 1) (fC (.int 0))) (f2 dIx (fV 0) (fC (.int 1))))) (fA (f2 dMul (f2 dIx (fV 0) (fC (.int 1))) (f2 dIx (fV 1) (fC (.int 1)))) fA0))))
def m_added : List D → Res D := runF 2 .sh F_added
def F_fraction_sum : FS := (fSeq (fSet 1 (fOn gTupD (fA (fC (.int 0)) (fA (fC (.int 1)) fA0))))
    (fSeq (fFor (fL (fV 0)) (gN 2) (fFgt [2] (fSet 1 (fOn (chk 2 m_added) (fA (fV 1) (fA (fV 2) fA0))))))
    (fRet (fV 1))))
def m_fraction_sum : List D → Res D := runF 3 .sh F_fraction_sum
def N_law_cell_fi_i (a0 : (List Int)) (a1 : Int) : Res Int :=
  (if (decide (a1 < (a0.length : Int))) = true then (ixR a0 a1) else
  ((forR (σ := Int) (fun x1 x2 => (((((mulR x1 31).bind fun x3 => (Res.ok (x3 + (x2 % 1000003)))).bind fun x4 => (Res.ok x4)).bind fun x5 => (Res.ok (x5 % 1000003))).bind fun x6 =>
  Res.ok x6)) a0 17).bind fun x7 =>
  ((((mulR (x7 + 7) (a1 + 3)).bind fun x8 => (mulR x8 69621)).bind fun x9 => (Res.ok x9)).bind fun x10 => (Res.ok (x10 % 2147483647)))))
theorem n_law_cell_fi_i (a0 : (List Int)) (a1 : Int) : Rf (m_law_cell [(eF D.int) a0, D.int a1]) (N_law_cell_fi_i a0 a1) D.int :=
  n_runF ((t_if (evB (ev2 rfl (evOn (evA rfl rfl) op_lenF) rfl)) (t_retF (q_f2 (b_p rfl (b_p rfl op_ixF))))
  (t_nextS (t_seqp [some ((eF D.int) a0), some (D.int a1), some (D.int 17), none] (set_p rfl rfl) (t_seq fin_F (fun x7 : Int => [some ((eF D.int) a0), some (D.int a1), some (D.int x7), none]) (s_forp (ex := D.int) (s0 := 17) (it_F (e := D.int) (xs := a0) rfl) (fun x1 : Int => [some ((eF D.int) a0), some (D.int a1), some (D.int x1), none]) (fun (x1 : Int) (x2 : Int) => [some ((eF D.int) a0), some (D.int a1), some (D.int x1), some (D.int x2)]) rfl (fun _ _ => rfl) fun x1 x2 =>
  (t_seq fin_L (fun x6 : Int => [some ((eF D.int) a0), some (D.int a1), some (D.int x6), some (D.int x2)]) (s_set (e := D.int) _ (q_f2 (b_i (q_on (a_i (q_f2 (b_i (q_f2 (b_p rfl (b_p rfl op_mul))) fun x3 => (b_p (ev2 rfl rfl (op_modp (by decide))) (rf_ok rfl)))) fun x4 => (a_0 (rf_ok rfl)))) fun x5 => (b_p rfl (rf_ok (op_modp (by decide)))))) fun _ => rfl) fun x6 =>
  (t_next rfl))) fun x7 =>
  (t_end (t_retF (q_f2 (b_i (q_on (a_i (q_f2 (b_i (q_f2 (b_p rfl (b_p rfl op_mul))) fun x8 => (b_p rfl op_mul))) fun x9 => (a_0 (rf_ok rfl)))) fun x10 => (b_p rfl (rf_ok (op_modp (by decide)))))))))))))
/-! law_digits_i_li -/
def N_law_digits_i_li (a0 : Int) (a1 : (List Int)) : Res (List Int) :=
  (((powR 10 18).bind fun x1 => (Res.ok (decide (x1 ≤ a0)))).bind fun x26 => if x26 = true then (((powR 10 18).bind fun x2 => (Res.ok (a0 - x2))).bind fun x3 =>
  ((forR (σ := ((List Int) × Int)) (fun x4 x5 => (((modR x4.2 x5).bind fun x6 => appR x4.1 x6).bind fun x7 =>
  ((divR x4.2 x5).bind fun x8 =>
  Res.ok (x7, x8)))) a1 ([], x3)).bind fun x9 =>
  (Res.ok x9.1))) else
  (((rngR (a1.length : Int)).bind fun x24 => (forR (σ := ((List Int) × Int)) (fun x10 x11 => ((((((mulR x10.2 48271).bind fun x12 => ((mulR 974711 x11).bind fun x13 => (Res.ok (x12 + x13)))).bind fun x14 => (Res.ok (x14 + 12345))).bind fun x15 => (Res.ok x15)).bind fun x16 => (Res.ok (x16 % 2147483647))).bind fun x17 =>
  ((((mulR x17 ((x17 / 65537) + 3)).bind fun x18 => (Res.ok x18)).bind fun x19 => (Res.ok (x19 % 2147483629))).bind fun x20 =>
  ((((ixR a1 x11).bind fun x21 => (modR (x20 / 19) x21)).bind fun x22 => appR x10.1 x22).bind fun x23 =>
  Res.ok (x23, x17))))) x24 ([], (a0 % 2147483629)))).bind fun x25 =>
  (Res.ok x25.1)))
theorem n_law_digits_i_li (a0 : Int) (a1 : (List Int)) : Rf (m_law_digits [D.int a0, (eL D.int) a1]) (N_law_digits_i_li a0 a1) (eL D.int) :=
  n_runF ((t_seqp [some (D.int a0), some ((eL D.int) a1), some ((eL D.int) []), none, none, none, none, none] (set_p rfl rfl) (t_seqp [some (D.int a0), some ((eL D.int) a1), some ((eL D.int) []), some (D.int a0), none, none, none, none] (set_p rfl rfl) (t_ifI fin_F (q_B (b_iB (q_f2 (b_p rfl (b_i (q_f2 (b_p rfl (b_p rfl op_pow))) fun x1 => (rf_ok rfl)))))) (t_assoc (t_seq fin_F (fun x3 : Int => [some (D.int a0), some ((eL D.int) a1), some ((eL D.int) []), some (D.int x3), none, none, none, none]) (s_set (e := D.int) _ (q_f2 (b_p rfl (b_i (q_f2 (b_p rfl (b_p rfl op_pow))) fun x2 => (rf_ok rfl)))) fun _ => rfl) fun x3 =>
  (t_assoc (t_seq fin_F (fun x9 : ((List Int) × Int) => [some (D.int a0), some ((eL D.int) a1), some ((eL D.int) x9.1), some (D.int x9.2), none, none, none, none]) (s_forp (ex := D.int) (s0 := ([], x3)) (it_L (e := D.int) (xs := a1) rfl) (fun x4 : ((List Int) × Int) => [some (D.int a0), some ((eL D.int) a1), some ((eL D.int) x4.1), some (D.int x4.2), none, none, none, none]) (fun (x4 : ((List Int) × Int)) (x5 : Int) => [some (D.int a0), some ((eL D.int) a1), some ((eL D.int) x4.1), some (D.int x4.2), none, none, some (D.int x5), none]) rfl (fun _ _ => rfl) fun x4 x5 =>
  (t_assoc (t_seq fin_L (fun x7 : (List Int) => [some (D.int a0), some ((eL D.int) a1), some ((eL D.int) x7), some (D.int x4.2), none, none, some (D.int x5), none]) (s_appI (e := D.int) (xs := x4.1) (fun ys : (List Int) => [some (D.int a0), some ((eL D.int) a1), some ((eL D.int) ys), some (D.int x4.2), none, none, some (D.int x5), none]) rfl (q_f2 (b_p rfl (b_p rfl op_mod))) fun _ => rfl) fun x7 =>
  (t_seq fin_L (fun x8 : Int => [some (D.int a0), some ((eL D.int) a1), some ((eL D.int) x7), some (D.int x8), none, none, some (D.int x5), none]) (s_set (e := D.int) _ (q_f2 (b_p rfl (b_p rfl op_div))) fun _ => rfl) fun x8 =>
  (t_next rfl))))) fun x9 =>
  (t_retF (rf_ok (e := (eL D.int)) rfl))))))
  (t_nextS (t_seqp [some (D.int a0), some ((eL D.int) a1), some ((eL D.int) []), some (D.int a0), some (D.int (a0 % 2147483629)), none, none, none] (set_p (ev2 rfl rfl (op_modp (by decide))) rfl) (t_seq fin_F (fun x25 : ((List Int) × Int) => [some (D.int a0), some ((eL D.int) a1), some ((eL D.int) x25.1), some (D.int a0), some (D.int x25.2), none, none, none]) (s_for (ex := D.int) (s0 := ([], (a0 % 2147483629))) (q_R1 (a_p (evOn (evA rfl rfl) op_lenL) (a_0 k_R1))) (fun x10 : ((List Int) × Int) => [some (D.int a0), some ((eL D.int) a1), some ((eL D.int) x10.1), some (D.int a0), some (D.int x10.2), none, none, none]) (fun (x10 : ((List Int) × Int)) (x11 : Int) => [some (D.int a0), some ((eL D.int) a1), some ((eL D.int) x10.1), some (D.int a0), some (D.int x10.2), some (D.int x11), none, none]) rfl (fun _ _ => rfl) fun x10 x11 =>
  (t_assoc (t_seq fin_L (fun x17 : Int => [some (D.int a0), some ((eL D.int) a1), some ((eL D.int) x10.1), some (D.int a0), some (D.int x17), some (D.int x11), none, none]) (s_set (e := D.int) _ (q_f2 (b_i (q_on (a_i (q_f2 (b_i (q_f2 (b_i (q_f2 (b_p rfl (b_p rfl op_mul))) fun x12 => (b_i (q_f2 (b_p rfl (b_p rfl op_mul))) fun x13 => (rf_ok rfl)))) fun x14 => (b_p rfl (rf_ok rfl)))) fun x15 => (a_0 (rf_ok rfl)))) fun x16 => (b_p rfl (rf_ok (op_modp (by decide)))))) fun _ => rfl) fun x17 =>
  (t_assoc (t_seq fin_L (fun x20 : Int => [some (D.int a0), some ((eL D.int) a1), some ((eL D.int) x10.1), some (D.int a0), some (D.int x17), some (D.int x11), none, some (D.int x20)]) (s_set (e := D.int) _ (q_f2 (b_i (q_on (a_i (q_f2 (b_p rfl (b_p (ev2 (ev2 rfl rfl (op_divp (by decide) (by decide))) rfl rfl) op_mul))) fun x18 => (a_0 (rf_ok rfl)))) fun x19 => (b_p rfl (rf_ok (op_modp (by decide)))))) fun _ => rfl) fun x20 =>
  (t_seq fin_L (fun x23 : (List Int) => [some (D.int a0), some ((eL D.int) a1), some ((eL D.int) x23), some (D.int a0), some (D.int x17), some (D.int x11), none, some (D.int x20)]) (s_appI (e := D.int) (xs := x10.1) (fun ys : (List Int) => [some (D.int a0), some ((eL D.int) a1), some ((eL D.int) ys), some (D.int a0), some (D.int x17), some (D.int x11), none, some (D.int x20)]) rfl (q_f2 (b_p (ev2 rfl rfl (op_divp (by decide) (by decide))) (b_i (q_f2 (b_p rfl (b_p rfl op_ixL))) fun x21 => op_mod))) fun _ => rfl) fun x23 =>
  (t_next rfl))))))) fun x25 =>
  (t_end (t_retF (rf_ok (e := (eL D.int)) rfl))))))))))
/-! law_number_li -/
def N_law_gcd_i_i (a0 : Int) (a1 : Int) : Res Int :=
  (((rngR 1000000).bind fun x4 => ((forC (σ := (Int × Int)) (β := Unit) (fun x1 x2 => (if (decide (x1.2 = 0)) = true then Res.ok (.out (x1.1, x1.2)) else
  ((modR x1.1 x1.2).bind fun x3 =>
  Res.ok (.go (x1.2, x3))))) x4 ((if a0 < 0 then -a0 else a0), (if a1 < 0 then -a1 else a1))).bind (ctlS (β := Unit)))).bind fun x5 =>
  (Res.ok x5.1))
theorem n_law_gcd_i_i (a0 : Int) (a1 : Int) : Rf (m_law_gcd [D.int a0, D.int a1]) (N_law_gcd_i_i a0 a1) D.int :=
  n_runF ((t_seqp [some (D.int a0), some (D.int a1), some (D.int (if a0 < 0 then -a0 else a0)), none, none, none] (set_p rfl rfl) (t_seqp [some (D.int a0), some (D.int a1), some (D.int (if a0 < 0 then -a0 else a0)), some (D.int (if a1 < 0 then -a1 else a1)), none, none] (set_p rfl rfl) (t_seq fin_F (fun x5 : (Int × Int) => [some (D.int a0), some (D.int a1), some (D.int x5.1), some (D.int x5.2), none, none]) (s_forB (ex := D.int) (s0 := ((if a0 < 0 then -a0 else a0), (if a1 < 0 then -a1 else a1))) (q_R1 (a_p rfl (a_0 k_R1))) (fun x1 : (Int × Int) => [some (D.int a0), some (D.int a1), some (D.int x1.1), some (D.int x1.2), none, none]) (fun (x1 : (Int × Int)) (x2 : Int) => [some (D.int a0), some (D.int a1), some (D.int x1.1), some (D.int x1.2), some (D.int x2), none]) rfl (fun _ _ => rfl) fun x1 x2 =>
  (t_assoc (t_if (evB (ev2 rfl rfl (op_eq (e := D.int) (x := x1.2) (x' := 0)))) (t_brk rfl)
  (t_nextS (t_assoc (t_seq fin_L (fun x3 : Int => [some (D.int a0), some (D.int a1), some (D.int x1.1), some (D.int x1.2), some (D.int x2), some (D.int x3)]) (s_set (e := D.int) _ (q_f2 (b_p rfl (b_p rfl op_mod))) fun _ => rfl) fun x3 =>
  (t_assoc (t_seqp [some (D.int a0), some (D.int a1), some (D.int x1.2), some (D.int x1.2), some (D.int x2), some (D.int x3)] (set_p rfl rfl) (t_seqp [some (D.int a0), some (D.int a1), some (D.int x1.2), some (D.int x3), some (D.int x2), some (D.int x3)] (set_p rfl rfl) (t_next rfl)))))))))) fun x5 =>
  (t_end (t_retF (rf_ok (e := D.int) rfl)))))))
/-! law_fraction_i_i -/
def Nr_law_fraction_i_i : Nat → Int → Int → Res (Int × Int)
  | 0 => fun _ _ => .er
  | n + 1 => fun a0 a1 =>
  (if (decide (a1 < 0)) = true then (Nr_law_fraction_i_i n (-a0) (-a1)) else
  ((N_law_gcd_i_i a0 a1).bind fun x1 =>
  ((divR a0 x1).bind fun x2 => ((divR a1 x1).bind fun x3 => (Res.ok (x2, x3))))))
theorem nr_law_fraction_i_i : ∀ (n : Nat) (a0 : Int) (a1 : Int), Rf (r_law_fraction n [D.int a0, D.int a1]) (Nr_law_fraction_i_i n a0 a1) (eP2 D.int D.int)
  | 0, _, _ => trivial
  | n + 1, a0, a1 => n_runF ((t_if rfl (t_retF (q_on (a_p rfl (a_p rfl (a_0 (rf_chk (nr_law_fraction_i_i n (-a0) (-a1)) rfl))))))
  (t_nextS (t_seq fin_F (fun x1 : Int => [some (D.int a0), some (D.int a1), some (D.int x1)]) (s_set (e := D.int) _ (q_on (a_p rfl (a_p rfl (a_0 (rf_chk (n_law_gcd_i_i a0 a1) rfl))))) fun _ => rfl) fun x1 =>
  (t_end (t_retF (q_on (a_i (q_f2 (b_p rfl (b_p rfl op_div))) fun x2 => (a_i (q_f2 (b_p rfl (b_p rfl op_div))) fun x3 => (a_0 (rf_ok rfl)))))))))))
def N_law_fraction_i_i (a0 : Int) (a1 : Int) : Res (Int × Int) := Nr_law_fraction_i_i 6 a0 a1
theorem n_law_fraction_i_i (a0 : Int) (a1 : Int) : Rf (m_law_fraction [D.int a0, D.int a1]) (N_law_fraction_i_i a0 a1) (eP2 D.int D.int) := nr_law_fraction_i_i 6 a0 a1
/-! law_whole_i -/
def N_law_added_piiq_piiq (a0 : (Int × Int)) (a1 : (Int × Int)) : Res (Int × Int) :=
  (((mulR a0.1 a1.2).bind fun x1 => ((mulR a1.1 a0.2).bind fun x2 => (Res.ok (x1 + x2)))).bind fun x3 => ((mulR a0.2 a1.2).bind fun x4 => (N_law_fraction_i_i x3 x4)))
theorem n_law_added_piiq_piiq (a0 : (Int × Int)) (a1 : (Int × Int)) : Rf (m_law_added [(eP2 D.int D.int) a0, (eP2 D.int D.int) a1]) (N_law_added_piiq_piiq a0 a1) (eP2 D.int D.int) :=
  n_runF ((t_end (t_retF (q_on (a_i (q_f2 (b_i (q_f2 (b_p rfl (b_p rfl op_mul))) fun x1 => (b_i (q_f2 (b_p rfl (b_p rfl op_mul))) fun x2 => (rf_ok rfl)))) fun x3 => (a_i (q_f2 (b_p rfl (b_p rfl op_mul))) fun x4 => (a_0 (rf_chk (n_law_fraction_i_i x3 x4) rfl))))))))
/-! less_piiq_hiiq -/
def N_law_sum_lpiiq (a0 : (List (Int × Int))) : Res (Int × Int) :=
  ((forR (σ := (Int × Int)) (fun x1 x2 => ((N_law_added_piiq_piiq x1 x2).bind fun x3 =>
  Res.ok x3)) a0 (0, 1)).bind fun x4 =>
  (Res.ok x4))
theorem n_law_sum_lpiiq (a0 : (List (Int × Int))) : Rf (m_law_sum [(eL (eP2 D.int D.int)) a0]) (N_law_sum_lpiiq a0) (eP2 D.int D.int) :=
  n_runF ((t_seqp [some ((eL (eP2 D.int D.int)) a0), some ((eP2 D.int D.int) (0, 1)), none] (set_p rfl rfl) (t_seq fin_F (fun x4 : (Int × Int) => [some ((eL (eP2 D.int D.int)) a0), some ((eP2 D.int D.int) x4), none]) (s_forp (ex := (eP2 D.int D.int)) (s0 := (0, 1)) (it_L (e := (eP2 D.int D.int)) (xs := a0) rfl) (fun x1 : (Int × Int) => [some ((eL (eP2 D.int D.int)) a0), some ((eP2 D.int D.int) x1), none]) (fun (x1 : (Int × Int)) (x2 : (Int × Int)) => [some ((eL (eP2 D.int D.int)) a0), some ((eP2 D.int D.int) x1), some ((eP2 D.int D.int) x2)]) rfl (fun _ _ => rfl) fun x1 x2 =>
  (t_seq fin_L (fun x3 : (Int × Int) => [some ((eL (eP2 D.int D.int)) a0), some ((eP2 D.int D.int) x3), some ((eP2 D.int D.int) x2)]) (s_set (e := (eP2 D.int D.int)) _ (q_on (a_p rfl (a_p rfl (a_0 (rf_chk (n_law_added_piiq_piiq x1 x2) rfl))))) fun _ => rfl) fun x3 =>
  (t_next rfl))) fun x4 =>
  (t_end (t_retF (rf_ok (e := (eP2 D.int D.int)) rfl))))))
/-! fraction_sum_tpiiq -/
def N_law_whole_i (a0 : Int) : Res Bool :=
  (Res.ok true)
theorem n_law_whole_i (a0 : Int) : Rf (m_law_whole [D.int a0]) (N_law_whole_i a0) D.bl :=
  n_runF ((t_end (t_retF (rf_ok (e := D.bl) (evBv (evAndT (evB (ev1 rfl (isi_of isTy_int_int))) (evB (evBv (evNot (evB (ev1 rfl (isi_of isTy_bool_int))))))))))))
/-! law_same_i_i -/
def N_law_same_i_i (a0 : Int) (a1 : Int) : Res Bool :=
  (Res.ok (decide (a0 = a1)))
theorem nr_law_same_i_i (n : Nat) (a0 : Int) (a1 : Int) : Rf (r_law_same (n + 1) [D.int a0, D.int a1]) (N_law_same_i_i a0 a1) D.bl :=
  n_runF ((t_ifF (evOrF (evTr (ev1 rfl (isi_of isTy_tuple_int)) rfl) (evTr (ev1 rfl (isi_of isTy_list_int)) rfl)) (t_nextS (t_ifF rfl (t_nextS (t_ifF rfl (t_nextS (t_ifF rfl (t_nextS (t_ifF (evTr (ev1 rfl (isi_of isTy_str_int)) rfl) (t_nextS (t_end (t_retF (rf_ok (e := D.bl) (evBv (evAndT (evB (evOn (evA rfl rfl) (ev_chk (n_law_whole_i a0) rfl))) (evB (ev2 rfl rfl (op_eq (e := D.int) (x := a0) (x' := a1))))))))))))))))))))
theorem n_law_same_i_i (a0 : Int) (a1 : Int) : Rf (m_law_same [D.int a0, D.int a1]) (N_law_same_i_i a0 a1) D.bl := nr_law_same_i_i 5 a0 a1
/-! law_same_piiq_piiq -/
def N_law_same_piiq_piiq (a0 : (Int × Int)) (a1 : (Int × Int)) : Res Bool :=
  (if (!decide (2 = 2)) = true then (Res.ok false) else
  ((rngR 2).bind fun x8 => ((forC (σ := Unit) (β := Bool) (fun x1 x2 => ((((ixR [a0.1, a0.2] x2).bind fun x3 => ((ixR [a1.1, a1.2] x2).bind fun x4 => (N_law_same_i_i x3 x4))).bind fun x5 => Res.ok (!x5)).bind fun x6 => if x6 = true then Res.ok (.ret false) else
  Res.ok (.go ()))) x8 ()).bind (ctlK (fun x7 => (Res.ok true)) (fun v => v)))))
theorem nr_law_same_piiq_piiq (n : Nat) (a0 : (Int × Int)) (a1 : (Int × Int)) : Rf (r_law_same (n + 2) [(eP2 D.int D.int) a0, (eP2 D.int D.int) a1]) (N_law_same_piiq_piiq a0 a1) D.bl :=
  n_runF ((t_ifT (evOrT (evTr (ev1 rfl (isi_of isTy_tuple_tup)) rfl)) (t_assoc (t_if (evOrF (evNot (evTr (ev1 rfl (isi_of isTy_tuple_tup)) rfl)) (evB (ev2 rfl rfl (op_ne (e := D.int) (x := 2) (x' := 2))))) (t_retF (rf_ok (e := D.bl) rfl))
  (t_nextS (t_assoc (t_forC (ex := D.int) (e := D.bl) (s0 := ()) (rk := (fun v => v)) fin_F (q_R1 (a_p rfl (a_0 k_R1))) (fun x1 : Unit => [some ((eP2 D.int D.int) a0), some ((eP2 D.int D.int) a1), none]) (fun (x1 : Unit) (x2 : Int) => [some ((eP2 D.int D.int) a0), some ((eP2 D.int D.int) a1), some (D.int x2)]) rfl (fun _ _ => rfl) (fun x1 x2 =>
  (t_ifI fin_L (q_Not (b_i (q_Tr (b_iT (q_on (a_i (q_f2 (b_p rfl (b_p rfl (op_ixT (e := D.int) (xs := [a0.1, a0.2]))))) fun x3 => (a_i (q_f2 (b_p rfl (b_p rfl (op_ixT (e := D.int) (xs := [a1.1, a1.2]))))) fun x4 => (a_0 (rf_chk (nr_law_same_i_i (n + 0) x3 x4) rfl))))))) fun _ => rf_ok rfl)) (t_retp rfl rfl)
  (t_nextS (t_next rfl)))) (fun x7 =>
  (t_retF (rf_ok (e := D.bl) rfl))) fun _ => rfl)))))))
theorem n_law_same_piiq_piiq (a0 : (Int × Int)) (a1 : (Int × Int)) : Rf (m_law_same [(eP2 D.int D.int) a0, (eP2 D.int D.int) a1]) (N_law_same_piiq_piiq a0 a1) D.bl := nr_law_same_piiq_piiq 4 a0 a1
/-! law_is_fraction_piiq -/
def N_law_day_i_li (a0 : Int) (a1 : (List Int)) : Res (List Int) :=
  (((rngR a0).bind fun x2 => lcR x2 (fun x1 => Res.ok true) (fun x1 => (Res.ok x1))).bind fun x3 =>
  (((rngR a0).bind fun x10 => (forR (σ := ((List Int) × (List Int))) (fun x4 x5 => (((nx ((nx (((ixR a1 x5).bind fun x6 => (Res.ok x6)).bind fun x7 => (modR x7 (x4.1.length : Int)))).bind fun x8 => popR x4.1 x8)).bind fun v => (appR x4.2 v.1).bind fun ys => Res.ok (ys, v.2)).bind fun x9 =>
  Res.ok (x9.2, x9.1))) x10 (x3, []))).bind fun x11 =>
  (Res.ok x11.2)))
theorem n_law_day_i_li (a0 : Int) (a1 : (List Int)) : Rf (m_law_day [D.int a0, (eL D.int) a1]) (N_law_day_i_li a0 a1) (eT D.int) :=
  n_runF ((t_seq fin_F (fun x3 : (List Int) => [some (D.int a0), some ((eL D.int) a1), some ((eL D.int) x3), none, none]) (s_set (e := (eL D.int)) _ (rf_lc (q_R1 (a_p rfl (a_0 k_R1))) (fun x1 : Int => [some (D.int a0), some ((eL D.int) a1), none, none, some (D.int x1)]) (fun _ => rfl) (fun x1 => (rf_ok (v := true) rfl)) (fun x1 => (rf_ok (e := D.int) rfl))) fun _ => rfl) fun x3 =>
  (t_seqp [some (D.int a0), some ((eL D.int) a1), some ((eL D.int) x3), some ((eL D.int) []), none] (set_p rfl rfl) (t_seq fin_F (fun x11 : ((List Int) × (List Int)) => [some (D.int a0), some ((eL D.int) a1), some ((eL D.int) x11.1), some ((eL D.int) x11.2), none]) (s_for (ex := D.int) (s0 := (x3, [])) (q_R1 (a_p rfl (a_0 k_R1))) (fun x4 : ((List Int) × (List Int)) => [some (D.int a0), some ((eL D.int) a1), some ((eL D.int) x4.1), some ((eL D.int) x4.2), none]) (fun (x4 : ((List Int) × (List Int))) (x5 : Int) => [some (D.int a0), some ((eL D.int) a1), some ((eL D.int) x4.1), some ((eL D.int) x4.2), some (D.int x5)]) rfl (fun _ _ => rfl) fun x4 x5 =>
  (t_seq fin_L (fun x9 : ((List Int) × (List Int)) => [some (D.int a0), some ((eL D.int) a1), some ((eL D.int) x9.2), some ((eL D.int) x9.1), some (D.int x5)]) (s_appX (e := D.int) (xs := x4.2) (fun v : ((List Int) × (List Int)) => [some (D.int a0), some ((eL D.int) a1), some ((eL D.int) v.2), some ((eL D.int) v.1), some (D.int x5)]) rfl (x_popI (e := D.int) (xs := x4.1) (fun ys : (List Int) => [some (D.int a0), some ((eL D.int) a1), some ((eL D.int) ys), some ((eL D.int) x4.2), some (D.int x5)]) rfl (q_f2 (b_i (q_on (a_i (q_f2 (b_p rfl (b_p rfl op_ixL))) fun x6 => (a_0 (rf_ok rfl)))) fun x7 => (b_p (evSc (evOn (evA rfl rfl) op_lenL) rfl) op_mod))) fun _ => rfl) (fun _ => rfl) fun _ _ => rfl) fun x9 =>
  (t_next rfl))) fun x11 =>
  (t_end (t_retF (rf_ok (e := (eT D.int)) rfl)))))))
/-! day_sum_cTablettpiiqiq_ti -/
def N_ratio_i_i (a0 : Int) (a1 : Int) : Res (Int × Int) :=
  (if (decide (a1 = 0)) = true then (Res.ex "ZeroBottom" []) else
  ((Res.ok ((Nat.gcd a0.natAbs a1.natAbs : Nat) : Int)).bind fun x1 =>
  ((if (decide (a1 < 0)) = true then Res.ok (-x1) else
  Res.ok x1).bind fun x2 =>
  ((divR a0 x2).bind fun x3 => ((divR a1 x2).bind fun x4 => (Res.ok (x3, x4)))))))
theorem n_ratio_i_i (a0 : Int) (a1 : Int) : Rf (m_ratio [D.int a0, D.int a1]) (N_ratio_i_i a0 a1) (eP2 D.int D.int) :=
  n_runF ((t_if (evB (ev2 rfl rfl (op_eq (e := D.int) (x := a1) (x' := 0)))) (t_raise fin_F (a_0 (rf_ex rfl)))
  (t_nextS (t_seq fin_F (fun x1 : Int => [some (D.int a0), some (D.int a1), some (D.int x1)]) (s_setp (e := D.int) _ rfl rfl) fun x1 =>
  (t_seq fin_F (fun x2 : Int => [some (D.int a0), some (D.int a1), some (D.int x2)]) (s_if (o' := (fun s : Int => Fl.nx [some (D.int a0), some (D.int a1), some (D.int s)])) (t_if rfl (t_seqp [some (D.int a0), some (D.int a1), some (D.int (-x1))] (set_p rfl rfl) (t_next rfl))
  (t_nextS (t_next rfl)))) fun x2 =>
  (t_end (t_retF (q_on (a_i (q_f2 (b_p rfl (b_p rfl op_div))) fun x3 => (a_i (q_f2 (b_p rfl (b_p rfl op_div))) fun x4 => (a_0 (rf_ok rfl))))))))))))
/-! law_gcd_i_i -/
def N_added_piiq_piiq (a0 : (Int × Int)) (a1 : (Int × Int)) : Res (Int × Int) :=
  (((mulR a0.1 a1.2).bind fun x1 => ((mulR a1.1 a0.2).bind fun x2 => (Res.ok (x1 + x2)))).bind fun x3 => ((mulR a0.2 a1.2).bind fun x4 => (N_ratio_i_i x3 x4)))
theorem n_added_piiq_piiq (a0 : (Int × Int)) (a1 : (Int × Int)) : Rf (m_added [(eP2 D.int D.int) a0, (eP2 D.int D.int) a1]) (N_added_piiq_piiq a0 a1) (eP2 D.int D.int) :=
  n_runF ((t_end (t_retF (q_on (a_i (q_f2 (b_i (q_f2 (b_p rfl (b_p rfl op_mul))) fun x1 => (b_i (q_f2 (b_p rfl (b_p rfl op_mul))) fun x2 => (rf_ok rfl)))) fun x3 => (a_i (q_f2 (b_p rfl (b_p rfl op_mul))) fun x4 => (a_0 (rf_chk (n_ratio_i_i x3 x4) rfl))))))))
/-! fraction_sum_tpiiq -/
def N_fraction_sum_lpiiq (a0 : (List (Int × Int))) : Res (Int × Int) :=
  ((forR (σ := (Int × Int)) (fun x1 x2 => ((N_added_piiq_piiq x1 x2).bind fun x3 =>
  Res.ok x3)) a0 (0, 1)).bind fun x4 =>
  (Res.ok x4))
theorem n_fraction_sum_lpiiq (a0 : (List (Int × Int))) : Rf (m_fraction_sum [(eL (eP2 D.int D.int)) a0]) (N_fraction_sum_lpiiq a0) (eP2 D.int D.int) :=
  n_runF ((t_seqp [some ((eL (eP2 D.int D.int)) a0), some ((eP2 D.int D.int) (0, 1)), none] (set_p rfl rfl) (t_seq fin_F (fun x4 : (Int × Int) => [some ((eL (eP2 D.int D.int)) a0), some ((eP2 D.int D.int) x4), none]) (s_forp (ex := (eP2 D.int D.int)) (s0 := (0, 1)) (it_L (e := (eP2 D.int D.int)) (xs := a0) rfl) (fun x1 : (Int × Int) => [some ((eL (eP2 D.int D.int)) a0), some ((eP2 D.int D.int) x1), none]) (fun (x1 : (Int × Int)) (x2 : (Int × Int)) => [some ((eL (eP2 D.int D.int)) a0), some ((eP2 D.int D.int) x1), some ((eP2 D.int D.int) x2)]) rfl (fun _ _ => rfl) fun x1 x2 =>
  (t_seq fin_L (fun x3 : (Int × Int) => [some ((eL (eP2 D.int D.int)) a0), some ((eP2 D.int D.int) x3), some ((eP2 D.int D.int) x2)]) (s_set (e := (eP2 D.int D.int)) _ (q_on (a_p rfl (a_p rfl (a_0 (rf_chk (n_added_piiq_piiq x1 x2) rfl))))) fun _ => rfl) fun x3 =>
  (t_next rfl))) fun x4 =>
  (t_end (t_retF (rf_ok (e := (eP2 D.int D.int)) rfl))))))
/-! day_sum_cTablettpiiqiq_li -/
def N_fraction_sum_tpiiq (a0 : (List (Int × Int))) : Res (Int × Int) :=
  ((forR (σ := (Int × Int)) (fun x1 x2 => ((N_added_piiq_piiq x1 x2).bind fun x3 =>
  Res.ok x3)) a0 (0, 1)).bind fun x4 =>
  (Res.ok x4))
theorem n_fraction_sum_tpiiq (a0 : (List (Int × Int))) : Rf (m_fraction_sum [(eT (eP2 D.int D.int)) a0]) (N_fraction_sum_tpiiq a0) (eP2 D.int D.int) :=
  n_runF ((t_seqp [some ((eT (eP2 D.int D.int)) a0), some ((eP2 D.int D.int) (0, 1)), none] (set_p rfl rfl) (t_seq fin_F (fun x4 : (Int × Int) => [some ((eT (eP2 D.int D.int)) a0), some ((eP2 D.int D.int) x4), none]) (s_forp (ex := (eP2 D.int D.int)) (s0 := (0, 1)) (it_T (e := (eP2 D.int D.int)) (xs := a0) rfl) (fun x1 : (Int × Int) => [some ((eT (eP2 D.int D.int)) a0), some ((eP2 D.int D.int) x1), none]) (fun (x1 : (Int × Int)) (x2 : (Int × Int)) => [some ((eT (eP2 D.int D.int)) a0), some ((eP2 D.int D.int) x1), some ((eP2 D.int D.int) x2)]) rfl (fun _ _ => rfl) fun x1 x2 =>
  (t_seq fin_L (fun x3 : (Int × Int) => [some ((eT (eP2 D.int D.int)) a0), some ((eP2 D.int D.int) x3), some ((eP2 D.int D.int) x2)]) (s_set (e := (eP2 D.int D.int)) _ (q_on (a_p rfl (a_p rfl (a_0 (rf_chk (n_added_piiq_piiq x1 x2) rfl))))) fun _ => rfl) fun x3 =>
  (t_next rfl))) fun x4 =>
  (t_end (t_retF (rf_ok (e := (eP2 D.int D.int)) rfl))))))
/-! over_hiiq_li -/
end Kx
namespace Kx
open PySem PySem.Spec L2 Da
def F_law_table_rows : FS := (fSeq (fSet 2 (fOn gLstD fA0))
    (fSeq (fFor (fR1 (fA (fV 0) fA0)) (gN 3) (fFgt [3, 4, 5, 6, 7] (fSeq (fSet 4 (fOn gLstD fA0))
    (fSeq (fFor (fR1 (fA (fV 0) fA0)) (gN 5) (fFgt [5, 6, 7] (fSeq (fSet 6 (f2 dAdd (fC (.int 1)) (f2 dMul (fC (.int 2)) (f2 dAdd (f2 dMul (fV 0) (fV 3)) (fV 5)))))
    (fSeq (fSet 7 (f2 dIx (fOn gLstD (fA (f2 dSub (f2 dIx (fV 1) (fV 6)) (fC (.int 12))) (fA (f2 dMod (f2 dIx (fV 1) (fV 6)) (fC (.int 3))) (fA (f2 dMod (f2 dIx (fV 1) (fV 6)) (fC (.int 2))) (fA (f2 dSub (f2 dIx (fV 1) (fV 6)) (fC (.int 12))) (fA (f2 dDiv (f2 dIx (fV 1) (fV 6)) (fC (.int 5))) (fA (f2 dSub (f2 dIx (fV 1) (fV 6)) (fC (.int 20))) (fA (f2 dIx (fV 1) (fV 6)) fA0)))))))) (f2 dIx (fV 1) (fC (.int 0)))))
    (fApp 4 (fOn (chk 2 m_law_fraction) (fA (fV 7) (fA (f2 dIx (fOn gLstD (fA (fC (.int 1)) (fA (fC (.int 1)) (fA (fC (.int 1)) (fA (fC (.int 2)) (fA (fC (.int 3)) (fA (fC (.int 4)) (fA (fC (.int 6)) (fA (fC (.int 1)) (fA (fC (.int 5)) fA0)))))))))) (f2 dIx (fV 1) (f2 dAdd (fV 6) (fC (.int 1))))) fA0))))))))
    (fApp 2 (fV 4))))))
    (fRet (fV 2))))
def m_law_table_rows : List D → Res D := runF 8 .ow F_law_table_rows
def F_law_days : FS := (fSeq (fSet 1 (fOn gLstD (fA (fOn gTupD fA0) fA0)))
    (fSeq (fFor (fR1 (fA (fV 0) fA0)) (gN 2) (fFgt [2, 3, 4, 5] (fSeq (fSet 3 (fOn gLstD fA0))
    (fSeq (fFor (fL (fV 1)) (gN 4) (fFgt [4, 5] (fFor (fR1 (fA (fV 0) fA0)) (gN 5) (fFgt [5] (fFgt [] (fIfS (fB (f2 dNotIn (fV 5) (fV 4))) (fApp 3 (f2 dAdd (fV 4) (fOn gTupD (fA (fV 5) fA0)))) fNext))))))
    (fSet 1 (fOn (on1 dList) (fA (fV 3) fA0)))))))
    (fRet (fV 1))))
def m_law_days : List D → Res D := runF 6 .ow F_law_days
def F_is_number : FS := (fRet (fBv (fAnd (fB (f1 (dIsi "int") (fV 0))) (fB (fBv (fNot (fB (f1 (dIsi "bool") (fV 0)))))))))
def m_is_number : List D → Res D := runF 1 .sh F_is_number
def F_as_fraction : FS := (fSeq (fIfS (fTr (fOn (chk 1 m_is_number) (fA (fV 0) fA0))) (fRet (fOn gTupD (fA (fV 0) (fA (fC (.int 1)) fA0)))) fNext)
    (fRet (fV 0)))
def m_as_fraction : List D → Res D := runF 1 .sh F_as_fraction
def F_checked_rows : FS := (fSeq (fFor (fEnum (fA (fV 0) fA0)) (gT (gsC (gN 1) (gsC (gN 2) gs0))) (fFgt [1, 2] (fIfS (fB (f2 dNe (fOn (on1 dLen) (fA (fV 2) fA0)) (fOn (on1 dLen) (fA (fV 0) fA0)))) (fRaise "BadTable" ["index"] (fA (fV 1) fA0)) fNext)))
    (fRet (fOn (on1 dTuple) (fA (fLc [2] (fL (fV 0)) (gN 2) fYes (fOn (on1 dTuple) (fA (fLc [3] (fL (fV 2)) (gN 3) fYes (fOn (chk 1 m_as_fraction) (fA (fV 3) fA0))) fA0))) fA0))))
def m_checked_rows : List D → Res D := runF 4 .sh F_checked_rows
def F_frozen (rec : List D → Res D) : FS := (fSeq (fIfS (fTr (f1 (dIsi2 "list" "tuple") (fV 0))) (fRet (fOn (on1 dTuple) (fA (fLc [1] (fL (fV 0)) (gN 1) fYes (fOn (chk 1 rec) (fA (fV 1) fA0))) fA0))) fNext)
    (fRet (fV 0)))
def r_frozen : Nat → List D → Res D
  | 0 => fun _ => .er
  | n + 1 => runF 2 .sh (F_frozen (r_frozen n))
def m_frozen : List D → Res D := r_frozen 6
def F_Table_init : FS := (fSeq (fFld "Table" "rows" 0 (fOn (chk 1 m_checked_rows) (fA (fOn (chk 1 m_frozen) (fA (fV 1) fA0)) fA0)))
    (fFld "Table" "size" 0 (fOn (on1 dLen) (fA (f1 (dFld "Table" "rows") (fV 0)) fA0))))
def m_Table_init : List D → Res D := runI 2 "Table" F_Table_init
def F_law_day_sum : FS := (fSeq (fSet 2 (fOn gTupD (fA (fC (.int 0)) (fA (fC (.int 1)) fA0))))
    (fSeq (fFor (fR1 (fA (fOn (on1 dLen) (fA (fV 0) fA0)) fA0)) (gN 3) (fFgt [3] (fSet 2 (fOn (chk 2 m_law_added) (fA (fV 2) (fA (f2 dIx (f2 dIx (fV 0) (fV 3)) (f2 dIx (fV 1) (fV 3))) fA0))))))
    (fRet (fV 2))))
def m_law_day_sum : List D → Res D := runF 4 .sh F_law_day_sum
def F_line_sums : FS := (fRet (fOn (on1 dTuple) (fA (fLc [1] (fL (fV 0)) (gN 1) fYes (fOn (chk 1 m_fraction_sum) (fA (fV 1) fA0))) fA0)))
def m_line_sums : List D → Res D := runF 2 .sh F_line_sums
def F_Table_mean_day : FS := (fSeq (fSet 1 (fOn (chk 1 m_fraction_sum) (fA (fOn (chk 1 m_line_sums) (fA (f1 (dFld "Table" "rows") (fV 0)) fA0)) fA0)))
    (fRet (fOn (chk 2 m_ratio) (fA (f2 dIx (fV 1) (fC (.int 0))) (fA (f2 dMul (f2 dIx (fV 1) (fC (.int 1))) (fOn (on1 dLen) (fA (f1 (dFld "Table" "rows") (fV 0)) fA0))) fA0)))))
def m_Table_mean_day : List D → Res D := runF 2 .sh F_Table_mean_day
def F_day_sum : FS := (fRet (fOn (chk 1 m_fraction_sum) (fA (fLc [2, 3] (fEnum (fA (fV 1) fA0)) (gT (gsC (gN 2) (gsC (gN 3) gs0))) fYes (f2 dIx (f2 dIx (f1 (dFld "Table" "rows") (fV 0)) (fV 2)) (fV 3))) fA0)))
def m_day_sum : List D → Res D := runF 4 .sh F_day_sum
def N_frozen_i (a0 : Int) : Res Int :=
  (Res.ok a0)
theorem nr_frozen_i (n : Nat) (a0 : Int) : Rf (r_frozen (n + 1) [D.int a0]) (N_frozen_i a0) D.int :=
  n_runF ((t_ifF (evTr (ev1 rfl (isi2_b isTy_list_int isTy_tuple_int)) rfl) (t_nextS (t_end (t_retF (rf_ok (e := D.int) rfl))))))
theorem n_frozen_i (a0 : Int) : Rf (m_frozen [D.int a0]) (N_frozen_i a0) D.int := nr_frozen_i 5 a0
/-! frozen_piiq -/
def N_frozen_piiq (a0 : (Int × Int)) : Res (Int × Int) :=
  (((nx (N_frozen_i a0.1)).bind fun x1 => (nx (N_frozen_i a0.2)).bind fun x2 => Res.ok (x1, x2)).bind fun x3 => (Res.ok x3))
theorem nr_frozen_piiq (n : Nat) (a0 : (Int × Int)) : Rf (r_frozen (n + 2) [(eP2 D.int D.int) a0]) (N_frozen_piiq a0) (eP2 D.int D.int) :=
  n_runF ((t_ifT (evTr (ev1 rfl (isi2_b isTy_list_tup isTy_tuple_tup)) rfl) (t_retF (q_on (a_i (rf_lcN2 (it_row2 rfl) rfl rfl (q_on (a_p rfl (a_0 (rf_chk (nr_frozen_i (n + 0) a0.1) rfl)))) (q_on (a_p rfl (a_0 (rf_chk (nr_frozen_i (n + 0) a0.2) rfl))))) fun x3 => (a_0 (rf_ok rfl)))))))
theorem n_frozen_piiq (a0 : (Int × Int)) : Rf (m_frozen [(eP2 D.int D.int) a0]) (N_frozen_piiq a0) (eP2 D.int D.int) := nr_frozen_piiq 4 a0
/-! frozen_lpiiq -/
def N_frozen_lpiiq (a0 : (List (Int × Int))) : Res (List (Int × Int)) :=
  ((lcR a0 (fun x1 => Res.ok true) (fun x1 => (N_frozen_piiq x1))).bind fun x2 => (Res.ok x2))
theorem nr_frozen_lpiiq (n : Nat) (a0 : (List (Int × Int))) : Rf (r_frozen (n + 3) [(eL (eP2 D.int D.int)) a0]) (N_frozen_lpiiq a0) (eT (eP2 D.int D.int)) :=
  n_runF ((t_ifT (evTr (ev1 rfl (isi2_a isTy_list_lst)) rfl) (t_retF (q_on (a_i (rf_lcp (it_L (e := (eP2 D.int D.int)) (xs := a0) rfl) (fun x1 : (Int × Int) => [some ((eL (eP2 D.int D.int)) a0), some ((eP2 D.int D.int) x1)]) (fun _ => rfl) (fun x1 => (rf_ok (v := true) rfl)) (fun x1 => (q_on (a_p rfl (a_0 (rf_chk (nr_frozen_piiq (n + 0) x1) rfl)))))) fun x2 => (a_0 (rf_ok rfl)))))))
theorem n_frozen_lpiiq (a0 : (List (Int × Int))) : Rf (m_frozen [(eL (eP2 D.int D.int)) a0]) (N_frozen_lpiiq a0) (eT (eP2 D.int D.int)) := nr_frozen_lpiiq 3 a0
/-! frozen_llpiiq -/
def N_frozen_llpiiq (a0 : (List (List (Int × Int)))) : Res (List (List (Int × Int))) :=
  ((lcR a0 (fun x1 => Res.ok true) (fun x1 => (N_frozen_lpiiq x1))).bind fun x2 => (Res.ok x2))
theorem nr_frozen_llpiiq (n : Nat) (a0 : (List (List (Int × Int)))) : Rf (r_frozen (n + 4) [(eL (eL (eP2 D.int D.int))) a0]) (N_frozen_llpiiq a0) (eT (eT (eP2 D.int D.int))) :=
  n_runF ((t_ifT (evTr (ev1 rfl (isi2_a isTy_list_lst)) rfl) (t_retF (q_on (a_i (rf_lcp (it_L (e := (eL (eP2 D.int D.int))) (xs := a0) rfl) (fun x1 : (List (Int × Int)) => [some ((eL (eL (eP2 D.int D.int))) a0), some ((eL (eP2 D.int D.int)) x1)]) (fun _ => rfl) (fun x1 => (rf_ok (v := true) rfl)) (fun x1 => (q_on (a_p rfl (a_0 (rf_chk (nr_frozen_lpiiq (n + 0) x1) rfl)))))) fun x2 => (a_0 (rf_ok rfl)))))))
theorem n_frozen_llpiiq (a0 : (List (List (Int × Int)))) : Rf (m_frozen [(eL (eL (eP2 D.int D.int))) a0]) (N_frozen_llpiiq a0) (eT (eT (eP2 D.int D.int))) := nr_frozen_llpiiq 2 a0
/-! is_number_piiq -/
def N_is_number_piiq (a0 : (Int × Int)) : Res Bool :=
  (Res.ok false)
theorem n_is_number_piiq (a0 : (Int × Int)) : Rf (m_is_number [(eP2 D.int D.int) a0]) (N_is_number_piiq a0) D.bl :=
  n_runF ((t_end (t_retF (rf_ok (e := D.bl) (evBv (evAndF (evB (ev1 rfl (isi_of isTy_int_tup)))))))))
/-! as_fraction_piiq -/
def N_as_fraction_piiq (a0 : (Int × Int)) : Res (Int × Int) :=
  (Res.ok a0)
theorem n_as_fraction_piiq (a0 : (Int × Int)) : Rf (m_as_fraction [(eP2 D.int D.int) a0]) (N_as_fraction_piiq a0) (eP2 D.int D.int) :=
  n_runF ((t_ifF (evTr (evOn (evA rfl rfl) (ev_chk (n_is_number_piiq a0) rfl)) rfl) (t_nextS (t_end (t_retF (rf_ok (e := (eP2 D.int D.int)) rfl))))))
/-! checked_rows_ttpiiq -/
def N_checked_rows_ttpiiq (a0 : (List (List (Int × Int)))) : Res (List (List (Int × Int))) :=
  ((forR (σ := Unit) (fun x1 x2 => (if (!decide ((x2.2.length : Int) = (a0.length : Int))) = true then (Res.ex "BadTable" [("index", D.int x2.1)]) else
  Res.ok ())) (enumI 0 a0) ()).bind fun x3 =>
  ((lcR a0 (fun x4 => Res.ok true) (fun x4 => ((lcR x4 (fun x5 => Res.ok true) (fun x5 => (N_as_fraction_piiq x5))).bind fun x6 => (Res.ok x6)))).bind fun x7 => (Res.ok x7)))
theorem n_checked_rows_ttpiiq (a0 : (List (List (Int × Int)))) : Rf (m_checked_rows [(eT (eT (eP2 D.int D.int))) a0]) (N_checked_rows_ttpiiq a0) (eT (eT (eP2 D.int D.int))) :=
  n_runF ((t_seq fin_F (fun x3 : Unit => [some ((eT (eT (eP2 D.int D.int))) a0), none, none, none]) (s_forp (ex := (eP2 D.int (eT (eP2 D.int D.int)))) (s0 := ()) (it_enT (e := (eT (eP2 D.int D.int))) (xs := a0) rfl) (fun x1 : Unit => [some ((eT (eT (eP2 D.int D.int))) a0), none, none, none]) (fun (x1 : Unit) (x2 : (Int × (List (Int × Int)))) => [some ((eT (eT (eP2 D.int D.int))) a0), some (D.int x2.1), some ((eT (eP2 D.int D.int)) x2.2), none]) rfl (fun _ _ => rfl) fun x1 x2 =>
  (t_if (evB (ev2 (evOn (evA rfl rfl) op_lenT) (evOn (evA rfl rfl) op_lenT) (op_ne (e := D.int) (x := (x2.2.length : Int)) (x' := (a0.length : Int))))) (t_raise fin_L (a_p rfl (a_0 (rf_ex rfl))))
  (t_nextS (t_next rfl)))) fun x3 =>
  (t_end (t_retF (q_on (a_i (rf_lcp (it_T (e := (eT (eP2 D.int D.int))) (xs := a0) rfl) (fun x4 : (List (Int × Int)) => [some ((eT (eT (eP2 D.int D.int))) a0), none, some ((eT (eP2 D.int D.int)) x4), none]) (fun _ => rfl) (fun x4 => (rf_ok (v := true) rfl)) (fun x4 => (q_on (a_i (rf_lcp (it_T (e := (eP2 D.int D.int)) (xs := x4) rfl) (fun x5 : (Int × Int) => [some ((eT (eT (eP2 D.int D.int))) a0), none, some ((eT (eP2 D.int D.int)) x4), some ((eP2 D.int D.int) x5)]) (fun _ => rfl) (fun x5 => (rf_ok (v := true) rfl)) (fun x5 => (q_on (a_p rfl (a_0 (rf_chk (n_as_fraction_piiq x5) rfl)))))) fun x6 => (a_0 (rf_ok rfl)))))) fun x7 => (a_0 (rf_ok rfl))))))))
/-! Table_init_llpiiq -/
def N_Table_init_llpiiq (a0 : (List (List (Int × Int)))) : Res ((List (List (Int × Int))) × Int) :=
  (((N_frozen_llpiiq a0).bind fun x1 => (N_checked_rows_ttpiiq x1)).bind fun x2 =>
  ((Res.ok (x2.length : Int)).bind fun x3 =>
  Res.ok (x2, x3)))
theorem n_Table_init_llpiiq (a0 : (List (List (Int × Int)))) : Rf (m_Table_init [(eL (eL (eP2 D.int D.int))) a0]) (N_Table_init_llpiiq a0) (eOb2 "Table" "rows" "size" (eT (eT (eP2 D.int D.int))) D.int) :=
  n_runI ((t_seq fin_I (fun x2 : (List (List (Int × Int))) => [some ((eOb1 "Table" "rows" (eT (eT (eP2 D.int D.int)))) x2), some ((eL (eL (eP2 D.int D.int))) a0)]) (s_fld (e := (eT (eT (eP2 D.int D.int)))) (ns := []) (ds := []) (fun v : (List (List (Int × Int))) => [some ((eOb1 "Table" "rows" (eT (eT (eP2 D.int D.int)))) v), some ((eL (eL (eP2 D.int D.int))) a0)]) rfl (by decide) (q_on (a_i (q_on (a_p rfl (a_0 (rf_chk (n_frozen_llpiiq a0) rfl)))) fun x1 => (a_0 (rf_chk (n_checked_rows_ttpiiq x1) rfl)))) fun _ => rfl) fun x2 =>
  (t_end (t_seq fin_I (fun x3 : Int => [some ((eOb2 "Table" "rows" "size" (eT (eT (eP2 D.int D.int))) D.int) (x2, x3)), some ((eL (eL (eP2 D.int D.int))) a0)]) (s_fld (e := D.int) (ns := ["rows"]) (ds := [(eT (eT (eP2 D.int D.int))) x2]) (fun v : Int => [some ((eOb2 "Table" "rows" "size" (eT (eT (eP2 D.int D.int))) D.int) (x2, v)), some ((eL (eL (eP2 D.int D.int))) a0)]) rfl (by decide) (rf_ok (e := D.int) (evOn (evA (ev1 rfl fld_hit) rfl) op_lenT)) fun _ => rfl) fun x3 =>
  (t_next (o := (eOb2 "Table" "rows" "size" (eT (eT (eP2 D.int D.int))) D.int)) (v := (x2, x3)) rfl)))))
/-! law_added_piiq_piiq -/
def N_law_day_sum_llpiiq_li (a0 : (List (List (Int × Int)))) (a1 : (List Int)) : Res (Int × Int) :=
  (((rngR (a0.length : Int)).bind fun x7 => (forR (σ := (Int × Int)) (fun x1 x2 => ((((ixR a0 x2).bind fun x3 => ((ixR a1 x2).bind fun x4 => (ixR x3 x4))).bind fun x5 => (N_law_added_piiq_piiq x1 x5)).bind fun x6 =>
  Res.ok x6)) x7 (0, 1))).bind fun x8 =>
  (Res.ok x8))
theorem n_law_day_sum_llpiiq_li (a0 : (List (List (Int × Int)))) (a1 : (List Int)) : Rf (m_law_day_sum [(eL (eL (eP2 D.int D.int))) a0, (eL D.int) a1]) (N_law_day_sum_llpiiq_li a0 a1) (eP2 D.int D.int) :=
  n_runF ((t_seqp [some ((eL (eL (eP2 D.int D.int))) a0), some ((eL D.int) a1), some ((eP2 D.int D.int) (0, 1)), none] (set_p rfl rfl) (t_seq fin_F (fun x8 : (Int × Int) => [some ((eL (eL (eP2 D.int D.int))) a0), some ((eL D.int) a1), some ((eP2 D.int D.int) x8), none]) (s_for (ex := D.int) (s0 := (0, 1)) (q_R1 (a_p (evOn (evA rfl rfl) op_lenL) (a_0 k_R1))) (fun x1 : (Int × Int) => [some ((eL (eL (eP2 D.int D.int))) a0), some ((eL D.int) a1), some ((eP2 D.int D.int) x1), none]) (fun (x1 : (Int × Int)) (x2 : Int) => [some ((eL (eL (eP2 D.int D.int))) a0), some ((eL D.int) a1), some ((eP2 D.int D.int) x1), some (D.int x2)]) rfl (fun _ _ => rfl) fun x1 x2 =>
  (t_seq fin_L (fun x6 : (Int × Int) => [some ((eL (eL (eP2 D.int D.int))) a0), some ((eL D.int) a1), some ((eP2 D.int D.int) x6), some (D.int x2)]) (s_set (e := (eP2 D.int D.int)) _ (q_on (a_p rfl (a_i (q_f2 (b_i (q_f2 (b_p rfl (b_p rfl op_ixL))) fun x3 => (b_i (q_f2 (b_p rfl (b_p rfl op_ixL))) fun x4 => op_ixL))) fun x5 => (a_0 (rf_chk (n_law_added_piiq_piiq x1 x5) rfl))))) fun _ => rfl) fun x6 =>
  (t_next rfl))) fun x8 =>
  (t_end (t_retF (rf_ok (e := (eP2 D.int D.int)) rfl))))))
/-! ratio_i_i -/
def N_law_day_sum_llpiiq_ti (a0 : (List (List (Int × Int)))) (a1 : (List Int)) : Res (Int × Int) :=
  (((rngR (a0.length : Int)).bind fun x7 => (forR (σ := (Int × Int)) (fun x1 x2 => ((((ixR a0 x2).bind fun x3 => ((ixR a1 x2).bind fun x4 => (ixR x3 x4))).bind fun x5 => (N_law_added_piiq_piiq x1 x5)).bind fun x6 =>
  Res.ok x6)) x7 (0, 1))).bind fun x8 =>
  (Res.ok x8))
theorem n_law_day_sum_llpiiq_ti (a0 : (List (List (Int × Int)))) (a1 : (List Int)) : Rf (m_law_day_sum [(eL (eL (eP2 D.int D.int))) a0, (eT D.int) a1]) (N_law_day_sum_llpiiq_ti a0 a1) (eP2 D.int D.int) :=
  n_runF ((t_seqp [some ((eL (eL (eP2 D.int D.int))) a0), some ((eT D.int) a1), some ((eP2 D.int D.int) (0, 1)), none] (set_p rfl rfl) (t_seq fin_F (fun x8 : (Int × Int) => [some ((eL (eL (eP2 D.int D.int))) a0), some ((eT D.int) a1), some ((eP2 D.int D.int) x8), none]) (s_for (ex := D.int) (s0 := (0, 1)) (q_R1 (a_p (evOn (evA rfl rfl) op_lenL) (a_0 k_R1))) (fun x1 : (Int × Int) => [some ((eL (eL (eP2 D.int D.int))) a0), some ((eT D.int) a1), some ((eP2 D.int D.int) x1), none]) (fun (x1 : (Int × Int)) (x2 : Int) => [some ((eL (eL (eP2 D.int D.int))) a0), some ((eT D.int) a1), some ((eP2 D.int D.int) x1), some (D.int x2)]) rfl (fun _ _ => rfl) fun x1 x2 =>
  (t_seq fin_L (fun x6 : (Int × Int) => [some ((eL (eL (eP2 D.int D.int))) a0), some ((eT D.int) a1), some ((eP2 D.int D.int) x6), some (D.int x2)]) (s_set (e := (eP2 D.int D.int)) _ (q_on (a_p rfl (a_i (q_f2 (b_i (q_f2 (b_p rfl (b_p rfl op_ixL))) fun x3 => (b_i (q_f2 (b_p rfl (b_p rfl op_ixT))) fun x4 => op_ixL))) fun x5 => (a_0 (rf_chk (n_law_added_piiq_piiq x1 x5) rfl))))) fun _ => rfl) fun x6 =>
  (t_next rfl))) fun x8 =>
  (t_end (t_retF (rf_ok (e := (eP2 D.int D.int)) rfl))))))
/-! law_fi -/
def N_law_table_rows_i_li (a0 : Int) (a1 : (List Int)) : Res (List (List (Int × Int))) :=
  (((rngR a0).bind fun x32 => (forR (σ := (List (List (Int × Int)))) (fun x1 x2 => (((rngR a0).bind fun x29 => (forR (σ := (List (Int × Int))) (fun x3 x4 => (((((mulR a0 x2).bind fun x5 => (Res.ok (x5 + x4))).bind fun x6 => (mulR 2 x6)).bind fun x7 => (Res.ok (1 + x7))).bind fun x8 =>
  (((((ixR a1 x8).bind fun x9 => (Res.ok (x9 - 12))).bind fun x15 => (((ixR a1 x8).bind fun x10 => (Res.ok (x10 % 3))).bind fun x16 => (((ixR a1 x8).bind fun x11 => (Res.ok (x11 % 2))).bind fun x17 => (((ixR a1 x8).bind fun x12 => (Res.ok (x12 - 12))).bind fun x18 => (((ixR a1 x8).bind fun x13 => (Res.ok (x13 / 5))).bind fun x19 => (((ixR a1 x8).bind fun x14 => (Res.ok (x14 - 20))).bind fun x20 => ((ixR a1 x8).bind fun x21 => (Res.ok [x15, x16, x17, x18, x19, x20, x21])))))))).bind fun x22 => ((ixR a1 0).bind fun x23 => (ixR x22 x23))).bind fun x24 =>
  (((((ixR a1 (x8 + 1)).bind fun x25 => (ixR [1, 1, 1, 2, 3, 4, 6, 1, 5] x25)).bind fun x26 => (N_law_fraction_i_i x24 x26)).bind fun x27 => appR x3 x27).bind fun x28 =>
  Res.ok x28)))) x29 [])).bind fun x30 =>
  ((appR x1 x30).bind fun x31 =>
  Res.ok x31))) x32 [])).bind fun x33 =>
  (Res.ok x33))
theorem n_law_table_rows_i_li (a0 : Int) (a1 : (List Int)) : Rf (m_law_table_rows [D.int a0, (eL D.int) a1]) (N_law_table_rows_i_li a0 a1) (eL (eL (eP2 D.int D.int))) :=
  n_runF ((t_seqp [some (D.int a0), some ((eL D.int) a1), some ((eL (eL (eP2 D.int D.int))) []), none, none, none, none, none] (set_p rfl rfl) (t_seq fin_F (fun x33 : (List (List (Int × Int))) => [some (D.int a0), some ((eL D.int) a1), some ((eL (eL (eP2 D.int D.int))) x33), none, none, none, none, none]) (s_for (ex := D.int) (s0 := []) (q_R1 (a_p rfl (a_0 k_R1))) (fun x1 : (List (List (Int × Int))) => [some (D.int a0), some ((eL D.int) a1), some ((eL (eL (eP2 D.int D.int))) x1), none, none, none, none, none]) (fun (x1 : (List (List (Int × Int)))) (x2 : Int) => [some (D.int a0), some ((eL D.int) a1), some ((eL (eL (eP2 D.int D.int))) x1), some (D.int x2), none, none, none, none]) rfl (fun _ _ => rfl) fun x1 x2 =>
  (t_assoc (t_seqp [some (D.int a0), some ((eL D.int) a1), some ((eL (eL (eP2 D.int D.int))) x1), some (D.int x2), some ((eL (eP2 D.int D.int)) []), none, none, none] (set_p rfl rfl) (t_assoc (t_seq fin_L (fun x30 : (List (Int × Int)) => [some (D.int a0), some ((eL D.int) a1), some ((eL (eL (eP2 D.int D.int))) x1), some (D.int x2), some ((eL (eP2 D.int D.int)) x30), none, none, none]) (s_for (ex := D.int) (s0 := []) (q_R1 (a_p rfl (a_0 k_R1))) (fun x3 : (List (Int × Int)) => [some (D.int a0), some ((eL D.int) a1), some ((eL (eL (eP2 D.int D.int))) x1), some (D.int x2), some ((eL (eP2 D.int D.int)) x3), none, none, none]) (fun (x3 : (List (Int × Int))) (x4 : Int) => [some (D.int a0), some ((eL D.int) a1), some ((eL (eL (eP2 D.int D.int))) x1), some (D.int x2), some ((eL (eP2 D.int D.int)) x3), some (D.int x4), none, none]) rfl (fun _ _ => rfl) fun x3 x4 =>
  (t_assoc (t_seq fin_L (fun x8 : Int => [some (D.int a0), some ((eL D.int) a1), some ((eL (eL (eP2 D.int D.int))) x1), some (D.int x2), some ((eL (eP2 D.int D.int)) x3), some (D.int x4), some (D.int x8), none]) (s_set (e := D.int) _ (q_f2 (b_p rfl (b_i (q_f2 (b_p rfl (b_i (q_f2 (b_i (q_f2 (b_p rfl (b_p rfl op_mul))) fun x5 => (b_p rfl (rf_ok rfl)))) fun x6 => op_mul))) fun x7 => (rf_ok rfl)))) fun _ => rfl) fun x8 =>
  (t_assoc (t_seq fin_L (fun x24 : Int => [some (D.int a0), some ((eL D.int) a1), some ((eL (eL (eP2 D.int D.int))) x1), some (D.int x2), some ((eL (eP2 D.int D.int)) x3), some (D.int x4), some (D.int x8), some (D.int x24)]) (s_set (e := D.int) _ (q_f2 (b_i (q_on (a_i (q_f2 (b_i (q_f2 (b_p rfl (b_p rfl op_ixL))) fun x9 => (b_p rfl (rf_ok rfl)))) fun x15 => (a_i (q_f2 (b_i (q_f2 (b_p rfl (b_p rfl op_ixL))) fun x10 => (b_p rfl (rf_ok (op_modp (by decide)))))) fun x16 => (a_i (q_f2 (b_i (q_f2 (b_p rfl (b_p rfl op_ixL))) fun x11 => (b_p rfl (rf_ok (op_modp (by decide)))))) fun x17 => (a_i (q_f2 (b_i (q_f2 (b_p rfl (b_p rfl op_ixL))) fun x12 => (b_p rfl (rf_ok rfl)))) fun x18 => (a_i (q_f2 (b_i (q_f2 (b_p rfl (b_p rfl op_ixL))) fun x13 => (b_p rfl (rf_ok (op_divp (by decide) (by decide)))))) fun x19 => (a_i (q_f2 (b_i (q_f2 (b_p rfl (b_p rfl op_ixL))) fun x14 => (b_p rfl (rf_ok rfl)))) fun x20 => (a_i (q_f2 (b_p rfl (b_p rfl op_ixL))) fun x21 => (a_0 (rf_ok rfl)))))))))) fun x22 => (b_i (q_f2 (b_p rfl (b_p rfl op_ixL))) fun x23 => op_ixL))) fun _ => rfl) fun x24 =>
  (t_seq fin_L (fun x28 : (List (Int × Int)) => [some (D.int a0), some ((eL D.int) a1), some ((eL (eL (eP2 D.int D.int))) x1), some (D.int x2), some ((eL (eP2 D.int D.int)) x28), some (D.int x4), some (D.int x8), some (D.int x24)]) (s_appI (e := (eP2 D.int D.int)) (xs := x3) (fun ys : (List (Int × Int)) => [some (D.int a0), some ((eL D.int) a1), some ((eL (eL (eP2 D.int D.int))) x1), some (D.int x2), some ((eL (eP2 D.int D.int)) ys), some (D.int x4), some (D.int x8), some (D.int x24)]) rfl (q_on (a_p rfl (a_i (q_f2 (b_p rfl (b_i (q_f2 (b_p rfl (b_p rfl op_ixL))) fun x25 => op_ixL))) fun x26 => (a_0 (rf_chk (n_law_fraction_i_i x24 x26) rfl))))) fun _ => rfl) fun x28 =>
  (t_next rfl))))))) fun x30 =>
  (t_seq fin_L (fun x31 : (List (List (Int × Int))) => [some (D.int a0), some ((eL D.int) a1), some ((eL (eL (eP2 D.int D.int))) x31), some (D.int x2), some ((eL (eP2 D.int D.int)) x30), none, none, none]) (s_app (e := (eL (eP2 D.int D.int))) (xs := x1) (d := x30) (fun ys : (List (List (Int × Int))) => [some (D.int a0), some ((eL D.int) a1), some ((eL (eL (eP2 D.int D.int))) ys), some (D.int x2), some ((eL (eP2 D.int D.int)) x30), none, none, none]) rfl rfl fun _ => rfl) fun x31 =>
  (t_next rfl))))))) fun x33 =>
  (t_end (t_retF (rf_ok (e := (eL (eL (eP2 D.int D.int)))) rfl))))))
/-! law_days_i -/
def N_law_days_i (a0 : Int) : Res (List (List Int)) :=
  (((rngR a0).bind fun x17 => (forR (σ := (List (List Int))) (fun x1 x2 => ((forR (σ := (List (List Int))) (fun x3 x4 => (((rngR a0).bind fun x14 => (forR (σ := (List (List Int))) (fun x5 x6 => ((if (!decide (x6 ∈ x4)) = true then (((catR x4 [x6]).bind fun x11 => appR x5 x11).bind fun x12 =>
  Res.ok x12) else
  Res.ok x5).bind fun x13 =>
  Res.ok x13)) x14 x3)).bind fun x15 =>
  Res.ok x15)) x1 []).bind fun x16 =>
  Res.ok x16)) x17 [[]])).bind fun x18 =>
  (Res.ok x18))
theorem n_law_days_i (a0 : Int) : Rf (m_law_days [D.int a0]) (N_law_days_i a0) (eL (eT D.int)) :=
  n_runF ((t_seqp [some (D.int a0), some ((eL (eT D.int)) [[]]), none, none, none, none] (set_p rfl rfl) (t_seq fin_F (fun x18 : (List (List Int)) => [some (D.int a0), some ((eL (eT D.int)) x18), none, none, none, none]) (s_for (ex := D.int) (s0 := [[]]) (q_R1 (a_p rfl (a_0 k_R1))) (fun x1 : (List (List Int)) => [some (D.int a0), some ((eL (eT D.int)) x1), none, none, none, none]) (fun (x1 : (List (List Int))) (x2 : Int) => [some (D.int a0), some ((eL (eT D.int)) x1), some (D.int x2), none, none, none]) rfl (fun _ _ => rfl) fun x1 x2 =>
  (t_assoc (t_seqp [some (D.int a0), some ((eL (eT D.int)) x1), some (D.int x2), some ((eL (eT D.int)) []), none, none] (set_p rfl rfl) (t_assoc (t_seq fin_L (fun x16 : (List (List Int)) => [some (D.int a0), some ((eL (eT D.int)) x1), some (D.int x2), some ((eL (eT D.int)) x16), none, none]) (s_forp (ex := (eT D.int)) (s0 := []) (it_L (e := (eT D.int)) (xs := x1) rfl) (fun x3 : (List (List Int)) => [some (D.int a0), some ((eL (eT D.int)) x1), some (D.int x2), some ((eL (eT D.int)) x3), none, none]) (fun (x3 : (List (List Int))) (x4 : (List Int)) => [some (D.int a0), some ((eL (eT D.int)) x1), some (D.int x2), some ((eL (eT D.int)) x3), some ((eT D.int) x4), none]) rfl (fun _ _ => rfl) fun x3 x4 =>
  (t_seq fin_L (fun x15 : (List (List Int)) => [some (D.int a0), some ((eL (eT D.int)) x1), some (D.int x2), some ((eL (eT D.int)) x15), some ((eT D.int) x4), none]) (s_for (ex := D.int) (s0 := x3) (q_R1 (a_p rfl (a_0 k_R1))) (fun x5 : (List (List Int)) => [some (D.int a0), some ((eL (eT D.int)) x1), some (D.int x2), some ((eL (eT D.int)) x5), some ((eT D.int) x4), none]) (fun (x5 : (List (List Int))) (x6 : Int) => [some (D.int a0), some ((eL (eT D.int)) x1), some (D.int x2), some ((eL (eT D.int)) x5), some ((eT D.int) x4), some (D.int x6)]) rfl (fun _ _ => rfl) fun x5 x6 =>
  (t_seq fin_L (fun x13 : (List (List Int)) => [some (D.int a0), some ((eL (eT D.int)) x1), some (D.int x2), some ((eL (eT D.int)) x13), some ((eT D.int) x4), some (D.int x6)]) (s_if (o' := (fun s : (List (List Int)) => Fl.nx [some (D.int a0), some ((eL (eT D.int)) x1), some (D.int x2), some ((eL (eT D.int)) s), some ((eT D.int) x4), some (D.int x6)])) (t_if (evB (ev2 rfl rfl (op_nmemT (e := D.int) (x := x6) (xs := x4)))) (t_seq fin_S (fun x12 : (List (List Int)) => [some (D.int a0), some ((eL (eT D.int)) x1), some (D.int x2), some ((eL (eT D.int)) x12), some ((eT D.int) x4), some (D.int x6)]) (s_appI (e := (eT D.int)) (xs := x5) (fun ys : (List (List Int)) => [some (D.int a0), some ((eL (eT D.int)) x1), some (D.int x2), some ((eL (eT D.int)) ys), some ((eT D.int) x4), some (D.int x6)]) rfl (q_f2 (b_p rfl (b_p rfl (op_catT (e := D.int))))) fun _ => rfl) fun x12 =>
  (t_next rfl))
  (t_nextS (t_next rfl)))) fun x13 =>
  (t_next rfl))) fun x15 =>
  (t_next rfl))) fun x16 =>
  (t_seqp [some (D.int a0), some ((eL (eT D.int)) x16), some (D.int x2), some ((eL (eT D.int)) x16), none, none] (set_p rfl rfl) (t_next rfl))))))) fun x18 =>
  (t_end (t_retF (rf_ok (e := (eL (eT D.int))) rfl))))))
/-! frozen_i -/
def N_day_sum_cTablettpiiqiq_li (a0 : ((List (List (Int × Int))) × Int)) (a1 : (List Int)) : Res (Int × Int) :=
  ((lcR (enumI 0 a1) (fun x1 => Res.ok true) (fun x1 => ((ixR a0.1 x1.1).bind fun x2 => (ixR x2 x1.2)))).bind fun x3 => (N_fraction_sum_lpiiq x3))
theorem n_day_sum_cTablettpiiqiq_li (a0 : ((List (List (Int × Int))) × Int)) (a1 : (List Int)) : Rf (m_day_sum [(eOb2 "Table" "rows" "size" (eT (eT (eP2 D.int D.int))) D.int) a0, (eL D.int) a1]) (N_day_sum_cTablettpiiqiq_li a0 a1) (eP2 D.int D.int) :=
  n_runF ((t_end (t_retF (q_on (a_i (rf_lcp (it_enL (e := D.int) (xs := a1) rfl) (fun x1 : (Int × Int) => [some ((eOb2 "Table" "rows" "size" (eT (eT (eP2 D.int D.int))) D.int) a0), some ((eL D.int) a1), some (D.int x1.1), some (D.int x1.2)]) (fun _ => rfl) (fun x1 => (rf_ok (v := true) rfl)) (fun x1 => (q_f2 (b_i (q_f2 (b_p (ev1 rfl fld_hit) (b_p rfl op_ixT))) fun x2 => (b_p rfl op_ixT))))) fun x3 => (a_0 (rf_chk (n_fraction_sum_lpiiq x3) rfl)))))))
/-! law_whole_i -/
def N_day_sum_cTablettpiiqiq_ti (a0 : ((List (List (Int × Int))) × Int)) (a1 : (List Int)) : Res (Int × Int) :=
  ((lcR (enumI 0 a1) (fun x1 => Res.ok true) (fun x1 => ((ixR a0.1 x1.1).bind fun x2 => (ixR x2 x1.2)))).bind fun x3 => (N_fraction_sum_lpiiq x3))
theorem n_day_sum_cTablettpiiqiq_ti (a0 : ((List (List (Int × Int))) × Int)) (a1 : (List Int)) : Rf (m_day_sum [(eOb2 "Table" "rows" "size" (eT (eT (eP2 D.int D.int))) D.int) a0, (eT D.int) a1]) (N_day_sum_cTablettpiiqiq_ti a0 a1) (eP2 D.int D.int) :=
  n_runF ((t_end (t_retF (q_on (a_i (rf_lcp (it_enT (e := D.int) (xs := a1) rfl) (fun x1 : (Int × Int) => [some ((eOb2 "Table" "rows" "size" (eT (eT (eP2 D.int D.int))) D.int) a0), some ((eT D.int) a1), some (D.int x1.1), some (D.int x1.2)]) (fun _ => rfl) (fun x1 => (rf_ok (v := true) rfl)) (fun x1 => (q_f2 (b_i (q_f2 (b_p (ev1 rfl fld_hit) (b_p rfl op_ixT))) fun x2 => (b_p rfl op_ixT))))) fun x3 => (a_0 (rf_chk (n_fraction_sum_lpiiq x3) rfl)))))))
/-! law_day_sum_llpiiq_ti -/
def N_line_sums_ttpiiq (a0 : (List (List (Int × Int)))) : Res (List (Int × Int)) :=
  ((lcR a0 (fun x1 => Res.ok true) (fun x1 => (N_fraction_sum_tpiiq x1))).bind fun x2 => (Res.ok x2))
theorem n_line_sums_ttpiiq (a0 : (List (List (Int × Int)))) : Rf (m_line_sums [(eT (eT (eP2 D.int D.int))) a0]) (N_line_sums_ttpiiq a0) (eT (eP2 D.int D.int)) :=
  n_runF ((t_end (t_retF (q_on (a_i (rf_lcp (it_T (e := (eT (eP2 D.int D.int))) (xs := a0) rfl) (fun x1 : (List (Int × Int)) => [some ((eT (eT (eP2 D.int D.int))) a0), some ((eT (eP2 D.int D.int)) x1)]) (fun _ => rfl) (fun x1 => (rf_ok (v := true) rfl)) (fun x1 => (q_on (a_p rfl (a_0 (rf_chk (n_fraction_sum_tpiiq x1) rfl)))))) fun x2 => (a_0 (rf_ok rfl)))))))
/-! Table_mean_day_cTablettpiiqiq -/
def N_Table_mean_day_cTablettpiiqiq (a0 : ((List (List (Int × Int))) × Int)) : Res (Int × Int) :=
  (((N_line_sums_ttpiiq a0.1).bind fun x1 => (N_fraction_sum_tpiiq x1)).bind fun x2 =>
  ((mulR x2.2 (a0.1.length : Int)).bind fun x3 => (N_ratio_i_i x2.1 x3)))
theorem n_Table_mean_day_cTablettpiiqiq (a0 : ((List (List (Int × Int))) × Int)) : Rf (m_Table_mean_day [(eOb2 "Table" "rows" "size" (eT (eT (eP2 D.int D.int))) D.int) a0]) (N_Table_mean_day_cTablettpiiqiq a0) (eP2 D.int D.int) :=
  n_runF ((t_seq fin_F (fun x2 : (Int × Int) => [some ((eOb2 "Table" "rows" "size" (eT (eT (eP2 D.int D.int))) D.int) a0), some ((eP2 D.int D.int) x2)]) (s_set (e := (eP2 D.int D.int)) _ (q_on (a_i (q_on (a_p (ev1 rfl fld_hit) (a_0 (rf_chk (n_line_sums_ttpiiq a0.1) rfl)))) fun x1 => (a_0 (rf_chk (n_fraction_sum_tpiiq x1) rfl)))) fun _ => rfl) fun x2 =>
  (t_end (t_retF (q_on (a_p rfl (a_i (q_f2 (b_p rfl (b_p (evOn (evA (ev1 rfl fld_hit) rfl) op_lenT) op_mul))) fun x3 => (a_0 (rf_chk (n_ratio_i_i x2.1 x3) rfl)))))))))
/-! law_day_i_li -/
end Kx
namespace Kx
open PySem PySem.Spec L2 Da
def F_law_split_rows : FS := (fSeq (fSet 2 (fOn gLstD fA0))
    (fSeq (fFor (fR1 (fA (fV 0) fA0)) (gN 3) (fFgt [3, 4, 5, 6, 7, 8] (fSeq (fSet 4 (fOn gLstD fA0))
    (fSeq (fFor (fR1 (fA (fV 0) fA0)) (gN 5) (fFgt [5, 6, 7, 8] (fSeq (fSet 6 (fOn (chk 2 m_law_fraction) (fA (f2 dSub (f2 dIx (fV 1) (f2 dAdd (fC (.int 1)) (f2 dMul (fC (.int 2)) (fV 3)))) (fC (.int 12))) (fA (f2 dIx (fOn gLstD (fA (fC (.int 1)) (fA (fC (.int 1)) (fA (fC (.int 1)) (fA (fC (.int 2)) (fA (fC (.int 3)) (fA (fC (.int 4)) (fA (fC (.int 6)) (fA (fC (.int 1)) (fA (fC (.int 5)) fA0)))))))))) (f2 dIx (fV 1) (f2 dAdd (fC (.int 2)) (f2 dMul (fC (.int 2)) (fV 3))))) fA0))))
    (fSeq (fSet 7 (f2 dAdd (fC (.int 1)) (f2 dMul (fC (.int 2)) (f2 dAdd (f2 dMul (fV 0) (f2 dSub (fV 0) (fC (.int 1)))) (fV 5)))))
    (fSeq (fSet 8 (fOn (chk 2 m_law_fraction) (fA (f2 dSub (f2 dIx (fV 1) (fV 7)) (fC (.int 20))) (fA (f2 dIx (fOn gLstD (fA (fC (.int 1)) (fA (fC (.int 1)) (fA (fC (.int 1)) (fA (fC (.int 2)) (fA (fC (.int 3)) (fA (fC (.int 4)) (fA (fC (.int 6)) (fA (fC (.int 1)) (fA (fC (.int 5)) fA0)))))))))) (f2 dIx (fV 1) (f2 dAdd (fV 7) (fC (.int 1))))) fA0))))
    (fApp 4 (fOn (chk 2 m_law_added) (fA (fV 6) (fA (fV 8) fA0)))))))))
    (fApp 2 (fV 4))))))
    (fRet (fV 2))))
def m_law_split_rows : List D → Res D := runF 9 .ow F_law_split_rows
def F_law_part : FS := (fRet (fOn (chk 2 m_law_fraction) (fA (f2 dIx (fV 0) (fC (.int 0))) (fA (f2 dMul (f2 dIx (fV 0) (fC (.int 1))) (fV 1)) fA0))))
def m_law_part : List D → Res D := runF 2 .sh F_law_part
def F_timed : FS := (fRet (fOn (chk 2 m_ratio) (fA (f2 dMul (f2 dIx (fV 0) (fC (.int 0))) (f2 dIx (fV 1) (fC (.int 0)))) (fA (f2 dMul (f2 dIx (fV 0) (fC (.int 1))) (f2 dIx (fV 1) (fC (.int 1)))) fA0))))
def m_timed : List D → Res D := runF 2 .sh F_timed
def F_Table_total : FS := (fRet (fOn (chk 1 m_fraction_sum) (fA (fOn (chk 1 m_line_sums) (fA (f1 (dFld "Table" "rows") (fV 0)) fA0)) fA0)))
def m_Table_total : List D → Res D := runF 1 .sh F_Table_total
def F_Table_row_sums : FS := (fRet (fOn (chk 1 m_line_sums) (fA (f1 (dFld "Table" "rows") (fV 0)) fA0)))
def m_Table_row_sums : List D → Res D := runF 1 .sh F_Table_row_sums
def F_turned_rows : FS := (fRet (fOn (on1 dTuple) (fA (fLc [1] (fR1 (fA (fOn (on1 dLen) (fA (fV 0) fA0)) fA0)) (gN 1) fYes (fOn (on1 dTuple) (fA (fLc [2] (fR1 (fA (fOn (on1 dLen) (fA (fV 0) fA0)) fA0)) (gN 2) fYes (f2 dIx (f2 dIx (fV 0) (fV 2)) (fV 1))) fA0))) fA0)))
def m_turned_rows : List D → Res D := runF 3 .sh F_turned_rows
def F_Table_column_sums : FS := (fRet (fOn (chk 1 m_line_sums) (fA (fOn (chk 1 m_turned_rows) (fA (f1 (dFld "Table" "rows") (fV 0)) fA0)) fA0)))
def m_Table_column_sums : List D → Res D := runF 1 .sh F_Table_column_sums
def F_less : FS := (fRet (fOn (chk 2 m_ratio) (fA (f2 dSub (f2 dMul (f2 dIx (fV 0) (fC (.int 0))) (f2 dIx (fV 1) (fC (.int 1)))) (f2 dMul (f2 dIx (fV 1) (fC (.int 0))) (f2 dIx (fV 0) (fC (.int 1))))) (fA (f2 dMul (f2 dIx (fV 0) (fC (.int 1))) (f2 dIx (fV 1) (fC (.int 1)))) fA0))))
def m_less : List D → Res D := runF 2 .sh F_less
def F_law_total : FS := (fSeq (fSet 1 (fOn gTupD (fA (fC (.int 0)) (fA (fC (.int 1)) fA0))))
    (fSeq (fFor (fL (fV 0)) (gN 2) (fFgt [2, 3] (fFor (fL (fV 2)) (gN 3) (fFgt [3] (fSet 1 (fOn (chk 2 m_law_added) (fA (fV 1) (fA (fV 3) fA0))))))))
    (fRet (fV 1))))
def m_law_total : List D → Res D := runF 4 .sh F_law_total
def F_law_less : FS := (fRet (fOn (chk 2 m_law_added) (fA (fV 0) (fA (fOn gTupD (fA (f1 dNeg (f2 dIx (fV 1) (fC (.int 0)))) (fA (f2 dIx (fV 1) (fC (.int 1))) fA0))) fA0))))
def m_law_less : List D → Res D := runF 2 .sh F_law_less
def F_law_is_fraction : FS := (fSeq (fIfS (fOr (fNot (fTr (f1 (dIsi "tuple") (fV 0)))) (fB (f2 dNe (fOn (on1 dLen) (fA (fV 0) fA0)) (fC (.int 2))))) (fRet (fC (.bl false))) fNext)
    (fSeq (fIfS (fOr (fNot (fTr (fOn (chk 1 m_law_whole) (fA (f2 dIx (fV 0) (fC (.int 0))) fA0)))) (fOr (fNot (fTr (fOn (chk 1 m_law_whole) (fA (f2 dIx (fV 0) (fC (.int 1))) fA0)))) (fB (f2 dLt (f2 dIx (fV 0) (fC (.int 1))) (fC (.int 1)))))) (fRet (fC (.bl false))) fNext)
    (fRet (f2 dEq (fOn (chk 2 m_law_gcd) (fA (f2 dIx (fV 0) (fC (.int 0))) (fA (f2 dIx (fV 0) (fC (.int 1))) fA0))) (fC (.int 1))))))
def m_law_is_fraction : List D → Res D := runF 1 .sh F_law_is_fraction
def F_law_timed : FS := (fRet (fOn (chk 2 m_law_fraction) (fA (f2 dMul (f2 dIx (fV 0) (fC (.int 0))) (f2 dIx (fV 1) (fC (.int 0)))) (fA (f2 dMul (f2 dIx (fV 0) (fC (.int 1))) (f2 dIx (fV 1) (fC (.int 1)))) fA0))))
def m_law_timed : List D → Res D := runF 2 .sh F_law_timed
def F_law_break : FS := (fSeq (fSet 1 (fOn (on1 dLen) (fA (fV 0) fA0)))
    (fSeq (fFor (fR1 (fA (fV 1) fA0)) (gN 2) (fFgt [2, 3, 4, 5] (fFor (fR2 (fA (f2 dAdd (fV 2) (fC (.int 1))) (fA (fV 1) fA0))) (gN 3) (fFgt [3, 4, 5] (fFor (fR1 (fA (fV 1) fA0)) (gN 4) (fFgt [4, 5] (fFor (fR2 (fA (f2 dAdd (fV 4) (fC (.int 1))) (fA (fV 1) fA0))) (gN 5) (fFgt [5] (fIfS (fB (f2 dNe (fOn (chk 2 m_law_added) (fA (f2 dIx (f2 dIx (fV 0) (fV 2)) (fV 4)) (fA (f2 dIx (f2 dIx (fV 0) (fV 3)) (fV 5)) fA0))) (fOn (chk 2 m_law_added) (fA (f2 dIx (f2 dIx (fV 0) (fV 2)) (fV 5)) (fA (f2 dIx (f2 dIx (fV 0) (fV 3)) (fV 4)) fA0))))) (fRet (fOn gTupD (fA (fV 2) (fA (fV 3) (fA (fV 4) (fA (fV 5) fA0)))))) fNext)))))))))
    (fRet (fC .non))))
def m_law_break : List D → Res D := runF 6 .sh F_law_break
/-! less_piiq_piiq -/
def N_less_piiq_piiq (a0 : (Int × Int)) (a1 : (Int × Int)) : Res (Int × Int) :=
  (((mulR a0.1 a1.2).bind fun x1 => ((mulR a1.1 a0.2).bind fun x2 => (Res.ok (x1 - x2)))).bind fun x3 => ((mulR a0.2 a1.2).bind fun x4 => (N_ratio_i_i x3 x4)))
theorem n_less_piiq_piiq (a0 : (Int × Int)) (a1 : (Int × Int)) : Rf (m_less [(eP2 D.int D.int) a0, (eP2 D.int D.int) a1]) (N_less_piiq_piiq a0 a1) (eP2 D.int D.int) :=
  n_runF ((t_end (t_retF (q_on (a_i (q_f2 (b_i (q_f2 (b_p rfl (b_p rfl op_mul))) fun x1 => (b_i (q_f2 (b_p rfl (b_p rfl op_mul))) fun x2 => (rf_ok rfl)))) fun x3 => (a_i (q_f2 (b_p rfl (b_p rfl op_mul))) fun x4 => (a_0 (rf_chk (n_ratio_i_i x3 x4) rfl))))))))
/-! timed_piiq_piiq -/
def N_timed_piiq_piiq (a0 : (Int × Int)) (a1 : (Int × Int)) : Res (Int × Int) :=
  ((mulR a0.1 a1.1).bind fun x1 => ((mulR a0.2 a1.2).bind fun x2 => (N_ratio_i_i x1 x2)))
theorem n_timed_piiq_piiq (a0 : (Int × Int)) (a1 : (Int × Int)) : Rf (m_timed [(eP2 D.int D.int) a0, (eP2 D.int D.int) a1]) (N_timed_piiq_piiq a0 a1) (eP2 D.int D.int) :=
  n_runF ((t_end (t_retF (q_on (a_i (q_f2 (b_p rfl (b_p rfl op_mul))) fun x1 => (a_i (q_f2 (b_p rfl (b_p rfl op_mul))) fun x2 => (a_0 (rf_chk (n_ratio_i_i x1 x2) rfl))))))))
/-! law_less_piiq_piiq -/
def N_law_less_piiq_piiq (a0 : (Int × Int)) (a1 : (Int × Int)) : Res (Int × Int) :=
  (N_law_added_piiq_piiq a0 ((-a1.1), a1.2))
theorem n_law_less_piiq_piiq (a0 : (Int × Int)) (a1 : (Int × Int)) : Rf (m_law_less [(eP2 D.int D.int) a0, (eP2 D.int D.int) a1]) (N_law_less_piiq_piiq a0 a1) (eP2 D.int D.int) :=
  n_runF ((t_end (t_retF (q_on (a_p rfl (a_p rfl (a_0 (rf_chk (n_law_added_piiq_piiq a0 ((-a1.1), a1.2)) rfl))))))))
/-! law_timed_piiq_piiq -/
def N_law_timed_piiq_piiq (a0 : (Int × Int)) (a1 : (Int × Int)) : Res (Int × Int) :=
  ((mulR a0.1 a1.1).bind fun x1 => ((mulR a0.2 a1.2).bind fun x2 => (N_law_fraction_i_i x1 x2)))
theorem n_law_timed_piiq_piiq (a0 : (Int × Int)) (a1 : (Int × Int)) : Rf (m_law_timed [(eP2 D.int D.int) a0, (eP2 D.int D.int) a1]) (N_law_timed_piiq_piiq a0 a1) (eP2 D.int D.int) :=
  n_runF ((t_end (t_retF (q_on (a_i (q_f2 (b_p rfl (b_p rfl op_mul))) fun x1 => (a_i (q_f2 (b_p rfl (b_p rfl op_mul))) fun x2 => (a_0 (rf_chk (n_law_fraction_i_i x1 x2) rfl))))))))
/-! compare_piiq_hiiq -/
def N_law_part_piiq_i (a0 : (Int × Int)) (a1 : Int) : Res (Int × Int) :=
  ((mulR a0.2 a1).bind fun x1 => (N_law_fraction_i_i a0.1 x1))
theorem n_law_part_piiq_i (a0 : (Int × Int)) (a1 : Int) : Rf (m_law_part [(eP2 D.int D.int) a0, D.int a1]) (N_law_part_piiq_i a0 a1) (eP2 D.int D.int) :=
  n_runF ((t_end (t_retF (q_on (a_p rfl (a_i (q_f2 (b_p rfl (b_p rfl op_mul))) fun x1 => (a_0 (rf_chk (n_law_fraction_i_i a0.1 x1) rfl))))))))
/-! law_is_fraction_piiq -/
def N_law_is_fraction_piiq (a0 : (Int × Int)) : Res Bool :=
  (if (!decide (2 = 2)) = true then (Res.ok false) else
  (if (decide (a0.2 < 1)) = true then (Res.ok false) else
  ((N_law_gcd_i_i a0.1 a0.2).bind fun x1 => (Res.ok (decide (x1 = 1))))))
theorem n_law_is_fraction_piiq (a0 : (Int × Int)) : Rf (m_law_is_fraction [(eP2 D.int D.int) a0]) (N_law_is_fraction_piiq a0) D.bl :=
  n_runF ((t_if (evOrF (evNot (evTr (ev1 rfl (isi_of isTy_tuple_tup)) rfl)) (evB (ev2 rfl rfl (op_ne (e := D.int) (x := 2) (x' := 2))))) (t_retF (rf_ok (e := D.bl) rfl))
  (t_nextS (t_if (evOrF (evNot (evTr (evOn (evA rfl rfl) (ev_chk (n_law_whole_i a0.1) rfl)) rfl)) (evOrF (evNot (evTr (evOn (evA rfl rfl) (ev_chk (n_law_whole_i a0.2) rfl)) rfl)) rfl)) (t_retF (rf_ok (e := D.bl) rfl))
  (t_nextS (t_end (t_retF (q_f2 (b_i (q_on (a_p rfl (a_p rfl (a_0 (rf_chk (n_law_gcd_i_i a0.1 a0.2) rfl))))) fun x1 => (b_p rfl (rf_ok (op_eq (e := D.int) (x := x1) (x' := 1)))))))))))))
/-! added_hiiq_piiq -/
def N_law_break_llpiiq (a0 : (List (List (Int × Int)))) : Res (Option (Int × Int × Int × Int)) :=
  ((rngR (a0.length : Int)).bind fun x27 => ((forC (σ := Unit) (β := (Option (Int × Int × Int × Int))) (fun x1 x2 => ((rng2R (x2 + 1) (a0.length : Int)).bind fun x25 => ((forC (σ := Unit) (β := (Option (Int × Int × Int × Int))) (fun x3 x4 => ((rngR (a0.length : Int)).bind fun x23 => ((forC (σ := Unit) (β := (Option (Int × Int × Int × Int))) (fun x5 x6 => ((rng2R (x6 + 1) (a0.length : Int)).bind fun x21 => ((forC (σ := Unit) (β := (Option (Int × Int × Int × Int))) (fun x7 x8 => (((((ixR a0 x2).bind fun x9 => (ixR x9 x6)).bind fun x11 => (((ixR a0 x4).bind fun x10 => (ixR x10 x8)).bind fun x12 => (N_law_added_piiq_piiq x11 x12))).bind fun x17 => ((((ixR a0 x2).bind fun x13 => (ixR x13 x8)).bind fun x15 => (((ixR a0 x4).bind fun x14 => (ixR x14 x6)).bind fun x16 => (N_law_added_piiq_piiq x15 x16))).bind fun x18 => (Res.ok (!decide (x17 = x18))))).bind fun x19 => if x19 = true then Res.ok (.ret (some (x2, x4, x6, x8))) else
  Res.ok (.go ()))) x21 ()).bind (ctlK (fun x20 => Res.ok (.go ())) (fun v => Ctl.ret v))))) x23 ()).bind (ctlK (fun x22 => Res.ok (.go ())) (fun v => Ctl.ret v))))) x25 ()).bind (ctlK (fun x24 => Res.ok (.go ())) (fun v => Ctl.ret v))))) x27 ()).bind (ctlK (fun x26 => (Res.ok none)) (fun v => v))))
theorem n_law_break_llpiiq (a0 : (List (List (Int × Int)))) : Rf (m_law_break [(eL (eL (eP2 D.int D.int))) a0]) (N_law_break_llpiiq a0) (eO (eP4 D.int D.int D.int D.int)) :=
  n_runF ((t_seqp [some ((eL (eL (eP2 D.int D.int))) a0), some (D.int (a0.length : Int)), none, none, none, none] (set_p (evOn (evA rfl rfl) op_lenL) rfl) (t_forC (ex := D.int) (e := (eO (eP4 D.int D.int D.int D.int))) (s0 := ()) (rk := (fun v => v)) fin_F (q_R1 (a_p rfl (a_0 k_R1))) (fun x1 : Unit => [some ((eL (eL (eP2 D.int D.int))) a0), some (D.int (a0.length : Int)), none, none, none, none]) (fun (x1 : Unit) (x2 : Int) => [some ((eL (eL (eP2 D.int D.int))) a0), some (D.int (a0.length : Int)), some (D.int x2), none, none, none]) rfl (fun _ _ => rfl) (fun x1 x2 =>
  (t_forC (ex := D.int) (e := (eO (eP4 D.int D.int D.int D.int))) (s0 := ()) (rk := (fun v => Ctl.ret v)) fin_L (q_R2 (a_p rfl (a_p rfl (a_0 k_R2)))) (fun x3 : Unit => [some ((eL (eL (eP2 D.int D.int))) a0), some (D.int (a0.length : Int)), some (D.int x2), none, none, none]) (fun (x3 : Unit) (x4 : Int) => [some ((eL (eL (eP2 D.int D.int))) a0), some (D.int (a0.length : Int)), some (D.int x2), some (D.int x4), none, none]) rfl (fun _ _ => rfl) (fun x3 x4 =>
  (t_forC (ex := D.int) (e := (eO (eP4 D.int D.int D.int D.int))) (s0 := ()) (rk := (fun v => Ctl.ret v)) fin_L (q_R1 (a_p rfl (a_0 k_R1))) (fun x5 : Unit => [some ((eL (eL (eP2 D.int D.int))) a0), some (D.int (a0.length : Int)), some (D.int x2), some (D.int x4), none, none]) (fun (x5 : Unit) (x6 : Int) => [some ((eL (eL (eP2 D.int D.int))) a0), some (D.int (a0.length : Int)), some (D.int x2), some (D.int x4), some (D.int x6), none]) rfl (fun _ _ => rfl) (fun x5 x6 =>
  (t_forC (ex := D.int) (e := (eO (eP4 D.int D.int D.int D.int))) (s0 := ()) (rk := (fun v => Ctl.ret v)) fin_L (q_R2 (a_p rfl (a_p rfl (a_0 k_R2)))) (fun x7 : Unit => [some ((eL (eL (eP2 D.int D.int))) a0), some (D.int (a0.length : Int)), some (D.int x2), some (D.int x4), some (D.int x6), none]) (fun (x7 : Unit) (x8 : Int) => [some ((eL (eL (eP2 D.int D.int))) a0), some (D.int (a0.length : Int)), some (D.int x2), some (D.int x4), some (D.int x6), some (D.int x8)]) rfl (fun _ _ => rfl) (fun x7 x8 =>
  (t_ifI fin_L (q_B (b_iB (q_f2 (b_i (q_on (a_i (q_f2 (b_i (q_f2 (b_p rfl (b_p rfl op_ixL))) fun x9 => (b_p rfl op_ixL))) fun x11 => (a_i (q_f2 (b_i (q_f2 (b_p rfl (b_p rfl op_ixL))) fun x10 => (b_p rfl op_ixL))) fun x12 => (a_0 (rf_chk (n_law_added_piiq_piiq x11 x12) rfl))))) fun x17 => (b_i (q_on (a_i (q_f2 (b_i (q_f2 (b_p rfl (b_p rfl op_ixL))) fun x13 => (b_p rfl op_ixL))) fun x15 => (a_i (q_f2 (b_i (q_f2 (b_p rfl (b_p rfl op_ixL))) fun x14 => (b_p rfl op_ixL))) fun x16 => (a_0 (rf_chk (n_law_added_piiq_piiq x15 x16) rfl))))) fun x18 => (rf_ok (op_ne (e := (eP2 D.int D.int)) (x := x17) (x' := x18)))))))) (t_retp rfl rfl)
  (t_nextS (t_next rfl)))) (fun x20 =>
  (t_next rfl)) fun _ => rfl)) (fun x22 =>
  (t_next rfl)) fun _ => rfl)) (fun x24 =>
  (t_next rfl)) fun _ => rfl)) (fun x26 =>
  (t_end (t_retF (rf_ok (e := (eO (eP4 D.int D.int D.int D.int))) rfl)))) fun _ => rfl)))
/-! Table_row_sums_cTablettpiiqiq -/
def N_Table_row_sums_cTablettpiiqiq (a0 : ((List (List (Int × Int))) × Int)) : Res (List (Int × Int)) :=
  (N_line_sums_ttpiiq a0.1)
theorem n_Table_row_sums_cTablettpiiqiq (a0 : ((List (List (Int × Int))) × Int)) : Rf (m_Table_row_sums [(eOb2 "Table" "rows" "size" (eT (eT (eP2 D.int D.int))) D.int) a0]) (N_Table_row_sums_cTablettpiiqiq a0) (eT (eP2 D.int D.int)) :=
  n_runF ((t_end (t_retF (q_on (a_p (ev1 rfl fld_hit) (a_0 (rf_chk (n_line_sums_ttpiiq a0.1) rfl)))))))
/-! turned_rows_ttpiiq -/
def N_turned_rows_ttpiiq (a0 : (List (List (Int × Int)))) : Res (List (List (Int × Int))) :=
  (((rngR (a0.length : Int)).bind fun x6 => lcR x6 (fun x1 => Res.ok true) (fun x1 => (((rngR (a0.length : Int)).bind fun x4 => lcR x4 (fun x2 => Res.ok true) (fun x2 => ((ixR a0 x2).bind fun x3 => (ixR x3 x1)))).bind fun x5 => (Res.ok x5)))).bind fun x7 => (Res.ok x7))
theorem n_turned_rows_ttpiiq (a0 : (List (List (Int × Int)))) : Rf (m_turned_rows [(eT (eT (eP2 D.int D.int))) a0]) (N_turned_rows_ttpiiq a0) (eT (eT (eP2 D.int D.int))) :=
  n_runF ((t_end (t_retF (q_on (a_i (rf_lc (q_R1 (a_p (evOn (evA rfl rfl) op_lenT) (a_0 k_R1))) (fun x1 : Int => [some ((eT (eT (eP2 D.int D.int))) a0), some (D.int x1), none]) (fun _ => rfl) (fun x1 => (rf_ok (v := true) rfl)) (fun x1 => (q_on (a_i (rf_lc (q_R1 (a_p (evOn (evA rfl rfl) op_lenT) (a_0 k_R1))) (fun x2 : Int => [some ((eT (eT (eP2 D.int D.int))) a0), some (D.int x1), some (D.int x2)]) (fun _ => rfl) (fun x2 => (rf_ok (v := true) rfl)) (fun x2 => (q_f2 (b_i (q_f2 (b_p rfl (b_p rfl op_ixT))) fun x3 => (b_p rfl op_ixT))))) fun x5 => (a_0 (rf_ok rfl)))))) fun x7 => (a_0 (rf_ok rfl)))))))
/-! Table_column_sums_cTablettpiiqiq -/
def N_Table_column_sums_cTablettpiiqiq (a0 : ((List (List (Int × Int))) × Int)) : Res (List (Int × Int)) :=
  ((N_turned_rows_ttpiiq a0.1).bind fun x1 => (N_line_sums_ttpiiq x1))
theorem n_Table_column_sums_cTablettpiiqiq (a0 : ((List (List (Int × Int))) × Int)) : Rf (m_Table_column_sums [(eOb2 "Table" "rows" "size" (eT (eT (eP2 D.int D.int))) D.int) a0]) (N_Table_column_sums_cTablettpiiqiq a0) (eT (eP2 D.int D.int)) :=
  n_runF ((t_end (t_retF (q_on (a_i (q_on (a_p (ev1 rfl fld_hit) (a_0 (rf_chk (n_turned_rows_ttpiiq a0.1) rfl)))) fun x1 => (a_0 (rf_chk (n_line_sums_ttpiiq x1) rfl)))))))
/-! Table_total_cTablettpiiqiq -/
def N_Table_total_cTablettpiiqiq (a0 : ((List (List (Int × Int))) × Int)) : Res (Int × Int) :=
  ((N_line_sums_ttpiiq a0.1).bind fun x1 => (N_fraction_sum_tpiiq x1))
theorem n_Table_total_cTablettpiiqiq (a0 : ((List (List (Int × Int))) × Int)) : Rf (m_Table_total [(eOb2 "Table" "rows" "size" (eT (eT (eP2 D.int D.int))) D.int) a0]) (N_Table_total_cTablettpiiqiq a0) (eP2 D.int D.int) :=
  n_runF ((t_end (t_retF (q_on (a_i (q_on (a_p (ev1 rfl fld_hit) (a_0 (rf_chk (n_line_sums_ttpiiq a0.1) rfl)))) fun x1 => (a_0 (rf_chk (n_fraction_sum_tpiiq x1) rfl)))))))
/-! law_total_llpiiq -/
def N_law_total_llpiiq (a0 : (List (List (Int × Int)))) : Res (Int × Int) :=
  ((forR (σ := (Int × Int)) (fun x1 x2 => ((forR (σ := (Int × Int)) (fun x3 x4 => ((N_law_added_piiq_piiq x3 x4).bind fun x5 =>
  Res.ok x5)) x2 x1).bind fun x6 =>
  Res.ok x6)) a0 (0, 1)).bind fun x7 =>
  (Res.ok x7))
theorem n_law_total_llpiiq (a0 : (List (List (Int × Int)))) : Rf (m_law_total [(eL (eL (eP2 D.int D.int))) a0]) (N_law_total_llpiiq a0) (eP2 D.int D.int) :=
  n_runF ((t_seqp [some ((eL (eL (eP2 D.int D.int))) a0), some ((eP2 D.int D.int) (0, 1)), none, none] (set_p rfl rfl) (t_seq fin_F (fun x7 : (Int × Int) => [some ((eL (eL (eP2 D.int D.int))) a0), some ((eP2 D.int D.int) x7), none, none]) (s_forp (ex := (eL (eP2 D.int D.int))) (s0 := (0, 1)) (it_L (e := (eL (eP2 D.int D.int))) (xs := a0) rfl) (fun x1 : (Int × Int) => [some ((eL (eL (eP2 D.int D.int))) a0), some ((eP2 D.int D.int) x1), none, none]) (fun (x1 : (Int × Int)) (x2 : (List (Int × Int))) => [some ((eL (eL (eP2 D.int D.int))) a0), some ((eP2 D.int D.int) x1), some ((eL (eP2 D.int D.int)) x2), none]) rfl (fun _ _ => rfl) fun x1 x2 =>
  (t_seq fin_L (fun x6 : (Int × Int) => [some ((eL (eL (eP2 D.int D.int))) a0), some ((eP2 D.int D.int) x6), some ((eL (eP2 D.int D.int)) x2), none]) (s_forp (ex := (eP2 D.int D.int)) (s0 := x1) (it_L (e := (eP2 D.int D.int)) (xs := x2) rfl) (fun x3 : (Int × Int) => [some ((eL (eL (eP2 D.int D.int))) a0), some ((eP2 D.int D.int) x3), some ((eL (eP2 D.int D.int)) x2), none]) (fun (x3 : (Int × Int)) (x4 : (Int × Int)) => [some ((eL (eL (eP2 D.int D.int))) a0), some ((eP2 D.int D.int) x3), some ((eL (eP2 D.int D.int)) x2), some ((eP2 D.int D.int) x4)]) rfl (fun _ _ => rfl) fun x3 x4 =>
  (t_seq fin_L (fun x5 : (Int × Int) => [some ((eL (eL (eP2 D.int D.int))) a0), some ((eP2 D.int D.int) x5), some ((eL (eP2 D.int D.int)) x2), some ((eP2 D.int D.int) x4)]) (s_set (e := (eP2 D.int D.int)) _ (q_on (a_p rfl (a_p rfl (a_0 (rf_chk (n_law_added_piiq_piiq x3 x4) rfl))))) fun _ => rfl) fun x5 =>
  (t_next rfl))) fun x6 =>
  (t_next rfl))) fun x7 =>
  (t_end (t_retF (rf_ok (e := (eP2 D.int D.int)) rfl))))))
/-! law_same_tpiiq_lpiiq -/
def N_law_same_tpiiq_lpiiq (a0 : (List (Int × Int))) (a1 : (List (Int × Int))) : Res Bool :=
  (if (!decide ((a0.length : Int) = (a1.length : Int))) = true then (Res.ok false) else
  ((rngR (a1.length : Int)).bind fun x8 => ((forC (σ := Unit) (β := Bool) (fun x1 x2 => ((((ixR a0 x2).bind fun x3 => ((ixR a1 x2).bind fun x4 => (N_law_same_piiq_piiq x3 x4))).bind fun x5 => Res.ok (!x5)).bind fun x6 => if x6 = true then Res.ok (.ret false) else
  Res.ok (.go ()))) x8 ()).bind (ctlK (fun x7 => (Res.ok true)) (fun v => v)))))
theorem nr_law_same_tpiiq_lpiiq (n : Nat) (a0 : (List (Int × Int))) (a1 : (List (Int × Int))) : Rf (r_law_same (n + 3) [(eT (eP2 D.int D.int)) a0, (eL (eP2 D.int D.int)) a1]) (N_law_same_tpiiq_lpiiq a0 a1) D.bl :=
  n_runF ((t_ifT (evOrF (evTr (ev1 rfl (isi_of isTy_tuple_lst)) rfl) (evTr (ev1 rfl (isi_of isTy_list_lst)) rfl)) (t_assoc (t_if (evOrF (evNot (evTr (ev1 rfl (isi_of isTy_tuple_tup)) rfl)) (evB (ev2 (evOn (evA rfl rfl) op_lenT) (evOn (evA rfl rfl) op_lenL) (op_ne (e := D.int) (x := (a0.length : Int)) (x' := (a1.length : Int)))))) (t_retF (rf_ok (e := D.bl) rfl))
  (t_nextS (t_assoc (t_forC (ex := D.int) (e := D.bl) (s0 := ()) (rk := (fun v => v)) fin_F (q_R1 (a_p (evOn (evA rfl rfl) op_lenL) (a_0 k_R1))) (fun x1 : Unit => [some ((eT (eP2 D.int D.int)) a0), some ((eL (eP2 D.int D.int)) a1), none]) (fun (x1 : Unit) (x2 : Int) => [some ((eT (eP2 D.int D.int)) a0), some ((eL (eP2 D.int D.int)) a1), some (D.int x2)]) rfl (fun _ _ => rfl) (fun x1 x2 =>
  (t_ifI fin_L (q_Not (b_i (q_Tr (b_iT (q_on (a_i (q_f2 (b_p rfl (b_p rfl op_ixT))) fun x3 => (a_i (q_f2 (b_p rfl (b_p rfl op_ixL))) fun x4 => (a_0 (rf_chk (nr_law_same_piiq_piiq (n + 0) x3 x4) rfl))))))) fun _ => rf_ok rfl)) (t_retp rfl rfl)
  (t_nextS (t_next rfl)))) (fun x7 =>
  (t_retF (rf_ok (e := D.bl) rfl))) fun _ => rfl)))))))
theorem n_law_same_tpiiq_lpiiq (a0 : (List (Int × Int))) (a1 : (List (Int × Int))) : Rf (m_law_same [(eT (eP2 D.int D.int)) a0, (eL (eP2 D.int D.int)) a1]) (N_law_same_tpiiq_lpiiq a0 a1) D.bl := nr_law_same_tpiiq_lpiiq 3 a0 a1
/-! law_same_ttpiiq_llpiiq -/
def N_law_same_ttpiiq_llpiiq (a0 : (List (List (Int × Int)))) (a1 : (List (List (Int × Int)))) : Res Bool :=
  (if (!decide ((a0.length : Int) = (a1.length : Int))) = true then (Res.ok false) else
  ((rngR (a1.length : Int)).bind fun x8 => ((forC (σ := Unit) (β := Bool) (fun x1 x2 => ((((ixR a0 x2).bind fun x3 => ((ixR a1 x2).bind fun x4 => (N_law_same_tpiiq_lpiiq x3 x4))).bind fun x5 => Res.ok (!x5)).bind fun x6 => if x6 = true then Res.ok (.ret false) else
  Res.ok (.go ()))) x8 ()).bind (ctlK (fun x7 => (Res.ok true)) (fun v => v)))))
theorem nr_law_same_ttpiiq_llpiiq (n : Nat) (a0 : (List (List (Int × Int)))) (a1 : (List (List (Int × Int)))) : Rf (r_law_same (n + 4) [(eT (eT (eP2 D.int D.int))) a0, (eL (eL (eP2 D.int D.int))) a1]) (N_law_same_ttpiiq_llpiiq a0 a1) D.bl :=
  n_runF ((t_ifT (evOrF (evTr (ev1 rfl (isi_of isTy_tuple_lst)) rfl) (evTr (ev1 rfl (isi_of isTy_list_lst)) rfl)) (t_assoc (t_if (evOrF (evNot (evTr (ev1 rfl (isi_of isTy_tuple_tup)) rfl)) (evB (ev2 (evOn (evA rfl rfl) op_lenT) (evOn (evA rfl rfl) op_lenL) (op_ne (e := D.int) (x := (a0.length : Int)) (x' := (a1.length : Int)))))) (t_retF (rf_ok (e := D.bl) rfl))
  (t_nextS (t_assoc (t_forC (ex := D.int) (e := D.bl) (s0 := ()) (rk := (fun v => v)) fin_F (q_R1 (a_p (evOn (evA rfl rfl) op_lenL) (a_0 k_R1))) (fun x1 : Unit => [some ((eT (eT (eP2 D.int D.int))) a0), some ((eL (eL (eP2 D.int D.int))) a1), none]) (fun (x1 : Unit) (x2 : Int) => [some ((eT (eT (eP2 D.int D.int))) a0), some ((eL (eL (eP2 D.int D.int))) a1), some (D.int x2)]) rfl (fun _ _ => rfl) (fun x1 x2 =>
  (t_ifI fin_L (q_Not (b_i (q_Tr (b_iT (q_on (a_i (q_f2 (b_p rfl (b_p rfl op_ixT))) fun x3 => (a_i (q_f2 (b_p rfl (b_p rfl op_ixL))) fun x4 => (a_0 (rf_chk (nr_law_same_tpiiq_lpiiq (n + 0) x3 x4) rfl))))))) fun _ => rf_ok rfl)) (t_retp rfl rfl)
  (t_nextS (t_next rfl)))) (fun x7 =>
  (t_retF (rf_ok (e := D.bl) rfl))) fun _ => rfl)))))))
theorem n_law_same_ttpiiq_llpiiq (a0 : (List (List (Int × Int)))) (a1 : (List (List (Int × Int)))) : Rf (m_law_same [(eT (eT (eP2 D.int D.int))) a0, (eL (eL (eP2 D.int D.int))) a1]) (N_law_same_ttpiiq_llpiiq a0 a1) D.bl := nr_law_same_ttpiiq_llpiiq 2 a0 a1
/-! law_split_rows_i_li -/
def N_law_split_rows_i_li (a0 : Int) (a1 : (List Int)) : Res (List (List (Int × Int))) :=
  (((rngR a0).bind fun x28 => (forR (σ := (List (List (Int × Int)))) (fun x1 x2 => (((rngR a0).bind fun x25 => (forR (σ := (List (Int × Int))) (fun x3 x4 => ((((((mulR 2 x2).bind fun x5 => (Res.ok (1 + x5))).bind fun x6 => (ixR a1 x6)).bind fun x7 => (Res.ok (x7 - 12))).bind fun x11 => (((((mulR 2 x2).bind fun x8 => (Res.ok (2 + x8))).bind fun x9 => (ixR a1 x9)).bind fun x10 => (ixR [1, 1, 1, 2, 3, 4, 6, 1, 5] x10)).bind fun x12 => (N_law_fraction_i_i x11 x12))).bind fun x13 =>
  (((((mulR a0 (a0 - 1)).bind fun x14 => (Res.ok (x14 + x4))).bind fun x15 => (mulR 2 x15)).bind fun x16 => (Res.ok (1 + x16))).bind fun x17 =>
  ((((ixR a1 x17).bind fun x18 => (Res.ok (x18 - 20))).bind fun x20 => (((ixR a1 (x17 + 1)).bind fun x19 => (ixR [1, 1, 1, 2, 3, 4, 6, 1, 5] x19)).bind fun x21 => (N_law_fraction_i_i x20 x21))).bind fun x22 =>
  (((N_law_added_piiq_piiq x13 x22).bind fun x23 => appR x3 x23).bind fun x24 =>
  Res.ok x24))))) x25 [])).bind fun x26 =>
  ((appR x1 x26).bind fun x27 =>
  Res.ok x27))) x28 [])).bind fun x29 =>
  (Res.ok x29))
theorem n_law_split_rows_i_li (a0 : Int) (a1 : (List Int)) : Rf (m_law_split_rows [D.int a0, (eL D.int) a1]) (N_law_split_rows_i_li a0 a1) (eL (eL (eP2 D.int D.int))) :=
  n_runF ((t_seqp [some (D.int a0), some ((eL D.int) a1), some ((eL (eL (eP2 D.int D.int))) []), none, none, none, none, none, none] (set_p rfl rfl) (t_seq fin_F (fun x29 : (List (List (Int × Int))) => [some (D.int a0), some ((eL D.int) a1), some ((eL (eL (eP2 D.int D.int))) x29), none, none, none, none, none, none]) (s_for (ex := D.int) (s0 := []) (q_R1 (a_p rfl (a_0 k_R1))) (fun x1 : (List (List (Int × Int))) => [some (D.int a0), some ((eL D.int) a1), some ((eL (eL (eP2 D.int D.int))) x1), none, none, none, none, none, none]) (fun (x1 : (List (List (Int × Int)))) (x2 : Int) => [some (D.int a0), some ((eL D.int) a1), some ((eL (eL (eP2 D.int D.int))) x1), some (D.int x2), none, none, none, none, none]) rfl (fun _ _ => rfl) fun x1 x2 =>
  (t_assoc (t_seqp [some (D.int a0), some ((eL D.int) a1), some ((eL (eL (eP2 D.int D.int))) x1), some (D.int x2), some ((eL (eP2 D.int D.int)) []), none, none, none, none] (set_p rfl rfl) (t_assoc (t_seq fin_L (fun x26 : (List (Int × Int)) => [some (D.int a0), some ((eL D.int) a1), some ((eL (eL (eP2 D.int D.int))) x1), some (D.int x2), some ((eL (eP2 D.int D.int)) x26), none, none, none, none]) (s_for (ex := D.int) (s0 := []) (q_R1 (a_p rfl (a_0 k_R1))) (fun x3 : (List (Int × Int)) => [some (D.int a0), some ((eL D.int) a1), some ((eL (eL (eP2 D.int D.int))) x1), some (D.int x2), some ((eL (eP2 D.int D.int)) x3), none, none, none, none]) (fun (x3 : (List (Int × Int))) (x4 : Int) => [some (D.int a0), some ((eL D.int) a1), some ((eL (eL (eP2 D.int D.int))) x1), some (D.int x2), some ((eL (eP2 D.int D.int)) x3), some (D.int x4), none, none, none]) rfl (fun _ _ => rfl) fun x3 x4 =>
  (t_assoc (t_seq fin_L (fun x13 : (Int × Int) => [some (D.int a0), some ((eL D.int) a1), some ((eL (eL (eP2 D.int D.int))) x1), some (D.int x2), some ((eL (eP2 D.int D.int)) x3), some (D.int x4), some ((eP2 D.int D.int) x13), none, none]) (s_set (e := (eP2 D.int D.int)) _ (q_on (a_i (q_f2 (b_i (q_f2 (b_p rfl (b_i (q_f2 (b_p rfl (b_i (q_f2 (b_p rfl (b_p rfl op_mul))) fun x5 => (rf_ok rfl)))) fun x6 => op_ixL))) fun x7 => (b_p rfl (rf_ok rfl)))) fun x11 => (a_i (q_f2 (b_p rfl (b_i (q_f2 (b_p rfl (b_i (q_f2 (b_p rfl (b_i (q_f2 (b_p rfl (b_p rfl op_mul))) fun x8 => (rf_ok rfl)))) fun x9 => op_ixL))) fun x10 => op_ixL))) fun x12 => (a_0 (rf_chk (n_law_fraction_i_i x11 x12) rfl))))) fun _ => rfl) fun x13 =>
  (t_assoc (t_seq fin_L (fun x17 : Int => [some (D.int a0), some ((eL D.int) a1), some ((eL (eL (eP2 D.int D.int))) x1), some (D.int x2), some ((eL (eP2 D.int D.int)) x3), some (D.int x4), some ((eP2 D.int D.int) x13), some (D.int x17), none]) (s_set (e := D.int) _ (q_f2 (b_p rfl (b_i (q_f2 (b_p rfl (b_i (q_f2 (b_i (q_f2 (b_p rfl (b_p rfl op_mul))) fun x14 => (b_p rfl (rf_ok rfl)))) fun x15 => op_mul))) fun x16 => (rf_ok rfl)))) fun _ => rfl) fun x17 =>
  (t_assoc (t_seq fin_L (fun x22 : (Int × Int) => [some (D.int a0), some ((eL D.int) a1), some ((eL (eL (eP2 D.int D.int))) x1), some (D.int x2), some ((eL (eP2 D.int D.int)) x3), some (D.int x4), some ((eP2 D.int D.int) x13), some (D.int x17), some ((eP2 D.int D.int) x22)]) (s_set (e := (eP2 D.int D.int)) _ (q_on (a_i (q_f2 (b_i (q_f2 (b_p rfl (b_p rfl op_ixL))) fun x18 => (b_p rfl (rf_ok rfl)))) fun x20 => (a_i (q_f2 (b_p rfl (b_i (q_f2 (b_p rfl (b_p rfl op_ixL))) fun x19 => op_ixL))) fun x21 => (a_0 (rf_chk (n_law_fraction_i_i x20 x21) rfl))))) fun _ => rfl) fun x22 =>
  (t_seq fin_L (fun x24 : (List (Int × Int)) => [some (D.int a0), some ((eL D.int) a1), some ((eL (eL (eP2 D.int D.int))) x1), some (D.int x2), some ((eL (eP2 D.int D.int)) x24), some (D.int x4), some ((eP2 D.int D.int) x13), some (D.int x17), some ((eP2 D.int D.int) x22)]) (s_appI (e := (eP2 D.int D.int)) (xs := x3) (fun ys : (List (Int × Int)) => [some (D.int a0), some ((eL D.int) a1), some ((eL (eL (eP2 D.int D.int))) x1), some (D.int x2), some ((eL (eP2 D.int D.int)) ys), some (D.int x4), some ((eP2 D.int D.int) x13), some (D.int x17), some ((eP2 D.int D.int) x22)]) rfl (q_on (a_p rfl (a_p rfl (a_0 (rf_chk (n_law_added_piiq_piiq x13 x22) rfl))))) fun _ => rfl) fun x24 =>
  (t_next rfl))))))))) fun x26 =>
  (t_seq fin_L (fun x27 : (List (List (Int × Int))) => [some (D.int a0), some ((eL D.int) a1), some ((eL (eL (eP2 D.int D.int))) x27), some (D.int x2), some ((eL (eP2 D.int D.int)) x26), none, none, none, none]) (s_app (e := (eL (eP2 D.int D.int))) (xs := x1) (d := x26) (fun ys : (List (List (Int × Int))) => [some (D.int a0), some ((eL D.int) a1), some ((eL (eL (eP2 D.int D.int))) ys), some (D.int x2), some ((eL (eP2 D.int D.int)) x26), none, none, none, none]) rfl rfl fun _ => rfl) fun x27 =>
  (t_next rfl))))))) fun x29 =>
  (t_end (t_retF (rf_ok (e := (eL (eL (eP2 D.int D.int)))) rfl))))))
end Kx
namespace Kx
open PySem PySem.Spec L2 Da
abbrev al_BadCount : List (Str × Bool) := [("ZeroBottom", false)]
abbrev al_BadLot : List (Str × Bool) := [("ZeroBottom", false)]
abbrev al_BadSize : List (Str × Bool) := [("ZeroBottom", false)]
abbrev al_BadTable : List (Str × Bool) := [("ZeroBottom", false)]
abbrev al_BookError : List (Str × Bool) := [("ZeroBottom", true)]
abbrev al_SizesDiffer : List (Str × Bool) := [("ZeroBottom", false)]
abbrev al_ValueError : List (Str × Bool) := [("ZeroBottom", true)]
abbrev al_ZeroBottom : List (Str × Bool) := [("ZeroBottom", true)]
def F_law_odd : FS := (fSeq (fSet 1 (fOn gLstD (fA (fOn gTupD (fA (fC (.int 2)) (fA (fC (.int 4)) fA0))) (fA (fOn gTupD (fA (fC (.int 1)) (fA (fC (.int 0)) fA0))) (fA (fOn gTupD (fA (fC (.int 0)) (fA (fC (.int 0)) fA0))) (fA (fOn gTupD (fA (fC (.int 1)) (fA (f1 dNeg (fC (.int 2))) fA0))) (fA (fOn gTupD (fA (fC (.int 0)) (fA (f1 dNeg (fC (.int 1))) fA0))) (fA (fOn gLstD (fA (fC (.int 1)) (fA (fC (.int 2)) fA0))) (fA (fOn gLstD (fA (fC (.int 0)) (fA (fC (.int 1)) fA0))) (fA (fOn gTupD (fA (fC (.bl true)) (fA (fC (.int 1)) fA0))) (fA (fOn gTupD (fA (fC (.int 1)) (fA (fC (.bl true)) fA0))) (fA (fOn gTupD (fA (fC (.bl false)) (fA (fC (.int 1)) fA0))) (fA (fC (.int 5)) (fA (fC (.int 0)) (fA (fC .non) (fA (fOn gTupD (fA (fC (.int 1)) (fA (fC (.int 2)) (fA (fC (.int 3)) fA0)))) (fA (fOn gTupD (fA (fC (.int 1)) fA0)) (fA (fC (.str (Str.ofString "1/2"))) (fA (fC (.str (Str.ofString "12"))) (fA (fOn gTupD fA0) (fA (fOn gLstD fA0) (fA (fC (.str (Str.ofString ""))) fA0))))))))))))))))))))))
    (fSeq (fSet 1 (f2 dAddL (fV 1) (fOn gLstD (fA (fOn gTupD (fA (fC (.int 0)) (fA (fC (.int 2)) fA0))) (fA (fOn gTupD (fA (fOn gTupD (fA (fC (.int 1)) (fA (fC (.int 2)) fA0))) fA0)) (fA (fOn gTupD (fA (fC (.int 1)) (fA (fC .non) fA0))) (fA (fOn gTupD (fA (fC (.str (Str.ofString "1"))) (fA (fC (.int 2)) fA0))) (fA (fOn gTupD (fA (fOn gTupD (fA (fC (.int 1)) (fA (fC (.int 1)) fA0))) (fA (fC (.int 2)) fA0))) (fA (fOn gTupD (fA (fOn gLstD (fA (fC (.int 1)) fA0)) (fA (fC (.int 1)) fA0))) (fA (fOn gTupD (fA (fC (.int 1)) (fA (fOn gTupD (fA (fC (.int 2)) fA0)) fA0))) (fA (fC (.bl true)) (fA (fC (.bl false)) (fA (f2 dIx (f2 dIx (fV 0) (fC (.int 2))) (fC (.int 0))) (fA (fOn gLstD (fA (f2 dIx (f2 dIx (fV 0) (fC (.int 1))) (fC (.int 0))) (fA (f2 dIx (f2 dIx (fV 0) (fC (.int 1))) (fC (.int 1))) fA0))) fA0))))))))))))))
    (fSeq (fFor (fL (fV 0)) (gN 2) (fFgt [2] (fSeq (fApp 1 (fOn gTupD (fA (f2 dSub (fC (.int 0)) (f2 dIx (fV 2) (fC (.int 0)))) (fA (f2 dSub (fC (.int 0)) (f2 dIx (fV 2) (fC (.int 1)))) fA0))))
    (fFgt [] (fIfS (fAnd (fB (f2 dLt (fOn (on1 dAbs) (fA (f2 dIx (fV 2) (fC (.int 0))) fA0)) (f2 dPow (fC (.int 10)) (fC (.int 39))))) (fB (f2 dLt (f2 dIx (fV 2) (fC (.int 1))) (f2 dPow (fC (.int 10)) (fC (.int 39)))))) (fApp 1 (fOn gTupD (fA (f2 dMul (fC (.int 2)) (f2 dIx (fV 2) (fC (.int 0)))) (fA (f2 dMul (fC (.int 2)) (f2 dIx (fV 2) (fC (.int 1)))) fA0)))) fNext)))))
    (fRet (fV 1)))))
def m_law_odd : List D → Res D := runF 3 .ow F_law_odd
def F_law_number : FS := (fSeq (fSet 1 (f2 dAdd (f2 dAdd (f2 dMul (f2 dIx (fV 0) (fC (.int 3))) (f2 dPow (fC (.int 10)) (fC (.int 26)))) (f2 dMul (f2 dIx (fV 0) (fC (.int 5))) (f2 dPow (fC (.int 10)) (fC (.int 13))))) (f2 dIx (fV 0) (fC (.int 6)))))
    (fRet (f2 dIx (fOn gLstD (fA (f2 dSub (f2 dIx (fV 0) (fC (.int 0))) (fC (.int 4))) (fA (f2 dIx (fV 0) (fC (.int 1))) (fA (f2 dSub (f2 dIx (fV 0) (fC (.int 2))) (fC (.int 50))) (fA (fV 1) (fA (f2 dSub (fC (.int 0)) (fV 1)) (fA (fC (.int 0)) fA0))))))) (f2 dIx (fV 0) (fC (.int 4))))))
def m_law_number : List D → Res D := runF 2 .sh F_law_number
def F_over : FS := (fRet (fOn (chk 2 m_ratio) (fA (f2 dMul (f2 dIx (fV 0) (fC (.int 0))) (f2 dIx (fV 1) (fC (.int 1)))) (fA (f2 dMul (f2 dIx (fV 0) (fC (.int 1))) (f2 dIx (fV 1) (fC (.int 0)))) fA0))))
def m_over : List D → Res D := runF 2 .sh F_over
def F_law_no_bottom : FS := (fTry 4 2 al_BookError (fSeq (fFgt [] (fIfS (fB (f2 dEq (fV 0) (fC (.int 0)))) (fDrop (fOn (chk 2 m_ratio) (fA (f2 dIx (fV 1) (fC (.int 0))) (fA (fC (.int 0)) fA0)))) (fFgt [] (fIfS (fB (f2 dEq (fV 0) (fC (.int 1)))) (fDrop (fOn (chk 2 m_over) (fA (fV 1) (fA (fOn gTupD (fA (fC (.int 0)) (fA (fC (.int 1)) fA0))) fA0)))) (fDrop (fOn (chk 2 m_over) (fA (fOn (on1 dList) (fA (fV 1) fA0)) (fA (fOn gLstD (fA (fC (.int 0)) (fA (fC (.int 1)) fA0))) fA0))))))))
    (fRet (fC (.bl false)))) (fSeq (fSet 3 (fOn gLstD (fA (fIsE 2 al_BadLot) (fA (fIsE 2 al_BadSize) (fA (fIsE 2 al_BadTable) (fA (fIsE 2 al_SizesDiffer) (fA (fIsE 2 al_BadCount) fA0)))))))
    (fRet (fBv (fAnd (fB (fIsE 2 al_ZeroBottom)) (fAnd (fB (fIsE 2 al_ValueError)) (fB (fSc (f2 dNotIn (fC (.bl true)) (fV 3))))))))))
def m_law_no_bottom : List D → Res D := runF 4 .sh F_law_no_bottom
def F_is_fraction : FS := (fSeq (fIfS (fOr (fNot (fTr (f1 (dIsi "tuple") (fV 0)))) (fB (f2 dNe (fOn (on1 dLen) (fA (fV 0) fA0)) (fC (.int 2))))) (fRet (fC (.bl false))) fNext)
    (fSeq (fIfS (fOr (fNot (fTr (fOn (chk 1 m_is_number) (fA (f2 dIx (fV 0) (fC (.int 0))) fA0)))) (fNot (fTr (fOn (chk 1 m_is_number) (fA (f2 dIx (fV 0) (fC (.int 1))) fA0))))) (fRet (fC (.bl false))) fNext)
    (fRet (fBv (fAnd (fB (f2 dGe (f2 dIx (fV 0) (fC (.int 1))) (fC (.int 1)))) (fB (f2 dEq (fOn (on2 dGcd) (fA (f2 dIx (fV 0) (fC (.int 0))) (fA (f2 dIx (fV 0) (fC (.int 1))) fA0))) (fC (.int 1)))))))))
def m_is_fraction : List D → Res D := runF 1 .sh F_is_fraction
def F_law_difference : FS := (fRet (fOn (chk 2 m_law_added) (fA (fV 0) (fA (fOn gTupD (fA (f2 dSub (fC (.int 0)) (f2 dIx (fV 1) (fC (.int 0)))) (fA (f2 dIx (fV 1) (fC (.int 1))) fA0))) fA0))))
def m_law_difference : List D → Res D := runF 2 .sh F_law_difference
def F_compare : FS := (fSeq (fSet 2 (f2 dMul (f2 dIx (fV 0) (fC (.int 0))) (f2 dIx (fV 1) (fC (.int 1)))))
    (fSeq (fSet 3 (f2 dMul (f2 dIx (fV 1) (fC (.int 0))) (f2 dIx (fV 0) (fC (.int 1)))))
    (fSeq (fIfS (fB (f2 dLt (fV 2) (fV 3))) (fRet (f1 dNeg (fC (.int 1)))) fNext)
    (fSeq (fIfS (fB (f2 dGt (fV 2) (fV 3))) (fRet (fC (.int 1))) fNext)
    (fRet (fC (.int 0)))))))
def m_compare : List D → Res D := runF 4 .sh F_compare
def F_law : FS := (fSeq (fSet 1 (fOn gLstD fA0))
    (fSeq (fFor (fR1 (fA (fC (.int 8)) fA0)) (gN 2) (fFgt [2] (fApp 1 (fOn (chk 1 m_law_number) (fA (fOn (chk 2 m_law_digits) (fA (fOn (chk 2 m_law_cell) (fA (fV 0) (fA (fV 2) fA0))) (fA (fOn gLstD (fA (fC (.int 9)) (fA (fC (.int 13)) (fA (fC (.int 101)) (fA (f2 dPow (fC (.int 10)) (fC (.int 14))) (fA (fC (.int 6)) (fA (f2 dPow (fC (.int 10)) (fC (.int 13))) (fA (f2 dPow (fC (.int 10)) (fC (.int 13))) fA0)))))))) fA0))) fA0)))))
    (fSeq (fSet 3 (fOn gLstD fA0))
    (fSeq (fFor (fR1 (fA (fC (.int 4)) fA0)) (gN 2) (fFgt [2, 6, 10] (fSeq (fSet 6 (f2 dIx (fV 1) (f2 dAdd (f2 dMul (fC (.int 2)) (fV 2)) (fC (.int 1)))))
    (fSeq (fFgt [] (fIfS (fB (f2 dEq (fV 6) (fC (.int 0)))) (fSet 6 (fC (.int 7))) fNext))
    (fSeq (fSet 10 (fOn (chk 2 m_ratio) (fA (f2 dIx (fV 1) (f2 dMul (fC (.int 2)) (fV 2))) (fA (fV 6) fA0))))
    (fSeq (fIfS (fOr (fNot (fTr (fOn (chk 2 m_law_same) (fA (fV 10) (fA (fOn (chk 2 m_law_fraction) (fA (f2 dIx (fV 1) (f2 dMul (fC (.int 2)) (fV 2))) (fA (fV 6) fA0))) fA0))))) (fNot (fTr (fOn (chk 1 m_law_is_fraction) (fA (fV 10) fA0))))) (fRet (fC (.bl false))) fNext)
    (fSeq (fIfS (fB (f2 dNe (f2 dMul (f2 dIx (fV 10) (fC (.int 0))) (fV 6)) (f2 dMul (f2 dIx (fV 1) (f2 dMul (fC (.int 2)) (fV 2))) (f2 dIx (fV 10) (fC (.int 1)))))) (fRet (fC (.bl false))) fNext)
    (fApp 3 (fV 10)))))))))
    (fSeq (fSet 4 (f2 dAdd (fC (.int 1)) (f2 dMod (fOn (on1 dAbs) (fA (f2 dIx (fV 1) (fC (.int 6))) fA0)) (f2 dPow (fC (.int 10)) (fC (.int 13))))))
    (fSeq (fSet 5 (f2 dMul (f2 dMod (fOn (on1 dInt) (fA (f2 dIx (fV 1) (fC (.int 0))) fA0)) (f2 dPow (fC (.int 10)) (fC (.int 13)))) (fV 4)))
    (fSeq (fSet 6 (f2 dMul (f2 dAdd (fC (.int 1)) (f2 dMod (fOn (on1 dAbs) (fA (f2 dIx (fV 1) (fC (.int 1))) fA0)) (f2 dPow (fC (.int 10)) (fC (.int 13))))) (fV 4)))
    (fSeq (fIfS (fOr (fNot (fTr (fOn (chk 2 m_law_same) (fA (fOn (chk 2 m_ratio) (fA (fV 5) (fA (fV 6) fA0))) (fA (fOn (chk 2 m_law_fraction) (fA (fV 5) (fA (fV 6) fA0))) fA0))))) (fNot (fTr (fOn (chk 2 m_law_same) (fA (fOn (chk 2 m_ratio) (fA (fV 5) (fA (f1 dNeg (fV 6)) fA0))) (fA (fOn (chk 2 m_law_fraction) (fA (fV 5) (fA (f1 dNeg (fV 6)) fA0))) fA0)))))) (fRet (fC (.bl false))) fNext)
    (fSeq (fSet 3 (f2 dAddL (fV 3) (fOn gLstD (fA (fOn gTupD (fA (fC (.int 0)) (fA (fC (.int 1)) fA0))) (fA (f2 dIx (fV 3) (fC (.int 0))) fA0)))))
    (fSeq (fFor (fL (fV 3)) (gN 7) (fFgt [7, 11, 12] (fFor (fL (fV 3)) (gN 11) (fFgt [11, 12] (fSeq (fIfS (fNot (fTr (fOn (chk 2 m_law_same) (fA (fOn (chk 2 m_added) (fA (fOn (on1 dList) (fA (fV 7) fA0)) (fA (fV 11) fA0))) (fA (fOn (chk 2 m_law_added) (fA (fV 7) (fA (fV 11) fA0))) fA0))))) (fRet (fC (.bl false))) fNext)
    (fSeq (fIfS (fNot (fTr (fOn (chk 2 m_law_same) (fA (fOn (chk 2 m_less) (fA (fV 7) (fA (fOn (on1 dList) (fA (fV 11) fA0)) fA0))) (fA (fOn (chk 2 m_law_difference) (fA (fV 7) (fA (fV 11) fA0))) fA0))))) (fRet (fC (.bl false))) fNext)
    (fSeq (fIfS (fNot (fTr (fOn (chk 2 m_law_same) (fA (fOn (chk 2 m_timed) (fA (fOn (on1 dList) (fA (fV 7) fA0)) (fA (fOn (on1 dList) (fA (fV 11) fA0)) fA0))) (fA (fOn (chk 2 m_law_timed) (fA (fV 7) (fA (fV 11) fA0))) fA0))))) (fRet (fC (.bl false))) fNext)
    (fSeq (fSet 12 (f2 dSub (fOn (on1 dInt) (fA (f2 dGt (f2 dMul (f2 dIx (fV 7) (fC (.int 0))) (f2 dIx (fV 11) (fC (.int 1)))) (f2 dMul (f2 dIx (fV 11) (fC (.int 0))) (f2 dIx (fV 7) (fC (.int 1))))) fA0)) (fOn (on1 dInt) (fA (f2 dLt (f2 dMul (f2 dIx (fV 7) (fC (.int 0))) (f2 dIx (fV 11) (fC (.int 1)))) (f2 dMul (f2 dIx (fV 11) (fC (.int 0))) (f2 dIx (fV 7) (fC (.int 1))))) fA0))))
    (fSeq (fIfS (fNot (fTr (fOn (chk 2 m_law_same) (fA (fOn (chk 2 m_compare) (fA (fV 7) (fA (fOn (on1 dList) (fA (fV 11) fA0)) fA0))) (fA (fV 12) fA0))))) (fRet (fC (.bl false))) fNext)
    (fIfS (fAnd (fB (f2 dNe (f2 dIx (fV 11) (fC (.int 0))) (fC (.int 0)))) (fNot (fTr (fOn (chk 2 m_law_same) (fA (fOn (chk 2 m_over) (fA (fV 7) (fA (fV 11) fA0))) (fA (fOn (chk 2 m_law_fraction) (fA (f2 dMul (f2 dIx (fV 7) (fC (.int 0))) (f2 dIx (fV 11) (fC (.int 1)))) (fA (f2 dMul (f2 dIx (fV 7) (fC (.int 1))) (f2 dIx (fV 11) (fC (.int 0)))) fA0))) fA0)))))) (fRet (fC (.bl false))) fNext))))))))))
    (fSeq (fSet 8 (fOn gTupD (fA (fC (.int 0)) (fA (fC (.int 1)) fA0))))
    (fSeq (fFor (fR1 (fA (f2 dAdd (fOn (on1 dLen) (fA (fV 3) fA0)) (fC (.int 1))) fA0)) (gN 2) (fFgt [2] (fSeq (fIfS (fOr (fNot (fTr (fOn (chk 2 m_law_same) (fA (fOn (chk 1 m_fraction_sum) (fA (fLc [7] (fL (fCut dCut (fV 3) fNoI (fSoI (fV 2)))) (gN 7) fYes (fOn (on1 dList) (fA (fV 7) fA0))) fA0)) (fA (fV 8) fA0))))) (fNot (fTr (fOn (chk 2 m_law_same) (fA (fOn (chk 1 m_fraction_sum) (fA (fOn (on1 dTuple) (fA (fCut dCut (fV 3) fNoI (fSoI (fV 2))) fA0)) fA0)) (fA (fV 8) fA0)))))) (fRet (fC (.bl false))) fNext)
    (fFgt [] (fIfS (fB (f2 dLt (fV 2) (fOn (on1 dLen) (fA (fV 3) fA0)))) (fSet 8 (fOn (chk 2 m_law_added) (fA (fV 8) (fA (f2 dIx (fV 3) (fV 2)) fA0)))) fNext)))))
    (fSeq (fIfS (fOr (fNot (fTr (fOn (chk 2 m_law_no_bottom) (fA (fC (.int 0)) (fA (f2 dIx (fV 3) (fC (.int 1))) fA0))))) (fOr (fNot (fTr (fOn (chk 2 m_law_no_bottom) (fA (fC (.int 1)) (fA (f2 dIx (fV 3) (fC (.int 2))) fA0))))) (fOr (fNot (fTr (fOn (chk 2 m_law_no_bottom) (fA (fC (.int 2)) (fA (f2 dIx (fV 3) (fC (.int 4))) fA0))))) (fNot (fTr (fOn (chk 2 m_law_no_bottom) (fA (fC (.int 0)) (fA (f2 dIx (fV 3) (fC (.int 4))) fA0)))))))) (fRet (fC (.bl false))) fNext)
    (fSeq (fFor (fL (fOn (chk 1 m_law_odd) (fA (fV 3) fA0))) (gN 9) (fFgt [9] (fIfS (fB (f1 (dNot1 (dIsB false)) (fOn (chk 1 m_is_fraction) (fA (fV 9) fA0)))) (fRet (fC (.bl false))) fNext)))
    (fSeq (fFor (fL (fV 3)) (gN 7) (fFgt [7] (fIfS (fB (f1 (dNot1 (dIsB true)) (fOn (chk 1 m_is_fraction) (fA (fV 7) fA0)))) (fRet (fC (.bl false))) fNext)))
    (fRet (fC (.bl true))))))))))))))))))
def m_law : List D → Res D := runF 13 .sh F_law
/-! law_number_li -/
def N_law_number_li (a0 : (List Int)) : Res Int :=
  (((((ixR a0 3).bind fun x1 => ((powR 10 26).bind fun x2 => (mulR x1 x2))).bind fun x5 => (((ixR a0 5).bind fun x3 => ((powR 10 13).bind fun x4 => (mulR x3 x4))).bind fun x6 => (Res.ok (x5 + x6)))).bind fun x7 => ((ixR a0 6).bind fun x8 => (Res.ok (x7 + x8)))).bind fun x9 =>
  ((((ixR a0 0).bind fun x10 => (Res.ok (x10 - 4))).bind fun x12 => ((ixR a0 1).bind fun x13 => (((ixR a0 2).bind fun x11 => (Res.ok (x11 - 50))).bind fun x14 => (Res.ok [x12, x13, x14, x9, (0 - x9), 0])))).bind fun x15 => ((ixR a0 4).bind fun x16 => (ixR x15 x16))))
theorem n_law_number_li (a0 : (List Int)) : Rf (m_law_number [(eL D.int) a0]) (N_law_number_li a0) D.int :=
  n_runF ((t_seq fin_F (fun x9 : Int => [some ((eL D.int) a0), some (D.int x9)]) (s_set (e := D.int) _ (q_f2 (b_i (q_f2 (b_i (q_f2 (b_i (q_f2 (b_p rfl (b_p rfl op_ixL))) fun x1 => (b_i (q_f2 (b_p rfl (b_p rfl op_pow))) fun x2 => op_mul))) fun x5 => (b_i (q_f2 (b_i (q_f2 (b_p rfl (b_p rfl op_ixL))) fun x3 => (b_i (q_f2 (b_p rfl (b_p rfl op_pow))) fun x4 => op_mul))) fun x6 => (rf_ok rfl)))) fun x7 => (b_i (q_f2 (b_p rfl (b_p rfl op_ixL))) fun x8 => (rf_ok rfl)))) fun _ => rfl) fun x9 =>
  (t_end (t_retF (q_f2 (b_i (q_on (a_i (q_f2 (b_i (q_f2 (b_p rfl (b_p rfl op_ixL))) fun x10 => (b_p rfl (rf_ok rfl)))) fun x12 => (a_i (q_f2 (b_p rfl (b_p rfl op_ixL))) fun x13 => (a_i (q_f2 (b_i (q_f2 (b_p rfl (b_p rfl op_ixL))) fun x11 => (b_p rfl (rf_ok rfl)))) fun x14 => (a_p rfl (a_p rfl (a_p rfl (a_0 (rf_ok rfl))))))))) fun x15 => (b_i (q_f2 (b_p rfl (b_p rfl op_ixL))) fun x16 => op_ixL)))))))
/-! added_hiiq_piiq -/
def N_added_hiiq_piiq (a0 : (Int × Int)) (a1 : (Int × Int)) : Res (Int × Int) :=
  (((mulR a0.1 a1.2).bind fun x1 => ((mulR a1.1 a0.2).bind fun x2 => (Res.ok (x1 + x2)))).bind fun x3 => ((mulR a0.2 a1.2).bind fun x4 => (N_ratio_i_i x3 x4)))
theorem n_added_hiiq_piiq (a0 : (Int × Int)) (a1 : (Int × Int)) : Rf (m_added [(eH2 D.int D.int) a0, (eP2 D.int D.int) a1]) (N_added_hiiq_piiq a0 a1) (eP2 D.int D.int) :=
  n_runF ((t_end (t_retF (q_on (a_i (q_f2 (b_i (q_f2 (b_p rfl (b_p rfl op_mul))) fun x1 => (b_i (q_f2 (b_p rfl (b_p rfl op_mul))) fun x2 => (rf_ok rfl)))) fun x3 => (a_i (q_f2 (b_p rfl (b_p rfl op_mul))) fun x4 => (a_0 (rf_chk (n_ratio_i_i x3 x4) rfl))))))))
/-! less_piiq_hiiq -/
def N_less_piiq_hiiq (a0 : (Int × Int)) (a1 : (Int × Int)) : Res (Int × Int) :=
  (((mulR a0.1 a1.2).bind fun x1 => ((mulR a1.1 a0.2).bind fun x2 => (Res.ok (x1 - x2)))).bind fun x3 => ((mulR a0.2 a1.2).bind fun x4 => (N_ratio_i_i x3 x4)))
theorem n_less_piiq_hiiq (a0 : (Int × Int)) (a1 : (Int × Int)) : Rf (m_less [(eP2 D.int D.int) a0, (eH2 D.int D.int) a1]) (N_less_piiq_hiiq a0 a1) (eP2 D.int D.int) :=
  n_runF ((t_end (t_retF (q_on (a_i (q_f2 (b_i (q_f2 (b_p rfl (b_p rfl op_mul))) fun x1 => (b_i (q_f2 (b_p rfl (b_p rfl op_mul))) fun x2 => (rf_ok rfl)))) fun x3 => (a_i (q_f2 (b_p rfl (b_p rfl op_mul))) fun x4 => (a_0 (rf_chk (n_ratio_i_i x3 x4) rfl))))))))
/-! law_difference_piiq_piiq -/
def N_law_difference_piiq_piiq (a0 : (Int × Int)) (a1 : (Int × Int)) : Res (Int × Int) :=
  (N_law_added_piiq_piiq a0 ((0 - a1.1), a1.2))
theorem n_law_difference_piiq_piiq (a0 : (Int × Int)) (a1 : (Int × Int)) : Rf (m_law_difference [(eP2 D.int D.int) a0, (eP2 D.int D.int) a1]) (N_law_difference_piiq_piiq a0 a1) (eP2 D.int D.int) :=
  n_runF ((t_end (t_retF (q_on (a_p rfl (a_p rfl (a_0 (rf_chk (n_law_added_piiq_piiq a0 ((0 - a1.1), a1.2)) rfl))))))))
/-! timed_hiiq_hiiq -/
def N_timed_hiiq_hiiq (a0 : (Int × Int)) (a1 : (Int × Int)) : Res (Int × Int) :=
  ((mulR a0.1 a1.1).bind fun x1 => ((mulR a0.2 a1.2).bind fun x2 => (N_ratio_i_i x1 x2)))
theorem n_timed_hiiq_hiiq (a0 : (Int × Int)) (a1 : (Int × Int)) : Rf (m_timed [(eH2 D.int D.int) a0, (eH2 D.int D.int) a1]) (N_timed_hiiq_hiiq a0 a1) (eP2 D.int D.int) :=
  n_runF ((t_end (t_retF (q_on (a_i (q_f2 (b_p rfl (b_p rfl op_mul))) fun x1 => (a_i (q_f2 (b_p rfl (b_p rfl op_mul))) fun x2 => (a_0 (rf_chk (n_ratio_i_i x1 x2) rfl))))))))
/-! compare_piiq_hiiq -/
def N_compare_piiq_hiiq (a0 : (Int × Int)) (a1 : (Int × Int)) : Res Int :=
  ((mulR a0.1 a1.2).bind fun x1 =>
  ((mulR a1.1 a0.2).bind fun x2 =>
  (if (decide (x1 < x2)) = true then (Res.ok (-1)) else
  (if (decide (x2 < x1)) = true then (Res.ok 1) else
  (Res.ok 0)))))
theorem n_compare_piiq_hiiq (a0 : (Int × Int)) (a1 : (Int × Int)) : Rf (m_compare [(eP2 D.int D.int) a0, (eH2 D.int D.int) a1]) (N_compare_piiq_hiiq a0 a1) D.int :=
  n_runF ((t_seq fin_F (fun x1 : Int => [some ((eP2 D.int D.int) a0), some ((eH2 D.int D.int) a1), some (D.int x1), none]) (s_set (e := D.int) _ (q_f2 (b_p rfl (b_p rfl op_mul))) fun _ => rfl) fun x1 =>
  (t_seq fin_F (fun x2 : Int => [some ((eP2 D.int D.int) a0), some ((eH2 D.int D.int) a1), some (D.int x1), some (D.int x2)]) (s_set (e := D.int) _ (q_f2 (b_p rfl (b_p rfl op_mul))) fun _ => rfl) fun x2 =>
  (t_if rfl (t_retF (rf_ok (e := D.int) rfl))
  (t_nextS (t_if rfl (t_retF (rf_ok (e := D.int) rfl))
  (t_nextS (t_end (t_retF (rf_ok (e := D.int) rfl))))))))))
/-! over_piiq_piiq -/
def N_over_piiq_piiq (a0 : (Int × Int)) (a1 : (Int × Int)) : Res (Int × Int) :=
  ((mulR a0.1 a1.2).bind fun x1 => ((mulR a0.2 a1.1).bind fun x2 => (N_ratio_i_i x1 x2)))
theorem n_over_piiq_piiq (a0 : (Int × Int)) (a1 : (Int × Int)) : Rf (m_over [(eP2 D.int D.int) a0, (eP2 D.int D.int) a1]) (N_over_piiq_piiq a0 a1) (eP2 D.int D.int) :=
  n_runF ((t_end (t_retF (q_on (a_i (q_f2 (b_p rfl (b_p rfl op_mul))) fun x1 => (a_i (q_f2 (b_p rfl (b_p rfl op_mul))) fun x2 => (a_0 (rf_chk (n_ratio_i_i x1 x2) rfl))))))))
/-! added_piiq_hiiq -/
def N_added_piiq_hiiq (a0 : (Int × Int)) (a1 : (Int × Int)) : Res (Int × Int) :=
  (((mulR a0.1 a1.2).bind fun x1 => ((mulR a1.1 a0.2).bind fun x2 => (Res.ok (x1 + x2)))).bind fun x3 => ((mulR a0.2 a1.2).bind fun x4 => (N_ratio_i_i x3 x4)))
theorem n_added_piiq_hiiq (a0 : (Int × Int)) (a1 : (Int × Int)) : Rf (m_added [(eP2 D.int D.int) a0, (eH2 D.int D.int) a1]) (N_added_piiq_hiiq a0 a1) (eP2 D.int D.int) :=
  n_runF ((t_end (t_retF (q_on (a_i (q_f2 (b_i (q_f2 (b_p rfl (b_p rfl op_mul))) fun x1 => (b_i (q_f2 (b_p rfl (b_p rfl op_mul))) fun x2 => (rf_ok rfl)))) fun x3 => (a_i (q_f2 (b_p rfl (b_p rfl op_mul))) fun x4 => (a_0 (rf_chk (n_ratio_i_i x3 x4) rfl))))))))
/-! fraction_sum_lhiiq -/
def N_fraction_sum_lhiiq (a0 : (List (Int × Int))) : Res (Int × Int) :=
  ((forR (σ := (Int × Int)) (fun x1 x2 => ((N_added_piiq_hiiq x1 x2).bind fun x3 =>
  Res.ok x3)) a0 (0, 1)).bind fun x4 =>
  (Res.ok x4))
theorem n_fraction_sum_lhiiq (a0 : (List (Int × Int))) : Rf (m_fraction_sum [(eL (eH2 D.int D.int)) a0]) (N_fraction_sum_lhiiq a0) (eP2 D.int D.int) :=
  n_runF ((t_seqp [some ((eL (eH2 D.int D.int)) a0), some ((eP2 D.int D.int) (0, 1)), none] (set_p rfl rfl) (t_seq fin_F (fun x4 : (Int × Int) => [some ((eL (eH2 D.int D.int)) a0), some ((eP2 D.int D.int) x4), none]) (s_forp (ex := (eH2 D.int D.int)) (s0 := (0, 1)) (it_L (e := (eH2 D.int D.int)) (xs := a0) rfl) (fun x1 : (Int × Int) => [some ((eL (eH2 D.int D.int)) a0), some ((eP2 D.int D.int) x1), none]) (fun (x1 : (Int × Int)) (x2 : (Int × Int)) => [some ((eL (eH2 D.int D.int)) a0), some ((eP2 D.int D.int) x1), some ((eH2 D.int D.int) x2)]) rfl (fun _ _ => rfl) fun x1 x2 =>
  (t_seq fin_L (fun x3 : (Int × Int) => [some ((eL (eH2 D.int D.int)) a0), some ((eP2 D.int D.int) x3), some ((eH2 D.int D.int) x2)]) (s_set (e := (eP2 D.int D.int)) _ (q_on (a_p rfl (a_p rfl (a_0 (rf_chk (n_added_piiq_hiiq x1 x2) rfl))))) fun _ => rfl) fun x3 =>
  (t_next rfl))) fun x4 =>
  (t_end (t_retF (rf_ok (e := (eP2 D.int D.int)) rfl))))))
/-! over_hiiq_li -/
def N_over_hiiq_li (a0 : (Int × Int)) (a1 : (List Int)) : Res (Int × Int) :=
  (((ixR a1 1).bind fun x1 => (mulR a0.1 x1)).bind fun x3 => (((ixR a1 0).bind fun x2 => (mulR a0.2 x2)).bind fun x4 => (N_ratio_i_i x3 x4)))
theorem n_over_hiiq_li (a0 : (Int × Int)) (a1 : (List Int)) : Rf (m_over [(eH2 D.int D.int) a0, (eL D.int) a1]) (N_over_hiiq_li a0 a1) (eP2 D.int D.int) :=
  n_runF ((t_end (t_retF (q_on (a_i (q_f2 (b_p rfl (b_i (q_f2 (b_p rfl (b_p rfl op_ixL))) fun x1 => op_mul))) fun x3 => (a_i (q_f2 (b_p rfl (b_i (q_f2 (b_p rfl (b_p rfl op_ixL))) fun x2 => op_mul))) fun x4 => (a_0 (rf_chk (n_ratio_i_i x3 x4) rfl))))))))
/-! law_no_bottom_i_piiq -/
def N_law_no_bottom_i_piiq (a0 : Int) (a1 : (Int × Int)) : Res Bool :=
  (tryR al_BookError
  (((if (decide (a0 = 0)) = true then ((N_ratio_i_i a1.1 0).bind fun x17 =>
  Res.ok ()) else
  ((if (decide (a0 = 1)) = true then ((N_over_piiq_piiq a1 (0, 1)).bind fun x22 =>
  Res.ok ()) else
  ((N_over_hiiq_li a1 [0, 1]).bind fun x23 =>
  Res.ok ())).bind fun x24 =>
  Res.ok ())).bind fun x25 =>
  (Res.ok false)))
  fun x26 x27 =>
  (((askR al_BadLot x26).bind fun x28 => ((askR al_BadSize x26).bind fun x29 => ((askR al_BadTable x26).bind fun x30 => ((askR al_SizesDiffer x26).bind fun x31 => ((askR al_BadCount x26).bind fun x32 => (Res.ok [x28, x29, x30, x31, x32])))))).bind fun x33 =>
  ((askR al_ZeroBottom x26).bind fun x35 => (if x35 = true then ((askR al_ValueError x26).bind fun x34 => (if x34 = true then (Res.ok (!decide (true ∈ x33))) else Res.ok false)) else Res.ok false))))
theorem n_law_no_bottom_i_piiq (a0 : Int) (a1 : (Int × Int)) : Rf (m_law_no_bottom [D.int a0, (eP2 D.int D.int) a1]) (N_law_no_bottom_i_piiq a0 a1) D.bl :=
  n_runF ((t_tryF
  (t_seq fin_F (fun x25 : Unit => [some (D.int a0), some ((eP2 D.int D.int) a1), none, none]) (s_if (o' := (fun s : Unit => Fl.nx [some (D.int a0), some ((eP2 D.int D.int) a1), none, none])) (t_if (evB (ev2 rfl rfl (op_eq (e := D.int) (x := a0) (x' := 0)))) (t_seq fin_S (fun x17 : (Int × Int) => [some (D.int a0), some ((eP2 D.int D.int) a1), none, none]) (s_drop (e := (eP2 D.int D.int)) (q_on (a_p rfl (a_p rfl (a_0 (rf_chk (n_ratio_i_i a1.1 0) rfl)))))) fun x17 =>
  (t_next rfl))
  (t_seq fin_S (fun x24 : Unit => [some (D.int a0), some ((eP2 D.int D.int) a1), none, none]) (s_if (o' := (fun s : Unit => Fl.nx [some (D.int a0), some ((eP2 D.int D.int) a1), none, none])) (t_if (evB (ev2 rfl rfl (op_eq (e := D.int) (x := a0) (x' := 1)))) (t_seq fin_S (fun x22 : (Int × Int) => [some (D.int a0), some ((eP2 D.int D.int) a1), none, none]) (s_drop (e := (eP2 D.int D.int)) (q_on (a_p rfl (a_p rfl (a_0 (rf_chk (n_over_piiq_piiq a1 (0, 1)) rfl)))))) fun x22 =>
  (t_next rfl))
  (t_seq fin_S (fun x23 : (Int × Int) => [some (D.int a0), some ((eP2 D.int D.int) a1), none, none]) (s_drop (e := (eP2 D.int D.int)) (q_on (a_p rfl (a_p rfl (a_0 (rf_chk (n_over_hiiq_li a1 [0, 1]) rfl)))))) fun x23 =>
  (t_next rfl)))) fun x24 =>
  (t_next rfl)))) fun x25 =>
  (t_end (t_retF (rf_ok (e := D.bl) rfl))))
  fun x26 x27 =>
  (t_seq fin_F (fun x33 : (List Bool) => [none, none, some (D.exc x26 (x27.map (·.1)) (x27.map (·.2))), some ((eL D.bl) x33)]) (s_set (e := (eL D.bl)) _ (q_on (a_i (e_isE rfl) fun x28 => (a_i (e_isE rfl) fun x29 => (a_i (e_isE rfl) fun x30 => (a_i (e_isE rfl) fun x31 => (a_i (e_isE rfl) fun x32 => (a_0 (rf_ok rfl)))))))) fun _ => rfl) fun x33 =>
  (t_end (t_retF (q_Bv (rf_bv (rAndI (q_B (b_iB (e_isE rfl))) (rAndI (q_B (b_iB (e_isE rfl))) (rf_ok (e := fun b => b) (evB (evSc (ev2 rfl rfl (op_nmemL (e := D.bl) (x := true) (xs := x33))) rfl))))))))))))
/-! law_odd_lpiiq -/
def N_law_odd_lpiiq (a0 : (List (Int × Int))) : Res (List D) :=
  ((Res.ok [((eP2 D.int D.int) (2, 4)), ((eP2 D.int D.int) (1, 0)), ((eP2 D.int D.int) (0, 0)), ((eP2 D.int D.int) (1, (-2))), ((eP2 D.int D.int) (0, (-1))), ((eL D.int) [1, 2]), ((eL D.int) [0, 1]), ((eP2 D.bl D.int) (true, 1)), ((eP2 D.int D.bl) (1, true)), ((eP2 D.bl D.int) (false, 1)), (D.int 5), (D.int 0), (eN ()), ((eP3 D.int D.int D.int) (1, 2, 3)), ((eP1 D.int) 1), (D.str (Str.ofString "1/2")), (D.str (Str.ofString "12")), (D.tup []), ((eL D.int) []), (D.str (Str.ofString ""))]).bind fun x1 =>
  (((((ixR a0 2).bind fun x2 => (Res.ok x2.1)).bind fun x7 => ((((ixR a0 1).bind fun x3 => (Res.ok x3.1)).bind fun x5 => (((ixR a0 1).bind fun x4 => (Res.ok x4.2)).bind fun x6 => (Res.ok [x5, x6]))).bind fun x8 => (Res.ok [((eP2 D.int D.int) (0, 2)), ((eP1 (eP2 D.int D.int)) (1, 2)), ((eP2 D.int eN) (1, ())), ((eP2 D.str D.int) ((Str.ofString "1"), 2)), ((eP2 (eP2 D.int D.int) D.int) ((1, 1), 2)), ((eP2 (eL D.int) D.int) ([1], 1)), ((eP2 D.int (eP1 D.int)) (1, 2)), (D.bl true), (D.bl false), (D.int x7), ((eL D.int) x8)]))).bind fun x9 => (catR x1 x9)).bind fun x10 =>
  ((forR (σ := (List D)) (fun x11 x12 => ((appR x11 ((eP2 D.int D.int) ((0 - x12.1), (0 - x12.2)))).bind fun x13 =>
  (((((powR 10 39).bind fun x32 => (Res.ok (decide ((if x12.1 < 0 then -x12.1 else x12.1) < x32)))).bind fun x34 => (if x34 = true then ((powR 10 39).bind fun x33 => (Res.ok (decide (x12.2 < x33)))) else Res.ok false)).bind fun x40 => if x40 = true then (((((mulR 2 x12.1).bind fun x35 => ((mulR 2 x12.2).bind fun x36 => (Res.ok (x35, x36)))).bind fun x37 => Res.ok ((eP2 D.int D.int) x37)).bind fun x38 => appR x13 x38).bind fun x39 =>
  Res.ok x39) else
  Res.ok x13).bind fun x41 =>
  Res.ok x41))) a0 x10).bind fun x42 =>
  (Res.ok x42))))
theorem n_law_odd_lpiiq (a0 : (List (Int × Int))) : Rf (m_law_odd [(eL (eP2 D.int D.int)) a0]) (N_law_odd_lpiiq a0) (eL (fun d : D => d)) :=
  n_runF ((t_seq fin_F (fun x1 : (List D) => [some ((eL (eP2 D.int D.int)) a0), some ((eL (fun d : D => d)) x1), none]) (s_setp (e := (eL (fun d : D => d))) _ rfl rfl) fun x1 =>
  (t_seq fin_F (fun x10 : (List D) => [some ((eL (eP2 D.int D.int)) a0), some ((eL (fun d : D => d)) x10), none]) (s_set (e := (eL (fun d : D => d))) _ (q_f2 (b_p rfl (b_i (q_on (a_p rfl (a_p rfl (a_p rfl (a_p rfl (a_p rfl (a_p rfl (a_p rfl (a_p rfl (a_p rfl (a_i (q_f2 (b_i (q_f2 (b_p rfl (b_p rfl op_ixL))) fun x2 => (b_p rfl (rf_ok rfl)))) fun x7 => (a_i (q_on (a_i (q_f2 (b_i (q_f2 (b_p rfl (b_p rfl op_ixL))) fun x3 => (b_p rfl (rf_ok rfl)))) fun x5 => (a_i (q_f2 (b_i (q_f2 (b_p rfl (b_p rfl op_ixL))) fun x4 => (b_p rfl (rf_ok rfl)))) fun x6 => (a_0 (rf_ok rfl))))) fun x8 => (a_0 (rf_ok (e := (eL (fun d : D => d))) rfl)))))))))))))) fun x9 => (op_catLL (e := (fun d : D => d)))))) fun _ => rfl) fun x10 =>
  (t_seq fin_F (fun x42 : (List D) => [some ((eL (eP2 D.int D.int)) a0), some ((eL (fun d : D => d)) x42), none]) (s_forp (ex := (eP2 D.int D.int)) (s0 := x10) (it_L (e := (eP2 D.int D.int)) (xs := a0) rfl) (fun x11 : (List D) => [some ((eL (eP2 D.int D.int)) a0), some ((eL (fun d : D => d)) x11), none]) (fun (x11 : (List D)) (x12 : (Int × Int)) => [some ((eL (eP2 D.int D.int)) a0), some ((eL (fun d : D => d)) x11), some ((eP2 D.int D.int) x12)]) rfl (fun _ _ => rfl) fun x11 x12 =>
  (t_assoc (t_seq fin_L (fun x13 : (List D) => [some ((eL (eP2 D.int D.int)) a0), some ((eL (fun d : D => d)) x13), some ((eP2 D.int D.int) x12)]) (s_app (e := (fun d : D => d)) (xs := x11) (d := ((eP2 D.int D.int) ((0 - x12.1), (0 - x12.2)))) (fun ys : (List D) => [some ((eL (eP2 D.int D.int)) a0), some ((eL (fun d : D => d)) ys), some ((eP2 D.int D.int) x12)]) rfl rfl fun _ => rfl) fun x13 =>
  (t_seq fin_L (fun x41 : (List D) => [some ((eL (eP2 D.int D.int)) a0), some ((eL (fun d : D => d)) x41), some ((eP2 D.int D.int) x12)]) (s_if (o' := (fun s : (List D) => Fl.nx [some ((eL (eP2 D.int D.int)) a0), some ((eL (fun d : D => d)) s), some ((eP2 D.int D.int) x12)])) (t_ifI fin_S (rAndI (q_B (b_iB (q_f2 (b_p rfl (b_i (q_f2 (b_p rfl (b_p rfl op_pow))) fun x32 => (rf_ok rfl)))))) (q_B (b_iB (q_f2 (b_p rfl (b_i (q_f2 (b_p rfl (b_p rfl op_pow))) fun x33 => (rf_ok rfl))))))) (t_seq fin_S (fun x39 : (List D) => [some ((eL (eP2 D.int D.int)) a0), some ((eL (fun d : D => d)) x39), some ((eP2 D.int D.int) x12)]) (s_appI (e := (fun d : D => d)) (xs := x13) (fun ys : (List D) => [some ((eL (eP2 D.int D.int)) a0), some ((eL (fun d : D => d)) ys), some ((eP2 D.int D.int) x12)]) rfl (rf_co (e' := (fun d : D => d)) (fun x37 => ((eP2 D.int D.int) x37)) (q_on (a_i (q_f2 (b_p rfl (b_p rfl op_mul))) fun x35 => (a_i (q_f2 (b_p rfl (b_p rfl op_mul))) fun x36 => (a_0 (rf_ok rfl))))) fun _ => rfl) fun _ => rfl) fun x39 =>
  (t_next rfl))
  (t_nextS (t_next rfl)))) fun x41 =>
  (t_next rfl))))) fun x42 =>
  (t_end (t_retF (rf_ok (e := (eL (fun d : D => d))) rfl)))))))
/-! is_number_d -/
def N_is_number_d (a0 : D) : Res Bool :=
  ((((dIsi "int") a0).bind asB).bind fun x2 => (if x2 = true then ((((dIsi "bool") a0).bind asB).bind fun x1 => Res.ok (!x1)) else Res.ok false))
theorem n_is_number_d (a0 : D) : Rf (m_is_number [(fun d : D => d) a0]) (N_is_number_d a0) D.bl :=
  n_runF ((t_end (t_retF (q_Bv (rf_bv (rAndI (q_B (b_iB (q_f1 (b_p rfl rf_asB)))) (q_B (b_iB (q_Bv (rf_bv (q_Not (b_i (q_B (b_iB (q_f1 (b_p rfl rf_asB)))) fun _ => rf_ok rfl))))))))))))
/-! is_fraction_d -/
def N_is_fraction_d (a0 : D) : Res Bool :=
  ((((((dIsi "tuple") a0).bind asB).bind fun x1 => Res.ok (!x1)).bind fun x3 => (if x3 = true then Res.ok true else (((dLen a0).bind asIR).bind fun x2 => (Res.ok (!decide (x2 = 2)))))).bind fun x15 => if x15 = true then (Res.ok false) else
  (((((dIx a0 (D.int 0)).bind fun x4 => (N_is_number_d x4)).bind fun x5 => Res.ok (!x5)).bind fun x8 => (if x8 = true then Res.ok true else (((dIx a0 (D.int 1)).bind fun x6 => (N_is_number_d x6)).bind fun x7 => Res.ok (!x7)))).bind fun x14 => if x14 = true then (Res.ok false) else
  (((dIx a0 (D.int 1)).bind fun x9 => ((dGe x9 (D.int 1)).bind asB)).bind fun x13 => (if x13 = true then (((dIx a0 (D.int 0)).bind fun x10 => ((dIx a0 (D.int 1)).bind fun x11 => ((dGcd x10 x11).bind asIR))).bind fun x12 => (Res.ok (decide (x12 = 1)))) else Res.ok false))))
theorem n_is_fraction_d (a0 : D) : Rf (m_is_fraction [(fun d : D => d) a0]) (N_is_fraction_d a0) D.bl :=
  n_runF ((t_ifI fin_F (rOrI (q_Not (b_i (q_Tr (b_iT (q_f1 (b_p rfl rf_asB)))) fun _ => rf_ok rfl)) (q_B (b_iB (q_f2 (b_i (q_on (a_p rfl (a_0 rf_asI))) fun x2 => (b_p rfl (rf_ok (op_ne (e := D.int) (x := x2) (x' := 2))))))))) (t_retF (rf_ok (e := D.bl) rfl))
  (t_nextS (t_ifI fin_F (rOrI (q_Not (b_i (q_Tr (b_iT (q_on (a_i (q_f2 (b_p rfl (b_p rfl rf_id))) fun x4 => (a_0 (rf_chk (n_is_number_d x4) rfl)))))) fun _ => rf_ok rfl)) (q_Not (b_i (q_Tr (b_iT (q_on (a_i (q_f2 (b_p rfl (b_p rfl rf_id))) fun x6 => (a_0 (rf_chk (n_is_number_d x6) rfl)))))) fun _ => rf_ok rfl))) (t_retF (rf_ok (e := D.bl) rfl))
  (t_nextS (t_end (t_retF (q_Bv (rf_bv (rAndI (q_B (b_iB (q_f2 (b_i (q_f2 (b_p rfl (b_p rfl rf_id))) fun x9 => (b_p rfl rf_asB))))) (q_B (b_iB (q_f2 (b_i (q_on (a_i (q_f2 (b_p rfl (b_p rfl rf_id))) fun x10 => (a_i (q_f2 (b_p rfl (b_p rfl rf_id))) fun x11 => (a_0 rf_asI)))) fun x12 => (b_p rfl (rf_ok (op_eq (e := D.int) (x := x12) (x' := 1))))))))))))))))))
/-! is_number_i -/
def N_is_number_i (a0 : Int) : Res Bool :=
  (Res.ok true)
theorem n_is_number_i (a0 : Int) : Rf (m_is_number [D.int a0]) (N_is_number_i a0) D.bl :=
  n_runF ((t_end (t_retF (rf_ok (e := D.bl) (evBv (evAndT (evB (ev1 rfl (isi_of isTy_int_int))) (evB (evBv (evNot (evB (ev1 rfl (isi_of isTy_bool_int))))))))))))
/-! is_fraction_piiq -/
def N_is_fraction_piiq (a0 : (Int × Int)) : Res Bool :=
  (if (!decide (2 = 2)) = true then (Res.ok false) else
  (Res.ok ((decide (1 ≤ a0.2)) && (decide (((Nat.gcd a0.1.natAbs a0.2.natAbs : Nat) : Int) = 1)))))
theorem n_is_fraction_piiq (a0 : (Int × Int)) : Rf (m_is_fraction [(eP2 D.int D.int) a0]) (N_is_fraction_piiq a0) D.bl :=
  n_runF ((t_if (evOrF (evNot (evTr (ev1 rfl (isi_of isTy_tuple_tup)) rfl)) (evB (ev2 rfl rfl (op_ne (e := D.int) (x := 2) (x' := 2))))) (t_retF (rf_ok (e := D.bl) rfl))
  (t_nextS (t_ifF (evOrF (evNot (evTr (evOn (evA rfl rfl) (ev_chk (n_is_number_i a0.1) rfl)) rfl)) (evNot (evTr (evOn (evA rfl rfl) (ev_chk (n_is_number_i a0.2) rfl)) rfl))) (t_nextS (t_end (t_retF (rf_ok (e := D.bl) (evBv (evAnd rfl (evB (ev2 rfl rfl (op_eq (e := D.int) (x := ((Nat.gcd a0.1.natAbs a0.2.natAbs : Nat) : Int)) (x' := 1))))))))))))))
/-! law_fi -/
def N_law_fi (a0 : (List Int)) : Res Bool :=
  (((rngR 8).bind fun x11 => (forR (σ := (List Int)) (fun x1 x2 => (((((N_law_cell_fi_i a0 x2).bind fun x6 => (((powR 10 14).bind fun x3 => ((powR 10 13).bind fun x4 => ((powR 10 13).bind fun x5 => (Res.ok [9, 13, 101, x3, 6, x4, x5])))).bind fun x7 => (N_law_digits_i_li x6 x7))).bind fun x8 => (N_law_number_li x8)).bind fun x9 => appR x1 x9).bind fun x10 =>
  Res.ok x10)) x11 [])).bind fun x12 =>
  ((rngR 4).bind fun x141 => ((forC (σ := (List (Int × Int))) (β := Bool) (fun x13 x14 => ((((mulR 2 x14).bind fun x15 => (Res.ok (x15 + 1))).bind fun x16 => (ixR x12 x16)).bind fun x17 =>
  ((if (decide (x17 = 0)) = true then Res.ok 7 else
  Res.ok x17).bind fun x18 =>
  ((((mulR 2 x14).bind fun x19 => (ixR x12 x19)).bind fun x20 => (N_ratio_i_i x20 x18)).bind fun x21 =>
  (((((((mulR 2 x14).bind fun x22 => (ixR x12 x22)).bind fun x23 => (N_law_fraction_i_i x23 x18)).bind fun x24 => (N_law_same_piiq_piiq x21 x24)).bind fun x25 => Res.ok (!x25)).bind fun x27 => (if x27 = true then Res.ok true else ((N_law_is_fraction_piiq x21).bind fun x26 => Res.ok (!x26)))).bind fun x34 => if x34 = true then Res.ok (.ret false) else
  (((mulR x21.1 x18).bind fun x30 => ((((mulR 2 x14).bind fun x28 => (ixR x12 x28)).bind fun x29 => (mulR x29 x21.2)).bind fun x31 => (Res.ok (!decide (x30 = x31))))).bind fun x33 => if x33 = true then Res.ok (.ret false) else
  ((appR x13 x21).bind fun x32 =>
  Res.ok (.go x32)))))))) x141 []).bind (ctlK (fun x35 => (((((ixR x12 6).bind fun x36 => (Res.ok (if x36 < 0 then -x36 else x36))).bind fun x37 => ((powR 10 13).bind fun x38 => (modR x37 x38))).bind fun x39 => (Res.ok (1 + x39))).bind fun x40 =>
  (((((ixR x12 0).bind fun x41 => (Res.ok x41)).bind fun x42 => ((powR 10 13).bind fun x43 => (modR x42 x43))).bind fun x44 => (mulR x44 x40)).bind fun x45 =>
  ((((((ixR x12 1).bind fun x46 => (Res.ok (if x46 < 0 then -x46 else x46))).bind fun x47 => ((powR 10 13).bind fun x48 => (modR x47 x48))).bind fun x49 => (Res.ok (1 + x49))).bind fun x50 => (mulR x50 x40)).bind fun x51 =>
  (((((N_ratio_i_i x45 x51).bind fun x52 => ((N_law_fraction_i_i x45 x51).bind fun x53 => (N_law_same_piiq_piiq x52 x53))).bind fun x54 => Res.ok (!x54)).bind fun x58 => (if x58 = true then Res.ok true else (((N_ratio_i_i x45 (-x51)).bind fun x55 => ((N_law_fraction_i_i x45 (-x51)).bind fun x56 => (N_law_same_piiq_piiq x55 x56))).bind fun x57 => Res.ok (!x57)))).bind fun x140 => if x140 = true then (Res.ok false) else
  ((((ixR x35 0).bind fun x59 => (Res.ok [(0, 1), x59])).bind fun x60 => (catR x35 x60)).bind fun x61 =>
  ((forC (σ := Unit) (β := Bool) (fun x62 x63 => ((forC (σ := Unit) (β := Bool) (fun x64 x65 => ((((N_added_hiiq_piiq x63 x65).bind fun x66 => ((N_law_added_piiq_piiq x63 x65).bind fun x67 => (N_law_same_piiq_piiq x66 x67))).bind fun x68 => Res.ok (!x68)).bind fun x95 => if x95 = true then Res.ok (.ret false) else
  ((((N_less_piiq_hiiq x63 x65).bind fun x69 => ((N_law_difference_piiq_piiq x63 x65).bind fun x70 => (N_law_same_piiq_piiq x69 x70))).bind fun x71 => Res.ok (!x71)).bind fun x94 => if x94 = true then Res.ok (.ret false) else
  ((((N_timed_hiiq_hiiq x63 x65).bind fun x72 => ((N_law_timed_piiq_piiq x63 x65).bind fun x73 => (N_law_same_piiq_piiq x72 x73))).bind fun x74 => Res.ok (!x74)).bind fun x93 => if x93 = true then Res.ok (.ret false) else
  (((((mulR x63.1 x65.2).bind fun x75 => ((mulR x65.1 x63.2).bind fun x76 => (Res.ok (decide (x76 < x75))))).bind fun x77 => (Res.ok (if x77 then 1 else 0))).bind fun x81 => ((((mulR x63.1 x65.2).bind fun x78 => ((mulR x65.1 x63.2).bind fun x79 => (Res.ok (decide (x78 < x79))))).bind fun x80 => (Res.ok (if x80 then 1 else 0))).bind fun x82 => (Res.ok (x81 - x82)))).bind fun x83 =>
  ((((N_compare_piiq_hiiq x63 x65).bind fun x84 => (N_law_same_i_i x84 x83)).bind fun x85 => Res.ok (!x85)).bind fun x92 => if x92 = true then Res.ok (.ret false) else
  ((if (!decide (x65.1 = 0)) = true then (((N_over_piiq_piiq x63 x65).bind fun x88 => (((mulR x63.1 x65.2).bind fun x86 => ((mulR x63.2 x65.1).bind fun x87 => (N_law_fraction_i_i x86 x87))).bind fun x89 => (N_law_same_piiq_piiq x88 x89))).bind fun x90 => Res.ok (!x90)) else Res.ok false).bind fun x91 => if x91 = true then Res.ok (.ret false) else
  Res.ok (.go ())))))))) x61 ()).bind (ctlK (fun x96 => Res.ok (.go ())) (fun v => Ctl.ret v)))) x61 ()).bind (ctlK (fun x97 => ((rngR ((x61.length : Int) + 1)).bind fun x139 => ((forC (σ := (Int × Int)) (β := Bool) (fun x98 x99 => ((((((lcR (cutN x61 none (some x99)) (fun x100 => Res.ok true) (fun x100 => (Res.ok x100))).bind fun x101 => (N_fraction_sum_lhiiq x101)).bind fun x102 => (N_law_same_piiq_piiq x102 x98)).bind fun x103 => Res.ok (!x103)).bind fun x106 => (if x106 = true then Res.ok true else (((N_fraction_sum_tpiiq (cutN x61 none (some x99))).bind fun x104 => (N_law_same_piiq_piiq x104 x98)).bind fun x105 => Res.ok (!x105)))).bind fun x114 => if x114 = true then Res.ok (.ret false) else
  ((if (decide (x99 < (x61.length : Int))) = true then (((ixR x61 x99).bind fun x111 => (N_law_added_piiq_piiq x98 x111)).bind fun x112 =>
  Res.ok x112) else
  Res.ok x98).bind fun x113 =>
  Res.ok (.go x113)))) x139 (0, 1)).bind (ctlK (fun x115 => (((((ixR x61 1).bind fun x116 => (N_law_no_bottom_i_piiq 0 x116)).bind fun x117 => Res.ok (!x117)).bind fun x126 => (if x126 = true then Res.ok true else ((((ixR x61 2).bind fun x118 => (N_law_no_bottom_i_piiq 1 x118)).bind fun x119 => Res.ok (!x119)).bind fun x125 => (if x125 = true then Res.ok true else ((((ixR x61 4).bind fun x120 => (N_law_no_bottom_i_piiq 2 x120)).bind fun x121 => Res.ok (!x121)).bind fun x124 => (if x124 = true then Res.ok true else (((ixR x61 4).bind fun x122 => (N_law_no_bottom_i_piiq 0 x122)).bind fun x123 => Res.ok (!x123)))))))).bind fun x138 => if x138 = true then (Res.ok false) else
  ((N_law_odd_lpiiq x61).bind fun x137 => ((forC (σ := Unit) (β := Bool) (fun x127 x128 => (((N_is_fraction_d x128).bind fun x129 => (Res.ok (!(x129 == false)))).bind fun x130 => if x130 = true then Res.ok (.ret false) else
  Res.ok (.go ()))) x137 ()).bind (ctlK (fun x131 => ((forC (σ := Unit) (β := Bool) (fun x132 x133 => (((N_is_fraction_piiq x133).bind fun x134 => (Res.ok (!(x134 == true)))).bind fun x135 => if x135 = true then Res.ok (.ret false) else
  Res.ok (.go ()))) x61 ()).bind (ctlK (fun x136 => (Res.ok true)) (fun v => v)))) (fun v => v)))))) (fun v => v))))) (fun v => v))))))))) (fun v => v)))))
theorem n_law_fi (a0 : (List Int)) : Rf (m_law [(eF D.int) a0]) (N_law_fi a0) D.bl :=
  n_runF ((t_seqp [some ((eF D.int) a0), some ((eL D.int) []), none, none, none, none, none, none, none, none, none, none, none] (set_p rfl rfl) (t_seq fin_F (fun x12 : (List Int) => [some ((eF D.int) a0), some ((eL D.int) x12), none, none, none, none, none, none, none, none, none, none, none]) (s_for (ex := D.int) (s0 := []) (q_R1 (a_p rfl (a_0 k_R1))) (fun x1 : (List Int) => [some ((eF D.int) a0), some ((eL D.int) x1), none, none, none, none, none, none, none, none, none, none, none]) (fun (x1 : (List Int)) (x2 : Int) => [some ((eF D.int) a0), some ((eL D.int) x1), some (D.int x2), none, none, none, none, none, none, none, none, none, none]) rfl (fun _ _ => rfl) fun x1 x2 =>
  (t_seq fin_L (fun x10 : (List Int) => [some ((eF D.int) a0), some ((eL D.int) x10), some (D.int x2), none, none, none, none, none, none, none, none, none, none]) (s_appI (e := D.int) (xs := x1) (fun ys : (List Int) => [some ((eF D.int) a0), some ((eL D.int) ys), some (D.int x2), none, none, none, none, none, none, none, none, none, none]) rfl (q_on (a_i (q_on (a_i (q_on (a_p rfl (a_p rfl (a_0 (rf_chk (n_law_cell_fi_i a0 x2) rfl))))) fun x6 => (a_i (q_on (a_p rfl (a_p rfl (a_p rfl (a_i (q_f2 (b_p rfl (b_p rfl op_pow))) fun x3 => (a_p rfl (a_i (q_f2 (b_p rfl (b_p rfl op_pow))) fun x4 => (a_i (q_f2 (b_p rfl (b_p rfl op_pow))) fun x5 => (a_0 (rf_ok rfl)))))))))) fun x7 => (a_0 (rf_chk (n_law_digits_i_li x6 x7) rfl))))) fun x8 => (a_0 (rf_chk (n_law_number_li x8) rfl)))) fun _ => rfl) fun x10 =>
  (t_next rfl))) fun x12 =>
  (t_seqp [some ((eF D.int) a0), some ((eL D.int) x12), none, some ((eL (eP2 D.int D.int)) []), none, none, none, none, none, none, none, none, none] (set_p rfl rfl) (t_forC (ex := D.int) (e := D.bl) (s0 := []) (rk := (fun v => v)) fin_F (q_R1 (a_p rfl (a_0 k_R1))) (fun x13 : (List (Int × Int)) => [some ((eF D.int) a0), some ((eL D.int) x12), none, some ((eL (eP2 D.int D.int)) x13), none, none, none, none, none, none, none, none, none]) (fun (x13 : (List (Int × Int))) (x14 : Int) => [some ((eF D.int) a0), some ((eL D.int) x12), some (D.int x14), some ((eL (eP2 D.int D.int)) x13), none, none, none, none, none, none, none, none, none]) rfl (fun _ _ => rfl) (fun x13 x14 =>
  (t_assoc (t_seq fin_L (fun x17 : Int => [some ((eF D.int) a0), some ((eL D.int) x12), some (D.int x14), some ((eL (eP2 D.int D.int)) x13), none, none, some (D.int x17), none, none, none, none, none, none]) (s_set (e := D.int) _ (q_f2 (b_p rfl (b_i (q_f2 (b_i (q_f2 (b_p rfl (b_p rfl op_mul))) fun x15 => (b_p rfl (rf_ok rfl)))) fun x16 => op_ixL))) fun _ => rfl) fun x17 =>
  (t_assoc (t_seq fin_L (fun x18 : Int => [some ((eF D.int) a0), some ((eL D.int) x12), some (D.int x14), some ((eL (eP2 D.int D.int)) x13), none, none, some (D.int x18), none, none, none, none, none, none]) (s_if (o' := (fun s : Int => Fl.nx [some ((eF D.int) a0), some ((eL D.int) x12), some (D.int x14), some ((eL (eP2 D.int D.int)) x13), none, none, some (D.int s), none, none, none, none, none, none])) (t_if (evB (ev2 rfl rfl (op_eq (e := D.int) (x := x17) (x' := 0)))) (t_seqp [some ((eF D.int) a0), some ((eL D.int) x12), some (D.int x14), some ((eL (eP2 D.int D.int)) x13), none, none, some (D.int 7), none, none, none, none, none, none] (set_p rfl rfl) (t_next rfl))
  (t_nextS (t_next rfl)))) fun x18 =>
  (t_assoc (t_seq fin_L (fun x21 : (Int × Int) => [some ((eF D.int) a0), some ((eL D.int) x12), some (D.int x14), some ((eL (eP2 D.int D.int)) x13), none, none, some (D.int x18), none, none, none, some ((eP2 D.int D.int) x21), none, none]) (s_set (e := (eP2 D.int D.int)) _ (q_on (a_i (q_f2 (b_p rfl (b_i (q_f2 (b_p rfl (b_p rfl op_mul))) fun x19 => op_ixL))) fun x20 => (a_p rfl (a_0 (rf_chk (n_ratio_i_i x20 x18) rfl))))) fun _ => rfl) fun x21 =>
  (t_assoc (t_ifI fin_L (rOrI (q_Not (b_i (q_Tr (b_iT (q_on (a_p rfl (a_i (q_on (a_i (q_f2 (b_p rfl (b_i (q_f2 (b_p rfl (b_p rfl op_mul))) fun x22 => op_ixL))) fun x23 => (a_p rfl (a_0 (rf_chk (n_law_fraction_i_i x23 x18) rfl))))) fun x24 => (a_0 (rf_chk (n_law_same_piiq_piiq x21 x24) rfl))))))) fun _ => rf_ok rfl)) (q_Not (b_i (q_Tr (b_iT (q_on (a_p rfl (a_0 (rf_chk (n_law_is_fraction_piiq x21) rfl)))))) fun _ => rf_ok rfl))) (t_retp rfl rfl)
  (t_nextS (t_assoc (t_ifI fin_L (q_B (b_iB (q_f2 (b_i (q_f2 (b_p rfl (b_p rfl op_mul))) fun x30 => (b_i (q_f2 (b_i (q_f2 (b_p rfl (b_i (q_f2 (b_p rfl (b_p rfl op_mul))) fun x28 => op_ixL))) fun x29 => (b_p rfl op_mul))) fun x31 => (rf_ok (op_ne (e := D.int) (x := x30) (x' := x31)))))))) (t_retp rfl rfl)
  (t_nextS (t_seq fin_L (fun x32 : (List (Int × Int)) => [some ((eF D.int) a0), some ((eL D.int) x12), some (D.int x14), some ((eL (eP2 D.int D.int)) x32), none, none, some (D.int x18), none, none, none, some ((eP2 D.int D.int) x21), none, none]) (s_app (e := (eP2 D.int D.int)) (xs := x13) (d := x21) (fun ys : (List (Int × Int)) => [some ((eF D.int) a0), some ((eL D.int) x12), some (D.int x14), some ((eL (eP2 D.int D.int)) ys), none, none, some (D.int x18), none, none, none, some ((eP2 D.int D.int) x21), none, none]) rfl rfl fun _ => rfl) fun x32 =>
  (t_next rfl))))))))))))))) (fun x35 =>
  (t_seq fin_F (fun x40 : Int => [some ((eF D.int) a0), some ((eL D.int) x12), none, some ((eL (eP2 D.int D.int)) x35), some (D.int x40), none, none, none, none, none, none, none, none]) (s_set (e := D.int) _ (q_f2 (b_p rfl (b_i (q_f2 (b_i (q_on (a_i (q_f2 (b_p rfl (b_p rfl op_ixL))) fun x36 => (a_0 (rf_ok rfl)))) fun x37 => (b_i (q_f2 (b_p rfl (b_p rfl op_pow))) fun x38 => op_mod))) fun x39 => (rf_ok rfl)))) fun _ => rfl) fun x40 =>
  (t_seq fin_F (fun x45 : Int => [some ((eF D.int) a0), some ((eL D.int) x12), none, some ((eL (eP2 D.int D.int)) x35), some (D.int x40), some (D.int x45), none, none, none, none, none, none, none]) (s_set (e := D.int) _ (q_f2 (b_i (q_f2 (b_i (q_on (a_i (q_f2 (b_p rfl (b_p rfl op_ixL))) fun x41 => (a_0 (rf_ok rfl)))) fun x42 => (b_i (q_f2 (b_p rfl (b_p rfl op_pow))) fun x43 => op_mod))) fun x44 => (b_p rfl op_mul))) fun _ => rfl) fun x45 =>
  (t_seq fin_F (fun x51 : Int => [some ((eF D.int) a0), some ((eL D.int) x12), none, some ((eL (eP2 D.int D.int)) x35), some (D.int x40), some (D.int x45), some (D.int x51), none, none, none, none, none, none]) (s_set (e := D.int) _ (q_f2 (b_i (q_f2 (b_p rfl (b_i (q_f2 (b_i (q_on (a_i (q_f2 (b_p rfl (b_p rfl op_ixL))) fun x46 => (a_0 (rf_ok rfl)))) fun x47 => (b_i (q_f2 (b_p rfl (b_p rfl op_pow))) fun x48 => op_mod))) fun x49 => (rf_ok rfl)))) fun x50 => (b_p rfl op_mul))) fun _ => rfl) fun x51 =>
  (t_ifI fin_F (rOrI (q_Not (b_i (q_Tr (b_iT (q_on (a_i (q_on (a_p rfl (a_p rfl (a_0 (rf_chk (n_ratio_i_i x45 x51) rfl))))) fun x52 => (a_i (q_on (a_p rfl (a_p rfl (a_0 (rf_chk (n_law_fraction_i_i x45 x51) rfl))))) fun x53 => (a_0 (rf_chk (n_law_same_piiq_piiq x52 x53) rfl))))))) fun _ => rf_ok rfl)) (q_Not (b_i (q_Tr (b_iT (q_on (a_i (q_on (a_p rfl (a_p rfl (a_0 (rf_chk (n_ratio_i_i x45 (-x51)) rfl))))) fun x55 => (a_i (q_on (a_p rfl (a_p rfl (a_0 (rf_chk (n_law_fraction_i_i x45 (-x51)) rfl))))) fun x56 => (a_0 (rf_chk (n_law_same_piiq_piiq x55 x56) rfl))))))) fun _ => rf_ok rfl))) (t_retF (rf_ok (e := D.bl) rfl))
  (t_nextS (t_seq fin_F (fun x61 : (List (Int × Int)) => [some ((eF D.int) a0), some ((eL D.int) x12), none, some ((eL (eP2 D.int D.int)) x61), some (D.int x40), some (D.int x45), some (D.int x51), none, none, none, none, none, none]) (s_set (e := (eL (eP2 D.int D.int))) _ (q_f2 (b_p rfl (b_i (q_on (a_p rfl (a_i (q_f2 (b_p rfl (b_p rfl op_ixL))) fun x59 => (a_0 (rf_ok rfl))))) fun x60 => (op_catLL (e := (eP2 D.int D.int)))))) fun _ => rfl) fun x61 =>
  (t_forCp (ex := (eP2 D.int D.int)) (e := D.bl) (s0 := ()) (rk := (fun v => v)) fin_F (it_L (e := (eP2 D.int D.int)) (xs := x61) rfl) (fun x62 : Unit => [some ((eF D.int) a0), some ((eL D.int) x12), none, some ((eL (eP2 D.int D.int)) x61), some (D.int x40), some (D.int x45), some (D.int x51), none, none, none, none, none, none]) (fun (x62 : Unit) (x63 : (Int × Int)) => [some ((eF D.int) a0), some ((eL D.int) x12), none, some ((eL (eP2 D.int D.int)) x61), some (D.int x40), some (D.int x45), some (D.int x51), some ((eP2 D.int D.int) x63), none, none, none, none, none]) rfl (fun _ _ => rfl) (fun x62 x63 =>
  (t_forCp (ex := (eP2 D.int D.int)) (e := D.bl) (s0 := ()) (rk := (fun v => Ctl.ret v)) fin_L (it_L (e := (eP2 D.int D.int)) (xs := x61) rfl) (fun x64 : Unit => [some ((eF D.int) a0), some ((eL D.int) x12), none, some ((eL (eP2 D.int D.int)) x61), some (D.int x40), some (D.int x45), some (D.int x51), some ((eP2 D.int D.int) x63), none, none, none, none, none]) (fun (x64 : Unit) (x65 : (Int × Int)) => [some ((eF D.int) a0), some ((eL D.int) x12), none, some ((eL (eP2 D.int D.int)) x61), some (D.int x40), some (D.int x45), some (D.int x51), some ((eP2 D.int D.int) x63), none, none, none, some ((eP2 D.int D.int) x65), none]) rfl (fun _ _ => rfl) (fun x64 x65 =>
  (t_assoc (t_ifI fin_L (q_Not (b_i (q_Tr (b_iT (q_on (a_i (q_on (a_p rfl (a_p rfl (a_0 (rf_chk (n_added_hiiq_piiq x63 x65) rfl))))) fun x66 => (a_i (q_on (a_p rfl (a_p rfl (a_0 (rf_chk (n_law_added_piiq_piiq x63 x65) rfl))))) fun x67 => (a_0 (rf_chk (n_law_same_piiq_piiq x66 x67) rfl))))))) fun _ => rf_ok rfl)) (t_retp rfl rfl)
  (t_nextS (t_assoc (t_ifI fin_L (q_Not (b_i (q_Tr (b_iT (q_on (a_i (q_on (a_p rfl (a_p rfl (a_0 (rf_chk (n_less_piiq_hiiq x63 x65) rfl))))) fun x69 => (a_i (q_on (a_p rfl (a_p rfl (a_0 (rf_chk (n_law_difference_piiq_piiq x63 x65) rfl))))) fun x70 => (a_0 (rf_chk (n_law_same_piiq_piiq x69 x70) rfl))))))) fun _ => rf_ok rfl)) (t_retp rfl rfl)
  (t_nextS (t_assoc (t_ifI fin_L (q_Not (b_i (q_Tr (b_iT (q_on (a_i (q_on (a_p rfl (a_p rfl (a_0 (rf_chk (n_timed_hiiq_hiiq x63 x65) rfl))))) fun x72 => (a_i (q_on (a_p rfl (a_p rfl (a_0 (rf_chk (n_law_timed_piiq_piiq x63 x65) rfl))))) fun x73 => (a_0 (rf_chk (n_law_same_piiq_piiq x72 x73) rfl))))))) fun _ => rf_ok rfl)) (t_retp rfl rfl)
  (t_nextS (t_assoc (t_seq fin_L (fun x83 : Int => [some ((eF D.int) a0), some ((eL D.int) x12), none, some ((eL (eP2 D.int D.int)) x61), some (D.int x40), some (D.int x45), some (D.int x51), some ((eP2 D.int D.int) x63), none, none, none, some ((eP2 D.int D.int) x65), some (D.int x83)]) (s_set (e := D.int) _ (q_f2 (b_i (q_on (a_i (q_f2 (b_i (q_f2 (b_p rfl (b_p rfl op_mul))) fun x75 => (b_i (q_f2 (b_p rfl (b_p rfl op_mul))) fun x76 => (rf_ok rfl)))) fun x77 => (a_0 (rf_ok rfl)))) fun x81 => (b_i (q_on (a_i (q_f2 (b_i (q_f2 (b_p rfl (b_p rfl op_mul))) fun x78 => (b_i (q_f2 (b_p rfl (b_p rfl op_mul))) fun x79 => (rf_ok rfl)))) fun x80 => (a_0 (rf_ok rfl)))) fun x82 => (rf_ok rfl)))) fun _ => rfl) fun x83 =>
  (t_assoc (t_ifI fin_L (q_Not (b_i (q_Tr (b_iT (q_on (a_i (q_on (a_p rfl (a_p rfl (a_0 (rf_chk (n_compare_piiq_hiiq x63 x65) rfl))))) fun x84 => (a_p rfl (a_0 (rf_chk (n_law_same_i_i x84 x83) rfl))))))) fun _ => rf_ok rfl)) (t_retp rfl rfl)
  (t_nextS (t_ifI fin_L (rAnd (evB (ev2 rfl rfl (op_ne (e := D.int) (x := x65.1) (x' := 0)))) (q_Not (b_i (q_Tr (b_iT (q_on (a_i (q_on (a_p rfl (a_p rfl (a_0 (rf_chk (n_over_piiq_piiq x63 x65) rfl))))) fun x88 => (a_i (q_on (a_i (q_f2 (b_p rfl (b_p rfl op_mul))) fun x86 => (a_i (q_f2 (b_p rfl (b_p rfl op_mul))) fun x87 => (a_0 (rf_chk (n_law_fraction_i_i x86 x87) rfl))))) fun x89 => (a_0 (rf_chk (n_law_same_piiq_piiq x88 x89) rfl))))))) fun _ => rf_ok rfl))) (t_retp rfl rfl)
  (t_nextS (t_next rfl)))))))))))))))))) (fun x96 =>
  (t_next rfl)) fun _ => rfl)) (fun x97 =>
  (t_seqp [some ((eF D.int) a0), some ((eL D.int) x12), none, some ((eL (eP2 D.int D.int)) x61), some (D.int x40), some (D.int x45), some (D.int x51), none, some ((eP2 D.int D.int) (0, 1)), none, none, none, none] (set_p rfl rfl) (t_forC (ex := D.int) (e := D.bl) (s0 := (0, 1)) (rk := (fun v => v)) fin_F (q_R1 (a_p (ev2 (evOn (evA rfl rfl) op_lenL) rfl rfl) (a_0 k_R1))) (fun x98 : (Int × Int) => [some ((eF D.int) a0), some ((eL D.int) x12), none, some ((eL (eP2 D.int D.int)) x61), some (D.int x40), some (D.int x45), some (D.int x51), none, some ((eP2 D.int D.int) x98), none, none, none, none]) (fun (x98 : (Int × Int)) (x99 : Int) => [some ((eF D.int) a0), some ((eL D.int) x12), some (D.int x99), some ((eL (eP2 D.int D.int)) x61), some (D.int x40), some (D.int x45), some (D.int x51), none, some ((eP2 D.int D.int) x98), none, none, none, none]) rfl (fun _ _ => rfl) (fun x98 x99 =>
  (t_assoc (t_ifI fin_L (rOrI (q_Not (b_i (q_Tr (b_iT (q_on (a_i (q_on (a_i (rf_lcp (it_L (e := (eP2 D.int D.int)) (xs := (cutN x61 none (some x99))) (evCut rfl rfl rfl op_cutL)) (fun x100 : (Int × Int) => [some ((eF D.int) a0), some ((eL D.int) x12), some (D.int x99), some ((eL (eP2 D.int D.int)) x61), some (D.int x40), some (D.int x45), some (D.int x51), some ((eP2 D.int D.int) x100), some ((eP2 D.int D.int) x98), none, none, none, none]) (fun _ => rfl) (fun x100 => (rf_ok (v := true) rfl)) (fun x100 => (rf_ok (e := (eH2 D.int D.int)) rfl))) fun x101 => (a_0 (rf_chk (n_fraction_sum_lhiiq x101) rfl)))) fun x102 => (a_p rfl (a_0 (rf_chk (n_law_same_piiq_piiq x102 x98) rfl))))))) fun _ => rf_ok rfl)) (q_Not (b_i (q_Tr (b_iT (q_on (a_i (q_on (a_p (evOn (evA (evCut rfl rfl rfl op_cutL) rfl) rfl) (a_0 (rf_chk (n_fraction_sum_tpiiq (cutN x61 none (some x99))) rfl)))) fun x104 => (a_p rfl (a_0 (rf_chk (n_law_same_piiq_piiq x104 x98) rfl))))))) fun _ => rf_ok rfl))) (t_retp rfl rfl)
  (t_nextS (t_seq fin_L (fun x113 : (Int × Int) => [some ((eF D.int) a0), some ((eL D.int) x12), some (D.int x99), some ((eL (eP2 D.int D.int)) x61), some (D.int x40), some (D.int x45), some (D.int x51), none, some ((eP2 D.int D.int) x113), none, none, none, none]) (s_if (o' := (fun s : (Int × Int) => Fl.nx [some ((eF D.int) a0), some ((eL D.int) x12), some (D.int x99), some ((eL (eP2 D.int D.int)) x61), some (D.int x40), some (D.int x45), some (D.int x51), none, some ((eP2 D.int D.int) s), none, none, none, none])) (t_if (evB (ev2 rfl (evOn (evA rfl rfl) op_lenL) rfl)) (t_seq fin_S (fun x112 : (Int × Int) => [some ((eF D.int) a0), some ((eL D.int) x12), some (D.int x99), some ((eL (eP2 D.int D.int)) x61), some (D.int x40), some (D.int x45), some (D.int x51), none, some ((eP2 D.int D.int) x112), none, none, none, none]) (s_set (e := (eP2 D.int D.int)) _ (q_on (a_p rfl (a_i (q_f2 (b_p rfl (b_p rfl op_ixL))) fun x111 => (a_0 (rf_chk (n_law_added_piiq_piiq x98 x111) rfl))))) fun _ => rfl) fun x112 =>
  (t_next rfl))
  (t_nextS (t_next rfl)))) fun x113 =>
  (t_next rfl)))))) (fun x115 =>
  (t_ifI fin_F (rOrI (q_Not (b_i (q_Tr (b_iT (q_on (a_p rfl (a_i (q_f2 (b_p rfl (b_p rfl op_ixL))) fun x116 => (a_0 (rf_chk (n_law_no_bottom_i_piiq 0 x116) rfl))))))) fun _ => rf_ok rfl)) (rOrI (q_Not (b_i (q_Tr (b_iT (q_on (a_p rfl (a_i (q_f2 (b_p rfl (b_p rfl op_ixL))) fun x118 => (a_0 (rf_chk (n_law_no_bottom_i_piiq 1 x118) rfl))))))) fun _ => rf_ok rfl)) (rOrI (q_Not (b_i (q_Tr (b_iT (q_on (a_p rfl (a_i (q_f2 (b_p rfl (b_p rfl op_ixL))) fun x120 => (a_0 (rf_chk (n_law_no_bottom_i_piiq 2 x120) rfl))))))) fun _ => rf_ok rfl)) (q_Not (b_i (q_Tr (b_iT (q_on (a_p rfl (a_i (q_f2 (b_p rfl (b_p rfl op_ixL))) fun x122 => (a_0 (rf_chk (n_law_no_bottom_i_piiq 0 x122) rfl))))))) fun _ => rf_ok rfl))))) (t_retF (rf_ok (e := D.bl) rfl))
  (t_nextS (t_forC (ex := (fun d : D => d)) (e := D.bl) (s0 := ()) (rk := (fun v => v)) fin_F (q_L (b_iL (q_on (a_p rfl (a_0 (rf_chk (n_law_odd_lpiiq x61) rfl)))) fun _ => rfl)) (fun x127 : Unit => [some ((eF D.int) a0), some ((eL D.int) x12), none, some ((eL (eP2 D.int D.int)) x61), some (D.int x40), some (D.int x45), some (D.int x51), none, some ((eP2 D.int D.int) x115), none, none, none, none]) (fun (x127 : Unit) (x128 : D) => [some ((eF D.int) a0), some ((eL D.int) x12), none, some ((eL (eP2 D.int D.int)) x61), some (D.int x40), some (D.int x45), some (D.int x51), none, some ((eP2 D.int D.int) x115), some ((fun d : D => d) x128), none, none, none]) rfl (fun _ _ => rfl) (fun x127 x128 =>
  (t_ifI fin_L (q_B (b_iB (q_f1 (b_i (q_on (a_p rfl (a_0 (rf_chk (n_is_fraction_d x128) rfl)))) fun x129 => (rf_ok (op_not1 rfl)))))) (t_retp rfl rfl)
  (t_nextS (t_next rfl)))) (fun x131 =>
  (t_forCp (ex := (eP2 D.int D.int)) (e := D.bl) (s0 := ()) (rk := (fun v => v)) fin_F (it_L (e := (eP2 D.int D.int)) (xs := x61) rfl) (fun x132 : Unit => [some ((eF D.int) a0), some ((eL D.int) x12), none, some ((eL (eP2 D.int D.int)) x61), some (D.int x40), some (D.int x45), some (D.int x51), none, some ((eP2 D.int D.int) x115), none, none, none, none]) (fun (x132 : Unit) (x133 : (Int × Int)) => [some ((eF D.int) a0), some ((eL D.int) x12), none, some ((eL (eP2 D.int D.int)) x61), some (D.int x40), some (D.int x45), some (D.int x51), some ((eP2 D.int D.int) x133), some ((eP2 D.int D.int) x115), none, none, none, none]) rfl (fun _ _ => rfl) (fun x132 x133 =>
  (t_ifI fin_L (q_B (b_iB (q_f1 (b_i (q_on (a_p rfl (a_0 (rf_chk (n_is_fraction_piiq x133) rfl)))) fun x134 => (rf_ok (op_not1 rfl)))))) (t_retp rfl rfl)
  (t_nextS (t_next rfl)))) (fun x136 =>
  (t_end (t_retF (rf_ok (e := D.bl) rfl)))) fun _ => rfl)) fun _ => rfl)))) fun _ => rfl))) fun _ => rfl)))))))) fun _ => rfl)))))
end Kx
namespace Kx
open PySem PySem.Spec L2 Da
/-! ### the text -/
def top (i : Nat) : Stmt := PySem.Challenge.pw_nobadday_k00_fractions.main.body.getD i (.Pass ⟨0, 0, 0, 0⟩)
abbrev s_law_odd : Stmt := top 33
abbrev s_ratio : Stmt := top 12
abbrev s_law_number : Stmt := top 30
abbrev s_law_whole : Stmt := top 21
abbrev s_law_same : Stmt := top 29
abbrev s_law_gcd : Stmt := top 24
abbrev s_law_fraction : Stmt := top 25
abbrev s_law_added : Stmt := top 27
abbrev s_over : Stmt := top 16
abbrev s_law_no_bottom : Stmt := top 31
abbrev s_is_number : Stmt := top 10
abbrev s_is_fraction : Stmt := top 18
abbrev s_law_digits : Stmt := top 23
abbrev s_law_is_fraction : Stmt := top 26
abbrev s_law_cell : Stmt := top 22
abbrev s_added : Stmt := top 13
abbrev s_less : Stmt := top 14
abbrev s_law_difference : Stmt := top 32
abbrev s_timed : Stmt := top 15
abbrev s_law_timed : Stmt := top 28
abbrev s_compare : Stmt := top 17
abbrev s_fraction_sum : Stmt := top 19
abbrev s_law : Stmt := top 34
/-- what stands behind the top -/
structure Txt (K : PySem.W.Frag) (mg : Str → Option Value) : Prop where
  d_law_odd : DefAt K mg "_law_odd" "_law_odd" s_law_odd ["row"]
  d_ratio : DefAt K mg "ratio" "ratio" s_ratio ["top", "bottom"]
  d_law_number : DefAt K mg "_law_number" "_law_number" s_law_number ["row"]
  d_law_whole : DefAt K mg "_law_whole" "_law_whole" s_law_whole ["value"]
  d_law_same : DefAt K mg "_law_same" "_law_same" s_law_same ["value", "due"]
  d_law_gcd : DefAt K mg "_law_gcd" "_law_gcd" s_law_gcd ["a", "b"]
  d_law_fraction : DefAt K mg "_law_fraction" "_law_fraction" s_law_fraction ["top", "bottom"]
  d_law_added : DefAt K mg "_law_added" "_law_added" s_law_added ["one", "two"]
  d_over : DefAt K mg "over" "over" s_over ["one", "two"]
  d_law_no_bottom : DefAt K mg "_law_no_bottom" "_law_no_bottom" s_law_no_bottom ["door", "one"]
  d_is_number : DefAt K mg "is_number" "is_number" s_is_number ["value"]
  d_is_fraction : DefAt K mg "is_fraction" "is_fraction" s_is_fraction ["value"]
  d_law_digits : DefAt K mg "_law_digits" "_law_digits" s_law_digits ["cell", "sizes"]
  d_law_is_fraction : DefAt K mg "_law_is_fraction" "_law_is_fraction" s_law_is_fraction ["value"]
  d_law_cell : DefAt K mg "_law_cell" "_law_cell" s_law_cell ["script", "k"]
  d_added : DefAt K mg "added" "added" s_added ["one", "two"]
  d_less : DefAt K mg "less" "less" s_less ["one", "two"]
  d_law_difference : DefAt K mg "_law_difference" "_law_difference" s_law_difference ["one", "two"]
  d_timed : DefAt K mg "timed" "timed" s_timed ["one", "two"]
  d_law_timed : DefAt K mg "_law_timed" "_law_timed" s_law_timed ["one", "two"]
  d_compare : DefAt K mg "compare" "compare" s_compare ["one", "two"]
  d_fraction_sum : DefAt K mg "fraction_sum" "fraction_sum" s_fraction_sum ["values"]
  g_gcd : mg "gcd" = some (.builtin "math.gcd")
  e0_ZeroBottom : Err0 K mg "ZeroBottom"
  h_BookError : ClauseAt K mg "BookError" al_BookError
  y_BadCount : AskOwn K mg "BadCount" al_BadCount
  y_BadLot : AskOwn K mg "BadLot" al_BadLot
  y_BadSize : AskOwn K mg "BadSize" al_BadSize
  y_BadTable : AskOwn K mg "BadTable" al_BadTable
  y_SizesDiffer : AskOwn K mg "SizesDiffer" al_SizesDiffer
  y_ValueError : AskAt K mg (.type "ValueError") al_ValueError
  y_ZeroBottom : AskOwn K mg "ZeroBottom" al_ZeroBottom
  xc : ErrsC K mg ["ZeroBottom"]
  z_ValueError : mg "ValueError" = none
  z_abs : mg "abs" = none
  z_bool : mg "bool" = none
  z_int : mg "int" = none
  z_isinstance : mg "isinstance" = none
  z_len : mg "len" = none
  z_list : mg "list" = none
  z_range : mg "range" = none
  z_str : mg "str" = none
  z_tuple : mg "tuple" = none
/-! _law_odd -/
theorem sc_law_odd : FnScope ["row", "odd", "one"] ["row"] (defScope s_law_odd) := ⟨rfl, rfl, rfl, by decide +kernel, rfl, by decide +kernel, by decide +kernel⟩
theorem ok_law_odd {P : Program} {w : World} {K : PySem.W.Frag} {mg : Str → Option Value} {base : Heap} (T : Txt K mg) : Keeps P w K mg base "_law_odd" 1 ["row"] 1 .ow m_law_odd :=
  keeps_of T.d_law_odd sc_law_odd (by decide) fun f cdv A outer s H E hr =>
    (js_cons (js_set 1 (je_lst (md := .ow) (ja_cons (je_tup (ja_cons je_int (ja_cons je_int ja_nil))) (ja_cons (je_tup (ja_cons je_int (ja_cons je_int ja_nil))) (ja_cons (je_tup (ja_cons je_int (ja_cons je_int ja_nil))) (ja_cons (je_tup (ja_cons je_int (ja_cons (je_neg je_int) ja_nil))) (ja_cons (je_tup (ja_cons je_int (ja_cons (je_neg je_int) ja_nil))) (ja_cons (je_share (je_lst (md := .ow) (ja_cons je_int (ja_cons je_int ja_nil)))) (ja_cons (je_share (je_lst (md := .ow) (ja_cons je_int (ja_cons je_int ja_nil)))) (ja_cons (je_tup (ja_cons je_bl (ja_cons je_int ja_nil))) (ja_cons (je_tup (ja_cons je_int (ja_cons je_bl ja_nil))) (ja_cons (je_tup (ja_cons je_bl (ja_cons je_int ja_nil))) (ja_cons je_int (ja_cons je_int (ja_cons je_non (ja_cons (je_tup (ja_cons je_int (ja_cons je_int (ja_cons je_int ja_nil)))) (ja_cons (je_tup (ja_cons je_int ja_nil)) (ja_cons je_str (ja_cons je_str (ja_cons (je_tup ja_nil) (ja_cons (je_share (je_lst (md := .ow) ja_nil)) (ja_cons je_str ja_nil))))))))))))))))))))) sc_law_odd.nd)
    (js_cons (js_weak1 (m := [.sh, .ow, .sh]) (m1 := [.sh, .sh, .sh]) (js_set 1 (je_addL (je_var 1) (je_share (je_lst (md := .ow) (ja_cons (je_tup (ja_cons je_int (ja_cons je_int ja_nil))) (ja_cons (je_tup (ja_cons (je_tup (ja_cons je_int (ja_cons je_int ja_nil))) ja_nil)) (ja_cons (je_tup (ja_cons je_int (ja_cons je_non ja_nil))) (ja_cons (je_tup (ja_cons je_str (ja_cons je_int ja_nil))) (ja_cons (je_tup (ja_cons (je_tup (ja_cons je_int (ja_cons je_int ja_nil))) (ja_cons je_int ja_nil))) (ja_cons (je_tup (ja_cons (je_share (je_lst (md := .ow) (ja_cons je_int ja_nil))) (ja_cons je_int ja_nil))) (ja_cons (je_tup (ja_cons je_int (ja_cons (je_tup (ja_cons je_int ja_nil)) ja_nil))) (ja_cons je_bl (ja_cons je_bl (ja_cons (je_item (je_item (je_var 0) je_int) je_int) (ja_cons (je_share (je_lst (md := .ow) (ja_cons (je_item (je_item (je_var 0) je_int) je_int) (ja_cons (je_item (je_item (je_var 0) je_int) je_int) ja_nil)))) ja_nil)))))))))))))) sc_law_odd.nd))
    (js_cons (js_for (ji_seq (je_var 0)) (jg_name 2 sc_law_odd.nd) (jss_fgt [2] (js_cons (js_app 1 (je_tup (ja_cons (je_sub je_int (je_item (je_var 2) je_int)) (ja_cons (je_sub je_int (je_item (je_var 2) je_int)) ja_nil))))
    (js_one (js_fgt [] (js_if (JW.jt (jw_and (jt_lt (je_abs T.z_abs (ja_cons (je_item (je_var 2) je_int) ja_nil)) (je_pow je_int je_int)) (jw_and1 (jt_lt (je_item (je_var 2) je_int) (je_pow je_int je_int))))) (js_one (js_app 1 (je_tup (ja_cons (je_mulI je_int (je_item (je_var 2) je_int)) (ja_cons (je_mulI je_int (je_item (je_var 2) je_int)) ja_nil))))) js_nil))))) (passes_of rfl))
    (js_one (js_retV 1)))))
/-! ratio -/
theorem sc_ratio : FnScope ["top", "bottom", "common"] ["top", "bottom"] (defScope s_ratio) := ⟨rfl, rfl, rfl, by decide +kernel, rfl, by decide +kernel, by decide +kernel⟩
theorem ok_ratio {P : Program} {w : World} {K : PySem.W.Frag} {mg : Str → Option Value} {base : Heap} (T : Txt K mg) : Keeps P w K mg base "ratio" 1 ["top", "bottom"] 2 .sh m_ratio :=
  keeps_of T.d_ratio sc_ratio (by decide) fun f cdv A outer s H E hr =>
    (js_cons (js_if (jt_eq hr.u (je_var 1) je_int) (js_one (js_raise0 T.e0_ZeroBottom (takes_of rfl rfl rfl rfl))) js_nil)
    (js_cons (js_set 2 (je_gcd T.g_gcd (ja_cons (je_var 0) (ja_cons (je_var 1) ja_nil))) sc_ratio.nd)
    (js_cons (js_fgt [] (js_if (jt_lt (je_var 1) je_int) (js_one (js_set 2 (je_neg (je_var 2)) sc_ratio.nd)) js_nil))
    (js_one (js_ret (je_tup (ja_cons (je_div (je_var 0) (je_var 2)) (ja_cons (je_div (je_var 1) (je_var 2)) ja_nil))))))))
/-! _law_number -/
theorem sc_law_number : FnScope ["row", "big"] ["row"] (defScope s_law_number) := ⟨rfl, rfl, rfl, by decide +kernel, rfl, by decide +kernel, by decide +kernel⟩
theorem ok_law_number {P : Program} {w : World} {K : PySem.W.Frag} {mg : Str → Option Value} {base : Heap} (T : Txt K mg) : Keeps P w K mg base "_law_number" 1 ["row"] 1 .sh m_law_number :=
  keeps_of T.d_law_number sc_law_number (by decide) fun f cdv A outer s H E hr =>
    (js_cons (js_set 1 (je_add (je_add (je_mulI (je_item (je_var 0) je_int) (je_pow je_int je_int)) (je_mulI (je_item (je_var 0) je_int) (je_pow je_int je_int))) (je_item (je_var 0) je_int)) sc_law_number.nd)
    (js_one (js_ret (je_item (je_share (je_lst (md := .ow) (ja_cons (je_sub (je_item (je_var 0) je_int) je_int) (ja_cons (je_item (je_var 0) je_int) (ja_cons (je_sub (je_item (je_var 0) je_int) je_int) (ja_cons (je_var 1) (ja_cons (je_sub je_int (je_var 1)) (ja_cons je_int ja_nil)))))))) (je_item (je_var 0) je_int)))))
/-! _law_whole -/
theorem sc_law_whole : FnScope ["value"] ["value"] (defScope s_law_whole) := ⟨rfl, rfl, rfl, by decide +kernel, rfl, by decide +kernel, by decide +kernel⟩
theorem ok_law_whole {P : Program} {w : World} {K : PySem.W.Frag} {mg : Str → Option Value} {base : Heap} (T : Txt K mg) : Keeps P w K mg base "_law_whole" 1 ["value"] 1 .sh m_law_whole :=
  keeps_of T.d_law_whole sc_law_whole (by decide) fun f cdv A outer s H E hr =>
    (js_one (js_ret (je_and (je_isi "int" T.z_isinstance T.z_int (je_var 0)) (je_last (je_not (je_isi "bool" T.z_isinstance T.z_bool (je_var 0)))))))
/-! _law_same -/
theorem sc_law_same : FnScope ["value", "due", "k"] ["value", "due"] (defScope s_law_same) := ⟨rfl, rfl, rfl, by decide +kernel, rfl, by decide +kernel, by decide +kernel⟩
theorem okr_law_same {P : Program} {w : World} {K : PySem.W.Frag} {mg : Str → Option Value} {base : Heap} (T : Txt K mg) : ∀ n, Keeps P w K mg base "_law_same" (1 + n) ["value", "due"] 2 .sh (r_law_same n)
  | 0 => keeps_er T.d_law_same
  | n + 1 => by
    have IH := okr_law_same (P := P) (w := w) (base := base) T n
    exact keeps_of T.d_law_same sc_law_same (by decide) fun f cdv A outer s H E hr =>
    (js_cons (js_if (JW.jt (jw_or (jt_tr (je_isi "tuple" T.z_isinstance T.z_tuple (je_var 1))) (jw_or1 (jt_tr (je_isi "list" T.z_isinstance T.z_list (je_var 1)))))) (js_cons (js_if (JW.jt (jw_or (jt_not (jt_tr (je_isi "tuple" T.z_isinstance T.z_tuple (je_var 0)))) (jw_or1 (jt_ne hr.u (je_len T.z_len (ja_cons (je_var 0) ja_nil)) (je_len T.z_len (ja_cons (je_var 1) ja_nil)))))) (js_one (js_ret je_bl)) js_nil)
    (js_cons (js_for (ji_range1 (ja_cons (je_len T.z_len (ja_cons (je_var 1) ja_nil)) ja_nil) T.z_range) (jg_name 2 sc_law_same.nd) (jss_fgt [2] (js_one (js_if (jt_not (jt_tr (je_call IH (hr.mono (Nat.le_refl _)) (takes_of rfl rfl rfl rfl) (ja_cons (je_item (je_var 0) (je_var 2)) (ja_cons (je_item (je_var 1) (je_var 2)) ja_nil))))) (js_one (js_ret je_bl)) js_nil))) (passes_of rfl))
    (js_one (js_ret je_bl)))) js_nil)
    (js_cons (js_if (jt_isN (je_var 1)) (js_one (js_ret (je_isN (je_var 0)))) js_nil)
    (js_cons (js_if (jt_isB (je_var 1)) (js_one (js_ret (je_isB (je_var 0)))) js_nil)
    (js_cons (js_if (jt_isB (je_var 1)) (js_one (js_ret (je_isB (je_var 0)))) js_nil)
    (js_cons (js_if (jt_tr (je_isi "str" T.z_isinstance T.z_str (je_var 1))) (js_one (js_ret (je_and (je_isi "str" T.z_isinstance T.z_str (je_var 0)) (je_last (je_eq hr.u (je_var 0) (je_var 1)))))) js_nil)
    (js_one (js_ret (je_and (je_call (ok_law_whole T) (hr.mono (Nat.le_trans (show 1 ≤ 1 by decide) (Nat.le_add_right 1 n))) (takes_of rfl rfl rfl rfl) (ja_cons (je_var 0) ja_nil)) (je_last (je_eq hr.u (je_var 0) (je_var 1)))))))))))
theorem ok_law_same {P : Program} {w : World} {K : PySem.W.Frag} {mg : Str → Option Value} {base : Heap} (T : Txt K mg) : Keeps P w K mg base "_law_same" 7 ["value", "due"] 2 .sh m_law_same := okr_law_same T 6
/-! _law_gcd -/
theorem sc_law_gcd : FnScope ["a", "b", "one", "two", "step", "rest"] ["a", "b"] (defScope s_law_gcd) := ⟨rfl, rfl, rfl, by decide +kernel, rfl, by decide +kernel, by decide +kernel⟩
theorem ok_law_gcd {P : Program} {w : World} {K : PySem.W.Frag} {mg : Str → Option Value} {base : Heap} (T : Txt K mg) : Keeps P w K mg base "_law_gcd" 1 ["a", "b"] 2 .sh m_law_gcd :=
  keeps_of T.d_law_gcd sc_law_gcd (by decide) fun f cdv A outer s H E hr =>
    (js_cons (js_set 2 (je_abs T.z_abs (ja_cons (je_int_ T.z_int (ja_cons (je_var 0) ja_nil)) ja_nil)) sc_law_gcd.nd)
    (js_cons (js_set 3 (je_abs T.z_abs (ja_cons (je_int_ T.z_int (ja_cons (je_var 1) ja_nil)) ja_nil)) sc_law_gcd.nd)
    (js_cons (js_for (ji_range1 (ja_cons je_int ja_nil) T.z_range) (jg_name 4 sc_law_gcd.nd) (jss_fgt [4, 5] (js_cons (js_if (jt_eq hr.u (je_var 3) je_int) (js_one js_break) js_nil)
    (js_cons (js_set 5 (je_mod (je_int_ T.z_int (ja_cons (je_var 2) ja_nil)) (je_var 3)) sc_law_gcd.nd)
    (js_cons (js_set 2 (je_var 3) sc_law_gcd.nd)
    (js_one (js_set 3 (je_var 5) sc_law_gcd.nd)))))) (passes_of rfl))
    (js_one (js_retV 2)))))
/-! _law_fraction -/
theorem sc_law_fraction : FnScope ["top", "bottom", "common"] ["top", "bottom"] (defScope s_law_fraction) := ⟨rfl, rfl, rfl, by decide +kernel, rfl, by decide +kernel, by decide +kernel⟩
theorem okr_law_fraction {P : Program} {w : World} {K : PySem.W.Frag} {mg : Str → Option Value} {base : Heap} (T : Txt K mg) : ∀ n, Keeps P w K mg base "_law_fraction" (1 + n) ["top", "bottom"] 2 .sh (r_law_fraction n)
  | 0 => keeps_er T.d_law_fraction
  | n + 1 => by
    have IH := okr_law_fraction (P := P) (w := w) (base := base) T n
    exact keeps_of T.d_law_fraction sc_law_fraction (by decide) fun f cdv A outer s H E hr =>
    (js_cons (js_if (jt_lt (je_var 1) je_int) (js_one (js_ret (je_call IH (hr.mono (Nat.le_refl _)) (takes_of rfl rfl rfl rfl) (ja_cons (je_neg (je_var 0)) (ja_cons (je_neg (je_var 1)) ja_nil))))) js_nil)
    (js_cons (js_set 2 (je_call (ok_law_gcd T) (hr.mono (Nat.le_trans (show 1 ≤ 1 by decide) (Nat.le_add_right 1 n))) (takes_of rfl rfl rfl rfl) (ja_cons (je_var 0) (ja_cons (je_var 1) ja_nil))) sc_law_fraction.nd)
    (js_one (js_ret (je_tup (ja_cons (je_div (je_var 0) (je_var 2)) (ja_cons (je_div (je_var 1) (je_var 2)) ja_nil)))))))
theorem ok_law_fraction {P : Program} {w : World} {K : PySem.W.Frag} {mg : Str → Option Value} {base : Heap} (T : Txt K mg) : Keeps P w K mg base "_law_fraction" 7 ["top", "bottom"] 2 .sh m_law_fraction := okr_law_fraction T 6
/-! _law_added -/
theorem sc_law_added : FnScope ["one", "two"] ["one", "two"] (defScope s_law_added) := ⟨rfl, rfl, rfl, by decide +kernel, rfl, by decide +kernel, by decide +kernel⟩
theorem ok_law_added {P : Program} {w : World} {K : PySem.W.Frag} {mg : Str → Option Value} {base : Heap} (T : Txt K mg) : Keeps P w K mg base "_law_added" 8 ["one", "two"] 2 .sh m_law_added :=
  keeps_of T.d_law_added sc_law_added (by decide) fun f cdv A outer s H E hr =>
    (js_one (js_ret (je_call (ok_law_fraction T) (hr.mono (by decide)) (takes_of rfl rfl rfl rfl) (ja_cons (je_add (je_mulI (je_item (je_var 0) je_int) (je_item (je_var 1) je_int)) (je_mulI (je_item (je_var 1) je_int) (je_item (je_var 0) je_int))) (ja_cons (je_mulI (je_item (je_var 0) je_int) (je_item (je_var 1) je_int)) ja_nil)))))
/-! over -/
theorem sc_over : FnScope ["one", "two"] ["one", "two"] (defScope s_over) := ⟨rfl, rfl, rfl, by decide +kernel, rfl, by decide +kernel, by decide +kernel⟩
theorem ok_over {P : Program} {w : World} {K : PySem.W.Frag} {mg : Str → Option Value} {base : Heap} (T : Txt K mg) : Keeps P w K mg base "over" 2 ["one", "two"] 2 .sh m_over :=
  keeps_of T.d_over sc_over (by decide) fun f cdv A outer s H E hr =>
    (js_one (js_ret (je_call (ok_ratio T) (hr.mono (by decide)) (takes_of rfl rfl rfl rfl) (ja_cons (je_mulI (je_item (je_var 0) je_int) (je_item (je_var 1) je_int)) (ja_cons (je_mulI (je_item (je_var 0) je_int) (je_item (je_var 1) je_int)) ja_nil)))))
/-! _law_no_bottom -/
theorem sc_law_no_bottom : FnScope ["door", "one", "e", "others"] ["door", "one"] (defScope s_law_no_bottom) := ⟨rfl, rfl, rfl, by decide +kernel, rfl, by decide +kernel, by decide +kernel⟩
theorem ok_law_no_bottom {P : Program} {w : World} {K : PySem.W.Frag} {mg : Str → Option Value} {base : Heap} (T : Txt K mg) : Keeps P w K mg base "_law_no_bottom" 3 ["door", "one"] 2 .sh m_law_no_bottom :=
  keeps_of T.d_law_no_bottom sc_law_no_bottom (by decide) fun f cdv A outer s H E hr =>
    (js_one (js_tryN 2 4 (takes_of rfl rfl rfl rfl) T.h_BookError (fun W pn xe tk1 po1 => (js_cons (js_fgt [] (js_if (jt_eq hr.u (je_var 0) je_int) (js_one (js_drop (je_call (ok_ratio T) (hr.mono (by decide)) tk1 (ja_cons (je_item (je_var 1) je_int) (ja_cons je_int ja_nil))))) (js_one (js_fgt [] (js_if (jt_eq hr.u (je_var 0) je_int) (js_one (js_drop (je_call (ok_over T) (hr.mono (by decide)) tk1 (ja_cons (je_var 1) (ja_cons (je_tup (ja_cons je_int (ja_cons je_int ja_nil))) ja_nil))))) (js_one (js_drop (je_call (ok_over T) (hr.mono (by decide)) tk1 (ja_cons (je_share ((je_list (md := .ow)) T.z_list (ja_cons (je_var 1) ja_nil))) (ja_cons (je_share (je_lst (md := .ow) (ja_cons je_int (ja_cons je_int ja_nil)))) ja_nil))))))))))
    (js_one (js_ret je_bl)))) (fun a oe cls d pn hz hf => (js_cons (js_set 3 (je_lst (md := .ow) (ja_cons (je_isEO 2 hz hf T.z_isinstance T.y_BadLot T.xc) (ja_cons (je_isEO 2 hz hf T.z_isinstance T.y_BadSize T.xc) (ja_cons (je_isEO 2 hz hf T.z_isinstance T.y_BadTable T.xc) (ja_cons (je_isEO 2 hz hf T.z_isinstance T.y_SizesDiffer T.xc) (ja_cons (je_isEO 2 hz hf T.z_isinstance T.y_BadCount T.xc) ja_nil)))))) sc_law_no_bottom.nd)
    (js_one (js_ret (je_and (je_isEO 2 hz hf T.z_isinstance T.y_ZeroBottom T.xc) (je_and (je_isEB 2 "ValueError" hz hf T.z_isinstance T.z_ValueError T.y_ValueError (ErrsC.of T.xc (by decide))) (je_last (je_borrow (m1 := msh 4) (je_notIn hr.u je_bl (je_var 3)))))))))) sc_law_no_bottom.nd))
/-! is_number -/
theorem sc_is_number : FnScope ["value"] ["value"] (defScope s_is_number) := ⟨rfl, rfl, rfl, by decide +kernel, rfl, by decide +kernel, by decide +kernel⟩
theorem ok_is_number {P : Program} {w : World} {K : PySem.W.Frag} {mg : Str → Option Value} {base : Heap} (T : Txt K mg) : Keeps P w K mg base "is_number" 1 ["value"] 1 .sh m_is_number :=
  keeps_of T.d_is_number sc_is_number (by decide) fun f cdv A outer s H E hr =>
    (js_one (js_ret (je_and (je_isi "int" T.z_isinstance T.z_int (je_var 0)) (je_last (je_not (je_isi "bool" T.z_isinstance T.z_bool (je_var 0)))))))
/-! is_fraction -/
theorem sc_is_fraction : FnScope ["value"] ["value"] (defScope s_is_fraction) := ⟨rfl, rfl, rfl, by decide +kernel, rfl, by decide +kernel, by decide +kernel⟩
theorem ok_is_fraction {P : Program} {w : World} {K : PySem.W.Frag} {mg : Str → Option Value} {base : Heap} (T : Txt K mg) : Keeps P w K mg base "is_fraction" 2 ["value"] 1 .sh m_is_fraction :=
  keeps_of T.d_is_fraction sc_is_fraction (by decide) fun f cdv A outer s H E hr =>
    (js_cons (js_if (JW.jt (jw_or (jt_not (jt_tr (je_isi "tuple" T.z_isinstance T.z_tuple (je_var 0)))) (jw_or1 (jt_ne hr.u (je_len T.z_len (ja_cons (je_var 0) ja_nil)) je_int)))) (js_one (js_ret je_bl)) js_nil)
    (js_cons (js_if (JW.jt (jw_or (jt_not (jt_tr (je_call (ok_is_number T) (hr.mono (by decide)) (takes_of rfl rfl rfl rfl) (ja_cons (je_item (je_var 0) je_int) ja_nil)))) (jw_or1 (jt_not (jt_tr (je_call (ok_is_number T) (hr.mono (by decide)) (takes_of rfl rfl rfl rfl) (ja_cons (je_item (je_var 0) je_int) ja_nil))))))) (js_one (js_ret je_bl)) js_nil)
    (js_one (js_ret (je_and (je_ge (je_item (je_var 0) je_int) je_int) (je_last (je_eq hr.u (je_gcd T.g_gcd (ja_cons (je_item (je_var 0) je_int) (ja_cons (je_item (je_var 0) je_int) ja_nil))) je_int)))))))
/-! _law_digits -/
theorem sc_law_digits : FnScope ["cell", "sizes", "row", "rest", "seed", "k", "size", "twice"] ["cell", "sizes"] (defScope s_law_digits) := ⟨rfl, rfl, rfl, by decide +kernel, rfl, by decide +kernel, by decide +kernel⟩
theorem ok_law_digits {P : Program} {w : World} {K : PySem.W.Frag} {mg : Str → Option Value} {base : Heap} (T : Txt K mg) : Keeps P w K mg base "_law_digits" 1 ["cell", "sizes"] 2 .ow m_law_digits :=
  keeps_of T.d_law_digits sc_law_digits (by decide) fun f cdv A outer s H E hr =>
    (js_cons (js_set 2 (je_lst (md := .ow) ja_nil) sc_law_digits.nd)
    (js_cons (js_set 3 (je_int_ T.z_int (ja_cons (je_var 0) ja_nil)) sc_law_digits.nd)
    (js_cons (js_if (jt_ge (je_var 3) (je_pow je_int je_int)) (js_cons (js_set 3 (je_sub (je_var 3) (je_pow je_int je_int)) sc_law_digits.nd)
    (js_cons (js_for (ji_seq (je_var 1)) (jg_name 6 sc_law_digits.nd) (jss_fgt [6] (js_cons (js_app 2 (je_mod (je_int_ T.z_int (ja_cons (je_var 3) ja_nil)) (je_var 6)))
    (js_one (js_set 3 (je_div (je_int_ T.z_int (ja_cons (je_var 3) ja_nil)) (je_var 6)) sc_law_digits.nd)))) (passes_of rfl))
    (js_one (js_retV 2)))) js_nil)
    (js_cons (js_set 4 (je_mod (je_int_ T.z_int (ja_cons (je_var 3) ja_nil)) je_int) sc_law_digits.nd)
    (js_cons (js_for (ji_range1 (ja_cons (je_len T.z_len (ja_cons (je_var 1) ja_nil)) ja_nil) T.z_range) (jg_name 5 sc_law_digits.nd) (jss_fgt [5, 7] (js_cons (js_set 4 (je_mod (je_int_ T.z_int (ja_cons (je_add (je_add (je_mulI (je_var 4) je_int) (je_mulI je_int (je_var 5))) je_int) ja_nil)) je_int) sc_law_digits.nd)
    (js_cons (js_set 7 (je_mod (je_int_ T.z_int (ja_cons (je_mulI (je_var 4) (je_add (je_div (je_var 4) je_int) je_int)) ja_nil)) je_int) sc_law_digits.nd)
    (js_one (js_app 2 (je_mod (je_div (je_var 7) je_int) (je_item (je_var 1) (je_var 5)))))))) (passes_of rfl))
    (js_one (js_retV 2)))))))
/-! _law_is_fraction -/
theorem sc_law_is_fraction : FnScope ["value"] ["value"] (defScope s_law_is_fraction) := ⟨rfl, rfl, rfl, by decide +kernel, rfl, by decide +kernel, by decide +kernel⟩
theorem ok_law_is_fraction {P : Program} {w : World} {K : PySem.W.Frag} {mg : Str → Option Value} {base : Heap} (T : Txt K mg) : Keeps P w K mg base "_law_is_fraction" 2 ["value"] 1 .sh m_law_is_fraction :=
  keeps_of T.d_law_is_fraction sc_law_is_fraction (by decide) fun f cdv A outer s H E hr =>
    (js_cons (js_if (JW.jt (jw_or (jt_not (jt_tr (je_isi "tuple" T.z_isinstance T.z_tuple (je_var 0)))) (jw_or1 (jt_ne hr.u (je_len T.z_len (ja_cons (je_var 0) ja_nil)) je_int)))) (js_one (js_ret je_bl)) js_nil)
    (js_cons (js_if (JW.jt (jw_or (jt_not (jt_tr (je_call (ok_law_whole T) (hr.mono (by decide)) (takes_of rfl rfl rfl rfl) (ja_cons (je_item (je_var 0) je_int) ja_nil)))) (jw_or (jt_not (jt_tr (je_call (ok_law_whole T) (hr.mono (by decide)) (takes_of rfl rfl rfl rfl) (ja_cons (je_item (je_var 0) je_int) ja_nil)))) (jw_or1 (jt_lt (je_item (je_var 0) je_int) je_int))))) (js_one (js_ret je_bl)) js_nil)
    (js_one (js_ret (je_eq hr.u (je_call (ok_law_gcd T) (hr.mono (by decide)) (takes_of rfl rfl rfl rfl) (ja_cons (je_item (je_var 0) je_int) (ja_cons (je_item (je_var 0) je_int) ja_nil))) je_int)))))
/-! _law_cell -/
theorem sc_law_cell : FnScope ["script", "k", "seed", "cell"] ["script", "k"] (defScope s_law_cell) := ⟨rfl, rfl, rfl, by decide +kernel, rfl, by decide +kernel, by decide +kernel⟩
theorem ok_law_cell {P : Program} {w : World} {K : PySem.W.Frag} {mg : Str → Option Value} {base : Heap} (T : Txt K mg) : Keeps P w K mg base "_law_cell" 1 ["script", "k"] 2 .sh m_law_cell :=
  keeps_of T.d_law_cell sc_law_cell (by decide) fun f cdv A outer s H E hr =>
    (js_cons (js_if (jt_lt (je_var 1) (je_len T.z_len (ja_cons (je_var 0) ja_nil))) (js_one (js_ret (je_item (je_var 0) (je_var 1)))) js_nil)
    (js_cons (js_set 2 je_int sc_law_cell.nd)
    (js_cons (js_for (ji_seq (je_var 0)) (jg_name 3 sc_law_cell.nd) (jss_fgt [3] (js_one (js_set 2 (je_mod (je_int_ T.z_int (ja_cons (je_add (je_mulI (je_var 2) je_int) (je_mod (je_int_ T.z_int (ja_cons (je_var 3) ja_nil)) je_int)) ja_nil)) je_int) sc_law_cell.nd))) (passes_of rfl))
    (js_one (js_ret (je_mod (je_int_ T.z_int (ja_cons (je_mulI (je_mulI (je_add (je_var 2) je_int) (je_add (je_var 1) je_int)) je_int) ja_nil)) je_int))))))
/-! added -/
theorem sc_added : FnScope ["one", "two"] ["one", "two"] (defScope s_added) := ⟨rfl, rfl, rfl, by decide +kernel, rfl, by decide +kernel, by decide +kernel⟩
theorem ok_added {P : Program} {w : World} {K : PySem.W.Frag} {mg : Str → Option Value} {base : Heap} (T : Txt K mg) : Keeps P w K mg base "added" 2 ["one", "two"] 2 .sh m_added :=
  keeps_of T.d_added sc_added (by decide) fun f cdv A outer s H E hr =>
    (js_one (js_ret (je_call (ok_ratio T) (hr.mono (by decide)) (takes_of rfl rfl rfl rfl) (ja_cons (je_add (je_mulI (je_item (je_var 0) je_int) (je_item (je_var 1) je_int)) (je_mulI (je_item (je_var 1) je_int) (je_item (je_var 0) je_int))) (ja_cons (je_mulI (je_item (je_var 0) je_int) (je_item (je_var 1) je_int)) ja_nil)))))
/-! less -/
theorem sc_less : FnScope ["one", "two"] ["one", "two"] (defScope s_less) := ⟨rfl, rfl, rfl, by decide +kernel, rfl, by decide +kernel, by decide +kernel⟩
theorem ok_less {P : Program} {w : World} {K : PySem.W.Frag} {mg : Str → Option Value} {base : Heap} (T : Txt K mg) : Keeps P w K mg base "less" 2 ["one", "two"] 2 .sh m_less :=
  keeps_of T.d_less sc_less (by decide) fun f cdv A outer s H E hr =>
    (js_one (js_ret (je_call (ok_ratio T) (hr.mono (by decide)) (takes_of rfl rfl rfl rfl) (ja_cons (je_sub (je_mulI (je_item (je_var 0) je_int) (je_item (je_var 1) je_int)) (je_mulI (je_item (je_var 1) je_int) (je_item (je_var 0) je_int))) (ja_cons (je_mulI (je_item (je_var 0) je_int) (je_item (je_var 1) je_int)) ja_nil)))))
/-! _law_difference -/
theorem sc_law_difference : FnScope ["one", "two"] ["one", "two"] (defScope s_law_difference) := ⟨rfl, rfl, rfl, by decide +kernel, rfl, by decide +kernel, by decide +kernel⟩
theorem ok_law_difference {P : Program} {w : World} {K : PySem.W.Frag} {mg : Str → Option Value} {base : Heap} (T : Txt K mg) : Keeps P w K mg base "_law_difference" 9 ["one", "two"] 2 .sh m_law_difference :=
  keeps_of T.d_law_difference sc_law_difference (by decide) fun f cdv A outer s H E hr =>
    (js_one (js_ret (je_call (ok_law_added T) (hr.mono (by decide)) (takes_of rfl rfl rfl rfl) (ja_cons (je_var 0) (ja_cons (je_tup (ja_cons (je_sub je_int (je_item (je_var 1) je_int)) (ja_cons (je_item (je_var 1) je_int) ja_nil))) ja_nil)))))
/-! timed -/
theorem sc_timed : FnScope ["one", "two"] ["one", "two"] (defScope s_timed) := ⟨rfl, rfl, rfl, by decide +kernel, rfl, by decide +kernel, by decide +kernel⟩
theorem ok_timed {P : Program} {w : World} {K : PySem.W.Frag} {mg : Str → Option Value} {base : Heap} (T : Txt K mg) : Keeps P w K mg base "timed" 2 ["one", "two"] 2 .sh m_timed :=
  keeps_of T.d_timed sc_timed (by decide) fun f cdv A outer s H E hr =>
    (js_one (js_ret (je_call (ok_ratio T) (hr.mono (by decide)) (takes_of rfl rfl rfl rfl) (ja_cons (je_mulI (je_item (je_var 0) je_int) (je_item (je_var 1) je_int)) (ja_cons (je_mulI (je_item (je_var 0) je_int) (je_item (je_var 1) je_int)) ja_nil)))))
/-! _law_timed -/
theorem sc_law_timed : FnScope ["one", "two"] ["one", "two"] (defScope s_law_timed) := ⟨rfl, rfl, rfl, by decide +kernel, rfl, by decide +kernel, by decide +kernel⟩
theorem ok_law_timed {P : Program} {w : World} {K : PySem.W.Frag} {mg : Str → Option Value} {base : Heap} (T : Txt K mg) : Keeps P w K mg base "_law_timed" 8 ["one", "two"] 2 .sh m_law_timed :=
  keeps_of T.d_law_timed sc_law_timed (by decide) fun f cdv A outer s H E hr =>
    (js_one (js_ret (je_call (ok_law_fraction T) (hr.mono (by decide)) (takes_of rfl rfl rfl rfl) (ja_cons (je_mulI (je_item (je_var 0) je_int) (je_item (je_var 1) je_int)) (ja_cons (je_mulI (je_item (je_var 0) je_int) (je_item (je_var 1) je_int)) ja_nil)))))
/-! compare -/
theorem sc_compare : FnScope ["one", "two", "left", "right"] ["one", "two"] (defScope s_compare) := ⟨rfl, rfl, rfl, by decide +kernel, rfl, by decide +kernel, by decide +kernel⟩
theorem ok_compare {P : Program} {w : World} {K : PySem.W.Frag} {mg : Str → Option Value} {base : Heap} (T : Txt K mg) : Keeps P w K mg base "compare" 1 ["one", "two"] 2 .sh m_compare :=
  keeps_of T.d_compare sc_compare (by decide) fun f cdv A outer s H E hr =>
    (js_cons (js_set 2 (je_mulI (je_item (je_var 0) je_int) (je_item (je_var 1) je_int)) sc_compare.nd)
    (js_cons (js_set 3 (je_mulI (je_item (je_var 1) je_int) (je_item (je_var 0) je_int)) sc_compare.nd)
    (js_cons (js_if (jt_lt (je_var 2) (je_var 3)) (js_one (js_ret (je_neg je_int))) js_nil)
    (js_cons (js_if (jt_gt (je_var 2) (je_var 3)) (js_one (js_ret je_int)) js_nil)
    (js_one (js_ret je_int))))))
/-! fraction_sum -/
theorem sc_fraction_sum : FnScope ["values", "total", "value"] ["values"] (defScope s_fraction_sum) := ⟨rfl, rfl, rfl, by decide +kernel, rfl, by decide +kernel, by decide +kernel⟩
theorem ok_fraction_sum {P : Program} {w : World} {K : PySem.W.Frag} {mg : Str → Option Value} {base : Heap} (T : Txt K mg) : Keeps P w K mg base "fraction_sum" 3 ["values"] 1 .sh m_fraction_sum :=
  keeps_of T.d_fraction_sum sc_fraction_sum (by decide) fun f cdv A outer s H E hr =>
    (js_cons (js_set 1 (je_tup (ja_cons je_int (ja_cons je_int ja_nil))) sc_fraction_sum.nd)
    (js_cons (js_for (ji_seq (je_var 0)) (jg_name 2 sc_fraction_sum.nd) (jss_fgt [2] (js_one (js_set 1 (je_call (ok_added T) (hr.mono (by decide)) (takes_of rfl rfl rfl rfl) (ja_cons (je_var 1) (ja_cons (je_var 2) ja_nil))) sc_fraction_sum.nd))) (passes_of rfl))
    (js_one (js_retV 1))))
/-! law -/
theorem sc_law : FnScope ["script", "numbers", "k", "row", "shared", "top", "bottom", "one", "total", "value", "told", "two", "sign"] ["script"] (defScope s_law) := ⟨rfl, rfl, rfl, by decide +kernel, rfl, by decide +kernel, by decide +kernel⟩
theorem okf_law {P : Program} {w : World} {K : PySem.W.Frag} {mg : Str → Option Value} {base : Heap} (T : Txt K mg) {f : Addr} {fd : FuncData} (Fn : Fun K "law" "law" s_law f fd) : FnOk P w K mg base (L2.CX P w) 10 f fd ["script"] (spD K mg 1 .sh m_law) :=
  fn_ok (m' := msh 13) Fn sc_law (by decide) fun cdv A outer s H E hr =>
    (js_cons (js_set 1 (je_lst (md := .ow) ja_nil) sc_law.nd)
    (js_cons (js_for (ji_range1 (ja_cons je_int ja_nil) T.z_range) (jg_name 2 sc_law.nd) (jss_fgt [2] (js_one (js_app 1 (je_call (ok_law_number T) (hr.mono (by decide)) (takes_of rfl rfl rfl rfl) (ja_cons (je_share (je_call (ok_law_digits T) (hr.mono (by decide)) (takes_of rfl rfl rfl rfl) (ja_cons (je_call (ok_law_cell T) (hr.mono (by decide)) (takes_of rfl rfl rfl rfl) (ja_cons (je_var 0) (ja_cons (je_var 2) ja_nil))) (ja_cons (je_share (je_lst (md := .ow) (ja_cons je_int (ja_cons je_int (ja_cons je_int (ja_cons (je_pow je_int je_int) (ja_cons je_int (ja_cons (je_pow je_int je_int) (ja_cons (je_pow je_int je_int) ja_nil))))))))) ja_nil)))) ja_nil))))) (passes_of rfl))
    (js_cons (js_set 3 (je_lst (md := .ow) ja_nil) sc_law.nd)
    (js_cons (js_for (ji_range1 (ja_cons je_int ja_nil) T.z_range) (jg_name 2 sc_law.nd) (jss_fgt [2, 6, 10] (js_cons (js_set 6 (je_itemO 1 (je_add (je_mulI je_int (je_var 2)) je_int)) sc_law.nd)
    (js_cons (js_fgt [] (js_if (jt_eq hr.u (je_var 6) je_int) (js_one (js_set 6 je_int sc_law.nd)) js_nil))
    (js_cons (js_set 10 (je_call (ok_ratio T) (hr.mono (by decide)) (takes_of rfl rfl rfl rfl) (ja_cons (je_itemO 1 (je_mulI je_int (je_var 2))) (ja_cons (je_var 6) ja_nil))) sc_law.nd)
    (js_cons (js_if (JW.jt (jw_or (jt_not (jt_tr (je_call (ok_law_same T) (hr.mono (by decide)) (takes_of rfl rfl rfl rfl) (ja_cons (je_var 10) (ja_cons (je_call (ok_law_fraction T) (hr.mono (by decide)) (takes_of rfl rfl rfl rfl) (ja_cons (je_itemO 1 (je_mulI je_int (je_var 2))) (ja_cons (je_var 6) ja_nil))) ja_nil))))) (jw_or1 (jt_not (jt_tr (je_call (ok_law_is_fraction T) (hr.mono (by decide)) (takes_of rfl rfl rfl rfl) (ja_cons (je_var 10) ja_nil))))))) (js_one (js_ret je_bl)) js_nil)
    (js_cons (js_if (jt_ne hr.u (je_mulI (je_item (je_var 10) je_int) (je_var 6)) (je_mulI (je_itemO 1 (je_mulI je_int (je_var 2))) (je_item (je_var 10) je_int))) (js_one (js_ret je_bl)) js_nil)
    (js_one (js_app 3 (je_var 10))))))))) (passes_of rfl))
    (js_cons (js_set 4 (je_add je_int (je_mod (je_abs T.z_abs (ja_cons (je_itemO 1 je_int) ja_nil)) (je_pow je_int je_int))) sc_law.nd)
    (js_cons (js_set 5 (je_mulI (je_mod (je_int_ T.z_int (ja_cons (je_itemO 1 je_int) ja_nil)) (je_pow je_int je_int)) (je_var 4)) sc_law.nd)
    (js_cons (js_set 6 (je_mulI (je_add je_int (je_mod (je_abs T.z_abs (ja_cons (je_itemO 1 je_int) ja_nil)) (je_pow je_int je_int))) (je_var 4)) sc_law.nd)
    (js_cons (js_if (JW.jt (jw_or (jt_not (jt_tr (je_call (ok_law_same T) (hr.mono (by decide)) (takes_of rfl rfl rfl rfl) (ja_cons (je_call (ok_ratio T) (hr.mono (by decide)) (takes_of rfl rfl rfl rfl) (ja_cons (je_var 5) (ja_cons (je_var 6) ja_nil))) (ja_cons (je_call (ok_law_fraction T) (hr.mono (by decide)) (takes_of rfl rfl rfl rfl) (ja_cons (je_var 5) (ja_cons (je_var 6) ja_nil))) ja_nil))))) (jw_or1 (jt_not (jt_tr (je_call (ok_law_same T) (hr.mono (by decide)) (takes_of rfl rfl rfl rfl) (ja_cons (je_call (ok_ratio T) (hr.mono (by decide)) (takes_of rfl rfl rfl rfl) (ja_cons (je_var 5) (ja_cons (je_neg (je_var 6)) ja_nil))) (ja_cons (je_call (ok_law_fraction T) (hr.mono (by decide)) (takes_of rfl rfl rfl rfl) (ja_cons (je_var 5) (ja_cons (je_neg (je_var 6)) ja_nil))) ja_nil)))))))) (js_one (js_ret je_bl)) js_nil)
    (js_cons (js_weak1 (m := [.sh, .ow, .sh, .ow, .sh, .sh, .sh, .sh, .sh, .sh, .sh, .sh, .sh]) (m1 := [.sh, .ow, .sh, .sh, .sh, .sh, .sh, .sh, .sh, .sh, .sh, .sh, .sh]) (js_set 3 (je_addL (je_var 3) (je_share (je_lst (md := .ow) (ja_cons (je_tup (ja_cons je_int (ja_cons je_int ja_nil))) (ja_cons (je_item (je_var 3) je_int) ja_nil))))) sc_law.nd))
    (js_cons (js_weak1 (m := [.sh, .ow, .sh, .ow, .sh, .sh, .sh, .sh, .sh, .sh, .sh, .sh, .sh]) (m1 := [.sh, .ow, .sh, .sh, .sh, .sh, .sh, .sh, .sh, .sh, .sh, .sh, .sh]) (js_for (ji_seq (je_var 3)) (jg_name 7 sc_law.nd) (jss_fgt [7, 11, 12] (js_one (js_for (ji_seq (je_var 3)) (jg_name 11 sc_law.nd) (jss_fgt [11, 12] (js_cons (js_if (jt_not (jt_tr (je_call (ok_law_same T) (hr.mono (by decide)) (takes_of rfl rfl rfl rfl) (ja_cons (je_call (ok_added T) (hr.mono (by decide)) (takes_of rfl rfl rfl rfl) (ja_cons (je_share ((je_list (md := .ow)) T.z_list (ja_cons (je_var 7) ja_nil))) (ja_cons (je_var 11) ja_nil))) (ja_cons (je_call (ok_law_added T) (hr.mono (by decide)) (takes_of rfl rfl rfl rfl) (ja_cons (je_var 7) (ja_cons (je_var 11) ja_nil))) ja_nil))))) (js_one (js_ret je_bl)) js_nil)
    (js_cons (js_if (jt_not (jt_tr (je_call (ok_law_same T) (hr.mono (by decide)) (takes_of rfl rfl rfl rfl) (ja_cons (je_call (ok_less T) (hr.mono (by decide)) (takes_of rfl rfl rfl rfl) (ja_cons (je_var 7) (ja_cons (je_share ((je_list (md := .ow)) T.z_list (ja_cons (je_var 11) ja_nil))) ja_nil))) (ja_cons (je_call (ok_law_difference T) (hr.mono (by decide)) (takes_of rfl rfl rfl rfl) (ja_cons (je_var 7) (ja_cons (je_var 11) ja_nil))) ja_nil))))) (js_one (js_ret je_bl)) js_nil)
    (js_cons (js_if (jt_not (jt_tr (je_call (ok_law_same T) (hr.mono (by decide)) (takes_of rfl rfl rfl rfl) (ja_cons (je_call (ok_timed T) (hr.mono (by decide)) (takes_of rfl rfl rfl rfl) (ja_cons (je_share ((je_list (md := .ow)) T.z_list (ja_cons (je_var 7) ja_nil))) (ja_cons (je_share ((je_list (md := .ow)) T.z_list (ja_cons (je_var 11) ja_nil))) ja_nil))) (ja_cons (je_call (ok_law_timed T) (hr.mono (by decide)) (takes_of rfl rfl rfl rfl) (ja_cons (je_var 7) (ja_cons (je_var 11) ja_nil))) ja_nil))))) (js_one (js_ret je_bl)) js_nil)
    (js_cons (js_set 12 (je_sub (je_int_ T.z_int (ja_cons (je_gt (je_mulI (je_item (je_var 7) je_int) (je_item (je_var 11) je_int)) (je_mulI (je_item (je_var 11) je_int) (je_item (je_var 7) je_int))) ja_nil)) (je_int_ T.z_int (ja_cons (je_lt (je_mulI (je_item (je_var 7) je_int) (je_item (je_var 11) je_int)) (je_mulI (je_item (je_var 11) je_int) (je_item (je_var 7) je_int))) ja_nil))) sc_law.nd)
    (js_cons (js_if (jt_not (jt_tr (je_call (ok_law_same T) (hr.mono (by decide)) (takes_of rfl rfl rfl rfl) (ja_cons (je_call (ok_compare T) (hr.mono (by decide)) (takes_of rfl rfl rfl rfl) (ja_cons (je_var 7) (ja_cons (je_share ((je_list (md := .ow)) T.z_list (ja_cons (je_var 11) ja_nil))) ja_nil))) (ja_cons (je_var 12) ja_nil))))) (js_one (js_ret je_bl)) js_nil)
    (js_one (js_if (JW.jt (jw_and (jt_ne hr.u (je_item (je_var 11) je_int) je_int) (jw_and1 (jt_not (jt_tr (je_call (ok_law_same T) (hr.mono (by decide)) (takes_of rfl rfl rfl rfl) (ja_cons (je_call (ok_over T) (hr.mono (by decide)) (takes_of rfl rfl rfl rfl) (ja_cons (je_var 7) (ja_cons (je_var 11) ja_nil))) (ja_cons (je_call (ok_law_fraction T) (hr.mono (by decide)) (takes_of rfl rfl rfl rfl) (ja_cons (je_mulI (je_item (je_var 7) je_int) (je_item (je_var 11) je_int)) (ja_cons (je_mulI (je_item (je_var 7) je_int) (je_item (je_var 11) je_int)) ja_nil))) ja_nil)))))))) (js_one (js_ret je_bl)) js_nil)))))))) (passes_of rfl)))) (passes_of rfl)))
    (js_cons (js_set 8 (je_tup (ja_cons je_int (ja_cons je_int ja_nil))) sc_law.nd)
    (js_cons (js_for (ji_range1 (ja_cons (je_add (je_len T.z_len (ja_cons (je_var 3) ja_nil)) je_int) ja_nil) T.z_range) (jg_name 2 sc_law.nd) (jss_fgt [2] (js_cons (js_if (JW.jt (jw_or (jt_not (jt_tr (je_call (ok_law_same T) (hr.mono (by decide)) (takes_of rfl rfl rfl rfl) (ja_cons (je_call (ok_fraction_sum T) (hr.mono (by decide)) (takes_of rfl rfl rfl rfl) (ja_cons (je_share (je_lc sc_law [("one", 7)] (ji_seq (je_cut (je_var 3) jo_none (jo_some (je_var 2)))) (fun _ _ _ _ _ => (jg_name 7 sc_law.nd)) (fun _ _ _ _ _ => jts_nil) (fun _ _ _ _ _ => (je_share ((je_list (md := .ow)) T.z_list (ja_cons (je_var 7) ja_nil)))))) ja_nil)) (ja_cons (je_var 8) ja_nil))))) (jw_or1 (jt_not (jt_tr (je_call (ok_law_same T) (hr.mono (by decide)) (takes_of rfl rfl rfl rfl) (ja_cons (je_call (ok_fraction_sum T) (hr.mono (by decide)) (takes_of rfl rfl rfl rfl) (ja_cons (je_tuple T.z_tuple (ja_cons (je_cut (je_var 3) jo_none (jo_some (je_var 2))) ja_nil)) ja_nil)) (ja_cons (je_var 8) ja_nil)))))))) (js_one (js_ret je_bl)) js_nil)
    (js_one (js_fgt [] (js_if (jt_lt (je_var 2) (je_len T.z_len (ja_cons (je_var 3) ja_nil))) (js_one (js_set 8 (je_call (ok_law_added T) (hr.mono (by decide)) (takes_of rfl rfl rfl rfl) (ja_cons (je_var 8) (ja_cons (je_item (je_var 3) (je_var 2)) ja_nil))) sc_law.nd)) js_nil))))) (passes_of rfl))
    (js_cons (js_if (JW.jt (jw_or (jt_not (jt_tr (je_call (ok_law_no_bottom T) (hr.mono (by decide)) (takes_of rfl rfl rfl rfl) (ja_cons je_int (ja_cons (je_item (je_var 3) je_int) ja_nil))))) (jw_or (jt_not (jt_tr (je_call (ok_law_no_bottom T) (hr.mono (by decide)) (takes_of rfl rfl rfl rfl) (ja_cons je_int (ja_cons (je_item (je_var 3) je_int) ja_nil))))) (jw_or (jt_not (jt_tr (je_call (ok_law_no_bottom T) (hr.mono (by decide)) (takes_of rfl rfl rfl rfl) (ja_cons je_int (ja_cons (je_item (je_var 3) je_int) ja_nil))))) (jw_or1 (jt_not (jt_tr (je_call (ok_law_no_bottom T) (hr.mono (by decide)) (takes_of rfl rfl rfl rfl) (ja_cons je_int (ja_cons (je_item (je_var 3) je_int) ja_nil)))))))))) (js_one (js_ret je_bl)) js_nil)
    (js_cons (js_for (ji_seq (je_share (je_call (ok_law_odd T) (hr.mono (by decide)) (takes_of rfl rfl rfl rfl) (ja_cons (je_var 3) ja_nil)))) (jg_name 9 sc_law.nd) (jss_fgt [9] (js_one (js_if (jt_notB (je_call (ok_is_fraction T) (hr.mono (by decide)) (takes_of rfl rfl rfl rfl) (ja_cons (je_var 9) ja_nil))) (js_one (js_ret je_bl)) js_nil))) (passes_of rfl))
    (js_cons (js_for (ji_seq (je_var 3)) (jg_name 7 sc_law.nd) (jss_fgt [7] (js_one (js_if (jt_notB (je_call (ok_is_fraction T) (hr.mono (by decide)) (takes_of rfl rfl rfl rfl) (ja_cons (je_var 7) ja_nil))) (js_one (js_ret je_bl)) js_nil))) (passes_of rfl))
    (js_one (js_ret je_bl)))))))))))))))))
end Kx
namespace Da
open PySem PySem.Spec L2
/-! ### reckoning with the native readings -/
section
variable {α β γ : Type}
@[simp] theorem Res.bind_ret (r : Res α) : (r.bind fun x => .ok x) = r := by cases r <;> rfl
@[simp] theorem Res.bind_assoc (r : Res α) (f : α → Res β) (g : β → Res γ) : (r.bind f).bind g = r.bind fun x => (f x).bind g := by cases r <;> rfl
theorem mulR_of {i j : Int} (h : mulOk i j = true) : mulR i j = .ok (i * j) := if_pos h
theorem mulR_64 {i j : Int} (hi : i.natAbs < 18446744073709551616) (hj : j.natAbs < 18446744073709551616) : mulR i j = .ok (i * j) := mulR_of (mul64 hi hj)
theorem mulR_44 {i j : Int} (hi : i.natAbs < 2 ^ 4400) (hj : j.natAbs < 2 ^ 4400) : mulR i j = .ok (i * j) := mulR_of (mulOk_of (a := 4400) (b := 4400) hi hj)
theorem modR_pos {i j : Int} (h : 0 < j) : modR i j = .ok (i % j) := if_pos h
theorem divR_pos {i j : Int} (h : 0 < j) (h9 : j.natAbs < Lim) : divR i j = .ok (i / j) := if_pos ⟨h, log2_lt h9 (by decide)⟩
theorem divR_neg {i j : Int} (h : j < 0) (h9 : j.natAbs < Lim) : divR i j = .ok (-i / -j) := by
  unfold divR
  rw [if_neg (by omega), if_pos ⟨h, log2_lt h9 (by decide)⟩]
theorem divR_64 {i j : Int} (h : 0 < j) (h9 : j < 18446744073709551616) : divR i j = .ok (i / j) := divR_pos h (lt_lim (by omega))
theorem powR_of {i j r : Int} (h : powOk i j = true) (hr : i ^ j.toNat = r) : powR i j = .ok r := by rw [← hr]; exact if_pos h
theorem powR_18 : powR 10 18 = .ok 1000000000000000000 := powR_of (stuck_iff.mpr (by omega)) (by decide +kernel)
theorem ixR_nat {xs : List α} {i : Nat} {x : α} (h : xs[i]? = some x) : ixR xs (i : Int) = .ok x := by unfold ixR; rw [atI_nat h]
theorem ixR_of {xs : List α} {i : Int} {x : α} (h0 : 0 ≤ i) (h : xs[i.toNat]? = some x) : ixR xs i = .ok x := by
  have := ixR_nat h
  rwa [show ((i.toNat : Nat) : Int) = i by omega] at this
theorem ixR_get {xs : List α} {i : Nat} (h : i < xs.length) : ixR xs (i : Int) = .ok xs[i] := ixR_nat (List.getElem?_eq_getElem h)
theorem ixR_D {xs : List α} {i : Int} (d : α) (h0 : 0 ≤ i) (h : i < xs.length) : ixR xs i = .ok (xs.getD i.toNat d) := by
  refine ixR_of h0 ?_
  rw [List.getD_eq_getElem?_getD, List.getElem?_eq_getElem (by omega)]
  rfl
theorem appR_ok {xs : List α} {x : α} (h : xs.length < 1000000) : appR xs x = .ok (xs ++ [x]) := if_pos (szOk_yes h)
theorem catR_ok {xs ys : List α} (h : xs.length + ys.length ≤ 1000000) : catR xs ys = .ok (xs ++ ys) := if_pos (szOk_yes h)
theorem repR_ok {xs : List α} {k : Int} (h : k < 9223372036854775808 ∧ -9223372036854775808 ≤ k) (h2 : xs.length * k.toNat ≤ 1000000) : repR xs k = .ok (List.replicate k.toNat xs).flatten := if_pos (stuck_iff.mpr ⟨by omega, szOk_yes h2⟩)
theorem rep1 {x : α} {n : Nat} : (List.replicate n [x]).flatten = List.replicate n x := by
  induction n with
  | zero => rfl
  | succ n ih => rw [List.replicate_succ, List.flatten_cons, ih, List.replicate_succ]; rfl
theorem setR_nat {xs : List α} {i : Nat} {x : α} (h : i < xs.length) : setR xs (i : Int) x = .ok (xs.set i x) := by
  unfold setR
  rw [show ixN xs.length (i : Int) = some i by unfold ixN; rw [if_pos (by omega), if_pos (by omega)]; simp]
theorem setR_of {xs : List α} {i : Int} {x : α} (h0 : 0 ≤ i) (h : i < xs.length) : setR xs i x = .ok (xs.set i.toNat x) := by
  have := setR_nat (xs := xs) (x := x) (i := i.toNat) (by omega)
  rwa [show ((i.toNat : Nat) : Int) = i by omega] at this
theorem popR_of {xs : List α} {i : Int} (h0 : 0 ≤ i) (h : i < xs.length) (hz : xs.length ≤ 1000000) : popR xs i = .ok (xs[i.toNat]'(by omega), xs.eraseIdx i.toNat) := by
  unfold popR
  rw [show ixN xs.length i = some i.toNat by unfold ixN; rw [if_pos h0, if_pos h]]
  simp only [List.getElem?_eq_getElem (show i.toNat < xs.length by omega), szOk_yes hz, if_true]
theorem rngI_upto {n : Nat} : rngI 0 n = upto n := by
  unfold rngI upto
  exact List.map_congr_left fun i _ => Int.zero_add _
theorem rngR_ok {j : Int} (h0 : 0 ≤ j) (h : j < 4611686018427387904) : rngR j = .ok (upto j.toNat) := by
  unfold rngR
  rw [if_pos (show rngOk 0 j = true from stuck_iff.mpr (by omega)), rngI_upto]
theorem rngR_nat {n : Nat} (h : n < 4611686018427387904) : rngR (n : Int) = .ok (upto n) := by rw [rngR_ok (by omega) (by omega)]; simp
theorem rng2R_ok {i j : Int} (h0 : -4611686018427387904 ≤ i) (h1 : i < 4611686018427387904) (h2 : -4611686018427387904 ≤ j) (h : j < 4611686018427387904) : rng2R i j = .ok (rngI i (j - i).toNat) := by
  unfold rng2R
  rw [if_pos (show rngOk i j = true from stuck_iff.mpr (by omega))]
theorem rngLR_ok {j : Int} (h0 : 0 ≤ j) (h : j ≤ 1000000) : rngLR j = .ok (upto j.toNat) := by
  unfold rngLR
  rw [if_pos (show rgnOk 0 j = true from stuck_iff.mpr ⟨stuck_iff.mpr (by omega), by omega⟩), rngI_upto]
theorem upto_get {n i : Nat} {x : Int} (h : (upto n)[i]? = some x) : x = (i : Int) ∧ i < n := by
  unfold upto at h
  rw [List.getElem?_map] at h
  cases e : (List.range n)[i]? with
  | none => rw [e] at h; cases h
  | some j =>
    rw [e] at h
    have hi := (List.getElem?_eq_some_iff.mp e).1
    rw [List.length_range] at hi
    rw [List.getElem?_range hi] at e
    cases e; cases h
    exact ⟨rfl, hi⟩
theorem rngI_get {lo : Int} {n i : Nat} {x : Int} (h : (rngI lo n)[i]? = some x) : x = lo + (i : Int) ∧ i < n := by
  unfold rngI at h
  rw [List.getElem?_map] at h
  cases e : (List.range n)[i]? with
  | none => rw [e] at h; cases h
  | some j =>
    rw [e] at h
    have hi := (List.getElem?_eq_some_iff.mp e).1
    rw [List.length_range] at hi
    rw [List.getElem?_range hi] at e
    cases e; cases h
    exact ⟨rfl, hi⟩
@[simp] theorem rngI_length {lo : Int} {n : Nat} : (rngI lo n).length = n := by unfold rngI; rw [List.length_map, List.length_range]
theorem mem_rngI {lo : Int} {n : Nat} {x : Int} : x ∈ rngI lo n ↔ lo ≤ x ∧ x < lo + n := by
  unfold rngI
  rw [List.mem_map]
  constructor
  · rintro ⟨i, hi, rfl⟩
    have := List.mem_range.mp hi
    omega
  · intro h
    exact ⟨(x - lo).toNat, List.mem_range.mpr (by omega), by omega⟩
/-- a loop over 0 .. n - 1 -/
theorem forR_upto {σ : Type} {f : σ → Int → Res σ} {n : Nat} {s : σ} (P : Nat → σ → Prop) (h0 : P 0 s) (hs : ∀ (i : Nat) s, i < n → P i s → ∃ s', f s (i : Int) = .ok s' ∧ P (i + 1) s') : ∃ s', forR f (upto n) s = .ok s' ∧ P n s' := by
  obtain ⟨s', e, p⟩ := forR_inv (xs := upto n) (f := f) (s := s) P h0 (fun i x s hx p => by
    obtain ⟨rfl, hi⟩ := upto_get hx
    exact hs i s hi p)
  rw [upto_length] at p
  exact ⟨s', e, p⟩
theorem forR_rngI {σ : Type} {f : σ → Int → Res σ} {lo : Int} {n : Nat} {s : σ} (P : Nat → σ → Prop) (h0 : P 0 s) (hs : ∀ (i : Nat) s, i < n → P i s → ∃ s', f s (lo + (i : Int)) = .ok s' ∧ P (i + 1) s') : ∃ s', forR f (rngI lo n) s = .ok s' ∧ P n s' := by
  obtain ⟨s', e, p⟩ := forR_inv (xs := rngI lo n) (f := f) (s := s) P h0 (fun i x s hx p => by
    obtain ⟨rfl, hi⟩ := rngI_get hx
    exact hs i s hi p)
  rw [rngI_length] at p
  exact ⟨s', e, p⟩
theorem forC_upto {σ τ : Type} {f : σ → Int → Res (Ctl σ τ)} {n : Nat} {s : σ} (Q : Ctl σ τ → Prop) (P : Nat → σ → Prop) (h0 : P 0 s) (hs : ∀ (i : Nat) s, i < n → P i s → ∃ o, f s (i : Int) = .ok o ∧ (match o with
    | .go s' => P (i + 1) s'
    | .out s' => Q (.go s')
    | .ret b => Q (.ret b))) (hd : ∀ s, P n s → Q (.go s)) : ∃ o, forC f (upto n) s = .ok o ∧ Q o :=
  forC_inv Q P h0 (fun i x s hx p => by
    obtain ⟨rfl, hi⟩ := upto_get hx
    exact hs i s hi p) (fun s p => hd s (by rw [upto_length] at p; exact p))
/-- all turns go on -/
theorem forC_go {α σ τ : Type} {f : σ → α → Res (Ctl σ τ)} {xs : List α} {s : σ} (P : σ → Prop) (h0 : P s) (hs : ∀ x s, x ∈ xs → P s → ∃ s', f s x = .ok (.go s') ∧ P s') : ∃ s', forC f xs s = .ok (.go s') ∧ P s' := by
  induction xs generalizing s with
  | nil => exact ⟨s, rfl, h0⟩
  | cons x xs ih =>
    obtain ⟨s1, e1, p1⟩ := hs x s List.mem_cons_self h0
    obtain ⟨s2, e2, p2⟩ := ih p1 fun y s hy => hs y s (List.mem_cons_of_mem _ hy)
    exact ⟨s2, by unfold forC; rw [e1]; exact e2, p2⟩
@[simp] theorem forC_nil {α σ τ : Type} {f : σ → α → Res (Ctl σ τ)} {s : σ} : forC f [] s = .ok (.go s) := rfl
theorem forC_cons {α σ τ : Type} {f : σ → α → Res (Ctl σ τ)} {x : α} {xs : List α} {s : σ} : forC f (x :: xs) s = (f s x).bind fun o => match o with
    | .go s => forC f xs s
    | .out s => .ok (.go s)
    | .ret b => .ok (.ret b) := rfl
@[simp] theorem forR_nil {α σ : Type} {f : σ → α → Res σ} {s : σ} : forR f [] s = .ok s := rfl
@[simp] theorem forR_cons {α σ : Type} {f : σ → α → Res σ} {x : α} {xs : List α} {s : σ} : forR f (x :: xs) s = (f s x).bind fun s => forR f xs s := rfl
@[simp] theorem ctlS_go {σ τ : Type} {s : σ} : ctlS (.go s : Ctl σ τ) = .ok s := rfl
@[simp] theorem ctlS_out {σ τ : Type} {s : σ} : ctlS (.out s : Ctl σ τ) = .ok s := rfl
@[simp] theorem ctlK_go {σ τ γ : Type} {k : σ → Res γ} {rk : τ → γ} {s : σ} : ctlK k rk (.go s) = k s := rfl
@[simp] theorem ctlK_ret {σ τ γ : Type} {k : σ → Res γ} {rk : τ → γ} {b : τ} : ctlK k rk (.ret b : Ctl σ τ) = .ok (rk b) := rfl
theorem whileC_inv {σ τ : Type} {c : σ → Res Bool} {f : σ → Res (Ctl σ τ)} (Q : Ctl σ τ → Prop) (P : σ → Prop) (μ : σ → Nat) (hs : ∀ s, P s → ∃ b, c s = .ok b ∧ (b = false → Q (.go s)) ∧ (b = true → ∃ o, f s = .ok o ∧ (match o with
    | .go s' => P s' ∧ μ s' < μ s
    | .out s' => Q (.go s')
    | .ret b => Q (.ret b)))) : ∀ (n : Nat) (s : σ), P s → μ s < n → ∃ o, whileC c f n s = .ok o ∧ Q o
  | 0, s, _, h => absurd h (Nat.not_lt_zero _)
  | n + 1, s, p, hn => by
    obtain ⟨b, e, h1, h2⟩ := hs s p
    unfold whileC
    rw [e]
    cases b with
    | false => exact ⟨.go s, rfl, h1 rfl⟩
    | true =>
      obtain ⟨o, e2, q⟩ := h2 rfl
      dsimp only [Res.bind_ok]
      rw [if_pos rfl, e2]
      cases o with
      | go s' => exact whileC_inv Q P μ hs n s' q.1 (by have := q.2; omega)
      | out s' => exact ⟨.go s', rfl, q⟩
      | ret b => exact ⟨.ret b, rfl, q⟩
theorem lcR_mapM {α β : Type} {xs : List α} {f : α → Res β} (P : α → β → Prop) (hz : xs.length ≤ 1000000) (h : ∀ x ∈ xs, ∃ y, f x = .ok y ∧ P x y) : ∃ ys, lcR xs (fun _ => .ok true) f = .ok ys ∧ ys.length = xs.length ∧ ∀ (i : Nat) x, xs[i]? = some x → ∃ y, ys[i]? = some y ∧ P x y := by
  unfold lcR
  rw [if_pos (szOk_yes hz)]
  clear hz
  induction xs with
  | nil => exact ⟨[], rfl, rfl, fun i x hx => by simp at hx⟩
  | cons x xs ih =>
    obtain ⟨y, e, p⟩ := h x List.mem_cons_self
    obtain ⟨ys, e2, hl, hp⟩ := ih fun y hy => h y (List.mem_cons_of_mem _ hy)
    refine ⟨y :: ys, ?_, by rw [List.length_cons, List.length_cons, hl], fun i z hz => ?_⟩
    · unfold lcR.go
      rw [e, e2]
      rfl
    · cases i with
      | zero => cases hz; exact ⟨y, rfl, p⟩
      | succ i => exact hp i z (by simpa using hz)
theorem enumI_eq : ∀ (xs : List α) (i : Nat), enumI i xs = (xs.zipIdx i).map fun p => ((p.2 : Int), p.1)
  | [], _ => rfl
  | x :: xs, i => by
    show ((i : Int), x) :: enumI (i + 1) xs = _
    rw [enumI_eq, List.zipIdx_cons]
    rfl
theorem enumI_length {xs : List α} {i : Nat} : (enumI i xs).length = xs.length := by rw [enumI_eq, List.length_map, List.length_zipIdx]
theorem enumI_at {xs : List α} {i j : Nat} {p : Int × α} (h : (enumI i xs)[j]? = some p) : p.1 = ((i + j : Nat) : Int) ∧ xs[j]? = some p.2 := by
  rw [enumI_eq, List.getElem?_map, List.getElem?_zipIdx] at h
  cases e : xs[j]? with
  | none => rw [e] at h; cases h
  | some x => rw [e] at h; cases h; exact ⟨rfl, rfl⟩
end
/-! fractions -/
/-- the number q as a pair -/
def fq (q : Rat) : Int × Int := (q.num, (q.den : Int))
theorem fq_inj {p q : Rat} : fq p = fq q ↔ p = q := by
  constructor
  · intro h
    have h1 : p.num = q.num := congrArg Prod.fst h
    have h2 : (p.den : Int) = (q.den : Int) := congrArg Prod.snd h
    rw [rat_eq p, rat_eq q, h1, h2]
  · intro h; rw [h]
@[simp] theorem fq_dec {p q : Rat} : decide (fq p = fq q) = decide (p = q) := by
  by_cases h : p = q
  · subst h; simp
  · simp [h, fq_inj]
theorem fqc_eq {t b : Int} (hb : 0 < b) : (t / (Int.gcd t b : Int), b / (Int.gcd t b : Int)) = fq ((t : Rat) / (b : Rat)) := by
  have h := frac_eq (t := t) hb
  injection h with h
  injection h with h1 h2
  injection h1 with h1
  injection h2 with h2 _
  injection h2 with h2
  exact Prod.ext h1 h2
@[simp] theorem fq_0 : fq 0 = (0, 1) := rfl
@[simp] theorem fq_fst {q : Rat} : (fq q).1 = q.num := rfl
@[simp] theorem fq_snd {q : Rat} : (fq q).2 = (q.den : Int) := rfl
end Da
namespace Kx
open PySem PySem.Spec L2 Da
/-! ### what stands in every law: cells, digits, fractions, samenesses -/
theorem law_cell (ns : List Int) (k : Int) (hk : 0 ≤ k) (hk2 : k < 1000000) : ∃ c : Int, N_law_cell_fi_i ns k = .ok c := by
  unfold N_law_cell_fi_i
  by_cases h : k < ns.length
  · exact ⟨ns[k.toNat], by simp [h, ixR_of (xs := ns) (x := ns[k.toNat]) hk (List.getElem?_eq_getElem (by omega))]⟩
  · obtain ⟨s, e, h1, h2⟩ := forR_inv (xs := ns) (s := (17 : Int)) (f := fun s x1 => (mulR s 31).bind fun x => Res.ok ((x + x1 % 1000003) % 1000003)) (fun _ s => 0 ≤ s ∧ s < 1000003) ⟨by omega, by omega⟩ fun i x s _ h => by
      refine ⟨_, by rw [mulR_64 (by omega) (by omega)]; rfl, ?_⟩
      omega
    have m1 : 0 ≤ (s + 7) * (k + 3) ∧ (s + 7) * (k + 3) ≤ 1000010 * 1000003 := ⟨Int.mul_nonneg (by omega) (by omega), Int.mul_le_mul (by omega) (by omega) (by omega) (by omega)⟩
    refine ⟨((s + 7) * (k + 3) * 69621) % 2147483647, ?_⟩
    simp only [Res.bind_assoc, Res.bind_ok, Res.bind_ret]
    rw [if_neg (by simpa using h), e]
    simp only [Res.bind_ok]
    rw [mulR_64 (by omega) (by omega)]
    simp only [Res.bind_ok]
    rw [mulR_64 (by omega) (by omega)]
    rfl
theorem law_digits (c : Int) (sizes : List Int) (hp : ∀ s ∈ sizes, 0 < s ∧ s < 18446744073709551616) (hz : sizes.length ≤ 100000) : ∃ row : List Int, N_law_digits_i_li c sizes = .ok row ∧ Digs sizes row := by
  unfold N_law_digits_i_li
  simp only [powR_18, Res.bind_ok, Res.bind_assoc, Res.bind_ret]
  by_cases h : 1000000000000000000 ≤ c
  · rw [if_pos (by simpa using h)]
    obtain ⟨s, e, hd⟩ := forR_inv (xs := sizes) (s := (([] : List Int), c - 1000000000000000000)) (f := fun x5 x4 => (modR x5.2 x4).bind fun x => (appR x5.1 x).bind fun x => (divR x5.2 x4).bind fun x7 => Res.ok (x, x7)) (fun n s => Digs (sizes.take n) s.1) ⟨rfl, fun i s r e => by simp at e⟩ fun i x s hx hd => by
      have hs := hp x (List.mem_of_getElem? hx)
      have hl : s.1.length ≤ 100000 := by have := hd.1; rw [List.length_take] at this; omega
      refine ⟨(s.1 ++ [s.2 % x], s.2 / x), ?_, hd.snoc hx (Int.emod_nonneg _ (by omega)) (Int.emod_lt_of_pos _ hs.1)⟩
      rw [modR_pos hs.1]; dsimp only [Res.bind_ok]; rw [appR_ok (by omega)]; dsimp only [Res.bind_ok]; rw [divR_64 hs.1 hs.2]; rfl
    rw [List.take_length] at hd
    refine ⟨s.1, ?_, hd⟩
    rw [e]; rfl
  · rw [if_neg (by simpa using h), rngR_nat (by omega)]
    dsimp only [Res.bind_ok]
    have hm := Int.emod_nonneg c (show (2147483629 : Int) ≠ 0 by decide)
    have hm2 := Int.emod_lt_of_pos c (show (0 : Int) < 2147483629 by decide)
    obtain ⟨s, e, hd, _, _⟩ := forR_upto (n := sizes.length) (s := (([] : List Int), c % 2147483629)) (f := fun x10 x9 => (mulR x10.2 48271).bind fun x => (mulR 974711 x9).bind fun x_1 => (mulR ((x + x_1 + 12345) % 2147483647) ((x + x_1 + 12345) % 2147483647 / 65537 + 3)).bind fun x_2 => (ixR sizes x9).bind fun x_3 => (modR (x_2 % 2147483629 / 19) x_3).bind fun x_4 => (appR x10.1 x_4).bind fun x_5 => Res.ok (x_5, (x + x_1 + 12345) % 2147483647))
      (fun n s => Digs (sizes.take n) s.1 ∧ 0 ≤ s.2 ∧ s.2 < 2147483647) ⟨⟨rfl, fun i s r e => by simp at e⟩, hm, by omega⟩ fun i s hi hd => by
      obtain ⟨hd, h1, h2⟩ := hd
      have e := List.getElem?_eq_getElem hi
      have hs := hp sizes[i] (List.mem_of_getElem? e)
      have hl : s.1.length ≤ 100000 := by have := hd.1; rw [List.length_take] at this; omega
      generalize hs' : (s.2 * 48271 + 974711 * (i : Int) + 12345) % 2147483647 = s'
      have b1 : 0 ≤ s' := by rw [← hs']; exact Int.emod_nonneg _ (by decide)
      have b2 : s' < 2147483647 := by rw [← hs']; exact Int.emod_lt_of_pos _ (by decide)
      have b3 : 0 ≤ s' / 65537 ∧ s' / 65537 < 40000 := by omega
      refine ⟨(s.1 ++ [s' * (s' / 65537 + 3) % 2147483629 / 19 % sizes[i]], s'), ?_, hd.snoc e (Int.emod_nonneg _ (by omega)) (Int.emod_lt_of_pos _ hs.1), b1, b2⟩
      rw [mulR_64 (by omega) (by omega)]; dsimp only [Res.bind_ok]
      rw [mulR_64 (by omega) (by omega)]; dsimp only [Res.bind_ok]
      rw [hs', mulR_64 (by omega) (by omega)]; dsimp only [Res.bind_ok]
      rw [ixR_nat e]; dsimp only [Res.bind_ok]
      rw [modR_pos hs.1]; dsimp only [Res.bind_ok]
      rw [appR_ok (by omega)]; rfl
    rw [List.take_length] at hd
    refine ⟨s.1, ?_, hd⟩
    rw [e]; rfl
theorem law_gcd {a b : Int} (hz : a.natAbs * b.natAbs < GLim) : N_law_gcd_i_i a b = .ok (Int.gcd a b) := by
  unfold N_law_gcd_i_i
  have ea : (if a < 0 then -a else a) = ((a.natAbs : Nat) : Int) := by split <;> omega
  have eb : (if b < 0 then -b else b) = ((b.natAbs : Nat) : Int) := by split <;> omega
  rw [ea, eb, show (1000000 : Int) = ((1000000 : Nat) : Int) by rfl, rngR_nat (by omega)]
  simp only [Res.bind_assoc, Res.bind_ok, Res.bind_ret]
  obtain ⟨o, e, s, rfl, hs⟩ := forC_upto (σ := Int × Int) (τ := Unit) (n := 1000000) (s := (((a.natAbs : Nat) : Int), ((b.natAbs : Nat) : Int))) (f := fun x1 x2 => (if (decide (x1.2 = 0)) = true then Res.ok (.out (x1.1, x1.2)) else (modR x1.1 x1.2).bind fun x3 => Res.ok (.go (x1.2, x3))))
    (fun o => ∃ s, o = .go s ∧ s.1 = (Int.gcd a b : Int))
    (fun n s => ∃ (x y : Nat), s = ((x : Int), (y : Int)) ∧ Nat.gcd x y = Nat.gcd a.natAbs b.natAbs ∧ (n = 0 ∨ y < x) ∧ x * y * pw2 (n - 1) ≤ a.natAbs * b.natAbs)
    ⟨a.natAbs, b.natAbs, rfl, rfl, .inl rfl, by simp [pw2_0]⟩ (fun i s hi => by
      rintro ⟨x, y, rfl, hg, hl, hb⟩
      by_cases hy : y = 0
      · subst hy
        rw [Nat.gcd_zero_right] at hg
        refine ⟨.out ((x : Int), 0), by simp, ((x : Int), 0), rfl, ?_⟩
        show (x : Int) = _
        rw [hg]; rfl
      · have hy' : ¬ (y : Int) = 0 := by omega
        refine ⟨.go ((y : Int), ((x % y : Nat) : Int)), ?_, y, x % y, rfl, ?_, .inr (Nat.mod_lt x (by omega)), ?_⟩
        · rw [if_neg (by simpa using hy), modR_pos (by show (0 : Int) < (y : Int); omega)]; rfl
        · rw [← hg, Nat.gcd_comm x y, Nat.gcd_rec y x, Nat.gcd_comm]
        · rcases hl with rfl | hl
          · simp [pw2_0] at hb ⊢
            refine Nat.le_trans ?_ hb
            rw [Nat.mul_comm x y]
            exact Nat.mul_le_mul_left y (Nat.mod_le x y)
          · cases i with
            | zero =>
              simp [pw2_0] at hb ⊢
              refine Nat.le_trans ?_ hb
              rw [Nat.mul_comm x y]
              exact Nat.mul_le_mul_left y (Nat.mod_le x y)
            | succ j =>
              have := half_step hl (by omega)
              simp only [Nat.add_sub_cancel] at hb ⊢
              refine Nat.le_trans ?_ hb
              rw [pw2_succ, Nat.mul_comm (pw2 j) 2, ← Nat.mul_assoc]
              exact Nat.mul_le_mul_right _ this) (fun s => by
      rintro ⟨x, y, rfl, hg, hl, hb⟩
      have hxy : y < x := hl.resolve_left (by decide)
      have hy : y = 0 := by
        rcases Nat.eq_zero_or_pos y with h | h
        · exact h
        · exfalso
          have h1 : 1 ≤ x * y := Nat.mul_pos (by omega) h
          have h2 := Nat.mul_le_mul_right (pw2 (1000000 - 1)) h1
          rw [Nat.one_mul] at h2
          exact absurd (Nat.lt_of_le_of_lt (Nat.le_trans h2 hb) hz) (Nat.lt_irrefl _)
      subst hy
      rw [Nat.gcd_zero_right] at hg
      exact ⟨_, rfl, by show (x : Int) = _; rw [hg]; rfl⟩)
  rw [e]
  simp [hs]
theorem law_fraction {t b : Int} (hb : 0 < b) (ht : t.natAbs < Lim) (hb' : b.natAbs < Lim) : N_law_fraction_i_i t b = .ok (fq ((t : Rat) / (b : Rat))) := by
  have hg := law_gcd (glim ht hb')
  have g0 := gcd_pos' (t := t) hb
  have gl := gcd_lim (t := t) hb hb'
  show Nr_law_fraction_i_i 6 t b = _
  unfold Nr_law_fraction_i_i
  rw [if_neg (by simpa using show ¬ b < 0 by omega), hg]
  dsimp only [Res.bind_ok]
  rw [divR_pos g0 gl, divR_pos g0 gl, ← fqc_eq hb]; rfl
theorem ratio_q {t b : Int} (hb : 0 < b) (hb' : b.natAbs < Lim) : N_ratio_i_i t b = .ok (fq ((t : Rat) / (b : Rat))) := by
  have g0 := gcd_pos' (t := t) hb
  have gl := gcd_lim (t := t) hb hb'
  unfold N_ratio_i_i
  rw [if_neg (by simpa using show ¬ b = 0 by omega)]
  dsimp only [Res.bind_ok]
  rw [if_neg (by simpa using show ¬ b < 0 by omega)]
  dsimp only [Res.bind_ok]
  rw [show ((Nat.gcd t.natAbs b.natAbs : Nat) : Int) = (Int.gcd t b : Int) by rfl, divR_pos g0 gl, divR_pos g0 gl, ← fqc_eq hb]; rfl
theorem law_added_q {p q : Rat} (hp : Sm p) (hq : Sm q) : N_law_added_piiq_piiq (fq p) (fq q) = .ok (fq (p + q)) := by
  have h := law_fraction (den_pos p q) (sum_lim hp.1 hq.d hq.1 hp.d) (den_lim hp hq)
  rw [add_eq] at h
  unfold N_law_added_piiq_piiq
  simp only [fq_fst, fq_snd, mulR_44 hp.1 hq.d, mulR_44 hq.1 hp.d, mulR_44 hp.d hq.d, Res.bind_ok, h]
theorem added_q {p q : Rat} (hp : Sm p) (hq : Sm q) : N_added_piiq_piiq (fq p) (fq q) = .ok (fq (p + q)) := by
  have h := ratio_q (t := p.num * (q.den : Int) + q.num * (p.den : Int)) (den_pos p q) (den_lim hp hq)
  rw [add_eq] at h
  unfold N_added_piiq_piiq
  simp only [fq_fst, fq_snd, mulR_44 hp.1 hq.d, mulR_44 hq.1 hp.d, mulR_44 hp.d hq.d, Res.bind_ok, h]
theorem sum_loop' {m : Int × Int → Int × Int → Res (Int × Int)} (hm : ∀ p q : Rat, Sm p → Sm q → m (fq p) (fq q) = .ok (fq (p + q))) {L B : Nat} {qs : List Rat} (h0 : 0 < L) (hL : L < 2 ^ 4400) (hB : (qs.length + 1) * B < 2 ^ 4400) (h : ∀ q ∈ qs, In L B q) :
    forR m (qs.map fq) (0, 1) = .ok (fq (sumQ qs)) := by
  obtain ⟨s, e, rfl⟩ := forR_inv (xs := qs.map fq) (s := ((0, 1) : Int × Int)) (f := m) (fun n s => s = fq (sumQ (qs.take n))) rfl fun i x s hx hs => by
    subst hs
    rw [List.getElem?_map] at hx
    cases e : qs[i]? with
    | none => rw [e] at hx; cases hx
    | some q =>
      rw [e] at hx
      cases hx
      have hi := (List.getElem?_eq_some_iff.mp e).1
      have hq := h q (List.mem_of_getElem? e)
      have b1 : i * B < 2 ^ 4400 := Nat.lt_of_le_of_lt (Nat.mul_le_mul_right B (by omega)) hB
      have b2 : B < 2 ^ 4400 := Nat.lt_of_le_of_lt (Nat.le_mul_of_pos_left B (by omega)) hB
      refine ⟨_, hm _ _ ((In.sum h i).sm h0 hL b1) (hq.sm h0 hL b2), ?_⟩
      rw [List.take_add_one, e, Option.toList_some, sumQ_snoc]
  rw [e, List.length_map, List.take_length]
theorem law_sum_q {L B : Nat} {qs : List Rat} (h0 : 0 < L) (hL : L < 2 ^ 4400) (hB : (qs.length + 1) * B < 2 ^ 4400) (h : ∀ q ∈ qs, In L B q) : N_law_sum_lpiiq (qs.map fq) = .ok (fq (sumQ qs)) := by
  unfold N_law_sum_lpiiq
  simp only [Res.bind_ret]
  exact sum_loop' (fun p q hp hq => law_added_q hp hq) h0 hL hB h
theorem fraction_sum_q {L B : Nat} {qs : List Rat} (h0 : 0 < L) (hL : L < 2 ^ 4400) (hB : (qs.length + 1) * B < 2 ^ 4400) (h : ∀ q ∈ qs, In L B q) : N_fraction_sum_lpiiq (qs.map fq) = .ok (fq (sumQ qs)) := by
  unfold N_fraction_sum_lpiiq
  simp only [Res.bind_ret]
  exact sum_loop' (fun p q hp hq => added_q hp hq) h0 hL hB h
theorem fraction_sumT_q {L B : Nat} {qs : List Rat} (h0 : 0 < L) (hL : L < 2 ^ 4400) (hB : (qs.length + 1) * B < 2 ^ 4400) (h : ∀ q ∈ qs, In L B q) : N_fraction_sum_tpiiq (qs.map fq) = .ok (fq (sumQ qs)) := by
  unfold N_fraction_sum_tpiiq
  simp only [Res.bind_ret]
  exact sum_loop' (fun p q hp hq => added_q hp hq) h0 hL hB h
/-! sameness -/
theorem law_same_i {a b : Int} : N_law_same_i_i a b = .ok (decide (a = b)) := rfl
theorem law_same_pii {a b : Int × Int} : N_law_same_piiq_piiq a b = .ok (decide (a = b)) := by
  obtain ⟨a1, a2⟩ := a
  obtain ⟨b1, b2⟩ := b
  unfold N_law_same_piiq_piiq
  rw [if_neg (by decide), show (2 : Int) = ((2 : Nat) : Int) by rfl, rngR_nat (by omega), show upto 2 = [((0 : Nat) : Int), ((1 : Nat) : Int)] by rfl]
  simp only [Res.bind_ok, forC_cons, Res.bind_assoc]
  rw [ixR_nat (x := a1) (by rfl), ixR_nat (x := b1) (by rfl), ixR_nat (x := a2) (by rfl), ixR_nat (x := b2) (by rfl)]
  simp only [Res.bind_ok, law_same_i]
  by_cases h1 : a1 = b1 <;> by_cases h2 : a2 = b2 <;> simp [h1, h2]
/-! a day drawn -/
theorem take_out' {L : List Int} {k : Nat} (hk : k < L.length) : (L[k] :: L.eraseIdx k).Perm L := by
  rw [List.eraseIdx_eq_take_drop_succ]
  have h := (List.perm_middle (a := L[k]) (l₁ := L.take k) (l₂ := L.drop (k + 1))).symm
  refine h.trans (List.Perm.of_eq ?_)
  rw [← List.drop_eq_getElem_cons hk, List.take_append_drop]
theorem law_day {n : Nat} {r : List Int} (hn : n ≤ 1000000) (hr : n ≤ r.length) (h0 : ∀ x ∈ r, 0 ≤ x) : ∃ p : List Int, N_law_day_i_li n r = .ok p ∧ p.Perm (upto n) := by
  unfold N_law_day_i_li
  rw [rngR_nat (by omega)]
  simp only [Res.bind_ok, Res.bind_assoc, Res.bind_ret]
  rw [lcR_map (g := fun x => x) (by rw [upto_length]; exact hn) (fun _ _ => rfl), List.map_id']
  dsimp only [Res.bind_ok]
  obtain ⟨s, e, hp, hl⟩ := forR_upto (n := n) (s := (upto n, ([] : List Int))) (f := fun x4 x5 => (nx ((nx ((ixR r x5).bind fun x => modR x (x4.1.length : Int))).bind fun x8 => popR x4.1 x8)).bind fun v => (appR x4.2 v.1).bind fun x => Res.ok (v.2, x))
    (fun i s => (s.2 ++ s.1).Perm (upto n) ∧ s.2.length = i) ⟨List.Perm.refl _, rfl⟩ fun i s hi hp => by
      obtain ⟨hp, hl⟩ := hp
      have hL := hp.length_eq
      rw [List.length_append, upto_length] at hL
      have a := List.getElem?_eq_getElem (show i < r.length by omega)
      have hri := h0 _ (List.getElem_mem (show i < r.length by omega))
      have hz : 0 ≤ r[i]'(by omega) % (s.1.length : Int) ∧ r[i]'(by omega) % (s.1.length : Int) < s.1.length := ⟨Int.emod_nonneg _ (by omega), Int.emod_lt_of_pos _ (by omega)⟩
      rw [ixR_nat a]; dsimp only [Res.bind_ok]
      rw [modR_pos (by omega)]; dsimp only [Res.bind_ok, nx_ok]
      rw [popR_of hz.1 hz.2 (by omega)]; dsimp only [Res.bind_ok, nx_ok]
      rw [appR_ok (by omega)]
      refine ⟨_, rfl, ?_, by dsimp only; rw [List.length_append, hl]; rfl⟩
      dsimp only
      rw [List.append_assoc]
      exact (List.Perm.append_left s.2 (take_out' (by omega))).trans hp
  rw [e]
  refine ⟨s.2, rfl, ?_⟩
  have hL := hp.length_eq
  rw [List.length_append, upto_length] at hL
  have : s.1 = [] := List.eq_nil_of_length_eq_zero (by omega)
  rw [this, List.append_nil] at hp
  exact hp
end Kx
namespace Da
open PySem PySem.Spec L2
/-! ### loops that append; sums of rational numbers -/
section
variable {α β γ : Type}
theorem forR_flat {f : List β → α → Res (List β)} {g : α → List β} {B : Nat} : ∀ {xs : List α} {s : List β}, (∀ x ∈ xs, ∀ s : List β, s.length + (g x).length ≤ B → f s x = .ok (s ++ g x)) → s.length + (xs.flatMap g).length ≤ B → forR f xs s = .ok (s ++ xs.flatMap g)
  | [], s, _, _ => by simp
  | x :: xs, s, h, hB => by
    rw [List.flatMap_cons, List.length_append] at hB
    rw [forR_cons, h x List.mem_cons_self s (by omega)]
    dsimp only [Res.bind_ok]
    rw [forR_flat (fun y hy => h y (List.mem_cons_of_mem _ hy)) (by rw [List.length_append]; omega), List.flatMap_cons, List.append_assoc]
theorem flat_one {g : α → β} : ∀ xs : List α, (xs.flatMap fun x => [g x]) = xs.map g
  | [] => rfl
  | x :: xs => by rw [List.flatMap_cons, flat_one xs]; rfl
/-- one item a turn -/
theorem forR_app {f : List β → α → Res (List β)} {g : α → β} {xs : List α} {s : List β} (h : ∀ x ∈ xs, ∀ s : List β, s.length < 1000000 → f s x = .ok (s ++ [g x])) (hB : s.length + xs.length ≤ 1000000) : forR f xs s = .ok (s ++ xs.map g) := by
  have := forR_flat (f := f) (g := fun x => [g x]) (B := 1000000) (xs := xs) (s := s) (fun x hx s hs => h x hx s (by simp at hs; omega)) (by rw [flat_one, List.length_map]; exact hB)
  rw [this, flat_one]
theorem forR_appI {α' : Type} {f : List β → α → Res (List β)} {g : α → β} {xs : List α} (h : ∀ x ∈ xs, ∀ s : List β, s.length < 1000000 → f s x = .ok (s ++ [g x])) (hB : xs.length ≤ 1000000) : forR f xs [] = .ok (xs.map g) := by
  have := forR_app (s := []) h (by simpa using hB)
  simpa using this
end
/-! sums -/
theorem sumQ_nil : sumQ [] = 0 := rfl
theorem foldl_addQ (qs : List Rat) (a : Rat) : qs.foldl (· + ·) a = a + qs.foldl (· + ·) 0 := by
  induction qs generalizing a with
  | nil => show a = a + 0; grind
  | cons q qs ih =>
    rw [List.foldl_cons, List.foldl_cons, ih (a + q), ih (0 + q)]
    grind
theorem sumQ_cons (q : Rat) (qs : List Rat) : sumQ (q :: qs) = q + sumQ qs := by
  unfold sumQ
  rw [List.foldl_cons, foldl_addQ]
  grind
theorem sumQ_append (ps qs : List Rat) : sumQ (ps ++ qs) = sumQ ps + sumQ qs := by
  induction ps with
  | nil => rw [List.nil_append, sumQ_nil]; grind
  | cons p ps ih => rw [List.cons_append, sumQ_cons, sumQ_cons, ih]; grind
theorem sumQ_mul {α : Type} (c : Rat) (f : α → Rat) (xs : List α) : sumQ (xs.map fun x => c * f x) = c * sumQ (xs.map f) := by
  induction xs with
  | nil => show (0 : Rat) = c * 0; grind
  | cons x xs ih => rw [List.map_cons, List.map_cons, sumQ_cons, sumQ_cons, ih]; grind
theorem sumQ_add {α : Type} (f g : α → Rat) (xs : List α) : sumQ (xs.map fun x => f x + g x) = sumQ (xs.map f) + sumQ (xs.map g) := by
  induction xs with
  | nil => show (0 : Rat) = 0 + 0; grind
  | cons x xs ih => rw [List.map_cons, List.map_cons, List.map_cons, sumQ_cons, sumQ_cons, sumQ_cons, ih]; grind
theorem sumQ_zero {α : Type} (xs : List α) : sumQ (xs.map fun _ => (0 : Rat)) = 0 := by
  induction xs with
  | nil => rfl
  | cons x xs ih => rw [List.map_cons, sumQ_cons, ih]; grind
theorem sumQ_const {α : Type} (c : Rat) (xs : List α) : sumQ (xs.map fun _ => c) = (xs.length : Int) * c := by
  induction xs with
  | nil => show (0 : Rat) = ((0 : Int) : Rat) * c; grind
  | cons x xs ih =>
    rw [List.map_cons, sumQ_cons, ih, List.length_cons, Int.natCast_add, Rat.intCast_add]
    grind
theorem sumQ_swap {α β : Type} (f : α → β → Rat) (xs : List α) (ys : List β) : sumQ (xs.map fun x => sumQ (ys.map fun y => f x y)) = sumQ (ys.map fun y => sumQ (xs.map fun x => f x y)) := by
  induction xs with
  | nil => show (0 : Rat) = sumQ (ys.map fun _ => 0); rw [sumQ_zero]
  | cons x xs ih =>
    rw [List.map_cons, sumQ_cons, ih, ← sumQ_add]
    congr 1
    exact List.map_congr_left fun y _ => by rw [List.map_cons, sumQ_cons]
theorem sumQ_flat {α : Type} (f : α → List Rat) (xs : List α) : sumQ (xs.flatMap f) = sumQ (xs.map fun x => sumQ (f x)) := by
  induction xs with
  | nil => rfl
  | cons x xs ih => rw [List.flatMap_cons, List.map_cons, sumQ_append, sumQ_cons, ih]
theorem sumQ_perm {ps qs : List Rat} (h : ps.Perm qs) : sumQ ps = sumQ qs := by
  induction h with
  | nil => rfl
  | cons x _ ih => rw [sumQ_cons, sumQ_cons, ih]
  | swap x y l => rw [sumQ_cons, sumQ_cons, sumQ_cons, sumQ_cons]; grind
  | trans _ _ h1 h2 => rw [h1, h2]
/-- one of different things -/
theorem sumQ_one {α : Type} [DecidableEq α] (g : α → Rat) {x : α} : ∀ {xs : List α}, xs.Nodup → x ∈ xs → sumQ (xs.map fun v => if v = x then g v else 0) = g x
  | [], _, h => absurd h List.not_mem_nil
  | y :: xs, nd, h => by
    obtain ⟨n1, n2⟩ := List.nodup_cons.mp nd
    rw [List.map_cons, sumQ_cons]
    by_cases e : y = x
    · subst e
      rw [if_pos rfl, show (xs.map fun v => if v = y then g v else 0) = xs.map fun _ => 0 from List.map_congr_left fun z hz => by rw [if_neg (fun q => n1 (by rw [← q]; exact hz))], sumQ_zero]
      grind
    · rw [if_neg e, sumQ_one g n2 ((List.mem_cons.mp h).resolve_left fun q => e q.symm)]
      grind
/-- by how often each comes -/
theorem sumQ_count {α : Type} [DecidableEq α] (g : α → Rat) {vs : List α} (nd : vs.Nodup) : ∀ xs : List α, (∀ x ∈ xs, x ∈ vs) → sumQ (xs.map g) = sumQ (vs.map fun v => ((xs.count v : Nat) : Int) * g v)
  | [], _ => by
    rw [List.map_nil, sumQ_nil, show (vs.map fun v => (((([] : List α).count v : Nat) : Int) : Rat) * g v) = vs.map fun _ => 0 from List.map_congr_left fun v _ => by rw [List.count_nil]; show ((0 : Int) : Rat) * g v = 0; grind, sumQ_zero]
  | x :: xs, h => by
    rw [List.map_cons, sumQ_cons, sumQ_count g nd xs fun y hy => h y (List.mem_cons_of_mem _ hy), ← sumQ_one g nd (h x List.mem_cons_self), ← sumQ_add]
    congr 1
    refine List.map_congr_left fun v _ => ?_
    rw [List.count_cons]
    by_cases e : x = v
    · subst e
      simp only [beq_self_eq_true, if_true]
      rw [Int.natCast_add, Rat.intCast_add]
      show g x + _ = _
      have : (((1 : Nat) : Int) : Rat) = 1 := rfl
      rw [this]
      grind
    · rw [if_neg (fun q => e q.symm), if_neg (by simpa using e)]
      show (0 : Rat) + _ = (((xs.count v + 0 : Nat) : Int) : Rat) * g v
      rw [Nat.add_zero]
      grind
/-- each as often -/
theorem sumQ_even {α : Type} [DecidableEq α] (g : α → Rat) {vs xs : List α} {c : Nat} (nd : vs.Nodup) (h : ∀ x ∈ xs, x ∈ vs) (hc : ∀ v ∈ vs, xs.count v = c) : sumQ (xs.map g) = ((c : Nat) : Int) * sumQ (vs.map g) := by
  rw [sumQ_count g nd xs h, ← sumQ_mul]
  congr 1
  exact List.map_congr_left fun v hv => by rw [hc v hv]
/-- the parts of a quotient -/
theorem num_den (q : Rat) {k : Int} : ((q.num : Int) : Rat) / (((q.den : Int) * k : Int) : Rat) = q / (k : Rat) := by
  have h := rat_eq q
  have h1 := den_ne q
  rw [Rat.intCast_mul]
  generalize (q.num : Rat) = a at *
  generalize ((q.den : Int) : Rat) = b at *
  rw [h, Rat.div_def, Rat.div_def, Rat.div_def, Rat.inv_mul_rev]
  grind
theorem In.of2 {L B : Nat} {t d : Int} {k : Int} (hd : (d : Rat) ≠ 0) (hk : d * k = (L : Int)) (hL : ((L : Int) : Rat) ≠ 0) (hB : (t * k).natAbs ≤ B) : In L B ((t : Rat) / (d : Rat)) := by
  refine ⟨t * k, ?_, hB⟩
  rw [← hk, Rat.intCast_mul, Rat.intCast_mul]
  rw [← hk, Rat.intCast_mul] at hL
  generalize (t : Rat) = a at *
  generalize (d : Rat) = b at *
  generalize (k : Rat) = c at *
  have hc : c ≠ 0 := fun h => hL (by rw [h]; grind)
  grind
theorem In.le {L A B : Nat} {q : Rat} (h : In L A q) (hab : A ≤ B) : In L B q := by
  obtain ⟨n, e, hn⟩ := h
  exact ⟨n, e, Nat.le_trans hn hab⟩
end Da
namespace Kx
open PySem PySem.Spec L2 Da
/-! ### tables of fractions -/
/-- a square of numbers as rows of pairs -/
def qm (M : List (List Rat)) : List (List (Int × Int)) := M.map fun r => r.map fq
structure Sq (M : List (List Rat)) (n : Nat) : Prop where
  len : M.length = n
  row : ∀ r ∈ M, r.length = n
def at2 (M : List (List Rat)) (u v : Nat) : Rat := (M.getD u []).getD v 0
theorem qm_len {M : List (List Rat)} : (qm M).length = M.length := List.length_map _
theorem qm_row {M : List (List Rat)} {n u : Nat} (h : Sq M n) (hu : u < n) : (qm M)[u]? = some ((M.getD u []).map fq) := by
  unfold qm
  have e := List.getElem?_eq_getElem (l := M) (i := u) (by rw [h.len]; exact hu)
  rw [List.getElem?_map, e, List.getD_eq_getElem?_getD, e]
  rfl
theorem row_len {M : List (List Rat)} {n u : Nat} (h : Sq M n) (hu : u < n) : (M.getD u []).length = n := by
  have e := List.getElem?_eq_getElem (l := M) (i := u) (by rw [h.len]; exact hu)
  rw [List.getD_eq_getElem?_getD, e]
  exact h.row _ (List.getElem_mem _)
theorem qm_item {M : List (List Rat)} {n u v : Nat} (h : Sq M n) (hu : u < n) (hv : v < n) : ((M.getD u []).map fq)[v]? = some (fq (at2 M u v)) := by
  have e := List.getElem?_eq_getElem (l := M.getD u []) (i := v) (by rw [row_len h hu]; exact hv)
  rw [List.getElem?_map, e]
  unfold at2
  rw [List.getD_eq_getElem?_getD (l := M.getD u []), e]
  rfl
theorem ix2 {M : List (List Rat)} {n : Nat} {u v : Int} (h : Sq M n) (u0 : 0 ≤ u) (hu : u < n) (v0 : 0 ≤ v) (hv : v < n) : ((ixR (qm M) u).bind fun x => ixR x v) = .ok (fq (at2 M u.toNat v.toNat)) := by
  rw [ixR_of u0 (qm_row h (by omega))]
  exact ixR_of v0 (qm_item h (by omega) (by omega))
theorem frozen_p (p : Int × Int) : N_frozen_piiq p = .ok p := rfl
theorem frozen_lp (r : List (Int × Int)) (h : r.length ≤ 1000000) : N_frozen_lpiiq r = .ok r := by
  unfold N_frozen_lpiiq
  rw [Res.bind_ret, lcR_map (g := fun x => x) h (fun x _ => frozen_p x), List.map_id']
theorem frozen_llp (r : List (List (Int × Int))) (h : r.length ≤ 1000000) (h2 : ∀ x ∈ r, x.length ≤ 1000000) : N_frozen_llpiiq r = .ok r := by
  unfold N_frozen_llpiiq
  rw [Res.bind_ret, lcR_map (g := fun x => x) h (fun x hx => frozen_lp x (h2 x hx)), List.map_id']
theorem checked_rows {r : List (List (Int × Int))} {n : Nat} (hl : r.length = n) (h : ∀ x ∈ r, x.length = n) (hn : n ≤ 1000000) : N_checked_rows_ttpiiq r = .ok r := by
  unfold N_checked_rows_ttpiiq
  obtain ⟨s, e, _⟩ := forR_inv (xs := enumI 0 r) (s := ()) (f := fun (x1 : Unit) (x2 : Int × List (Int × Int)) => (if (!decide ((x2.2.length : Int) = (r.length : Int))) = true then (.ex "BadTable" [("index", D.int x2.1)] : Res Unit) else Res.ok ())) (fun _ _ => True) trivial fun i x s hx _ => by
    have := h x.2 (List.mem_of_getElem? (enumI_at hx).2)
    exact ⟨(), by simp [this, hl], trivial⟩
  rw [e]
  dsimp only [Res.bind_ok]
  simp only [Res.bind_ret]
  rw [lcR_map (g := fun x => x) (by omega) (fun x hx => ?_), List.map_id']
  refine (lcR_map (f := fun x5 => N_as_fraction_piiq x5) (g := fun x => x) (by have := h x hx; omega) (fun y _ => rfl)).trans (by rw [List.map_id'])
theorem table_init {r : List (List (Int × Int))} {n : Nat} (hl : r.length = n) (h : ∀ x ∈ r, x.length = n) (hn : n ≤ 1000000) : N_Table_init_llpiiq r = .ok (r, (n : Int)) := by
  unfold N_Table_init_llpiiq
  rw [frozen_llp r (by omega) (fun x hx => by have := h x hx; omega)]
  dsimp only [Res.bind_ok]
  rw [checked_rows hl h hn]
  dsimp only [Res.bind_ok]
  rw [hl]
theorem table_qm {M : List (List Rat)} {n : Nat} (h : Sq M n) (hn : n ≤ 1000000) : N_Table_init_llpiiq (qm M) = .ok (qm M, (n : Int)) :=
  table_init (by rw [qm_len, h.len]) (fun x hx => by
    obtain ⟨r, hr, rfl⟩ := List.mem_map.mp hx
    rw [List.length_map]
    exact h.row r hr) hn
/-- the items of a day -/
def dayIt (M : List (List Rat)) (day : List Int) : List Rat := (enumI 0 day).map fun p => at2 M p.1.toNat p.2.toNat
def daySum (M : List (List Rat)) (day : List Int) : Rat := sumQ (dayIt M day)
structure Day (n : Nat) (day : List Int) : Prop where
  len : day.length = n
  mem : ∀ x ∈ day, 0 ≤ x ∧ x < n
theorem perm_day {n : Nat} {p : List Int} (h : p.Perm (upto n)) : Day n p := ⟨by rw [h.length_eq, upto_length], fun x hx => mem_upto.mp (h.mem_iff.mp hx)⟩
/-- all items over L, bounded -/
def AllIn (L B : Nat) (M : List (List Rat)) : Prop := ∀ r ∈ M, ∀ q ∈ r, In L B q
theorem at_in {L B : Nat} {M : List (List Rat)} {n u v : Nat} (h : Sq M n) (hI : AllIn L B M) (hu : u < n) (hv : v < n) : In L B (at2 M u v) := by
  have e := List.getElem?_eq_getElem (l := M) (i := u) (by rw [h.len]; exact hu)
  have e1 : M.getD u [] = M[u]'(by rw [h.len]; exact hu) := by rw [List.getD_eq_getElem?_getD, e]; rfl
  have hl := row_len h hu
  have e2 := List.getElem?_eq_getElem (l := M.getD u []) (i := v) (by omega)
  unfold at2
  rw [List.getD_eq_getElem?_getD (l := M.getD u []), e2]
  exact hI (M.getD u []) (by rw [e1]; exact List.getElem_mem _) _ (List.getElem_mem _)
theorem dayIt_len {M : List (List Rat)} {day : List Int} : (dayIt M day).length = day.length := by unfold dayIt; rw [List.length_map, enumI_length]
theorem dayIt_in {L B : Nat} {M : List (List Rat)} {n : Nat} {day : List Int} (h : Sq M n) (hI : AllIn L B M) (hd : Day n day) : ∀ q ∈ dayIt M day, In L B q := by
  intro q hq
  obtain ⟨p, hp, rfl⟩ := List.mem_map.mp hq
  obtain ⟨j, hj⟩ := List.mem_iff_getElem?.mp hp
  obtain ⟨e1, e2⟩ := enumI_at hj
  have hj' : j < n := by rw [← hd.len]; exact (List.getElem?_eq_some_iff.mp e2).1
  have := hd.mem _ (List.mem_of_getElem? e2)
  rw [e1]
  exact at_in h hI (by simpa using hj') (by omega)
theorem day_items {M : List (List Rat)} {n : Nat} {day : List Int} (h : Sq M n) (hd : Day n day) (hn : n ≤ 1000000) : lcR (enumI 0 day) (fun x1 => Res.ok true) (fun x1 => ((ixR (qm M) x1.1).bind fun x2 => ixR x2 x1.2)) = .ok ((dayIt M day).map fq) := by
  rw [lcR_map (g := fun p => fq (at2 M p.1.toNat p.2.toNat)) (by rw [enumI_length, hd.len]; exact hn) (fun p hp => ?_)]
  · unfold dayIt
    rw [List.map_map]
    rfl
  · obtain ⟨j, hj⟩ := List.mem_iff_getElem?.mp hp
    obtain ⟨e1, e2⟩ := enumI_at hj
    have hj' : j < n := by rw [← hd.len]; exact (List.getElem?_eq_some_iff.mp e2).1
    have := hd.mem _ (List.mem_of_getElem? e2)
    exact ix2 h (by omega) (by omega) this.1 this.2
theorem day_sumL {L B : Nat} {M : List (List Rat)} {n : Nat} {day : List Int} (h : Sq M n) (hI : AllIn L B M) (hd : Day n day) (hn : n ≤ 1000000) (h0 : 0 < L) (hL : L < 2 ^ 4400) (hB : (n + 1) * B < 2 ^ 4400) : N_day_sum_cTablettpiiqiq_li (qm M, (n : Int)) day = .ok (fq (daySum M day)) := by
  unfold N_day_sum_cTablettpiiqiq_li
  dsimp only
  rw [day_items h hd hn]
  exact fraction_sum_q h0 hL (by rw [dayIt_len, hd.len]; exact hB) (dayIt_in h hI hd)
theorem day_sumT {L B : Nat} {M : List (List Rat)} {n : Nat} {day : List Int} (h : Sq M n) (hI : AllIn L B M) (hd : Day n day) (hn : n ≤ 1000000) (h0 : 0 < L) (hL : L < 2 ^ 4400) (hB : (n + 1) * B < 2 ^ 4400) : N_day_sum_cTablettpiiqiq_ti (qm M, (n : Int)) day = .ok (fq (daySum M day)) := by
  unfold N_day_sum_cTablettpiiqiq_ti
  dsimp only
  rw [day_items h hd hn]
  exact fraction_sum_q h0 hL (by rw [dayIt_len, hd.len]; exact hB) (dayIt_in h hI hd)
theorem law_day_sumL {L B : Nat} {M : List (List Rat)} {n : Nat} {day : List Int} (h : Sq M n) (hI : AllIn L B M) (hd : Day n day) (hn : n ≤ 1000000) (h0 : 0 < L) (hL : L < 2 ^ 4400) (hB : (n + 1) * B < 2 ^ 4400) : N_law_day_sum_llpiiq_li (qm M) day = .ok (fq (daySum M day)) := by
  unfold N_law_day_sum_llpiiq_li
  rw [qm_len, h.len, rngR_nat (by omega)]
  simp only [Res.bind_ok, Res.bind_ret]
  obtain ⟨s, e, hs⟩ := forR_upto (n := n) (s := ((0, 1) : Int × Int)) (f := fun x1 x2 => (((ixR (qm M) x2).bind fun x3 => ((ixR day x2).bind fun x4 => (ixR x3 x4))).bind fun x5 => (N_law_added_piiq_piiq x1 x5))) (fun i s => s = fq (sumQ ((dayIt M day).take i))) rfl fun i s hi hs => by
    subst hs
    have ed := List.getElem?_eq_getElem (show i < day.length by rw [hd.len]; exact hi)
    have hm := hd.mem _ (List.mem_of_getElem? ed)
    have ei : (dayIt M day)[i]? = some (at2 M i (day[i]'(by rw [hd.len]; exact hi)).toNat) := by
      unfold dayIt
      rw [enumI_eq, List.getElem?_map, List.getElem?_map, List.getElem?_zipIdx, ed]
      simp
    rw [ixR_nat (qm_row h hi)]; dsimp only [Res.bind_ok]
    rw [ixR_nat ed]; dsimp only [Res.bind_ok]
    rw [ixR_of hm.1 (qm_item h hi (by omega))]; dsimp only [Res.bind_ok]
    have b1 : i * B < 2 ^ 4400 := Nat.lt_of_le_of_lt (Nat.mul_le_mul_right B (by omega)) hB
    have b2 : B < 2 ^ 4400 := Nat.lt_of_le_of_lt (Nat.le_mul_of_pos_left B (by omega)) hB
    refine ⟨_, law_added_q ((In.sum (dayIt_in h hI hd) i).sm h0 hL b1) ((at_in h hI hi (by omega)).sm h0 hL b2), ?_⟩
    rw [List.take_add_one, ei, Option.toList_some, sumQ_snoc]
  rw [e, hs, List.take_of_length_le (by rw [dayIt_len, hd.len]; exact Nat.le_refl _)]
  rfl
theorem law_day_sumT {L B : Nat} {M : List (List Rat)} {n : Nat} {day : List Int} (h : Sq M n) (hI : AllIn L B M) (hd : Day n day) (hn : n ≤ 1000000) (h0 : 0 < L) (hL : L < 2 ^ 4400) (hB : (n + 1) * B < 2 ^ 4400) : N_law_day_sum_llpiiq_ti (qm M) day = .ok (fq (daySum M day)) := law_day_sumL h hI hd hn h0 hL hB
/-! the whole sum -/
def total (M : List (List Rat)) : Rat := sumQ (M.map sumQ)
theorem row_sums_in {L B : Nat} {M : List (List Rat)} {n : Nat} (h : Sq M n) (hI : AllIn L B M) : ∀ q ∈ M.map sumQ, In L (n * B) q := by
  intro q hq
  obtain ⟨r, hr, rfl⟩ := List.mem_map.mp hq
  have := In.sum (hI r hr) n
  rwa [List.take_of_length_le (by rw [h.row r hr]; exact Nat.le_refl _)] at this
theorem line_sums {L B : Nat} {M : List (List Rat)} {n : Nat} (h : Sq M n) (hI : AllIn L B M) (hn : n ≤ 1000000) (h0 : 0 < L) (hL : L < 2 ^ 4400) (hB : (n + 1) * B < 2 ^ 4400) : N_line_sums_ttpiiq (qm M) = .ok ((M.map sumQ).map fq) := by
  unfold N_line_sums_ttpiiq
  rw [Res.bind_ret]
  unfold lcR qm
  rw [if_pos (szOk_yes (by rw [List.length_map, h.len]; exact hn))]
  have : ∀ N : List (List Rat), (∀ r ∈ N, r ∈ M) → lcR.go (fun x1 => Res.ok true) (fun x1 => N_fraction_sum_tpiiq x1) (N.map fun r => r.map fq) = .ok ((N.map sumQ).map fq) := by
    intro N
    induction N with
    | nil => intro _; rfl
    | cons r N ih =>
      intro hs
      have hr := hs r List.mem_cons_self
      rw [List.map_cons]
      unfold lcR.go
      rw [fraction_sumT_q h0 hL (by rw [h.row r hr]; exact hB) (hI r hr), ih fun x hx => hs x (List.mem_cons_of_mem _ hx)]
      rfl
  exact this M fun _ h => h
theorem mean_day {L B : Nat} {M : List (List Rat)} {n : Nat} (h : Sq M n) (hI : AllIn L B M) (n0 : 0 < n) (hn : n ≤ 1000000) (h0 : 0 < L) (hL : L < 2 ^ 4400) (hB : (n + 1) * ((n + 1) * B) < 2 ^ 4400) : N_Table_mean_day_cTablettpiiqiq (qm M, (n : Int)) = .ok (fq (total M / ((n : Int) : Rat))) := by
  unfold N_Table_mean_day_cTablettpiiqiq
  have hB1 : (n + 1) * B < 2 ^ 4400 := Nat.lt_of_le_of_lt (Nat.le_mul_of_pos_left _ (by omega)) hB
  have hB2 : (n + 1) * (n * B) < 2 ^ 4400 := Nat.lt_of_le_of_lt (Nat.mul_le_mul_left _ (Nat.mul_le_mul_right B (by omega))) hB
  have hs := row_sums_in h hI
  dsimp only
  rw [line_sums h hI hn h0 hL hB1]
  dsimp only [Res.bind_ok]
  rw [fraction_sumT_q h0 hL (by rw [List.length_map, h.len]; exact hB2) hs]
  dsimp only [Res.bind_ok, fq_fst, fq_snd]
  have hT : Sm (sumQ (M.map sumQ)) := by
    have := In.sum hs n
    rw [List.take_of_length_le (by rw [List.length_map, h.len]; exact Nat.le_refl _)] at this
    exact this.sm h0 hL (Nat.lt_of_le_of_lt (Nat.mul_le_mul_right _ (by omega)) hB2)
  rw [qm_len, h.len, mulR_44 hT.d (by rw [Int.natAbs_natCast]; exact Nat.lt_of_le_of_lt hn (Nat.lt_of_lt_of_le (show 1000000 < 2 ^ 20 by decide) (Nat.pow_le_pow_right (by decide) (by decide))))]
  dsimp only [Res.bind_ok]
  have hp : 0 < ((sumQ (M.map sumQ)).den : Int) * (n : Int) := Int.mul_pos (by have := (sumQ (M.map sumQ)).den_pos; omega) (by omega)
  rw [ratio_q hp, num_den]
  · rfl
  · rw [Int.natAbs_mul, Int.natAbs_natCast, Int.natAbs_natCast]
    refine Nat.lt_of_lt_of_le (mul_lim hT.2 (Nat.lt_of_le_of_lt hn (Nat.lt_of_lt_of_le (show 1000000 < 2 ^ 20 by decide) (Nat.pow_le_pow_right (by decide) (by decide))))) ?_
    unfold Lim
    exact Nat.pow_le_pow_right (by decide) (by decide)
/-! many days, each item as often as any other -/
structure Even (n c : Nat) (days : List (List Int)) : Prop where
  day : ∀ d ∈ days, Day n d
  len : days.length = c * n
  cnt : ∀ u v : Nat, u < n → v < n → (days.map fun d => d.getD u 0).count (v : Int) = c
theorem daySum_eq {M : List (List Rat)} {n : Nat} {d : List Int} (hd : Day n d) : daySum M d = sumQ ((List.range n).map fun u => at2 M u (d.getD u 0).toNat) := by
  unfold daySum dayIt
  rw [enumI_eq, List.map_map, ← hd.len]
  congr 1
  refine List.ext_getElem? fun i => ?_
  rw [List.getElem?_map, List.getElem?_map, List.getElem?_zipIdx]
  by_cases hi : i < d.length
  · rw [List.getElem?_range hi, List.getElem?_eq_getElem hi]
    simp [List.getD_eq_getElem?_getD, List.getElem?_eq_getElem hi]
  · rw [List.getElem?_eq_none (by omega), List.getElem?_eq_none (by rw [List.length_range]; omega)]
    rfl
theorem total_eq {M : List (List Rat)} {n : Nat} (h : Sq M n) : total M = sumQ ((List.range n).map fun u => sumQ ((upto n).map fun v => at2 M u v.toNat)) := by
  unfold total
  congr 1
  refine List.ext_getElem? fun u => ?_
  rw [List.getElem?_map, List.getElem?_map]
  by_cases hu : u < n
  · have e := List.getElem?_eq_getElem (l := M) (i := u) (by rw [h.len]; exact hu)
    have e1 : M.getD u [] = M[u]'(by rw [h.len]; exact hu) := by rw [List.getD_eq_getElem?_getD, e]; rfl
    rw [e, List.getElem?_range hu]
    show some _ = some _
    congr 2
    refine List.ext_getElem? fun v => ?_
    rw [List.getElem?_map]
    have hr := h.row _ (List.getElem_mem (l := M) (by rw [h.len]; exact hu))
    by_cases hv : v < n
    · rw [upto_at hv]
      show _ = some (at2 M u ((v : Int)).toNat)
      unfold at2
      rw [e1, List.getD_eq_getElem?_getD, show ((v : Int)).toNat = v by omega, List.getElem?_eq_getElem (by omega)]
      rfl
    · rw [List.getElem?_eq_none (by omega), List.getElem?_eq_none (by rw [upto_length]; omega)]
      rfl
  · rw [List.getElem?_eq_none (by rw [h.len]; omega), List.getElem?_eq_none (by rw [List.length_range]; omega)]
    rfl
theorem even_sum {M : List (List Rat)} {n c : Nat} {days : List (List Int)} (h : Sq M n) (he : Even n c days) : sumQ (days.map (daySum M)) = ((c : Nat) : Int) * total M := by
  rw [total_eq h, ← sumQ_mul, show days.map (daySum M) = days.map fun d => sumQ ((List.range n).map fun u => at2 M u (d.getD u 0).toNat) from List.map_congr_left fun d hd => daySum_eq (he.day d hd), sumQ_swap]
  congr 1
  refine List.map_congr_left fun u hu => ?_
  have hu := List.mem_range.mp hu
  have := sumQ_even (fun v : Int => at2 M u v.toNat) (vs := upto n) (xs := days.map fun d => d.getD u 0) (c := c) upto_nodup (fun x hx => by
    obtain ⟨d, hd, rfl⟩ := List.mem_map.mp hx
    have hD := he.day d hd
    have e := List.getElem?_eq_getElem (show u < d.length by rw [hD.len]; exact hu)
    show d.getD u 0 ∈ _
    rw [List.getD_eq_getElem?_getD, e]
    exact mem_upto.mpr (hD.mem _ (List.getElem_mem _))) (fun v hv => by
    have hv := mem_upto.mp hv
    have := he.cnt u v.toNat hu (by omega)
    rwa [show ((v.toNat : Nat) : Int) = v by omega] at this)
  rw [List.map_map] at this
  exact this
end Kx
namespace Kx
open PySem PySem.Spec L2 Da
open PySem PySem.Spec L2 Da
/-! ### drawn tables, all days, shifts -/
theorem small44 {a : Nat} (h : a < 18446744073709551616) : a < 2 ^ 4400 := Nat.lt_of_lt_of_le (show a < 2 ^ 64 from h) (Nat.pow_le_pow_right (by decide) (by decide))
theorem ixR_mem {α : Type} {xs : List α} {i : Int} (h0 : 0 ≤ i) (h : i < xs.length) : ∃ t, ixR xs i = .ok t ∧ t ∈ xs := ⟨xs[i.toNat]'(by omega), ixR_of h0 (List.getElem?_eq_getElem (by omega)), List.getElem_mem _⟩
end Kx
namespace Da
theorem Digs.get {sizes row : List Int} (h : Digs sizes row) {i : Nat} {s : Int} (hs : sizes[i]? = some s) : ∃ r, row[i]? = some r ∧ 0 ≤ r ∧ r < s := by
  have hi := (List.getElem?_eq_some_iff.mp hs).1
  have hi' : i < row.length := by rw [h.1]; exact hi
  exact ⟨row[i], List.getElem?_eq_getElem hi', h.2 i s _ hs (List.getElem?_eq_getElem hi')⟩
theorem Digs.ix {sizes row : List Int} (h : Digs sizes row) {i : Nat} {s : Int} (hs : sizes[i]? = some s) : ∃ r, ixR row (i : Int) = .ok r ∧ 0 ≤ r ∧ r < s := by
  obtain ⟨r, e, h⟩ := h.get hs
  exact ⟨r, ixR_nat e, h⟩
theorem Digs.ixI {sizes row : List Int} (h : Digs sizes row) {k : Int} {s : Int} (hk : 0 ≤ k) (hs : sizes[k.toNat]? = some s) : ∃ r, ixR row k = .ok r ∧ 0 ≤ r ∧ r < s := by
  obtain ⟨r, e, h⟩ := h.get hs
  exact ⟨r, ixR_of hk e, h⟩
end Da
namespace Kx
open PySem PySem.Spec L2 Da
/-- digits of a drawn table -/
def tabSizes : List Int := [7] ++ (List.replicate 25 [40, 9]).flatten
theorem tabSizes_ok : ∀ k, k < 25 → tabSizes[1 + 2 * k]? = some 40 ∧ tabSizes[2 + 2 * k]? = some 9 := by decide +kernel
theorem in60 {t b : Int} (ht : t.natAbs ≤ 40) (hb : b = 1 ∨ b = 2 ∨ b = 3 ∨ b = 4 ∨ b = 5 ∨ b = 6) : In 60 3000 ((t : Rat) / (b : Rat)) := by
  rcases hb with rfl | rfl | rfl | rfl | rfl | rfl
  · exact (In.of 60 (by decide) (by decide) (by decide)).le (by omega)
  · exact (In.of 30 (by decide) (by decide) (by decide)).le (by omega)
  · exact (In.of 20 (by decide) (by decide) (by decide)).le (by omega)
  · exact (In.of 15 (by decide) (by decide) (by decide)).le (by omega)
  · exact (In.of 12 (by decide) (by decide) (by decide)).le (by omega)
  · exact (In.of 10 (by decide) (by decide) (by decide)).le (by omega)
theorem table_rows {n : Nat} {row : List Int} (hn : n ≤ 5) (hd : Digs tabSizes row) : ∃ M, N_law_table_rows_i_li n row = .ok (qm M) ∧ Sq M n ∧ AllIn 60 3000 M := by
  unfold N_law_table_rows_i_li
  rw [rngR_nat (by omega)]
  simp only [Res.bind_ok, Res.bind_ret, Res.bind_assoc]
  obtain ⟨s, e, M, rfl, hl, hr⟩ := forR_upto (n := n) (s := ([] : List (List (Int × Int)))) (f := fun x1 x2 => (forR (fun x3 x4 => (mulR (n : Int) x2).bind fun x => (mulR 2 (x + x4)).bind fun x => (ixR row (1 + x)).bind fun x_1 => (ixR row (1 + x)).bind fun x_2 => (ixR row (1 + x)).bind fun x_3 => (ixR row (1 + x)).bind fun x_4 => (ixR row (1 + x)).bind fun x_5 => (ixR row (1 + x)).bind fun x_6 => (ixR row (1 + x)).bind fun x_7 => (ixR row 0).bind fun x_8 => (ixR [x_1 - 12, x_2 % 3, x_3 % 2, x_4 - 12, x_5 / 5, x_6 - 20, x_7] x_8).bind fun x_9 => (ixR row (1 + x + 1)).bind fun x => (ixR [1, 1, 1, 2, 3, 4, 6, 1, 5] x).bind fun x => (N_law_fraction_i_i x_9 x).bind fun x => appR x3 x) (upto n) []).bind fun x => appR x1 x)
    (fun i s => ∃ M : List (List Rat), s = qm M ∧ M.length = i ∧ ∀ r ∈ M, r.length = n ∧ ∀ q ∈ r, In 60 3000 q) ⟨[], rfl, rfl, fun r h => nomatch h⟩ fun i s hi => by
    rintro ⟨M, rfl, hl, hr⟩
    obtain ⟨t, e, R, rfl, hRl, hR⟩ := forR_upto (n := n) (s := ([] : List (Int × Int))) (f := fun x3 x4 => (mulR (n : Int) (i : Int)).bind fun x => (mulR 2 (x + x4)).bind fun x => (ixR row (1 + x)).bind fun x_1 => (ixR row (1 + x)).bind fun x_2 => (ixR row (1 + x)).bind fun x_3 => (ixR row (1 + x)).bind fun x_4 => (ixR row (1 + x)).bind fun x_5 => (ixR row (1 + x)).bind fun x_6 => (ixR row (1 + x)).bind fun x_7 => (ixR row 0).bind fun x_8 => (ixR [x_1 - 12, x_2 % 3, x_3 % 2, x_4 - 12, x_5 / 5, x_6 - 20, x_7] x_8).bind fun x_9 => (ixR row (1 + x + 1)).bind fun x => (ixR [1, 1, 1, 2, 3, 4, 6, 1, 5] x).bind fun x => (N_law_fraction_i_i x_9 x).bind fun x => appR x3 x)
      (fun j t => ∃ R : List Rat, t = R.map fq ∧ R.length = j ∧ ∀ q ∈ R, In 60 3000 q) ⟨[], rfl, rfl, fun r h => nomatch h⟩ fun j t hj => by
      rintro ⟨R, rfl, hRl, hR⟩
      have hk : n * i + j < 25 := by
        have : n * i ≤ n * (n - 1) := Nat.mul_le_mul_left n (by omega)
        have : n * (n - 1) + n ≤ 25 := by
          rcases (show n = 0 ∨ n = 1 ∨ n = 2 ∨ n = 3 ∨ n = 4 ∨ n = 5 by omega) with rfl | rfl | rfl | rfl | rfl | rfl <;> decide
        omega
      obtain ⟨k1, k2⟩ := tabSizes_ok _ hk
      obtain ⟨a, ea, a0, a1⟩ := hd.ix k1
      obtain ⟨b, eb, b0, b1⟩ := hd.ix k2
      obtain ⟨z, ez, z0, z1⟩ := hd.ix (show tabSizes[0]? = some 7 by rfl)
      have hni : (n : Int) * (i : Int) = ((n * i : Nat) : Int) := by rw [Int.natCast_mul]
      rw [mulR_64 (by omega) (by omega), hni]; dsimp only [Res.bind_ok]
      rw [mulR_64 (by omega) (by omega)]; dsimp only [Res.bind_ok]
      rw [show (1 + 2 * (((n * i : Nat) : Int) + (j : Int))) = ((1 + 2 * (n * i + j) : Nat) : Int) by omega, show (((1 + 2 * (n * i + j) : Nat) : Int) + 1) = ((2 + 2 * (n * i + j) : Nat) : Int) by omega, ea]; dsimp only [Res.bind_ok]
      rw [show (0 : Int) = ((0 : Nat) : Int) by rfl, ez]; dsimp only [Res.bind_ok]
      obtain ⟨t, et, ht⟩ := ixR_mem (xs := [a - 12, a % 3, a % 2, a - 12, a / 5, a - 20, a]) z0 (by simpa using z1)
      rw [et]; dsimp only [Res.bind_ok]
      rw [eb]; dsimp only [Res.bind_ok]
      obtain ⟨w, ew, hw⟩ := ixR_mem (xs := [1, 1, 1, 2, 3, 4, 6, 1, (5 : Int)]) b0 (by simpa using b1)
      rw [ew]; dsimp only [Res.bind_ok]
      have hw' : w = 1 ∨ w = 2 ∨ w = 3 ∨ w = 4 ∨ w = 5 ∨ w = 6 := by
        simp only [List.mem_cons, List.not_mem_nil, or_false] at hw
        omega
      have ht' : t.natAbs ≤ 40 := by
        simp only [List.mem_cons, List.not_mem_nil, or_false] at ht
        omega
      rw [law_fraction (by omega) (lt_lim (by omega)) (lt_lim (by omega))]; dsimp only [Res.bind_ok]
      rw [appR_ok (by rw [List.length_map]; omega)]
      refine ⟨_, rfl, R ++ [(t : Rat) / (w : Rat)], by rw [List.map_append]; rfl, by rw [List.length_append, hRl]; rfl, fun q hq => ?_⟩
      rcases List.mem_append.mp hq with h | h
      · exact hR q h
      · rw [List.mem_singleton.mp h]
        exact in60 ht' hw'
    rw [e]; dsimp only [Res.bind_ok]
    rw [appR_ok (by rw [qm_len]; omega)]
    refine ⟨_, rfl, M ++ [R], by unfold qm; rw [List.map_append]; rfl, by rw [List.length_append, hl]; rfl, fun r h => ?_⟩
    rcases List.mem_append.mp h with h | h
    · exact hr r h
    · rw [List.mem_singleton.mp h]
      exact ⟨hRl, hR⟩
  exact ⟨M, e, ⟨hl, fun r h => (hr r h).1⟩, fun r h => (hr r h).2⟩
/-! all days -/
def grow (n : Nat) (ds : List (List Int)) : List (List Int) := ds.flatMap fun day => ((upto n).filter fun v => !decide (v ∈ day)).map fun v => day ++ [v]
def daysK (n : Nat) : Nat → List (List Int)
  | 0 => [[]]
  | k + 1 => grow n (daysK n k)
theorem law_days {n : Nat} (hn : n ≤ 1000) (hB : ∀ k, k ≤ n → (daysK n k).length ≤ 100000) (hL : ∀ k, k ≤ n → ∀ d ∈ daysK n k, d.length ≤ 1000) : N_law_days_i n = .ok (daysK n n) := by
  unfold N_law_days_i
  rw [rngR_nat (by omega)]
  simp only [Res.bind_ok, Res.bind_ret, Res.bind_assoc]
  obtain ⟨s, e, rfl⟩ := forR_upto (n := n) (s := ([[]] : List (List Int))) (f := fun (x1 : List (List Int)) (x2 : Int) => forR (fun x3 x4 => forR (fun x5 x6 => if (!decide (x6 ∈ x4)) = true then (catR x4 [x6]).bind fun x => appR x5 x else Res.ok x5) (upto n) x3) x1 []) (fun k s => s = daysK n k) rfl fun i s hi hs => by
    subst hs
    have hB' := hB (i + 1) (by omega)
    have := forR_flat (f := fun x3 x4 => forR (fun x5 x6 => if (!decide (x6 ∈ x4)) = true then (catR x4 [x6]).bind fun x => appR x5 x else Res.ok x5) (upto n) x3) (g := fun day => ((upto n).filter fun v => !decide (v ∈ day)).map fun v => day ++ [v]) (B := 100000) (xs := daysK n i) (s := []) (fun day hday s hs => by
      have hdl := hL i (by omega) day hday
      have h2 := forR_flat (f := fun x5 x6 => if (!decide (x6 ∈ day)) = true then (catR day [x6]).bind fun x => appR x5 x else Res.ok x5) (g := fun v => if (!decide (v ∈ day)) = true then [day ++ [v]] else []) (B := 100000 + n) (xs := upto n) (s := s) (fun v _ s hs => by
        by_cases hv : v ∈ day
        · simp [hv]
        · simp only [hv, decide_false, Bool.not_false, if_true, List.length_singleton] at hs ⊢
          rw [catR_ok (by simp; omega)]; dsimp only [Res.bind_ok]
          rw [appR_ok (by omega)]) (by
        have : ∀ vs : List Int, (vs.flatMap fun v => if (!decide (v ∈ day)) = true then [day ++ [v]] else []).length ≤ vs.length := by
          intro vs
          induction vs with
          | nil => simp
          | cons v vs ih =>
            rw [List.flatMap_cons, List.length_append, List.length_cons]
            have : (if (!decide (v ∈ day)) = true then [day ++ [v]] else []).length ≤ 1 := by split <;> simp
            omega
        have := this (upto n)
        rw [upto_length] at this
        omega)
      rw [h2]
      congr 2
      have : ∀ vs : List Int, (vs.flatMap fun v => if (!decide (v ∈ day)) = true then [day ++ [v]] else []) = (vs.filter fun v => !decide (v ∈ day)).map fun v => day ++ [v] := by
        intro vs
        induction vs with
        | nil => rfl
        | cons v vs ih =>
          rw [List.flatMap_cons, ih, List.filter_cons]
          split <;> simp
      exact this _) (by rw [List.length_nil, Nat.zero_add]; exact hB')
    exact ⟨_, this, by rw [List.nil_append]; rfl⟩
  exact e
def evenB (n c : Nat) (days : List (List Int)) : Bool := (days.all fun d => d.length == n && d.all fun x => decide (0 ≤ x) && decide (x < n)) && days.length == c * n && (List.range n).all fun u => (List.range n).all fun v => (days.map fun d => d.getD u 0).count (v : Int) == c
theorem even_of {n c : Nat} {days : List (List Int)} (h : evenB n c days = true) : Even n c days := by
  unfold evenB at h
  rw [Bool.and_eq_true, Bool.and_eq_true] at h
  obtain ⟨⟨h1, h2⟩, h3⟩ := h
  refine ⟨fun d hd => ?_, by simpa using h2, fun u v hu hv => ?_⟩
  · have := List.all_eq_true.mp h1 d hd
    rw [Bool.and_eq_true] at this
    refine ⟨by simpa using this.1, fun x hx => ?_⟩
    have := List.all_eq_true.mp this.2 x hx
    simpa using this
  · have := List.all_eq_true.mp (List.all_eq_true.mp h3 u (List.mem_range.mpr hu)) v (List.mem_range.mpr hv)
    simpa using this
def fact : Nat → Nat
  | 0 => 1
  | n + 1 => (n + 1) * fact n
theorem days_small : ∀ n, n < 6 → (∀ k, k < n + 1 → (daysK n k).length ≤ 100000 ∧ (daysK n k).all (fun d => decide (d.length ≤ 1000)) = true) ∧ (0 < n → evenB n (fact (n - 1)) (daysK n n) = true) ∧ (daysK n n).length ≤ 120 := by decide +kernel
theorem law_days5 {n : Nat} (hn : n ≤ 5) : N_law_days_i n = .ok (daysK n n) := by
  have h := (days_small n (by omega)).1
  exact law_days (by omega) (fun k hk => (h k (by omega)).1) fun k hk d hd => by
    have := List.all_eq_true.mp (h k (by omega)).2 d hd
    simpa using this
def shifts (n : Nat) : List (List Int) := (upto n).map fun k => (upto n).map fun u => (u + k) % (n : Int)
theorem shifts_even : ∀ n, n < 25 → 0 < n → evenB n 1 (shifts n) = true := by decide +kernel
end Kx
namespace Da
open PySem PySem.Spec L2
/-! ### what a run gives, step by step -/
def Tr {α : Type} (r : Res α) (Q : α → Prop) : Prop := ∃ v, r = .ok v ∧ Q v
section
variable {α β γ σ τ : Type} {r : Res α} {Q : α → Prop} {f : α → Res β} {v : α} {R : β → Prop}
theorem Tr.of (h : r = .ok v) (q : Q v) : Tr r Q := ⟨v, h, q⟩
theorem Tr.eq {r : Res α} {v : α} (h : Tr r fun x => x = v) : r = .ok v := by obtain ⟨x, e, rfl⟩ := h; exact e
theorem Tr.ok (q : Q v) : Tr (.ok v) Q := ⟨v, rfl, q⟩
theorem Tr.imp {Q' : α → Prop} (h : Tr r Q) (k : ∀ v, Q v → Q' v) : Tr r Q' := by obtain ⟨v, e, q⟩ := h; exact ⟨v, e, k v q⟩
theorem Tr.bind (h : Tr r Q) (k : ∀ v, Q v → Tr (f v) R) : Tr (r.bind f) R := by
  obtain ⟨v, e, q⟩ := h
  rw [e]
  exact k v q
/-- a step whose outcome is known -/
theorem Tr.st (h : r = .ok v) (k : Tr (f v) R) : Tr (r.bind f) R := by rw [h]; exact k
theorem Tr.nx (h : Tr r Q) : Tr (nx r) Q := by obtain ⟨v, e, q⟩ := h; rw [e]; exact ⟨v, rfl, q⟩
theorem Tr.ite {b : Bool} {r1 r2 : Res α} (h1 : b = true → Tr r1 Q) (h2 : b = false → Tr r2 Q) : Tr (if b = true then r1 else r2) Q := by
  cases b with
  | true => exact h1 rfl
  | false => exact h2 rfl
theorem Tr.itT {b : Bool} {r1 r2 : Res α} (hb : b = true) (h1 : Tr r1 Q) : Tr (if b = true then r1 else r2) Q := by rw [if_pos hb]; exact h1
theorem Tr.itF {b : Bool} {r1 r2 : Res α} (hb : b = false) (h1 : Tr r2 Q) : Tr (if b = true then r1 else r2) Q := by rw [if_neg (by rw [hb]; exact Bool.false_ne_true)]; exact h1
theorem tr_forR {f : σ → α → Res σ} {xs : List α} {s : σ} {Q : σ → Prop} (P : Nat → σ → Prop) (h0 : P 0 s) (hs : ∀ i x s, xs[i]? = some x → P i s → Tr (f s x) (P (i + 1))) (hd : ∀ s, P xs.length s → Q s) : Tr (forR f xs s) Q := by
  obtain ⟨s', e, p⟩ := forR_inv P h0 fun i x s hx p => hs i x s hx p
  exact ⟨s', e, hd s' p⟩
theorem tr_forRn {f : σ → Int → Res σ} {n : Nat} {s : σ} {Q : σ → Prop} (P : Nat → σ → Prop) (h0 : P 0 s) (hs : ∀ (i : Nat) s, i < n → P i s → Tr (f s (i : Int)) (P (i + 1))) (hd : ∀ s, P n s → Q s) : Tr (forR f (upto n) s) Q := by
  obtain ⟨s', e, p⟩ := forR_upto P h0 fun i s hi p => hs i s hi p
  exact ⟨s', e, hd s' p⟩
theorem tr_forC {f : σ → α → Res (Ctl σ τ)} {xs : List α} {s : σ} {Q : Ctl σ τ → Prop} (P : Nat → σ → Prop) (h0 : P 0 s) (hs : ∀ i x s, xs[i]? = some x → P i s → Tr (f s x) (fun o => match o with
    | .go s' => P (i + 1) s'
    | .out s' => Q (.go s')
    | .ret b => Q (.ret b))) (hd : ∀ s, P xs.length s → Q (.go s)) : Tr (forC f xs s) Q := forC_inv Q P h0 (fun i x s hx p => hs i x s hx p) hd
theorem tr_forCn {f : σ → Int → Res (Ctl σ τ)} {n : Nat} {s : σ} {Q : Ctl σ τ → Prop} (P : Nat → σ → Prop) (h0 : P 0 s) (hs : ∀ (i : Nat) s, i < n → P i s → Tr (f s (i : Int)) (fun o => match o with
    | .go s' => P (i + 1) s'
    | .out s' => Q (.go s')
    | .ret b => Q (.ret b))) (hd : ∀ s, P n s → Q (.go s)) : Tr (forC f (upto n) s) Q := forC_upto Q P h0 (fun i s hi p => hs i s hi p) hd
/-- a search, and what comes behind it -/
theorem tr_find {f : Unit → α → Res (Ctl Unit τ)} {xs : List α} {k : Unit → Res γ} {rk : τ → γ} {Q : γ → Prop} (P : α → Prop) (R : τ → Prop) (h : ∀ x ∈ xs, Tr (f () x) fun o => (o = .go () ∧ P x) ∨ ∃ b, o = .ret b ∧ R b)
    (h1 : (∀ x ∈ xs, P x) → Tr (k ()) Q) (h2 : ∀ b, R b → Q (rk b)) : Tr ((forC f xs ()).bind (ctlK k rk)) Q := by
  induction xs with
  | nil => exact h1 fun x hx => nomatch hx
  | cons x xs ih =>
    rw [forC_cons, Res.bind_assoc]
    obtain ⟨o, e, p⟩ := h x List.mem_cons_self
    rw [e]
    rcases p with ⟨rfl, p⟩ | ⟨b, rfl, r⟩
    · exact ih (fun y hy => h y (List.mem_cons_of_mem _ hy)) fun hp => h1 fun y hy => by
        rcases List.mem_cons.mp hy with rfl | hy
        · exact p
        · exact hp y hy
    · exact ⟨_, rfl, h2 b r⟩
/-- all turns go on -/
theorem tr_all {f : Unit → α → Res (Ctl Unit τ)} {xs : List α} {k : Unit → Res γ} {rk : τ → γ} {Q : γ → Prop} (h : ∀ x ∈ xs, Tr (f () x) fun o => o = .go ()) (h1 : Tr (k ()) Q) : Tr ((forC f xs ()).bind (ctlK k rk)) Q :=
  tr_find (fun _ => True) (fun _ => False) (fun x hx => (h x hx).imp fun o e => .inl ⟨e, trivial⟩) (fun _ => h1) fun b h => h.elim
/-- a loop that appends one item a turn -/
theorem tr_app {f : List β → α → Res (List β)} {xs : List α} (g : α → β) (hz : xs.length ≤ 1000000) (h : ∀ x ∈ xs, ∀ s : List β, s.length < 1000000 → Tr (f s x) fun y => y = s ++ [g x]) {Q : List β → Prop} (hq : Q (xs.map g)) : Tr (forR f xs []) Q := ⟨_, (forR_app (g := g) (s := []) (fun x hx s hs => (h x hx s hs).eq) (by rw [List.length_nil, Nat.zero_add]; exact hz)), by rw [List.nil_append]; exact hq⟩
theorem lcR_mapp {f : α → Res β} {k : γ → α} {xs : List γ} (g : γ → β) (hz : xs.length ≤ 1000000) (h : ∀ x ∈ xs, f (k x) = .ok (g x)) : lcR (xs.map k) (fun _ => .ok true) f = .ok (xs.map g) := by
  unfold lcR
  rw [if_pos (szOk_yes (by rw [List.length_map]; exact hz))]
  clear hz
  induction xs with
  | nil => rfl
  | cons x xs ih =>
    rw [List.map_cons]
    unfold lcR.go
    rw [h x List.mem_cons_self, ih fun y hy => h y (List.mem_cons_of_mem _ hy)]
    rfl
/-- over told items -/
theorem tr_lcp {f : α → Res β} {k : γ → α} {xs : List γ} {Q : List β → Prop} (g : γ → β) (hz : xs.length ≤ 1000000) (h : ∀ x ∈ xs, Tr (f (k x)) fun y => y = g x) (hq : Q (xs.map g)) : Tr (lcR (xs.map k) (fun _ => .ok true) f) Q := ⟨_, lcR_mapp g hz fun x hx => (h x hx).eq, hq⟩
theorem tr_lc {f : α → Res β} {xs : List α} {Q : List β → Prop} (g : α → β) (hz : xs.length ≤ 1000000) (h : ∀ x ∈ xs, Tr (f x) fun y => y = g x) (hq : Q (xs.map g)) : Tr (lcR xs (fun _ => .ok true) f) Q := ⟨_, lcR_map hz fun x hx => (h x hx).eq, hq⟩
theorem tr_lcf {c : α → Res Bool} {f : α → Res β} {xs : List α} {Q : List β → Prop} (p : α → Bool) (g : α → β) (hz : xs.length ≤ 1000000) (hc : ∀ x ∈ xs, Tr (c x) fun b => b = p x) (h : ∀ x ∈ xs, p x = true → Tr (f x) fun y => y = g x) (hq : Q ((xs.filter p).map g)) : Tr (lcR xs c f) Q := ⟨_, lcR_filter hz (fun x hx => (hc x hx).eq) fun x hx px => (h x hx px).eq, hq⟩
theorem tr_lcm {f : α → Res β} {xs : List α} {Q : List β → Prop} (P : α → β → Prop) (hz : xs.length ≤ 1000000) (h : ∀ x ∈ xs, Tr (f x) (P x)) (hq : ∀ ys : List β, ys.length = xs.length → (∀ (i : Nat) x, xs[i]? = some x → ∃ y, ys[i]? = some y ∧ P x y) → Q ys) : Tr (lcR xs (fun _ => .ok true) f) Q := by
  obtain ⟨ys, e, hl, hp⟩ := lcR_mapM P hz h
  exact ⟨ys, e, hq ys hl hp⟩
end
end Da
namespace Da
open PySem PySem.Spec L2
/-! ### numbers over a common bottom -/
theorem natCast_ne {L : Nat} (h : 0 < L) : ((L : Int) : Rat) ≠ 0 := by
  intro q
  have : (L : Int) = 0 := by exact_mod_cast q
  omega
theorem In.scale {L B : Nat} {q : Rat} (h : In L B q) (m : Nat) (hL : 0 < L) (hm : 0 < m) : In (L * m) (B * m) q := by
  obtain ⟨n, e, hn⟩ := h
  refine ⟨n * m, ?_, by rw [Int.natAbs_mul, Int.natAbs_natCast]; exact Nat.mul_le_mul_right m hn⟩
  have h1 := natCast_ne hL
  have h2 := natCast_ne hm
  rw [e, Int.natCast_mul, Rat.intCast_mul, Rat.intCast_mul]
  generalize ((L : Int) : Rat) = a at *
  generalize ((m : Int) : Rat) = b at *
  generalize (n : Rat) = c
  grind
theorem In.mul {L M A B : Nat} {p q : Rat} (h : In L A p) (k : In M B q) (hL : 0 < L) (hM : 0 < M) : In (L * M) (A * B) (p * q) := by
  obtain ⟨n, e, hn⟩ := h
  obtain ⟨m, f, hm⟩ := k
  refine ⟨n * m, ?_, by rw [Int.natAbs_mul]; exact Nat.mul_le_mul hn hm⟩
  have h1 := natCast_ne hL
  have h2 := natCast_ne hM
  rw [e, f, Int.natCast_mul, Rat.intCast_mul, Rat.intCast_mul]
  generalize ((L : Int) : Rat) = a at *
  generalize ((M : Int) : Rat) = b at *
  generalize (n : Rat) = c
  generalize (m : Rat) = d
  grind
theorem In.neg {L B : Nat} {q : Rat} (h : In L B q) : In L B (-q) := by
  obtain ⟨n, e, hn⟩ := h
  refine ⟨-n, ?_, by rw [Int.natAbs_neg]; exact hn⟩
  rw [e, Rat.intCast_neg]
  grind
theorem In.sub {L A B : Nat} {p q : Rat} (h : In L A p) (k : In L B q) : In L (A + B) (p - q) := by
  have := h.add k.neg
  rwa [show p + -q = p - q by grind] at this
theorem In.div {L B : Nat} {q : Rat} (h : In L B q) (m : Nat) (hL : 0 < L) (hm : 0 < m) : In (L * m) B (q / ((m : Int) : Rat)) := by
  obtain ⟨n, e, hn⟩ := h
  refine ⟨n, ?_, hn⟩
  have h1 := natCast_ne hL
  have h2 := natCast_ne hm
  rw [e, Int.natCast_mul, Rat.intCast_mul]
  generalize ((L : Int) : Rat) = a at *
  generalize ((m : Int) : Rat) = b at *
  generalize (n : Rat) = c
  grind
theorem In.sumAll {L B : Nat} {qs : List Rat} (h : ∀ q ∈ qs, In L B q) : In L (qs.length * B) (sumQ qs) := by
  have := In.sum h qs.length
  rwa [List.take_of_length_le (Nat.le_refl _)] at this
theorem In.sm64 {L B : Nat} {q : Rat} (h : In L B q) (h0 : 0 < L) (hL : L < 18446744073709551616) (hB : B < 18446744073709551616) : Sm q :=
  h.sm h0 (Nat.lt_of_lt_of_le (show L < 2 ^ 64 from hL) (Nat.pow_le_pow_right (by decide) (by decide))) (Nat.lt_of_lt_of_le (show B < 2 ^ 64 from hB) (Nat.pow_le_pow_right (by decide) (by decide)))
theorem neg_num (q : Rat) : (-q).num = -q.num := rfl
theorem neg_den (q : Rat) : (-q).den = q.den := rfl
theorem Sm.neg {q : Rat} (h : Sm q) : Sm (-q) := ⟨by rw [neg_num, Int.natAbs_neg]; exact h.1, by rw [neg_den]; exact h.2⟩
theorem mul_eq (p q : Rat) : (((p.num * q.num : Int)) : Rat) / (((p.den : Int) * (q.den : Int) : Int) : Rat) = p * q := by
  have hp := rat_eq p
  have hq := rat_eq q
  have h1 := den_ne p
  have h2 := den_ne q
  rw [Rat.intCast_mul, Rat.intCast_mul]
  generalize (p.num : Rat) = a at *
  generalize ((p.den : Int) : Rat) = b at *
  generalize (q.num : Rat) = c at *
  generalize ((q.den : Int) : Rat) = d at *
  rw [hp, hq]
  grind
theorem sub_eq (p q : Rat) : (((p.num * (q.den : Int) - q.num * (p.den : Int) : Int)) : Rat) / (((p.den : Int) * (q.den : Int) : Int) : Rat) = p - q := by
  have hp := rat_eq p
  have hq := rat_eq q
  have h1 := den_ne p
  have h2 := den_ne q
  rw [Rat.intCast_sub, Rat.intCast_mul, Rat.intCast_mul, Rat.intCast_mul]
  generalize (p.num : Rat) = a at *
  generalize ((p.den : Int) : Rat) = b at *
  generalize (q.num : Rat) = c at *
  generalize ((q.den : Int) : Rat) = d at *
  rw [hp, hq]
  grind
/-- a search: either nothing is found, or something -/
theorem forC_find {α β : Type} {f : Unit → α → Res (Ctl Unit β)} {xs : List α} (P : α → Prop) (R : β → Prop) (h : ∀ x ∈ xs, (f () x = .ok (.go ()) ∧ P x) ∨ ∃ b, f () x = .ok (.ret b) ∧ R b) : (forC f xs () = .ok (.go ()) ∧ ∀ x ∈ xs, P x) ∨ ∃ b, forC f xs () = .ok (.ret b) ∧ R b := by
  induction xs with
  | nil => exact .inl ⟨rfl, fun x hx => nomatch hx⟩
  | cons x xs ih =>
    rw [forC_cons]
    rcases h x List.mem_cons_self with ⟨e, p⟩ | ⟨b, e, r⟩
    · rw [e]
      rcases ih fun y hy => h y (List.mem_cons_of_mem _ hy) with ⟨e2, p2⟩ | ⟨b, e2, r⟩
      · refine .inl ⟨e2, fun y hy => ?_⟩
        rcases List.mem_cons.mp hy with rfl | hy
        · exact p
        · exact p2 y hy
      · exact .inr ⟨b, e2, r⟩
    · rw [e]
      exact .inr ⟨b, rfl, r⟩
/-- a sum of squares -/
theorem sq_nonneg (q : Rat) : 0 ≤ q * q := by
  rcases (Rat.le_total : (0 : Rat) ≤ q ∨ q ≤ 0) with h | h
  · exact Rat.mul_nonneg h h
  · have : 0 ≤ -q := by grind
    have := Rat.mul_nonneg this this
    grind
theorem sum_nonneg {qs : List Rat} (h : ∀ q ∈ qs, 0 ≤ q) : 0 ≤ sumQ qs := by
  induction qs with
  | nil => show (0 : Rat) ≤ 0; grind
  | cons q qs ih =>
    rw [sumQ_cons]
    have h1 := h q List.mem_cons_self
    have h2 := ih fun x hx => h x (List.mem_cons_of_mem _ hx)
    grind
theorem sum_zero {qs : List Rat} (h : ∀ q ∈ qs, 0 ≤ q) (h0 : sumQ qs = 0) : ∀ q ∈ qs, q = 0 := by
  induction qs with
  | nil => intro q hq; exact nomatch hq
  | cons q qs ih =>
    rw [sumQ_cons] at h0
    have h1 := h q List.mem_cons_self
    have h2 := sum_nonneg fun x hx => h x (List.mem_cons_of_mem _ hx)
    intro x hx
    rcases List.mem_cons.mp hx with rfl | hx
    · grind
    · exact ih (fun x hx => h x (List.mem_cons_of_mem _ hx)) (by grind) x hx
theorem sq_zero {q : Rat} (h : q * q = 0) : q = 0 := by
  rcases Rat.mul_eq_zero.mp h with h | h <;> exact h
end Da
namespace Kx
open PySem PySem.Spec L2 Da
theorem lim44 : (2 : Nat) ^ 4400 ≤ Lim := by unfold Lim; exact Nat.pow_le_pow_right (by decide) (by decide)
theorem lim88 : (2 : Nat) ^ 8800 ≤ Lim := by unfold Lim; exact Nat.pow_le_pow_right (by decide) (by decide)
theorem law_less_q {p q : Rat} (hp : Sm p) (hq : Sm q) : N_law_less_piiq_piiq (fq p) (fq q) = .ok (fq (p - q)) := by
  unfold N_law_less_piiq_piiq
  have := law_added_q hp hq.neg
  rw [show p + -q = p - q by grind] at this
  exact this
theorem law_timed_q {p q : Rat} (hp : Sm p) (hq : Sm q) : N_law_timed_piiq_piiq (fq p) (fq q) = .ok (fq (p * q)) := by
  unfold N_law_timed_piiq_piiq
  simp only [fq_fst, fq_snd]
  rw [mulR_44 hp.1 hq.1, mulR_44 hp.d hq.d]
  dsimp only [Res.bind_ok]
  rw [law_fraction (den_pos p q) (Nat.lt_of_lt_of_le (by rw [Int.natAbs_mul]; exact mul_lim hp.1 hq.1) lim88) (den_lim hp hq), mul_eq]
theorem timed_q {p q : Rat} (hp : Sm p) (hq : Sm q) : N_timed_piiq_piiq (fq p) (fq q) = .ok (fq (p * q)) := by
  unfold N_timed_piiq_piiq
  simp only [fq_fst, fq_snd]
  rw [mulR_44 hp.1 hq.1, mulR_44 hp.d hq.d]
  dsimp only [Res.bind_ok]
  rw [ratio_q (den_pos p q) (den_lim hp hq), mul_eq]
theorem less_q {p q : Rat} (hp : Sm p) (hq : Sm q) : N_less_piiq_piiq (fq p) (fq q) = .ok (fq (p - q)) := by
  unfold N_less_piiq_piiq
  simp only [fq_fst, fq_snd]
  rw [mulR_44 hp.1 hq.d, mulR_44 hq.1 hp.d, mulR_44 hp.d hq.d]
  dsimp only [Res.bind_ok]
  rw [ratio_q (den_pos p q) (den_lim hp hq), sub_eq]
theorem den_k_pos (q : Rat) {k : Nat} (hk : 0 < k) : 0 < (q.den : Int) * (k : Int) := Int.mul_pos (by have := q.den_pos; omega) (by omega)
theorem den_k_lim {q : Rat} (h : Sm q) {k : Nat} (hk : k < 18446744073709551616) : ((q.den : Int) * (k : Int)).natAbs < Lim := by
  rw [Int.natAbs_mul, Int.natAbs_natCast, Int.natAbs_natCast]
  exact Nat.lt_of_lt_of_le (mul_lim h.2 (small44 hk)) lim88
theorem law_part_q {q : Rat} (h : Sm q) {k : Nat} (k0 : 0 < k) (hk : k < 18446744073709551616) : N_law_part_piiq_i (fq q) (k : Int) = .ok (fq (q / ((k : Int) : Rat))) := by
  unfold N_law_part_piiq_i
  simp only [fq_fst, fq_snd]
  rw [mulR_44 h.d (small44 (by omega))]
  dsimp only [Res.bind_ok]
  rw [law_fraction (den_k_pos q k0) (Nat.lt_of_lt_of_le h.1 lim44) (den_k_lim h hk), num_den]
/-- the program's way -/
theorem ratio_part {q : Rat} (h : Sm q) {k : Nat} (k0 : 0 < k) (hk : k < 18446744073709551616) : ((mulR (fq q).2 (k : Int)).bind fun x => N_ratio_i_i (fq q).1 x) = .ok (fq (q / ((k : Int) : Rat))) := by
  simp only [fq_fst, fq_snd]
  rw [mulR_44 h.d (small44 (by omega))]
  dsimp only [Res.bind_ok]
  rw [ratio_q (den_k_pos q k0) (den_k_lim h hk), num_den]
theorem law_is_fraction_q {q : Rat} (h : Sm q) : N_law_is_fraction_piiq (fq q) = .ok true := by
  unfold N_law_is_fraction_piiq
  have hd := q.den_pos
  have hr : Int.gcd q.num (q.den : Int) = 1 := by
    have := q.reduced
    rw [Nat.Coprime] at this
    rw [Int.gcd, Int.natAbs_natCast]
    exact this
  rw [if_neg (by decide), if_neg (by rw [fq_snd]; simpa using show ¬ (q.den : Int) < 1 by omega), fq_fst, fq_snd, law_gcd (glim (Nat.lt_of_lt_of_le h.1 lim44) (Nat.lt_of_lt_of_le h.d lim44)), hr]
  rfl
/-! the split -/
def NoBreak (M : List (List Rat)) (n : Nat) : Prop := ∀ u w v x : Nat, u < w → w < n → v < x → x < n → at2 M u v + at2 M w x = at2 M u x + at2 M w v
theorem law_break_ok {L B : Nat} {M : List (List Rat)} {n : Nat} (h : Sq M n) (hI : AllIn L B M) (hn : n ≤ 1000) (h0 : 0 < L) (hL : L < 18446744073709551616) (hB : B < 18446744073709551616) : Tr (N_law_break_llpiiq (qm M)) fun r => r = none ↔ NoBreak M n := by
  unfold N_law_break_llpiiq
  have sm : ∀ u v : Nat, u < n → v < n → Sm (at2 M u v) := fun u v hu hv => (at_in h hI hu hv).sm64 h0 hL hB
  rw [qm_len, h.len]
  refine Tr.st (rngR_nat (by omega)) (tr_find (fun u => ∀ w v x : Int, u < w → w < n → 0 ≤ v → v < x → x < n → at2 M u.toNat v.toNat + at2 M w.toNat x.toNat = at2 M u.toNat x.toNat + at2 M w.toNat v.toNat) (fun r => r ≠ none ∧ ¬ NoBreak M n) (fun u hu => ?_) (fun p => Tr.ok ⟨fun _ => ?_, fun _ => rfl⟩) fun b r => ⟨fun z => absurd z r.1, fun nb => absurd nb r.2⟩)
  · have hu := mem_upto.mp hu
    refine Tr.st (rng2R_ok (by omega) (by omega) (by omega) (by omega)) (tr_find (fun w => ∀ v x : Int, 0 ≤ v → v < x → x < n → at2 M u.toNat v.toNat + at2 M w.toNat x.toNat = at2 M u.toNat x.toNat + at2 M w.toNat v.toNat) (fun r => r ≠ none ∧ ¬ NoBreak M n) (fun w hw => ?_) (fun p => Tr.ok (.inl ⟨rfl, fun w v x h1 h2 h3 h4 h5 => p w (mem_rngI.mpr (by omega)) v x h3 h4 h5⟩)) fun b r => .inr ⟨b, rfl, r⟩)
    have hw := mem_rngI.mp hw
    refine Tr.st (rngR_nat (by omega)) (tr_find (fun v => ∀ x : Int, v < x → x < n → at2 M u.toNat v.toNat + at2 M w.toNat x.toNat = at2 M u.toNat x.toNat + at2 M w.toNat v.toNat) (fun r => r ≠ none ∧ ¬ NoBreak M n) (fun v hv => ?_) (fun p => Tr.ok (.inl ⟨rfl, fun v x h1 h2 h3 => p v (mem_upto.mpr (by omega)) x h2 h3⟩)) fun b r => .inr ⟨b, rfl, r⟩)
    have hv := mem_upto.mp hv
    refine Tr.st (rng2R_ok (by omega) (by omega) (by omega) (by omega)) (tr_find (fun x => at2 M u.toNat v.toNat + at2 M w.toNat x.toNat = at2 M u.toNat x.toNat + at2 M w.toNat v.toNat) (fun r => r ≠ none ∧ ¬ NoBreak M n) (fun x hx => ?_) (fun p => Tr.ok (.inl ⟨rfl, fun x h1 h2 => p x (mem_rngI.mpr (by omega))⟩)) fun b r => .inr ⟨b, rfl, r⟩)
    have hx := mem_rngI.mp hx
    rw [ix2 h (u := u) (v := v) (by omega) (by omega) (by omega) (by omega), ix2 h (u := w) (v := x) (by omega) (by omega) (by omega) (by omega), ix2 h (u := u) (v := x) (by omega) (by omega) (by omega) (by omega), ix2 h (u := w) (v := v) (by omega) (by omega) (by omega) (by omega)]
    dsimp only [Res.bind_ok]
    rw [law_added_q (sm _ _ (by omega) (by omega)) (sm _ _ (by omega) (by omega)), law_added_q (sm _ _ (by omega) (by omega)) (sm _ _ (by omega) (by omega))]
    dsimp only [Res.bind_ok]
    rw [fq_dec]
    by_cases e : at2 M u.toNat v.toNat + at2 M w.toNat x.toNat = at2 M u.toNat x.toNat + at2 M w.toNat v.toNat
    · exact Tr.itF (by simp [e]) (Tr.ok (.inl ⟨rfl, e⟩))
    · exact Tr.itT (by simp [e]) (Tr.ok (.inr ⟨some (u, w, v, x), rfl, ⟨(fun z => nomatch z), (fun nb : NoBreak M n => e (nb _ _ _ _ (by omega) (by omega) (by omega) (by omega)))⟩⟩))
  · intro u w v x h1 h2 h3 h4
    have := p (u : Int) (mem_upto.mpr (by omega)) (w : Int) (v : Int) (x : Int) (by omega) (by omega) (by omega) (by omega) (by omega)
    simpa using this
end Kx
namespace Kx
open PySem PySem.Spec L2 Da
/-! ### fractions with a bottom of either sign -/
theorem ten80 : (10 : Nat) ^ 80 < 2 ^ 4400 := Nat.lt_of_lt_of_le (show 10 ^ 80 < 2 ^ 270 by decide) (Nat.pow_le_pow_right (by decide) (by decide))
theorem p44 {a : Nat} (h : a ≤ 10 ^ 80) : a < 2 ^ 4400 := Nat.lt_of_le_of_lt h ten80
theorem plim {a : Nat} (h : a ≤ 10 ^ 80) : a < Lim := Nat.lt_of_lt_of_le (p44 h) lim44
theorem law_fraction_n {n : Nat} {t b : Int} (hb : 0 < b) (ht : t.natAbs < Lim) (hb' : b.natAbs < Lim) : Nr_law_fraction_i_i (n + 1) t b = .ok (fq ((t : Rat) / (b : Rat))) := by
  have hg := law_gcd (glim ht hb')
  have g0 := gcd_pos' (t := t) hb
  have gl := gcd_lim (t := t) hb hb'
  unfold Nr_law_fraction_i_i
  rw [if_neg (by simpa using show ¬ b < 0 by omega), hg]
  dsimp only [Res.bind_ok]
  rw [divR_pos g0 gl, divR_pos g0 gl, ← fqc_eq hb]; rfl
theorem neg_over (t b : Int) : ((-t : Int) : Rat) / ((-b : Int) : Rat) = (t : Rat) / (b : Rat) := by
  rw [Rat.intCast_neg, Rat.intCast_neg]
  generalize (t : Rat) = x
  generalize (b : Rat) = y
  by_cases h : y = 0
  · subst h; grind
  · grind
theorem law_fraction_s {t b : Int} (hb : b ≠ 0) (ht : t.natAbs < Lim) (hb' : b.natAbs < Lim) : N_law_fraction_i_i t b = .ok (fq ((t : Rat) / (b : Rat))) := by
  by_cases h : 0 < b
  · exact law_fraction_n (n := 5) h ht hb'
  · show Nr_law_fraction_i_i 6 t b = _
    have hn : b < 0 := by omega
    unfold Nr_law_fraction_i_i
    rw [if_pos (by simpa using hn), ← neg_over]
    exact law_fraction_n (n := 4) (by omega) (by rw [Int.natAbs_neg]; exact ht) (by rw [Int.natAbs_neg]; exact hb')
theorem ratio_s {t b : Int} (hb : b ≠ 0) (hb' : b.natAbs < Lim) : N_ratio_i_i t b = .ok (fq ((t : Rat) / (b : Rat))) := by
  by_cases h : 0 < b
  · exact ratio_q h hb'
  · have hn : b < 0 := by omega
    have hb2 : (-b).natAbs < Lim := by rw [Int.natAbs_neg]; exact hb'
    have g0 := gcd_pos' (t := -t) (b := -b) (by omega)
    have gl := gcd_lim (t := -t) (b := -b) (by omega) hb2
    have ge : (Int.gcd (-t) (-b) : Int) = (Int.gcd t b : Int) := by rw [Int.neg_gcd, Int.gcd_neg]
    rw [ge] at g0 gl
    unfold N_ratio_i_i
    rw [if_neg (by simpa using hb)]
    dsimp only [Res.bind_ok]
    rw [if_pos (by simpa using hn)]
    dsimp only [Res.bind_ok]
    rw [show ((Nat.gcd t.natAbs b.natAbs : Nat) : Int) = (Int.gcd t b : Int) by rfl]
    rw [divR_neg (by omega) (by rw [Int.natAbs_neg]; exact gl), divR_neg (by omega) (by rw [Int.natAbs_neg]; exact gl), ← neg_over, ← fqc_eq (by omega), ge, Int.neg_neg]
    rfl
theorem ratio_0 (t : Int) : N_ratio_i_i t 0 = .ex "ZeroBottom" [] := by
  unfold N_ratio_i_i
  rw [if_pos (by simp)]
theorem is_fraction_q (q : Rat) : N_is_fraction_piiq (fq q) = .ok true := by
  unfold N_is_fraction_piiq
  rw [if_neg (by decide)]
  have h1 : (1 : Int) ≤ (q.den : Int) := by have := q.den_pos; omega
  have h2 : Nat.gcd q.num.natAbs ((q.den : Int)).natAbs = 1 := by rw [Int.natAbs_natCast]; exact q.reduced
  show Res.ok (decide (1 ≤ (q.den : Int)) && decide (((Nat.gcd q.num.natAbs ((q.den : Int)).natAbs : Nat) : Int) = 1)) = _
  rw [h2]
  simp [h1]
/-- t over b, |b| below it -/
theorem quot_in {t b : Int} (hb : b ≠ 0) : In b.natAbs t.natAbs ((t : Rat) / (b : Rat)) := by
  by_cases h : 0 < b
  · exact (In.of 1 h (by omega) (by omega)).le (by omega)
  · rw [← neg_over]
    exact (In.of (t := -t) (b := -b) 1 (by omega) (by omega) (by omega)).le (by omega)
theorem quot_num {t b : Int} (hb : b ≠ 0) : ((t : Rat) / (b : Rat)).num * b = t * (((t : Rat) / (b : Rat)).den : Int) := by
  have hq : (((t : Rat) / (b : Rat)).num : Rat) / ((((t : Rat) / (b : Rat)).den : Int) : Rat) = (t : Rat) / (b : Rat) := by
    exact (rat_eq _).symm
  have h2 : (b : Rat) ≠ 0 := by exact_mod_cast hb
  have h3 : ((((t : Rat) / (b : Rat)).den : Int) : Rat) ≠ 0 := by
    have := ((t : Rat) / (b : Rat)).den_pos
    exact_mod_cast (show (((t : Rat) / (b : Rat)).den : Int) ≠ 0 by omega)
  have h4 : ((((t : Rat) / (b : Rat)).num * b : Int) : Rat) = ((t * (((t : Rat) / (b : Rat)).den : Int) : Int) : Rat) := by
    rw [Rat.intCast_mul, Rat.intCast_mul]
    revert hq h3
    generalize (((t : Rat) / (b : Rat)).num : Rat) = x
    generalize ((((t : Rat) / (b : Rat)).den : Int) : Rat) = y
    generalize (t : Rat) = z at *
    generalize (b : Rat) = u at *
    intro hq h3
    grind
  exact_mod_cast h4
/-! ### the drawn numbers -/
def numSizes : List Int := [9, 13, 101, 100000000000000, 6, 10000000000000, 10000000000000]
theorem pow_14 : powR 10 14 = .ok 100000000000000 := powR_of (stuck_iff.mpr (by omega)) (by decide +kernel)
theorem pow_13 : powR 10 13 = .ok 10000000000000 := powR_of (stuck_iff.mpr (by omega)) (by decide +kernel)
theorem pow_26 : powR 10 26 = .ok 100000000000000000000000000 := powR_of (stuck_iff.mpr (by omega)) (by decide +kernel)
theorem pow_39 : powR 10 39 = .ok 1000000000000000000000000000000000000000 := powR_of (stuck_iff.mpr (by omega)) (by decide +kernel)
theorem n44 {i : Int} (h : i.natAbs ≤ 10 ^ 80) : i.natAbs < 2 ^ 4400 := p44 h
def Small (z : Int) : Prop := z.natAbs ≤ 10000000000000000000000000000000000000000
theorem Small.p {z : Int} (h : Small z) : z.natAbs ≤ 10 ^ 80 := Nat.le_trans h (by decide)
theorem law_number {row : List Int} (h : Digs numSizes row) : Tr (N_law_number_li row) Small := by
  unfold N_law_number_li
  simp only [Res.bind_ret, Res.bind_assoc, Res.bind_ok]
  obtain ⟨r0, e0, a0, b0⟩ := h.ixI (k := 0) (s := 9) (by decide) rfl
  obtain ⟨r1, e1, a1, b1⟩ := h.ixI (k := 1) (s := 13) (by decide) rfl
  obtain ⟨r2, e2, a2, b2⟩ := h.ixI (k := 2) (s := 101) (by decide) rfl
  obtain ⟨r3, e3, a3, b3⟩ := h.ixI (k := 3) (s := 100000000000000) (by decide) rfl
  obtain ⟨r4, e4, a4, b4⟩ := h.ixI (k := 4) (s := 6) (by decide) rfl
  obtain ⟨r5, e5, a5, b5⟩ := h.ixI (k := 5) (s := 10000000000000) (by decide) rfl
  obtain ⟨r6, e6, a6, b6⟩ := h.ixI (k := 6) (s := 10000000000000) (by decide) rfl
  refine Tr.st e3 (Tr.st pow_26 (Tr.st (mulR_44 (n44 (by omega)) (n44 (by decide))) (Tr.st e5 (Tr.st pow_13 (Tr.st (mulR_44 (n44 (by omega)) (n44 (by decide))) (Tr.st e6 (Tr.st e0 (Tr.st e1 (Tr.st e2 (Tr.st e4 ?_))))))))))
  obtain ⟨z, hz, hm⟩ := ixR_mem (xs := [r0 - 4, r1, r2 - 50, r3 * 100000000000000000000000000 + r5 * 10000000000000 + r6, 0 - (r3 * 100000000000000000000000000 + r5 * 10000000000000 + r6), 0]) a4 (by show r4 < ((6 : Nat) : Int); omega)
  refine Tr.of hz ?_
  have hm : z = r0 - 4 ∨ z = r1 ∨ z = r2 - 50 ∨ z = r3 * 100000000000000000000000000 + r5 * 10000000000000 + r6 ∨ z = 0 - (r3 * 100000000000000000000000000 + r5 * 10000000000000 + r6) ∨ z = 0 := by simpa using hm
  unfold Small
  omega
/-! ### no bottom -/
theorem nb_hand : ∀ g : Str → List (Str × D) → Res Bool, tryR al_BookError (.ex "ZeroBottom" []) g = nx (g "ZeroBottom" []) := fun g => tryR_ex (by kernel_rfl)
theorem no_bottom0 (p : Int × Int) : N_law_no_bottom_i_piiq 0 p = .ok true := by
  unfold N_law_no_bottom_i_piiq
  rw [if_pos (by decide), ratio_0]
  refine (nb_hand _).trans ?_
  kernel_rfl
theorem no_bottom1 {p : Int × Int} (h1 : p.1.natAbs ≤ 10 ^ 80) (h2 : p.2.natAbs ≤ 10 ^ 80) : N_law_no_bottom_i_piiq 1 p = .ok true := by
  unfold N_law_no_bottom_i_piiq
  have : N_over_piiq_piiq p (0, 1) = .ex "ZeroBottom" [] := by
    unfold N_over_piiq_piiq
    rw [mulR_44 (n44 h1) (n44 (by decide)), Res.bind_ok, mulR_44 (n44 h2) (n44 (by decide)), Res.bind_ok, Int.mul_zero, ratio_0]
  rw [if_neg (by decide), if_pos (by decide), this]
  refine (nb_hand _).trans ?_
  kernel_rfl
theorem no_bottom2 {p : Int × Int} (h1 : p.1.natAbs ≤ 10 ^ 80) (h2 : p.2.natAbs ≤ 10 ^ 80) : N_law_no_bottom_i_piiq 2 p = .ok true := by
  unfold N_law_no_bottom_i_piiq
  have : N_over_hiiq_li p [0, 1] = .ex "ZeroBottom" [] := by
    unfold N_over_hiiq_li
    rw [show ixR ([0, 1] : List Int) 1 = .ok 1 by rfl, Res.bind_ok, mulR_44 (n44 h1) (n44 (by decide)), Res.bind_ok, show ixR ([0, 1] : List Int) 0 = .ok 0 by rfl, Res.bind_ok, mulR_44 (n44 h2) (n44 (by decide)), Res.bind_ok, Int.mul_zero, ratio_0]
  rw [if_neg (by decide), if_neg (by decide), this]
  refine (nb_hand _).trans ?_
  kernel_rfl
/-! ### what is no fraction -/
theorem isf_tup (a b : Int) : N_is_fraction_d (.tup [.int a, .int b]) = .ok (decide (1 ≤ b) && decide (((Nat.gcd a.natAbs b.natAbs : Nat) : Int) = 1)) := by
  have h1 : dIsi "tuple" (D.tup [.int a, .int b]) = .ok (.bl true) := by kernel_rfl
  have h2 : dLen (D.tup [.int a, .int b]) = .ok (.int 2) := by kernel_rfl
  have h3 : dIx (D.tup [.int a, .int b]) (.int 0) = .ok (.int a) := by kernel_rfl
  have h4 : dIx (D.tup [.int a, .int b]) (.int 1) = .ok (.int b) := by kernel_rfl
  have h5 : ∀ x, N_is_number_d (.int x) = .ok true := fun x => by kernel_rfl
  have h6 : dGe (.int b) (.int 1) = .ok (.bl (decide (1 ≤ b))) := by rfl
  have h7 : dGcd (.int a) (.int b) = .ok (.int ((Nat.gcd a.natAbs b.natAbs : Nat) : Int)) := by rfl
  unfold N_is_fraction_d
  simp only [h1, h2, h3, h4, h5, h6, h7, Res.bind_ok, asB, asIR]
  cases decide (1 ≤ b) <;> simp
theorem odd_app {os : List D} (g : Rat → List D) (hg : ∀ q, ∀ v ∈ g q, N_is_fraction_d v = .ok false) (qs : List Rat) (h : ∀ v ∈ os, N_is_fraction_d v = .ok false) : ∀ v ∈ os ++ qs.flatMap g, N_is_fraction_d v = .ok false := fun v hv => by
  rcases List.mem_append.mp hv with z | z
  · exact h v z
  · obtain ⟨q, _, z⟩ := List.mem_flatMap.mp z
    exact hg q v z
end Kx
namespace Kx
open PySem PySem.Spec L2 Da
/-- a fraction of the row: its parts are small -/
def Qs (q : Rat) : Prop := q.num.natAbs ≤ 10 ^ 40 ∧ q.den ≤ 10 ^ 40
theorem Qs.sm {q : Rat} (h : Qs q) : Sm q := ⟨p44 (Nat.le_trans h.1 (by decide)), p44 (Nat.le_trans h.2 (by decide))⟩
theorem Qs.n {q : Rat} (h : Qs q) : (fq q).1.natAbs < 2 ^ 4400 := n44 (Nat.le_trans h.1 (by decide))
theorem Qs.d {q : Rat} (h : Qs q) : (fq q).2.natAbs < 2 ^ 4400 := by
  show ((q.den : Int)).natAbs < _
  rw [Int.natAbs_natCast]
  exact p44 (Nat.le_trans h.2 (by decide))
theorem gcd2 {q : Rat} : Nat.gcd (2 * q.num).natAbs (2 * (q.den : Int)).natAbs = 2 := by
  rw [Int.natAbs_mul, Int.natAbs_mul, Int.natAbs_natCast]
  show Nat.gcd (2 * q.num.natAbs) (2 * q.den) = 2
  rw [Nat.gcd_mul_left, q.reduced]
theorem odd_ok {qs : List Rat} (hl : 3 ≤ qs.length) (hm : qs.length ≤ 1000) (h : ∀ q ∈ qs, Qs q) : Tr (N_law_odd_lpiiq (qs.map fq)) fun odd => ∀ v ∈ odd, N_is_fraction_d v = .ok false := by
  unfold N_law_odd_lpiiq
  simp only [Res.bind_ret, Res.bind_assoc, Res.bind_ok]
  have i2 : ixR (qs.map fq) 2 = .ok (fq qs[2]) := ixR_of (by decide) (by show (qs.map fq)[2]? = _; rw [List.getElem?_map, List.getElem?_eq_getElem (by omega)]; rfl)
  have i1 : ixR (qs.map fq) 1 = .ok (fq qs[1]) := ixR_of (by decide) (by show (qs.map fq)[1]? = _; rw [List.getElem?_map, List.getElem?_eq_getElem (by omega)]; rfl)
  refine Tr.st i2 (Tr.st i1 (Tr.st i1 (Tr.st (catR_ok (by simp)) ?_)))
  have h0 : ∀ v ∈ [((eP2 D.int D.int) (2, 4)), ((eP2 D.int D.int) (1, 0)), ((eP2 D.int D.int) (0, 0)), ((eP2 D.int D.int) (1, (-2))), ((eP2 D.int D.int) (0, (-1))), ((eL D.int) [1, 2]), ((eL D.int) [0, 1]), ((eP2 D.bl D.int) (true, 1)), ((eP2 D.int D.bl) (1, true)), ((eP2 D.bl D.int) (false, 1)), (D.int 5), (D.int 0), (eN ()), ((eP3 D.int D.int D.int) (1, 2, 3)), ((eP1 D.int) 1), (D.str (Str.ofString "1/2")), (D.str (Str.ofString "12")), (D.tup []), (D.lst []), (D.str (Str.ofString ""))] ++
     [((eP2 D.int D.int) (0, 2)), ((eP1 (eP2 D.int D.int)) (1, 2)), ((eP2 D.int eN) (1, ())), ((eP2 D.str D.int) ((Str.ofString "1"), 2)), ((eP2 (eP2 D.int D.int) D.int) ((1, 1), 2)), ((eP2 (eL D.int) D.int) ([1], 1)), ((eP2 D.int (eP1 D.int)) (1, 2)), (D.bl true), (D.bl false), (D.int (fq qs[2]).1), ((eL D.int) [(fq qs[1]).1, (fq qs[1]).2])], N_is_fraction_d v = .ok false := by
    refine List.forall_mem_append.mpr ⟨?_, ?_⟩ <;> (repeat (refine List.forall_mem_cons.mpr ⟨by kernel_rfl, ?_⟩)) <;> exact (fun _ z => nomatch z)
  refine tr_forR (fun i s => (∀ v ∈ s, N_is_fraction_d v = .ok false) ∧ s.length ≤ 31 + 2 * i) ⟨h0, by simp⟩ (fun i x s hx hs => ?_) (fun s hs => hs.1)
  obtain ⟨hs1, hs2⟩ := hs
  have hi : i < qs.length := by simpa using (List.getElem?_eq_some_iff.mp hx).1
  rw [List.getElem?_map, List.getElem?_eq_getElem hi] at hx
  have hx : x = fq qs[i] := by injection hx with hx; exact hx.symm
  subst hx
  have hq := h _ (List.getElem_mem hi)
  have hd : (0 : Int) < (qs[i].den : Int) := by have := qs[i].den_pos; omega
  refine Tr.st (appR_ok (by omega)) ?_
  have a1 : ∀ v ∈ s ++ [eP2 D.int D.int (0 - (fq qs[i]).1, 0 - (fq qs[i]).2)], N_is_fraction_d v = .ok false := fun v hv => by
    rcases List.mem_append.mp hv with z | z
    · exact hs1 v z
    · rw [List.mem_singleton.mp z]
      show N_is_fraction_d (.tup [.int _, .int _]) = _
      rw [isf_tup]
      have : ¬ (1 : Int) ≤ 0 - (qs[i].den : Int) := by omega
      show Res.ok (decide (1 ≤ 0 - (qs[i].den : Int)) && _) = _
      rw [decide_eq_false this, Bool.false_and]
  have l1 : (s ++ [eP2 D.int D.int (0 - (fq qs[i]).1, 0 - (fq qs[i]).2)]).length ≤ 32 + 2 * i := by rw [List.length_append]; simp; omega
  refine Tr.st pow_39 ?_
  have fin1 : Tr (Res.ok (s ++ [eP2 D.int D.int (0 - (fq qs[i]).1, 0 - (fq qs[i]).2)])) fun s => (∀ v ∈ s, N_is_fraction_d v = .ok false) ∧ s.length ≤ 31 + 2 * (i + 1) := Tr.ok ⟨a1, by omega⟩
  have fin2 : Tr ((mulR 2 (fq qs[i]).1).bind fun x35 => (mulR 2 (fq qs[i]).2).bind fun x36 => appR (s ++ [eP2 D.int D.int (0 - (fq qs[i]).1, 0 - (fq qs[i]).2)]) ((eP2 D.int D.int) (x35, x36))) fun s => (∀ v ∈ s, N_is_fraction_d v = .ok false) ∧ s.length ≤ 31 + 2 * (i + 1) := by
    refine Tr.st (mulR_44 (n44 (by decide)) hq.n) (Tr.st (mulR_44 (n44 (by decide)) hq.d) ?_)
    refine Tr.of (appR_ok (by omega)) ⟨fun v hv => ?_, by rw [List.length_append]; simp at l1 ⊢; omega⟩
    rcases List.mem_append.mp hv with z | z
    · exact a1 v z
    · rw [List.mem_singleton.mp z]
      show N_is_fraction_d (.tup [.int (2 * qs[i].num), .int (2 * (qs[i].den : Int))]) = _
      rw [isf_tup, gcd2]
      simp
  exact Tr.bind (Q := fun _ => True) (Tr.ite (fun _ => Tr.st pow_39 (Tr.ok trivial)) (fun _ => Tr.ok trivial)) (fun b _ => Tr.ite (fun _ => fin2) (fun _ => fin1))
end Kx
namespace Kx
open PySem PySem.Spec L2 Da
theorem In.parts {L B : Nat} {q : Rat} (h : In L B q) (h0 : 0 < L) : q.num.natAbs ≤ B ∧ q.den ≤ L := by
  obtain ⟨n, e, hn⟩ := h
  have f := fqc_eq (t := n) (b := (L : Int)) (by omega)
  rw [← e] at f
  have f1 : n / (Int.gcd n L : Int) = q.num := congrArg Prod.fst f
  have f2 : (L : Int) / (Int.gcd n L : Int) = (q.den : Int) := congrArg Prod.snd f
  constructor
  · rw [← f1]
    exact Nat.le_trans (Int.natAbs_ediv_le_natAbs _ _) hn
  · have : ((L : Int) / (Int.gcd n L : Int)) ≤ (L : Int) := Int.ediv_le_self _ (by omega)
    omega
theorem quot_qs {t b : Int} (hb : b ≠ 0) (ht : t.natAbs ≤ 10 ^ 40) (hb' : b.natAbs ≤ 10 ^ 40) : Qs ((t : Rat) / (b : Rat)) := by
  obtain ⟨h1, h2⟩ := In.parts (quot_in (t := t) hb) (by omega)
  exact ⟨Nat.le_trans h1 ht, Nat.le_trans h2 hb'⟩
theorem own_in (q : Rat) : In q.den q.num.natAbs q := by
  have := quot_in (t := q.num) (b := (q.den : Int)) (by have := q.den_pos; omega)
  rw [← rat_eq] at this
  rw [Int.natAbs_natCast] at this
  exact this
theorem common : ∀ qs : List Rat, (∀ q ∈ qs, Qs q) → ∃ L, 0 < L ∧ L ≤ (10 ^ 40) ^ qs.length ∧ ∀ q ∈ qs, In L (10 ^ 40 * L) q
  | [], _ => ⟨1, by decide, by simp, fun _ z => nomatch z⟩
  | q :: qs, h => by
    obtain ⟨L, h0, h1, h2⟩ := common qs fun x hx => h x (List.mem_cons_of_mem _ hx)
    have hq := h q List.mem_cons_self
    have dp := q.den_pos
    refine ⟨q.den * L, Nat.mul_pos dp h0, ?_, fun x hx => ?_⟩
    · rw [List.length_cons, Nat.pow_succ, Nat.mul_comm]
      exact Nat.mul_le_mul h1 hq.2
    · rcases List.mem_cons.mp hx with rfl | hx
      · refine (In.scale (own_in x) L dp h0).le ?_
        refine Nat.mul_le_mul hq.1 ?_
        exact Nat.le_mul_of_pos_left L dp
      · have := In.scale (h2 x hx) q.den h0 dp
        rw [Nat.mul_comm L q.den, Nat.mul_assoc, Nat.mul_comm L q.den] at this
        exact this
theorem cut_take {α : Type} {xs : List α} {i : Nat} (h : i ≤ xs.length) : cutN xs none (some (i : Int)) = xs.take i := by
  unfold cutN
  have h1 : HT.sIx xs.length 0 none = 0 := rfl
  have h2 : HT.sIx xs.length xs.length (some (i : Int)) = i := by
    unfold HT.sIx
    simp only []
    rw [if_neg (by omega)]
    omega
  rw [h1, h2, List.drop_zero, Nat.sub_zero]
/-- the numbers, the row of fractions -/
theorem rng8 : rngR 8 = .ok (upto 8) := rngR_nat (n := 8) (by decide)
theorem rng4 : rngR 4 = .ok (upto 4) := rngR_nat (n := 4) (by decide)
theorem added_hp {p q : Rat} (hp : Sm p) (hq : Sm q) : N_added_hiiq_piiq (fq p) (fq q) = .ok (fq (p + q)) := added_q hp hq
theorem less_ph {p q : Rat} (hp : Sm p) (hq : Sm q) : N_less_piiq_hiiq (fq p) (fq q) = .ok (fq (p - q)) := less_q hp hq
theorem timed_hh {p q : Rat} (hp : Sm p) (hq : Sm q) : N_timed_hiiq_hiiq (fq p) (fq q) = .ok (fq (p * q)) := timed_q hp hq
theorem difference_q {p q : Rat} (hp : Sm p) (hq : Sm q) : N_law_difference_piiq_piiq (fq p) (fq q) = .ok (fq (p - q)) := by
  have e : ((0 - (fq q).1, (fq q).2) : Int × Int) = fq (-q) := by
    show ((0 - q.num, (q.den : Int)) : Int × Int) = ((-q).num, ((-q).den : Int))
    rw [neg_num, neg_den, Int.zero_sub]
  show N_law_added_piiq_piiq (fq p) (0 - (fq q).1, (fq q).2) = _
  rw [e, law_added_q hp hq.neg, show p + -q = p - q by grind]
theorem law_ok (ns : List Int) : Tr (N_law_fi ns) fun b => b = true := by
  unfold N_law_fi
  simp only [Res.bind_ret, Res.bind_assoc, Res.bind_ok]
  refine Tr.st rng8 ?_
  refine Tr.bind (Q := fun xs => xs.length = 8 ∧ ∀ z ∈ xs, Small z) (tr_forRn (fun i xs => xs.length = i ∧ ∀ z ∈ xs, Small z) ⟨rfl, fun _ z => nomatch z⟩ (fun i xs hi hx => ?_) fun xs h => h) fun xs hxs => ?_
  · obtain ⟨c, ec⟩ := law_cell ns i (by omega) (by omega)
    refine Tr.st ec (Tr.st pow_14 (Tr.st pow_13 (Tr.st pow_13 ?_)))
    obtain ⟨row, er, hr⟩ := law_digits c numSizes (by decide) (by decide)
    refine Tr.st (show N_law_digits_i_li c numSizes = _ from er) ?_
    refine Tr.bind (law_number hr) fun z hz => Tr.of (appR_ok (by omega)) ⟨by rw [List.length_append, hx.1]; rfl, fun y hy => ?_⟩
    rcases List.mem_append.mp hy with hy | hy
    · exact hx.2 y hy
    · rw [List.mem_singleton.mp hy]; exact hz
  refine Tr.st rng4 ?_
  have at_ : ∀ k : Nat, k < 8 → ∃ z, ixR xs (k : Int) = .ok z ∧ Small z := fun k hk => ⟨xs[k]'(by omega), ixR_get (by omega), hxs.2 _ (List.getElem_mem _)⟩
  refine Tr.bind (Q := fun o => ∃ qs : List Rat, o = .go (qs.map fq) ∧ qs.length = 4 ∧ ∀ q ∈ qs, Qs q) (tr_forCn (fun i s => ∃ qs : List Rat, s = qs.map fq ∧ qs.length = i ∧ ∀ q ∈ qs, Qs q) ⟨[], rfl, rfl, fun _ z => nomatch z⟩ (fun i s hi hs => ?_) fun s ⟨qs, e1, e2, e3⟩ => ⟨qs, by rw [e1], e2, e3⟩) fun o ho => ?_
  · obtain ⟨qs, rfl, hl, hq⟩ := hs
    have m2 : mulR 2 (i : Int) = .ok ((2 * i : Nat) : Int) := by rw [mulR_64 (by decide) (by omega)]; rfl
    obtain ⟨t, et, ht⟩ := at_ (2 * i) (by omega)
    obtain ⟨b0, eb, hb0⟩ := at_ (2 * i + 1) (by omega)
    refine Tr.st m2 (Tr.st (show ixR xs (((2 * i : Nat) : Int) + 1) = .ok b0 from eb) ?_)
    refine Tr.bind (Q := fun b => b ≠ 0 ∧ Small b) (Tr.ite (fun _ => Tr.ok ⟨by decide, by unfold Small; decide⟩) (fun h => Tr.ok ⟨by simpa using h, hb0⟩)) fun b hb => ?_
    obtain ⟨hb, hbs⟩ := hb
    refine Tr.st m2 (Tr.st et (Tr.st (ratio_s hb (plim hbs.p)) (Tr.st m2 (Tr.st et (Tr.st (law_fraction_s hb (plim ht.p) (plim hbs.p)) (Tr.st law_same_pii ?_))))))
    have hQ : Qs ((t : Rat) / (b : Rat)) := quot_qs hb (Nat.le_trans ht (by decide)) (Nat.le_trans hbs (by decide))
    refine Tr.bind (Q := fun b => b = false) ?_ fun c hc0 => Tr.itF hc0 ?_
    · refine Tr.itF (by simp) ?_
      refine Tr.st (law_is_fraction_q hQ.sm) (Tr.ok rfl)
    refine Tr.st (mulR_44 hQ.n (n44 hbs.p)) (Tr.st m2 (Tr.st et (Tr.st (mulR_44 (n44 ht.p) hQ.d) ?_)))
    refine Tr.itF ?_ ?_
    · have : (fq ((t : Rat) / (b : Rat))).1 * b = t * (fq ((t : Rat) / (b : Rat))).2 := quot_num hb
      rw [this]
      simp
    refine Tr.st (appR_ok (by rw [List.length_map]; omega)) (Tr.ok ⟨qs ++ [(t : Rat) / (b : Rat)], by rw [List.map_append]; rfl, by rw [List.length_append, hl]; rfl, fun q h => ?_⟩)
    rcases List.mem_append.mp h with h | h
    · exact hq q h
    · rw [List.mem_singleton.mp h]; exact hQ
  obtain ⟨q4, rfl, hl4, hq4⟩ := ho
  have ab : ∀ z : Int, (if z < 0 then -z else z) = (z.natAbs : Int) := fun z => by split <;> omega
  obtain ⟨n6, e6, h6⟩ := at_ 6 (by omega)
  obtain ⟨n0, e0, h0⟩ := at_ 0 (by omega)
  obtain ⟨n1, e1, h1⟩ := at_ 1 (by omega)
  have mod13 : ∀ z : Int, modR z 10000000000000 = .ok (z % 10000000000000) := fun z => modR_pos (by decide)
  have i0 : ixR (q4.map fq) 0 = .ok (fq q4[0]) := ixR_of (by decide) (by show (q4.map fq)[0]? = _; rw [List.getElem?_map, List.getElem?_eq_getElem (by omega)]; rfl)
  refine Tr.st e6 (Tr.st pow_13 (Tr.st (mod13 _) (Tr.st e0 (Tr.st pow_13 (Tr.st (mod13 _) ?_)))))
  rw [ab]
  have s1 : 1 + (n6.natAbs : Int) % 10000000000000 ≤ 10000000000000 := by omega
  have s0 : 0 < 1 + (n6.natAbs : Int) % 10000000000000 := by omega
  generalize 1 + (n6.natAbs : Int) % 10000000000000 = sh at s1 s0 ⊢
  have t0 : 0 ≤ n0 % 10000000000000 ∧ n0 % 10000000000000 < 10000000000000 := by omega
  refine Tr.st (mulR_44 (n44 (by omega)) (n44 (by omega))) (Tr.st e1 (Tr.st pow_13 (Tr.st (mod13 _) ?_)))
  rw [ab]
  have u1 : 1 + (n1.natAbs : Int) % 10000000000000 ≤ 10000000000000 := by omega
  have u0 : 0 < 1 + (n1.natAbs : Int) % 10000000000000 := by omega
  generalize 1 + (n1.natAbs : Int) % 10000000000000 = u at u1 u0 ⊢
  generalize n0 % 10000000000000 = t at t0 ⊢
  refine Tr.st (mulR_44 (n44 (by omega)) (n44 (by omega))) ?_
  have lt : (t * sh).natAbs < Lim := plim (by rw [Int.natAbs_mul]; exact Nat.le_trans (Nat.mul_le_mul (show t.natAbs ≤ 10 ^ 13 by omega) (show sh.natAbs ≤ 10 ^ 13 by omega)) (by decide))
  have lb : (u * sh).natAbs < Lim := plim (by rw [Int.natAbs_mul]; exact Nat.le_trans (Nat.mul_le_mul (show u.natAbs ≤ 10 ^ 13 by omega) (show sh.natAbs ≤ 10 ^ 13 by omega)) (by decide))
  have nb : u * sh ≠ 0 := Int.mul_ne_zero (by omega) (by omega)
  have lb2 : (-(u * sh)).natAbs < Lim := by rw [Int.natAbs_neg]; exact lb
  have nb2 : -(u * sh) ≠ 0 := by omega
  refine Tr.st (ratio_s nb lb) (Tr.st (law_fraction_s nb lt lb) (Tr.st law_same_pii ?_))
  refine Tr.bind (Q := fun b => b = false) ?_ fun c hc0 => Tr.itF hc0 ?_
  · refine Tr.itF (by simp) ?_
    exact Tr.st (ratio_s nb2 lb2) (Tr.st (law_fraction_s nb2 lt lb2) (Tr.st law_same_pii (Tr.ok (by simp))))
  refine Tr.st i0 (Tr.st (catR_ok (by rw [List.length_map]; simp; omega)) ?_)
  have eqs : q4.map fq ++ [(0, 1), fq q4[0]] = (q4 ++ [(0 : Rat), q4[0]]).map fq := by rw [List.map_append]; rfl
  rw [eqs]
  have hqs : ∀ q ∈ q4 ++ [(0 : Rat), q4[0]], Qs q := fun q h => by
    rcases List.mem_append.mp h with h | h
    · exact hq4 q h
    · have : q = 0 ∨ q = q4[0] := by simpa using h
      rcases this with rfl | rfl
      · exact ⟨by decide, by decide⟩
      · exact hq4 _ (List.getElem_mem _)
  have hlen : (q4 ++ [(0 : Rat), q4[0]]).length = 6 := by simp [hl4]
  generalize q4 ++ [(0 : Rat), q4[0]] = qs at hqs hlen ⊢
  refine tr_all (fun x hx => ?_) ?_
  · obtain ⟨p, hp, rfl⟩ := List.mem_map.mp hx
    refine tr_all (fun y hy => ?_) (Tr.ok rfl)
    obtain ⟨q, hq, rfl⟩ := List.mem_map.mp hy
    have hp := hqs p hp
    have hq := hqs q hq
    refine Tr.st (added_hp hp.sm hq.sm) (Tr.st (law_added_q hp.sm hq.sm) (Tr.st law_same_pii (Tr.itF (by simp) ?_)))
    refine Tr.st (less_ph hp.sm hq.sm) (Tr.st (difference_q hp.sm hq.sm) (Tr.st law_same_pii (Tr.itF (by simp) ?_)))
    refine Tr.st (timed_hh hp.sm hq.sm) (Tr.st (law_timed_q hp.sm hq.sm) (Tr.st law_same_pii (Tr.itF (by simp) ?_)))
    have mA : mulR (fq p).1 (fq q).2 = .ok ((fq p).1 * (fq q).2) := mulR_44 hp.n hq.d
    have mB : mulR (fq q).1 (fq p).2 = .ok ((fq q).1 * (fq p).2) := mulR_44 hq.n hp.d
    have mC : mulR (fq p).2 (fq q).1 = .ok ((fq p).2 * (fq q).1) := mulR_44 hp.d hq.n
    refine Tr.st mA (Tr.st mB (Tr.st mA (Tr.st mB ?_)))
    have cmp : N_compare_piiq_hiiq (fq p) (fq q) = .ok ((if decide ((fq q).1 * (fq p).2 < (fq p).1 * (fq q).2) = true then 1 else 0) - (if decide ((fq p).1 * (fq q).2 < (fq q).1 * (fq p).2) = true then 1 else 0)) := by
      unfold N_compare_piiq_hiiq
      rw [mA, Res.bind_ok, mB, Res.bind_ok]
      generalize (fq p).1 * (fq q).2 = A
      generalize (fq q).1 * (fq p).2 = B
      by_cases h1 : A < B
      · have h2 : ¬ B < A := by omega
        simp [h1, h2]
      · by_cases h2 : B < A
        · simp [h1, h2]
        · simp [h1, h2]
    refine Tr.st cmp (Tr.st law_same_i (Tr.itF (by simp) ?_))
    refine Tr.bind (Q := fun b => b = false) ?_ fun c hc0 => Tr.itF hc0 (Tr.ok rfl)
    refine Tr.ite (fun h => ?_) (fun _ => Tr.ok rfl)
    have hn : (fq q).1 ≠ 0 := by simpa using h
    have hd : (fq p).2 ≠ 0 := by
      show (p.den : Int) ≠ 0
      have := p.den_pos
      omega
    have hc : (fq p).2 * (fq q).1 ≠ 0 := Int.mul_ne_zero hd hn
    have lc : ((fq p).2 * (fq q).1).natAbs < Lim := Nat.lt_of_lt_of_le (by rw [Int.natAbs_mul]; exact mul_lim hp.d hq.n) lim88
    have la : ((fq p).1 * (fq q).2).natAbs < Lim := Nat.lt_of_lt_of_le (by rw [Int.natAbs_mul]; exact mul_lim hp.n hq.d) lim88
    have ov : N_over_piiq_piiq (fq p) (fq q) = .ok (fq ((((fq p).1 * (fq q).2 : Int) : Rat) / (((fq p).2 * (fq q).1 : Int) : Rat))) := by
      unfold N_over_piiq_piiq
      rw [mA, Res.bind_ok, mC, Res.bind_ok]
      exact ratio_s hc lc
    exact Tr.st ov (Tr.st mA (Tr.st mC (Tr.st (law_fraction_s hc la lc) (Tr.st law_same_pii (Tr.ok (by simp))))))
  obtain ⟨L, l0, l1, l2⟩ := common qs hqs
  rw [hlen] at l1
  have hL : L < 2 ^ 4400 := Nat.lt_of_le_of_lt l1 (by decide +kernel)
  have hB : (qs.length + 1) * (10 ^ 40 * L) < 2 ^ 4400 := by
    rw [hlen]
    exact Nat.lt_of_le_of_lt (Nat.mul_le_mul_left 7 (Nat.mul_le_mul_left _ l1)) (by decide +kernel)
  refine Tr.st (show rngR (((qs.map fq).length : Int) + 1) = .ok (upto 7) by rw [List.length_map, hlen]; exact rngR_nat (n := 7) (by decide)) ?_
  refine Tr.bind (Q := fun o => ∃ s, o = .go s) (tr_forCn (fun i s => s = fq (sumQ (qs.take i))) rfl (fun i s hi hs => ?_) fun s _ => ⟨s, rfl⟩) fun o ho => ?_
  · subst hs
    have hsub : ∀ q ∈ qs.take i, In L (10 ^ 40 * L) q := fun q h => l2 q (List.mem_of_mem_take h)
    have hB2 : ((qs.take i).length + 1) * (10 ^ 40 * L) < 2 ^ 4400 := Nat.lt_of_le_of_lt (Nat.mul_le_mul_right _ (by rw [List.length_take]; omega)) hB
    have ct : cutN (qs.map fq) none (some (i : Int)) = (qs.take i).map fq := by rw [cut_take (by rw [List.length_map]; omega), List.map_take]
    rw [ct]
    have lc : lcR ((qs.take i).map fq) (fun _ => .ok true) (fun x => .ok x) = .ok ((qs.take i).map fq) := (lcR_map (g := fun x => x) (by rw [List.length_map, List.length_take]; omega) (fun x _ => rfl)).trans (by rw [List.map_id'])
    refine Tr.st lc (Tr.st (show N_fraction_sum_lhiiq ((qs.take i).map fq) = _ from fraction_sum_q l0 hL hB2 hsub) (Tr.st law_same_pii ?_))
    refine Tr.bind (Q := fun b => b = false) ?_ fun c hc0 => Tr.itF hc0 ?_
    · refine Tr.itF (by simp) ?_
      exact Tr.st (fraction_sumT_q l0 hL hB2 hsub) (Tr.st law_same_pii (Tr.ok (by simp)))
    refine Tr.bind (Q := fun s => s = fq (sumQ (qs.take (i + 1)))) (Tr.ite (fun h => ?_) (fun h => ?_)) fun s hs => Tr.ok hs
    · have hi6 : i < qs.length := by have := of_decide_eq_true h; rw [List.length_map] at this; omega
      have hx : ixR (qs.map fq) (i : Int) = .ok (fq qs[i]) := ixR_nat (by rw [List.getElem?_map, List.getElem?_eq_getElem hi6]; rfl)
      have b1 : i * (10 ^ 40 * L) < 2 ^ 4400 := Nat.lt_of_le_of_lt (Nat.mul_le_mul_right _ (by omega)) hB
      refine Tr.st hx (Tr.of (law_added_q ((In.sum l2 i).sm l0 hL b1) (hqs _ (List.getElem_mem hi6)).sm) ?_)
      rw [List.take_add_one, List.getElem?_eq_getElem hi6, Option.toList_some, sumQ_snoc]
    · have hi6 : qs.length ≤ i := by have := of_decide_eq_false h; rw [List.length_map] at this; omega
      refine Tr.ok ?_
      rw [List.take_of_length_le hi6, List.take_of_length_le (by omega)]
  obtain ⟨s, rfl⟩ := ho
  have ix : ∀ k : Nat, k < 6 → ∃ q, ixR (qs.map fq) (k : Int) = .ok (fq q) ∧ Qs q := fun k hk => ⟨qs[k]'(by omega), ixR_nat (by rw [List.getElem?_map, List.getElem?_eq_getElem (by omega)]; rfl), hqs _ (List.getElem_mem _)⟩
  have big : ∀ q, Qs q → (fq q).1.natAbs ≤ 10 ^ 80 ∧ (fq q).2.natAbs ≤ 10 ^ 80 := fun q h => ⟨Nat.le_trans h.1 (by decide), by
    show ((q.den : Int)).natAbs ≤ _
    rw [Int.natAbs_natCast]
    exact Nat.le_trans h.2 (by decide)⟩
  obtain ⟨q1, y1, g1⟩ := ix 1 (by omega)
  obtain ⟨q2, y2, g2⟩ := ix 2 (by omega)
  obtain ⟨q3, y4, g4⟩ := ix 4 (by omega)
  refine Tr.st y1 (Tr.st (no_bottom0 _) ?_)
  refine Tr.bind (Q := fun b => b = false) ?_ fun c hc0 => Tr.itF hc0 ?_
  · refine Tr.itF rfl (Tr.st y2 (Tr.st (no_bottom1 (big _ g2).1 (big _ g2).2) ?_))
    refine Tr.itF rfl (Tr.st y4 (Tr.st (no_bottom2 (big _ g4).1 (big _ g4).2) ?_))
    exact Tr.itF rfl (Tr.st y4 (Tr.st (no_bottom0 _) (Tr.ok rfl)))
  refine Tr.bind (odd_ok (by omega) (by omega) hqs) fun odd hodd => ?_
  refine tr_all (fun v hv => Tr.st (hodd v hv) (Tr.itF rfl (Tr.ok rfl))) ?_
  refine tr_all (fun v hv => ?_) (Tr.ok rfl)
  obtain ⟨q, hq, rfl⟩ := List.mem_map.mp hv
  exact Tr.st (is_fraction_q q) (Tr.itF rfl (Tr.ok rfl))
theorem law_true (ns : List Int) (_ : ns.length ≤ 63) (_ : ∀ z ∈ ns, Builtin.Int.intBits z ≤ 1048576) : m_law [.frl (ns.map D.int)] = .ok (.bl true) := rf_use (n_law_fi ns) (law_ok ns).eq
end Kx
namespace Kx
open PySem PySem.Spec L2 Da
theorem all_mk {P : Program} {w : World} {K : PySem.W.Frag} {h : Heap} {mg : Str → Option Value} {fa : Addr} (X : K.In h) (G : h.Ns mainGlobals mg) (hfa : mg "law" = some (.ref fa))
    {f0 f1 f2 f3 f4 f5 f6 f7 f8 f9 f10 f11 f12 f13 f14 f15 f16 f17 f18 f19 f20 f21 f22 : Addr} {od0 an0 od1 an1 od2 an2 od3 an3 od4 an4 od5 an5 od6 an6 od7 an7 od8 an8 od9 an9 od10 an10 od11 an11 od12 an12 od13 an13 od14 an14 od15 an15 od16 an16 od17 an17 od18 an18 od19 an19 od20 an20 od21 an21 od22 an22 : Option Addr} {sl0 sl1 sl2 sl3 sl4 sl5 sl6 sl7 sl8 sl9 sl10 sl11 sl12 sl13 sl14 sl15 sl16 sl17 sl18 sl19 sl20 sl21 sl22 : Array (Option Value)} {oc0 kv0 dc0 pm0 cd0 ct0 oc1 kv1 dc1 pm1 cd1 ct1 oc2 kv2 dc2 pm2 cd2 ct2 oc3 kv3 dc3 pm3 cd3 ct3 oc4 kv4 dc4 pm4 cd4 ct4 oc5 kv5 dc5 pm5 cd5 ct5 oc6 kv6 dc6 pm6 cd6 ct6 oc7 kv7 dc7 pm7 cd7 ct7 oc8 kv8 dc8 pm8 cd8 ct8 oc9 kv9 dc9 pm9 cd9 ct9 oc10 kv10 dc10 pm10 cd10 ct10 oc11 kv11 dc11 pm11 cd11 ct11 oc12 kv12 dc12 pm12 cd12 ct12 oc13 kv13 dc13 pm13 cd13 ct13 oc14 kv14 dc14 pm14 cd14 ct14 oc15 kv15 dc15 pm15 cd15 ct15 oc16 kv16 dc16 pm16 cd16 ct16 oc17 kv17 dc17 pm17 cd17 ct17 oc18 kv18 dc18 pm18 cd18 ct18 oc19 kv19 dc19 pm19 cd19 ct19 oc20 kv20 dc20 pm20 cd20 ct20 oc21 kv21 dc21 pm21 cd21 ct21 oc22 kv22 dc22 pm22 cd22 ct22 : Value}
    (a0 : PySem.W.nsIn K mainGlobals "_law_odd" = some (some (.ref f0))) (l0 : K.lookup f0 = some ⟨oc0, od0, .func (PySem.W.fnOf "_law_odd" "_law_odd" (defArgs s_law_odd) (defBody s_law_odd) (defScope s_law_odd) .none kv0 dc0 pm0 an0 cd0 ct0), sl0⟩) (c0 : PySem.W.codeIn K cd0 "_law_odd" = true) (k0 : PySem.W.keepIn K (.ref f0) = true)
    (a1 : PySem.W.nsIn K mainGlobals "ratio" = some (some (.ref f1))) (l1 : K.lookup f1 = some ⟨oc1, od1, .func (PySem.W.fnOf "ratio" "ratio" (defArgs s_ratio) (defBody s_ratio) (defScope s_ratio) .none kv1 dc1 pm1 an1 cd1 ct1), sl1⟩) (c1 : PySem.W.codeIn K cd1 "ratio" = true) (k1 : PySem.W.keepIn K (.ref f1) = true)
    (a2 : PySem.W.nsIn K mainGlobals "_law_number" = some (some (.ref f2))) (l2 : K.lookup f2 = some ⟨oc2, od2, .func (PySem.W.fnOf "_law_number" "_law_number" (defArgs s_law_number) (defBody s_law_number) (defScope s_law_number) .none kv2 dc2 pm2 an2 cd2 ct2), sl2⟩) (c2 : PySem.W.codeIn K cd2 "_law_number" = true) (k2 : PySem.W.keepIn K (.ref f2) = true)
    (a3 : PySem.W.nsIn K mainGlobals "_law_whole" = some (some (.ref f3))) (l3 : K.lookup f3 = some ⟨oc3, od3, .func (PySem.W.fnOf "_law_whole" "_law_whole" (defArgs s_law_whole) (defBody s_law_whole) (defScope s_law_whole) .none kv3 dc3 pm3 an3 cd3 ct3), sl3⟩) (c3 : PySem.W.codeIn K cd3 "_law_whole" = true) (k3 : PySem.W.keepIn K (.ref f3) = true)
    (a4 : PySem.W.nsIn K mainGlobals "_law_same" = some (some (.ref f4))) (l4 : K.lookup f4 = some ⟨oc4, od4, .func (PySem.W.fnOf "_law_same" "_law_same" (defArgs s_law_same) (defBody s_law_same) (defScope s_law_same) .none kv4 dc4 pm4 an4 cd4 ct4), sl4⟩) (c4 : PySem.W.codeIn K cd4 "_law_same" = true) (k4 : PySem.W.keepIn K (.ref f4) = true)
    (a5 : PySem.W.nsIn K mainGlobals "_law_gcd" = some (some (.ref f5))) (l5 : K.lookup f5 = some ⟨oc5, od5, .func (PySem.W.fnOf "_law_gcd" "_law_gcd" (defArgs s_law_gcd) (defBody s_law_gcd) (defScope s_law_gcd) .none kv5 dc5 pm5 an5 cd5 ct5), sl5⟩) (c5 : PySem.W.codeIn K cd5 "_law_gcd" = true) (k5 : PySem.W.keepIn K (.ref f5) = true)
    (a6 : PySem.W.nsIn K mainGlobals "_law_fraction" = some (some (.ref f6))) (l6 : K.lookup f6 = some ⟨oc6, od6, .func (PySem.W.fnOf "_law_fraction" "_law_fraction" (defArgs s_law_fraction) (defBody s_law_fraction) (defScope s_law_fraction) .none kv6 dc6 pm6 an6 cd6 ct6), sl6⟩) (c6 : PySem.W.codeIn K cd6 "_law_fraction" = true) (k6 : PySem.W.keepIn K (.ref f6) = true)
    (a7 : PySem.W.nsIn K mainGlobals "_law_added" = some (some (.ref f7))) (l7 : K.lookup f7 = some ⟨oc7, od7, .func (PySem.W.fnOf "_law_added" "_law_added" (defArgs s_law_added) (defBody s_law_added) (defScope s_law_added) .none kv7 dc7 pm7 an7 cd7 ct7), sl7⟩) (c7 : PySem.W.codeIn K cd7 "_law_added" = true) (k7 : PySem.W.keepIn K (.ref f7) = true)
    (a8 : PySem.W.nsIn K mainGlobals "over" = some (some (.ref f8))) (l8 : K.lookup f8 = some ⟨oc8, od8, .func (PySem.W.fnOf "over" "over" (defArgs s_over) (defBody s_over) (defScope s_over) .none kv8 dc8 pm8 an8 cd8 ct8), sl8⟩) (c8 : PySem.W.codeIn K cd8 "over" = true) (k8 : PySem.W.keepIn K (.ref f8) = true)
    (a9 : PySem.W.nsIn K mainGlobals "_law_no_bottom" = some (some (.ref f9))) (l9 : K.lookup f9 = some ⟨oc9, od9, .func (PySem.W.fnOf "_law_no_bottom" "_law_no_bottom" (defArgs s_law_no_bottom) (defBody s_law_no_bottom) (defScope s_law_no_bottom) .none kv9 dc9 pm9 an9 cd9 ct9), sl9⟩) (c9 : PySem.W.codeIn K cd9 "_law_no_bottom" = true) (k9 : PySem.W.keepIn K (.ref f9) = true)
    (a10 : PySem.W.nsIn K mainGlobals "is_number" = some (some (.ref f10))) (l10 : K.lookup f10 = some ⟨oc10, od10, .func (PySem.W.fnOf "is_number" "is_number" (defArgs s_is_number) (defBody s_is_number) (defScope s_is_number) .none kv10 dc10 pm10 an10 cd10 ct10), sl10⟩) (c10 : PySem.W.codeIn K cd10 "is_number" = true) (k10 : PySem.W.keepIn K (.ref f10) = true)
    (a11 : PySem.W.nsIn K mainGlobals "is_fraction" = some (some (.ref f11))) (l11 : K.lookup f11 = some ⟨oc11, od11, .func (PySem.W.fnOf "is_fraction" "is_fraction" (defArgs s_is_fraction) (defBody s_is_fraction) (defScope s_is_fraction) .none kv11 dc11 pm11 an11 cd11 ct11), sl11⟩) (c11 : PySem.W.codeIn K cd11 "is_fraction" = true) (k11 : PySem.W.keepIn K (.ref f11) = true)
    (a12 : PySem.W.nsIn K mainGlobals "_law_digits" = some (some (.ref f12))) (l12 : K.lookup f12 = some ⟨oc12, od12, .func (PySem.W.fnOf "_law_digits" "_law_digits" (defArgs s_law_digits) (defBody s_law_digits) (defScope s_law_digits) .none kv12 dc12 pm12 an12 cd12 ct12), sl12⟩) (c12 : PySem.W.codeIn K cd12 "_law_digits" = true) (k12 : PySem.W.keepIn K (.ref f12) = true)
    (a13 : PySem.W.nsIn K mainGlobals "_law_is_fraction" = some (some (.ref f13))) (l13 : K.lookup f13 = some ⟨oc13, od13, .func (PySem.W.fnOf "_law_is_fraction" "_law_is_fraction" (defArgs s_law_is_fraction) (defBody s_law_is_fraction) (defScope s_law_is_fraction) .none kv13 dc13 pm13 an13 cd13 ct13), sl13⟩) (c13 : PySem.W.codeIn K cd13 "_law_is_fraction" = true) (k13 : PySem.W.keepIn K (.ref f13) = true)
    (a14 : PySem.W.nsIn K mainGlobals "_law_cell" = some (some (.ref f14))) (l14 : K.lookup f14 = some ⟨oc14, od14, .func (PySem.W.fnOf "_law_cell" "_law_cell" (defArgs s_law_cell) (defBody s_law_cell) (defScope s_law_cell) .none kv14 dc14 pm14 an14 cd14 ct14), sl14⟩) (c14 : PySem.W.codeIn K cd14 "_law_cell" = true) (k14 : PySem.W.keepIn K (.ref f14) = true)
    (a15 : PySem.W.nsIn K mainGlobals "added" = some (some (.ref f15))) (l15 : K.lookup f15 = some ⟨oc15, od15, .func (PySem.W.fnOf "added" "added" (defArgs s_added) (defBody s_added) (defScope s_added) .none kv15 dc15 pm15 an15 cd15 ct15), sl15⟩) (c15 : PySem.W.codeIn K cd15 "added" = true) (k15 : PySem.W.keepIn K (.ref f15) = true)
    (a16 : PySem.W.nsIn K mainGlobals "less" = some (some (.ref f16))) (l16 : K.lookup f16 = some ⟨oc16, od16, .func (PySem.W.fnOf "less" "less" (defArgs s_less) (defBody s_less) (defScope s_less) .none kv16 dc16 pm16 an16 cd16 ct16), sl16⟩) (c16 : PySem.W.codeIn K cd16 "less" = true) (k16 : PySem.W.keepIn K (.ref f16) = true)
    (a17 : PySem.W.nsIn K mainGlobals "_law_difference" = some (some (.ref f17))) (l17 : K.lookup f17 = some ⟨oc17, od17, .func (PySem.W.fnOf "_law_difference" "_law_difference" (defArgs s_law_difference) (defBody s_law_difference) (defScope s_law_difference) .none kv17 dc17 pm17 an17 cd17 ct17), sl17⟩) (c17 : PySem.W.codeIn K cd17 "_law_difference" = true) (k17 : PySem.W.keepIn K (.ref f17) = true)
    (a18 : PySem.W.nsIn K mainGlobals "timed" = some (some (.ref f18))) (l18 : K.lookup f18 = some ⟨oc18, od18, .func (PySem.W.fnOf "timed" "timed" (defArgs s_timed) (defBody s_timed) (defScope s_timed) .none kv18 dc18 pm18 an18 cd18 ct18), sl18⟩) (c18 : PySem.W.codeIn K cd18 "timed" = true) (k18 : PySem.W.keepIn K (.ref f18) = true)
    (a19 : PySem.W.nsIn K mainGlobals "_law_timed" = some (some (.ref f19))) (l19 : K.lookup f19 = some ⟨oc19, od19, .func (PySem.W.fnOf "_law_timed" "_law_timed" (defArgs s_law_timed) (defBody s_law_timed) (defScope s_law_timed) .none kv19 dc19 pm19 an19 cd19 ct19), sl19⟩) (c19 : PySem.W.codeIn K cd19 "_law_timed" = true) (k19 : PySem.W.keepIn K (.ref f19) = true)
    (a20 : PySem.W.nsIn K mainGlobals "compare" = some (some (.ref f20))) (l20 : K.lookup f20 = some ⟨oc20, od20, .func (PySem.W.fnOf "compare" "compare" (defArgs s_compare) (defBody s_compare) (defScope s_compare) .none kv20 dc20 pm20 an20 cd20 ct20), sl20⟩) (c20 : PySem.W.codeIn K cd20 "compare" = true) (k20 : PySem.W.keepIn K (.ref f20) = true)
    (a21 : PySem.W.nsIn K mainGlobals "fraction_sum" = some (some (.ref f21))) (l21 : K.lookup f21 = some ⟨oc21, od21, .func (PySem.W.fnOf "fraction_sum" "fraction_sum" (defArgs s_fraction_sum) (defBody s_fraction_sum) (defScope s_fraction_sum) .none kv21 dc21 pm21 an21 cd21 ct21), sl21⟩) (c21 : PySem.W.codeIn K cd21 "fraction_sum" = true) (k21 : PySem.W.keepIn K (.ref f21) = true)
    (a22 : PySem.W.nsIn K mainGlobals "law" = some (some (.ref f22))) (l22 : K.lookup f22 = some ⟨oc22, od22, .func (PySem.W.fnOf "law" "law" (defArgs s_law) (defBody s_law) (defScope s_law) .none kv22 dc22 pm22 an22 cd22 ct22), sl22⟩) (c22 : PySem.W.codeIn K cd22 "law" = true) (k22 : PySem.W.keepIn K (.ref f22) = true)
    {E0 E1 E2 E3 E4 E5 E6 : Addr}
    (ea0 : PySem.W.nsIn K mainGlobals "ZeroBottom" = some (some (.ref E0)))
    (ex0 : PySem.W.excIn K E0 veT "ValueError.__new__" = true) (ek0 : PySem.W.keepIn K (.ref E0) = true) (et0 : PySem.W.subIn K (.ref E0) (.type "BaseException") = some true) (ey0 : PySem.W.typeIn K (.ref E0) = some (.type "type"))
    (ea1 : PySem.W.nsIn K mainGlobals "BadLot" = some (some (.ref E1)))
    (ea2 : PySem.W.nsIn K mainGlobals "BadSize" = some (some (.ref E2)))
    (ea3 : PySem.W.nsIn K mainGlobals "BadTable" = some (some (.ref E3)))
    (ea4 : PySem.W.nsIn K mainGlobals "SizesDiffer" = some (some (.ref E4)))
    (ea5 : PySem.W.nsIn K mainGlobals "BadCount" = some (some (.ref E5)))
    (ea6 : PySem.W.nsIn K mainGlobals "BookError" = some (some (.ref E6)))
    (eh_BookError_ZeroBottom : PySem.W.exmOne K (.ref E0) (.ref E6) = some true)
    (eq_BadCount_ZeroBottom : PySem.W.kitOne K (.ref E0) (.ref E5) = some false)
    (eq_BadLot_ZeroBottom : PySem.W.kitOne K (.ref E0) (.ref E1) = some false)
    (eq_BadSize_ZeroBottom : PySem.W.kitOne K (.ref E0) (.ref E2) = some false)
    (eq_BadTable_ZeroBottom : PySem.W.kitOne K (.ref E0) (.ref E3) = some false)
    (eq_SizesDiffer_ZeroBottom : PySem.W.kitOne K (.ref E0) (.ref E4) = some false)
    (eq_ValueError_ZeroBottom : PySem.W.kitOne K (.ref E0) (.type "ValueError") = some true)
    (eq_ZeroBottom_ZeroBottom : PySem.W.kitOne K (.ref E0) (.ref E0) = some true)
    (ec_ZeroBottom : excB K E0 = true)
    (z0 : PySem.W.nsIn K mainGlobals "ValueError" = some none)
    (z1 : PySem.W.nsIn K mainGlobals "abs" = some none)
    (z2 : PySem.W.nsIn K mainGlobals "bool" = some none)
    (z3 : PySem.W.nsIn K mainGlobals "int" = some none)
    (z4 : PySem.W.nsIn K mainGlobals "isinstance" = some none)
    (z5 : PySem.W.nsIn K mainGlobals "len" = some none)
    (z6 : PySem.W.nsIn K mainGlobals "list" = some none)
    (z7 : PySem.W.nsIn K mainGlobals "range" = some none)
    (z8 : PySem.W.nsIn K mainGlobals "str" = some none)
    (z9 : PySem.W.nsIn K mainGlobals "tuple" = some none)
    (gg : PySem.W.nsIn K mainGlobals "gcd" = some (some (.builtin "math.gcd")))
    : ∃ fd : FuncData, (∀ (s : Shared) (u : Value), BindsTo s fd ⟨[u], []⟩ [("script", u)]) ∧ ∀ base : Heap, K.In base → base.Ns mainGlobals mg → FnOk P w K mg base (L2.CX P w) 10 fa fd ["script"] (spLaw K) := by
  have e := hfa.symm.trans (PySem.W.mg_of X G a22)
  cases e
  have T : Txt K mg :=
    { d_law_odd := defAt_mk X G a0 l0 c0 k0 fun _ _ _ _ _ _ us hl => match us, hl with | [_], _ => rfl
      d_ratio := defAt_mk X G a1 l1 c1 k1 fun _ _ _ _ _ _ us hl => match us, hl with | [_, _], _ => rfl
      d_law_number := defAt_mk X G a2 l2 c2 k2 fun _ _ _ _ _ _ us hl => match us, hl with | [_], _ => rfl
      d_law_whole := defAt_mk X G a3 l3 c3 k3 fun _ _ _ _ _ _ us hl => match us, hl with | [_], _ => rfl
      d_law_same := defAt_mk X G a4 l4 c4 k4 fun _ _ _ _ _ _ us hl => match us, hl with | [_, _], _ => rfl
      d_law_gcd := defAt_mk X G a5 l5 c5 k5 fun _ _ _ _ _ _ us hl => match us, hl with | [_, _], _ => rfl
      d_law_fraction := defAt_mk X G a6 l6 c6 k6 fun _ _ _ _ _ _ us hl => match us, hl with | [_, _], _ => rfl
      d_law_added := defAt_mk X G a7 l7 c7 k7 fun _ _ _ _ _ _ us hl => match us, hl with | [_, _], _ => rfl
      d_over := defAt_mk X G a8 l8 c8 k8 fun _ _ _ _ _ _ us hl => match us, hl with | [_, _], _ => rfl
      d_law_no_bottom := defAt_mk X G a9 l9 c9 k9 fun _ _ _ _ _ _ us hl => match us, hl with | [_, _], _ => rfl
      d_is_number := defAt_mk X G a10 l10 c10 k10 fun _ _ _ _ _ _ us hl => match us, hl with | [_], _ => rfl
      d_is_fraction := defAt_mk X G a11 l11 c11 k11 fun _ _ _ _ _ _ us hl => match us, hl with | [_], _ => rfl
      d_law_digits := defAt_mk X G a12 l12 c12 k12 fun _ _ _ _ _ _ us hl => match us, hl with | [_, _], _ => rfl
      d_law_is_fraction := defAt_mk X G a13 l13 c13 k13 fun _ _ _ _ _ _ us hl => match us, hl with | [_], _ => rfl
      d_law_cell := defAt_mk X G a14 l14 c14 k14 fun _ _ _ _ _ _ us hl => match us, hl with | [_, _], _ => rfl
      d_added := defAt_mk X G a15 l15 c15 k15 fun _ _ _ _ _ _ us hl => match us, hl with | [_, _], _ => rfl
      d_less := defAt_mk X G a16 l16 c16 k16 fun _ _ _ _ _ _ us hl => match us, hl with | [_, _], _ => rfl
      d_law_difference := defAt_mk X G a17 l17 c17 k17 fun _ _ _ _ _ _ us hl => match us, hl with | [_, _], _ => rfl
      d_timed := defAt_mk X G a18 l18 c18 k18 fun _ _ _ _ _ _ us hl => match us, hl with | [_, _], _ => rfl
      d_law_timed := defAt_mk X G a19 l19 c19 k19 fun _ _ _ _ _ _ us hl => match us, hl with | [_, _], _ => rfl
      d_compare := defAt_mk X G a20 l20 c20 k20 fun _ _ _ _ _ _ us hl => match us, hl with | [_, _], _ => rfl
      d_fraction_sum := defAt_mk X G a21 l21 c21 k21 fun _ _ _ _ _ _ us hl => match us, hl with | [_], _ => rfl
      z_ValueError := PySem.W.mg_none_of X G z0
      z_abs := PySem.W.mg_none_of X G z1
      z_bool := PySem.W.mg_none_of X G z2
      z_int := PySem.W.mg_none_of X G z3
      z_isinstance := PySem.W.mg_none_of X G z4
      z_len := PySem.W.mg_none_of X G z5
      z_list := PySem.W.mg_none_of X G z6
      z_range := PySem.W.mg_none_of X G z7
      z_str := PySem.W.mg_none_of X G z8
      z_tuple := PySem.W.mg_none_of X G z9
      g_gcd := PySem.W.mg_of X G gg
      e0_ZeroBottom := err0_mk (PySem.W.mg_of X G ea0) ex0 ek0 et0 ey0
      h_BookError := clauseAt_mk (PySem.W.mg_of X G ea6) (subAt_cons (PySem.W.mg_of X G ea0) eh_BookError_ZeroBottom subAt_nil)
      y_BadCount := askOwn_mk (PySem.W.mg_of X G ea5) (askAt_cons (PySem.W.mg_of X G ea0) eq_BadCount_ZeroBottom askAt_nil)
      y_BadLot := askOwn_mk (PySem.W.mg_of X G ea1) (askAt_cons (PySem.W.mg_of X G ea0) eq_BadLot_ZeroBottom askAt_nil)
      y_BadSize := askOwn_mk (PySem.W.mg_of X G ea2) (askAt_cons (PySem.W.mg_of X G ea0) eq_BadSize_ZeroBottom askAt_nil)
      y_BadTable := askOwn_mk (PySem.W.mg_of X G ea3) (askAt_cons (PySem.W.mg_of X G ea0) eq_BadTable_ZeroBottom askAt_nil)
      y_SizesDiffer := askOwn_mk (PySem.W.mg_of X G ea4) (askAt_cons (PySem.W.mg_of X G ea0) eq_SizesDiffer_ZeroBottom askAt_nil)
      y_ValueError := (askAt_cons (PySem.W.mg_of X G ea0) eq_ValueError_ZeroBottom askAt_nil)
      y_ZeroBottom := askOwn_mk (PySem.W.mg_of X G ea0) (askAt_cons (PySem.W.mg_of X G ea0) eq_ZeroBottom_ZeroBottom askAt_nil)
      xc := (errsC_cons (PySem.W.mg_of X G ea0) (excB_ok ec_ZeroBottom) errsC_nil) }
  exact ⟨_, fun s u => .of_eq rfl, fun base _ _ => law_imp (okf_law T (fun_mk (st := s_law) l22 c22 k22)) law_true⟩
end Kx
end
open PySem PySem.W PyProof.Rows
set_option maxRecDepth 100000 in
set_option maxHeartbeats 0 in
theorem PySem.Challenge.cw_nobadday_k00_fractions_holds : PySem.Challenge.rw_nobadday_k00_fractions.Holds := by
  w_on; o_law; k_head; (case hw => w_witness2)
  k_fill
  refine Da.walk_end (l := PySem.Challenge.rw_nobadday_k00_fractions) (k := 10) rfl rfl ⟨rfl, by decide, by decide⟩ (fun w h Y => PySem.W.kIn_of Y) ?F
  case F =>
    intro w mg fa h KX G hmg
    refine' Kx.all_mk KX G hmg ?a0 ?l0 ?c0 ?k0 ?a1 ?l1 ?c1 ?k1 ?a2 ?l2 ?c2 ?k2 ?a3 ?l3 ?c3 ?k3 ?a4 ?l4 ?c4 ?k4 ?a5 ?l5 ?c5 ?k5 ?a6 ?l6 ?c6 ?k6 ?a7 ?l7 ?c7 ?k7 ?a8 ?l8 ?c8 ?k8 ?a9 ?l9 ?c9 ?k9 ?a10 ?l10 ?c10 ?k10 ?a11 ?l11 ?c11 ?k11 ?a12 ?l12 ?c12 ?k12 ?a13 ?l13 ?c13 ?k13 ?a14 ?l14 ?c14 ?k14 ?a15 ?l15 ?c15 ?k15 ?a16 ?l16 ?c16 ?k16 ?a17 ?l17 ?c17 ?k17 ?a18 ?l18 ?c18 ?k18 ?a19 ?l19 ?c19 ?k19 ?a20 ?l20 ?c20 ?k20 ?a21 ?l21 ?c21 ?k21 ?a22 ?l22 ?c22 ?k22 ?ea0 ?ex0 ?ek0 ?et0 ?ey0 ?ea1 ?ea2 ?ea3 ?ea4 ?ea5 ?ea6 ?eh_BookError_ZeroBottom ?eq_BadCount_ZeroBottom ?eq_BadLot_ZeroBottom ?eq_BadSize_ZeroBottom ?eq_BadTable_ZeroBottom ?eq_SizesDiffer_ZeroBottom ?eq_ValueError_ZeroBottom ?eq_ZeroBottom_ZeroBottom ?ec_ZeroBottom ?z0 ?z1 ?z2 ?z3 ?z4 ?z5 ?z6 ?z7 ?z8 ?z9 ?gg
    (case a0 => k_is); (case l0 => k_is); (case c0 => k_is); (case k0 => k_is); (case a1 => k_is); (case l1 => k_is); (case c1 => k_is); (case k1 => k_is)
    (case a2 => k_is); (case l2 => k_is); (case c2 => k_is); (case k2 => k_is); (case a3 => k_is); (case l3 => k_is); (case c3 => k_is); (case k3 => k_is)
    (case a4 => k_is); (case l4 => k_is); (case c4 => k_is); (case k4 => k_is); (case a5 => k_is); (case l5 => k_is); (case c5 => k_is); (case k5 => k_is)
    (case a6 => k_is); (case l6 => k_is); (case c6 => k_is); (case k6 => k_is); (case a7 => k_is); (case l7 => k_is); (case c7 => k_is); (case k7 => k_is)
    (case a8 => k_is); (case l8 => k_is); (case c8 => k_is); (case k8 => k_is); (case a9 => k_is); (case l9 => k_is); (case c9 => k_is); (case k9 => k_is)
    (case a10 => k_is); (case l10 => k_is); (case c10 => k_is); (case k10 => k_is); (case a11 => k_is); (case l11 => k_is); (case c11 => k_is); (case k11 => k_is)
    (case a12 => k_is); (case l12 => k_is); (case c12 => k_is); (case k12 => k_is); (case a13 => k_is); (case l13 => k_is); (case c13 => k_is); (case k13 => k_is)
    (case a14 => k_is); (case l14 => k_is); (case c14 => k_is); (case k14 => k_is); (case a15 => k_is); (case l15 => k_is); (case c15 => k_is); (case k15 => k_is)
    (case a16 => k_is); (case l16 => k_is); (case c16 => k_is); (case k16 => k_is); (case a17 => k_is); (case l17 => k_is); (case c17 => k_is); (case k17 => k_is)
    (case a18 => k_is); (case l18 => k_is); (case c18 => k_is); (case k18 => k_is); (case a19 => k_is); (case l19 => k_is); (case c19 => k_is); (case k19 => k_is)
    (case a20 => k_is); (case l20 => k_is); (case c20 => k_is); (case k20 => k_is); (case a21 => k_is); (case l21 => k_is); (case c21 => k_is); (case k21 => k_is)
    (case a22 => k_is); (case l22 => k_is); (case c22 => k_is); (case k22 => k_is); (case ea0 => k_is); (case ex0 => kernel_rfl); (case ek0 => k_is); (case et0 => k_is)
    (case ey0 => k_is); (case ea1 => k_is); (case ea2 => k_is); (case ea3 => k_is); (case ea4 => k_is); (case ea5 => k_is); (case ea6 => k_is); (case eh_BookError_ZeroBottom => kernel_rfl)
    (case eq_BadCount_ZeroBottom => kernel_rfl); (case eq_BadLot_ZeroBottom => kernel_rfl); (case eq_BadSize_ZeroBottom => kernel_rfl); (case eq_BadTable_ZeroBottom => kernel_rfl); (case eq_SizesDiffer_ZeroBottom => kernel_rfl); (case eq_ValueError_ZeroBottom => kernel_rfl); (case eq_ZeroBottom_ZeroBottom => kernel_rfl); (case ec_ZeroBottom => kernel_rfl)
    (case z0 => k_is); (case z1 => k_is); (case z2 => k_is); (case z3 => k_is); (case z4 => k_is); (case z5 => k_is); (case z6 => k_is); (case z7 => k_is)
    (case z8 => k_is); (case z9 => k_is); (case gg => k_is)
#print axioms PySem.Challenge.cw_nobadday_k00_fractions_holds

