import PyProof.Rows.All
import Wide.All
import OpenK.AllK
import Wide.FinOn
import HandS.ForMost
import HandS.EndBits
import HandS.ForExc
import HandS.Wide
import HandS.Conv
import HandS.Style
import HandS.IsInst
import HandS.TupAny
import HandS.TupMul
import HandS.Deep
import HandS.Gcd
import HandS.Flow
import HandS.RevRange
import HandS.Rev
import HandS.Zip
import KE.SortData
import KE.GoesMore
import KE.OsSorts
import PySem.Challenge.RW_nobadday_k07_permutations
set_option Elab.async false
set_option linter.all false
set_option maxRecDepth 100000
set_option maxHeartbeats 4000000
noncomputable section
/-! Da: data by value over the layer HandS: what a value stands for, views of the heap, slots that are owned. -/
namespace Da
open PySem PySem.Spec L2
/-- a check that nobody reckons out -/
@[irreducible] def stuck (p : Prop) : Bool := @decide p (Classical.propDecidable p)
theorem stuck_iff {p : Prop} : stuck p = true ↔ p := by unfold stuck; exact @decide_eq_true_iff p (Classical.propDecidable p)
/-- data, without the heap -/
inductive D where
  | non | bl (b : Bool) | int (i : Int) | str (s : Str)
  | lst (xs : List D) | tup (xs : List D) | frl (xs : List D)
  | dic (ks : List Key) (vs : List D) | dit (ks : List (List Key)) (vs : List D)
  | obj (c : Str) (ns : List Str) (vs : List D)
/-- what a run gives: a value, an own exception with its arguments, or nothing that is known -/
inductive Res (α : Type) where
  | ok (a : α) | ex (c : Str) (fs : List (Str × D)) | er
namespace Res
def bind {α β : Type} (r : Res α) (f : α → Res β) : Res β := match r with
  | .ok a => f a
  | .ex c fs => .ex c fs
  | .er => .er
@[simp] theorem bind_ok {α β : Type} (a : α) (f : α → Res β) : (Res.ok a).bind f = f a := rfl
@[simp] theorem bind_ex {α β : Type} (c : Str) (as : List (Str × D)) (f : α → Res β) : (Res.ex c as : Res α).bind f = .ex c as := rfl
@[simp] theorem bind_er {α β : Type} (f : α → Res β) : (Res.er : Res α).bind f = .er := rfl
end Res
/-- the value v stands for the data d, read in the view S -/
inductive Rep (K : PySem.W.Frag) (mg : Str → Option Value) (S : Hp) : V → D → Prop where
  | non : Rep K mg S .non .non
  | bl (b : Bool) : Rep K mg S (.bl b) (.bl b)
  | int (i : Int) : Rep K mg S (.int i) (.int i)
  | str (x : Str) : Rep K mg S (.str x) (.str x)
  | lst {a : Addr} {vs : List V} {ds : List D} (h : S a = some (.lst vs)) (hl : vs.length = ds.length) (hi : ∀ (i : Nat) (v : V) (d : D), vs[i]? = some v → ds[i]? = some d → Rep K mg S v d) : Rep K mg S (.ref a) (.lst ds)
  | tup {a : Addr} {vs : List V} {ds : List D} (h : SqT K S a vs) (hl : vs.length = ds.length) (hi : ∀ (i : Nat) (v : V) (d : D), vs[i]? = some v → ds[i]? = some d → Rep K mg S v d) : Rep K mg S (.ref a) (.tup ds)
  | frl {a : Addr} {vs : List V} {ds : List D} (h : SqL K S a vs) (hl : vs.length = ds.length) (hi : ∀ (i : Nat) (v : V) (d : D), vs[i]? = some v → ds[i]? = some d → Rep K mg S v d) : Rep K mg S (.ref a) (.frl ds)
  | dic {a : Addr} {kvs : List (Key × V)} {ds : List D} (h : S a = some (.dK kvs)) (hl : kvs.length = ds.length) (hi : ∀ (i : Nat) (p : Key × V) (d : D), kvs[i]? = some p → ds[i]? = some d → Rep K mg S p.2 d) : Rep K mg S (.ref a) (.dic (kvs.map (·.1)) ds)
  | dit {a : Addr} {kvs : List (List Key × V)} {ds : List D} (h : S a = some (.dT kvs)) (hl : kvs.length = ds.length) (hi : ∀ (i : Nat) (p : List Key × V) (d : D), kvs[i]? = some p → ds[i]? = some d → Rep K mg S p.2 d) : Rep K mg S (.ref a) (.dit (kvs.map (·.1)) ds)
  | obj {a C dx : Addr} {c : Str} {fs : List (Str × V)} {ds : List D} (h : S a = some (.ins C dx fs)) (hm : mg c = some (.ref C)) (hl : fs.length = ds.length) (hi : ∀ (i : Nat) (p : Str × V) (d : D), fs[i]? = some p → ds[i]? = some d → Rep K mg S p.2 d) : Rep K mg S (.ref a) (.obj c (fs.map (·.1)) ds)
section
variable {K : PySem.W.Frag} {mg : Str → Option Value} {S S' H H' : Hp}
theorem same_rd {a : Addr} {u : HO} (e : Same S S') (h : Rd S a u) : Rd S' a u := by
  rcases h with h | ⟨o, h⟩
  · exact .inl (e _ _ h)
  · exact .inr ⟨o, e _ _ h⟩
theorem same_l {a : Addr} {xs : List V} (e : Same S S') (h : SqL K S a xs) : SqL K S' a xs := by
  rcases h with h | h
  · exact .inl (same_rd e h)
  · exact .inr h
theorem same_t {a : Addr} {xs : List V} (e : Same S S') (h : SqT K S a xs) : SqT K S' a xs := by
  rcases h with h | h
  · exact .inl (same_rd e h)
  · exact .inr h
theorem Rep.mono {v : V} {d : D} (e : Same S S') (h : Rep K mg S v d) : Rep K mg S' v d := by
  induction h with
  | non => exact .non
  | bl b => exact .bl b
  | int i => exact .int i
  | str x => exact .str x
  | lst h hl _ ih => exact .lst (e _ _ h) hl ih
  | frl h hl _ ih => exact .frl (same_l e h) hl ih
  | tup h hl _ ih => exact .tup (same_t e h) hl ih
  | dic h hl _ ih => exact .dic (e _ _ h) hl ih
  | dit h hl _ ih => exact .dit (e _ _ h) hl ih
  | obj h hm hl _ ih => exact .obj (e _ _ h) hm hl ih
/-- item by item -/
structure RepL (K : PySem.W.Frag) (mg : Str → Option Value) (S : Hp) (vs : List V) (ds : List D) : Prop where
  len : vs.length = ds.length
  at_ : ∀ (i : Nat) (v : V) (d : D), vs[i]? = some v → ds[i]? = some d → Rep K mg S v d
theorem RepL.mono {vs : List V} {ds : List D} (e : Same S S') (h : RepL K mg S vs ds) : RepL K mg S' vs ds := ⟨h.len, fun i v d a b => (h.at_ i v d a b).mono e⟩
theorem RepL.nil : RepL K mg S [] [] := ⟨rfl, fun i v d a _ => by simp at a⟩
theorem RepL.cons {v : V} {d : D} {vs : List V} {ds : List D} (h : Rep K mg S v d) (t : RepL K mg S vs ds) : RepL K mg S (v :: vs) (d :: ds) := by
  refine ⟨by rw [List.length_cons, List.length_cons, t.len], fun i w e a b => ?_⟩
  cases i with
  | zero =>
    rw [List.getElem?_cons_zero] at a b
    cases a; cases b
    exact h
  | succ i =>
    rw [List.getElem?_cons_succ] at a b
    exact t.at_ i w e a b
theorem RepL.head {v : V} {d : D} {vs : List V} {ds : List D} (t : RepL K mg S (v :: vs) (d :: ds)) : Rep K mg S v d := t.at_ 0 v d rfl rfl
theorem RepL.tail {v : V} {d : D} {vs : List V} {ds : List D} (t : RepL K mg S (v :: vs) (d :: ds)) : RepL K mg S vs ds :=
  ⟨by have := t.len; simpa using this, fun i w e a b => t.at_ (i + 1) w e (by simpa using a) (by simpa using b)⟩
theorem RepL.get {vs : List V} {ds : List D} {i : Nat} {d : D} (t : RepL K mg S vs ds) (h : ds[i]? = some d) : ∃ v, vs[i]? = some v ∧ Rep K mg S v d := by
  have hi := (List.getElem?_eq_some_iff.mp h).1
  have hv : i < vs.length := by rw [t.len]; exact hi
  exact ⟨vs[i], List.getElem?_eq_getElem hv, t.at_ i _ d (List.getElem?_eq_getElem hv) h⟩
theorem RepL.append {vs ws : List V} {ds es : List D} (t : RepL K mg S vs ds) (u : RepL K mg S ws es) : RepL K mg S (vs ++ ws) (ds ++ es) := by
  refine ⟨by rw [List.length_append, List.length_append, t.len, u.len], fun i w e a b => ?_⟩
  by_cases h : i < vs.length
  · rw [List.getElem?_append_left h] at a
    rw [List.getElem?_append_left (by rw [← t.len]; exact h)] at b
    exact t.at_ i w e a b
  · rw [List.getElem?_append_right (by omega)] at a
    rw [List.getElem?_append_right (by rw [← t.len]; omega), ← t.len] at b
    exact u.at_ _ w e a b
theorem RepL.snoc {vs : List V} {ds : List D} {v : V} {d : D} (t : RepL K mg S vs ds) (h : Rep K mg S v d) : RepL K mg S (vs ++ [v]) (ds ++ [d]) := t.append (.cons h .nil)
theorem RepL.set {vs : List V} {ds : List D} {v : V} {d : D} (t : RepL K mg S vs ds) (j : Nat) (h : Rep K mg S v d) : RepL K mg S (vs.set j v) (ds.set j d) := by
  refine ⟨by rw [List.length_set, List.length_set, t.len], fun i w e a b => ?_⟩
  rw [List.getElem?_set] at a b
  by_cases hj : j = i
  · subst hj
    rw [if_pos rfl] at a b
    split at a
    · rename_i h1
      rw [if_pos (by rw [← t.len]; exact h1)] at b
      cases a; cases b
      exact h
    · cases a
  · rw [if_neg hj] at a b
    exact t.at_ i w e a b
theorem RepL.take {vs : List V} {ds : List D} (n : Nat) (t : RepL K mg S vs ds) : RepL K mg S (vs.take n) (ds.take n) := by
  refine ⟨by rw [List.length_take, List.length_take, t.len], fun i w e a b => ?_⟩
  rw [List.getElem?_take] at a b
  split at a
  · rename_i h
    rw [if_pos h] at b
    exact t.at_ i w e a b
  · cases a
theorem RepL.drop {vs : List V} {ds : List D} (n : Nat) (t : RepL K mg S vs ds) : RepL K mg S (vs.drop n) (ds.drop n) := by
  refine ⟨by rw [List.length_drop, List.length_drop, t.len], fun i w e a b => ?_⟩
  rw [List.getElem?_drop] at a b
  exact t.at_ _ w e a b
theorem RepL.eraseIdx {vs : List V} {ds : List D} (n : Nat) (t : RepL K mg S vs ds) : RepL K mg S (vs.eraseIdx n) (ds.eraseIdx n) := by
  rw [List.eraseIdx_eq_take_drop_succ, List.eraseIdx_eq_take_drop_succ]
  exact (t.take n).append (t.drop (n + 1))
theorem RepL.dropLast {vs : List V} {ds : List D} (t : RepL K mg S vs ds) : RepL K mg S vs.dropLast ds.dropLast := by
  rw [List.dropLast_eq_take, List.dropLast_eq_take, t.len]
  exact t.take _
theorem Rep.lstL {a : Addr} {vs : List V} {ds : List D} (h : S a = some (.lst vs)) (t : RepL K mg S vs ds) : Rep K mg S (.ref a) (.lst ds) := .lst h t.len t.at_
theorem Rep.tupL {a : Addr} {vs : List V} {ds : List D} (h : SqT K S a vs) (t : RepL K mg S vs ds) : Rep K mg S (.ref a) (.tup ds) := .tup h t.len t.at_
theorem Rep.of_lst {v : V} {ds : List D} (h : Rep K mg S v (.lst ds)) : ∃ a vs, v = .ref a ∧ S a = some (.lst vs) ∧ RepL K mg S vs ds := by
  cases h with
  | lst h hl hi => exact ⟨_, _, rfl, h, hl, hi⟩
theorem Rep.of_frl {v : V} {ds : List D} (h : Rep K mg S v (.frl ds)) : ∃ a vs, v = .ref a ∧ SqL K S a vs ∧ RepL K mg S vs ds := by
  cases h with
  | frl h hl hi => exact ⟨_, _, rfl, h, hl, hi⟩
theorem Rep.of_tup {v : V} {ds : List D} (h : Rep K mg S v (.tup ds)) : ∃ a vs, v = .ref a ∧ SqT K S a vs ∧ RepL K mg S vs ds := by
  cases h with
  | tup h hl hi => exact ⟨_, _, rfl, h, hl, hi⟩
theorem Rep.of_int {v : V} {i : Int} (h : Rep K mg S v (.int i)) : v = .int i := by cases h; rfl
theorem Rep.of_bl {v : V} {i : Bool} (h : Rep K mg S v (.bl i)) : v = .bl i := by cases h; rfl
theorem Rep.of_str {v : V} {i : Str} (h : Rep K mg S v (.str i)) : v = .str i := by cases h; rfl
theorem Rep.of_non {v : V} (h : Rep K mg S v .non) : v = .non := by cases h; rfl
/-- whole numbers -/
theorem RepL.ints : ∀ {vs : List V} {ns : List Int}, RepL K mg S vs (ns.map D.int) → vs = ns.map V.int
  | [], [], _ => rfl
  | [], _ :: _, h => by have := h.len; simp at this
  | _ :: _, [], h => by have := h.len; simp at this
  | v :: vs, n :: ns, h => by
    have e1 := h.head.of_int
    have e2 := RepL.ints (ns := ns) h.tail
    rw [e1, e2]
    rfl
theorem RepL.bls : ∀ {vs : List V} {ns : List Bool}, RepL K mg S vs (ns.map D.bl) → vs = ns.map V.bl
  | [], [], _ => rfl
  | [], _ :: _, h => by have := h.len; simp at this
  | _ :: _, [], h => by have := h.len; simp at this
  | v :: vs, n :: ns, h => by
    have e1 := h.head.of_bl
    have e2 := RepL.bls (ns := ns) h.tail
    rw [e1, e2]
    rfl
theorem RepL.of_ints : ∀ (ns : List Int), RepL K mg S (ns.map V.int) (ns.map D.int)
  | [] => .nil
  | n :: ns => .cons (.int n) (RepL.of_ints ns)
theorem RepL.of_bls : ∀ (ns : List Bool), RepL K mg S (ns.map V.bl) (ns.map D.bl)
  | [] => .nil
  | n :: ns => .cons (.bl n) (RepL.of_bls ns)
/-! ### views -/
/-- from the view S of H to the view S' of H': all that stood stands; what the view has more is new -/
structure Step (S H S' H' : Hp) : Prop where
  hh : Same H H'
  ss : Same S S'
  sub : Same S' H'
  new : ∀ a, S' a ≠ none → S a ≠ none ∨ H a = none
theorem Step.refl (h : Same S H) : Step S H S H := ⟨Same.refl _, Same.refl _, h, fun _ x => .inl x⟩
theorem Step.trans {S1 H1 S2 H2 : Hp} (a : Step S H S1 H1) (b : Step S1 H1 S2 H2) : Step S H S2 H2 :=
  ⟨a.hh.trans b.hh, a.ss.trans b.ss, b.sub, fun x h => by
    rcases b.new x h with h | h
    · exact a.new x h
    · exact .inr (a.hh.free h)⟩
theorem Same.upd_new {H : Hp} {p : Addr} {o : HO} (h : H p = none) : Same H (upd H p o) := fun b x e => by
  rw [upd_ne (ne_of_none e h)]
  exact e
/-- a new object that the view takes in -/
theorem Step.laid {p : Addr} {o : HO} (h : Same S H) (hp : H p = none) : Step S H (upd S p o) (upd H p o) := by
  have sp : S p = none := h.free hp
  refine ⟨Same.upd_new hp, Same.upd_new sp, fun b x e => ?_, fun a x => ?_⟩
  · by_cases hb : b = p
    · subst hb
      rw [upd_same] at e ⊢
      exact e
    · rw [upd_ne hb] at e ⊢
      exact h b x e
  · by_cases ha : a = p
    · subst ha
      exact .inr hp
    · rw [upd_ne ha] at x
      exact .inl x
/-- a new object that the view does not take in -/
theorem Step.hid {p : Addr} {o : HO} (h : Same S H) (hp : H p = none) : Step S H S (upd H p o) :=
  ⟨Same.upd_new hp, Same.refl _, h.trans (Same.upd_new hp), fun _ x => .inl x⟩
theorem some_of_ne {α : Type} {o : Option α} (h : o ≠ none) : ∃ a, o = some a := by
  cases o with
  | none => exact absurd rfl h
  | some a => exact ⟨a, rfl⟩
theorem Step.out {S H S' H' : Hp} (a : Step S H S' H') {p : Addr} {o : HO} (h : S p = none) (hp : H p = some o) : S' p = none := by
  cases e : S' p with
  | none => rfl
  | some u =>
    rcases a.new p (by rw [e]; exact fun z => nomatch z) with z | z
    · exact absurd h z
    · rw [hp] at z; cases z
end
/-! ### what a slot holds -/
/-- shared data; a list that is the slot's own; an own list of own lists; an own dict (keys ints and texts; tuples) -/
inductive Md where
  | sh | ow | ow2 | dk | dt
  deriving DecidableEq
/-- what v is under the mode, in the view S of H, standing at the addresses fp -/
def OwnAt (K : PySem.W.Frag) (mg : Str → Option Value) (S H : Hp) (fp : List Addr) (v : V) (d : D) : Md → Prop
  | .sh => Rep K mg S v d ∧ fp = []
  | .ow => ∃ p vs ds, v = .ref p ∧ d = .lst ds ∧ fp = [p] ∧ S p = none ∧ H p = some (.lst vs) ∧ RepL K mg S vs ds
  | .ow2 => ∃ (p : Addr) (ps : List Addr) (dss : List (List D)), v = .ref p ∧ d = .lst (dss.map D.lst) ∧ fp = p :: ps ∧ S p = none ∧ H p = some (.lst (ps.map V.ref)) ∧ ps.length = dss.length ∧
      ∀ (j : Nat) (q : Addr) (ds : List D), ps[j]? = some q → dss[j]? = some ds → S q = none ∧ ∃ vs, H q = some (.lst vs) ∧ RepL K mg S vs ds
  | .dk => ∃ (p : Addr) (kvs : List (Key × V)) (ds : List D), v = .ref p ∧ d = .dic (kvs.map (·.1)) ds ∧ fp = [p] ∧ S p = none ∧ H p = some (.dK kvs) ∧ RepL K mg S (kvs.map (·.2)) ds
  | .dt => ∃ (p : Addr) (kvs : List (List Key × V)) (ds : List D), v = .ref p ∧ d = .dit (kvs.map (·.1)) ds ∧ fp = [p] ∧ S p = none ∧ H p = some (.dT kvs) ∧ RepL K mg S (kvs.map (·.2)) ds
section
variable {K : PySem.W.Frag} {mg : Str → Option Value} {S S' H H' : Hp} {fp : List Addr} {v : V} {d : D} {md : Md}
theorem OwnAt.step (a : Step S H S' H') (h : OwnAt K mg S H fp v d md) : OwnAt K mg S' H' fp v d md := by
  cases md with
  | sh => exact ⟨h.1.mono a.ss, h.2⟩
  | ow =>
    obtain ⟨p, vs, ds, e1, e2, e3, e4, e5, e6⟩ := h
    exact ⟨p, vs, ds, e1, e2, e3, a.out e4 e5, a.hh _ _ e5, e6.mono a.ss⟩
  | ow2 =>
    obtain ⟨p, ps, dss, e1, e2, e3, e4, e5, e6, e7⟩ := h
    refine ⟨p, ps, dss, e1, e2, e3, a.out e4 e5, a.hh _ _ e5, e6, fun j q ds x y => ?_⟩
    obtain ⟨z1, vs, z2, z3⟩ := e7 j q ds x y
    exact ⟨a.out z1 z2, vs, a.hh _ _ z2, z3.mono a.ss⟩
  | dk =>
    obtain ⟨p, vs, ds, e1, e2, e3, e4, e5, e6⟩ := h
    exact ⟨p, vs, ds, e1, e2, e3, a.out e4 e5, a.hh _ _ e5, e6.mono a.ss⟩
  | dt =>
    obtain ⟨p, vs, ds, e1, e2, e3, e4, e5, e6⟩ := h
    exact ⟨p, vs, ds, e1, e2, e3, a.out e4 e5, a.hh _ _ e5, e6.mono a.ss⟩
/-- its addresses are tracked, and out of the view -/
theorem OwnAt.out (h : OwnAt K mg S H fp v d md) {a : Addr} (ha : a ∈ fp) : S a = none ∧ ∃ o, H a = some o := by
  cases md with
  | sh => rw [h.2] at ha; cases ha
  | ow =>
    obtain ⟨p, vs, ds, e1, e2, e3, e4, e5, e6⟩ := h
    rw [e3] at ha
    have : a = p := by simpa using ha
    subst this
    exact ⟨e4, _, e5⟩
  | ow2 =>
    obtain ⟨p, ps, dss, e1, e2, e3, e4, e5, e6, e7⟩ := h
    rw [e3] at ha
    rcases List.mem_cons.mp ha with z | z
    · subst z; exact ⟨e4, _, e5⟩
    · obtain ⟨j, hj⟩ := List.mem_iff_getElem?.mp z
      have hl : j < dss.length := by rw [← e6]; exact (List.getElem?_eq_some_iff.mp hj).1
      obtain ⟨z1, vs, z2, _⟩ := e7 j a _ hj (List.getElem?_eq_getElem hl)
      exact ⟨z1, _, z2⟩
  | dk =>
    obtain ⟨p, vs, ds, e1, e2, e3, e4, e5, e6⟩ := h
    rw [e3] at ha
    have : a = p := by simpa using ha
    subst this
    exact ⟨e4, _, e5⟩
  | dt =>
    obtain ⟨p, vs, ds, e1, e2, e3, e4, e5, e6⟩ := h
    rw [e3] at ha
    have : a = p := by simpa using ha
    subst this
    exact ⟨e4, _, e5⟩
/-- another object is written -/
theorem OwnAt.other {p : Addr} {o : HO} (hp : S p = none) (hf : p ∉ fp) (h : OwnAt K mg S H fp v d md) : OwnAt K mg S (upd H p o) fp v d md := by
  cases md with
  | sh => exact h
  | ow =>
    obtain ⟨q, vs, ds, e1, e2, e3, e4, e5, e6⟩ := h
    refine ⟨q, vs, ds, e1, e2, e3, e4, ?_, e6⟩
    rw [upd_ne (fun z => hf (by rw [e3, z]; exact List.mem_cons_self))]
    exact e5
  | ow2 =>
    obtain ⟨q, ps, dss, e1, e2, e3, e4, e5, e6, e7⟩ := h
    refine ⟨q, ps, dss, e1, e2, e3, e4, ?_, e6, fun j r ds x y => ?_⟩
    · rw [upd_ne (fun z => hf (by rw [e3, z]; exact List.mem_cons_self))]
      exact e5
    · obtain ⟨z1, vs, z2, z3⟩ := e7 j r ds x y
      refine ⟨z1, vs, ?_, z3⟩
      rw [upd_ne (fun z => hf (by rw [e3, ← z]; exact List.mem_cons_of_mem _ (List.mem_of_getElem? x)))]
      exact z2
  | dk =>
    obtain ⟨q, vs, ds, e1, e2, e3, e4, e5, e6⟩ := h
    refine ⟨q, vs, ds, e1, e2, e3, e4, ?_, e6⟩
    rw [upd_ne (fun z => hf (by rw [e3, z]; exact List.mem_cons_self))]
    exact e5
  | dt =>
    obtain ⟨q, vs, ds, e1, e2, e3, e4, e5, e6⟩ := h
    refine ⟨q, vs, ds, e1, e2, e3, e4, ?_, e6⟩
    rw [upd_ne (fun z => hf (by rw [e3, z]; exact List.mem_cons_self))]
    exact e5
end
/-- the data of the slots; none: nothing is known of the slot -/
abbrev Env := List (Option D)
abbrev Mds := List Md
def mdAt (m : Mds) (i : Nat) : Md := m.getD i .sh
/-- the slots σ hold the data ρ, each by its mode, standing at F -/
structure EnvF (K : PySem.W.Frag) (mg : Str → Option Value) (m : Mds) (F : Nat → List Addr) (S H : Hp) (σ : St) (ρ : Env) : Prop where
  len : ρ.length = σ.length
  at_ : ∀ i d, ρ[i]? = some (some d) → ∃ v, σ[i]? = some (some v) ∧ OwnAt K mg S H (F i) v d (mdAt m i)
  nd : ∀ i d, ρ[i]? = some (some d) → (F i).Nodup
  apart : ∀ i j d e, i ≠ j → ρ[i]? = some (some d) → ρ[j]? = some (some e) → ∀ a, a ∈ F i → a ∉ F j
def EnvM (K : PySem.W.Frag) (mg : Str → Option Value) (m : Mds) (S H : Hp) (σ : St) (ρ : Env) : Prop := Same S H ∧ ∃ F, EnvF K mg m F S H σ ρ
section
variable {K : PySem.W.Frag} {mg : Str → Option Value} {m : Mds} {F : Nat → List Addr} {S S' H H' : Hp} {σ : St} {ρ : Env}
theorem EnvF.step (a : Step S H S' H') (h : EnvF K mg m F S H σ ρ) : EnvF K mg m F S' H' σ ρ :=
  ⟨h.len, fun i d e => by
    obtain ⟨v, e1, e2⟩ := h.at_ i d e
    exact ⟨v, e1, e2.step a⟩, h.nd, h.apart⟩
theorem EnvM.step (a : Step S H S' H') (h : EnvM K mg m S H σ ρ) : EnvM K mg m S' H' σ ρ := by
  obtain ⟨_, F, h⟩ := h
  exact ⟨a.sub, F, h.step a⟩
end
end Da
namespace Da
open PySem PySem.Spec L2
section
variable {K : PySem.W.Frag} {mg : Str → Option Value} {E : XK} {S S' H H' : Hp}
/-- an own exception: its class, its own dict -/
def ExcAt (K : PySem.W.Frag) (mg : Str → Option Value) (S H : Hp) (cls : Value) (dd : Option Addr) (c : Str) (fs : List (Str × D)) : Prop :=
  mg c = some cls ∧ ((fs = [] ∧ dd = none) ∨ ∃ a vfs, dd = some a ∧ H a = some (.xd vfs) ∧ vfs.map (·.1) = fs.map (·.1) ∧ RepL K mg S (vfs.map (·.2)) (fs.map (·.2)))
/-- what is wanted of a run's end -/
def PostW {α : Type} (K : PySem.W.Frag) (mg : Str → Option Value) (E : XK) (S H : Hp) (r : Res α) (k : α → Hp → Hp → Prop) : Prop := match r with
  | .ok a => ∀ S' H', Step S H S' H' → k a S' H'
  | .ex c fs => ∀ S' H' cls dd, Step S H S' H' → ExcAt K mg S' H' cls dd c fs → E cls dd H'
  | .er => False
/-- .. of a value's -/
def Post (K : PySem.W.Frag) (mg : Str → Option Value) (E : XK) (S H : Hp) (md : Md) (r : Res D) (Q : VK) : Prop := match r with
  | .ok d => ∀ v S' H' fp, Step S H S' H' → OwnAt K mg S' H' fp v d md → fp.Nodup → (∀ a ∈ fp, H a = none) → Q v H'
  | .ex c fs => ∀ S' H' cls dd, Step S H S' H' → ExcAt K mg S' H' cls dd c fs → E cls dd H'
  | .er => False
theorem PostW.step {α : Type} {r : Res α} {k : α → Hp → Hp → Prop} (st : Step S H S' H') (h : PostW K mg E S H r k) : PostW K mg E S' H' r k := by
  cases r with
  | ok a => exact fun S2 H2 s2 => h S2 H2 (st.trans s2)
  | ex c fs => exact fun S2 H2 cls dd s2 => h S2 H2 cls dd (st.trans s2)
  | er => exact h
theorem Post.step {md : Md} {r : Res D} {Q : VK} (st : Step S H S' H') (h : Post K mg E S H md r Q) : Post K mg E S' H' md r Q := by
  cases r with
  | ok a => exact fun v S2 H2 fp s2 o n f => h v S2 H2 fp (st.trans s2) o n fun a ha => st.hh.free (f a ha)
  | ex c fs => exact fun S2 H2 cls dd s2 => h S2 H2 cls dd (st.trans s2)
  | er => exact h
theorem Post.bind {α : Type} {md : Md} {r : Res α} {f : α → Res D} {Q : VK} (h : Post K mg E S H md (r.bind f) Q) : PostW K mg E S H r fun a S1 H1 => Post K mg E S1 H1 md (f a) Q := by
  cases r with
  | ok a => exact fun S2 H2 s2 => Post.step s2 h
  | ex c fs => exact h
  | er => exact h
theorem PostW.bind {α β : Type} {r : Res α} {f : α → Res β} {k : β → Hp → Hp → Prop} (h : PostW K mg E S H (r.bind f) k) : PostW K mg E S H r fun a S1 H1 => PostW K mg E S1 H1 (f a) k := by
  cases r with
  | ok a => exact fun S2 H2 s2 => PostW.step s2 h
  | ex c fs => exact h
  | er => exact h
theorem PostW.imp {α : Type} {r : Res α} {k k' : α → Hp → Hp → Prop} (h : PostW K mg E S H r k) (g : ∀ a S' H', Step S H S' H' → k a S' H' → k' a S' H') : PostW K mg E S H r k' := by
  cases r with
  | ok a => exact fun S2 H2 s2 => g a S2 H2 s2 (h S2 H2 s2)
  | ex c fs => exact h
  | er => exact h
/-- a shared value is handed on -/
theorem PostW.post {r : Res D} {k : D → Hp → Hp → Prop} {Q : VK} (h : PostW K mg E S H r k) (g : ∀ d v S' H', Step S H S' H' → Rep K mg S' v d → k d S' H' → Q v H') : Post K mg E S H .sh r Q := by
  cases r with
  | ok a => exact fun v S2 H2 fp s2 o n f => g a v S2 H2 s2 o.1 (h S2 H2 s2)
  | ex c fs => exact h
  | er => exact h
theorem PostW.postM {md : Md} {r : Res D} {k : D → Hp → Hp → Prop} {Q : VK} (h : PostW K mg E S H r k) (g : ∀ d v S' H' fp, Step S H S' H' → OwnAt K mg S' H' fp v d md → fp.Nodup → (∀ a ∈ fp, H a = none) → k d S' H' → Q v H') : Post K mg E S H md r Q := by
  cases r with
  | ok a => exact fun v S2 H2 fp s2 o n f => g a v S2 H2 fp s2 o n f (h S2 H2 s2)
  | ex c fs => exact h
  | er => exact h
/-- a shared value that stands already -/
theorem Post.val {d : D} {v : V} {Q : VK} (h : Post K mg E S H .sh (.ok d) Q) (hs : Same S H) (r : Rep K mg S v d) : Q v H := h v S H [] (Step.refl hs) ⟨r, rfl⟩ List.nodup_nil (fun a z => nomatch z)
/-- a new list, a new tuple -/
theorem Post.lst {ds : List D} {vs : List V} {p : Addr} {Q : VK} (h : Post K mg E S H .sh (.ok (.lst ds)) Q) (hs : Same S H) (r : RepL K mg S vs ds) (hp : H p = none) : Q (.ref p) (upd H p (.lst vs)) :=
  h _ _ _ [] (Step.laid hs hp) ⟨Rep.lstL upd_same (r.mono (Step.laid hs hp).ss), rfl⟩ List.nodup_nil (fun a z => nomatch z)
theorem Post.tup {ds : List D} {vs : List V} {p : Addr} {Q : VK} (h : Post K mg E S H .sh (.ok (.tup ds)) Q) (hs : Same S H) (r : RepL K mg S vs ds) (hp : H p = none) : Q (.ref p) (upd H p (.tup vs)) :=
  h _ _ _ [] (Step.laid hs hp) ⟨Rep.tupL (.inl (.inl upd_same)) (r.mono (Step.laid hs hp).ss), rfl⟩ List.nodup_nil (fun a z => nomatch z)
/-- a new list that is one's own -/
theorem Post.own {ds : List D} {vs : List V} {p : Addr} {Q : VK} (h : Post K mg E S H .ow (.ok (.lst ds)) Q) (hs : Same S H) (r : RepL K mg S vs ds) (hp : H p = none) : Q (.ref p) (upd H p (.lst vs)) :=
  h _ S _ [p] (Step.hid hs hp) ⟨p, vs, ds, rfl, rfl, rfl, hs.free hp, upd_same, r⟩ (by simp) (fun a z => by
    have : a = p := by simpa using z
    rw [this]; exact hp)
/-- a list, kept or shared -/
theorem Post.list {md : Md} (hmd : md = .sh ∨ md = .ow) {ds : List D} {vs : List V} {p : Addr} {Q : VK} (h : Post K mg E S H md (.ok (.lst ds)) Q) (hs : Same S H) (r : RepL K mg S vs ds) (hp : H p = none) : Q (.ref p) (upd H p (.lst vs)) := by
  rcases hmd with rfl | rfl
  · exact h.lst hs r hp
  · exact h.own hs r hp
end
/-! ### readings -/
def tE (K : PySem.W.Frag) (mg : Str → Option Value) (E : WX) (m : Mds) (md : Md) (f : Env → Res D) : TE := fun σ H Q => ∃ S ρ, EnvM K mg m S H σ ρ ∧ Post K mg (WE E σ) S H md (f ρ) Q
def tT (K : PySem.W.Frag) (mg : Str → Option Value) (E : WX) (m : Mds) (f : Env → Res Bool) : TT := fun σ H Q => ∃ S ρ, EnvM K mg m S H σ ρ ∧ PostW K mg (WE E σ) S H (f ρ) fun b _ H' => Q b H'
def tA (K : PySem.W.Frag) (mg : Str → Option Value) (E : WX) (m : Mds) (f : Env → Res (List D)) : TA := fun σ H Q => ∃ S ρ, EnvM K mg m S H σ ρ ∧ PostW K mg (WE E σ) S H (f ρ) fun ds S' H' => ∀ vs, RepL K mg S' vs ds → Q vs H'
structure JE (X : Cx) (E : WX) (m : Mds) (md : Md) (e : Expr) (f : Env → Res D) : Prop where
  pe : PE X e (tE X.K X.mg E m md f)
structure JT (X : Cx) (E : WX) (m : Mds) (e : Expr) (f : Env → Res Bool) : Prop where
  pt : PT X e (tT X.K X.mg E m f)
structure JW (X : Cx) (E : WX) (m : Mds) (e : Expr) (f : Env → Res Bool) : Prop where
  pw : PW X e (tT X.K X.mg E m f)
structure JA (X : Cx) (E : WX) (m : Mds) (es : List Expr) (f : Env → Res (List D)) : Prop where
  pa : PA X es (tA X.K X.mg E m f)
section
variable {X : Cx} {e : Expr} {es : List Expr}
theorem PEimp {t t' : TE} (h : PE X e t) (g : ∀ σ H Q, t' σ H Q → t σ H Q) : PE X e t' := ⟨fun pins s σ H Q I q => h.run pins s σ H Q I (g σ H Q q)⟩
theorem PTimp {t t' : TT} (h : PT X e t) (g : ∀ σ H Q, t' σ H Q → t σ H Q) : PT X e t' := ⟨fun pins s σ H Q I q => h.run pins s σ H Q I (g σ H Q q)⟩
theorem PWimp {t t' : TT} (h : PW X e t) (g : ∀ σ H Q, t' σ H Q → t σ H Q) : PW X e t' := ⟨fun wh pins s σ H Q I q => h.run wh pins s σ H Q I (g σ H Q q)⟩
theorem PAimp {t t' : TA} (h : PA X es t) (g : ∀ σ H Q, t' σ H Q → t σ H Q) : PA X es t' := ⟨fun pos pins s σ H Q I q => h.run pos pins s σ H Q I (g σ H Q q)⟩
end
def fC (d : D) : Env → Res D := fun _ => .ok d
def fV (i : Nat) : Env → Res D := fun ρ => match ρ[i]? with
  | some (some d) => .ok d
  | _ => .er
def f1 (g : D → Res D) (fa : Env → Res D) : Env → Res D := fun ρ => (fa ρ).bind g
def f2 (g : D → D → Res D) (fa fb : Env → Res D) : Env → Res D := fun ρ => (fa ρ).bind fun x => (fb ρ).bind fun y => g x y
def fA0 : Env → Res (List D) := fun _ => .ok []
def fA (fa : Env → Res D) (fr : Env → Res (List D)) : Env → Res (List D) := fun ρ => (fa ρ).bind fun x => (fr ρ).bind fun xs => .ok (x :: xs)
def fOn (g : List D → Res D) (fa : Env → Res (List D)) : Env → Res D := fun ρ => (fa ρ).bind g
def asB : D → Res Bool
  | .bl b => .ok b
  | _ => .er
/-- an operation on values does what g says -/
def OpD (K : PySem.W.Frag) (mg : Str → Option Value) (md : Md) (r : R2) (g : D → D → Res D) : Prop :=
  ∀ (E : XK) (S H : Hp) (x y : V) (dx dy : D) (Q : VK), Same S H → Rep K mg S x dx → Rep K mg S y dy → Post K mg E S H md (g dx dy) Q → r x y H Q
def UnD (K : PySem.W.Frag) (mg : Str → Option Value) (md : Md) (r : V → Hp → VK → Prop) (g : D → Res D) : Prop :=
  ∀ (E : XK) (S H : Hp) (x : V) (dx : D) (Q : VK), Same S H → Rep K mg S x dx → Post K mg E S H md (g dx) Q → r x H Q
def CallD (K : PySem.W.Frag) (mg : Str → Option Value) (md : Md) (r : List V → Hp → VK → Prop) (g : List D → Res D) : Prop :=
  ∀ (E : XK) (S H : Hp) (xs : List V) (ds : List D) (Q : VK), Same S H → RepL K mg S xs ds → Post K mg E S H md (g ds) Q → r xs H Q
section
variable {X : Cx} {E : WX} {m : Mds} {md : Md} {a b : Expr} {es : List Expr} {fa fb : Env → Res D} {pos : Pos}
theorem two {t : R2} {g : D → D → Res D} {K : PySem.W.Frag} {mg : Str → Option Value} (hr : OpD K mg md t g) {σ : L2.St} {H : Hp} {Q : VK} (h : tE K mg E m md (f2 g fa fb) σ H Q) : tOp t (tE K mg E m .sh fa) (tE K mg E m .sh fb) σ H Q := by
  obtain ⟨S, ρ, hm, hp⟩ := h
  refine ⟨S, ρ, hm, (Post.bind hp).post fun dx v S1 H1 s1 r1 h1 => ?_⟩
  exact ⟨S1, ρ, hm.step s1, (Post.bind h1).post fun dy w S2 H2 s2 r2 h2 => hr _ S2 H2 v w dx dy Q s2.sub (r1.mono s2.ss) r2 h2⟩
theorem one {t : V → Hp → VK → Prop} {g : D → Res D} {K : PySem.W.Frag} {mg : Str → Option Value} (hr : UnD K mg md t g) {σ : L2.St} {H : Hp} {Q : VK} (h : tE K mg E m md (f1 g fa) σ H Q) : tUn t (tE K mg E m .sh fa) σ H Q := by
  obtain ⟨S, ρ, hm, hp⟩ := h
  exact ⟨S, ρ, hm, (Post.bind hp).post fun dx v S1 H1 s1 r1 h1 => hr _ S1 H1 v dx Q s1.sub r1 h1⟩
theorem je_op {op : Operator} {r : R2} {g : D → D → Res D} (ho : OpR X (binaryOp op) r) (hr : OpD X.K X.mg md r g) (ha : JE X E m .sh a fa) (hb : JE X E m .sh b fb) : JE X E m md (.BinOp a op b pos) (f2 g fa fb) :=
  ⟨PEimp (pe_op ho ha.pe hb.pe) fun σ H Q h => two hr h⟩
theorem je_un {op : UnaryOp} {r : V → Hp → VK → Prop} {g : D → Res D} (ho : UnR X (unaryOp op) r) (hr : UnD X.K X.mg md r g) (ha : JE X E m .sh a fa) : JE X E m md (.UnaryOp op a pos) (f1 g fa) :=
  ⟨PEimp (pe_un ho ha.pe) fun σ H Q h => one hr h⟩
theorem je_cmp {op : CmpOp} {r : R2} {g : D → D → Res D} (ho : OpR X (compareOp op) r) (hr : OpD X.K X.mg .sh r g) (ha : JE X E m .sh a fa) (hb : JE X E m .sh b fb) (hm : behindInMarks op b = false := by rfl) : JE X E m .sh (.Compare a [op] [b] pos) (f2 g fa fb) :=
  ⟨PEimp (pe_cmpR ho ha.pe hb.pe hm) fun σ H Q h => two hr h⟩
theorem je_ix {r : R2} {g : D → D → Res D} (ho : IxR X r) (hr : OpD X.K X.mg .sh r g) (ha : JE X E m .sh a fa) (hb : JE X E m .sh b fb) (hs : PlainIx b := by intro _ _; rfl) : JE X E m .sh (.Subscript a b pos) (f2 g fa fb) :=
  ⟨PEimp (pe_ix ho ha.pe hb.pe hs) fun σ H Q h => two hr h⟩
/-- a value that is a bool, as a test -/
def fB (f : Env → Res D) : Env → Res Bool := fun ρ => (f ρ).bind asB
theorem jt_val (h : JE X E m .sh a fa) (he : ∀ whole, isTrue a X.env whole = (do let v ← whole; standAt a.pos; holding [v] (truthy v)) := by intro _; rfl) : JT X E m a (fB fa) := by
  refine ⟨PTimp (pt_val h.pe he) fun σ H Q h => ?_⟩
  obtain ⟨S, ρ, hm, hp⟩ := h
  refine ⟨S, ρ, hm, (PostW.bind hp).post fun d v S1 H1 s1 r1 h1 => ?_⟩
  cases d with
  | bl c =>
    cases r1
    exact ⟨c, rfl, h1 S1 H1 (Step.refl s1.sub)⟩
  | _ => exact h1.elim
theorem jt_cmp {op : CmpOp} {r : R2} {g : D → D → Res D} (ho : OpR X (compareOp op) r) (hr : OpD X.K X.mg .sh r g) (ha : JE X E m .sh a fa) (hb : JE X E m .sh b fb) (hm : behindInMarks op b = false := by rfl) : JT X E m (.Compare a [op] [b] pos) (fB (f2 g fa fb)) := by
  refine ⟨PTimp (pt_cmpR ho ha.pe hb.pe hm) fun σ H Q h => ?_⟩
  obtain ⟨S, ρ, hm, hp⟩ := h
  have k : tE X.K X.mg E m .sh (f2 g fa fb) σ H fun x H' => ∃ k, x = .bl k ∧ Q k H' := by
    refine ⟨S, ρ, hm, (PostW.bind hp).post fun d v S1 H1 s1 r1 h1 => ?_⟩
    cases d with
    | bl c =>
      cases r1
      exact ⟨c, rfl, h1 S1 H1 (Step.refl s1.sub)⟩
    | _ => exact h1.elim
  exact two hr k
/-! names, constants -/
theorem je_int {i : Int} {j} : JE X E m .sh (.Constant (.int i) j pos) (fC (.int i)) := ⟨PEimp pe_int fun σ H Q h => by obtain ⟨S, ρ, hm, hp⟩ := h; exact Post.val hp hm.1 (.int i)⟩
theorem je_bl {i : Bool} {j} : JE X E m .sh (.Constant (.bool i) j pos) (fC (.bl i)) := ⟨PEimp pe_bl fun σ H Q h => by obtain ⟨S, ρ, hm, hp⟩ := h; exact Post.val hp hm.1 (.bl i)⟩
theorem je_non {j} : JE X E m .sh (.Constant .none j pos) (fC .non) := ⟨PEimp pe_non fun σ H Q h => by obtain ⟨S, ρ, hm, hp⟩ := h; exact Post.val hp hm.1 .non⟩
theorem je_str {x : Str} {j} : JE X E m .sh (.Constant (.str x) j pos) (fC (.str x)) := ⟨PEimp pe_str fun σ H Q h => by obtain ⟨S, ρ, hm, hp⟩ := h; exact Post.val hp hm.1 (.str x)⟩
/-- a name whose data are shared -/
theorem je_var (i : Nat) {x : Str} (hmd : mdAt m i = .sh := by rfl) (hN : X.N[i]? = some x := by rfl) (hv : Vis X.env.scope x := by first | exact Or.inl rfl | exact Or.inr (Or.inl rfl) | exact Or.inr (Or.inr rfl)) (hd : (x == ("__debug__" : Str)) = false := by decide)
    (hcd : (x == ("__classdict__" : Str)) = false := by decide) : JE X E m .sh (.Name x pos) (fV i) := by
  refine ⟨PEimp (pe_var hN hv hd hcd) fun σ H Q h => ?_⟩
  obtain ⟨S, ρ, ⟨hs, F, hm⟩, hp⟩ := h
  unfold fV at hp
  split at hp
  · rename_i d e
    obtain ⟨v, e1, e2⟩ := hm.at_ i d e
    rw [hmd] at e2
    exact ⟨v, e1, hp.val hs e2.1⟩
  · exact hp.elim
/-! argument lists, displays -/
theorem ja_nil : JA X E m [] fA0 := ⟨PAimp pa_nil fun σ H Q h => by obtain ⟨S, ρ, hm, hp⟩ := h; exact hp S H (Step.refl hm.1) [] .nil⟩
theorem ja_cons {fr : Env → Res (List D)} (ha : JE X E m .sh a fa) (hr : JA X E m es fr) (hs : starEach (a :: es) X.env = (false, eval a X.env) :: starEach es X.env := by rfl) : JA X E m (a :: es) (fA fa fr) := by
  refine ⟨PAimp (pa_cons ha.pe hr.pa hs) fun σ H Q h => ?_⟩
  obtain ⟨S, ρ, hm, hp⟩ := h
  refine ⟨S, ρ, hm, (PostW.bind hp).post fun d v S1 H1 s1 r1 h1 => ?_⟩
  refine ⟨S1, ρ, hm.step s1, (PostW.bind h1).imp fun ds S2 H2 s2 h2 vs rs => ?_⟩
  exact h2 S2 H2 (Step.refl s2.sub) (v :: vs) (.cons (r1.mono s2.ss) rs)
def gTupD (ds : List D) : Res D := if ds.length ≤ 100000 then .ok (.tup ds) else .er
def gLstD (ds : List D) : Res D := if ds.length ≤ 100000 then .ok (.lst ds) else .er
theorem small5 {n : Nat} (h : n ≤ 100000) : n ≤ sizeLine := by rw [sizeLine_eq]; omega
theorem je_tup {fr : Env → Res (List D)} {x1} (h : JA X E m es fr) : JE X E m .sh (.Tuple es x1 pos) (fOn gTupD fr) := by
  refine ⟨PEimp (pe_tup h.pa) fun σ H Q h => ?_⟩
  obtain ⟨S, ρ, hm, hp⟩ := h
  refine ⟨S, ρ, hm, (Post.bind hp).imp fun ds S1 H1 s1 h1 vs rs => ?_⟩
  unfold gTupD at h1
  split at h1
  · rename_i hz
    exact ⟨by rw [rs.len]; exact small5 hz, fun p hp => h1.tup s1.sub rs hp⟩
  · exact h1.elim
theorem je_lst {fr : Env → Res (List D)} (h : JA X E m es fr) (hmd : md = .sh ∨ md = .ow := by first | exact .inl rfl | exact .inr rfl) : JE X E m md (.List es pos) (fOn gLstD fr) := by
  refine ⟨PEimp (pe_lst h.pa) fun σ H Q h => ?_⟩
  obtain ⟨S, ρ, hm, hp⟩ := h
  refine ⟨S, ρ, hm, (Post.bind hp).imp fun ds S1 H1 s1 h1 vs rs => ?_⟩
  unfold gLstD at h1
  split at h1
  · rename_i hz
    exact ⟨by rw [rs.len]; exact small5 hz, fun p hp => h1.list hmd s1.sub rs hp⟩
  · exact h1.elim
/-! and, or, not -/
def fAnd (fa fb : Env → Res Bool) : Env → Res Bool := fun ρ => (fa ρ).bind fun c => if c = true then fb ρ else .ok false
def fOr (fa fb : Env → Res Bool) : Env → Res Bool := fun ρ => (fa ρ).bind fun c => if c = true then .ok true else fb ρ
def fNot (fa : Env → Res Bool) : Env → Res Bool := fun ρ => (fa ρ).bind fun c => .ok (!c)
def fIf (fc : Env → Res Bool) (fa fb : Env → Res D) : Env → Res D := fun ρ => (fc ρ).bind fun c => if c = true then fa ρ else fb ρ
variable {ga gb gc : Env → Res Bool} {c : Expr} {rest : List Expr}
theorem JW.jt (h : JW X E m a ga) : JT X E m a ga := ⟨h.pw.pt⟩
theorem jw_and1 (ha : JT X E m a ga) : JW X E m (.BoolOp .And [a] pos) ga := ⟨pw_and1 ha.pt⟩
theorem jw_or1 (ha : JT X E m a ga) : JW X E m (.BoolOp .Or [a] pos) ga := ⟨pw_or1 ha.pt⟩
theorem and_ok {K : PySem.W.Frag} {mg : Str → Option Value} {σ : L2.St} {H : Hp} {Q : Bool → Hp → Prop} (h : tT K mg E m (fAnd ga gb) σ H Q) : tAnd (tT K mg E m ga) (tT K mg E m gb) σ H Q := by
  obtain ⟨S, ρ, hm, hp⟩ := h
  refine ⟨S, ρ, hm, (PostW.bind hp).imp fun d S1 H1 s1 h1 => ?_⟩
  cases d with
  | true => exact ⟨S1, ρ, hm.step s1, h1⟩
  | false => exact h1 S1 H1 (Step.refl s1.sub)
theorem or_ok {K : PySem.W.Frag} {mg : Str → Option Value} {σ : L2.St} {H : Hp} {Q : Bool → Hp → Prop} (h : tT K mg E m (fOr ga gb) σ H Q) : tOr (tT K mg E m ga) (tT K mg E m gb) σ H Q := by
  obtain ⟨S, ρ, hm, hp⟩ := h
  refine ⟨S, ρ, hm, (PostW.bind hp).imp fun d S1 H1 s1 h1 => ?_⟩
  cases d with
  | false => exact ⟨S1, ρ, hm.step s1, h1⟩
  | true => exact h1 S1 H1 (Step.refl s1.sub)
theorem jw_and (ha : JT X E m a ga) (hb : JW X E m (.BoolOp .And (b :: rest) pos) gb) : JW X E m (.BoolOp .And (a :: b :: rest) pos) (fAnd ga gb) :=
  ⟨PWimp (pw_and ha.pt hb.pw) fun σ H Q h => and_ok h⟩
theorem jw_or (ha : JT X E m a ga) (hb : JW X E m (.BoolOp .Or (b :: rest) pos) gb) : JW X E m (.BoolOp .Or (a :: b :: rest) pos) (fOr ga gb) :=
  ⟨PWimp (pw_or ha.pt hb.pw) fun σ H Q h => or_ok h⟩
theorem jt_not (ha : JT X E m a ga) : JT X E m (.UnaryOp .Not a pos) (fNot ga) := by
  refine ⟨PTimp (pt_not ha.pt) fun σ H Q h => ?_⟩
  obtain ⟨S, ρ, hm, hp⟩ := h
  exact ⟨S, ρ, hm, (PostW.bind hp).imp fun d S1 H1 s1 h1 => h1 S1 H1 (Step.refl s1.sub)⟩
/-- as values: all are bools -/
def fBv (f : Env → Res Bool) : Env → Res D := fun ρ => (f ρ).bind fun b => .ok (.bl b)
theorem je_and (ha : JE X E m .sh a fa) (hb : JE X E m .sh (.BoolOp .And (b :: rest) pos) (fBv gb)) : JE X E m .sh (.BoolOp .And (a :: b :: rest) pos) (fBv (fAnd (fB fa) gb)) := by
  refine ⟨PEimp (pe_and ha.pe hb.pe) fun σ H Q h => ?_⟩
  obtain ⟨S, ρ, hm, hp⟩ := h
  refine ⟨S, ρ, hm, (PostW.bind (PostW.bind (Post.bind hp))).post fun d v S1 H1 s1 r1 h1 => ?_⟩
  cases d with
  | bl c =>
    cases r1
    refine ⟨c, rfl, ?_⟩
    have h1 := h1 S1 H1 (Step.refl s1.sub)
    cases c with
    | true =>
      refine ⟨S1, ρ, hm.step s1, ?_⟩
      show Post _ _ _ _ _ _ ((gb ρ).bind _) Q
      revert h1
      show PostW _ _ _ _ _ (gb ρ) _ → _
      cases gb ρ with
      | ok x => exact fun h1 => h1 S1 H1 (Step.refl s1.sub)
      | ex c fs => exact fun h1 => h1
      | er => exact fun h1 => h1
    | false =>
      have h2 := h1 S1 H1 (Step.refl s1.sub)
      exact Post.val h2 s1.sub (.bl false)
  | _ => exact h1.elim
theorem je_or (ha : JE X E m .sh a fa) (hb : JE X E m .sh (.BoolOp .Or (b :: rest) pos) (fBv gb)) : JE X E m .sh (.BoolOp .Or (a :: b :: rest) pos) (fBv (fOr (fB fa) gb)) := by
  refine ⟨PEimp (pe_or ha.pe hb.pe) fun σ H Q h => ?_⟩
  obtain ⟨S, ρ, hm, hp⟩ := h
  refine ⟨S, ρ, hm, (PostW.bind (PostW.bind (Post.bind hp))).post fun d v S1 H1 s1 r1 h1 => ?_⟩
  cases d with
  | bl c =>
    cases r1
    refine ⟨c, rfl, ?_⟩
    have h1 := h1 S1 H1 (Step.refl s1.sub)
    cases c with
    | false =>
      refine ⟨S1, ρ, hm.step s1, ?_⟩
      show Post _ _ _ _ _ _ ((gb ρ).bind _) Q
      revert h1
      show PostW _ _ _ _ _ (gb ρ) _ → _
      cases gb ρ with
      | ok x => exact fun h1 => h1 S1 H1 (Step.refl s1.sub)
      | ex c fs => exact fun h1 => h1
      | er => exact fun h1 => h1
    | true =>
      have h2 := h1 S1 H1 (Step.refl s1.sub)
      exact Post.val h2 s1.sub (.bl true)
  | _ => exact h1.elim
/-- the last one -/
theorem je_last {op} (ha : JE X E m .sh a fa) : JE X E m .sh (.BoolOp op [a] pos) (fBv (fB fa)) := by
  refine ⟨PEimp (pe_one ha.pe) fun σ H Q h => ?_⟩
  obtain ⟨S, ρ, hm, hp⟩ := h
  refine ⟨S, ρ, hm, (PostW.bind (Post.bind hp)).post fun d v S1 H1 s1 r1 h1 => ?_⟩
  cases d with
  | bl c => exact Post.val (h1 S1 H1 (Step.refl s1.sub)) s1.sub r1
  | _ => exact h1.elim
theorem je_not (ha : JE X E m .sh a fa) : JE X E m .sh (.UnaryOp .Not a pos) (fBv (fNot (fB fa))) := by
  refine ⟨PEimp (pe_not ha.pe) fun σ H Q h => ?_⟩
  obtain ⟨S, ρ, hm, hp⟩ := h
  refine ⟨S, ρ, hm, (PostW.bind (PostW.bind (Post.bind hp))).post fun d v S1 H1 s1 r1 h1 => ?_⟩
  cases d with
  | bl c =>
    cases r1
    exact ⟨c, rfl, Post.val (h1 S1 H1 (Step.refl s1.sub) S1 H1 (Step.refl s1.sub)) s1.sub (.bl _)⟩
  | _ => exact h1.elim
theorem je_if (hc : JT X E m c gc) (ha : JE X E m md a fa) (hb : JE X E m md b fb) : JE X E m md (.IfExp c a b pos) (fIf gc fa fb) := by
  refine ⟨PEimp (pe_ifExp hc.pt ha.pe hb.pe) fun σ H Q h => ?_⟩
  obtain ⟨S, ρ, hm, hp⟩ := h
  refine ⟨S, ρ, hm, (Post.bind hp).imp fun d S1 H1 s1 h1 => ?_⟩
  cases d with
  | true => exact ⟨S1, ρ, hm.step s1, h1⟩
  | false => exact ⟨S1, ρ, hm.step s1, h1⟩
end
end Da
namespace Da
open PySem PySem.Spec L2
/-! ### operators, by what they do to data -/
def dI (c : Int → Int → Bool) (g : Int → Int → Int) : D → D → Res D
  | .int i, .int j => if c i j = true then .ok (.int (g i j)) else .er
  | _, _ => .er
def dP (p : Int → Int → Bool) : D → D → Res D
  | .int i, .int j => .ok (.bl (p i j))
  | _, _ => .er
def yes2 (_ _ : Int) : Bool := true
def mulOk (i j : Int) : Bool := stuck (i.natAbs.log2 + j.natAbs.log2 < 1000000)
theorem mulOk_yes {i j : Int} (h : i.natAbs.log2 + j.natAbs.log2 < 1000000) : mulOk i j = true := stuck_iff.mpr h
theorem mulOk_lt {i j : Int} (h : mulOk i j = true) : i.natAbs.log2 + j.natAbs.log2 < 1000000 := stuck_iff.mp h
def divOk (_ j : Int) : Bool := stuck (j ≠ 0 ∧ j.natAbs.log2 < 9000)
def modOk (_ j : Int) : Bool := decide (j ≠ 0)
def powOk (i j : Int) : Bool := stuck (0 ≤ j ∧ j ≤ 1000000 ∧ i.natAbs < 18446744073709551616)
def shrOk (_ j : Int) : Bool := decide (0 ≤ j)
section
variable {K : PySem.W.Frag} {mg : Str → Option Value} {E : XK} {S S' H H' : Hp}
theorem opd_I {C : Int → Int → Prop} {g : Int → Int → Int} {c : Int → Int → Bool} (hc : ∀ i j, c i j = true → C i j) : OpD K mg .sh (rI C fun i j => .int (g i j)) (dI c g) := by
  intro E S H x y dx dy Q hs rx ry h
  cases dx with
  | int i =>
    cases dy with
    | int j =>
      simp only [dI] at h
      split at h
      · rename_i hcc
        cases rx; cases ry
        exact ⟨i, j, rfl, rfl, hc i j hcc, h.val hs (.int _)⟩
      · exact h.elim
    | _ => exact h.elim
  | _ => exact h.elim
theorem opd_I0 {g : Int → Int → Int} : OpD K mg .sh (rI0 fun i j => .int (g i j)) (dI yes2 g) := by
  intro E S H x y dx dy Q hs rx ry h
  cases dx with
  | int i =>
    cases dy with
    | int j =>
      cases rx; cases ry
      exact ⟨i, j, rfl, rfl, Post.val h hs (.int _)⟩
    | _ => exact h.elim
  | _ => exact h.elim
theorem opd_P {p : Int → Int → Bool} : OpD K mg .sh (rI0 fun i j => .bl (p i j)) (dP p) := by
  intro E S H x y dx dy Q hs rx ry h
  cases dx with
  | int i =>
    cases dy with
    | int j =>
      cases rx; cases ry
      exact ⟨i, j, rfl, rfl, Post.val h hs (.bl _)⟩
    | _ => exact h.elim
  | _ => exact h.elim
end
section
variable {X : Cx}
def CDivX (_ j : Int) : Prop := j ≠ 0 ∧ j.natAbs.log2 < 9000
theorem op_fdivX : OpR X (binaryOp .FloorDiv) (rI CDivX fun i j => .int (i.fdiv j)) :=
  opI fun _ _ _ _ _ _ _ hc q => PyProof.Rows.floordiv_int hc.1 q (.inl (PyProof.noPylong_of_log2 hc.2))
end
section
variable {X : Cx} {E : WX} {m : Mds} {md : Md} {a b : Expr} {es : List Expr} {fa fb : Env → Res D} {pos : Pos}
def dSub := dI yes2 (fun i j => i - j)
def dMul := dI mulOk (fun i j => i * j)
def dDiv := dI divOk (fun i j => i.fdiv j)
def dMod := dI modOk (fun i j => i.fmod j)
def dPow := dI powOk (fun i j => i ^ j.toNat)
def dShl := dI powOk (fun i j => i * 2 ^ j.toNat)
def dShr := dI shrOk (fun i j => i / 2 ^ j.toNat)
def dBitAnd := dI yes2 (fun i j => Builtin.bitAnd i j)
def dBitOr := dI yes2 (fun i j => Builtin.bitOr i j)
def dBitXor := dI yes2 (fun i j => Builtin.bitXor i j)
def dLt := dP (fun i j => decide (i < j))
def dLe := dP (fun i j => decide (i ≤ j))
def dGt := dP (fun i j => decide (j < i))
def dGe := dP (fun i j => decide (j ≤ i))
theorem je_sub (ha : JE X E m .sh a fa) (hb : JE X E m .sh b fb) : JE X E m .sh (.BinOp a .Sub b pos) (f2 dSub fa fb) := je_op op_sub opd_I0 ha hb
theorem je_mulI (ha : JE X E m .sh a fa) (hb : JE X E m .sh b fb) : JE X E m .sh (.BinOp a .Mult b pos) (f2 dMul fa fb) := je_op op_mulW (opd_I fun i j h => mulOk_lt h) ha hb
theorem je_div (ha : JE X E m .sh a fa) (hb : JE X E m .sh b fb) : JE X E m .sh (.BinOp a .FloorDiv b pos) (f2 dDiv fa fb) := je_op op_fdivX (opd_I fun i j h => stuck_iff.mp h) ha hb
theorem je_mod (ha : JE X E m .sh a fa) (hb : JE X E m .sh b fb) : JE X E m .sh (.BinOp a .Mod b pos) (f2 dMod fa fb) := je_op op_modN (opd_I fun i j h => of_decide_eq_true h) ha hb
theorem powOk_ok {i j : Int} (h : powOk i j = true) : CPow i j := by
  obtain ⟨h1, h2, h3⟩ := stuck_iff.mp h
  exact ⟨h1, h2, by
    show i.natAbs < 2 ^ 64
    omega⟩
theorem je_pow (ha : JE X E m .sh a fa) (hb : JE X E m .sh b fb) : JE X E m .sh (.BinOp a .Pow b pos) (f2 dPow fa fb) := je_op op_pow (opd_I fun i j h => powOk_ok h) ha hb
theorem je_shl (ha : JE X E m .sh a fa) (hb : JE X E m .sh b fb) : JE X E m .sh (.BinOp a .LShift b pos) (f2 dShl fa fb) := je_op op_shl (opd_I fun i j h => powOk_ok h) ha hb
theorem je_shr (ha : JE X E m .sh a fa) (hb : JE X E m .sh b fb) : JE X E m .sh (.BinOp a .RShift b pos) (f2 dShr fa fb) := je_op op_shr (opd_I fun i j h => of_decide_eq_true h) ha hb
theorem je_bitand (ha : JE X E m .sh a fa) (hb : JE X E m .sh b fb) : JE X E m .sh (.BinOp a .BitAnd b pos) (f2 dBitAnd fa fb) := je_op op_and opd_I0 ha hb
theorem je_bitor (ha : JE X E m .sh a fa) (hb : JE X E m .sh b fb) : JE X E m .sh (.BinOp a .BitOr b pos) (f2 dBitOr fa fb) := je_op op_or opd_I0 ha hb
theorem je_bitxor (ha : JE X E m .sh a fa) (hb : JE X E m .sh b fb) : JE X E m .sh (.BinOp a .BitXor b pos) (f2 dBitXor fa fb) := je_op op_xor opd_I0 ha hb
def dNeg : D → Res D
  | .int i => .ok (.int (-i))
  | _ => .er
theorem je_neg (ha : JE X E m .sh a fa) : JE X E m .sh (.UnaryOp .USub a pos) (f1 dNeg fa) := je_un un_neg (fun E S H x dx Q hs rx h => by
  cases dx with
  | int i =>
    cases rx
    exact ⟨i, rfl, Post.val h hs (.int _)⟩
  | _ => exact h.elim) ha
/-! comparisons of whole numbers -/
theorem jt_lt (ha : JE X E m .sh a fa) (hb : JE X E m .sh b fb) : JT X E m (.Compare a [.Lt] [b] pos) (fB (f2 dLt fa fb)) := jt_cmp op_lt opd_P ha hb (nomark _)
theorem jt_le (ha : JE X E m .sh a fa) (hb : JE X E m .sh b fb) : JT X E m (.Compare a [.LtE] [b] pos) (fB (f2 dLe fa fb)) := jt_cmp op_le opd_P ha hb (nomark _)
theorem jt_gt (ha : JE X E m .sh a fa) (hb : JE X E m .sh b fb) : JT X E m (.Compare a [.Gt] [b] pos) (fB (f2 dGt fa fb)) := jt_cmp op_gt opd_P ha hb (nomark _)
theorem jt_ge (ha : JE X E m .sh a fa) (hb : JE X E m .sh b fb) : JT X E m (.Compare a [.GtE] [b] pos) (fB (f2 dGe fa fb)) := jt_cmp op_ge opd_P ha hb (nomark _)
theorem je_lt (ha : JE X E m .sh a fa) (hb : JE X E m .sh b fb) : JE X E m .sh (.Compare a [.Lt] [b] pos) (f2 dLt fa fb) := je_cmp op_lt opd_P ha hb (nomark _)
theorem je_le (ha : JE X E m .sh a fa) (hb : JE X E m .sh b fb) : JE X E m .sh (.Compare a [.LtE] [b] pos) (f2 dLe fa fb) := je_cmp op_le opd_P ha hb (nomark _)
theorem je_gt (ha : JE X E m .sh a fa) (hb : JE X E m .sh b fb) : JE X E m .sh (.Compare a [.Gt] [b] pos) (f2 dGt fa fb) := je_cmp op_gt opd_P ha hb (nomark _)
theorem je_ge (ha : JE X E m .sh a fa) (hb : JE X E m .sh b fb) : JE X E m .sh (.Compare a [.GtE] [b] pos) (f2 dGe fa fb) := je_cmp op_ge opd_P ha hb (nomark _)
end
/-! ### + of all kinds -/
def szOk (n : Nat) : Bool := stuck (n ≤ 1000000)
theorem szOk_yes {n : Nat} (h : n ≤ 1000000) : szOk n = true := stuck_iff.mpr h
theorem szOk_le {n : Nat} (h : szOk n = true) : n ≤ 1000000 := stuck_iff.mp h
theorem szOk_ok {n : Nat} (h : szOk n = true) : n ≤ sizeLine := by
  have := szOk_le h
  rw [sizeLine_eq]; omega
def dAdd : D → D → Res D
  | .int i, .int j => .ok (.int (i + j))
  | .lst a, .lst b => if szOk (a.length + b.length) = true then .ok (.lst (a ++ b)) else .er
  | .tup a, .tup b => if szOk (a.length + b.length) = true then .ok (.tup (a ++ b)) else .er
  | .str a, .str b => if szOk (a.length + b.length) = true then .ok (.str (a ++ b)) else .er
  | _, _ => .er
def dAddL : D → D → Res D
  | .lst a, .lst b => if szOk (a.length + b.length) = true then .ok (.lst (a ++ b)) else .er
  | _, _ => .er
abbrev rStrAdd : R2 := fun x y H Q => ∃ i j, x = .str i ∧ y = .str j ∧ i.length + j.length ≤ sizeLine ∧ Q (.str (i ++ j)) H
def rAddAll (K : PySem.W.Frag) : R2 := fun x y H Q => ((rI0 fun i j => .int (i + j)) x y H Q ∨ rCat x y H Q) ∨ (rCatA K x y H Q ∨ rStrAdd x y H Q)
section
variable {K : PySem.W.Frag} {mg : Str → Option Value} {X : Cx} {E : WX} {m : Mds} {md : Md} {a b : Expr} {es : List Expr} {fa fb : Env → Res D} {pos : Pos}
theorem op_addAll : OpR X (binaryOp .Add) (rAddAll X.K) := OpR.or (OpR.or op_add op_cat) (OpR.or op_catA op_add_str)
theorem Post.lstOf {md : Md} {E : XK} {S H : Hp} {ds : List D} {c : Bool} {Q : VK} (hmd : md = .sh ∨ md = .ow) (h : Post K mg E S H md (if c = true then .ok (.lst ds) else .er) Q) : c = true ∧ Post K mg E S H md (.ok (.lst ds)) Q := by
  split at h
  · rename_i hc; exact ⟨hc, h⟩
  · exact h.elim
theorem Post.of_if {md : Md} {E : XK} {S H : Hp} {r : Res D} {c : Bool} {Q : VK} (h : Post K mg E S H md (if c = true then r else .er) Q) : c = true ∧ Post K mg E S H md r Q := by
  split at h
  · rename_i hc; exact ⟨hc, h⟩
  · exact h.elim
theorem RepL.nil_iff {S : Hp} {vs : List V} {ds : List D} (r : RepL K mg S vs ds) : vs = [] ↔ ds = [] := by
  have := r.len
  constructor
  · intro h; subst h; exact List.eq_nil_of_length_eq_zero this.symm
  · intro h; subst h; exact List.eq_nil_of_length_eq_zero this
theorem catL {E : XK} {S H : Hp} {x y : V} {da db : List D} {Q : VK} (hmd : md = .sh ∨ md = .ow) (hs : Same S H) (rx : Rep K mg S x (.lst da)) (ry : Rep K mg S y (.lst db)) (h : Post K mg E S H md (if szOk (da.length + db.length) = true then .ok (.lst (da ++ db)) else .er) Q) : rCat x y H Q := by
  obtain ⟨hz, h⟩ := h.of_if
  obtain ⟨a, vs, rfl, ha, ra⟩ := rx.of_lst
  obtain ⟨b, ws, rfl, hb, rb⟩ := ry.of_lst
  exact ⟨a, b, vs, ws, rfl, rfl, hs _ _ ha, hs _ _ hb, by rw [ra.len, rb.len]; exact szOk_ok hz, fun p hp => h.list hmd hs (ra.append rb) hp⟩
theorem opd_add : OpD K mg .sh (rAddAll K) dAdd := by
  intro E S H x y dx dy Q hs rx ry h
  cases dx with
  | int i =>
    cases dy with
    | int j =>
      cases rx; cases ry
      exact .inl (.inl ⟨i, j, rfl, rfl, Post.val h hs (.int _)⟩)
    | _ => exact h.elim
  | str i =>
    cases dy with
    | str j =>
      obtain ⟨hz, h⟩ := Post.of_if h
      cases rx; cases ry
      exact .inr (.inr ⟨i, j, rfl, rfl, szOk_ok hz, Post.val h hs (.str _)⟩)
    | _ => exact h.elim
  | lst da =>
    cases dy with
    | lst db => exact .inl (.inr (catL (.inl rfl) hs rx ry h))
    | _ => exact h.elim
  | tup da =>
    cases dy with
    | tup db =>
      obtain ⟨hz, h⟩ := Post.of_if h
      obtain ⟨a, vs, rfl, ha, ra⟩ := rx.of_tup
      obtain ⟨b, ws, rfl, hb, rb⟩ := ry.of_tup
      refine .inr (.inl ⟨a, b, vs, ws, rfl, rfl, same_t hs ha, same_t hs hb, by rw [ra.len, rb.len]; exact szOk_ok hz, fun e => ?_, fun e1 e2 => ?_, fun _ _ p hp => h.tup hs (ra.append rb) hp⟩)
      · have e' := ra.nil_iff.mp e
        subst e'
        exact h.val hs ry
      · have e' := rb.nil_iff.mp e2
        subst e'
        rw [List.append_nil] at h
        exact h.val hs rx
    | _ => exact h.elim
  | _ => exact h.elim
theorem opd_addL : OpD K mg .ow (rAddAll K) dAddL := by
  intro E S H x y dx dy Q hs rx ry h
  cases dx with
  | lst da =>
    cases dy with
    | lst db => exact .inl (.inr (catL (.inr rfl) hs rx ry h))
    | _ => exact h.elim
  | _ => exact h.elim
theorem je_add (ha : JE X E m .sh a fa) (hb : JE X E m .sh b fb) : JE X E m .sh (.BinOp a .Add b pos) (f2 dAdd fa fb) := je_op op_addAll opd_add ha hb
theorem je_addL (ha : JE X E m .sh a fa) (hb : JE X E m .sh b fb) : JE X E m .ow (.BinOp a .Add b pos) (f2 dAddL fa fb) := je_op op_addAll opd_addL ha hb
end
/-! ### an item by its place -/
def dIx : D → D → Res D
  | .lst xs, .int i => match atI xs i with
    | some d => .ok d
    | none => .er
  | .frl xs, .int i => match atI xs i with
    | some d => .ok d
    | none => .er
  | .tup xs, .int i => match atI xs i with
    | some d => .ok d
    | none => .er
  | .str x, .int i => if szOk x.length = true then (match atI x.cps.toList i with
    | some c => .ok (.str ⟨#[c]⟩)
    | none => .er) else .er
  | _, _ => .er
section
variable {K : PySem.W.Frag} {mg : Str → Option Value} {X : Cx} {E : WX} {m : Mds} {md : Md} {a b : Expr} {es : List Expr} {fa fb : Env → Res D} {pos : Pos}
theorem RepL.atI {S : Hp} {vs : List V} {ds : List D} {i : Int} {d : D} (r : RepL K mg S vs ds) (h : L2.atI ds i = some d) : ∃ v, L2.atI vs i = some v ∧ Rep K mg S v d := by
  unfold L2.atI at h ⊢
  rw [r.len]
  cases e : ixN ds.length i with
  | none => rw [e] at h; cases h
  | some j =>
    rw [e] at h
    exact r.get h
theorem opd_ix : OpD K mg .sh (rIx K) dIx := by
  intro E S H x y dx dy Q hs rx ry h
  cases dx with
  | lst xs =>
    cases dy with
    | int i =>
      cases ry
      simp only [dIx] at h
      split at h
      · rename_i d e
        obtain ⟨p, vs, rfl, hp, rv⟩ := rx.of_lst
        obtain ⟨v, ev, r⟩ := rv.atI e
        exact .inl ⟨p, vs, i, v, rfl, rfl, .inl (.inl (hs _ _ hp)), ev, h.val hs r⟩
      · exact h.elim
    | _ => exact h.elim
  | frl xs =>
    cases dy with
    | int i =>
      cases ry
      simp only [dIx] at h
      split at h
      · rename_i d e
        obtain ⟨p, vs, rfl, hp, rv⟩ := rx.of_frl
        obtain ⟨v, ev, r⟩ := rv.atI e
        exact .inl ⟨p, vs, i, v, rfl, rfl, same_l hs hp, ev, h.val hs r⟩
      · exact h.elim
    | _ => exact h.elim
  | tup xs =>
    cases dy with
    | int i =>
      cases ry
      simp only [dIx] at h
      split at h
      · rename_i d e
        obtain ⟨p, vs, rfl, hp, rv⟩ := rx.of_tup
        obtain ⟨v, ev, r⟩ := rv.atI e
        exact .inr (.inl ⟨p, vs, i, v, rfl, rfl, same_t hs hp, ev, h.val hs r⟩)
      · exact h.elim
    | _ => exact h.elim
  | str z =>
    cases dy with
    | int i =>
      cases ry
      simp only [dIx] at h
      obtain ⟨hz, h⟩ := Post.of_if h
      split at h
      · rename_i c e
        cases rx
        exact .inr (.inr ⟨z, i, c, rfl, rfl, szOk_ok hz, e, h.val hs (.str _)⟩)
      · exact h.elim
    | _ => exact h.elim
  | _ => exact h.elim
theorem je_item (ha : JE X E m .sh a fa) (hb : JE X E m .sh b fb) (hs : PlainIx b := by intro _ _; rfl) : JE X E m .sh (.Subscript a b pos) (f2 dIx fa fb) := je_ix ix_seq opd_ix ha hb hs
end
/-! ### built-ins, called by name -/
section
variable {K : PySem.W.Frag} {mg : Str → Option Value} {X : Cx} {E : WX} {m : Mds} {md : Md} {a b e : Expr} {es : List Expr} {fa fb : Env → Res D} {fs : Env → Res (List D)} {pos p : Pos} {x : Str} {id T : String} {r : List V → Hp → VK → Prop} {g : List D → Res D}
theorem call1 {K : PySem.W.Frag} {mg : Str → Option Value} (hr : CallD K mg md r g) {σ : L2.St} {H : Hp} {Q : VK} (h : tE K mg E m md (fOn g fs) σ H Q) : tCB r (tA K mg E m fs) σ H Q := by
  obtain ⟨S, ρ, hm, hp⟩ := h
  exact ⟨S, ρ, hm, (Post.bind hp).imp fun ds S1 H1 s1 h1 vs rs => hr _ S1 H1 vs ds Q s1.sub rs h1⟩
theorem je_callB (hc : CallR X (.builtin id) r) (hr : CallD X.K X.mg md r g) (hm : X.mg x = none) (ha : JA X E m (e :: es) fs) (hg : Gl X x := by rfl) (hv : bootBuiltins x = some (.builtin id) := by decide +kernel)
    (hn : x ≠ "__name__" := by decide) (hdb : (x == ("__debug__" : Str)) = false := by decide) (he : starEach (e :: es) X.env = (false, eval e X.env) :: starEach es X.env := by rfl) (hpl : (backTo pos (starEach es X.env)).any (·.1) = false := by rfl) :
    JE X E m md (.Call (.Name x p) (e :: es) [] pos) (fOn g fs) := ⟨PEimp (pe_callB hc hg hm hv ha.pa hn hdb he hpl) fun σ H Q h => call1 hr h⟩
theorem je_callTy (hc : CallR X (.type T) r) (hr : CallD X.K X.mg md r g) (hm : X.mg x = none) (ha : JA X E m (e :: es) fs) (hg : Gl X x := by rfl) (hv : bootBuiltins x = some (.type T) := by decide +kernel)
    (hn : x ≠ "__name__" := by decide) (hdb : (x == ("__debug__" : Str)) = false := by decide) (he : starEach (e :: es) X.env = (false, eval e X.env) :: starEach es X.env := by rfl) (hpl : (backTo pos (starEach es X.env)).any (·.1) = false := by rfl) :
    JE X E m md (.Call (.Name x p) (e :: es) [] pos) (fOn g fs) := ⟨PEimp (pe_callTy hc hg hm hv ha.pa hn hdb he hpl) fun σ H Q h => call1 hr h⟩
end
end Da
namespace Da
open PySem PySem.Spec L2
/-! ### statements: what a run of a block ends with -/
inductive Fl where
  | nx (ρ : Env) | rt (d : D) | bk (ρ : Env) | ct (ρ : Env) | xc (c : Str) (fs : List (Str × D)) (ρ : Env)
abbrev FS := Env → Res Fl
/-- an expression's end, in a statement -/
def lift {α : Type} (r : Res α) (ρ : Env) (k : α → Res Fl) : Res Fl := match r with
  | .ok a => k a
  | .ex c fs => .ok (.xc c fs ρ)
  | .er => .er
@[simp] theorem lift_ok {α : Type} (a : α) (ρ : Env) (k : α → Res Fl) : lift (.ok a) ρ k = k a := rfl
@[simp] theorem lift_ex {α : Type} (c : Str) (fs : List (Str × D)) (ρ : Env) (k : α → Res Fl) : lift (.ex c fs : Res α) ρ k = .ok (.xc c fs ρ) := rfl
@[simp] theorem lift_er {α : Type} (ρ : Env) (k : α → Res Fl) : lift (.er : Res α) ρ k = .er := rfl
section
variable {K : PySem.W.Frag} {mg : Str → Option Value} {m m1 m2 : Mds} {S0 H0 S S1 S' H H' H1 : Hp} {σ σ' : L2.St} {ρ : Env} {F : Nat → List Addr}
/-- the state of a body that was entered with the view S0 of H0 -/
def StF (K : PySem.W.Frag) (mg : Str → Option Value) (m : Mds) (S0 H0 S : Hp) (F : Nat → List Addr) (σ : L2.St) (ρ : Env) (H : Hp) : Prop :=
  Step S0 H0 S H ∧ EnvF K mg m F S H σ ρ ∧ ∀ i d, ρ[i]? = some (some d) → ∀ a, a ∈ F i → H0 a = none
def StM (K : PySem.W.Frag) (mg : Str → Option Value) (m : Mds) (S0 H0 : Hp) (σ : L2.St) (ρ : Env) (H : Hp) : Prop := ∃ S F, StF K mg m S0 H0 S F σ ρ H
theorem StF.envM (h : StF K mg m S0 H0 S F σ ρ H) : EnvM K mg m S H σ ρ := ⟨h.1.sub, F, h.2.1⟩
theorem StF.step (h : StF K mg m S0 H0 S F σ ρ H) (s : Step S H S' H') : StF K mg m S0 H0 S' F σ ρ H' := ⟨h.1.trans s, h.2.1.step s, h.2.2⟩
/-- the entry moved to the present view, and back -/
theorem Step.fwd (h : Step S0 H0 S H) : Step S H0 S H := ⟨h.hh, Same.refl _, h.sub, fun _ x => .inl x⟩
theorem Step.back (h : Step S0 H0 S H) (k : Step S H0 S' H') : Step S0 H0 S' H' := ⟨k.hh, h.ss.trans k.ss, k.sub, fun a x => by
  rcases k.new a x with z | z
  · exact h.new a z
  · exact .inr z⟩
/-- a value handed out of a body -/
def RetOk (K : PySem.W.Frag) (mg : Str → Option Value) (S0 H0 : Hp) (md : Md) (d : D) (v : V) (H : Hp) : Prop := ∃ S fp, Step S0 H0 S H ∧ OwnAt K mg S H fp v d md ∧ fp.Nodup ∧ ∀ a, a ∈ fp → H0 a = none
/-- the ends of the loop around, what a return hands out -/
structure Lp where
  mb : Mds := []
  mc : Mds := []
  md : Md := .sh
/-- all slots shared -/
def SPost (K : PySem.W.Frag) (mg : Str → Option Value) (E : WX) (L : Lp) (S0 H0 : Hp) (m' : Mds) (o : Res Fl) (Dn : Ends) : Prop := match o with
  | .ok (.nx ρ) => ∀ σ H, StM K mg m' S0 H0 σ ρ H → Dn.nx σ H
  | .ok (.rt d) => ∀ v H, RetOk K mg S0 H0 L.md d v H → Dn.rt v H
  | .ok (.bk ρ) => ∀ σ H, StM K mg L.mb S0 H0 σ ρ H → Dn.bk σ H
  | .ok (.ct ρ) => ∀ σ H, StM K mg L.mc S0 H0 σ ρ H → Dn.ct σ H
  | .ok (.xc c fs ρ) => ∀ σ S F H cls dd, StF K mg [] S0 H0 S F σ ρ H → ExcAt K mg S H cls dd c fs → E cls dd σ H
  | .ex _ _ => False
  | .er => False
def tS (K : PySem.W.Frag) (mg : Str → Option Value) (E : WX) (L : Lp) (m m' : Mds) (F : FS) : TS := fun Dn σ H => ∃ S0 H0 ρ, StM K mg m S0 H0 σ ρ H ∧ SPost K mg E L S0 H0 m' (F ρ) Dn
/-! slots let go of what is theirs -/
/-- what lies at the addresses A is taken into the view -/
noncomputable def take (S H : Hp) (A : Addr → Prop) : Hp := open Classical in fun a => if A a then H a else S a
theorem take_in {A : Addr → Prop} {a : Addr} (h : A a) : take S H A a = H a := by unfold take; rw [if_pos h]
theorem take_out {A : Addr → Prop} {a : Addr} (h : ¬ A a) : take S H A a = S a := by unfold take; rw [if_neg h]
theorem take_same {A : Addr → Prop} (h : Same S H) (ho : ∀ a, A a → S a = none) : Same S (take S H A) := fun a o e => by
  rw [take_out (fun z => by rw [ho a z] at e; cases e)]
  exact e
theorem take_sub {A : Addr → Prop} (h : Same S H) : Same (take S H A) H := fun a o e => by
  by_cases z : A a
  · rw [take_in z] at e; exact e
  · rw [take_out z] at e; exact h a o e
theorem OwnAt.shared {A : Addr → Prop} {fp : List Addr} {v : V} {d : D} {md : Md} (h : OwnAt K mg S H fp v d md) (hs : Same S H) (ho : ∀ a, A a → S a = none) (hA : ∀ a, a ∈ fp → A a) : Rep K mg (take S H A) v d := by
  have ss := take_same (A := A) hs ho
  cases md with
  | sh => exact h.1.mono ss
  | ow =>
    obtain ⟨p, vs, ds, rfl, rfl, e3, e4, e5, e6⟩ := h
    exact Rep.lstL (by rw [take_in (hA p (by rw [e3]; exact List.mem_cons_self))]; exact e5) (e6.mono ss)
  | ow2 =>
    obtain ⟨p, ps, dss, rfl, rfl, e3, e4, e5, e6, e7⟩ := h
    refine Rep.lstL (vs := ps.map V.ref) (by rw [take_in (hA p (by rw [e3]; exact List.mem_cons_self))]; exact e5) ⟨by rw [List.length_map, List.length_map, e6], fun i v d a b => ?_⟩
    rw [List.getElem?_map] at a b
    cases ea : ps[i]? with
    | none => rw [ea] at a; cases a
    | some q =>
      cases eb : dss[i]? with
      | none => rw [eb] at b; cases b
      | some ds =>
        rw [ea] at a; rw [eb] at b
        cases a; cases b
        obtain ⟨z1, vs, z2, z3⟩ := e7 i q ds ea eb
        exact Rep.lstL (by rw [take_in (hA q (by rw [e3]; exact List.mem_cons_of_mem _ (List.mem_of_getElem? ea)))]; exact z2) (z3.mono ss)
  | dk =>
    obtain ⟨p, kvs, ds, rfl, rfl, e3, e4, e5, e6⟩ := h
    have e6' := e6.mono ss
    refine Rep.dic (by rw [take_in (hA p (by rw [e3]; exact List.mem_cons_self))]; exact e5) (by have := e6.len; rw [List.length_map] at this; exact this) fun i q d a b => ?_
    exact e6'.at_ i q.2 d (by rw [List.getElem?_map, a]; rfl) b
  | dt =>
    obtain ⟨p, kvs, ds, rfl, rfl, e3, e4, e5, e6⟩ := h
    have e6' := e6.mono ss
    refine Rep.dit (by rw [take_in (hA p (by rw [e3]; exact List.mem_cons_self))]; exact e5) (by have := e6.len; rw [List.length_map] at this; exact this) fun i q d a b => ?_
    exact e6'.at_ i q.2 d (by rw [List.getElem?_map, a]; rfl) b
/-- an owner whose addresses are not taken stays -/
theorem OwnAt.stays {A : Addr → Prop} {fp : List Addr} {v : V} {d : D} {md : Md} (h : OwnAt K mg S H fp v d md) (hs : Same S H) (ho : ∀ a, A a → S a = none) (hA : ∀ a, a ∈ fp → ¬ A a) : OwnAt K mg (take S H A) H fp v d md := by
  have ss := take_same (A := A) hs ho
  cases md with
  | sh => exact ⟨h.1.mono ss, h.2⟩
  | ow =>
    obtain ⟨p, vs, ds, e1, e2, e3, e4, e5, e6⟩ := h
    exact ⟨p, vs, ds, e1, e2, e3, by rw [take_out (hA p (by rw [e3]; exact List.mem_cons_self))]; exact e4, e5, e6.mono ss⟩
  | ow2 =>
    obtain ⟨p, ps, dss, e1, e2, e3, e4, e5, e6, e7⟩ := h
    refine ⟨p, ps, dss, e1, e2, e3, by rw [take_out (hA p (by rw [e3]; exact List.mem_cons_self))]; exact e4, e5, e6, fun j q ds x y => ?_⟩
    obtain ⟨z1, vs, z2, z3⟩ := e7 j q ds x y
    exact ⟨by rw [take_out (hA q (by rw [e3]; exact List.mem_cons_of_mem _ (List.mem_of_getElem? x)))]; exact z1, vs, z2, z3.mono ss⟩
  | dk =>
    obtain ⟨p, vs, ds, e1, e2, e3, e4, e5, e6⟩ := h
    exact ⟨p, vs, ds, e1, e2, e3, by rw [take_out (hA p (by rw [e3]; exact List.mem_cons_self))]; exact e4, e5, e6.mono ss⟩
  | dt =>
    obtain ⟨p, vs, ds, e1, e2, e3, e4, e5, e6⟩ := h
    exact ⟨p, vs, ds, e1, e2, e3, by rw [take_out (hA p (by rw [e3]; exact List.mem_cons_self))]; exact e4, e5, e6.mono ss⟩
/-- m1 has no more of one's own than m -/
def Weak (m m1 : Mds) : Prop := ∀ i, mdAt m1 i = mdAt m i ∨ mdAt m1 i = .sh
theorem Weak.nil (m : Mds) : Weak m [] := fun i => .inr (by unfold mdAt; simp)
theorem Weak.refl (m : Mds) : Weak m m := fun i => .inl rfl
theorem Weak.of : ∀ {m m1 : Mds}, (m.length = m1.length ∧ (m.zip m1).all (fun p => decide (p.2 = p.1) || decide (p.2 = .sh)) = true) → Weak m m1 := by
  intro m m1 h i
  obtain ⟨hl, h⟩ := h
  unfold mdAt
  by_cases hi : i < m.length
  · have hi1 : i < m1.length := by omega
    have := List.all_eq_true.mp h (m[i], m1[i]) (by
      refine List.mem_iff_getElem.mpr ⟨i, by rw [List.length_zip]; omega, ?_⟩
      rw [List.getElem_zip])
    rw [List.getD_eq_getElem?_getD, List.getD_eq_getElem?_getD, List.getElem?_eq_getElem hi, List.getElem?_eq_getElem hi1]
    rcases Bool.or_eq_true_iff.mp this with z | z
    · exact .inl (of_decide_eq_true z)
    · exact .inr (of_decide_eq_true z)
  · refine .inr ?_
    rw [List.getD_eq_getElem?_getD, List.getElem?_eq_none_iff.mpr (by omega)]
    rfl
theorem StF.weak (w : Weak m m1) (h : StF K mg m S0 H0 S F σ ρ H) : ∃ S' F', StF K mg m1 S0 H0 S' F' σ ρ H ∧ Same S S' := by
  obtain ⟨st, e, nw⟩ := h
  let A : Addr → Prop := fun a => ∃ i d, ρ[i]? = some (some d) ∧ mdAt m1 i = .sh ∧ a ∈ F i
  have ho : ∀ a, A a → S a = none := fun a ⟨i, d, e1, _, e3⟩ => by
    obtain ⟨v, _, o⟩ := e.at_ i d e1
    exact (o.out e3).1
  let F' : Nat → List Addr := fun i => if mdAt m1 i = .sh then [] else F i
  refine ⟨take S H A, F', ⟨⟨st.hh, st.ss.trans (take_same st.sub ho), take_sub st.sub, fun a x => ?_⟩, ⟨e.len, fun i d e1 => ?_, fun i d e1 => ?_, fun i j d d' hij e1 e2 a ha => ?_⟩, fun i d e1 a ha => ?_⟩, take_same st.sub ho⟩
  · by_cases z : A a
    · obtain ⟨i, d, e1, _, e3⟩ := z
      exact .inr (nw i d e1 a e3)
    · rw [take_out z] at x
      exact st.new a x
  · obtain ⟨v, e2, o⟩ := e.at_ i d e1
    refine ⟨v, e2, ?_⟩
    by_cases hsh : mdAt m1 i = .sh
    · rw [hsh]
      refine ⟨o.shared st.sub ho fun a ha => ⟨i, d, e1, hsh, ha⟩, ?_⟩
      show (if mdAt m1 i = .sh then [] else F i) = []
      rw [if_pos hsh]
    · rcases w i with z | z
      · rw [z]
        have : F' i = F i := if_neg hsh
        rw [this]
        refine o.stays st.sub ho fun a ha ⟨j, d', e1', e3', e4'⟩ => ?_
        by_cases hij : i = j
        · subst hij; exact hsh e3'
        · exact e.apart i j d d' hij e1 e1' a ha e4'
      · exact absurd z hsh
  · show (if mdAt m1 i = .sh then [] else F i).Nodup
    split
    · exact List.nodup_nil
    · exact e.nd i d e1
  · have ha' : a ∈ (if mdAt m1 i = .sh then [] else F i) := ha
    show a ∉ (if mdAt m1 j = .sh then [] else F j)
    split at ha'
    · cases ha'
    · split
      · exact fun z => nomatch z
      · exact e.apart i j d d' hij e1 e2 a ha'
  · have ha' : a ∈ (if mdAt m1 i = .sh then [] else F i) := ha
    split at ha'
    · cases ha'
    · exact nw i d e1 a ha'
theorem StM.weak (w : Weak m m1) (h : StM K mg m S0 H0 σ ρ H) : StM K mg m1 S0 H0 σ ρ H := by
  obtain ⟨S, F, h⟩ := h
  obtain ⟨S', F', h', _⟩ := h.weak w
  exact ⟨S', F', h'⟩
/-! a slot is stored -/
def F_set (F : Nat → List Addr) (i : Nat) (fp : List Addr) : Nat → List Addr := fun j => if j = i then fp else F j
theorem F_at {i : Nat} {fp : List Addr} : F_set F i fp i = fp := if_pos rfl
theorem F_off {i j : Nat} {fp : List Addr} (h : j ≠ i) : F_set F i fp j = F j := if_neg h
theorem mdAt_set {i j : Nat} {md : Md} (hi : i < m.length) : mdAt (m.set i md) j = if j = i then md else mdAt m j := by
  unfold mdAt
  rw [List.getD_eq_getElem?_getD, List.getElem?_set]
  by_cases h : j = i
  · rw [if_pos h.symm, if_pos h, if_pos hi]
    rfl
  · rw [if_neg (fun z => h z.symm), if_neg h, List.getD_eq_getElem?_getD]
theorem StF.set {i : Nat} {d : D} {v : V} {md : Md} {fp : List Addr} (h : StF K mg m S0 H0 S F σ ρ H) (hi : i < m.length) (o : OwnAt K mg S H fp v d md) (hn : fp.Nodup) (hf : ∀ a, a ∈ fp → H0 a = none)
    (hd : ∀ j e, j ≠ i → ρ[j]? = some (some e) → ∀ a, a ∈ F j → a ∉ fp) : StF K mg (m.set i md) S0 H0 S (F_set F i fp) (σ.set i (some v)) (ρ.set i (some d)) H := by
  obtain ⟨st, e, nw⟩ := h
  have key : ∀ j d', (ρ.set i (some d))[j]? = some (some d') → (j = i ∧ d' = d ∧ i < ρ.length) ∨ (j ≠ i ∧ ρ[j]? = some (some d')) := fun j d' ej => by
    by_cases hj : j = i
    · subst hj
      rw [List.getElem?_set, if_pos rfl] at ej
      split at ej
      · rename_i hl
        have : d = d' := by injection ej with z; injection z
        exact .inl ⟨rfl, this.symm, hl⟩
      · cases ej
    · rw [List.getElem?_set_ne (Ne.symm hj)] at ej
      exact .inr ⟨hj, ej⟩
  refine ⟨st, ⟨by rw [List.length_set, List.length_set]; exact e.len, fun j d' ej => ?_, fun j d' ej => ?_, fun j k d1 d2 hjk e1 e2 a ha => ?_⟩, fun j d' ej a ha => ?_⟩
  · rcases key j d' ej with ⟨rfl, rfl, hl⟩ | ⟨hj, ej'⟩
    · refine ⟨v, ?_, ?_⟩
      · rw [List.getElem?_set_self (by rw [← e.len]; exact hl)]
      · rw [mdAt_set hi, if_pos rfl, F_at]
        exact o
    · obtain ⟨w, e1, o1⟩ := e.at_ j d' ej'
      refine ⟨w, by rw [List.getElem?_set_ne (Ne.symm hj)]; exact e1, ?_⟩
      rw [mdAt_set hi, if_neg hj, F_off hj]
      exact o1
  · rcases key j d' ej with ⟨rfl, rfl, hl⟩ | ⟨hj, ej'⟩
    · rw [F_at]; exact hn
    · rw [F_off hj]; exact e.nd j d' ej'
  · rcases key j d1 e1 with ⟨rfl, rfl, hl⟩ | ⟨hj, ej⟩
    · rw [F_at] at ha
      rcases key k d2 e2 with ⟨z, _, _⟩ | ⟨hk, ek⟩
      · exact absurd z.symm hjk
      · rw [F_off hk]
        exact fun z => hd k d2 hk ek a z ha
    · rw [F_off hj] at ha
      rcases key k d2 e2 with ⟨rfl, _, _⟩ | ⟨hk, ek⟩
      · rw [F_at]
        exact hd j d1 hj ej a ha
      · rw [F_off hk]
        exact e.apart j k d1 d2 hjk ej ek a ha
  · rcases key j d' ej with ⟨rfl, rfl, hl⟩ | ⟨hj, ej'⟩
    · rw [F_at] at ha; exact hf a ha
    · rw [F_off hj] at ha; exact nw j d' ej' a ha
/-- a slot is forgotten -/
theorem StF.forget {i : Nat} (h : StF K mg m S0 H0 S F σ ρ H) : StF K mg m S0 H0 S F σ (ρ.set i none) H := by
  obtain ⟨st, e, nw⟩ := h
  have key : ∀ j d', (ρ.set i none)[j]? = some (some d') → ρ[j]? = some (some d') := fun j d' ej => by
    by_cases hj : j = i
    · subst hj
      rw [List.getElem?_set, if_pos rfl] at ej
      split at ej
      · cases ej
      · cases ej
    · rw [List.getElem?_set_ne (Ne.symm hj)] at ej
      exact ej
  exact ⟨st, ⟨by rw [List.length_set]; exact e.len, fun j d' ej => e.at_ j d' (key j d' ej), fun j d' ej => e.nd j d' (key j d' ej), fun j k d1 d2 hjk e1 e2 => e.apart j k d1 d2 hjk (key j d1 e1) (key k d2 e2)⟩, fun j d' ej => nw j d' (key j d' ej)⟩
end
end Da
namespace Da
open PySem PySem.Spec L2
structure JS (X : Cx) (E : WX) (L : Lp) (m m' : Mds) (st : Stmt) (F : FS) : Prop where
  ps : PS X st (tS X.K X.mg E L m m' F)
structure JSs (X : Cx) (E : WX) (L : Lp) (m m' : Mds) (st : List Stmt) (F : FS) : Prop where
  ps : PSs X st (tS X.K X.mg E L m m' F)
def fNext : FS := fun ρ => .ok (.nx ρ)
def fSeq (F G : FS) : FS := fun ρ => match F ρ with
  | .ok (.nx ρ') => G ρ'
  | o => o
def fSet (i : Nat) (f : Env → Res D) : FS := fun ρ => lift (f ρ) ρ fun d => .ok (.nx (ρ.set i (some d)))
def fRet (f : Env → Res D) : FS := fun ρ => lift (f ρ) ρ fun d => .ok (.rt d)
def fRetN : FS := fun _ => .ok (.rt .non)
def fIfS (c : Env → Res Bool) (F G : FS) : FS := fun ρ => lift (c ρ) ρ fun b => if b = true then F ρ else G ρ
def fDrop (f : Env → Res D) : FS := fun ρ => lift (f ρ) ρ fun _ => .ok (.nx ρ)
def fBrk : FS := fun ρ => .ok (.bk ρ)
def fCnt : FS := fun ρ => .ok (.ct ρ)
section
variable {K : PySem.W.Frag} {mg : Str → Option Value} {m m1 m2 : Mds} {S0 H0 S S1 S' H H' H1 : Hp} {σ σ' : L2.St} {ρ : Env} {F : Nat → List Addr} {E : WX} {L : Lp} {Dn : Ends} {α : Type}
/-- an expression in a statement -/
theorem lift_post {r : Res α} {k : α → Res Fl} (h : StF K mg m S0 H0 S F σ ρ H) (p : SPost K mg E L S0 H0 m2 (lift r ρ k) Dn) : PostW K mg (WE E σ) S H r fun a S1 H1 => SPost K mg E L S0 H0 m2 (k a) Dn := by
  cases r with
  | ok a => exact fun S1 H1 s1 => p
  | ex c fs =>
    intro S1 H1 cls dd s1 x
    obtain ⟨S2, F2, h2, ss⟩ := (h.step s1).weak (Weak.nil m)
    refine p σ S2 F2 H1 cls dd h2 ⟨x.1, ?_⟩
    rcases x.2 with z | ⟨a, vfs, e1, e2, e3, e4⟩
    · exact .inl z
    · exact .inr ⟨a, vfs, e1, e2, e3, e4.mono ss⟩
  | er => exact p.elim
theorem StF.stM (h : StF K mg m S0 H0 S F σ ρ H) : StM K mg m S0 H0 σ ρ H := ⟨S, F, h⟩
/-- what is handed out of a pure expression -/
theorem RetOk.of {md : Md} {fp : List Addr} {v : V} {d : D} (st : Step S0 H0 S H) (s : Step S H S1 H1) (o : OwnAt K mg S1 H1 fp v d md) (hn : fp.Nodup) (hf : ∀ a, a ∈ fp → H a = none) : RetOk K mg S0 H0 md d v H1 :=
  ⟨S1, fp, st.trans s, o, hn, fun a ha => st.hh.free (hf a ha)⟩
theorem SPost.next {ρ' : Env} (p : SPost K mg E L S0 H0 m2 (.ok (.nx ρ')) Dn) (h : StM K mg m2 S0 H0 σ ρ' H) : Dn.nx σ H := p σ H h
end
section
variable {X : Cx} {E : WX} {L : Lp} {m m1 m2 m' : Mds} {md : Md} {st : Stmt} {sts rest : List Stmt} {e a b : Expr} {f fa fb : Env → Res D} {c : Expr} {g : Env → Res Bool} {F G : FS} {pos : Pos} {x : Str}
theorem PSsimp {t t' : TS} (h : PSs X sts t) (k : ∀ D σ H, t' D σ H → t D σ H) : PSs X sts t' := ⟨fun pins s σ H D I q => h.run pins s σ H D I (k D σ H q)⟩
theorem PSimp {t t' : TS} (h : PS X st t) (k : ∀ D σ H, t' D σ H → t D σ H) : PS X st t' := ⟨fun pins s σ H D I q => h.run pins s σ H D I (k D σ H q)⟩
theorem js_nil : JSs X E L m m [] fNext := ⟨PSsimp pss_nil fun D σ H h => by
  obtain ⟨S0, H0, ρ, st, p⟩ := h
  exact p σ H st⟩
theorem seq_ok {K : PySem.W.Frag} {mg : Str → Option Value} {D : Ends} {σ : L2.St} {H : Hp} (h : tS K mg E L m m2 (fSeq F G) D σ H) : tSeq (tS K mg E L m m1 F) (tS K mg E L m1 m2 G) D σ H := by
  obtain ⟨S0, H0, ρ, st, p⟩ := h
  refine ⟨S0, H0, ρ, st, ?_⟩
  unfold fSeq at p
  cases h : F ρ with
  | ok o =>
    rw [h] at p
    cases o with
    | nx ρ' => exact fun σ' H' st' => ⟨S0, H0, ρ', st', p⟩
    | rt d => exact p
    | bk ρ' => exact p
    | ct ρ' => exact p
    | xc c fs ρ' => exact p
  | ex c fs => rw [h] at p; exact p
  | er => rw [h] at p; exact p
theorem js_cons (h1 : JS X E L m m1 st F) (h2 : JSs X E L m1 m2 rest G) : JSs X E L m m2 (st :: rest) (fSeq F G) := ⟨PSsimp (pss_cons h1.ps h2.ps) fun D σ H h => seq_ok h⟩
theorem js_one (h1 : JS X E L m m1 st F) : JSs X E L m m1 [st] F := ⟨pss_one h1.ps⟩
/-- a slot is shared from here on -/
theorem js_weak (h : JSs X E L m1 m2 sts F) (w : Weak m m1 := by exact Weak.of (by decide)) : JSs X E L m m2 sts F := ⟨PSsimp h.ps fun D σ H q => by
  obtain ⟨S0, H0, ρ, st, p⟩ := q
  exact ⟨S0, H0, ρ, st.weak w, p⟩⟩
theorem js_weak1 (h : JS X E L m1 m2 st F) (w : Weak m m1 := by exact Weak.of (by decide)) : JS X E L m m2 st F := ⟨PSimp h.ps fun D σ H q => by
  obtain ⟨S0, H0, ρ, st, p⟩ := q
  exact ⟨S0, H0, ρ, st.weak w, p⟩⟩
theorem SPost.weak {K : PySem.W.Frag} {mg : Str → Option Value} {S0 H0 : Hp} {o : Res Fl} {Dn : Ends} (w : Weak m1 m2) (p : SPost K mg E L S0 H0 m2 o Dn) : SPost K mg E L S0 H0 m1 o Dn := by
  cases o with
  | ok o =>
    cases o with
    | nx ρ' => exact fun σ' H' st' => p σ' H' (st'.weak w)
    | rt d => exact p
    | bk ρ' => exact p
    | ct ρ' => exact p
    | xc c fs ρ' => exact p
  | ex c fs => exact p
  | er => exact p
/-- .. behind a block -/
theorem js_end (h : JSs X E L m m1 sts F) (w : Weak m1 m2 := by exact Weak.of (by decide)) : JSs X E L m m2 sts F := ⟨PSsimp h.ps fun D σ H q => by
  obtain ⟨S0, H0, ρ, st, p⟩ := q
  exact ⟨S0, H0, ρ, st, p.weak w⟩⟩
/-- code that is never come to -/
theorem js_never : JS X E L m m' st (fun _ => .er) := ⟨PSimp ps_never fun D σ H h => by
  obtain ⟨S0, H0, ρ, st, p⟩ := h
  exact p⟩
/-- a block behind which nothing goes on: the modes behind it are any -/
theorem jss_never : JSs X E L m m' sts (fun _ => .er) := ⟨PSsimp pss_never fun D σ H h => by
  obtain ⟨S0, H0, ρ, st, p⟩ := h
  exact p⟩
theorem js_set (i : Nat) {pos' : Pos} (he : JE X E m md e f) (hN : X.N.Nodup) (hl : i < m.length := by decide) (hi : X.N[i]? = some x := by rfl) (hx : Loc X.env.scope x := by first | exact Or.inl rfl | exact Or.inr rfl)
    (hs : swapsWith e (some (.Name x pos')) pos.line X.env = pure false := by rfl) (hf : X.fn x = true ∨ X.env.scope.names.lookup x = some .local := by first | exact .inl rfl | exact .inr rfl) :
    JS X E L m (m.set i md) (.Assign [.Name x pos'] e pos) (fSet i f) := by
  refine ⟨PSimp (ps_set hN hi hx he.pe hs hf) fun D σ H h => ?_⟩
  obtain ⟨S0, H0, ρ, ⟨S, Fp, st⟩, p⟩ := h
  refine ⟨S, ρ, st.envM, (lift_post st p).postM fun d v S1 H1 fp s1 o hn hf k => ?_⟩
  refine k _ _ (StF.stM ((st.step s1).set hl o hn (fun a ha => st.1.hh.free (hf a ha)) fun j e' hj ej a ha z => ?_))
  obtain ⟨w, _, o'⟩ := st.2.1.at_ j e' ej
  obtain ⟨_, u, hu⟩ := o'.out ha
  rw [hf a z] at hu
  cases hu
theorem js_ret (he : JE X E m L.md e f) : JS X E L m m' (.Return (some e) pos) (fRet f) := by
  refine ⟨PSimp (ps_ret he.pe) fun D σ H h => ?_⟩
  obtain ⟨S0, H0, ρ, ⟨S, Fp, st⟩, p⟩ := h
  refine ⟨S, ρ, st.envM, (lift_post st p).postM fun d v S1 H1 fp s1 o hn hf k => ?_⟩
  exact k v H1 (RetOk.of st.1 s1 o hn hf)
/-- an own thing is handed out -/
theorem js_retV (i : Nat) (hmd : mdAt m i = L.md := by rfl) (hN : X.N[i]? = some x := by rfl) (hv : Vis X.env.scope x := by first | exact Or.inl rfl | exact Or.inr (Or.inl rfl) | exact Or.inr (Or.inr rfl)) {p : Pos}
    (hd : (x == ("__debug__" : Str)) = false := by decide) (hcd : (x == ("__classdict__" : Str)) = false := by decide) : JS X E L m m' (.Return (some (.Name x p)) pos) (fRet (fV i)) := by
  refine ⟨PSimp (ps_ret (pe_var hN hv hd hcd)) fun D σ H h => ?_⟩
  obtain ⟨S0, H0, ρ, ⟨S, Fp, st⟩, p⟩ := h
  unfold fRet fV at p
  split at p
  · rename_i d e
    obtain ⟨v, e1, o⟩ := st.2.1.at_ i d e
    rw [hmd] at o
    exact ⟨v, e1, p v H ⟨S, _, st.1, o, st.2.1.nd i d e, st.2.2 i d e⟩⟩
  · exact p.elim
theorem js_retN (hmd : L.md = .sh := by rfl) : JS X E L m m' (.Return none pos) fRetN := by
  refine ⟨PSimp ps_retN fun D σ H h => ?_⟩
  obtain ⟨S0, H0, ρ, ⟨S, Fp, st⟩, p⟩ := h
  exact p .non H ⟨S, [], st.1, by rw [hmd]; exact ⟨.non, rfl⟩, List.nodup_nil, fun a z => nomatch z⟩
theorem js_if (hc : JT X E m c g) (ha : JSs X E L m m' sts F) (hb : JSs X E L m m' rest G) : JS X E L m m' (.If c sts rest pos) (fIfS g F G) := by
  refine ⟨PSimp (ps_if hc.pt ha.ps hb.ps) fun D σ H h => ?_⟩
  obtain ⟨S0, H0, ρ, ⟨S, Fp, st⟩, p⟩ := h
  refine ⟨S, ρ, st.envM, ?_⟩
  have k := lift_post st p
  cases hg : g ρ with
  | ok bb =>
    rw [hg] at k
    intro S1 H1 s1
    have k1 := k S1 H1 s1
    cases bb with
    | true => exact ⟨S0, H0, ρ, (st.step s1).stM, k1⟩
    | false => exact ⟨S0, H0, ρ, (st.step s1).stM, k1⟩
  | ex c' fs => rw [hg] at k; exact k
  | er => rw [hg] at k; exact k
theorem js_drop (he : JE X E m .sh e f) (hs : swapsWith e none pos.line X.env = pure false := by rfl) : JS X E L m m (.Expr e pos) (fDrop f) := by
  refine ⟨PSimp (ps_expr he.pe hs) fun D σ H h => ?_⟩
  obtain ⟨S0, H0, ρ, ⟨S, Fp, st⟩, p⟩ := h
  exact ⟨S, ρ, st.envM, (lift_post st p).post fun d v S1 H1 s1 r k => k σ H1 (st.step s1).stM⟩
theorem js_pass : JS X E L m m (.Pass pos) fNext := ⟨PSimp ps_pass fun D σ H h => by
  obtain ⟨S0, H0, ρ, st, p⟩ := h
  exact p σ H st⟩
theorem js_break (w : Weak m L.mb := by exact Weak.of (by decide)) : JS X E L m m' (.Break pos) fBrk := ⟨PSimp ps_break fun D σ H h => by
  obtain ⟨S0, H0, ρ, st, p⟩ := h
  exact p σ H (st.weak w)⟩
theorem js_cont (w : Weak m L.mc := by exact Weak.of (by decide)) : JS X E L m m' (.Continue pos) fCnt := ⟨PSimp ps_continue fun D σ H h => by
  obtain ⟨S0, H0, ρ, st, p⟩ := h
  exact p σ H (st.weak w)⟩
theorem set_sh {m : Mds} {i : Nat} (hl : i < m.length) (hmd : mdAt m i = .sh) : m.set i .sh = m := by
  refine List.ext_getElem? fun j => ?_
  rw [List.getElem?_set]
  unfold mdAt at hmd
  rw [List.getD_eq_getElem?_getD, List.getElem?_eq_getElem hl] at hmd
  split
  · rename_i hj
    subst hj
    rw [List.getElem?_eq_getElem hl]
    exact congrArg some hmd.symm
  · rfl
/-- x += e of whole numbers -/
def fAug (i : Nat) (g : D → D → Res D) (f : Env → Res D) : FS := fSet i (f2 g (fV i) f)
theorem js_aug (i : Nat) {pos' : Pos} {op : Operator} {gi : Int → Int → Int} (ho : PIp X op (ipI gi)) (he : JE X E m .sh e f) (hN : X.N.Nodup) (hmd : mdAt m i = .sh := by rfl) (hl : i < m.length := by decide) (hi : X.N[i]? = some x := by rfl) (hx : Loc X.env.scope x := by first | exact Or.inl rfl | exact Or.inr rfl)
    (hf : X.fn x = true ∨ X.env.scope.names.lookup x = some .local := by first | exact .inl rfl | exact .inr rfl) : JS X E L m m (.AugAssign (.Name x pos') op e pos) (fAug i (dI yes2 gi) f) := by
  refine ⟨PSimp (ps_aug hN hi hx he.pe ho hf) fun D σ H h => ?_⟩
  obtain ⟨S0, H0, ρ, ⟨S, Fp, st⟩, p⟩ := h
  unfold fAug fSet f2 fV at p
  split at p
  · rename_i dx ex
    obtain ⟨vx, e1, o1⟩ := st.2.1.at_ i dx ex
    rw [hmd] at o1
    refine ⟨vx, e1, S, ρ, st.envM, ?_⟩
    have p' : SPost X.K X.mg E L S0 H0 m (lift ((f ρ).bind fun y => dI yes2 gi dx y) ρ fun d => .ok (.nx (ρ.set i (some d)))) D := p
    have k := PostW.bind (lift_post st p')
    refine k.post fun d v S1 H1 s1 r k1 => ?_
    cases dx with
    | int ix =>
      cases d with
      | int iy =>
        obtain ⟨rx, _⟩ := o1
        cases rx; cases r
        refine ⟨ix, iy, rfl, rfl, ?_⟩
        have k2 := k1 S1 H1 (Step.refl s1.sub)
        have st1 := (st.step s1).set (d := .int (gi ix iy)) (v := .int (gi ix iy)) (md := .sh) (fp := []) hl ⟨.int _, rfl⟩ List.nodup_nil (fun a z => nomatch z) (fun j e' hj ej a ha z => nomatch z)
        have em : m.set i .sh = m := set_sh hl hmd
        rw [em] at st1
        exact k2 _ _ st1.stM
      | _ => exact k1.elim
    | _ =>
      exact k1.elim
  · exact p.elim
/-! lists of one's own are changed -/
def fApp (i : Nat) (f : Env → Res D) : FS := fun ρ => match ρ[i]? with
  | some (some (.lst xs)) => lift (f ρ) ρ fun d => if szOk (xs.length + 1) = true then .ok (.nx (ρ.set i (some (.lst (xs ++ [d]))))) else .er
  | _ => .er
theorem szOk_lt {n : Nat} (h : szOk (n + 1) = true) : n < sizeLine := by
  have := szOk_le h
  rw [sizeLine_eq]; omega
/-- the list of slot i is written -/
theorem StF.write {K : PySem.W.Frag} {mg : Str → Option Value} {S0 H0 S H : Hp} {Fp : Nat → List Addr} {σ : L2.St} {ρ : Env} {i : Nat} {xs ys : List D} {vs ws : List V} {p : Addr} (st : StF K mg m S0 H0 S Fp σ ρ H) (hl : i < m.length) (hmd : mdAt m i = .ow) (hρ : ρ[i]? = some (some (.lst xs)))
    (hp : Fp i = [p]) (hσ : σ[i]? = some (some (.ref p))) (sp : S p = none) (hv : H p = some (.lst vs)) (r : RepL K mg S ws ys) : StF K mg m S0 H0 S Fp σ (ρ.set i (some (.lst ys))) (upd H p (.lst ws)) := by
  obtain ⟨s, e, nw⟩ := st
  have hil : i < ρ.length := (List.getElem?_eq_some_iff.mp hρ).1
  have h0 : H0 p = none := nw i _ hρ p (by rw [hp]; exact List.mem_cons_self)
  have key : ∀ j d', (ρ.set i (some (.lst ys)))[j]? = some (some d') → (j = i ∧ d' = .lst ys) ∨ (j ≠ i ∧ ρ[j]? = some (some d')) := fun j d' ej => by
    by_cases hj : j = i
    · subst hj
      rw [List.getElem?_set_self hil] at ej
      injection ej with z; injection z with z
      exact .inl ⟨rfl, z.symm⟩
    · rw [List.getElem?_set_ne (Ne.symm hj)] at ej
      exact .inr ⟨hj, ej⟩
  have same : ∀ {B : Hp}, Same B H → B p = none → Same B (upd H p (.lst ws)) := fun hB hb a o ea => by
    rw [upd_ne (ne_of_none ea hb)]
    exact hB a o ea
  have pres : ∀ {d}, ρ[i]? = some (some d) ↔ d = .lst xs := fun {d} => by
    rw [hρ]
    constructor
    · intro z; injection z with z; injection z with z; exact z.symm
    · intro z; rw [z]
  refine ⟨⟨same s.hh h0, s.ss, same s.sub sp, s.new⟩, ⟨by rw [List.length_set]; exact e.len, fun j d' ej => ?_, fun j d' ej => ?_, fun j k d1 d2 hjk e1 e2 => ?_⟩, fun j d' ej => ?_⟩
  · rcases key j d' ej with ⟨rfl, rfl⟩ | ⟨hj, ej'⟩
    · refine ⟨_, hσ, ?_⟩
      rw [hmd]
      exact ⟨p, ws, ys, rfl, rfl, hp, sp, upd_same, r⟩
    · obtain ⟨w, e1, o1⟩ := e.at_ j d' ej'
      exact ⟨w, e1, o1.other sp fun z => e.apart i j _ d' (Ne.symm hj) hρ ej' p (by rw [hp]; exact List.mem_cons_self) z⟩
  · rcases key j d' ej with ⟨rfl, rfl⟩ | ⟨hj, ej'⟩
    · exact e.nd _ _ hρ
    · exact e.nd j d' ej'
  · have live : ∀ j d', (ρ.set i (some (.lst ys)))[j]? = some (some d') → ∃ d'', ρ[j]? = some (some d'') := fun j d' ej => by
      rcases key j d' ej with ⟨rfl, _⟩ | ⟨_, ej'⟩
      · exact ⟨_, hρ⟩
      · exact ⟨_, ej'⟩
    obtain ⟨d1', h1⟩ := live j d1 e1
    obtain ⟨d2', h2⟩ := live k d2 e2
    exact e.apart j k d1' d2' hjk h1 h2
  · rcases key j d' ej with ⟨rfl, rfl⟩ | ⟨hj, ej'⟩
    · exact nw _ _ hρ
    · exact nw j d' ej'
/-- what is known of an own list -/
theorem StF.own {K : PySem.W.Frag} {mg : Str → Option Value} {S0 H0 S H : Hp} {Fp : Nat → List Addr} {σ : L2.St} {ρ : Env} {i : Nat} {d : D} (st : StF K mg m S0 H0 S Fp σ ρ H) (hmd : mdAt m i = .ow) (hρ : ρ[i]? = some (some d)) :
    ∃ p vs ds, d = .lst ds ∧ Fp i = [p] ∧ σ[i]? = some (some (.ref p)) ∧ S p = none ∧ H p = some (.lst vs) ∧ RepL K mg S vs ds := by
  obtain ⟨v, e1, o⟩ := st.2.1.at_ i d hρ
  rw [hmd] at o
  obtain ⟨p, vs, ds, rfl, rfl, e3, e4, e5, e6⟩ := o
  exact ⟨p, vs, ds, rfl, e3, e1, e4, e5, e6⟩
theorem js_app (i : Nat) {p1 p2 p3 : Pos} (he : JE X E m .sh e f) (hmd : mdAt m i = .ow := by rfl) (hl : i < m.length := by decide) (hN : X.N[i]? = some x := by rfl) (hv : Vis X.env.scope x := by first | exact Or.inl rfl | exact Or.inr (Or.inl rfl) | exact Or.inr (Or.inr rfl))
    (hd : (x == ("__debug__" : Str)) = false := by decide) (hcd : (x == ("__classdict__" : Str)) = false := by decide)
    (hs : swapsWith (.Call (.Attribute (.Name x p1) "append" p2) [e] [] p3) none pos.line X.env = pure false := by rfl)
    (hpe : ∀ {to te : TE}, PE X (.Name x p1) to → PE X e te → PE X (.Call (.Attribute (.Name x p1) "append" p2) [e] [] p3) (tBM X.K "list" rAppend to (tCons te tNil)) := by
      intro to te ho he
      exact pe_bm PySem.F.plainAttrs_list PySem.F.slot_list_append PySem.F.type_list_append mt_append ho (pa_cons he pa_nil)) :
    JS X E L m m (.Expr (.Call (.Attribute (.Name x p1) "append" p2) [e] [] p3) pos) (fApp i f) := by
  refine ⟨PSimp (ps_expr (hpe (pe_var hN hv hd hcd) he.pe) hs) fun D σ H h => ?_⟩
  obtain ⟨S0, H0, ρ, ⟨S, Fp, st⟩, p⟩ := h
  unfold fApp at p
  split at p
  · rename_i xs exs
    obtain ⟨pa, vs, ds, eds, e1, e2, e3, e4, e5⟩ := st.own hmd exs
    cases eds
    refine ⟨_, e2, .inl ⟨rfl, vs, .inl (.inl e4)⟩, S, ρ, st.envM, (lift_post st p).post fun d v S1 H1 s1 r k => ?_⟩
    split at k
    · rename_i hz
      obtain ⟨qa, vs1, ds1, eds, q1, q2, q3, q4, q5⟩ := (st.step s1).own hmd exs
      cases eds
      obtain rfl : qa = pa := by
        rw [e2] at q2
        injection q2 with z; injection z with z; injection z with z
        exact z.symm
      refine ⟨qa, vs1, v, rfl, rfl, q4, by rw [q5.len]; exact szOk_lt hz, ?_⟩
      exact k _ _ ((st.step s1).write hl hmd exs q1 q2 q3 q4 (q5.snoc r)).stM
    · exact k.elim
  · exact p.elim
/-- x[j] = e of an own list -/
def fSetIx (i : Nat) (fe fj : Env → Res D) : FS := fun ρ => match ρ[i]? with
  | some (some (.lst xs)) => lift (fe ρ) ρ fun d => lift (fj ρ) ρ fun j => match j with
    | .int z => (match ixN xs.length z with
      | some k => .ok (.nx (ρ.set i (some (.lst (xs.set k d)))))
      | none => .er)
    | _ => .er
  | _ => .er
theorem js_setix (i : Nat) {p1 p2 : Pos} {j : Expr} {fj : Env → Res D} (he : JE X E m .sh e f) (hj : JE X E m .sh j fj) (hmd : mdAt m i = .ow := by rfl) (hl : i < m.length := by decide) (hN : X.N[i]? = some x := by rfl) (hv : Vis X.env.scope x := by first | exact Or.inl rfl | exact Or.inr (Or.inl rfl) | exact Or.inr (Or.inr rfl))
    (hd : (x == ("__debug__" : Str)) = false := by decide) (hcd : (x == ("__classdict__" : Str)) = false := by decide)
    (hps : ∀ {to ti te : TE}, PE X (.Name x p1) to → PE X j ti → PE X e te → PS X (.Assign [.Subscript (.Name x p1) j p2] e pos) (tAsg te (gSub to ti rSetL)) := by
      intro to ti te ho hi he
      exact ps_asg he (pg_sub ho hi set_list)) :
    JS X E L m m (.Assign [.Subscript (.Name x p1) j p2] e pos) (fSetIx i f fj) := by
  refine ⟨PSimp (hps (pe_var hN hv hd hcd) hj.pe he.pe) fun D σ H h => ?_⟩
  obtain ⟨S0, H0, ρ, ⟨S, Fp, st⟩, p⟩ := h
  unfold fSetIx at p
  split at p
  · rename_i xs exs
    obtain ⟨pa, vs, ds, eds, e1, e2, e3, e4, e5⟩ := st.own hmd exs
    refine ⟨S, ρ, st.envM, (lift_post st p).post fun d v S1 H1 s1 r k => ⟨_, e2, S1, ρ, (st.step s1).envM, (lift_post (st.step s1) k).post fun dj vj S2 H2 s2 rj k2 => ?_⟩⟩
    cases dj with
    | int z =>
      cases rj
      have k2 : SPost X.K X.mg E L S0 H0 m (match ixN xs.length z with
        | some k => .ok (.nx (ρ.set i (some (.lst (xs.set k d)))))
        | none => .er) D := k2
      split at k2
      · rename_i kk ek
        obtain ⟨qa, vs1, ds1, eds1, q1, q2, q3, q4, q5⟩ := ((st.step s1).step s2).own hmd exs
        cases eds1
        obtain rfl : qa = pa := by
          rw [e2] at q2
          injection q2 with z; injection z with z; injection z with z
          exact z.symm
        exact ⟨qa, vs1, z, kk, rfl, rfl, q4, by rw [q5.len]; exact ek, k2 _ _ (((st.step s1).step s2).write hl hmd exs q1 q2 q3 q4 (q5.set kk (r.mono s2.ss))).stM⟩
      · exact k2.elim
    | _ => exact k2.elim
  · exact p.elim
end
end Da
namespace Da
open PySem PySem.Spec L2
/-! ### loops -/
/-- the loop over the items -/
def forGo (g : D → Env → Res Env) (F : FS) : List D → FS
  | [], ρ => .ok (.nx ρ)
  | x :: xs, ρ => match g x ρ with
    | .ok ρ1 => (match F ρ1 with
      | .ok (.nx ρ2) => forGo g F xs ρ2
      | .ok (.ct ρ2) => forGo g F xs ρ2
      | .ok (.bk ρ2) => .ok (.nx ρ2)
      | o => o)
    | _ => .er
def fFor (it : Env → Res (List D)) (g : D → Env → Res Env) (F : FS) : FS := fun ρ => lift (it ρ) ρ fun xs => forGo g F xs ρ
/-- while, in at most n turns -/
def whileGo (c : Env → Res Bool) (F : FS) : Nat → FS
  | 0, _ => .er
  | n + 1, ρ => lift (c ρ) ρ fun b => if b = true then (match F ρ with
      | .ok (.nx ρ2) => whileGo c F n ρ2
      | .ok (.ct ρ2) => whileGo c F n ρ2
      | .ok (.bk ρ2) => .ok (.nx ρ2)
      | o => o) else .ok (.nx ρ)
def FUEL : Nat := 1000000000000000000
def fWhile (c : Env → Res Bool) (F : FS) : FS := whileGo c F FUEL
/-- the iterator J gives the items ds, from the view S on -/
structure WalkD (K : PySem.W.Frag) (mg : Str → Option Value) (J : It) (S : Hp) (ds : List D) : Prop where
  go : ∀ i d S1 H1, ds[i]? = some d → Same S S1 → Same S1 H1 → J.go i H1 ∧ ∀ x H2, J.yld i H1 x H2 → ∃ S2, Step S1 H1 S2 H2 ∧ Rep K mg S2 x d
  stop : ∀ S1 H1, Same S S1 → Same S1 H1 → J.stop ds.length H1
def tI (K : PySem.W.Frag) (mg : Str → Option Value) (E : WX) (m : Mds) (f : Env → Res (List D)) : TI := fun σ H R => ∃ S ρ, EnvM K mg m S H σ ρ ∧ PostW K mg (WE E σ) S H (f ρ) fun ds S' H' => ∀ J, WalkD K mg J S' ds → R J H'
structure JI (X : Cx) (E : WX) (m : Mds) (tg iter : Expr) (f : Env → Res (List D)) : Prop where
  pi : PI X tg iter (tI X.K X.mg E m f)
/-- a target takes a value -/
def tGD (K : PySem.W.Frag) (mg : Str → Option Value) (m : Mds) (ts : List Nat) (g : D → Env → Res Env) : TG := fun v σ H Q => ∃ S0 H0 S F ρ d, StF K mg m S0 H0 S F σ ρ H ∧ Rep K mg S v d ∧ (match g d ρ with
  | .ok ρ1 => ∀ σ1 S1 F1 H1, StF K mg m S0 H0 S1 F1 σ1 ρ1 H1 → Step S H S1 H1 → (σ1.length = σ.length ∧ ∀ j, j ∉ ts → σ1[j]? = σ[j]?) → Q σ1 H1
  | _ => False)
structure JG (X : Cx) (m : Mds) (ts : List Nat) (tg : Expr) (g : D → Env → Res Env) : Prop where
  pg : PG X tg (tGD X.K X.mg m ts g)
section
variable {X : Cx} {E : WX} {L : Lp} {m m1 m2 m' : Mds} {md : Md} {st : Stmt} {sts rest : List Stmt} {e a b tg iter : Expr} {f fa fb : Env → Res D} {c : Expr} {g : Env → Res Bool} {F G : FS} {pos : Pos} {x : Str} {it : Env → Res (List D)} {gt : D → Env → Res Env}
/-- a name: what it holds is shared -/
def gN (i : Nat) : D → Env → Res Env := fun d ρ => .ok (ρ.set i (some d))
theorem jg_name (i : Nat) (hN : X.N.Nodup) (hmd : mdAt m i = .sh := by rfl) (hl : i < m.length := by decide) (hi : X.N[i]? = some x := by rfl) (hx : Loc X.env.scope x := by first | exact Or.inl rfl | exact Or.inr rfl)
    (hf : X.fn x = true ∨ X.env.scope.names.lookup x = some .local := by first | exact .inl rfl | exact .inr rfl) : JG X m [i] (.Name x pos) (gN i) := by
  refine ⟨⟨fun pins s σ H v u Q I r h => ?_⟩⟩
  refine (pg_name hN hi hx hf).run pins s σ H v u Q I r ?_
  obtain ⟨S0, H0, S, Fp, ρ, d, st, rd, p⟩ := h
  have st1 := st.set (d := d) (v := v) (md := .sh) (fp := []) hl ⟨rd, rfl⟩ List.nodup_nil (fun a z => nomatch z) (fun j e' hj ej a ha z => nomatch z)
  rw [set_sh hl hmd] at st1
  exact p _ S _ H st1 (Step.refl st.1.sub) ⟨List.length_set, fun j hj => List.getElem?_set_ne fun z => hj (by rw [z]; exact List.mem_cons_self)⟩
theorem js_for (hi : JI X E m tg iter it) {ts : List Nat} (hg : JG X m ts tg gt) (hb : JSs X E ⟨m, m, L.md⟩ m m sts F) (hp : PassesOwn (model X.prog X.w) X.A X.env X.xe) (hc : X.calm = true := by rfl)
    (hs : ∀ x, foldedSetIterable iter X.env x = pure x := by intro _; rfl) : JS X E L m m (.For tg iter sts [] pos) (fFor it gt F) := by
  refine ⟨PSimp (ps_for hp hc hi.pi hg.pg hb.ps hs) fun D σ H h => ?_⟩
  obtain ⟨S0, H0, ρ, ⟨S, Fp, st⟩, p⟩ := h
  refine ⟨S, ρ, st.envM, (lift_post st p).imp fun ds S1 H1 s1 k J w => ?_⟩
  -- from here on the entry is (S1, H0)
  have st1 := st.step s1
  refine ⟨fun i n σ H => n = ds.length - i ∧ i ≤ ds.length ∧ ∃ S2 F2 ρ2, StF X.K X.mg m S1 H0 S2 F2 σ ρ2 H ∧ SPost X.K X.mg E L S0 H0 m (forGo gt F (ds.drop i) ρ2) D, ⟨ds.length, by simp, Nat.zero_le _, S1, Fp, ρ, ⟨st1.1.fwd, st1.2⟩, k⟩, ?_⟩
  rintro i n σ2 H2 ⟨rfl, hi, S2, F2, ρ2, st2, p2⟩
  by_cases hlt : i < ds.length
  · obtain ⟨hgo, hyl⟩ := w.go i ds[i] S2 H2 (List.getElem?_eq_getElem hlt) st2.1.ss st2.1.sub
    refine .inr ⟨hgo, fun σ' H' => ∃ S3 F3 ρ3, StF X.K X.mg m S1 H0 S3 F3 σ' ρ3 H' ∧ SPost X.K X.mg E L S0 H0 m (forGo gt F (ds.drop (i + 1)) ρ3) D, fun σ' H' z => ⟨ds.length - (i + 1), by omega, rfl, hlt, z⟩, fun x H3 y => ?_⟩
    obtain ⟨S3, s3, r3⟩ := hyl x H3 y
    refine ⟨S1, H0, S3, F2, ρ2, ds[i], st2.step s3, r3, ?_⟩
    rw [List.drop_eq_getElem_cons hlt] at p2
    unfold forGo at p2
    cases eg : gt ds[i] ρ2 with
    | ok ρ3 =>
      rw [eg] at p2
      refine fun σ4 S4 F4 H4 st4 s4 _ => ⟨S1, H0, ρ3, st4.stM, ?_⟩
      have p3 : SPost X.K X.mg E L S0 H0 m (match F ρ3 with
        | .ok (.nx ρ2) => forGo gt F (ds.drop (i + 1)) ρ2
        | .ok (.ct ρ2) => forGo gt F (ds.drop (i + 1)) ρ2
        | .ok (.bk ρ2) => .ok (.nx ρ2)
        | o => o) D := p2
      cases ef : F ρ3 with
      | ok o =>
        rw [ef] at p3
        cases o with
        | nx ρ5 => exact fun σ5 H5 ⟨S5, F5, st5⟩ => ⟨S5, F5, ρ5, st5, p3⟩
        | ct ρ5 => exact fun σ5 H5 ⟨S5, F5, st5⟩ => ⟨S5, F5, ρ5, st5, p3⟩
        | bk ρ5 => exact fun σ5 H5 ⟨S5, F5, st5⟩ => p3 σ5 H5 ⟨S5, F5, st1.1.back st5.1, st5.2⟩
        | rt d => exact fun v H5 ⟨S5, fp, s5, o5⟩ => p3 v H5 ⟨S5, fp, st1.1.back s5, o5⟩
        | xc c' fs ρ5 => exact fun σ5 S5 F5 H5 cls dd st5 x5 => p3 σ5 S5 F5 H5 cls dd ⟨st1.1.back st5.1, st5.2⟩ x5
      | ex c' fs => rw [ef] at p3; exact p3
      | er => rw [ef] at p3; exact p3
    | ex c' fs => rw [eg] at p2; exact p2
    | er => rw [eg] at p2; exact p2
  · have e : i = ds.length := by omega
    subst e
    rw [List.drop_length] at p2
    exact .inl ⟨w.stop S2 H2 st2.1.ss st2.1.sub, p2 σ2 H2 ⟨S2, F2, st1.1.back st2.1, st2.2⟩⟩
theorem js_while (hc : JT X E m c g) (hb : JSs X E ⟨m, m, L.md⟩ m m sts F) (hp : PassesOwn (model X.prog X.w) X.A X.env X.xe) : JS X E L m m (.While c sts [] pos) (fWhile g F) := by
  refine ⟨PSimp (ps_while hp hc.pt hb.ps) fun D σ H h => ?_⟩
  obtain ⟨S0, H0, ρ, ⟨S, Fp, st⟩, p⟩ := h
  refine ⟨fun n σ H => ∃ S2 F2 ρ2, StF X.K X.mg m S0 H0 S2 F2 σ ρ2 H ∧ SPost X.K X.mg E L S0 H0 m (whileGo g F n ρ2) D, ⟨FUEL, S, Fp, ρ, st, p⟩, ?_⟩
  rintro n σ2 H2 ⟨S2, F2, ρ2, st2, p2⟩
  cases n with
  | zero => exact p2.elim
  | succ n =>
    unfold whileGo at p2
    have k := lift_post st2 p2
    refine ⟨S2, ρ2, st2.envM, k.imp fun b S3 H3 s3 k3 => ?_⟩
    cases b with
    | true =>
      refine ⟨fun σ' H' => ∃ S3 F3 ρ3, StF X.K X.mg m S0 H0 S3 F3 σ' ρ3 H' ∧ SPost X.K X.mg E L S0 H0 m (whileGo g F n ρ3) D, fun σ' H' z => ⟨n, Nat.lt_succ_self n, z⟩, S0, H0, ρ2, (st2.step s3).stM, ?_⟩
      have p3 : SPost X.K X.mg E L S0 H0 m (match F ρ2 with
        | .ok (.nx ρ2) => whileGo g F n ρ2
        | .ok (.ct ρ2) => whileGo g F n ρ2
        | .ok (.bk ρ2) => .ok (.nx ρ2)
        | o => o) D := k3
      cases ef : F ρ2 with
      | ok o =>
        rw [ef] at p3
        cases o with
        | nx ρ5 => exact fun σ5 H5 ⟨S5, F5, st5⟩ => ⟨S5, F5, ρ5, st5, p3⟩
        | ct ρ5 => exact fun σ5 H5 ⟨S5, F5, st5⟩ => ⟨S5, F5, ρ5, st5, p3⟩
        | bk ρ5 => exact p3
        | rt d => exact p3
        | xc c' fs ρ5 => exact p3
      | ex c' fs => rw [ef] at p3; exact p3
      | er => rw [ef] at p3; exact p3
    | false => exact k3 σ2 H3 (st2.step s3).stM
/-! what is walked: a list, a tuple -/
def asL : D → Res (List D)
  | .lst xs => .ok xs
  | .frl xs => .ok xs
  | .tup xs => .ok xs
  | _ => .er
theorem walk_l {K : PySem.W.Frag} {mg : Str → Option Value} {S : Hp} {a : Addr} {vs : List V} {ds : List D} (h : SqL K S a vs) (r : RepL K mg S vs ds) : WalkD K mg (Itl K a) S ds where
  go := fun i d S1 H1 e s1 s2 => by
    obtain ⟨v, ev, rv⟩ := r.get e
    refine ⟨⟨vs, v, same_l s2 (same_l s1 h), ev⟩, fun x H2 ⟨e2, y⟩ => ?_⟩
    subst e2
    have := y vs (same_l s2 (same_l s1 h))
    rw [ev] at this
    cases this
    exact ⟨S1, Step.refl s2, rv.mono s1⟩
  stop := fun S1 H1 s1 s2 => ⟨vs, same_l s2 (same_l s1 h), Nat.le_of_eq r.len⟩
theorem walk_t {K : PySem.W.Frag} {mg : Str → Option Value} {S : Hp} {a : Addr} {vs : List V} {ds : List D} (h : SqT K S a vs) (r : RepL K mg S vs ds) : WalkD K mg (Itt K a) S ds where
  go := fun i d S1 H1 e s1 s2 => by
    obtain ⟨v, ev, rv⟩ := r.get e
    refine ⟨⟨vs, v, same_t s2 (same_t s1 h), ev⟩, fun x H2 ⟨e2, y⟩ => ?_⟩
    subst e2
    have := y vs (same_t s2 (same_t s1 h))
    rw [ev] at this
    cases this
    exact ⟨S1, Step.refl s2, rv.mono s1⟩
  stop := fun S1 H1 s1 s2 => ⟨vs, same_t s2 (same_t s1 h), Nat.le_of_eq r.len⟩
def iSeq (K : PySem.W.Frag) (tl : TE) : TI := fun σ H R => tl σ H fun x H1 => ∃ a, x = .ref a ∧ ((∃ xs, SqL K H1 a xs) ∧ R (Itl K a) H1 ∨ (∃ xs, SqT K H1 a xs) ∧ R (Itt K a) H1)
theorem pi_seq {l : Expr} {tl : TE} (hl : PE X l tl) : PI X tg l (iSeq X.K tl) := by
  refine ⟨fun pins s σ H R I h => thn (hl.run pins s σ H _ I h) fun v s1 hv => ?_⟩
  obtain ⟨y, Hy, Iy, ry, a, rfl, q⟩ := hv
  cases ry
  have fresh : ∀ b, b ∈ [s1.heap.objs.size] → FpOk X pins Hy b := fun b hb => by
    rw [List.mem_singleton.mp hb]
    exact Iy.fpOk (Nat.le_refl _) (Iy.hok.fresh (Nat.le_refl _))
  rcases q with ⟨⟨xs, hq⟩, q⟩ | ⟨⟨xs, hq⟩, q⟩
  · obtain ⟨its, _, pl, _⟩ := Iy.list hq
    refine wpAny_pyIter_list pl.isList ⟨_, [_], _, Itl X.K a, Hy, rfl, ?_, turn_list a _, ?_, fresh, q⟩
    · exact Iy.kept (t' := s1.toks) fun b o e => Heap.get?_push_of_some _ e
    · exact ⟨_, Heap.get?_push_size _ rfl, rfl, rfl⟩
  · obtain ⟨its, _, pl, _⟩ := Iy.tuple hq
    refine wpAny_pyIter_tuple (show s1.heap.IsTuple a its.toArray from pl) ⟨_, [_], _, Itt X.K a, Hy, rfl, ?_, turn_tuple a _, ?_, fresh, q⟩
    · exact Iy.kept (t' := s1.toks) fun b o e => Heap.get?_push_of_some _ e
    · exact ⟨_, Heap.get?_push_size _ rfl, rfl, rfl⟩
def fL (f : Env → Res D) : Env → Res (List D) := fun ρ => (f ρ).bind asL
theorem ji_seq (he : JE X E m .sh e f) : JI X E m tg e (fL f) := by
  refine ⟨⟨fun pins s σ H R I h => (pi_seq he.pe).run pins s σ H R I ?_⟩⟩
  obtain ⟨S, ρ, hm, hp⟩ := h
  refine ⟨S, ρ, hm, (PostW.bind hp).post fun d v S1 H1 s1 r k => ?_⟩
  cases d with
  | lst xs =>
    obtain ⟨a, vs, rfl, ha, rv⟩ := r.of_lst
    exact ⟨a, rfl, .inl ⟨⟨vs, .inl (.inl (s1.sub _ _ ha))⟩, k S1 H1 (Step.refl s1.sub) _ (walk_l (.inl (.inl ha)) rv)⟩⟩
  | frl xs =>
    obtain ⟨a, vs, rfl, ha, rv⟩ := r.of_frl
    exact ⟨a, rfl, .inl ⟨⟨vs, same_l s1.sub ha⟩, k S1 H1 (Step.refl s1.sub) _ (walk_l ha rv)⟩⟩
  | tup xs =>
    obtain ⟨a, vs, rfl, ha, rv⟩ := r.of_tup
    exact ⟨a, rfl, .inr ⟨⟨vs, same_t s1.sub ha⟩, k S1 H1 (Step.refl s1.sub) _ (walk_t ha rv)⟩⟩
  | _ => exact k.elim
/-! .. a range -/
def rng (lo : Int) (n : Nat) : List D := (List.range n).map fun (i : Nat) => D.int (lo + i)
theorem walk_r {K : PySem.W.Frag} {mg : Str → Option Value} {S : Hp} (lo : Int) (n : Nat) : WalkD K mg (Itr lo n) S (rng lo n) where
  go := fun i d S1 H1 e s1 s2 => by
    unfold rng at e
    rw [List.getElem?_map] at e
    have hi : i < n := by
      cases q : (List.range n)[i]? with
      | none => rw [q] at e; cases e
      | some j =>
        have := (List.getElem?_eq_some_iff.mp q).1
        rwa [List.length_range] at this
    rw [List.getElem?_range hi] at e
    cases e
    exact ⟨hi, fun x H2 ⟨e2, y⟩ => by subst e2 y; exact ⟨S1, Step.refl s2, .int _⟩⟩
  stop := fun S1 H1 s1 s2 => by
    show n ≤ (rng lo n).length
    unfold rng
    rw [List.length_map, List.length_range]
    exact Nat.le_refl _
def rngOk (i j : Int) : Bool := stuck (-(4611686018427387904) ≤ i ∧ i < 4611686018427387904 ∧ -(4611686018427387904) ≤ j ∧ j < 4611686018427387904)
theorem rngOk_ok {i j : Int} (h : rngOk i j = true) : -(2 ^ 62) ≤ i ∧ i < 2 ^ 62 ∧ -(2 ^ 62) ≤ j ∧ j < 2 ^ 62 := by
  obtain ⟨h1, h2, h3, h4⟩ := stuck_iff.mp h
  have e : (2 : Int) ^ 62 = 4611686018427387904 := by decide
  rw [e]
  exact ⟨h1, h2, h3, h4⟩
def gRng1 : List D → Res (List D)
  | [.int j] => if rngOk 0 j = true then .ok (rng 0 j.toNat) else .er
  | _ => .er
def gRng2 : List D → Res (List D)
  | [.int i, .int j] => if rngOk i j = true then .ok (rng i (j - i).toNat) else .er
  | _ => .er
theorem gRng1_ok {ds xs : List D} (h : gRng1 ds = .ok xs) : ∃ j, ds = [.int j] ∧ rngOk 0 j = true ∧ xs = rng 0 j.toNat := by
  unfold gRng1 at h
  split at h
  · rename_i j
    split at h
    · rename_i hk
      injection h with h
      exact ⟨j, rfl, hk, h.symm⟩
    · cases h
  · cases h
theorem gRng2_ok {ds xs : List D} (h : gRng2 ds = .ok xs) : ∃ i j, ds = [.int i, .int j] ∧ rngOk i j = true ∧ xs = rng i (j - i).toNat := by
  unfold gRng2 at h
  split at h
  · rename_i i j
    split at h
    · rename_i hk
      injection h with h
      exact ⟨i, j, rfl, hk, h.symm⟩
    · cases h
  · cases h
theorem gRng1_ex {ds : List D} {c : Str} {fs : List (Str × D)} : gRng1 ds ≠ .ex c fs := by
  unfold gRng1
  split
  · split <;> exact fun z => nomatch z
  · exact fun z => nomatch z
theorem gRng2_ex {ds : List D} {c : Str} {fs : List (Str × D)} : gRng2 ds ≠ .ex c fs := by
  unfold gRng2
  split
  · split <;> exact fun z => nomatch z
  · exact fun z => nomatch z
def fR1 (fs : Env → Res (List D)) : Env → Res (List D) := fun ρ => (fs ρ).bind gRng1
def fR2 (fs : Env → Res (List D)) : Env → Res (List D) := fun ρ => (fs ρ).bind gRng2
theorem PostW.of_if {α : Type} {K : PySem.W.Frag} {mg : Str → Option Value} {E : XK} {S H : Hp} {r : Res α} {c : Bool} {k : α → Hp → Hp → Prop} (h : PostW K mg E S H (if c = true then r else .er) k) : c = true ∧ PostW K mg E S H r k := by
  split at h
  · rename_i hc; exact ⟨hc, h⟩
  · exact h.elim
theorem RepL.int1 {K : PySem.W.Frag} {mg : Str → Option Value} {S : Hp} {vs : List V} {j : Int} (r : RepL K mg S vs [.int j]) : vs = [.int j] := RepL.ints (ns := [j]) r
theorem RepL.int2 {K : PySem.W.Frag} {mg : Str → Option Value} {S : Hp} {vs : List V} {i j : Int} (r : RepL K mg S vs [.int i, .int j]) : vs = [.int i, .int j] := RepL.ints (ns := [i, j]) r
theorem PostW.okOf {α : Type} {K : PySem.W.Frag} {mg : Str → Option Value} {E : XK} {S H : Hp} {r : Res α} {k : α → Hp → Hp → Prop} (h : PostW K mg E S H r k) (hx : ∀ c fs, r ≠ .ex c fs) : ∃ a, r = .ok a ∧ ∀ S' H', Step S H S' H' → k a S' H' := by
  cases r with
  | ok a => exact ⟨a, rfl, h⟩
  | ex c fs => exact absurd rfl (hx c fs)
  | er => exact h.elim
theorem ji_range1 {fs : Env → Res (List D)} {p : Pos} (ha : JA X E m [a] fs) (hm : X.mg "range" = none) (hg : Gl X "range" := by rfl) (hs : starEach [a] X.env = [(false, eval a X.env)] := by rfl) : JI X E m tg (.Call (.Name "range" p) [a] [] pos) (fR1 fs) := by
  refine ⟨⟨fun pins s σ H R I h => (pi_range1 hg hm ha.pa hs).run pins s σ H R I ?_⟩⟩
  obtain ⟨S, ρ, hm, hp⟩ := h
  refine ⟨S, ρ, hm, (PostW.bind hp).imp fun ds S1 H1 s1 k vs rv => ?_⟩
  obtain ⟨xs, e, k⟩ := PostW.okOf k fun _ _ => gRng1_ex
  obtain ⟨j, rfl, hk, rfl⟩ := gRng1_ok e
  obtain ⟨_, _, h3, h4⟩ := rngOk_ok hk
  exact ⟨j, rv.int1, h3, h4, k S1 H1 (Step.refl s1.sub) _ (walk_r 0 j.toNat)⟩
theorem ji_range2 {fs : Env → Res (List D)} {p : Pos} (ha : JA X E m [a, b] fs) (hm : X.mg "range" = none) (hg : Gl X "range" := by rfl) (hs : starEach [a, b] X.env = [(false, eval a X.env), (false, eval b X.env)] := by rfl) (hs2 : starEach [b] X.env = [(false, eval b X.env)] := by rfl) :
    JI X E m tg (.Call (.Name "range" p) [a, b] [] pos) (fR2 fs) := by
  refine ⟨⟨fun pins s σ H R I h => (pi_range2 hg hm ha.pa hs hs2).run pins s σ H R I ?_⟩⟩
  obtain ⟨S, ρ, hm, hp⟩ := h
  refine ⟨S, ρ, hm, (PostW.bind hp).imp fun ds S1 H1 s1 k vs rv => ?_⟩
  obtain ⟨xs, e, k⟩ := PostW.okOf k fun _ _ => gRng2_ex
  obtain ⟨i, j, rfl, hk, rfl⟩ := gRng2_ok e
  exact ⟨i, j, rv.int2, rngOk_ok hk, k S1 H1 (Step.refl s1.sub) _ (walk_r i (j - i).toNat)⟩
end
end Da
namespace Da
open PySem PySem.Spec L2
/-! ### defs -/
def chk (n : Nat) (f : List D → Res D) : List D → Res D := fun ds => if ds.length = n then f ds else .er
/-- what a def promises: it does to data what f does -/
def spD (K : PySem.W.Frag) (mg : Str → Option Value) (np : Nat) (md : Md) (f : List D → Res D) : Sp := fun vs H Q E => ∃ S ds, Same S H ∧ RepL K mg S vs ds ∧ Post K mg E S H md (chk np f ds) Q
def startE (n : Nat) (ds : List D) : Env := ds.map some ++ List.replicate (n - ds.length) none
/-- a body's run -/
def runF (n : Nat) (md : Md) (F : FS) (ds : List D) : Res D := match F (startE n ds) with
  | .ok (.rt d) => .ok d
  | .ok (.nx _) => if md = .sh then .ok .non else .er
  | .ok (.xc c fs _) => .ex c fs
  | _ => .er
abbrev msh (n : Nat) : Mds := List.replicate n .sh
theorem mdAt_msh {n i : Nat} : mdAt (msh n) i = .sh := by
  unfold mdAt
  rw [List.getD_eq_getElem?_getD, List.getElem?_replicate]
  split <;> rfl
theorem Post.chkd {K : PySem.W.Frag} {mg : Str → Option Value} {E : XK} {S H : Hp} {md : Md} {np : Nat} {f : List D → Res D} {ds : List D} {Q : VK} (h : Post K mg E S H md (chk np f ds) Q) : ds.length = np ∧ Post K mg E S H md (f ds) Q := by
  unfold chk at h
  split at h
  · rename_i e; exact ⟨e, h⟩
  · exact h.elim
section
variable {P : Program} {w : World} {K : PySem.W.Frag} {mg : Str → Option Value} {base : Heap}
theorem fn_ok {x qual : Str} {st : Stmt} {f : Addr} {fd : FuncData} {N ps : List Str} {k : Nat} {md : Md} {m' : Mds} {F : FS} (Fn : Fun K x qual st f fd) (Sc : FnScope N ps (defScope st)) (hnp : ps.length ≤ N.length)
    (h : ∀ (cdv : Value) (A : Around) (outer : List PySem.Env) (s : Shared) (H : Hp) (E : XK), Room k (A.deeper (PyProof.Rows.envOfC qual (defScope st) s.heap.objs.size f cdv)) →
      JSs (cxOf (L2.CX P w) P w K mg base N qual (defScope st) f cdv A outer s H E) (fun cls d _ H => E cls d H) ⟨[], [], md⟩ (msh N.length) m' (defBody st) F) :
    FnOk P w K mg base (L2.CX P w) (k + 1) f fd ps (spD K mg ps.length md (runF N.length md F)) := by
  refine Fn.okX Sc (fun vs H Q E hsp => ?_) (fun cdv A outer s H vs Q E hr hsp => ?_)
  · obtain ⟨S, ds, hs, rv, hp⟩ := hsp
    rw [rv.len]
    exact hp.chkd.1
  · obtain ⟨S, ds, hs, rv, hp⟩ := hsp
    obtain ⟨hl, hp⟩ := hp.chkd
    refine ⟨_, (h cdv A outer s H E hr).ps, S, H, startE N.length ds, ⟨S, fun _ => [], Step.refl hs, ⟨?_, fun i d e => ?_, fun i d e => List.nodup_nil, fun i j d e _ _ _ a ha => nomatch ha⟩, fun i d e a ha => nomatch ha⟩, ?_⟩
    · unfold startE L2.start
      rw [List.length_append, List.length_append, List.length_map, List.length_map, List.length_replicate, List.length_replicate, rv.len]
    · unfold startE at e
      by_cases hi : i < ds.length
      · rw [List.getElem?_append_left (by rw [List.length_map]; exact hi), List.getElem?_map, List.getElem?_eq_getElem hi] at e
        have e' : ds[i] = d := by injection e with e; injection e
        obtain ⟨v, ev, r⟩ := rv.get (List.getElem?_eq_getElem hi)
        refine ⟨v, ?_, ?_⟩
        · unfold L2.start
          rw [List.getElem?_append_left (by rw [List.length_map, rv.len]; exact hi), List.getElem?_map, ev]
          rfl
        · rw [mdAt_msh, ← e']
          exact ⟨r, rfl⟩
      · rw [List.getElem?_append_right (by rw [List.length_map]; omega), List.getElem?_replicate] at e
        split at e <;> cases e
    · unfold runF at hp
      cases ef : F (startE N.length ds) with
      | ok o =>
        rw [ef] at hp
        cases o with
        | nx ρ =>
          intro σ' H' ⟨S', F', st'⟩
          simp only at hp
          split at hp
          · rename_i hmd
            subst hmd
            exact hp .non S' H' [] st'.1 ⟨.non, rfl⟩ List.nodup_nil (fun a z => nomatch z)
          · exact hp.elim
        | rt d => exact fun v H' ⟨S', fp, s', o', n', f'⟩ => hp v S' H' fp s' o' n' f'
        | bk ρ => exact hp.elim
        | ct ρ => exact hp.elim
        | xc c fs ρ => exact fun σ' S' F' H' cls dd st' x' => hp S' H' cls dd st'.1 x'
      | ex c fs => rw [ef] at hp; exact hp.elim
      | er => rw [ef] at hp; exact hp.elim
/-- a def does what g does, where f does what g does -/
theorem fn_as {k : Nat} {f : Addr} {fd : FuncData} {ps : List Str} {np : Nat} {md : Md} {g g' : List D → Res D} (G : FnOk P w K mg base (L2.CX P w) k f fd ps (spD K mg np md g)) (h : ∀ ds d, g' ds = d → g' ds ≠ .er → g ds = d) : FnOk P w K mg base (L2.CX P w) k f fd ps (spD K mg np md g') :=
  G.imp fun vs H Q E hsp => by
    obtain ⟨S, ds, hs, rv, hp⟩ := hsp
    obtain ⟨hl, hp⟩ := hp.chkd
    refine ⟨S, ds, hs, rv, ?_⟩
    unfold chk
    rw [if_pos hl]
    cases eg : g' ds with
    | ok d => rw [h ds _ eg (by rw [eg]; exact fun z => nomatch z)]; rw [eg] at hp; exact hp
    | ex c fs => rw [h ds _ eg (by rw [eg]; exact fun z => nomatch z)]; rw [eg] at hp; exact hp
    | er => rw [eg] at hp; exact hp.elim
end
section
variable {X : Cx} {E : WX} {m : Mds} {md : Md} {a b e : Expr} {es : List Expr} {fa fb : Env → Res D} {fs : Env → Res (List D)} {pos p : Pos} {x : Str} {k np : Nat} {f : Addr} {fd : FuncData} {ps : List Str} {g : List D → Res D}
/-- the def of this name keeps its promise -/
def Keeps (P : Program) (w : World) (K : PySem.W.Frag) (mg : Str → Option Value) (base : Heap) (x : Str) (k : Nat) (ps : List Str) (np : Nat) (md : Md) (g : List D → Res D) : Prop :=
  ∃ f fd, mg x = some (.ref f) ∧ PySem.W.keepIn K (.ref f) = true ∧ Binds K fd ps [] ∧ FnOk P w K mg base (L2.CX P w) k f fd ps (spD K mg np md g)
/-- the def of this name as it stands behind the top -/
def DefAt (K : PySem.W.Frag) (mg : Str → Option Value) (x qual : Str) (st : Stmt) (ps : List Str) : Prop := ∃ f fd, Fun K x qual st f fd ∧ Binds K fd ps [] ∧ mg x = some (.ref f)
theorem keeps_of {P : Program} {w : World} {K : PySem.W.Frag} {mg : Str → Option Value} {base : Heap} {x qual : Str} {st : Stmt} {ps N : List Str} {k : Nat} {md : Md} {F : FS} (dA : DefAt K mg x qual st ps) (Sc : FnScope N ps (defScope st)) (hnp : ps.length ≤ N.length)
    (h : ∀ (f : Addr) (cdv : Value) (A : Around) (outer : List PySem.Env) (s : Shared) (H : Hp) (E : XK), Room k (A.deeper (PyProof.Rows.envOfC qual (defScope st) s.heap.objs.size f cdv)) →
      JSs (cxOf (L2.CX P w) P w K mg base N qual (defScope st) f cdv A outer s H E) (fun cls d _ H => E cls d H) ⟨[], [], md⟩ (msh N.length) (msh N.length) (defBody st) F) : Keeps P w K mg base x (k + 1) ps ps.length md (runF N.length md F) := by
  obtain ⟨f, fd, Fn, bd, gl⟩ := dA
  exact ⟨f, fd, gl, Fn.kp, bd, fn_ok Fn Sc hnp (h f)⟩
/-- of what never gives anything -/
theorem keeps_er {P : Program} {w : World} {K : PySem.W.Frag} {mg : Str → Option Value} {base : Heap} {x qual : Str} {st : Stmt} {ps : List Str} {k np : Nat} {md : Md} (dA : DefAt K mg x qual st ps) : Keeps P w K mg base x k ps np md (fun _ => .er) := by
  obtain ⟨f, fd, Fn, bd, gl⟩ := dA
  have no : ∀ vs H Q E, spD K mg np md (fun _ => .er) vs H Q E → False := fun vs H Q E ⟨S, ds, hs, rv, hp⟩ => hp.chkd.2
  exact ⟨f, fd, gl, Fn.kp, bd, ⟨fun vs H Q E h => (no vs H Q E h).elim, fun A outer s H args us vs Q E hr he hb hv h => (no vs H Q E h).elim⟩⟩
theorem Keeps.as {P : Program} {w : World} {K : PySem.W.Frag} {mg : Str → Option Value} {base : Heap} {x : Str} {ps : List Str} {k np : Nat} {md : Md} {g g' : List D → Res D} (G : Keeps P w K mg base x k ps np md g) (h : ∀ ds d, g' ds = d → g' ds ≠ .er → g ds = d) : Keeps P w K mg base x k ps np md g' := by
  obtain ⟨f, fd, e1, e2, e3, G⟩ := G
  exact ⟨f, fd, e1, e2, e3, fn_as G h⟩
theorem Keeps.mono {P : Program} {w : World} {K : PySem.W.Frag} {mg : Str → Option Value} {base : Heap} {x : Str} {ps : List Str} {k k' np : Nat} {md : Md} {g : List D → Res D} (G : Keeps P w K mg base x k ps np md g) (h : k ≤ k') : Keeps P w K mg base x k' ps np md g := by
  obtain ⟨f, fd, e1, e2, e3, G⟩ := G
  exact ⟨f, fd, e1, e2, e3, G.mono h⟩
theorem je_call (G : Keeps X.prog X.w X.K X.mg X.base x k ps np md g) (hr : Room k X.A) (tk : Takes X E)
    (ha : JA X E m (e :: es) fs) (hg : Gl X x := by rfl) (hdb : (x == ("__debug__" : Str)) = false := by decide) (he : starEach (e :: es) X.env = (false, eval e X.env) :: starEach es X.env := by rfl) (hpl : (backTo pos (starEach es X.env)).any (·.1) = false := by rfl) :
    JE X E m md (.Call (.Name x p) (e :: es) [] pos) (fOn (chk np g) fs) := by
  obtain ⟨f, fd, hm, hk, hb, G⟩ := G
  refine ⟨PEimp (pe_callS G hr hg hm hk hb (fun σ => passAt tk σ) ha.pa hdb he hpl) fun σ H Q h => ?_⟩
  obtain ⟨S, ρ, hm, hp⟩ := h
  exact ⟨S, ρ, hm, (Post.bind hp).imp fun ds S1 H1 s1 h1 vs rs => ⟨S1, ds, s1.sub, rs, h1⟩⟩
/-- an own new list that is not kept as one's own -/
theorem je_share (h : JE X E m md e fa) : JE X E m .sh e fa := by
  refine ⟨PEimp h.pe fun σ H Q q => ?_⟩
  obtain ⟨S, ρ, hm, hp⟩ := q
  refine ⟨S, ρ, hm, ?_⟩
  cases ef : fa ρ with
  | ok d =>
    rw [ef] at hp
    intro v S1 H1 fp s1 o hn hf
    let A : Addr → Prop := fun a => a ∈ fp
    have ho : ∀ a, A a → S1 a = none := fun a ha => (o.out ha).1
    refine hp v (take S1 H1 A) H1 [] ⟨s1.hh, s1.ss.trans (take_same s1.sub ho), take_sub s1.sub, fun a x => ?_⟩ ⟨o.shared s1.sub ho fun a ha => ha, rfl⟩ List.nodup_nil (fun a z => nomatch z)
    by_cases z : A a
    · exact .inr (hf a z)
    · rw [take_out z] at x
      exact s1.new a x
  | ex c fs => rw [ef] at hp; exact hp
  | er => rw [ef] at hp; exact hp.elim
end
/-! ### built-in functions -/
section
variable {K : PySem.W.Frag} {mg : Str → Option Value}
theorem repl1 {S : Hp} {vs : List V} {d : D} (r : RepL K mg S vs [d]) : ∃ v, vs = [v] ∧ Rep K mg S v d := by
  match vs, r with
  | [], r => have := r.len; simp at this
  | [v], r => exact ⟨v, rfl, r.head⟩
  | _ :: _ :: _, r => have := r.len; simp at this
theorem repl2 {S : Hp} {vs : List V} {d e : D} (r : RepL K mg S vs [d, e]) : ∃ v w, vs = [v, w] ∧ Rep K mg S v d ∧ Rep K mg S w e := by
  match vs, r with
  | [], r => have := r.len; simp at this
  | [v], r => have := r.len; simp at this
  | [v, w], r => exact ⟨v, w, rfl, r.head, r.tail.head⟩
  | _ :: _ :: _ :: _, r => have := r.len; simp at this
/-- a rule of one argument -/
def on1 (g : D → Res D) : List D → Res D
  | [d] => g d
  | _ => .er
def on2 (g : D → D → Res D) : List D → Res D
  | [d, e] => g d e
  | _ => .er
theorem calld1 {md : Md} {r : List V → Hp → VK → Prop} {g : D → Res D} (h : ∀ (E : XK) (S H : Hp) (x : V) (d : D) (Q : VK), Same S H → Rep K mg S x d → Post K mg E S H md (g d) Q → r [x] H Q) : CallD K mg md r (on1 g) := by
  intro E S H xs ds Q hs rv hp
  match ds with
  | [] => exact hp.elim
  | [d] =>
    obtain ⟨v, rfl, rd⟩ := repl1 rv
    exact h E S H v d Q hs rd hp
  | _ :: _ :: _ => exact hp.elim
theorem calld2 {md : Md} {r : List V → Hp → VK → Prop} {g : D → D → Res D} (h : ∀ (E : XK) (S H : Hp) (x y : V) (d e : D) (Q : VK), Same S H → Rep K mg S x d → Rep K mg S y e → Post K mg E S H md (g d e) Q → r [x, y] H Q) : CallD K mg md r (on2 g) := by
  intro E S H xs ds Q hs rv hp
  match ds with
  | [] => exact hp.elim
  | [d] => exact hp.elim
  | [d, e] =>
    obtain ⟨v, w, rfl, rd, re⟩ := repl2 rv
    exact h E S H v w d e Q hs rd re hp
  | _ :: _ :: _ :: _ => exact hp.elim
def dLen : D → Res D
  | .lst xs => .ok (.int xs.length)
  | .frl xs => .ok (.int xs.length)
  | .tup xs => .ok (.int xs.length)
  | .str z => if szOk z.length = true then .ok (.int z.length) else .er
  | _ => .er
theorem calld_len : CallD K mg .sh (fun xs H Q => ∃ x n, xs = [x] ∧ LenV K x H n ∧ Q (.int n) H) (on1 dLen) := calld1 fun E S H x d Q hs rx hp => by
  cases d with
  | lst ds =>
    obtain ⟨a, vs, rfl, ha, rv⟩ := rx.of_lst
    exact ⟨_, vs.length, rfl, .inl ⟨_, .inl (.inl (hs _ _ ha)), rfl⟩, by rw [rv.len]; exact Post.val hp hs (.int _)⟩
  | frl ds =>
    obtain ⟨a, vs, rfl, ha, rv⟩ := rx.of_frl
    exact ⟨_, vs.length, rfl, .inl ⟨_, same_l hs ha, rfl⟩, by rw [rv.len]; exact Post.val hp hs (.int _)⟩
  | tup ds =>
    obtain ⟨a, vs, rfl, ha, rv⟩ := rx.of_tup
    exact ⟨_, vs.length, rfl, .inr ⟨_, same_t hs ha, rfl⟩, by rw [rv.len]; exact Post.val hp hs (.int _)⟩
  | str z =>
    obtain ⟨hz, hp⟩ := Post.of_if hp
    cases rx
    exact ⟨_, z.length, rfl, ⟨szOk_ok hz, rfl⟩, hp.val hs (.int _)⟩
  | _ => exact hp.elim
def dInt : D → Res D
  | .int i => .ok (.int i)
  | .bl b => .ok (.int (if b then 1 else 0))
  | _ => .er
def dAbs : D → Res D
  | .int i => .ok (.int (if i < 0 then -i else i))
  | _ => .er
def dMax2 : D → D → Res D
  | .int i, .int j => .ok (.int (if j > i then j else i))
  | _, _ => .er
def dMin2 : D → D → Res D
  | .int i, .int j => .ok (.int (if j < i then j else i))
  | _, _ => .er
end
section
variable {X : Cx} {E : WX} {m : Mds} {md : Md} {a b e : Expr} {es : List Expr} {fs : Env → Res (List D)} {pos p : Pos}
theorem je_len (hm : X.mg "len" = none) (ha : JA X E m [e] fs) (hg : Gl X "len" := by rfl) (he : starEach [e] X.env = (false, eval e X.env) :: starEach [] X.env := by rfl) : JE X E m .sh (.Call (.Name "len" p) [e] [] pos) (fOn (on1 dLen) fs) :=
  je_callB call_len calld_len hm ha hg boot_len (by decide) (by decide) he (by rfl)
theorem je_int_ (hm : X.mg "int" = none) (ha : JA X E m [e] fs) (hg : Gl X "int" := by rfl) (he : starEach [e] X.env = (false, eval e X.env) :: starEach [] X.env := by rfl) : JE X E m .sh (.Call (.Name "int" p) [e] [] pos) (fOn (on1 dInt) fs) :=
  je_callTy call_int1 (calld1 fun E S H x d Q hs rx hp => by
    cases d with
    | int i => cases rx; exact .inl ⟨i, rfl, Post.val hp hs (.int _)⟩
    | bl i => cases rx; exact .inr ⟨i, rfl, Post.val hp hs (.int _)⟩
    | _ => exact hp.elim) hm ha hg (by decide +kernel) (by decide) (by decide) he (by rfl)
theorem je_abs (hm : X.mg "abs" = none) (ha : JA X E m [e] fs) (hg : Gl X "abs" := by rfl) (he : starEach [e] X.env = (false, eval e X.env) :: starEach [] X.env := by rfl) : JE X E m .sh (.Call (.Name "abs" p) [e] [] pos) (fOn (on1 dAbs) fs) :=
  je_callB call_abs (calld1 fun E S H x d Q hs rx hp => by
    cases d with
    | int i => cases rx; exact ⟨i, rfl, Post.val hp hs (.int _)⟩
    | _ => exact hp.elim) hm ha hg (by decide +kernel) (by decide) (by decide) he (by rfl)
theorem je_max2 (hm : X.mg "max" = none) (ha : JA X E m [a, b] fs) (hc : X.calm = true := by rfl) (hg : Gl X "max" := by rfl) (he : starEach [a, b] X.env = (false, eval a X.env) :: starEach [b] X.env := by rfl) (hpl : (backTo pos (starEach [b] X.env)).any (·.1) = false := by rfl) : JE X E m .sh (.Call (.Name "max" p) [a, b] [] pos) (fOn (on2 dMax2) fs) :=
  je_callB (call_max2 hc) (calld2 fun E S H x y d e Q hs rx ry hp => by
    cases d with
    | int i =>
      cases e with
      | int j => cases rx; cases ry; exact ⟨i, j, rfl, Post.val hp hs (.int _)⟩
      | _ => exact hp.elim
    | _ => exact hp.elim) hm ha hg (by decide +kernel) (by decide) (by decide) he hpl
theorem je_min2 (hm : X.mg "min" = none) (ha : JA X E m [a, b] fs) (hc : X.calm = true := by rfl) (hg : Gl X "min" := by rfl) (he : starEach [a, b] X.env = (false, eval a X.env) :: starEach [b] X.env := by rfl) (hpl : (backTo pos (starEach [b] X.env)).any (·.1) = false := by rfl) : JE X E m .sh (.Call (.Name "min" p) [a, b] [] pos) (fOn (on2 dMin2) fs) :=
  je_callB (call_min2 hc) (calld2 fun E S H x y d e Q hs rx ry hp => by
    cases d with
    | int i =>
      cases e with
      | int j => cases rx; cases ry; exact ⟨i, j, rfl, Post.val hp hs (.int _)⟩
      | _ => exact hp.elim
    | _ => exact hp.elim) hm ha hg (by decide +kernel) (by decide) (by decide) he hpl
end
end Da
namespace Da
open PySem PySem.Spec L2
/-! ### data compared -/
mutual
def D.py : D → Option PyData
  | .non => some .none
  | .bl b => some (.bool b)
  | .int i => some (.int i)
  | .str x => some (.str x)
  | .lst xs => match D.pys xs with
    | some ys => some (.list ys)
    | none => none
  | .tup xs => match D.pys xs with
    | some ys => some (.tuple ys)
    | none => none
  | _ => none
def D.pys : List D → Option (List PyData)
  | [] => some []
  | x :: xs => match D.py x, D.pys xs with
    | some y, some ys => some (y :: ys)
    | _, _ => none
end
section
variable {K : PySem.W.Frag} {mg : Str → Option Value} {S : Hp}
mutual
theorem dp_of : ∀ (d : D) (v : V) (y : PyData), Rep K mg S v d → D.py d = some y → Dp K S v y
  | .non, v, y, h, e => by cases h; cases e; exact .non
  | .bl b, v, y, h, e => by cases h; cases e; exact .bl b
  | .int i, v, y, h, e => by cases h; cases e; exact .int i
  | .str x, v, y, h, e => by cases h; cases e; exact .str x
  | .lst xs, v, y, h, e => by
    unfold D.py at e
    split at e
    · rename_i ys ey
      cases e
      obtain ⟨a, vs, rfl, ha, r⟩ := h.of_lst
      exact .lst (.inl (.inl ha)) (dps_of xs vs ys r ey)
    · cases e
  | .tup xs, v, y, h, e => by
    unfold D.py at e
    split at e
    · rename_i ys ey
      cases e
      obtain ⟨a, vs, rfl, ha, r⟩ := h.of_tup
      exact .tup ha (dps_of xs vs ys r ey)
    · cases e
  | .frl xs, v, y, h, e => by simp [D.py] at e
  | .dic ks vs, v, y, h, e => by simp [D.py] at e
  | .dit ks vs, v, y, h, e => by simp [D.py] at e
  | .obj c ns vs, v, y, h, e => by simp [D.py] at e
theorem dps_of : ∀ (ds : List D) (vs : List V) (ys : List PyData), RepL K mg S vs ds → D.pys ds = some ys → DpAll K S vs ys
  | [], vs, ys, r, e => by
    cases e
    rw [r.nil_iff.mpr rfl]
    exact .nil
  | d :: ds, vs, ys, r, e => by
    unfold D.pys at e
    split at e
    · rename_i y ys' e1 e2
      cases e
      match vs, r with
      | [], r => have := r.len; simp at this
      | v :: vs, r => exact .cons (dp_of d v y r.head e1) (dps_of ds vs ys' r.tail e2)
    · cases e
end
theorem dp_mono {H : Hp} (h : Same S H) : ∀ {v : V} {y : PyData}, Dp K S v y → Dp K H v y := fun {v y} x => Dp.rec (motive_1 := fun v y _ => Dp K H v y) (motive_2 := fun vs ys _ => DpAll K H vs ys)
  .non .bl .int .str (fun a _ ih => .lst (same_l h a) ih) (fun a _ ih => .tup (same_t h a) ih) .nil (fun _ _ a b => .cons a b) x
end
/-- are they equal -/
def eqD (x y : D) : Res Bool := match D.py x, D.py y with
  | some a, some b => if (SeqAt.shaped a && SeqAt.shaped b) = true then .ok (PyData.eqv a b) else .er
  | _, _ => .er
def dEq (x y : D) : Res D := (eqD x y).bind fun b => .ok (.bl b)
def dNe (x y : D) : Res D := (eqD x y).bind fun b => .ok (.bl (!b))
/-- is one among them -/
def inD (x : D) (ys : List D) : Res Bool := match D.py x, D.pys ys with
  | some a, some bs => if (SeqAt.shaped a && SeqAt.shaped (.list bs)) = true then .ok (bs.any fun z => PyData.eqv z a) else .er
  | _, _ => .er
def dIn (x y : D) : Res D := match y with
  | .lst ys => (inD x ys).bind fun b => .ok (.bl b)
  | .tup ys => (inD x ys).bind fun b => .ok (.bl b)
  | _ => .er
def dNotIn (x y : D) : Res D := match y with
  | .lst ys => (inD x ys).bind fun b => .ok (.bl (!b))
  | .tup ys => (inD x ys).bind fun b => .ok (.bl (!b))
  | _ => .er
section
variable {K : PySem.W.Frag} {mg : Str → Option Value} {E : XK} {S H : Hp}
theorem eqD_ok {x y : D} {r : Bool → Res D} {Q : VK} (h : Post K mg E S H .sh ((eqD x y).bind r) Q) : ∃ a b, D.py x = some a ∧ D.py y = some b ∧ SeqAt.shaped a = true ∧ SeqAt.shaped b = true ∧ Post K mg E S H .sh (r (PyData.eqv a b)) Q := by
  unfold eqD at h
  split at h
  · rename_i a b ea eb
    split at h
    · rename_i hs
      have hs := Bool.and_eq_true_iff.mp hs
      exact ⟨a, b, ea, eb, hs.1, hs.2, h⟩
    · exact h.elim
  · exact h.elim
theorem inD_ok {x : D} {ys : List D} {r : Bool → Res D} {Q : VK} (h : Post K mg E S H .sh ((inD x ys).bind r) Q) : ∃ a bs, D.py x = some a ∧ D.pys ys = some bs ∧ SeqAt.shaped a = true ∧ SeqAt.shaped (.list bs) = true ∧ Post K mg E S H .sh (r (bs.any fun z => PyData.eqv z a)) Q := by
  unfold inD at h
  split at h
  · rename_i a b ea eb
    split at h
    · rename_i hs
      have hs := Bool.and_eq_true_iff.mp hs
      exact ⟨a, b, ea, eb, hs.1, hs.2, h⟩
    · exact h.elim
  · exact h.elim
theorem opd_eq : OpD K mg .sh (rEqD K) dEq := by
  intro E S H x y dx dy Q hs rx ry h
  obtain ⟨a, b, ea, eb, sa, sb, h⟩ := eqD_ok h
  exact ⟨a, b, dp_mono hs (dp_of dx x a rx ea), dp_mono hs (dp_of dy y b ry eb), sa, sb, Post.val h hs (.bl _)⟩
theorem opd_ne : OpD K mg .sh (rNeD K) dNe := by
  intro E S H x y dx dy Q hs rx ry h
  obtain ⟨a, b, ea, eb, sa, sb, h⟩ := eqD_ok h
  exact ⟨a, b, dp_mono hs (dp_of dx x a rx ea), dp_mono hs (dp_of dy y b ry eb), sa, sb, Post.val h hs (.bl _)⟩
end
theorem canLayL {bs : List PyData} (h : SeqAt.shaped (.list bs) = true) : PyData.canLayAll0 bs = true := by
  have := SeqAt.canLay_of_shaped h
  unfold PyData.canLay0 at this
  exact this
section
variable {X : Cx}
def rInT (K : PySem.W.Frag) : R2 := fun x y H Q => ∃ d ds, Dp K H x d ∧ Dp K H y (.tuple ds) ∧ SeqAt.shaped d = true ∧ SeqAt.shaped (.list ds) = true ∧ Q (.bl (ds.any fun z => PyData.eqv z d)) H
def rNotInT (K : PySem.W.Frag) : R2 := fun x y H Q => ∃ d ds, Dp K H x d ∧ Dp K H y (.tuple ds) ∧ SeqAt.shaped d = true ∧ SeqAt.shaped (.list ds) = true ∧ Q (.bl (!ds.any fun z => PyData.eqv z d)) H
theorem room_in {A : Around} {d : PyData} {ds : List PyData} (hd : SeqAt.shaped d = true) (hu : A.units + 65 < cLine) : A.units + 1 + min (PyData.depthAll ds) d.depth < cLine := by
  have h1 := SeqAt.depth_of_shaped hd
  have h2 := Nat.min_le_right (PyData.depthAll ds) d.depth
  omega
theorem op_inT (hu : X.A.units + 65 < cLine) : OpR X (compareOp .In) (rInT X.K) := fun pins s σ H x y v u Q I rx ry h => by
  obtain ⟨d, ds, hd, he, sd, se, q⟩ := h
  obtain ⟨as, r1⟩ := Dp.reads I d x v hd rx
  obtain ⟨bs, r2⟩ := Dp.reads I (.tuple ds) y u he ry
  exact SeqAt.in_tuple_reads r2 r1 (canLayL se) (SeqAt.canLay_of_shaped sd) (room_in sd hu) ⟨.bl _, H, I, rfl, q⟩
theorem op_notInT (hu : X.A.units + 65 < cLine) : OpR X (compareOp .NotIn) (rNotInT X.K) := fun pins s σ H x y v u Q I rx ry h => by
  obtain ⟨d, ds, hd, he, sd, se, q⟩ := h
  obtain ⟨as, r1⟩ := Dp.reads I d x v hd rx
  obtain ⟨bs, r2⟩ := Dp.reads I (.tuple ds) y u he ry
  exact SeqAt.notIn_tuple_reads r2 r1 (canLayL se) (SeqAt.canLay_of_shaped sd) (room_in sd hu) ⟨.bl _, H, I, rfl, q⟩
end
section
variable {K : PySem.W.Frag} {mg : Str → Option Value}
theorem pys_lst {ys : List D} {bs : List PyData} (h : D.pys ys = some bs) : D.py (.lst ys) = some (.list bs) := by unfold D.py; rw [h]
theorem pys_tup {ys : List D} {bs : List PyData} (h : D.pys ys = some bs) : D.py (.tup ys) = some (.tuple bs) := by unfold D.py; rw [h]
theorem opd_in : OpD K mg .sh (fun x y H Q => rInD K x y H Q ∨ rInT K x y H Q) dIn := by
  intro E S H x y dx dy Q hs rx ry h
  cases dy with
  | lst ys =>
    obtain ⟨a, bs, ea, eb, sa, sb, h⟩ := inD_ok h
    exact .inl ⟨a, bs, dp_mono hs (dp_of dx x a rx ea), dp_mono hs (dp_of _ y _ ry (pys_lst eb)), sa, sb, Post.val h hs (.bl _)⟩
  | tup ys =>
    obtain ⟨a, bs, ea, eb, sa, sb, h⟩ := inD_ok h
    exact .inr ⟨a, bs, dp_mono hs (dp_of dx x a rx ea), dp_mono hs (dp_of _ y _ ry (pys_tup eb)), sa, sb, Post.val h hs (.bl _)⟩
  | _ => exact h.elim
theorem opd_notIn : OpD K mg .sh (fun x y H Q => rNotInD K x y H Q ∨ rNotInT K x y H Q) dNotIn := by
  intro E S H x y dx dy Q hs rx ry h
  cases dy with
  | lst ys =>
    obtain ⟨a, bs, ea, eb, sa, sb, h⟩ := inD_ok h
    exact .inl ⟨a, bs, dp_mono hs (dp_of dx x a rx ea), dp_mono hs (dp_of _ y _ ry (pys_lst eb)), sa, sb, Post.val h hs (.bl _)⟩
  | tup ys =>
    obtain ⟨a, bs, ea, eb, sa, sb, h⟩ := inD_ok h
    exact .inr ⟨a, bs, dp_mono hs (dp_of dx x a rx ea), dp_mono hs (dp_of _ y _ ry (pys_tup eb)), sa, sb, Post.val h hs (.bl _)⟩
  | _ => exact h.elim
/-! is None, is True, is False -/
def dIsN : D → Res D
  | .non => .ok (.bl true)
  | _ => .ok (.bl false)
def dIsB (c : Bool) : D → Res D
  | .bl b => .ok (.bl (b == c))
  | _ => .ok (.bl false)
def dNot1 (g : D → Res D) : D → Res D := fun d => (g d).bind fun b => match b with
  | .bl b => .ok (.bl (!b))
  | _ => .er
theorem non_iff {S : Hp} {v : V} {d : D} (r : Rep K mg S v d) : dIsN d = .ok (.bl (decide (v = .non))) := by
  cases r <;> rfl
theorem bl_iff {S : Hp} {v : V} {d : D} {c : Bool} (r : Rep K mg S v d) : dIsB c d = .ok (.bl (decide (v = .bl c))) := by
  cases r with
  | bl b => cases b <;> cases c <;> rfl
  | _ => rfl
end
section
variable {X : Cx}
def rIsB1 (c : Bool) : R2 := fun x y H Q => y = .bl c ∧ Q (.bl (decide (x = .bl c))) H
def rNotB1 (c : Bool) : R2 := fun x y H Q => y = .bl c ∧ Q (.bl (!decide (x = .bl c))) H
theorem plainB {x : V} {v : Value} {c : Bool} (r : RelV x v) : plainIs v (.bool c) = true ∧ (decide (x = .bl c) = (v == .bool c)) := by
  cases x with
  | non => cases r; exact ⟨rfl, rfl⟩
  | bl b => cases r; cases b <;> cases c <;> exact ⟨rfl, rfl⟩
  | int i => obtain ⟨t, rfl⟩ := r; exact ⟨rfl, rfl⟩
  | str i => obtain ⟨t, rfl⟩ := r; exact ⟨rfl, rfl⟩
  | byt i => obtain ⟨t, rfl⟩ := r; exact ⟨rfl, rfl⟩
  | flt i => obtain ⟨t, rfl⟩ := r; exact ⟨rfl, rfl⟩
  | ref a => cases r; exact ⟨rfl, rfl⟩
  | ty n => cases r; exact ⟨rfl, rfl⟩
theorem op_isB1 (c : Bool) : OpR X (compareOp .Is) (rIsB1 c) := fun pins s σ H x y v u Q I rx ry h => by
  obtain ⟨rfl, q⟩ := h
  cases ry
  obtain ⟨h1, h2⟩ := plainB (c := c) rx
  exact wpAny_is_plain h1 ⟨.bl _, H, I, by rw [← h2]; rfl, q⟩
theorem op_notB1 (c : Bool) : OpR X (compareOp .IsNot) (rNotB1 c) := fun pins s σ H x y v u Q I rx ry h => by
  obtain ⟨rfl, q⟩ := h
  cases ry
  obtain ⟨h1, h2⟩ := plainB (c := c) rx
  exact wpAny_isNot_plain h1 ⟨.bl _, H, I, by rw [← h2]; rfl, q⟩
end
section
variable {X : Cx} {E : WX} {m : Mds} {md : Md} {a b e : Expr} {es : List Expr} {fa fb : Env → Res D} {fs : Env → Res (List D)} {pos p pc : Pos} {k j : Nat}
theorem hu65 {A : Around} {k : Nat} (hr : Room k A) : A.units + 65 < cLine := by have := hr.un; omega
theorem je_eq (hr : Room k X.A) (ha : JE X E m .sh a fa) (hb : JE X E m .sh b fb) : JE X E m .sh (.Compare a [.Eq] [b] pos) (f2 dEq fa fb) := je_cmp (op_eqD hr.units) opd_eq ha hb (nomark _)
theorem je_ne (hr : Room k X.A) (ha : JE X E m .sh a fa) (hb : JE X E m .sh b fb) : JE X E m .sh (.Compare a [.NotEq] [b] pos) (f2 dNe fa fb) := je_cmp (op_neD hr.units) opd_ne ha hb (nomark _)
theorem je_in (hr : Room k X.A) (ha : JE X E m .sh a fa) (hb : JE X E m .sh b fb) (hm : behindInMarks .In b = false := by rfl) : JE X E m .sh (.Compare a [.In] [b] pos) (f2 dIn fa fb) := je_cmp (OpR.or (op_inD (hu65 hr)) (op_inT (hu65 hr))) opd_in ha hb hm
theorem je_notIn (hr : Room k X.A) (ha : JE X E m .sh a fa) (hb : JE X E m .sh b fb) (hm : behindInMarks .NotIn b = false := by rfl) : JE X E m .sh (.Compare a [.NotIn] [b] pos) (f2 dNotIn fa fb) := je_cmp (OpR.or (op_notInD (hu65 hr)) (op_notInT (hu65 hr))) opd_notIn ha hb hm
theorem jt_eq (hr : Room k X.A) (ha : JE X E m .sh a fa) (hb : JE X E m .sh b fb) : JT X E m (.Compare a [.Eq] [b] pos) (fB (f2 dEq fa fb)) := jt_cmp (op_eqD hr.units) opd_eq ha hb (nomark _)
theorem jt_ne (hr : Room k X.A) (ha : JE X E m .sh a fa) (hb : JE X E m .sh b fb) : JT X E m (.Compare a [.NotEq] [b] pos) (fB (f2 dNe fa fb)) := jt_cmp (op_neD hr.units) opd_ne ha hb (nomark _)
theorem jt_in (hr : Room k X.A) (ha : JE X E m .sh a fa) (hb : JE X E m .sh b fb) (hm : behindInMarks .In b = false := by rfl) : JT X E m (.Compare a [.In] [b] pos) (fB (f2 dIn fa fb)) := jt_cmp (OpR.or (op_inD (hu65 hr)) (op_inT (hu65 hr))) opd_in ha hb hm
theorem jt_notIn (hr : Room k X.A) (ha : JE X E m .sh a fa) (hb : JE X E m .sh b fb) (hm : behindInMarks .NotIn b = false := by rfl) : JT X E m (.Compare a [.NotIn] [b] pos) (fB (f2 dNotIn fa fb)) := jt_cmp (OpR.or (op_notInD (hu65 hr)) (op_notInT (hu65 hr))) opd_notIn ha hb hm
/-! is -/
theorem un_tE {K : PySem.W.Frag} {mg : Str → Option Value} {r : R2} {g : D → Res D} {c : V} {d0 : D} (hr : ∀ (E : XK) (S H : Hp) (x : V) (d : D) (Q : VK), Same S H → Rep K mg S x d → Post K mg E S H .sh (g d) Q → r x c H Q) {σ : L2.St} {H : Hp} {Q : VK}
    (h : tE K mg E m .sh (f1 g fa) σ H Q) : tOp r (tE K mg E m .sh fa) (tC c) σ H Q := by
  obtain ⟨S, ρ, hm, hp⟩ := h
  exact ⟨S, ρ, hm, (Post.bind hp).post fun dx v S1 H1 s1 r1 h1 => hr _ S1 H1 v dx Q s1.sub r1 h1⟩
theorem isN_ok {K : PySem.W.Frag} {mg : Str → Option Value} (E : XK) (S H : Hp) (x : V) (d : D) (Q : VK) (hs : Same S H) (r : Rep K mg S x d) (h : Post K mg E S H .sh (dIsN d) Q) : Q (.bl (decide (x = .non))) H := by
  rw [non_iff r] at h
  exact h.val hs (.bl _)
theorem notN_ok {K : PySem.W.Frag} {mg : Str → Option Value} (E : XK) (S H : Hp) (x : V) (d : D) (Q : VK) (hs : Same S H) (r : Rep K mg S x d) (h : Post K mg E S H .sh (dNot1 dIsN d) Q) : Q (.bl (!decide (x = .non))) H := by
  unfold dNot1 at h
  rw [non_iff r] at h
  exact Post.val h hs (.bl _)
theorem isB_ok {K : PySem.W.Frag} {mg : Str → Option Value} {c : Bool} (E : XK) (S H : Hp) (x : V) (d : D) (Q : VK) (hs : Same S H) (r : Rep K mg S x d) (h : Post K mg E S H .sh (dIsB c d) Q) : Q (.bl (decide (x = .bl c))) H := by
  rw [bl_iff r] at h
  exact h.val hs (.bl _)
theorem notB_ok {K : PySem.W.Frag} {mg : Str → Option Value} {c : Bool} (E : XK) (S H : Hp) (x : V) (d : D) (Q : VK) (hs : Same S H) (r : Rep K mg S x d) (h : Post K mg E S H .sh (dNot1 (dIsB c) d) Q) : Q (.bl (!decide (x = .bl c))) H := by
  unfold dNot1 at h
  rw [bl_iff r] at h
  exact Post.val h hs (.bl _)
theorem tT_of {K : PySem.W.Frag} {mg : Str → Option Value} {f : Env → Res D} {t : TE} (ht : ∀ σ H Q, tE K mg E m .sh f σ H Q → t σ H Q) {σ : L2.St} {H : Hp} {Q : Bool → Hp → Prop} (h : tT K mg E m (fB f) σ H Q) : tTest t σ H Q := by
  obtain ⟨S, ρ, hm, hp⟩ := h
  refine ht σ H _ ⟨S, ρ, hm, (PostW.bind hp).post fun d v S1 H1 s1 r k => ?_⟩
  cases d with
  | bl c => cases r; exact ⟨c, rfl, k S1 H1 (Step.refl s1.sub)⟩
  | _ => exact k.elim
theorem je_isN (ha : JE X E m .sh a fa) : JE X E m .sh (.Compare a [.Is] [.Constant .none j pc] pos) (f1 dIsN fa) := ⟨PEimp (pe_cmpR op_isN ha.pe pe_non (nomark _)) fun σ H Q h => un_tE (d0 := .non) (fun E S H x d Q hs r h => ⟨rfl, isN_ok E S H x d Q hs r h⟩) h⟩
theorem je_notN (ha : JE X E m .sh a fa) : JE X E m .sh (.Compare a [.IsNot] [.Constant .none j pc] pos) (f1 (dNot1 dIsN) fa) := ⟨PEimp (pe_cmpR op_notN ha.pe pe_non (nomark _)) fun σ H Q h => un_tE (d0 := .non) (fun E S H x d Q hs r h => ⟨rfl, notN_ok E S H x d Q hs r h⟩) h⟩
theorem je_isB {c : Bool} (ha : JE X E m .sh a fa) : JE X E m .sh (.Compare a [.Is] [.Constant (.bool c) j pc] pos) (f1 (dIsB c) fa) := ⟨PEimp (pe_cmpR (op_isB1 c) ha.pe pe_bl (nomark _)) fun σ H Q h => un_tE (d0 := .non) (fun E S H x d Q hs r h => ⟨rfl, isB_ok E S H x d Q hs r h⟩) h⟩
theorem je_notB {c : Bool} (ha : JE X E m .sh a fa) : JE X E m .sh (.Compare a [.IsNot] [.Constant (.bool c) j pc] pos) (f1 (dNot1 (dIsB c)) fa) := ⟨PEimp (pe_cmpR (op_notB1 c) ha.pe pe_bl (nomark _)) fun σ H Q h => un_tE (d0 := .non) (fun E S H x d Q hs r h => ⟨rfl, notB_ok E S H x d Q hs r h⟩) h⟩
theorem jt_isN (ha : JE X E m .sh a fa) : JT X E m (.Compare a [.Is] [.Constant .none j pc] pos) (fB (f1 dIsN fa)) := ⟨PTimp (pt_cmpR op_isN ha.pe pe_non (nomark _)) fun σ H Q h => tT_of (fun σ H Q h => un_tE (d0 := .non) (fun E S H x d Q hs r h => ⟨rfl, isN_ok E S H x d Q hs r h⟩) h) h⟩
theorem jt_notN (ha : JE X E m .sh a fa) : JT X E m (.Compare a [.IsNot] [.Constant .none j pc] pos) (fB (f1 (dNot1 dIsN) fa)) := ⟨PTimp (pt_cmpR op_notN ha.pe pe_non (nomark _)) fun σ H Q h => tT_of (fun σ H Q h => un_tE (d0 := .non) (fun E S H x d Q hs r h => ⟨rfl, notN_ok E S H x d Q hs r h⟩) h) h⟩
theorem jt_isB {c : Bool} (ha : JE X E m .sh a fa) : JT X E m (.Compare a [.Is] [.Constant (.bool c) j pc] pos) (fB (f1 (dIsB c) fa)) := ⟨PTimp (pt_cmpR (op_isB1 c) ha.pe pe_bl (nomark _)) fun σ H Q h => tT_of (fun σ H Q h => un_tE (d0 := .non) (fun E S H x d Q hs r h => ⟨rfl, isB_ok E S H x d Q hs r h⟩) h) h⟩
theorem jt_notB {c : Bool} (ha : JE X E m .sh a fa) : JT X E m (.Compare a [.IsNot] [.Constant (.bool c) j pc] pos) (fB (f1 (dNot1 (dIsB c)) fa)) := ⟨PTimp (pt_cmpR (op_notB1 c) ha.pe pe_bl (nomark _)) fun σ H Q h => tT_of (fun σ H Q h => un_tE (d0 := .non) (fun E S H x d Q hs r h => ⟨rfl, notB_ok E S H x d Q hs r h⟩) h) h⟩
end
/-! ### isinstance -/
def tyNm : D → Option String
  | .non => some "NoneType"
  | .bl _ => some "bool"
  | .int _ => some "int"
  | .str _ => some "str"
  | .lst _ => some "list"
  | .frl _ => some "list"
  | .tup _ => some "tuple"
  | .dic _ _ => some "dict"
  | .dit _ _ => some "dict"
  | .obj _ _ _ => none
def isTy (T : String) (d : D) : Res Bool := match tyNm d with
  | some a => (match kitB a T with
    | some b => .ok b
    | none => .er)
  | none => .er
def dIsi (T : String) (d : D) : Res D := (isTy T d).bind fun b => .ok (.bl b)
def dIsi2 (T U : String) (d : D) : Res D := (isTy T d).bind fun b => if b = true then .ok (.bl true) else (isTy U d).bind fun c => .ok (.bl c)
section
variable {K : PySem.W.Frag} {mg : Str → Option Value}
theorem tyx_of {S H : Hp} {v : V} {d : D} {a : String} (hs : Same S H) (r : Rep K mg S v d) (h : tyNm d = some a) : TyX K H v (.type a) := by
  cases r with
  | non => cases h; exact .base .non
  | bl b => cases h; exact .base (.bl b)
  | int b => cases h; exact .base (.int b)
  | str b => cases h; exact .base (.str b)
  | lst e => cases h; exact .base (.lst (hs _ _ e))
  | frl e =>
    cases h
    rcases e with (e | ⟨o, e⟩) | ⟨o, its, n, e, c, _⟩
    · exact .base (.lst (hs _ _ e))
    · exact .base (.frz (hs _ _ e))
    · exact .kList e c
  | tup e =>
    cases h
    rcases e with (e | ⟨o, e⟩) | ⟨o, its, n, e, c, _⟩
    · exact .base (.tup (hs _ _ e))
    · exact .fTuple (hs _ _ e)
    · exact .kTuple e c
  | dic e => cases h; exact .base (.dK (hs _ _ e))
  | dit e => cases h; exact .base (.dT (hs _ _ e))
  | obj e => cases h
theorem isTy_ok {S H : Hp} {v : V} {d : D} {T : String} {b : Bool} (hs : Same S H) (r : Rep K mg S v d) (h : isTy T d = .ok b) : ∃ t, TyX K H v t ∧ PySem.W.kitOne K t (.type T) = some b := by
  unfold isTy at h
  split at h
  · rename_i a ea
    split at h
    · rename_i c ec
      injection h with h
      subst h
      exact ⟨.type a, tyx_of hs r ea, kit_ty ec⟩
    · cases h
  · cases h
end
section
variable {X : Cx} {E : WX} {m : Mds} {md : Md} {a b e : Expr} {es : List Expr} {fa fb : Env → Res D} {fs : Env → Res (List D)} {pos p p1 p2 p3 : Pos} {x1 : Nat}
theorem isTy_post {K : PySem.W.Frag} {mg : Str → Option Value} {E : XK} {S H : Hp} {T : String} {d : D} {r : Bool → Res D} {Q : VK} (h : Post K mg E S H .sh ((isTy T d).bind r) Q) : ∃ b, isTy T d = .ok b ∧ Post K mg E S H .sh (r b) Q := by
  cases e : isTy T d with
  | ok b => rw [e] at h; exact ⟨b, rfl, h⟩
  | ex c fs =>
    exfalso
    unfold isTy at e
    split at e
    · split at e <;> cases e
    · cases e
  | er => rw [e] at h; exact h.elim
theorem je_isi (T : String) {nT : Str} (hm : X.mg "isinstance" = none) (hT : X.mg nT = none) (ha : JE X E m .sh a fa) (hv : bootBuiltins nT = some (.type T) := by decide +kernel) (hg : Gl X "isinstance" := by rfl) (hgT : Gl X nT := by rfl) (hn : nT ≠ "__name__" := by decide) (hdb : (nT == ("__debug__" : Str)) = false := by decide)
    (he : starEach [a, .Name nT p2] X.env = (false, eval a X.env) :: starEach [.Name nT p2] X.env := by rfl) (he2 : starEach [.Name nT p2] X.env = (false, eval (.Name nT p2) X.env) :: starEach [] X.env := by rfl) (hpl : (backTo pos (starEach [.Name nT p2] X.env)).any (·.1) = false := by rfl) :
    JE X E m .sh (.Call (.Name "isinstance" p) [a, .Name nT p2] [] pos) (f1 (dIsi T) fa) := by
  refine ⟨PEimp (pe_callB call_isi hg hm (by decide +kernel) (pa_cons ha.pe (pa_cons (pe_bltn (v := .ty T) hgT hT hv rfl hn hdb) pa_nil he2) he) (by decide) (by decide) he hpl) fun σ H Q h => ?_⟩
  obtain ⟨S, ρ, hm, hp⟩ := h
  refine ⟨S, ρ, hm, (Post.bind hp).post fun d v S1 H1 s1 r k => ?_⟩
  obtain ⟨bb, eb, k⟩ := isTy_post k
  obtain ⟨t, ty, kt⟩ := isTy_ok s1.sub r eb
  exact ⟨v, .ty T, t, .type T, bb, rfl, .ty T, ty, kt, k.val s1.sub (.bl _)⟩
theorem je_isi2 (T U : String) {nT nU : Str} (hm : X.mg "isinstance" = none) (hT : X.mg nT = none) (hU : X.mg nU = none) (ha : JE X E m .sh a fa) (hv : bootBuiltins nT = some (.type T) := by decide +kernel) (hvU : bootBuiltins nU = some (.type U) := by decide +kernel) (hg : Gl X "isinstance" := by rfl)
    (hgT : Gl X nT := by rfl) (hgU : Gl X nU := by rfl) (hn : nT ≠ "__name__" := by decide) (hdb : (nT == ("__debug__" : Str)) = false := by decide) (hnU : nU ≠ "__name__" := by decide) (hdbU : (nU == ("__debug__" : Str)) = false := by decide)
    (he : starEach [a, .Tuple [.Name nT p2, .Name nU p3] x1 p1] X.env = (false, eval a X.env) :: starEach [.Tuple [.Name nT p2, .Name nU p3] x1 p1] X.env := by rfl)
    (he2 : starEach [.Tuple [.Name nT p2, .Name nU p3] x1 p1] X.env = (false, eval (.Tuple [.Name nT p2, .Name nU p3] x1 p1) X.env) :: starEach [] X.env := by rfl) (hpl : (backTo pos (starEach [.Tuple [.Name nT p2, .Name nU p3] x1 p1] X.env)).any (·.1) = false := by rfl)
    (ht1 : starEach [.Name nT p2, .Name nU p3] X.env = (false, eval (.Name nT p2) X.env) :: starEach [.Name nU p3] X.env := by rfl) (ht2 : starEach [.Name nU p3] X.env = (false, eval (.Name nU p3) X.env) :: starEach [] X.env := by rfl) :
    JE X E m .sh (.Call (.Name "isinstance" p) [a, .Tuple [.Name nT p2, .Name nU p3] x1 p1] [] pos) (f1 (dIsi2 T U) fa) := by
  refine ⟨PEimp (pe_callB call_isiT hg hm (by decide +kernel) (pa_cons ha.pe (pa_cons (pe_tup (pa_cons (pe_bltn (v := .ty T) hgT hT hv rfl hn hdb) (pa_cons (pe_bltn (v := .ty U) hgU hU hvU rfl hnU hdbU) pa_nil ht2) ht1)) pa_nil he2) he) (by decide) (by decide) he hpl) fun σ H Q h => ?_⟩
  obtain ⟨S, ρ, hm, hp⟩ := h
  refine ⟨S, ρ, hm, (Post.bind hp).post fun d v S1 H1 s1 r k => ⟨by show 2 ≤ sizeLine; decide, fun tp ntp => ?_⟩⟩
  obtain ⟨bb, eb, k⟩ := isTy_post k
  have s2 := Step.laid (o := .tup [V.ty T, V.ty U]) s1.sub ntp
  obtain ⟨t, ty, kt⟩ := isTy_ok (s1.sub.trans s2.hh) r eb
  cases bb with
  | true => exact ⟨v, tp, [.ty T, .ty U], t, [.type T, .type U], true, rfl, upd_same, .cons (.ty T) (.cons (.ty U) .nil), ty, kitAny_cons kt (fun z => nomatch z) (fun _ => rfl), (Post.step s2 k).val s2.sub (.bl _)⟩
  | false =>
    obtain ⟨cc, ec, k⟩ := isTy_post k
    have e' : tyNm d = tyNm d := rfl
    unfold isTy at eb ec
    split at eb
    · rename_i a' ea
      rw [ea] at ec
      have ec : (match kitB a' U with
        | some b => Res.ok b
        | none => .er) = .ok cc := ec
      split at eb
      · rename_i b1 k1
        split at ec
        · rename_i b2 k2
          cases eb; cases ec
          have ty' := tyx_of (s1.sub.trans s2.hh) r ea
          exact ⟨v, tp, [.ty T, .ty U], .type a', [.type T, .type U], _, rfl, upd_same, .cons (.ty T) (.cons (.ty U) .nil), ty', kitAny_cons (kit_ty k1) (fun _ => kitAny_cons (kit_ty k2) (fun h => by subst h; exact kitAny_nil) (fun h => h)) (fun z => nomatch z), (Post.step s2 k).val s2.sub (.bl _)⟩
        · cases ec
      · cases eb
    · cases eb
end
/-! ### what is one's own, looked at -/
def isSc : D → Bool
  | .non => true
  | .bl _ => true
  | .int _ => true
  | .str _ => true
  | _ => false
def fSc (f : Env → Res D) : Env → Res D := fun ρ => match f ρ with
  | .ok d => if isSc d = true then .ok d else .er
  | _ => .er
def fNx {α : Type} (f : Env → Res α) : Env → Res α := fun ρ => match f ρ with
  | .ok d => .ok d
  | _ => .er
section
variable {K : PySem.W.Frag} {mg : Str → Option Value} {m m1 : Mds} {S H : Hp} {σ : L2.St} {ρ : Env}
/-- all slots as shared ones -/
theorem EnvM.peek (h : EnvM K mg m S H σ ρ) (w : Weak m m1) : ∃ S', Same S S' ∧ EnvM K mg m1 S' H σ ρ := by
  obtain ⟨hs, F, e⟩ := h
  have st : StF K mg m (fun _ => none) (fun _ => none) S F σ ρ H := ⟨⟨(fun a o z => nomatch z), (fun a o z => nomatch z), hs, (fun a _ => .inr rfl)⟩, e, fun i d _ a _ => rfl⟩
  obtain ⟨S', F', st', ss⟩ := st.weak w
  exact ⟨S', ss, st'.envM⟩
theorem Rep.sc {S S' : Hp} {v : V} {d : D} (h : Rep K mg S v d) (hd : isSc d = true) : Rep K mg S' v d := by
  cases h with
  | non => exact .non
  | bl b => exact .bl b
  | int b => exact .int b
  | str b => exact .str b
  | _ => cases hd
end
section
variable {X : Cx} {E : WX} {m m1 : Mds} {md : Md} {a b e : Expr} {es : List Expr} {f fa fb : Env → Res D} {g : Env → Res Bool} {pos p : Pos} {x : Str}
theorem je_borrow (h : JE X E m1 .sh e f) (w : Weak m m1 := by exact Weak.of (by decide)) : JE X E m .sh e (fSc f) := by
  refine ⟨PEimp h.pe fun σ H Q q => ?_⟩
  obtain ⟨S, ρ, hm, hp⟩ := q
  obtain ⟨S', ss, hm'⟩ := hm.peek w
  refine ⟨S', ρ, hm', ?_⟩
  unfold fSc at hp
  split at hp
  · rename_i d ed
    obtain ⟨hd, hp⟩ := Post.of_if hp
    rw [ed]
    intro v S1 H1 fp s1 o _ _
    exact hp v S H1 [] ⟨s1.hh, Same.refl _, hm.1.trans s1.hh, fun _ x => .inl x⟩ ⟨o.1.sc hd, rfl⟩ List.nodup_nil (fun a z => nomatch z)
  · exact hp.elim
theorem jt_borrow (h : JT X E m1 e g) (w : Weak m m1 := by exact Weak.of (by decide)) : JT X E m e (fNx g) := by
  refine ⟨PTimp h.pt fun σ H Q q => ?_⟩
  obtain ⟨S, ρ, hm, hp⟩ := q
  obtain ⟨S', ss, hm'⟩ := hm.peek w
  refine ⟨S', ρ, hm', ?_⟩
  unfold fNx at hp
  split at hp
  · rename_i d ed
    rw [ed]
    intro S1 H1 s1
    exact hp S H1 ⟨s1.hh, Same.refl _, hm.1.trans s1.hh, fun _ x => .inl x⟩
  · exact hp.elim
/-- an item of an own list: shared data -/
theorem je_itemO (i : Nat) (hb : JE X E m .sh b fb) (hmd : mdAt m i = .ow := by rfl) (hN : X.N[i]? = some x := by rfl) (hv : Vis X.env.scope x := by first | exact Or.inl rfl | exact Or.inr (Or.inl rfl) | exact Or.inr (Or.inr rfl)) (hd : (x == ("__debug__" : Str)) = false := by decide)
    (hcd : (x == ("__classdict__" : Str)) = false := by decide) (hs : PlainIx b := by intro _ _; rfl) : JE X E m .sh (.Subscript (.Name x p) b pos) (f2 dIx (fV i) fb) := by
  refine ⟨PEimp (pe_ix ix_seq (pe_var hN hv hd hcd) hb.pe hs) fun σ H Q h => ?_⟩
  obtain ⟨S, ρ, hm, hp⟩ := h
  obtain ⟨hsub, F, e⟩ := id hm
  unfold f2 fV at hp
  split at hp
  · rename_i d ed
    obtain ⟨v, e1, o⟩ := e.at_ i d ed
    rw [hmd] at o
    obtain ⟨q, vs, ds, rfl, rfl, e3, e4, e5, e6⟩ := o
    have hp : Post X.K X.mg (WE E σ) S H .sh ((fb ρ).bind fun y => dIx (.lst ds) y) Q := hp
    refine ⟨_, e1, S, ρ, hm, (Post.bind hp).post fun dy y S1 H1 s1 r k => ?_⟩
    cases dy with
    | int j =>
      cases r
      simp only [dIx] at k
      split at k
      · rename_i d' ed'
        obtain ⟨v', ev, rv⟩ := e6.atI ed'
        exact .inl ⟨q, vs, j, v', rfl, rfl, .inl (.inl (s1.hh _ _ e5)), ev, k.val s1.sub (rv.mono s1.ss)⟩
      · exact k.elim
    | _ => exact k.elim
  · exact hp.elim
end
end Da
namespace Da
open PySem PySem.Spec L2
/-! ### truth -/
def trD : D → Res Bool
  | .non => .ok false
  | .bl b => .ok b
  | .int i => .ok (i != 0)
  | .str z => if szOk z.length = true then .ok ((z.length : Int) != 0) else .er
  | .lst xs => .ok (!xs.isEmpty)
  | .frl xs => .ok (!xs.isEmpty)
  | .tup xs => .ok (!xs.isEmpty)
  | .dic ks _ => .ok (!ks.isEmpty)
  | _ => .er
def fTr (f : Env → Res D) : Env → Res Bool := fun ρ => (f ρ).bind trD
section
variable {K : PySem.W.Frag} {mg : Str → Option Value}
theorem RepL.empty {S : Hp} {vs : List V} {ds : List D} (r : RepL K mg S vs ds) : (!ds.isEmpty) = !vs.isEmpty := by
  have := r.len
  cases vs with
  | nil =>
    cases ds with
    | nil => rfl
    | cons _ _ => simp at this
  | cons _ _ =>
    cases ds with
    | nil => simp at this
    | cons _ _ => rfl
theorem tru_of {S H : Hp} {v : V} {d : D} {b : Bool} (hs : Same S H) (r : Rep K mg S v d) (h : trD d = .ok b) : TruV K v H b := by
  cases d with
  | non => cases r; cases h; rfl
  | bl c => cases r; cases h; rfl
  | int c => cases r; cases h; rfl
  | str z =>
    cases r
    simp only [trD] at h
    split at h
    · rename_i hz
      cases h
      exact ⟨szOk_ok hz, rfl⟩
    · cases h
  | lst xs =>
    obtain ⟨a, vs, rfl, ha, rv⟩ := r.of_lst
    simp only [trD] at h
    cases h
    exact .inl ⟨vs, .inl (.inl (hs _ _ ha)), rv.empty⟩
  | frl xs =>
    obtain ⟨a, vs, rfl, ha, rv⟩ := r.of_frl
    simp only [trD] at h
    cases h
    exact .inl ⟨vs, same_l hs ha, rv.empty⟩
  | tup xs =>
    obtain ⟨a, vs, rfl, ha, rv⟩ := r.of_tup
    simp only [trD] at h
    cases h
    exact .inr (.inl ⟨vs, same_t hs ha, rv.empty⟩)
  | dic ks vs =>
    cases r with
    | dic e hl hi =>
      simp only [trD] at h
      cases h
      exact .inr (.inr ⟨_, hs _ _ e, by rw [List.isEmpty_map]⟩)
  | _ => cases h
end
section
variable {X : Cx} {E : WX} {m : Mds} {md : Md} {a b c e : Expr} {es : List Expr} {f fa fb fc : Env → Res D} {fs : Env → Res (List D)} {pos p p1 p2 : Pos} {x : Str}
theorem jt_tr (h : JE X E m .sh e f) (he : ∀ whole, isTrue e X.env whole = (do let v ← whole; standAt e.pos; holding [v] (truthy v)) := by intro _; rfl) : JT X E m e (fTr f) := by
  refine ⟨PTimp (pt_truth h.pe he) fun σ H Q q => ?_⟩
  obtain ⟨S, ρ, hm, hp⟩ := q
  refine ⟨S, ρ, hm, (PostW.bind hp).post fun d v S1 H1 s1 r k => ?_⟩
  cases ed : trD d with
  | ok bb =>
    rw [ed] at k
    exact ⟨bb, tru_of s1.sub r ed, k S1 H1 (Step.refl s1.sub)⟩
  | ex c fs =>
    exfalso
    cases d with
    | str z => simp only [trD] at ed; split at ed <;> cases ed
    | _ => simp only [trD] at ed; cases ed
  | er => rw [ed] at k; exact k.elim
/-! ### a < b < c -/
def fChain (g g' : D → D → Res D) (fa fb fc : Env → Res D) : Env → Res D := fun ρ => (fa ρ).bind fun x => (fb ρ).bind fun y => (g x y).bind fun z => match z with
  | .bl true => (fc ρ).bind fun w => g' y w
  | .bl false => .ok (.bl false)
  | _ => .er
theorem chain_ok {K : PySem.W.Frag} {mg : Str → Option Value} {r r' : R2} {g g' : D → D → Res D} (hr : OpD K mg .sh r g) (hr' : OpD K mg .sh r' g') {σ : L2.St} {H : Hp} {Q : VK} (h : tE K mg E m .sh (fChain g g' fa fb fc) σ H Q) : tChain r r' (tE K mg E m .sh fa) (tE K mg E m .sh fb) (tE K mg E m .sh fc) σ H Q := by
  obtain ⟨S, ρ, hm, hp⟩ := h
  refine ⟨S, ρ, hm, (Post.bind hp).post fun dx v S1 H1 s1 r1 h1 => ⟨S1, ρ, hm.step s1, (Post.bind h1).post fun dy w S2 H2 s2 r2 h2 => ?_⟩⟩
  refine hr _ S2 H2 v w dx dy _ s2.sub (r1.mono s2.ss) r2 ((Post.bind h2).post fun dz z S3 H3 s3 r3 h3 => ?_)
  cases dz with
  | bl k =>
    cases r3
    refine ⟨k, rfl, ?_⟩
    cases k with
    | true => exact ⟨S3, ρ, (hm.step s1).step (s2.trans s3), (Post.bind h3).post fun dw u S4 H4 s4 r4 h4 => hr' _ S4 H4 w u dy dw Q s4.sub (r2.mono (s3.ss.trans s4.ss)) r4 h4⟩
    | false => exact Post.val h3 s3.sub (.bl false)
  | _ => exact h3.elim
theorem je_chain {op op' : CmpOp} {r r' : R2} {g g' : D → D → Res D} (ho : OpR X (compareOp op) r) (ho' : OpR X (compareOp op') r') (hr : OpD X.K X.mg .sh r g) (hr' : OpD X.K X.mg .sh r' g') (ha : JE X E m .sh a fa) (hb : JE X E m .sh b fb) (hc : JE X E m .sh c fc)
    (hm : lastMarks [op, op'] [b, c] = false := by with_unfolding_all rfl) : JE X E m .sh (.Compare a [op, op'] [b, c] pos) (fChain g g' fa fb fc) := ⟨PEimp (pe_chain ho ho' ha.pe hb.pe hc.pe hm) fun σ H Q h => chain_ok hr hr' h⟩
theorem jt_chain {op op' : CmpOp} {r r' : R2} {g g' : D → D → Res D} (ho : OpR X (compareOp op) r) (ho' : OpR X (compareOp op') r') (hr : OpD X.K X.mg .sh r g) (hr' : OpD X.K X.mg .sh r' g') (ha : JE X E m .sh a fa) (hb : JE X E m .sh b fb) (hc : JE X E m .sh c fc)
    (hm : lastMarks [op, op'] [b, c] = false := by with_unfolding_all rfl) : JT X E m (.Compare a [op, op'] [b, c] pos) (fB (fChain g g' fa fb fc)) := ⟨PTimp (pt_chain ho ho' ha.pe hb.pe hc.pe hm) fun σ H Q h => tT_of (fun σ H Q h => chain_ok hr hr' h) h⟩
/-! ### list(x), tuple(x) -/
def dList : D → Res D
  | .lst xs => .ok (.lst xs)
  | .frl xs => .ok (.lst xs)
  | .tup xs => .ok (.lst xs)
  | _ => .er
def dTuple : D → Res D
  | .lst xs => .ok (.tup xs)
  | .frl xs => .ok (.tup xs)
  | .tup xs => .ok (.tup xs)
  | _ => .er
theorem je_list (hm : X.mg "list" = none) (ha : JA X E m [e] fs) (hmd : md = .sh ∨ md = .ow := by first | exact .inl rfl | exact .inr rfl) (hg : Gl X "list" := by rfl) (he : starEach [e] X.env = (false, eval e X.env) :: starEach [] X.env := by rfl) : JE X E m md (.Call (.Name "list" p) [e] [] pos) (fOn (on1 dList) fs) :=
  je_callTy call_list_of (calld1 fun E S H x d Q hs rx hp => by
    cases d with
    | lst xs =>
      obtain ⟨a, vs, rfl, ha, rv⟩ := rx.of_lst
      exact ⟨a, vs, rfl, .inl (.inl (.inl (hs _ _ ha))), fun l hl => Post.list hmd hp hs rv hl⟩
    | frl xs =>
      obtain ⟨a, vs, rfl, ha, rv⟩ := rx.of_frl
      exact ⟨a, vs, rfl, .inl (same_l hs ha), fun l hl => Post.list hmd hp hs rv hl⟩
    | tup xs =>
      obtain ⟨a, vs, rfl, ha, rv⟩ := rx.of_tup
      exact ⟨a, vs, rfl, .inr (same_t hs ha), fun l hl => Post.list hmd hp hs rv hl⟩
    | _ => exact hp.elim) hm ha hg (by decide +kernel) (by decide) (by decide) he (by rfl)
theorem je_tuple (hm : X.mg "tuple" = none) (ha : JA X E m [e] fs) (hg : Gl X "tuple" := by rfl) (he : starEach [e] X.env = (false, eval e X.env) :: starEach [] X.env := by rfl) : JE X E m .sh (.Call (.Name "tuple" p) [e] [] pos) (fOn (on1 dTuple) fs) :=
  je_callTy call_tuple_of (calld1 fun E S H x d Q hs rx hp => by
    cases d with
    | lst xs =>
      obtain ⟨a, vs, rfl, ha, rv⟩ := rx.of_lst
      exact ⟨a, vs, rfl, .inl ⟨.inl (.inl (hs _ _ ha)), fun l hl => Post.tup hp hs rv hl⟩⟩
    | frl xs =>
      obtain ⟨a, vs, rfl, ha, rv⟩ := rx.of_frl
      exact ⟨a, vs, rfl, .inl ⟨same_l hs ha, fun l hl => Post.tup hp hs rv hl⟩⟩
    | tup xs =>
      have hp : Post X.K X.mg E S H .sh (.ok (.tup xs)) Q := hp
      have hv := hp.val hs rx
      obtain ⟨a, vs, rfl, ha, rv⟩ := rx.of_tup
      exact ⟨a, vs, rfl, .inr ⟨same_t hs ha, hv⟩⟩
    | _ => exact hp.elim) hm ha hg (by decide +kernel) (by decide) (by decide) he (by rfl)
/-! list(range(..)), tuple(range(..)) -/
def rgnOk (i j : Int) : Bool := stuck (rngOk i j = true ∧ (j - i).toNat ≤ 16777216)
theorem rgnOk_ok {i j : Int} (h : rgnOk i j = true) : RgOk i j := by
  have h := stuck_iff.mp h
  obtain ⟨h1, h2, h3, h4⟩ := rngOk_ok h.1
  exact ⟨h1, h2, h3, h4, h.2⟩
def fListR1 (f : Env → Res D) : Env → Res D := fun ρ => (f ρ).bind fun d => match d with
  | .int j => if rgnOk 0 j = true then .ok (.lst (rng 0 (j - 0).toNat)) else .er
  | _ => .er
def fTupleR1 (f : Env → Res D) : Env → Res D := fun ρ => (f ρ).bind fun d => match d with
  | .int j => if rgnOk 0 j = true then .ok (.tup (rng 0 (j - 0).toNat)) else .er
  | _ => .er
theorem rep_rng {K : PySem.W.Frag} {mg : Str → Option Value} {S : Hp} (a b : Int) : RepL K mg S (rgV a b) (rng a (b - a).toNat) := by
  unfold rgV rng
  refine ⟨by rw [List.length_map, List.length_map], fun i v d h1 h2 => ?_⟩
  rw [List.getElem?_map] at h1 h2
  cases e : (List.range (b - a).toNat)[i]? with
  | none => rw [e] at h1; cases h1
  | some j =>
    rw [e] at h1 h2
    cases h1; cases h2
    exact .int _
theorem je_listR1 (hm : X.mg "list" = none) (hm2 : X.mg "range" = none) (ha : JE X E m .sh a fa) (hmd : md = .sh ∨ md = .ow := by first | exact .inl rfl | exact .inr rfl) (hc : X.calm = true := by rfl) (hg : Gl X "list" := by rfl) (hg2 : Gl X "range" := by rfl) (na : starEach [a] X.env = (false, eval a X.env) :: starEach [] X.env := by rfl)
    (nb : starEach [.Call (.Name "range" p1) [a] [] p2] X.env = (false, eval (.Call (.Name "range" p1) [a] [] p2) X.env) :: starEach [] X.env := by rfl) : JE X E m md (.Call (.Name "list" p) [.Call (.Name "range" p1) [a] [] p2] [] pos) (fListR1 fa) := by
  refine ⟨PEimp (pe_listRg hc hg hm (prg_1 hg2 hm2 ha.pe na) nb) fun σ H Q h => ?_⟩
  obtain ⟨S, ρ, hm, hp⟩ := h
  refine ⟨S, ρ, hm, (Post.bind hp).post fun d v S1 H1 s1 r k => ?_⟩
  cases d with
  | int j =>
    obtain ⟨hk, k⟩ := Post.of_if k
    cases r
    exact ⟨j, rfl, rgnOk_ok hk, fun q hq => Post.list hmd k s1.sub (rep_rng 0 j) hq⟩
  | _ => exact k.elim
theorem je_tupleR1 (hm : X.mg "tuple" = none) (hm2 : X.mg "range" = none) (ha : JE X E m .sh a fa) (hc : X.calm = true := by rfl) (hg : Gl X "tuple" := by rfl) (hg2 : Gl X "range" := by rfl) (na : starEach [a] X.env = (false, eval a X.env) :: starEach [] X.env := by rfl)
    (nb : starEach [.Call (.Name "range" p1) [a] [] p2] X.env = (false, eval (.Call (.Name "range" p1) [a] [] p2) X.env) :: starEach [] X.env := by rfl) : JE X E m .sh (.Call (.Name "tuple" p) [.Call (.Name "range" p1) [a] [] p2] [] pos) (fTupleR1 fa) := by
  refine ⟨PEimp (pe_tupRg hc hg hm (prg_1 hg2 hm2 ha.pe na) nb) fun σ H Q h => ?_⟩
  obtain ⟨S, ρ, hm, hp⟩ := h
  refine ⟨S, ρ, hm, (Post.bind hp).post fun d v S1 H1 s1 r k => ?_⟩
  cases d with
  | int j =>
    obtain ⟨hk, k⟩ := Post.of_if k
    cases r
    exact ⟨j, rfl, rgnOk_ok hk, fun q hq => Post.tup k s1.sub (rep_rng 0 j) hq⟩
  | _ => exact k.elim
/-! sum, all, any -/
def intsD : List D → Option (List Int)
  | [] => some []
  | .int i :: r => match intsD r with
    | some ns => some (i :: ns)
    | none => none
  | _ => none
def boolsD : List D → Option (List Bool)
  | [] => some []
  | .bl i :: r => match boolsD r with
    | some ns => some (i :: ns)
    | none => none
  | _ => none
theorem intsD_ok : ∀ {ds : List D} {ns : List Int}, intsD ds = some ns → ds = ns.map D.int
  | [], ns, h => by cases h; rfl
  | .int i :: r, ns, h => by
    simp only [intsD] at h
    split at h
    · rename_i ms e
      cases h
      rw [intsD_ok e]
      rfl
    · cases h
  | .non :: r, ns, h => by cases h
  | .bl _ :: r, ns, h => by cases h
  | .str _ :: r, ns, h => by cases h
  | .lst _ :: r, ns, h => by cases h
  | .tup _ :: r, ns, h => by cases h
  | .frl _ :: r, ns, h => by cases h
  | .dic _ _ :: r, ns, h => by cases h
  | .dit _ _ :: r, ns, h => by cases h
  | .obj _ _ _ :: r, ns, h => by cases h
theorem boolsD_ok : ∀ {ds : List D} {ns : List Bool}, boolsD ds = some ns → ds = ns.map D.bl
  | [], ns, h => by cases h; rfl
  | .bl i :: r, ns, h => by
    simp only [boolsD] at h
    split at h
    · rename_i ms e
      cases h
      rw [boolsD_ok e]
      rfl
    · cases h
  | .non :: r, ns, h => by cases h
  | .int _ :: r, ns, h => by cases h
  | .str _ :: r, ns, h => by cases h
  | .lst _ :: r, ns, h => by cases h
  | .tup _ :: r, ns, h => by cases h
  | .frl _ :: r, ns, h => by cases h
  | .dic _ _ :: r, ns, h => by cases h
  | .dit _ _ :: r, ns, h => by cases h
  | .obj _ _ _ :: r, ns, h => by cases h
@[simp] theorem intsD_map : ∀ ns : List Int, intsD (ns.map D.int) = some ns
  | [] => rfl
  | n :: ns => by simp only [List.map_cons, intsD, intsD_map ns]
@[simp] theorem boolsD_map : ∀ ns : List Bool, boolsD (ns.map D.bl) = some ns
  | [] => rfl
  | n :: ns => by simp only [List.map_cons, boolsD, boolsD_map ns]
def dSum : D → Res D
  | .lst xs => match intsD xs with
    | some ns => .ok (.int ns.sum)
    | none => .er
  | _ => .er
def dAll : D → Res D
  | .lst xs => match boolsD xs with
    | some ns => .ok (.bl (ns.all id))
    | none => .er
  | _ => .er
def dAny : D → Res D
  | .lst xs => match boolsD xs with
    | some ns => .ok (.bl (ns.any id))
    | none => .er
  | _ => .er
theorem je_sum (hm : X.mg "sum" = none) (ha : JA X E m [e] fs) (hc : X.calm = true := by rfl) (hg : Gl X "sum" := by rfl) (he : starEach [e] X.env = (false, eval e X.env) :: starEach [] X.env := by rfl) : JE X E m .sh (.Call (.Name "sum" p) [e] [] pos) (fOn (on1 dSum) fs) :=
  je_callB (cr_sum hc) (calld1 fun E S H x d Q hs rx hp => by
    cases d with
    | lst xs =>
      obtain ⟨a, vs, rfl, ha, rv⟩ := rx.of_lst
      simp only [dSum] at hp
      split at hp
      · rename_i ns en
        rw [intsD_ok en] at rv
        exact ⟨a, ns, rfl, by rw [← rv.ints]; exact .inl (.inl (hs _ _ ha)), hp.val hs (.int _)⟩
      · exact hp.elim
    | _ => exact (show False from hp).elim) hm ha hg (by decide +kernel) (by decide) (by decide) he (by rfl)
theorem je_all (hm : X.mg "all" = none) (ha : JA X E m [e] fs) (hc : X.calm = true := by rfl) (hg : Gl X "all" := by rfl) (he : starEach [e] X.env = (false, eval e X.env) :: starEach [] X.env := by rfl) : JE X E m .sh (.Call (.Name "all" p) [e] [] pos) (fOn (on1 dAll) fs) :=
  je_callB (cr_all hc) (calld1 fun E S H x d Q hs rx hp => by
    cases d with
    | lst xs =>
      obtain ⟨a, vs, rfl, ha, rv⟩ := rx.of_lst
      simp only [dAll] at hp
      split at hp
      · rename_i ns en
        rw [boolsD_ok en] at rv
        exact ⟨a, ns, rfl, by rw [← rv.bls]; exact .inl (.inl (hs _ _ ha)), hp.val hs (.bl _)⟩
      · exact hp.elim
    | _ => exact (show False from hp).elim) hm ha hg (by decide +kernel) (by decide) (by decide) he (by rfl)
theorem je_any (hm : X.mg "any" = none) (ha : JA X E m [e] fs) (hc : X.calm = true := by rfl) (hg : Gl X "any" := by rfl) (he : starEach [e] X.env = (false, eval e X.env) :: starEach [] X.env := by rfl) : JE X E m .sh (.Call (.Name "any" p) [e] [] pos) (fOn (on1 dAny) fs) :=
  je_callB (cr_any hc) (calld1 fun E S H x d Q hs rx hp => by
    cases d with
    | lst xs =>
      obtain ⟨a, vs, rfl, ha, rv⟩ := rx.of_lst
      simp only [dAny] at hp
      split at hp
      · rename_i ns en
        rw [boolsD_ok en] at rv
        exact ⟨a, ns, rfl, by rw [← rv.bls]; exact .inl (.inl (hs _ _ ha)), hp.val hs (.bl _)⟩
      · exact hp.elim
    | _ => exact (show False from hp).elim) hm ha hg (by decide +kernel) (by decide) (by decide) he (by rfl)
/-! [..] * n -/
def repOk (n : Nat) (k : Int) : Bool := stuck ((-(9223372036854775808) ≤ k ∧ k < 9223372036854775808) ∧ szOk (n * k.toNat) = true)
def dRep : D → D → Res D
  | .lst xs, .int k => if repOk xs.length k = true then .ok (.lst (List.replicate k.toNat xs).flatten) else .er
  | _, _ => .er
theorem RepL.rep {K : PySem.W.Frag} {mg : Str → Option Value} {S : Hp} {vs : List V} {ds : List D} (r : RepL K mg S vs ds) : ∀ k : Nat, RepL K mg S (List.replicate k vs).flatten (List.replicate k ds).flatten
  | 0 => .nil
  | k + 1 => by
    rw [List.replicate_succ, List.replicate_succ, List.flatten_cons, List.flatten_cons]
    exact r.append (r.rep k)
theorem je_rep (ha : JE X E m .sh a fa) (hb : JE X E m .sh b fb) (hmd : md = .sh ∨ md = .ow := by first | exact .inl rfl | exact .inr rfl) : JE X E m md (.BinOp a .Mult b pos) (f2 dRep fa fb) := je_op op_rep (fun E S H x y dx dy Q hs rx ry h => by
  cases dx with
  | lst xs =>
    cases dy with
    | int k =>
      obtain ⟨hz, h⟩ := Post.of_if h
      have hz := stuck_iff.mp hz
      have h12 := hz.1
      obtain ⟨l, vs, rfl, hl, rv⟩ := rx.of_lst
      cases ry
      have h1 := h12.1
      have h2 := h12.2
      exact ⟨l, k, vs, rfl, rfl, hs _ _ hl, by omega, by omega, by rw [rv.len]; exact szOk_ok hz.2, fun p hp => Post.list hmd h hs (rv.rep _) hp⟩
    | _ => exact h.elim
  | _ => exact h.elim) ha hb
/-! slices -/
def cutD (xs : List D) (lo hi : Option Int) : List D := (xs.drop (HT.sIx xs.length 0 lo)).take (HT.sIx xs.length xs.length hi - HT.sIx xs.length 0 lo)
def fNoI : Env → Res (Option Int) := fun _ => .ok none
def fSoI (f : Env → Res D) : Env → Res (Option Int) := fun ρ => (f ρ).bind fun d => match d with
  | .int i => .ok (some i)
  | _ => .er
def dCut (d : D) (lo hi : Option Int) : Res D := match d with
  | .lst xs => .ok (.lst (cutD xs lo hi))
  | .frl xs => .ok (.lst (cutD xs lo hi))
  | .tup xs => .ok (.tup (cutD xs lo hi))
  | _ => .er
def dCutL (d : D) (lo hi : Option Int) : Res D := match d with
  | .lst xs => .ok (.lst (cutD xs lo hi))
  | .frl xs => .ok (.lst (cutD xs lo hi))
  | _ => .er
def fCut (g : D → Option Int → Option Int → Res D) (f : Env → Res D) (fl fh : Env → Res (Option Int)) : Env → Res D := fun ρ => (f ρ).bind fun x => (fl ρ).bind fun l => (fh ρ).bind fun h => g x l h
def tO (K : PySem.W.Frag) (mg : Str → Option Value) (E : WX) (m : Mds) (f : Env → Res (Option Int)) : TO := fun σ H Q => ∃ S ρ, EnvM K mg m S H σ ρ ∧ PostW K mg (WE E σ) S H (f ρ) fun o _ H' => Q o H'
structure JO (X : Cx) (E : WX) (m : Mds) (e : Option Expr) (f : Env → Res (Option Int)) : Prop where
  po : PO X e (tO X.K X.mg E m f)
theorem POimp {t t' : TO} {o : Option Expr} (h : PO X o t) (g : ∀ σ H Q, t' σ H Q → t σ H Q) : PO X o t' := ⟨fun pins s σ H Q I q => h.run pins s σ H Q I (g σ H Q q)⟩
theorem jo_none : JO X E m none fNoI := ⟨POimp po_none fun σ H Q h => by
  obtain ⟨S, ρ, hm, hp⟩ := h
  exact hp S H (Step.refl hm.1)⟩
theorem jo_some (h : JE X E m .sh e f) : JO X E m (some e) (fSoI f) := ⟨POimp (po_some h.pe) fun σ H Q h => by
  obtain ⟨S, ρ, hm, hp⟩ := h
  refine ⟨S, ρ, hm, (PostW.bind hp).post fun d v S1 H1 s1 r k => ?_⟩
  cases d with
  | int i => cases r; exact ⟨i, rfl, k S1 H1 (Step.refl s1.sub)⟩
  | _ => exact k.elim⟩
theorem repl_cut {K : PySem.W.Frag} {mg : Str → Option Value} {S : Hp} {vs : List V} {ds : List D} (r : RepL K mg S vs ds) (lo hi : Option Int) : RepL K mg S (cutV vs lo hi) (cutD ds lo hi) := by
  unfold cutV cutD
  rw [r.len]
  exact (r.drop _).take _
def rSlAll (K : PySem.W.Frag) : V → Option Int → Option Int → Hp → VK → Prop := fun x lo hi H Q => rSlL K x lo hi H Q ∨ rSlA K x lo hi H Q
theorem sl_all : SlR X (rSlAll X.K) := SlR.or sl_list sl_tupA
theorem cut_id {α : Type} {xs : List α} {lo hi : Option Int} (h : HT.sIx xs.length 0 lo = 0 ∧ HT.sIx xs.length xs.length hi = xs.length) : (xs.drop (HT.sIx xs.length 0 lo)).take (HT.sIx xs.length xs.length hi - HT.sIx xs.length 0 lo) = xs := by
  rw [h.1, h.2]
  simp
theorem cut_ok {K : PySem.W.Frag} {mg : Str → Option Value} {E : XK} {S H : Hp} {x : V} {d : D} {lo hi : Option Int} {Q : VK} (hs : Same S H) (rx : Rep K mg S x d) (h : Post K mg E S H .sh (dCut d lo hi) Q) : rSlAll K x lo hi H Q := by
  cases d with
  | lst xs =>
    obtain ⟨a, vs, rfl, ha, rv⟩ := rx.of_lst
    exact .inl ⟨a, vs, rfl, .inl (.inl (hs _ _ ha)), fun p hp => Post.lst h hs (repl_cut rv lo hi) hp⟩
  | frl xs =>
    obtain ⟨a, vs, rfl, ha, rv⟩ := rx.of_frl
    exact .inl ⟨a, vs, rfl, same_l hs ha, fun p hp => Post.lst h hs (repl_cut rv lo hi) hp⟩
  | tup xs =>
    have rx' := rx
    obtain ⟨a, vs, rfl, ha, rv⟩ := rx.of_tup
    refine .inr ⟨a, vs, rfl, same_t hs ha, fun e => ?_, fun _ p hp => Post.tup h hs (repl_cut rv lo hi) hp⟩
    rw [rv.len] at e
    have h : Post K mg E S H .sh (.ok (.tup (cutD xs lo hi))) Q := h
    unfold cutD at h
    rw [cut_id e] at h
    exact h.val hs rx'
  | _ => exact h.elim
theorem je_cut {l h : Option Expr} {fl fh : Env → Res (Option Int)} (ha : JE X E m .sh a fa) (hl : JO X E m l fl) (hh : JO X E m h fh) : JE X E m .sh (.Subscript a (.Slice l h none p2) pos) (fCut dCut fa fl fh) := by
  refine ⟨PEimp (pe_slice sl_all ha.pe hl.po hh.po) fun σ H Q q => ?_⟩
  obtain ⟨S, ρ, hm, hp⟩ := q
  refine ⟨S, ρ, hm, (Post.bind hp).post fun d v S1 H1 s1 r k => ⟨S1, ρ, hm.step s1, (Post.bind k).imp fun lo S2 H2 s2 k2 => ⟨S2, ρ, (hm.step s1).step s2, (Post.bind k2).imp fun hi S3 H3 s3 k3 => ?_⟩⟩⟩
  exact cut_ok s3.sub (r.mono (s2.ss.trans s3.ss)) k3
theorem je_cutL {l h : Option Expr} {fl fh : Env → Res (Option Int)} (ha : JE X E m .sh a fa) (hl : JO X E m l fl) (hh : JO X E m h fh) : JE X E m .ow (.Subscript a (.Slice l h none p2) pos) (fCut dCutL fa fl fh) := by
  refine ⟨PEimp (pe_slice sl_all ha.pe hl.po hh.po) fun σ H Q q => ?_⟩
  obtain ⟨S, ρ, hm, hp⟩ := q
  refine ⟨S, ρ, hm, (Post.bind hp).post fun d v S1 H1 s1 r k => ⟨S1, ρ, hm.step s1, (Post.bind k).imp fun lo S2 H2 s2 k2 => ⟨S2, ρ, (hm.step s1).step s2, (Post.bind k2).imp fun hi S3 H3 s3 k3 => ?_⟩⟩⟩
  have rx := r.mono (s2.ss.trans s3.ss)
  cases d with
  | lst xs =>
    obtain ⟨a, vs, rfl, ha, rv⟩ := rx.of_lst
    exact .inl ⟨a, vs, rfl, .inl (.inl (s3.sub _ _ ha)), fun p hp => Post.own k3 s3.sub (repl_cut rv lo hi) hp⟩
  | frl xs =>
    obtain ⟨a, vs, rfl, ha, rv⟩ := rx.of_frl
    exact .inl ⟨a, vs, rfl, same_l s3.sub ha, fun p hp => Post.own k3 s3.sub (repl_cut rv lo hi) hp⟩
  | _ => exact k3.elim
end
end Da
namespace Da
open PySem PySem.Spec L2
/-! ### the end of a law -/
section
variable {P : Program} {w : World} {K : PySem.W.Frag} {mg : Str → Option Value} {base h : Heap}
theorem defAt_mk {x qual : Str} {st : Stmt} {ps : List Str} {f : Addr} {oc : Value} {od an : Option Addr} {osl : Array (Option Value)} {kV doc pm cdv ct : Value} (X : K.In h) (G : h.Ns mainGlobals mg) (a : PySem.W.nsIn K mainGlobals x = some (some (.ref f)))
    (l : K.lookup f = some ⟨oc, od, .func (PySem.W.fnOf x qual (defArgs st) (defBody st) (defScope st) .none kV doc pm an cdv ct), osl⟩) (c : PySem.W.codeIn K cdv qual = true) (k : PySem.W.keepIn K (.ref f) = true)
    (hb : ∀ (kV doc pm : Value) (an : Option Addr) (cdv ct : Value) (us : List Value), us.length = ps.length → bindArgs (PySem.W.fnOf x qual (defArgs st) (defBody st) (defScope st) .none kV doc pm an cdv ct) ⟨us, []⟩ = pure (ps.zip us)) : DefAt K mg x qual st ps := by
  have Fn := fun_mk (st := st) l c k
  exact ⟨f, _, Fn, Fn.binds hb, PySem.W.mg_of X G a⟩
/-- what the law is asked -/
def spLaw (K : PySem.W.Frag) : Sp := fun vs H Q _ => ∃ (a : Addr) (ns : List Int), vs = [.ref a] ∧ SqL K H a (ns.map V.int) ∧ ns.length ≤ 63 ∧ (∀ z ∈ ns, Builtin.Int.intBits z ≤ 1048576) ∧ ∀ H', Q (.bl true) H'
theorem law_imp {k : Nat} {f : Addr} {fd : FuncData} {g : List D → Res D} (G : FnOk P w K mg base (L2.CX P w) k f fd ["script"] (spD K mg 1 .sh g)) (hg : ∀ ns : List Int, ns.length ≤ 63 → (∀ z ∈ ns, Builtin.Int.intBits z ≤ 1048576) → g [.frl (ns.map D.int)] = .ok (.bl true)) :
    FnOk P w K mg base (L2.CX P w) k f fd ["script"] (spLaw K) := G.imp fun vs H Q E hsp => by
  obtain ⟨a, ns, rfl, hS, hl, hb, q⟩ := hsp
  refine ⟨H, [.frl (ns.map D.int)], Same.refl H, .cons (.frl hS (by rw [List.length_map, List.length_map]) (RepL.of_ints ns).at_) .nil, ?_⟩
  show Post K mg E H H .sh (chk 1 g [.frl (ns.map D.int)]) Q
  unfold chk
  rw [if_pos (by rfl), hg ns hl hb]
  intro v S' H' fp s' o _ _
  cases o.1
  exact q H'
theorem cx_none {H : Hp} {s s' : Shared} {e : Value} (h : L2.CX P w [] H s (fun _ _ _ => False) e s') : False := by
  obtain ⟨_, _, _, _, _, _, _, _, _, _, _, _, z⟩ := h
  exact z
theorem walk_end {l : PySem.W.OpenLaw} {q : Program} {loose : List Str} {XP : (Str → Option Value) → Heap → Prop} {YP : World → Heap → Prop} {d : DefRec} {K : Params → PySem.W.Frag} {k : Nat} (hn : l.most = some 63) (hdf : d.params.defaults = []) (hr : Room k callerA)
    (hY : ∀ (w : World) (h : Heap), YP w h → (K w.params).In h)
    (F : ∀ (w : World) (mg : Str → Option Value) (fa : Addr) (h : Heap), (K w.params).In h → h.Ns mainGlobals mg → mg d.name = some (.ref fa) →
      ∃ fd : FuncData, (∀ (s : Shared) (u : Value), BindsTo s fd ⟨[u], []⟩ [("script", u)]) ∧ ∀ base : Heap, (K w.params).In base → base.Ns mainGlobals mg → FnOk l.prog w (K w.params) mg base (L2.CX l.prog w) k fa fd ["script"] (spLaw (K w.params))) :
    PySem.W.WalkO q loose XP YP l.row.toRowW d [] (fun f vs => PySem.call f vs) :=
  L2.walk_ofB (n := 63) (k := k) (x := "script") (CX := fun w => L2.CX l.prog w) (sp := fun w => spLaw (K w.params)) hn (by decide) hdf hr hY F (fun w H a ns hl hb _ hS => ⟨a, ns, rfl, hS, hl, hb, fun _ => rfl⟩) fun w H s e s' z => cx_none z
end
end Da
namespace Da
open PySem PySem.Spec L2
/-! ### reckoning with the mirrors -/
section
variable {ρ : Env} {f fa fb fc : Env → Res D} {g : D → Res D} {g2 : D → D → Res D} {fs : Env → Res (List D)} {c ga gb : Env → Res Bool} {F G : FS} {d e : D} {i : Nat}
@[simp] theorem fC_ap : fC d ρ = .ok d := rfl
@[simp] theorem fV_nil : fV i [] = .er := by simp [fV]
@[simp] theorem fV_zero {x : D} {r : Env} : fV 0 (some x :: r) = .ok x := rfl
@[simp] theorem fV_succ {x : Option D} {r : Env} : fV (i + 1) (x :: r) = fV i r := by
  unfold fV
  rw [List.getElem?_cons_succ]
@[simp] theorem f1_ap : f1 g fa ρ = (fa ρ).bind g := rfl
@[simp] theorem f2_ap : f2 g2 fa fb ρ = (fa ρ).bind fun x => (fb ρ).bind fun y => g2 x y := rfl
@[simp] theorem fA0_ap : fA0 ρ = .ok [] := rfl
@[simp] theorem fA_ap : fA fa fs ρ = (fa ρ).bind fun x => (fs ρ).bind fun xs => .ok (x :: xs) := rfl
@[simp] theorem fOn_ap {g : List D → Res D} : fOn g fs ρ = (fs ρ).bind g := rfl
@[simp] theorem fB_ap : fB f ρ = (f ρ).bind asB := rfl
@[simp] theorem fTr_ap : fTr f ρ = (f ρ).bind trD := rfl
@[simp] theorem fBv_ap : fBv c ρ = (c ρ).bind fun b => .ok (.bl b) := rfl
@[simp] theorem asB_bl {b : Bool} : asB (.bl b) = .ok b := rfl
@[simp] theorem fAnd_ap : fAnd ga gb ρ = (ga ρ).bind fun c => if c = true then gb ρ else .ok false := rfl
@[simp] theorem fOr_ap : fOr ga gb ρ = (ga ρ).bind fun c => if c = true then .ok true else gb ρ := rfl
@[simp] theorem fNot_ap : fNot ga ρ = (ga ρ).bind fun c => .ok (!c) := rfl
@[simp] theorem fIf_ap : fIf c fa fb ρ = (c ρ).bind fun b => if b = true then fa ρ else fb ρ := rfl
@[simp] theorem fL_ap : fL f ρ = (f ρ).bind asL := rfl
@[simp] theorem fR1_ap : fR1 fs ρ = (fs ρ).bind gRng1 := rfl
@[simp] theorem fR2_ap : fR2 fs ρ = (fs ρ).bind gRng2 := rfl
@[simp] theorem asL_lst {xs : List D} : asL (.lst xs) = .ok xs := rfl
@[simp] theorem asL_frl {xs : List D} : asL (.frl xs) = .ok xs := rfl
@[simp] theorem asL_tup {xs : List D} : asL (.tup xs) = .ok xs := rfl
@[simp] theorem on1_ap {g : D → Res D} : on1 g [d] = g d := rfl
@[simp] theorem on2_ap {g : D → D → Res D} : on2 g [d, e] = g d e := rfl
@[simp] theorem gN_ap : gN i d ρ = .ok (ρ.set i (some d)) := rfl
@[simp] theorem fNext_ap : fNext ρ = .ok (.nx ρ) := rfl
@[simp] theorem fBrk_ap : fBrk ρ = .ok (.bk ρ) := rfl
@[simp] theorem fCnt_ap : fCnt ρ = .ok (.ct ρ) := rfl
@[simp] theorem fSet_ap : fSet i f ρ = lift (f ρ) ρ fun d => .ok (.nx (ρ.set i (some d))) := rfl
@[simp] theorem fRet_ap : fRet f ρ = lift (f ρ) ρ fun d => .ok (.rt d) := rfl
@[simp] theorem fRetN_ap : fRetN ρ = .ok (.rt .non) := rfl
@[simp] theorem fIfS_ap : fIfS c F G ρ = lift (c ρ) ρ fun b => if b = true then F ρ else G ρ := rfl
@[simp] theorem fDrop_ap : fDrop f ρ = lift (f ρ) ρ fun _ => .ok (.nx ρ) := rfl
@[simp] theorem fAug_ap : fAug i g2 f ρ = lift ((fV i ρ).bind fun x => (f ρ).bind fun y => g2 x y) ρ fun d => .ok (.nx (ρ.set i (some d))) := rfl
theorem fSeq_nx {ρ' : Env} (h : F ρ = .ok (.nx ρ')) : fSeq F G ρ = G ρ' := by unfold fSeq; rw [h]
theorem fSeq_rt {d : D} (h : F ρ = .ok (.rt d)) : fSeq F G ρ = .ok (.rt d) := by unfold fSeq; rw [h]
theorem fSeq_bk {ρ' : Env} (h : F ρ = .ok (.bk ρ')) : fSeq F G ρ = .ok (.bk ρ') := by unfold fSeq; rw [h]
theorem fSeq_ct {ρ' : Env} (h : F ρ = .ok (.ct ρ')) : fSeq F G ρ = .ok (.ct ρ') := by unfold fSeq; rw [h]
/-- a block behind an end -/
def andThen (o : Res Fl) (G : FS) : Res Fl := match o with
  | .ok (.nx ρ') => G ρ'
  | o => o
@[simp] theorem fSeq_ap : fSeq F G ρ = andThen (F ρ) G := rfl
@[simp] theorem andThen_nx {ρ' : Env} : andThen (.ok (.nx ρ')) G = G ρ' := rfl
@[simp] theorem andThen_rt {d : D} : andThen (.ok (.rt d)) G = .ok (.rt d) := rfl
@[simp] theorem andThen_bk {ρ' : Env} : andThen (.ok (.bk ρ')) G = .ok (.bk ρ') := rfl
@[simp] theorem andThen_ct {ρ' : Env} : andThen (.ok (.ct ρ')) G = .ok (.ct ρ') := rfl
@[simp] theorem andThen_xc {c : Str} {fs : List (Str × D)} {ρ' : Env} : andThen (.ok (.xc c fs ρ')) G = .ok (.xc c fs ρ') := rfl
@[simp] theorem andThen_er : andThen .er G = .er := rfl
@[simp] theorem andThen_ite {p : Prop} [Decidable p] {a b : Res Fl} : andThen (if p then a else b) G = if p then andThen a G else andThen b G := by split <;> rfl
@[simp] theorem fApp_zero {xs : List D} {r : Env} : fApp 0 f (some (.lst xs) :: r) = lift (f (some (.lst xs) :: r)) (some (.lst xs) :: r) fun d => if szOk (xs.length + 1) = true then .ok (.nx (some (.lst (xs ++ [d])) :: r)) else .er := rfl
/-! what the operators do to whole numbers -/
@[simp] theorem dAdd_int {i j : Int} : dAdd (.int i) (.int j) = .ok (.int (i + j)) := rfl
@[simp] theorem dSub_int {i j : Int} : dSub (.int i) (.int j) = .ok (.int (i - j)) := rfl
theorem dMul_int {i j : Int} (h : mulOk i j = true) : dMul (.int i) (.int j) = .ok (.int (i * j)) := if_pos h
@[simp] theorem dLt_int {i j : Int} : dLt (.int i) (.int j) = .ok (.bl (decide (i < j))) := rfl
@[simp] theorem dLe_int {i j : Int} : dLe (.int i) (.int j) = .ok (.bl (decide (i ≤ j))) := rfl
@[simp] theorem dGt_int {i j : Int} : dGt (.int i) (.int j) = .ok (.bl (decide (j < i))) := rfl
@[simp] theorem dGe_int {i j : Int} : dGe (.int i) (.int j) = .ok (.bl (decide (j ≤ i))) := rfl
@[simp] theorem dI_yes {g : Int → Int → Int} {i j : Int} : dI yes2 g (.int i) (.int j) = .ok (.int (g i j)) := rfl
@[simp] theorem dInt_int {i : Int} : dInt (.int i) = .ok (.int i) := rfl
@[simp] theorem dNeg_int {i : Int} : dNeg (.int i) = .ok (.int (-i)) := rfl
@[simp] theorem dAbs_int {i : Int} : dAbs (.int i) = .ok (.int (if i < 0 then -i else i)) := rfl
@[simp] theorem dMax2_int {i j : Int} : dMax2 (.int i) (.int j) = .ok (.int (if j > i then j else i)) := rfl
@[simp] theorem dMin2_int {i j : Int} : dMin2 (.int i) (.int j) = .ok (.int (if j < i then j else i)) := rfl
@[simp] theorem dLen_lst {xs : List D} : dLen (.lst xs) = .ok (.int xs.length) := rfl
@[simp] theorem dLen_frl {xs : List D} : dLen (.frl xs) = .ok (.int xs.length) := rfl
@[simp] theorem dLen_tup {xs : List D} : dLen (.tup xs) = .ok (.int xs.length) := rfl
@[simp] theorem eqD_int {i j : Int} : eqD (.int i) (.int j) = .ok (i == j) := by
  unfold eqD D.py
  simp only [SeqAt.shaped, PyData.canLay0, PyData.depth, PyData.eqv]
  rfl
@[simp] theorem dEq_int {i j : Int} : dEq (.int i) (.int j) = .ok (.bl (i == j)) := by unfold dEq; rw [eqD_int]; rfl
@[simp] theorem dNe_int {i j : Int} : dNe (.int i) (.int j) = .ok (.bl (!(i == j))) := by unfold dNe; rw [eqD_int]; rfl
theorem log2_lt {n k : Nat} (h : n < 2 ^ k) (hk : 0 < k) : n.log2 < k := PySem.Flt.log2_lt_of hk h
theorem mulOk_of {i j : Int} {a b : Nat} (hi : i.natAbs < 2 ^ a) (hj : j.natAbs < 2 ^ b) (ha : 0 < a := by decide) (hb : 0 < b := by decide) (hab : a + b ≤ 1000000 := by decide) : mulOk i j = true := mulOk_yes (wide_mul hi hj ha hb hab)
theorem mul64 {i j : Int} (hi : i.natAbs < 18446744073709551616) (hj : j.natAbs < 18446744073709551616) : mulOk i j = true := mulOk_of (a := 64) (b := 64) hi hj
theorem dMul_64 {i j : Int} (hi : i.natAbs < 18446744073709551616) (hj : j.natAbs < 18446744073709551616) : dMul (.int i) (.int j) = .ok (.int (i * j)) := dMul_int (mul64 hi hj)
/-- the greatest divisor's bound, never reckoned out -/
def Lim : Nat := 2 ^ 9000
theorem lt_lim {n : Nat} (h : n < 18446744073709551616) : n < Lim := Nat.lt_of_lt_of_le (show n < 2 ^ 64 from h) (Nat.pow_le_pow_right (by decide) (by decide))
theorem dDiv_pos {i j : Int} (h : 0 < j) (h9 : j.natAbs < Lim) : dDiv (.int i) (.int j) = .ok (.int (i / j)) := by
  show (if divOk i j = true then Res.ok (D.int (i.fdiv j)) else .er) = _
  rw [if_pos (by
    exact stuck_iff.mpr ⟨by omega, log2_lt h9 (by decide)⟩), Int.fdiv_eq_ediv_of_nonneg i (by omega)]
theorem dDiv_64 {i j : Int} (h : 0 < j) (h9 : j < 18446744073709551616) : dDiv (.int i) (.int j) = .ok (.int (i / j)) := dDiv_pos h (lt_lim (by omega))
theorem dMod_pos {i j : Int} (h : 0 < j) : dMod (.int i) (.int j) = .ok (.int (i % j)) := by
  show (if modOk i j = true then Res.ok (D.int (i.fmod j)) else .er) = _
  rw [if_pos (show modOk i j = true from decide_eq_true (by omega)), Int.fmod_eq_emod_of_nonneg i (by omega)]
theorem kb_NoneType_int : kitB "NoneType" "int" = some false := by decide +kernel
theorem kb_bool_int : kitB "bool" "int" = some true := by decide +kernel
theorem kb_int_int : kitB "int" "int" = some true := by decide +kernel
theorem kb_str_int : kitB "str" "int" = some false := by decide +kernel
theorem kb_list_int : kitB "list" "int" = some false := by decide +kernel
theorem kb_tuple_int : kitB "tuple" "int" = some false := by decide +kernel
theorem kb_dict_int : kitB "dict" "int" = some false := by decide +kernel
@[simp] theorem isTy_int_non : isTy "int" .non = .ok false := by unfold isTy tyNm; simp only [kb_NoneType_int]
@[simp] theorem isTy_int_bl {b : Bool} : isTy "int" (.bl b) = .ok true := by unfold isTy tyNm; simp only [kb_bool_int]
@[simp] theorem isTy_int_int {b : Int} : isTy "int" (.int b) = .ok true := by unfold isTy tyNm; simp only [kb_int_int]
@[simp] theorem isTy_int_str {b : Str} : isTy "int" (.str b) = .ok false := by unfold isTy tyNm; simp only [kb_str_int]
@[simp] theorem isTy_int_lst {b : List D} : isTy "int" (.lst b) = .ok false := by unfold isTy tyNm; simp only [kb_list_int]
@[simp] theorem isTy_int_frl {b : List D} : isTy "int" (.frl b) = .ok false := by unfold isTy tyNm; simp only [kb_list_int]
@[simp] theorem isTy_int_tup {b : List D} : isTy "int" (.tup b) = .ok false := by unfold isTy tyNm; simp only [kb_tuple_int]
@[simp] theorem isTy_int_dic {k : List Key} {b : List D} : isTy "int" (.dic k b) = .ok false := by unfold isTy tyNm; simp only [kb_dict_int]
@[simp] theorem isTy_int_dit {k : List (List Key)} {b : List D} : isTy "int" (.dit k b) = .ok false := by unfold isTy tyNm; simp only [kb_dict_int]
theorem kb_NoneType_bool : kitB "NoneType" "bool" = some false := by decide +kernel
theorem kb_bool_bool : kitB "bool" "bool" = some true := by decide +kernel
theorem kb_int_bool : kitB "int" "bool" = some false := by decide +kernel
theorem kb_str_bool : kitB "str" "bool" = some false := by decide +kernel
theorem kb_list_bool : kitB "list" "bool" = some false := by decide +kernel
theorem kb_tuple_bool : kitB "tuple" "bool" = some false := by decide +kernel
theorem kb_dict_bool : kitB "dict" "bool" = some false := by decide +kernel
@[simp] theorem isTy_bool_non : isTy "bool" .non = .ok false := by unfold isTy tyNm; simp only [kb_NoneType_bool]
@[simp] theorem isTy_bool_bl {b : Bool} : isTy "bool" (.bl b) = .ok true := by unfold isTy tyNm; simp only [kb_bool_bool]
@[simp] theorem isTy_bool_int {b : Int} : isTy "bool" (.int b) = .ok false := by unfold isTy tyNm; simp only [kb_int_bool]
@[simp] theorem isTy_bool_str {b : Str} : isTy "bool" (.str b) = .ok false := by unfold isTy tyNm; simp only [kb_str_bool]
@[simp] theorem isTy_bool_lst {b : List D} : isTy "bool" (.lst b) = .ok false := by unfold isTy tyNm; simp only [kb_list_bool]
@[simp] theorem isTy_bool_frl {b : List D} : isTy "bool" (.frl b) = .ok false := by unfold isTy tyNm; simp only [kb_list_bool]
@[simp] theorem isTy_bool_tup {b : List D} : isTy "bool" (.tup b) = .ok false := by unfold isTy tyNm; simp only [kb_tuple_bool]
@[simp] theorem isTy_bool_dic {k : List Key} {b : List D} : isTy "bool" (.dic k b) = .ok false := by unfold isTy tyNm; simp only [kb_dict_bool]
@[simp] theorem isTy_bool_dit {k : List (List Key)} {b : List D} : isTy "bool" (.dit k b) = .ok false := by unfold isTy tyNm; simp only [kb_dict_bool]
theorem kb_NoneType_list : kitB "NoneType" "list" = some false := by decide +kernel
theorem kb_bool_list : kitB "bool" "list" = some false := by decide +kernel
theorem kb_int_list : kitB "int" "list" = some false := by decide +kernel
theorem kb_str_list : kitB "str" "list" = some false := by decide +kernel
theorem kb_list_list : kitB "list" "list" = some true := by decide +kernel
theorem kb_tuple_list : kitB "tuple" "list" = some false := by decide +kernel
theorem kb_dict_list : kitB "dict" "list" = some false := by decide +kernel
@[simp] theorem isTy_list_non : isTy "list" .non = .ok false := by unfold isTy tyNm; simp only [kb_NoneType_list]
@[simp] theorem isTy_list_bl {b : Bool} : isTy "list" (.bl b) = .ok false := by unfold isTy tyNm; simp only [kb_bool_list]
@[simp] theorem isTy_list_int {b : Int} : isTy "list" (.int b) = .ok false := by unfold isTy tyNm; simp only [kb_int_list]
@[simp] theorem isTy_list_str {b : Str} : isTy "list" (.str b) = .ok false := by unfold isTy tyNm; simp only [kb_str_list]
@[simp] theorem isTy_list_lst {b : List D} : isTy "list" (.lst b) = .ok true := by unfold isTy tyNm; simp only [kb_list_list]
@[simp] theorem isTy_list_frl {b : List D} : isTy "list" (.frl b) = .ok true := by unfold isTy tyNm; simp only [kb_list_list]
@[simp] theorem isTy_list_tup {b : List D} : isTy "list" (.tup b) = .ok false := by unfold isTy tyNm; simp only [kb_tuple_list]
@[simp] theorem isTy_list_dic {k : List Key} {b : List D} : isTy "list" (.dic k b) = .ok false := by unfold isTy tyNm; simp only [kb_dict_list]
@[simp] theorem isTy_list_dit {k : List (List Key)} {b : List D} : isTy "list" (.dit k b) = .ok false := by unfold isTy tyNm; simp only [kb_dict_list]
theorem kb_NoneType_tuple : kitB "NoneType" "tuple" = some false := by decide +kernel
theorem kb_bool_tuple : kitB "bool" "tuple" = some false := by decide +kernel
theorem kb_int_tuple : kitB "int" "tuple" = some false := by decide +kernel
theorem kb_str_tuple : kitB "str" "tuple" = some false := by decide +kernel
theorem kb_list_tuple : kitB "list" "tuple" = some false := by decide +kernel
theorem kb_tuple_tuple : kitB "tuple" "tuple" = some true := by decide +kernel
theorem kb_dict_tuple : kitB "dict" "tuple" = some false := by decide +kernel
@[simp] theorem isTy_tuple_non : isTy "tuple" .non = .ok false := by unfold isTy tyNm; simp only [kb_NoneType_tuple]
@[simp] theorem isTy_tuple_bl {b : Bool} : isTy "tuple" (.bl b) = .ok false := by unfold isTy tyNm; simp only [kb_bool_tuple]
@[simp] theorem isTy_tuple_int {b : Int} : isTy "tuple" (.int b) = .ok false := by unfold isTy tyNm; simp only [kb_int_tuple]
@[simp] theorem isTy_tuple_str {b : Str} : isTy "tuple" (.str b) = .ok false := by unfold isTy tyNm; simp only [kb_str_tuple]
@[simp] theorem isTy_tuple_lst {b : List D} : isTy "tuple" (.lst b) = .ok false := by unfold isTy tyNm; simp only [kb_list_tuple]
@[simp] theorem isTy_tuple_frl {b : List D} : isTy "tuple" (.frl b) = .ok false := by unfold isTy tyNm; simp only [kb_list_tuple]
@[simp] theorem isTy_tuple_tup {b : List D} : isTy "tuple" (.tup b) = .ok true := by unfold isTy tyNm; simp only [kb_tuple_tuple]
@[simp] theorem isTy_tuple_dic {k : List Key} {b : List D} : isTy "tuple" (.dic k b) = .ok false := by unfold isTy tyNm; simp only [kb_dict_tuple]
@[simp] theorem isTy_tuple_dit {k : List (List Key)} {b : List D} : isTy "tuple" (.dit k b) = .ok false := by unfold isTy tyNm; simp only [kb_dict_tuple]
theorem kb_NoneType_str : kitB "NoneType" "str" = some false := by decide +kernel
theorem kb_bool_str : kitB "bool" "str" = some false := by decide +kernel
theorem kb_int_str : kitB "int" "str" = some false := by decide +kernel
theorem kb_str_str : kitB "str" "str" = some true := by decide +kernel
theorem kb_list_str : kitB "list" "str" = some false := by decide +kernel
theorem kb_tuple_str : kitB "tuple" "str" = some false := by decide +kernel
theorem kb_dict_str : kitB "dict" "str" = some false := by decide +kernel
@[simp] theorem isTy_str_non : isTy "str" .non = .ok false := by unfold isTy tyNm; simp only [kb_NoneType_str]
@[simp] theorem isTy_str_bl {b : Bool} : isTy "str" (.bl b) = .ok false := by unfold isTy tyNm; simp only [kb_bool_str]
@[simp] theorem isTy_str_int {b : Int} : isTy "str" (.int b) = .ok false := by unfold isTy tyNm; simp only [kb_int_str]
@[simp] theorem isTy_str_str {b : Str} : isTy "str" (.str b) = .ok true := by unfold isTy tyNm; simp only [kb_str_str]
@[simp] theorem isTy_str_lst {b : List D} : isTy "str" (.lst b) = .ok false := by unfold isTy tyNm; simp only [kb_list_str]
@[simp] theorem isTy_str_frl {b : List D} : isTy "str" (.frl b) = .ok false := by unfold isTy tyNm; simp only [kb_list_str]
@[simp] theorem isTy_str_tup {b : List D} : isTy "str" (.tup b) = .ok false := by unfold isTy tyNm; simp only [kb_tuple_str]
@[simp] theorem isTy_str_dic {k : List Key} {b : List D} : isTy "str" (.dic k b) = .ok false := by unfold isTy tyNm; simp only [kb_dict_str]
@[simp] theorem isTy_str_dit {k : List (List Key)} {b : List D} : isTy "str" (.dit k b) = .ok false := by unfold isTy tyNm; simp only [kb_dict_str]
theorem kb_NoneType_dict : kitB "NoneType" "dict" = some false := by decide +kernel
theorem kb_bool_dict : kitB "bool" "dict" = some false := by decide +kernel
theorem kb_int_dict : kitB "int" "dict" = some false := by decide +kernel
theorem kb_str_dict : kitB "str" "dict" = some false := by decide +kernel
theorem kb_list_dict : kitB "list" "dict" = some false := by decide +kernel
theorem kb_tuple_dict : kitB "tuple" "dict" = some false := by decide +kernel
theorem kb_dict_dict : kitB "dict" "dict" = some true := by decide +kernel
@[simp] theorem isTy_dict_non : isTy "dict" .non = .ok false := by unfold isTy tyNm; simp only [kb_NoneType_dict]
@[simp] theorem isTy_dict_bl {b : Bool} : isTy "dict" (.bl b) = .ok false := by unfold isTy tyNm; simp only [kb_bool_dict]
@[simp] theorem isTy_dict_int {b : Int} : isTy "dict" (.int b) = .ok false := by unfold isTy tyNm; simp only [kb_int_dict]
@[simp] theorem isTy_dict_str {b : Str} : isTy "dict" (.str b) = .ok false := by unfold isTy tyNm; simp only [kb_str_dict]
@[simp] theorem isTy_dict_lst {b : List D} : isTy "dict" (.lst b) = .ok false := by unfold isTy tyNm; simp only [kb_list_dict]
@[simp] theorem isTy_dict_frl {b : List D} : isTy "dict" (.frl b) = .ok false := by unfold isTy tyNm; simp only [kb_list_dict]
@[simp] theorem isTy_dict_tup {b : List D} : isTy "dict" (.tup b) = .ok false := by unfold isTy tyNm; simp only [kb_tuple_dict]
@[simp] theorem isTy_dict_dic {k : List Key} {b : List D} : isTy "dict" (.dic k b) = .ok true := by unfold isTy tyNm; simp only [kb_dict_dict]
@[simp] theorem isTy_dict_dit {k : List (List Key)} {b : List D} : isTy "dict" (.dit k b) = .ok true := by unfold isTy tyNm; simp only [kb_dict_dict]
@[simp] theorem trD_bl {b : Bool} : trD (.bl b) = .ok b := rfl
@[simp] theorem trD_non : trD .non = .ok false := rfl
@[simp] theorem trD_int {i : Int} : trD (.int i) = .ok (i != 0) := rfl
@[simp] theorem trD_lst {xs : List D} : trD (.lst xs) = .ok (!xs.isEmpty) := rfl
@[simp] theorem trD_frl {xs : List D} : trD (.frl xs) = .ok (!xs.isEmpty) := rfl
@[simp] theorem trD_tup {xs : List D} : trD (.tup xs) = .ok (!xs.isEmpty) := rfl
@[simp] theorem dIsi_ap {T : String} : dIsi T d = (isTy T d).bind fun b => .ok (.bl b) := rfl
@[simp] theorem dIsi2_ap {T U : String} : dIsi2 T U d = (isTy T d).bind fun b => if b = true then .ok (.bl true) else (isTy U d).bind fun c => .ok (.bl c) := rfl
end
end Da
namespace Da
open PySem PySem.Spec L2
/-! ### loops by their invariants -/
/-- a turn's end: N goes on, Q is wanted of what leaves the loop -/
def Turn (N : Env → Prop) (Q : Res Fl → Prop) : Res Fl → Prop
  | .ok (.nx ρ) => N ρ
  | .ok (.ct ρ) => N ρ
  | .ok (.bk ρ) => Q (.ok (.nx ρ))
  | .ok (.rt d) => Q (.ok (.rt d))
  | .ok (.xc c fs ρ) => Q (.ok (.xc c fs ρ))
  | .ex _ _ => False
  | .er => False
@[simp] theorem Turn_nx {N : Env → Prop} {Q : Res Fl → Prop} {ρ : Env} : Turn N Q (.ok (.nx ρ)) = N ρ := rfl
@[simp] theorem Turn_ct {N : Env → Prop} {Q : Res Fl → Prop} {ρ : Env} : Turn N Q (.ok (.ct ρ)) = N ρ := rfl
@[simp] theorem Turn_bk {N : Env → Prop} {Q : Res Fl → Prop} {ρ : Env} : Turn N Q (.ok (.bk ρ)) = Q (.ok (.nx ρ)) := rfl
@[simp] theorem Turn_rt {N : Env → Prop} {Q : Res Fl → Prop} {d : D} : Turn N Q (.ok (.rt d)) = Q (.ok (.rt d)) := rfl
theorem forGo_inv {g : D → Env → Res Env} {F : FS} (Q : Res Fl → Prop) (P : Nat → Env → Prop) : ∀ (xs : List D) (k : Nat) (ρ : Env), P k ρ →
    (∀ i x ρ, xs[i]? = some x → P (k + i) ρ → ∃ ρ1, g x ρ = .ok ρ1 ∧ Turn (P (k + i + 1)) Q (F ρ1)) → (∀ ρ, P (k + xs.length) ρ → Q (.ok (.nx ρ))) → Q (forGo g F xs ρ)
  | [], k, ρ, h0, _, hd => hd ρ h0
  | x :: xs, k, ρ, h0, hs, hd => by
    obtain ⟨ρ1, e1, t⟩ := hs 0 x ρ rfl h0
    unfold forGo
    rw [e1]
    have go : ∀ ρ2, P (k + 1) ρ2 → Q (forGo g F xs ρ2) := fun ρ2 h2 => forGo_inv Q P xs (k + 1) ρ2 h2 (fun i y ρ e p => by
      have := hs (i + 1) y ρ (by simpa using e) (by rw [show k + (i + 1) = k + 1 + i by omega]; exact p)
      rw [show k + 1 + i + 1 = k + (i + 1) + 1 by omega]
      exact this) (fun ρ p => hd ρ (by rw [List.length_cons, show k + (xs.length + 1) = k + 1 + xs.length by omega]; exact p))
    show Q (match F ρ1 with
      | .ok (.nx ρ2) => forGo g F xs ρ2
      | .ok (.ct ρ2) => forGo g F xs ρ2
      | .ok (.bk ρ2) => .ok (.nx ρ2)
      | o => o)
    cases ef : F ρ1 with
    | ok o =>
      rw [ef] at t
      cases o with
      | nx ρ2 => exact go ρ2 t
      | ct ρ2 => exact go ρ2 t
      | bk ρ2 => exact t
      | rt d => exact t
      | xc c fs ρ2 => exact t
    | ex c fs => rw [ef] at t; exact t.elim
    | er => rw [ef] at t; exact t.elim
theorem for_inv {g : D → Env → Res Env} {F : FS} {xs : List D} {ρ : Env} {Q : Res Fl → Prop} (P : Nat → Env → Prop) (h0 : P 0 ρ) (hs : ∀ i x ρ, xs[i]? = some x → P i ρ → ∃ ρ1, g x ρ = .ok ρ1 ∧ Turn (P (i + 1)) Q (F ρ1)) (hd : ∀ ρ, P xs.length ρ → Q (.ok (.nx ρ))) : Q (forGo g F xs ρ) :=
  forGo_inv Q P xs 0 ρ h0 (fun i x ρ e p => by rw [Nat.zero_add] at p ⊢; exact hs i x ρ e p) (fun ρ p => by rw [Nat.zero_add] at p; exact hd ρ p)
theorem rng_get {lo : Int} {n i : Nat} {x : D} (h : (rng lo n)[i]? = some x) : x = .int (lo + i) ∧ i < n := by
  unfold rng at h
  rw [List.getElem?_map] at h
  cases e : (List.range n)[i]? with
  | none => rw [e] at h; cases h
  | some j =>
    rw [e] at h
    have hi := (List.getElem?_eq_some_iff.mp e).1
    rw [List.length_range] at hi
    rw [List.getElem?_range hi] at e
    cases e
    cases h
    exact ⟨rfl, hi⟩
@[simp] theorem rng_length {lo : Int} {n : Nat} : (rng lo n).length = n := by unfold rng; rw [List.length_map, List.length_range]
theorem for_rng {g : D → Env → Res Env} {F : FS} {lo : Int} {n : Nat} {ρ : Env} {Q : Res Fl → Prop} (P : Nat → Env → Prop) (h0 : P 0 ρ) (hs : ∀ (i : Nat) ρ, i < n → P i ρ → ∃ ρ1, g (.int (lo + i)) ρ = .ok ρ1 ∧ Turn (P (i + 1)) Q (F ρ1)) (hd : ∀ ρ, P n ρ → Q (.ok (.nx ρ))) : Q (forGo g F (rng lo n) ρ) :=
  for_inv P h0 (fun i x ρ e p => by
    obtain ⟨rfl, hi⟩ := rng_get e
    exact hs i ρ hi p) (fun ρ p => hd ρ (by rw [rng_length] at p; exact p))
theorem fFor_ap {it : Env → Res (List D)} {g : D → Env → Res Env} {F : FS} {ρ : Env} {xs : List D} (h : it ρ = .ok xs) : fFor it g F ρ = forGo g F xs ρ := by unfold fFor; rw [h]; rfl
theorem gRng1_int {j : Int} (h0 : 0 ≤ j) (h : j < 4611686018427387904) : gRng1 [.int j] = .ok (rng 0 j.toNat) := by
  show (if rngOk 0 j = true then Res.ok (rng 0 j.toNat) else .er) = _
  rw [if_pos (by
    exact stuck_iff.mpr (by omega))]
theorem gRng2_int {i j : Int} (h0 : -4611686018427387904 ≤ i) (h1 : i < 4611686018427387904) (h2 : -4611686018427387904 ≤ j) (h : j < 4611686018427387904) : gRng2 [.int i, .int j] = .ok (rng i (j - i).toNat) := by
  show (if rngOk i j = true then Res.ok (rng i (j - i).toNat) else .er) = _
  rw [if_pos (by
    exact stuck_iff.mpr (by omega))]
theorem whileGo_inv {c : Env → Res Bool} {F : FS} {Q : Res Fl → Prop} (P : Env → Prop) (μ : Env → Nat) (hs : ∀ ρ, P ρ → ∃ b, c ρ = .ok b ∧ (b = true → Turn (fun ρ' => P ρ' ∧ μ ρ' < μ ρ) Q (F ρ)) ∧ (b = false → Q (.ok (.nx ρ)))) :
    ∀ (n : Nat) (ρ : Env), P ρ → μ ρ < n → Q (whileGo c F n ρ)
  | 0, ρ, _, h => absurd h (Nat.not_lt_zero _)
  | n + 1, ρ, hp, hn => by
    obtain ⟨b, eb, ht, hf⟩ := hs ρ hp
    unfold whileGo
    rw [eb]
    cases b with
    | false => exact hf rfl
    | true =>
      have t := ht rfl
      show Q (match F ρ with
        | .ok (.nx ρ2) => whileGo c F n ρ2
        | .ok (.ct ρ2) => whileGo c F n ρ2
        | .ok (.bk ρ2) => .ok (.nx ρ2)
        | o => o)
      cases ef : F ρ with
      | ok o =>
        rw [ef] at t
        cases o with
        | nx ρ2 => exact whileGo_inv P μ hs n ρ2 t.1 (by have := t.2; omega)
        | ct ρ2 => exact whileGo_inv P μ hs n ρ2 t.1 (by have := t.2; omega)
        | bk ρ2 => exact t
        | rt d => exact t
        | xc c fs ρ2 => exact t
      | ex c fs => rw [ef] at t; exact t.elim
      | er => rw [ef] at t; exact t.elim
theorem while_inv {c : Env → Res Bool} {F : FS} {Q : Res Fl → Prop} {ρ : Env} (P : Env → Prop) (μ : Env → Nat) (h0 : P ρ) (hn : μ ρ < 1000000000000000000) (hs : ∀ ρ, P ρ → ∃ b, c ρ = .ok b ∧ (b = true → Turn (fun ρ' => P ρ' ∧ μ ρ' < μ ρ) Q (F ρ)) ∧ (b = false → Q (.ok (.nx ρ)))) : Q (fWhile c F ρ) :=
  whileGo_inv P μ hs FUEL ρ h0 hn
/-- what comes behind a statement -/
theorem andThen_of {o : Res Fl} {G : FS} {Q : Res Fl → Prop} (h : Turn (fun ρ => Q (G ρ)) (fun r => match r with
  | .ok (.nx ρ) => Q (.ok (.bk ρ))
  | r => Q r) o) (hc : ∀ ρ, o ≠ .ok (.ct ρ)) : Q (andThen o G) := by
  cases o with
  | ok o =>
    cases o with
    | nx ρ => exact h
    | ct ρ => exact absurd rfl (hc ρ)
    | bk ρ => exact h
    | rt d => exact h
    | xc c fs ρ => exact h
  | ex c fs => exact h.elim
  | er => exact h.elim
/-- Q of a whole run, from a run of its first part of which R is known -/
theorem seq_by {F G : FS} {ρ : Env} {Q : Res Fl → Prop} (R : Res Fl → Prop) (h : R (F ρ)) (k : ∀ o, R o → Q (andThen o G)) : Q (fSeq F G ρ) := k _ h
theorem runF_of {n : Nat} {md : Md} {F : FS} {ds : List D} {Q : Res D → Prop} (h : (fun o : Res Fl => match o with
  | .ok (.rt d) => Q (.ok d)
  | .ok (.nx _) => if md = .sh then Q (.ok .non) else Q .er
  | .ok (.xc c fs _) => Q (.ex c fs)
  | _ => Q .er) (F (startE n ds))) : Q (runF n md F ds) := by
  unfold runF
  cases e : F (startE n ds) with
  | ok o =>
    rw [e] at h
    cases o with
    | nx ρ =>
      simp only at h ⊢
      split
      · rename_i hm; rw [if_pos hm] at h; exact h
      · rename_i hm; rw [if_neg hm] at h; exact h
    | _ => exact h
  | ex c fs => rw [e] at h; exact h
  | er => rw [e] at h; exact h
/-- a run that hands out d -/
theorem runF_rt {n : Nat} {md : Md} {F : FS} {ds : List D} {d : D} (h : F (startE n ds) = .ok (.rt d)) : runF n md F ds = .ok d := by unfold runF; rw [h]
@[simp] theorem startE_one {n : Nat} {a : D} : startE (n + 1) [a] = some a :: List.replicate n none := by simp [startE]
@[simp] theorem startE_two {n : Nat} {a b : D} : startE (n + 2) [a, b] = some a :: some b :: List.replicate n none := by simp [startE]
@[simp] theorem chk_one {f : List D → Res D} {a : D} : chk 1 f [a] = f [a] := rfl
@[simp] theorem chk_two {f : List D → Res D} {a b : D} : chk 2 f [a, b] = f [a, b] := rfl
@[simp] theorem chk_three {f : List D → Res D} {a b c : D} : chk 3 f [a, b, c] = f [a, b, c] := rfl
@[simp] theorem chk_four {f : List D → Res D} {a b c d : D} : chk 4 f [a, b, c, d] = f [a, b, c, d] := rfl
@[simp] theorem gLstD_nil : gLstD [] = .ok (.lst []) := rfl
@[simp] theorem gLstD_cons {d : D} {ds : List D} (h : ds.length < 100000 := by decide) : gLstD (d :: ds) = .ok (.lst (d :: ds)) := by
  unfold gLstD
  rw [if_pos (by rw [List.length_cons]; omega)]
theorem gLstD_of {ds : List D} (h : ds.length ≤ 100000) : gLstD ds = .ok (.lst ds) := if_pos h
theorem gTupD_of {ds : List D} (h : ds.length ≤ 100000) : gTupD ds = .ok (.tup ds) := if_pos h
theorem dIx_lst {xs : List D} {i : Int} {d : D} (h : atI xs i = some d) : dIx (.lst xs) (.int i) = .ok d := by simp only [dIx, h]
theorem dIx_tup {xs : List D} {i : Int} {d : D} (h : atI xs i = some d) : dIx (.tup xs) (.int i) = .ok d := by simp only [dIx, h]
theorem dIx_frl {xs : List D} {i : Int} {d : D} (h : atI xs i = some d) : dIx (.frl xs) (.int i) = .ok d := by simp only [dIx, h]
theorem atI_map {α : Type} {xs : List α} {f : α → D} {j : Nat} (h : j < xs.length) : atI (xs.map f) (j : Int) = some (f xs[j]) := atI_nat (by rw [List.getElem?_map, List.getElem?_eq_getElem h]; rfl)
end Da
namespace Da
open PySem PySem.Spec L2
/-! ### defs that stand in every law -/
def F_law_whole : FS := (fRet (fBv (fAnd (fB (f1 (dIsi "int") (fV 0))) (fB (fBv (fNot (fB (f1 (dIsi "bool") (fV 0)))))))))
def m_law_whole : List D → Res D := runF 1 .sh F_law_whole
def F_law_cell : FS := (fSeq (fIfS (fB (f2 dLt (fV 1) (fOn (on1 dLen) (fA (fV 0) fA0)))) (fRet (f2 dIx (fV 0) (fV 1))) fNext)
    (fSeq (fSet 2 (fC (.int 17)))
    (fSeq (fFor (fL (fV 0)) (gN 3) (fSet 2 (f2 dMod (fOn (on1 dInt) (fA (f2 dAdd (f2 dMul (fV 2) (fC (.int 31))) (f2 dMod (fOn (on1 dInt) (fA (fV 3) fA0)) (fC (.int 1000003)))) fA0)) (fC (.int 1000003)))))
    (fRet (f2 dMod (fOn (on1 dInt) (fA (f2 dMul (f2 dMul (f2 dAdd (fV 2) (fC (.int 7))) (f2 dAdd (fV 1) (fC (.int 3)))) (fC (.int 69621))) fA0)) (fC (.int 2147483647)))))))
def m_law_cell : List D → Res D := runF 4 .sh F_law_cell
def F_law_digits : FS := (fSeq (fSet 2 (fOn gLstD fA0))
    (fSeq (fSet 3 (fOn (on1 dInt) (fA (fV 0) fA0)))
    (fSeq (fIfS (fB (f2 dGe (fV 3) (f2 dPow (fC (.int 10)) (fC (.int 18))))) (fSeq (fSet 3 (f2 dSub (fV 3) (f2 dPow (fC (.int 10)) (fC (.int 18)))))
    (fSeq (fFor (fL (fV 1)) (gN 6) (fSeq (fApp 2 (f2 dMod (fOn (on1 dInt) (fA (fV 3) fA0)) (fV 6)))
    (fSet 3 (f2 dDiv (fOn (on1 dInt) (fA (fV 3) fA0)) (fV 6)))))
    (fRet (fV 2)))) fNext)
    (fSeq (fSet 4 (f2 dMod (fOn (on1 dInt) (fA (fV 3) fA0)) (fC (.int 2147483629))))
    (fSeq (fFor (fR1 (fA (fOn (on1 dLen) (fA (fV 1) fA0)) fA0)) (gN 5) (fSeq (fSet 4 (f2 dMod (fOn (on1 dInt) (fA (f2 dAdd (f2 dAdd (f2 dMul (fV 4) (fC (.int 48271))) (f2 dMul (fC (.int 974711)) (fV 5))) (fC (.int 12345))) fA0)) (fC (.int 2147483647))))
    (fSeq (fSet 7 (f2 dMod (fOn (on1 dInt) (fA (f2 dMul (fV 4) (f2 dAdd (f2 dDiv (fV 4) (fC (.int 65537))) (fC (.int 3)))) fA0)) (fC (.int 2147483629))))
    (fApp 2 (f2 dMod (f2 dDiv (fV 7) (fC (.int 19))) (f2 dIx (fV 1) (fV 5)))))))
    (fRet (fV 2)))))))
def m_law_digits : List D → Res D := runF 8 .ow F_law_digits
theorem law_whole_int {i : Int} : m_law_whole [.int i] = .ok (.bl true) := by simp [m_law_whole, runF, F_law_whole]
theorem law_cell_ok (ns : List Int) (k : Int) (hk : 0 ≤ k) (hk2 : k < 1000000) : ∃ c : Int, m_law_cell [.frl (ns.map D.int), .int k] = .ok (.int c) := by
  by_cases h : k < ns.length
  · refine ⟨ns[k.toNat], runF_rt ?_⟩
    have e := atI_map (f := D.int) (xs := ns) (j := k.toNat) (by omega)
    rw [show ((k.toNat : Nat) : Int) = k by omega] at e
    simp [F_law_cell, h, dIx_frl e]
  · have key : (fun r => ∃ s x, r = Res.ok (Fl.nx [some (.frl (ns.map D.int)), some (.int k), some (.int s), x]) ∧ 0 ≤ s ∧ s < 1000003)
        (fFor (fL (fV 0)) (gN 3) (fSet 2 (f2 dMod (fOn (on1 dInt) (fA (f2 dAdd (f2 dMul (fV 2) (fC (.int 31))) (f2 dMod (fOn (on1 dInt) (fA (fV 3) fA0)) (fC (.int 1000003)))) fA0)) (fC (.int 1000003)))) [some (.frl (ns.map D.int)), some (.int k), some (.int 17), none]) := by
      rw [fFor_ap (xs := ns.map D.int) (by simp)]
      refine for_inv (Q := fun r => ∃ s x, r = Res.ok (Fl.nx [some (.frl (ns.map D.int)), some (.int k), some (.int s), x]) ∧ 0 ≤ s ∧ s < 1000003) (fun _ ρ => ∃ s x, ρ = [some (.frl (ns.map D.int)), some (.int k), some (.int s), x] ∧ 0 ≤ s ∧ s < 1000003) ⟨17, none, rfl, by omega, by omega⟩ ?_ ?_
      · rintro i y ρ hy ⟨s, x, rfl, h1, h2⟩
        rw [List.getElem?_map] at hy
        cases e : ns[i]? with
        | none => rw [e] at hy; cases hy
        | some z =>
          rw [e] at hy
          cases hy
          refine ⟨_, rfl, ?_⟩
          simp [dMod_pos, dMul_64 (i := s) (j := 31) (by omega) (by omega)]
          omega
      · rintro ρ ⟨s, x, rfl, h1, h2⟩
        exact ⟨s, x, rfl, h1, h2⟩
    obtain ⟨s, x, e, h1, h2⟩ := key
    have m1 : 0 ≤ (s + 7) * (k + 3) ∧ (s + 7) * (k + 3) ≤ 1000010 * 1000003 := ⟨Int.mul_nonneg (by omega) (by omega), Int.mul_le_mul (by omega) (by omega) (by omega) (by omega)⟩
    refine ⟨((s + 7) * (k + 3) * 69621) % 2147483647, runF_rt ?_⟩
    simp [F_law_cell, h, e, dMod_pos, dMul_64 (i := s + 7) (j := k + 3) (by omega) (by omega), dMul_64 (i := (s + 7) * (k + 3)) (j := 69621) (by omega) (by omega)]
theorem dPow_int {i j r : Int} (h : powOk i j = true) (hr : i ^ j.toNat = r) : dPow (.int i) (.int j) = .ok (.int r) := by
  rw [← hr]
  exact if_pos h
theorem pow_10_18 : dPow (.int 10) (.int 18) = .ok (.int 1000000000000000000) := dPow_int (stuck_iff.mpr (by omega)) (by decide +kernel)
/-- a row of digits below the sizes -/
def Digs (sizes row : List Int) : Prop := row.length = sizes.length ∧ ∀ (i : Nat) (s r : Int), sizes[i]? = some s → row[i]? = some r → 0 ≤ r ∧ r < s
theorem Digs.snoc {sizes row : List Int} {n : Nat} {s r : Int} (h : Digs (sizes.take n) row) (hs : sizes[n]? = some s) (h0 : 0 ≤ r) (h1 : r < s) : Digs (sizes.take (n + 1)) (row ++ [r]) := by
  obtain ⟨hl, hd⟩ := h
  have hn := (List.getElem?_eq_some_iff.mp hs).1
  rw [List.length_take, Nat.min_eq_left (by omega)] at hl
  refine ⟨by rw [List.length_append, List.length_take, hl, Nat.min_eq_left (by omega)]; rfl, fun i s' r' e1 e2 => ?_⟩
  rw [List.getElem?_take] at e1
  split at e1
  · rename_i hi
    by_cases hin : i < n
    · exact hd i s' r' (by rw [List.getElem?_take, if_pos hin]; exact e1) (by rw [List.getElem?_append_left (by omega)] at e2; exact e2)
    · have : i = n := by omega
      subst this
      rw [hs] at e1
      cases e1
      rw [← hl, List.getElem?_concat_length] at e2
      cases e2
      exact ⟨h0, h1⟩
  · cases e1
theorem law_digits_ok (c : Int) (sizes : List Int) (hp : ∀ s ∈ sizes, 0 < s ∧ s.natAbs < Lim) (hz : sizes.length ≤ 100000) : ∃ row : List Int, m_law_digits [.int c, .lst (sizes.map D.int)] = .ok (.lst (row.map D.int)) ∧ Digs sizes row := by
  have hpow := pow_10_18
  by_cases h : 1000000000000000000 ≤ c
  · have key : (fun r => ∃ row y z, r = Res.ok (Fl.nx [some (.int c), some (.lst (sizes.map D.int)), some (.lst (row.map D.int)), some (.int y), none, none, z, none]) ∧ Digs sizes row)
        (fFor (fL (fV 1)) (gN 6) (fSeq (fApp 2 (f2 dMod (fOn (on1 dInt) (fA (fV 3) fA0)) (fV 6))) (fSet 3 (f2 dDiv (fOn (on1 dInt) (fA (fV 3) fA0)) (fV 6))))
          [some (.int c), some (.lst (sizes.map D.int)), some (.lst []), some (.int (c - 1000000000000000000)), none, none, none, none]) := by
      rw [fFor_ap (xs := sizes.map D.int) (by simp)]
      refine for_inv (Q := fun r => ∃ row y z, r = Res.ok (Fl.nx [some (.int c), some (.lst (sizes.map D.int)), some (.lst (row.map D.int)), some (.int y), none, none, z, none]) ∧ Digs sizes row)
        (fun n ρ => ∃ row y z, ρ = [some (.int c), some (.lst (sizes.map D.int)), some (.lst (row.map D.int)), some (.int y), none, none, z, none] ∧ Digs (sizes.take n) row) ⟨[], _, none, rfl, rfl, fun i s r e => by simp at e⟩ ?_ ?_
      · rintro i x ρ hx ⟨row, y, z, rfl, hd⟩
        rw [List.getElem?_map] at hx
        cases e : sizes[i]? with
        | none => rw [e] at hx; cases hx
        | some s =>
          rw [e] at hx
          cases hx
          have hs := hp s (List.mem_of_getElem? e)
          refine ⟨_, rfl, ?_⟩
          have hl : row.length ≤ 100000 := by
            have := hd.1
            rw [List.length_take] at this
            omega
          have hsz : szOk (row.length + 1) = true := szOk_yes (by omega)
          simp [fApp, hsz, dMod_pos hs.1, dDiv_pos hs.1 hs.2]
          exact ⟨row ++ [y % s], by simp, hd.snoc e (Int.emod_nonneg _ (by omega)) (Int.emod_lt_of_pos _ hs.1)⟩
      · rintro ρ ⟨row, y, z, rfl, hd⟩
        rw [List.length_map, List.take_length] at hd
        exact ⟨row, y, z, rfl, hd⟩
    obtain ⟨row, y, z, e, hd⟩ := key
    refine ⟨row, runF_rt ?_, hd⟩
    simp [F_law_digits, hpow, h, e]
  · have key : ∀ s0 : Int, 0 ≤ s0 → s0 < 2147483647 → (fun r => ∃ row s y z, r = Res.ok (Fl.nx [some (.int c), some (.lst (sizes.map D.int)), some (.lst (row.map D.int)), some (.int c), some (.int s), y, none, z]) ∧ Digs sizes row)
        (fFor (fR1 (fA (fOn (on1 dLen) (fA (fV 1) fA0)) fA0)) (gN 5) (fSeq (fSet 4 (f2 dMod (fOn (on1 dInt) (fA (f2 dAdd (f2 dAdd (f2 dMul (fV 4) (fC (.int 48271))) (f2 dMul (fC (.int 974711)) (fV 5))) (fC (.int 12345))) fA0)) (fC (.int 2147483647))))
    (fSeq (fSet 7 (f2 dMod (fOn (on1 dInt) (fA (f2 dMul (fV 4) (f2 dAdd (f2 dDiv (fV 4) (fC (.int 65537))) (fC (.int 3)))) fA0)) (fC (.int 2147483629))))
    (fApp 2 (f2 dMod (f2 dDiv (fV 7) (fC (.int 19))) (f2 dIx (fV 1) (fV 5))))))
          [some (.int c), some (.lst (sizes.map D.int)), some (.lst []), some (.int c), some (.int s0), none, none, none]) := by
      intro s0 hs0 hs1
      rw [fFor_ap (xs := rng 0 sizes.length) (by simp [gRng1_int (j := (sizes.length : Int)) (by omega) (by omega)])]
      refine for_rng (Q := fun r => ∃ row s y z, r = Res.ok (Fl.nx [some (.int c), some (.lst (sizes.map D.int)), some (.lst (row.map D.int)), some (.int c), some (.int s), y, none, z]) ∧ Digs sizes row)
        (fun n ρ => ∃ row s y z, ρ = [some (.int c), some (.lst (sizes.map D.int)), some (.lst (row.map D.int)), some (.int c), some (.int s), y, none, z] ∧ Digs (sizes.take n) row ∧ 0 ≤ s ∧ s < 2147483647) ⟨[], s0, none, none, rfl, ⟨rfl, fun i s r e => by simp at e⟩, hs0, hs1⟩ ?_ ?_
      · rintro i ρ hi ⟨row, s, y, z, rfl, hd, h1, h2⟩
        have e := List.getElem?_eq_getElem hi
        have hs := hp sizes[i] (List.mem_of_getElem? e)
        have hl : row.length ≤ 100000 := by
          have := hd.1
          rw [List.length_take] at this
          omega
        have hsz : szOk (row.length + 1) = true := szOk_yes (by omega)
        have ei := atI_map (f := D.int) (xs := sizes) (j := i) hi
        refine ⟨_, rfl, ?_⟩
        generalize hs' : (s * 48271 + 974711 * (0 + (i : Int)) + 12345) % 2147483647 = s'
        have b1 : 0 ≤ s' := by rw [← hs']; exact Int.emod_nonneg _ (by decide)
        have b2 : s' < 2147483647 := by rw [← hs']; exact Int.emod_lt_of_pos _ (by decide)
        have b3 : 0 ≤ s' / 65537 ∧ s' / 65537 < 40000 := by omega
        have hs'' : (s * 48271 + 974711 * (i : Int) + 12345) % 2147483647 = s' := by rw [← hs']; simp
        have q1 : dMod (.int (s * 48271 + 974711 * (i : Int) + 12345)) (.int 2147483647) = .ok (.int s') := by rw [dMod_pos (by decide), hs'']
        simp [fApp, hsz, q1, dMul_64 (i := s) (j := 48271) (by omega) (by omega), dMul_64 (i := 974711) (j := (i : Int)) (by omega) (by omega), dDiv_64 (i := s') (j := 65537) (by decide) (by decide), dMul_64 (i := s') (j := s' / 65537 + 3) (by omega) (by omega),
          dMod_pos (j := 2147483629), dDiv_64 (j := 19) (by decide) (by decide), dIx_lst ei, dMod_pos hs.1]
        exact ⟨row ++ [s' * (s' / 65537 + 3) % 2147483629 / 19 % sizes[i]], s', ⟨by simp, rfl⟩, hd.snoc e (Int.emod_nonneg _ (by omega)) (Int.emod_lt_of_pos _ hs.1), b1, b2⟩
      · rintro ρ ⟨row, s, y, z, rfl, hd, _, _⟩
        rw [List.take_length] at hd
        exact ⟨row, s, y, z, rfl, hd⟩
    obtain ⟨row, s, y, z, e, hd⟩ := key (c % 2147483629) (Int.emod_nonneg _ (by decide)) (by have := Int.emod_lt_of_pos c (show (0 : Int) < 2147483629 by decide); omega)
    refine ⟨row, runF_rt ?_, hd⟩
    simp [F_law_digits, hpow, h, dMod_pos, e]
end Da
namespace Da
open PySem PySem.Spec L2
/-! ### comprehensions -/
/-- the data of the slots vs forgotten -/
def wipeD (ρ : Env) : List Nat → Env
  | [] => ρ
  | v :: vs => (wipeD ρ vs).set v none
/-- the items of a comprehension -/
def lcGo (g : D → Env → Res Env) (c : Env → Res Bool) (f : Env → Res D) (ρ : Env) : List D → Res (List D)
  | [] => .ok []
  | x :: xs => match g x ρ with
    | .ok ρ1 => (match c ρ1 with
      | .ok b => if b = true then (match f ρ1 with
        | .ok y => (match lcGo g c f ρ xs with
          | .ok ys => .ok (y :: ys)
          | _ => .er)
        | _ => .er) else lcGo g c f ρ xs
      | _ => .er)
    | _ => .er
def asLst (r : Res (List D)) : Res D := match r with
  | .ok ys => .ok (.lst ys)
  | _ => .er
def fLc (vs : List Nat) (it : Env → Res (List D)) (g : D → Env → Res Env) (c : Env → Res Bool) (f : Env → Res D) : Env → Res D := fun ρ => (it ρ).bind fun xs => if szOk xs.length = true then asLst (lcGo g c f (wipeD ρ vs) xs) else .er
def fYes : Env → Res Bool := fun _ => .ok true
def EF : WX := fun _ _ _ _ => False
theorem takesF {X : Cx} : Takes X EF := fun _ _ x => by
  obtain ⟨_, _, _, _, _, _, _, _, _, _, _, _, z⟩ := x
  exact z.2.2.2.2.elim
structure JTs (X : Cx) (E : WX) (m : Mds) (es : List Expr) (f : Env → Res Bool) : Prop where
  pt : PTs X es (tT X.K X.mg E m f)
section
variable {K : PySem.W.Frag} {mg : Str → Option Value} {m : Mds} {F : Nat → List Addr} {S S' H H' : Hp} {σ : L2.St} {ρ : Env}
theorem EnvF.wipe (h : EnvF K mg m F S H σ ρ) : ∀ vs : List Nat, EnvF K mg m F S H (L2.wipe σ vs) (wipeD ρ vs)
  | [] => h
  | v :: vs => by
    have ih := EnvF.wipe h vs
    have key : ∀ {j : Nat} {d : D}, ((wipeD ρ vs).set v none)[j]? = some (some d) → j ≠ v ∧ (wipeD ρ vs)[j]? = some (some d) := fun {j d} ej => by
      by_cases hj : v = j
      · subst hj
        rw [List.getElem?_set, if_pos rfl] at ej
        split at ej <;> cases ej
      · rw [List.getElem?_set_ne hj] at ej
        exact ⟨fun z => hj z.symm, ej⟩
    unfold L2.wipe wipeD
    refine ⟨by rw [List.length_set, List.length_set]; exact ih.len, fun i d e => ?_, fun i d e => ih.nd i d (key e).2, fun i j d e hij e1 e2 => ih.apart i j d e hij (key e1).2 (key e2).2⟩
    obtain ⟨w, e1, o⟩ := ih.at_ i d (key e).2
    exact ⟨w, by rw [List.getElem?_set_ne (Ne.symm (key e).1)]; exact e1, o⟩
theorem EnvM.wipe (h : EnvM K mg m S H σ ρ) (vs : List Nat) : EnvM K mg m S H (L2.wipe σ vs) (wipeD ρ vs) := by
  obtain ⟨hs, F, h⟩ := h
  exact ⟨hs, F, h.wipe vs⟩
/-- slots as of a body that nothing was before -/
theorem EnvM.bare (h : EnvM K mg m S H σ ρ) : ∃ F, StF K mg m (fun _ => none) (fun _ => none) S F σ ρ H := by
  obtain ⟨hs, F, h⟩ := h
  exact ⟨F, ⟨(fun _ _ e => nomatch e), (fun _ _ e => nomatch e), hs, (fun _ _ => .inr rfl)⟩, h, (fun _ _ _ _ _ => rfl)⟩
theorem wipe_at {vs : List Nat} {j : Nat} : (L2.wipe σ vs)[j]? = if j ∈ vs ∧ j < σ.length then some none else σ[j]? := by
  induction vs with
  | nil => simp [L2.wipe]
  | cons v vs ih =>
    unfold L2.wipe
    rw [List.getElem?_set, L2.wipe_length, ih]
    by_cases hv : v = j
    · subst hv
      by_cases hl : v < σ.length
      · simp [hl]
      · simp [hl]
    · have : ¬ j = v := fun z => hv z.symm
      simp [hv, this]
theorem wipe_eq {σ' : L2.St} {vs ts : List Nat} (hl : σ'.length = σ.length) (hj : ∀ j, j ∉ ts → σ'[j]? = (L2.wipe σ vs)[j]?) (hts : ∀ t ∈ ts, t ∈ vs) : L2.wipe σ' vs = L2.wipe σ vs := by
  refine List.ext_getElem? fun j => ?_
  rw [wipe_at, wipe_at, hl]
  by_cases hv : j ∈ vs
  · by_cases hlt : j < σ.length
    · rw [if_pos ⟨hv, hlt⟩, if_pos ⟨hv, hlt⟩]
    · rw [if_neg (fun z => hlt z.2), if_neg (fun z => hlt z.2), List.getElem?_eq_none (by omega), List.getElem?_eq_none (by omega)]
  · rw [if_neg (fun z => hv z.1), if_neg (fun z => hv z.1)]
    have := hj j (fun z => hv (hts j z))
    rw [wipe_at, if_neg (fun z => hv z.1)] at this
    exact this
/-- a hidden new object is written -/
theorem Step.write {p : Addr} {o : HO} (st : Step S H S' H') (hs : S' p = none) (hp : H p = none) : Step S H S' (upd H' p o) := by
  refine ⟨fun b x e => ?_, st.ss, fun b x e => ?_, st.new⟩
  · rw [upd_ne (ne_of_none e hp)]
    exact st.hh b x e
  · rw [upd_ne (ne_of_none e hs)]
    exact st.sub b x e
end
section
variable {K : PySem.W.Frag} {mg : Str → Option Value} {E : WX} {m : Mds} {it : Env → Res (List D)} {g : D → Env → Res Env} {c : Env → Res Bool} {f : Env → Res D} {ts vs : List Nat}
/-- the list under way: its items so far, what is still to come -/
def LcW (K : PySem.W.Frag) (mg : Str → Option Value) (g : D → Env → Res Env) (c : Env → Res Bool) (f : Env → Res D) (ρ : Env) (xs ys : List D) (D0 : Addr) (S1 H1 : Hp) (i : Nat) (H : Hp) : Prop :=
  ∃ S2 ws ds rest, Step S1 H1 S2 H ∧ S2 D0 = none ∧ H D0 = some (.lst ws) ∧ RepL K mg S2 ws ds ∧ lcGo g c f ρ (xs.drop i) = .ok rest ∧ ys = ds ++ rest ∧ ds.length ≤ i
theorem lc_ok {σ : L2.St} {H : Hp} {Q : VK} (hts : ∀ t ∈ ts, t ∈ vs) (h : tE K mg E m .ow (fLc vs it g c f) σ H Q) :
    tLc (tI K mg E m it) (tGD K mg m ts g) (tT K mg EF m c) (tE K mg EF m .sh f) vs σ H Q := by
  obtain ⟨S, ρ, hm, hp⟩ := h
  refine ⟨S, ρ, hm, (Post.bind hp).imp fun xs S1 H1 s1 k J w D0 hD => ?_⟩
  split at k
  · rename_i hz
    have hz := szOk_ok hz
    unfold asLst at k
    split at k
    · rename_i ys eg
      refine ⟨fun i n H => n = xs.length - i ∧ i ≤ xs.length ∧ LcW K mg g c f (wipeD ρ vs) xs ys D0 S1 H1 i H, ⟨xs.length, by simp, Nat.zero_le _, S1, [], [], ys, Step.hid s1.sub hD, s1.sub.free hD, upd_same, .nil, eg, rfl, Nat.le_refl _⟩, ?_⟩
      rintro i n H2 ⟨rfl, hi, S2, ws, ds, rest, st2, hs2, hd2, rv, el, ey, hn⟩
      by_cases hlt : i < xs.length
      · obtain ⟨hgo, hyl⟩ := w.go i xs[i] S2 H2 (List.getElem?_eq_getElem hlt) st2.ss st2.sub
        refine .inr ⟨hgo, LcW K mg g c f (wipeD ρ vs) xs ys D0 S1 H1 (i + 1), fun H' z => ⟨xs.length - (i + 1), by omega, rfl, hlt, z⟩, fun x H3 y => ?_⟩
        obtain ⟨S3, s3, r3⟩ := hyl x H3 y
        rw [List.drop_eq_getElem_cons hlt] at el
        unfold lcGo at el
        split at el
        · rename_i ρ1 eg1
          have st3 := st2.trans s3
          obtain ⟨F, stF⟩ := (((hm.step s1).step st3).wipe vs).bare
          refine ⟨_, _, S3, F, wipeD ρ vs, xs[i], stF, r3, ?_⟩
          rw [eg1]
          intro σ4 S4 F4 H4 st4 s4 hfr
          refine ⟨wipe_eq (by rw [hfr.1, L2.wipe_length]) hfr.2 hts, S4, ρ1, st4.envM, ?_⟩
          split at el
          · rename_i b ec
            rw [ec]
            intro S5 H5 s5
            have a5 := (s3.trans s4).trans s5
            have st5 := st2.trans a5
            have hd5 := a5.hh _ _ hd2
            have hs5 := a5.out hs2 hd2
            cases b with
            | false =>
              rw [if_neg (by decide)] at el
              show LcW K mg g c f (wipeD ρ vs) xs ys D0 S1 H1 (i + 1) H5
              exact ⟨S5, ws, ds, rest, st5, hs5, hd5, rv.mono a5.ss, el, ey, by omega⟩
            | true =>
              rw [if_pos rfl] at el
              show tE K mg EF m Md.sh f σ4 H5 _
              split at el
              · rename_i y' ef
                refine ⟨S5, ρ1, (st4.envM).step s5, ?_⟩
                rw [ef]
                intro v S6 H6 fp s6 o _ _
                have a6 := a5.trans s6
                split at el
                · rename_i rest' er
                  cases el
                  refine ⟨ws, a6.hh _ _ hd2, by rw [rv.len]; omega, S6, ws ++ [v], ds ++ [y'], rest', (st2.trans a6).write (a6.out hs2 hd2) hD, a6.out hs2 hd2, upd_same, (rv.mono a6.ss).snoc o.1, er, by rw [ey]; simp, by rw [List.length_append]; simp; omega⟩
                · cases el
              · cases el
          · cases el
        · cases el
      · have e : i = xs.length := by omega
        subst e
        rw [List.drop_length] at el
        cases el
        rw [List.append_nil] at ey
        subst ey
        exact .inl ⟨w.stop S2 H2 st2.ss st2.sub, k _ S2 H2 [D0] st2 ⟨D0, ws, _, rfl, rfl, rfl, hs2, hd2, rv⟩ (by simp) (fun a z => by
          have : a = D0 := by simpa using z
          rw [this]; exact hD)⟩
    · exact k.elim
  · exact k.elim
end
section
variable {X : Cx} {E : WX} {L : Lp} {m : Mds} {ts : List Nat} {N0 ps0 : List Str} {sc0 : Scope} {elt tg iter e : Expr} {ifs : List Expr} {scope : Scope} {own : List (Str × Nat)} {pos : Pos} {it : Env → Res (List D)} {g : D → Env → Res Env} {c : Env → Res Bool} {f : Env → Res D}
theorem jts_nil : JTs X E m [] fYes := ⟨⟨fun pins s σ H Q I q => pts_nil.run pins s σ H Q I (by
  obtain ⟨S, ρ, hm, hp⟩ := q
  exact hp S H (Step.refl hm.1))⟩⟩
theorem jts_one (h : JT X E m e c) : JTs X E m [e] c := ⟨pts_one h.pt⟩
theorem je_lc (Sc : FnScope N0 ps0 sc0) (own : List (Str × Nat)) (hi : JI X E m tg iter it)
    (hg : ∀ (s : Shared) (H : Hp) (C : Addr) (cl : List (Str × Addr)) (fp : List Addr), JG (X.blk s H scope (compEnvC scope cl C X.env) fp) m ts tg g) (ht : ∀ (s : Shared) (H : Hp) (C : Addr) (cl : List (Str × Addr)) (fp : List Addr), JTs (X.blk s H scope (compEnvC scope cl C X.env) fp) EF m ifs c)
    (he : ∀ (s : Shared) (H : Hp) (C : Addr) (cl : List (Str × Addr)) (fp : List Addr), JE (X.blk s H scope (compEnvC scope cl C X.env) fp) EF m .sh elt f) (hc : X.calm = true := by rfl) (hN0 : X.N = N0 := by rfl) (hsc : X.env.scope = sc0 := by rfl) (ok : blkC N0 sc0 scope own = true := by decide +kernel) (hts : ∀ t ∈ ts, t ∈ own.map (·.2) := by decide)
    (hs : ∀ x, foldedSetIterable iter X.env x = pure x := by intro _; rfl) : JE X E m .ow (.ListComp elt [⟨tg, iter, ifs, 0⟩] scope pos) (fLc (own.map (·.2)) it g c f) :=
  ⟨PEimp (pe_lc (g := tGD X.K X.mg m ts g) (tt := tT X.K X.mg EF m c) (te := tE X.K X.mg EF m .sh f) hc (by rw [hN0]; exact Sc.nd) hi.pi (blkOk_by (by rw [hN0, hsc]; exact ok)) (fun s H C cl fp => (hg s H C cl fp).pg) (fun s H C cl fp => (ht s H C cl fp).pt) (fun s H C cl fp => (he s H C cl fp).pe) hs) fun σ H Q h => lc_ok hts h⟩
theorem js_setLc (i : Nat) {y : Str} {py spos : Pos} (Sc : FnScope N0 ps0 sc0) (own : List (Str × Nat)) (hi : JI X E m tg iter it)
    (hg : ∀ (s : Shared) (H : Hp) (C : Addr) (cl : List (Str × Addr)) (fp : List Addr), JG (X.blk s H scope (compEnvC scope cl C X.env) fp) m ts tg g) (ht : ∀ (s : Shared) (H : Hp) (C : Addr) (cl : List (Str × Addr)) (fp : List Addr), JTs (X.blk s H scope (compEnvC scope cl C X.env) fp) EF m ifs c)
    (he : ∀ (s : Shared) (H : Hp) (C : Addr) (cl : List (Str × Addr)) (fp : List Addr), JE (X.blk s H scope (compEnvC scope cl C X.env) fp) EF m .sh elt f) (hl : i < m.length := by decide) (hc : X.calm = true := by rfl) (hy : X.N[i]? = some y := by rfl) (hyl : X.env.scope.names.lookup y = some .local := by rfl)
    (hsw : swapsWith (.ListComp elt [⟨tg, iter, ifs, 0⟩] scope pos) (some (.Name y py)) spos.line X.env = pure true := by rfl) (hN0 : X.N = N0 := by rfl) (hsc : X.env.scope = sc0 := by rfl) (ok : blkC N0 sc0 scope own = true := by decide +kernel) (hts : ∀ t ∈ ts, t ∈ own.map (·.2) := by decide)
    (hs : ∀ x, foldedSetIterable iter X.env x = pure x := by intro _; rfl) : JS X E L m (m.set i .ow) (.Assign [.Name y py] (.ListComp elt [⟨tg, iter, ifs, 0⟩] scope pos) spos) (fSet i (fLc (own.map (·.2)) it g c f)) := by
  refine ⟨PSimp (ps_setLc (g := tGD X.K X.mg m ts g) (tt := tT X.K X.mg EF m c) (te := tE X.K X.mg EF m .sh f) hc (by rw [hN0]; exact Sc.nd) hy hyl hsw hi.pi (blkOk_by (by rw [hN0, hsc]; exact ok)) (fun s H C cl fp => (hg s H C cl fp).pg) (fun s H C cl fp => (ht s H C cl fp).pt) (fun s H C cl fp => (he s H C cl fp).pe) hs) fun D σ H h => ?_⟩
  obtain ⟨S0, H0, ρ, ⟨S, Fp, st⟩, p⟩ := h
  refine lc_ok hts ⟨S, ρ, st.envM, (lift_post st p).postM fun d v S1 H1 fp s1 o hn hf k => ?_⟩
  refine k _ _ (StF.stM ((st.step s1).set hl o hn (fun a ha => st.1.hh.free (hf a ha)) fun j e' hj ej a ha z => ?_))
  obtain ⟨w, _, o'⟩ := st.2.1.at_ j e' ej
  obtain ⟨_, u, hu⟩ := o'.out ha
  rw [hf a z] at hu
  cases hu
end
end Da
namespace Da
open PySem PySem.Spec L2
/-! ### sorted -/
def D.en (d : D) : PyData := (D.py d).getD .none
def leD (x y : D) : Bool := PySem.W.dataLe false D.en x y
def SrtOk (ds : List D) : Prop := (∃ bs, D.pys ds = some bs) ∧ PySem.W.AllAlike (ds.map D.en) ∧ PySem.W.Sortable (ds.map D.en) ∧ ∀ d ∈ ds, d.en.depth ≤ 20
def srtOk (ds : List D) : Bool := stuck (SrtOk ds)
def dSorted : D → Res D
  | .lst ds => if srtOk ds = true then .ok (.lst (ds.mergeSort leD)) else .er
  | .tup ds => if srtOk ds = true then .ok (.lst (ds.mergeSort leD)) else .er
  | .frl ds => if srtOk ds = true then .ok (.lst (ds.mergeSort leD)) else .er
  | _ => .er
theorem pys_some : ∀ {ds : List D} {bs : List PyData}, D.pys ds = some bs → bs = ds.map D.en ∧ ∀ d ∈ ds, D.py d = some d.en
  | [], bs, e => by cases e; exact ⟨rfl, fun d h => nomatch h⟩
  | d :: ds, bs, e => by
    unfold D.pys at e
    split at e
    · rename_i y ys e1 e2
      cases e
      obtain ⟨h1, h2⟩ := pys_some e2
      have hy : d.en = y := by unfold D.en; rw [e1]; rfl
      refine ⟨by rw [List.map_cons, ← h1, hy], fun d' hd => ?_⟩
      rcases List.mem_cons.mp hd with rfl | hd
      · rw [hy]; exact e1
      · exact h2 d' hd
    · cases e
mutual
theorem reads_off {h : Heap} {a : Addr} (ha : h.get? a = none) : ∀ (d : PyData) (v : Value) (as : List Addr), PySem.W.alike d d = true → Reads h v d as → a ∉ as
  | .none, _, _, _, r => by cases r; simp
  | .bool _, _, _, _, r => by cases r; simp
  | .int _, _, _, _, r => by cases r; simp
  | .str _, _, _, _, r => by cases r; simp
  | .list xs, _, _, hal, r => by
    cases r with
    | list h1 h2 h3 h4 =>
      rw [List.mem_cons, not_or]
      exact ⟨fun e => by rw [e, h1] at ha; (cases ha), readsAll_off ha xs _ _ (by simpa [PySem.W.alike] using hal) h4⟩
  | .tuple xs, _, _, hal, r => by
    cases r with
    | tuple h1 h2 h3 h4 => exact readsAll_off ha xs _ _ (by simpa [PySem.W.alike] using hal) h4
  | .dict _, _, _, hal, _ => absurd hal (by simp [PySem.W.alike])
theorem readsAll_off {h : Heap} {a : Addr} (ha : h.get? a = none) : ∀ (ds : List PyData) (vs : List Value) (as : List Addr), PySem.W.alikeAll ds ds = true → ReadsAll h vs ds as → a ∉ as
  | [], _, _, _, r => by cases r; simp
  | d :: ds, _, _, hal, r => by
    cases r with
    | cons h1 h2 =>
      rw [List.mem_append, not_or]
      exact ⟨reads_off ha d _ _ (PySem.W.alike_all_cons hal).1 h1, readsAll_off ha ds _ _ (PySem.W.alike_all_cons hal).2 h2⟩
end
section
variable {prog : Program} {w : World} {A : Around} {Er : Value → Shared → Prop} {s : Shared} {β : Type} {its : List Value} {bs : List β} {enc : β → PyData} {R : Value → β → Prop}
theorem sorted_seq {l : Addr} {T : String} {o : Obj} {n : Nat} {Q : Value → Shared → Prop} (hT : T = "list" ∨ T = "tuple") (ho : s.heap.get? l = some o) (hc : o.cls = .type T) (hd : o.data = .seq its.toArray n) (hz : its.length ≤ sizeLine)
    (e : PySem.W.EachIs R its bs) (er : PySem.W.EachIs (fun v b => ∃ as, Reads s.heap v (enc b) as) its bs) (hal : PySem.W.AllAlike (bs.map enc)) (hk : PySem.W.Sortable (bs.map enc)) (hu : ∀ b, b ∈ bs → A.units + 8 + (enc b).depth < cLine)
    (h : ∀ (h1 h2 : Heap) (out : List Value) (ep : Nat), (∀ b o, s.heap.get? b = some o → h1.get? b = some o) → (∀ b o, h1.get? b = some o → h2.get? b = some o) → h2.get? h1.objs.size = some (PyProof.Rows.seqObj "list" (List.toArray out) ep) → PySem.W.EachIs R out (bs.mergeSort (PySem.W.dataLe false enc)) → Q (.ref h1.objs.size) { s with heap := h2 }) :
    wpAny (model prog w) A (call (.builtin "sorted") [.ref l]) Q Er s := by
  refine Calls.call_function_entry PyProof.Rows.kind_sorted PyProof.Rows.plain_sorted PyProof.Rows.entry_sorted (PyProof.Rows.args_sorted1 _) ?_
  unfold Builtin.«sorted»
  refine wpAny_bind (m := checkCount "sorted" 1 1 _) (wpAny_pure ?_)
  refine wpAny_bind (wpAny_collect_seq l hT ho hc hd (fun h1 k1 => ?_) (by rw [List.size_toArray]; exact hz))
  have hl : bs.length ≤ sizeLine := by rw [← e.length]; exact hz
  refine wpAny_bind (wpAny_newList ?_ hz)
  have hS : (h1.push { cls := .type "list", data := .seq its.toArray }).get? h1.objs.size = some (PyProof.Rows.seqObj "list" its.toArray 0) := Heap.get?_push_size _ rfl
  have k2 : ∀ b o, h1.get? b = some o → (h1.push { cls := .type "list", data := .seq its.toArray }).get? b = some o := fun b o q => Heap.get?_push_of_some _ q
  have off : h1.get? h1.objs.size = none := by
    cases q : h1.get? h1.objs.size with
    | none => rfl
    | some o => exact absurd (Heap.lt_size q) (Nat.lt_irrefl _)
  have er2 : PySem.W.EachIs (fun v b => ∃ as, Reads (h1.push { cls := .type "list", data := .seq its.toArray }) v (enc b) as ∧ h1.objs.size ∉ as) its bs :=
    (PySem.W.each_mem er).mono fun v b ⟨⟨as, r⟩, hb⟩ => by
      have r1 := PyProof.Rows.Reads.keeps k1 r
      exact ⟨as, PyProof.Rows.Reads.keeps k2 r1, reads_off off _ _ _ (hal _ (List.mem_map.mpr ⟨b, hb, rfl⟩) _ (List.mem_map.mpr ⟨b, hb, rfl⟩)) r1⟩
  refine wpAny_bind (wpAny_holding (PySem.W.list_sort_data (s := { s with heap := h1.push { cls := .type "list", data := .seq its.toArray } }) (a := h1.objs.size) hS e er2 hal hk hl (fun b hb => ?_) fun out _ ho2 => ?_))
  · have := hu b hb
    show A.units + _ + 1 + (enc b).depth < cLine
    omega
  · obtain ⟨ep, q⟩ := PyProof.Rows.sortedHeap_at (out := List.toArray out) hS
    refine wpAny_pure ⟨_, rfl, h h1 _ out ep k1 (fun b o q' => ?_) q ho2⟩
    have hlt := Heap.lt_size q'
    rw [PyProof.Rows.sortedHeap_old (Nat.ne_of_lt hlt) (by rw [Heap.size_push]; exact Nat.lt_succ_of_lt hlt)]
    exact k2 b o q'
end
/-- sorted(xs), of a list or a tuple -/
def rSortD (K : PySem.W.Frag) (mg : Str → Option Value) : List V → Hp → VK → Prop := fun vs H Q => ∃ (S : Hp) (a : Addr) (xs : List V) (ds : List D), vs = [V.ref a] ∧ (SqL K H a xs ∨ SqT K H a xs) ∧ Same S H ∧ RepL K mg S xs ds ∧ SrtOk ds ∧
  ∀ (p : Addr) (ys : List V), RepL K mg S ys (ds.mergeSort leD) → H p = none → Q (.ref p) (upd H p (.lst ys))
theorem each_zip {K : PySem.W.Frag} {mg : Str → Option Value} {S : Hp} : ∀ {xs : List V} {ds : List D} {us : List Value}, RepL K mg S xs ds → Vals xs us → PySem.W.EachIs (fun v (b : V × D) => RelV b.1 v) us (xs.zip ds)
  | [], _, _, _, .nil => .nil
  | x :: xs, [], _, h, _ => by have := h.len; simp at this
  | x :: xs, d :: ds, _, h, .cons r t => .cons r (each_zip h.tail t)
theorem each_out : ∀ {us : List Value} {zs : List (V × D)}, PySem.W.EachIs (fun v (b : V × D) => RelV b.1 v) us zs → Vals (zs.map (·.1)) us
  | _, _, .nil => .nil
  | _, _, .cons h t => .cons h (each_out t)
theorem zip_snd {α β : Type} : ∀ {xs : List α} {ds : List β}, xs.length = ds.length → (xs.zip ds).map (·.2) = ds
  | [], [], _ => rfl
  | [], _ :: _, h => by simp at h
  | _ :: _, [], h => by simp at h
  | x :: xs, d :: ds, h => by rw [List.zip_cons_cons, List.map_cons, zip_snd (by simpa using h)]
section
variable {X : Cx} {E : WX} {m : Mds} {e : Expr} {fs : Env → Res (List D)} {p pos : Pos}
theorem cr_sortD (hu : X.A.units + 40 < cLine) : CallR X (.builtin "sorted") (rSortD X.K X.mg) := by
  intro pins s σ H vs us Q I r h
  obtain ⟨S, a, xs, ds, rfl, hq, hS, rv, ⟨⟨bs, eb⟩, hal, hso, hdp⟩, q⟩ := h
  obtain ⟨u, rfl, ru⟩ := Vals.one r
  cases ru
  have main : ∀ (T : String) (o : Obj) (its : List Value) (n : Nat), (T = "list" ∨ T = "tuple") → s.heap.get? a = some o → o.cls = .type T → o.data = .seq its.toArray n → xs.length ≤ sizeLine → Vals xs its → wpAny (model X.prog X.w) X.A (call (.builtin "sorted") [.ref a]) (EP X pins σ Q) X.xe s := by
    intro T o its n hT ho hc hd hz vv
    obtain ⟨eqb, hpy⟩ := pys_some eb
    have zs := zip_snd rv.len
    have e1 := each_zip rv vv
    have e2 : PySem.W.EachIs (fun v (b : V × D) => ∃ as, Reads s.heap v b.2.en as) its (xs.zip ds) := (PySem.W.each_mem e1).mono fun v b ⟨hr, hb⟩ => by
      obtain ⟨i, hi⟩ := List.mem_iff_getElem?.mp hb
      rw [List.getElem?_zip_eq_some] at hi
      exact Dp.reads I b.2.en b.1 v (dp_mono hS (dp_of b.2 b.1 _ (rv.at_ i b.1 b.2 hi.1 hi.2) (hpy _ (List.mem_of_getElem? hi.2)))) hr
    have em : (xs.zip ds).map (fun b => b.2.en) = ds.map D.en := by
      rw [show (fun b : V × D => b.2.en) = D.en ∘ (·.2) from rfl, ← List.map_map, zs]
    refine sorted_seq (enc := fun b : V × D => b.2.en) hT ho hc hd (by rw [← vv.length]; exact hz) e1 e2 (by rw [em]; exact hal) (by rw [em]; exact hso) (fun b hb => ?_) fun h1 h2 out ep k1 k2 hp ho2 => ?_
    · have := hdp b.2 (by rw [← zs]; exact List.mem_map.mpr ⟨b, hb, rfl⟩)
      omega
    · have I1 : Inv X pins σ H { s with heap := h1 } := I.kept (t' := s.toks) k1
      generalize hzs : (xs.zip ds).mergeSort (PySem.W.dataLe false fun b => b.2.en) = zs2 at ho2
      have pm : zs2.Perm (xs.zip ds) := by rw [← hzs]; exact List.mergeSort_perm _ _
      have es : zs2.map (·.2) = ds.mergeSort leD := by
        have q1 := List.map_mergeSort (r := PySem.W.dataLe false fun b : V × D => b.2.en) (s := leD) (f := fun b : V × D => b.2) (l := xs.zip ds) (fun a _ b _ => rfl)
        rw [← hzs, q1, zs]
      have rz : RepL X.K X.mg S (zs2.map (·.1)) (ds.mergeSort leD) := by
        rw [← es]
        refine ⟨by rw [List.length_map, List.length_map], fun i v d a b => ?_⟩
        rw [List.getElem?_map] at a b
        cases ez : zs2[i]? with
        | none => rw [ez] at a; cases a
        | some c =>
          rw [ez] at a b
          cases a; cases b
          obtain ⟨j, hj⟩ := List.mem_iff_getElem?.mp (pm.mem_iff.mp (List.mem_of_getElem? ez))
          rw [List.getElem?_zip_eq_some] at hj
          exact rv.at_ j _ _ hj.1 hj.2
      have hl : (zs2.map (·.1)).length ≤ sizeLine := by
        rw [rz.len, List.length_mergeSort, ← rv.len]
        exact hz
      exact ⟨.ref _, upd H h1.objs.size (.lst (zs2.map (·.1))), I1.laid (t' := s.toks) k2 (Nat.le_refl _) ⟨hl, out, ep, each_out ho2, hp⟩, rfl, q _ _ rz (I1.hok.fresh (Nat.le_refl _))⟩
  rcases hq with hq | hq
  · obtain ⟨its, vv, ⟨o, n, ho, hc, _, hd⟩, hz⟩ := I.list hq
    exact main "list" o its n (.inl rfl) ho hc hd hz vv
  · obtain ⟨its, vv, ⟨o, ho, hc, n, hd⟩, hz⟩ := I.tuple hq
    exact main "tuple" o its n (.inr rfl) ho hc hd hz vv
theorem je_sorted {k : Nat} (hr : Room k X.A) (hm : X.mg "sorted" = none) (ha : JA X E m [e] fs) (hg : Gl X "sorted" := by rfl) (he : starEach [e] X.env = (false, eval e X.env) :: starEach [] X.env := by rfl) : JE X E m .ow (.Call (.Name "sorted" p) [e] [] pos) (fOn (on1 dSorted) fs) :=
  je_callB (cr_sortD (by have := hr.un; omega)) (calld1 fun E S H x d Q hs rx hp => by
    cases d with
    | lst xs =>
      obtain ⟨hz, hp⟩ := Post.of_if hp
      obtain ⟨a, vs, rfl, ha, rv⟩ := rx.of_lst
      exact ⟨S, a, vs, xs, rfl, .inl (.inl (.inl (hs _ _ ha))), hs, rv, stuck_iff.mp hz, fun p ys ry hl => Post.list (.inr rfl) hp hs ry hl⟩
    | frl xs =>
      obtain ⟨hz, hp⟩ := Post.of_if hp
      obtain ⟨a, vs, rfl, ha, rv⟩ := rx.of_frl
      exact ⟨S, a, vs, xs, rfl, .inl (same_l hs ha), hs, rv, stuck_iff.mp hz, fun p ys ry hl => Post.list (.inr rfl) hp hs ry hl⟩
    | tup xs =>
      obtain ⟨hz, hp⟩ := Post.of_if hp
      obtain ⟨a, vs, rfl, ha, rv⟩ := rx.of_tup
      exact ⟨S, a, vs, xs, rfl, .inr (same_t hs ha), hs, rv, stuck_iff.mp hz, fun p ys ry hl => Post.list (.inr rfl) hp hs ry hl⟩
    | _ => exact hp.elim) hm ha hg (by decide +kernel) (by decide) (by decide) he (by rfl)
end
end Da
/-! ### enumerate of a tuple -/
namespace Da
open PySem PySem.Spec L2
theorem enum_new {v : Value} {o : Obj} {G : Heap → Prop} (B : Begins v o G) :
    Meets (Builtin.«enumerate.__new__» ⟨[.type "enumerate", v], []⟩) (fun _ R s => G s.heap ∧
      R (.ok (.ret (.ref (s.heap.push o).objs.size))) { s with heap := (s.heap.push o).push { cls := .type "enumerate", data := .fields #[.none, .bool false, .ref s.heap.objs.size, rawInt 0, .none, .none] } }) :=
  .of_wp fun prog w A R s hh => by
    obtain ⟨hp, g, d, tk, os⟩ := s
    obtain ⟨hg, hh⟩ := hh
    have hsb := sub_enumerate
    have walk : ∀ {A' : Around} {Er : Value → Shared → Prop} {Qv : Value → Shared → Prop}, Qv (.ref hp.objs.size) ⟨hp.push o, g, d, tk, os⟩ → wpAny (model prog w) A' (pyIter v) Qv Er ⟨hp, g, d, tk, os⟩ := fun q => B.iter prog w _ _ ⟨hp, g, d, tk, os⟩ _ hg q
    wp_walk using walk
    refine wpAny_stack_any fun stk => wpAny_pure ?_
    split
    · rename_i c _ _ _ _ _
      cases (c == Value.type "enumerate") <;> (wp_walk using walk; exact ⟨_, rfl, hh⟩)
    · wp_walk using walk; exact ⟨_, rfl, hh⟩
theorem call_enumT {prog : Program} {w : World} {A : Around} {Er : Value → Shared → Prop} {s : Shared} {t : Addr} {items : Array Value} {Q : Value → Shared → Prop} (ht : s.heap.IsTuple t items)
    (h : ∀ h', IsEnum h' (s.heap.objs.size + 1) s.heap.objs.size 0 .none → h'.IsTupleIter s.heap.objs.size t 0 → (∀ b o, s.heap.get? b = some o → h'.get? b = some o) → Q (.ref (s.heap.objs.size + 1)) { s with heap := h' }) :
    wpAny (model prog w) A (call (.type "enumerate") [.ref t]) Q Er s := by
  refine callType_new F.called_enumerate (by decide) (F.typeCall_enumerate_1 _) (F.newCall_enumerate_1 _) (fun obj => F.args_object_init_2 obj _) F.entry_enumerate_new (enum_new (begins_tuple t items)) ⟨ht, ?_⟩
  have hz : (s.heap.push { cls := .type "tuple_iterator", data := .fields #[.ref t, .int 0 0] }).objs.size = s.heap.objs.size + 1 := Heap.size_push ..
  show _ ∧ _
  rw [hz]
  have he : IsEnum ((s.heap.push { cls := .type "tuple_iterator", data := .fields #[.ref t, .int 0 0] }).push { cls := .type "enumerate", data := .fields #[.none, .bool false, .ref s.heap.objs.size, rawInt 0, .none, .none] }) (s.heap.objs.size + 1) s.heap.objs.size 0 .none := by
    have q := Heap.get?_push_size (s.heap.push { cls := .type "tuple_iterator", data := .fields #[.ref t, .int 0 0] }) (o := { cls := .type "enumerate", data := .fields #[.none, .bool false, .ref s.heap.objs.size, rawInt 0, .none, .none] }) rfl
    rw [hz] at q
    exact q
  exact ⟨⟨_, he, rfl⟩, h _ he ⟨_, Heap.get?_push_of_some _ (Heap.get?_push_size _ rfl), rfl, rfl⟩ fun b o x => Heap.get?_push_of_some _ (Heap.get?_push_of_some _ x)⟩
/-- the tuple at a, each item in a new pair -/
def IteT (K : PySem.W.Frag) (a : Addr) : It :=
  ⟨fun i H => ∃ (xs : List V) (x : V), SqT K H a xs ∧ xs[i]? = some x, fun i H v H' => ∃ T x, v = .ref T ∧ H T = none ∧ H' = upd H T (.tup [.int (i : Nat), x]) ∧ ∀ xs, SqT K H a xs → xs[i]? = some x, fun i H => ∃ xs : List V, SqT K H a xs ∧ xs.length ≤ i⟩
theorem turn_enumT {P : Program} {w : World} {K : PySem.W.Frag} {elts : List Expr} {kk : Nat} {tpos : Pos} (a e it : Addr) :
    L2.Turn P w K (.Tuple elts kk tpos) (IteT K a) [e, it] e (fun i h => (∃ old, IsEnum h e it ((i : Nat) : Int) old) ∧ h.IsTupleIter it a i ∧ e ≠ it) where
  mem := by simp
  obj := fun i h st b hb => by
    obtain ⟨⟨old, he⟩, ⟨o, ho, hc, hd⟩, _⟩ := st
    rcases (show b = e ∨ b = it by simpa using hb) with z | z
    · rw [z]; exact ⟨_, he, fun v q => nomatch q⟩
    · rw [z]; exact ⟨o, ho, fun v q => by rw [hd] at q; cases q⟩
  keep := fun i h h' st k => let ⟨⟨old, he⟩, hi, hne⟩ := st; ⟨⟨old, k e (by simp) _ he⟩, hi.at fun o q => k it (by simp) o q, hne⟩
  item := by
    intro X hP hw hK hc i pins s σ H Er I hf st hg
    subst hP hw hK
    obtain ⟨⟨old, he⟩, hit, hne⟩ := st
    obtain ⟨xs, x, hq, hx⟩ := hg
    obtain ⟨its, rv, p, hz⟩ := I.tuple hq
    obtain ⟨u, hu, ru⟩ := rv.get hx
    have hel : e < s.heap.objs.size := Heap.lt_size he
    have hil : it < s.heap.objs.size := by obtain ⟨_, q, _⟩ := hit; exact Heap.lt_size q
    have ht : s.heap.IsTuple a its.toArray := p
    have hea : e ≠ a := fun z => by
      obtain ⟨o, ho, hco, _⟩ := ht
      rw [← z, he] at ho
      cases ho
      exact absurd (show Value.type "enumerate" = Value.type "tuple" from hco) (by decide)
    have hia : a ≠ it := fun z => by
      obtain ⟨o, ho, hco, _⟩ := ht
      obtain ⟨o2, ho2, hc2, _⟩ := hit
      rw [z, ho2] at ho
      cases ho
      rw [hc2] at hco
      exact absurd hco (by decide)
    have hlt : i < its.toArray.size := by
      rw [List.size_toArray]
      exact (List.getElem?_eq_some_iff.mp hu).1
    refine wpAny_pyNext_enum_itemD (Draws.tuple (A := X.A.in1) (I.ok.hd hc) it a hia its.toArray) he ⟨hit, ht⟩ hlt hne (by simp [hne, hea]) fun y h' tk hy ho hst hT hsz hk => ?_
    have hyu : y = u := by
      have q : its[i]? = some y := by simpa using hy
      rw [hu] at q
      injection q with q
      exact q.symm
    subst hyu
    refine ⟨_, rfl, wpAny_letOwnedTupleGo_enum (s := { s with heap := h', toks := tk + 1 }) ho fun h'' he' sb => ?_⟩
    have hT2 : h''.get? s.heap.objs.size = some { cls := .type "tuple", data := .seq #[.int i tk, y] } := (sb.2 _ (Nat.ne_of_gt hel)).trans hT
    have new : ObjOk X.prog X.w (upd H s.heap.objs.size (.tup [.int (i : Nat), x])) h'' s.heap.objs.size (.tup [.int (i : Nat), x]) :=
      ⟨by show 2 ≤ sizeLine; decide, [.int i tk, y], .cons ⟨_, rfl⟩ (.cons ru .nil), ⟨_, hT2, rfl, _, rfl⟩⟩
    have I1 : Inv X pins σ (upd H s.heap.objs.size (.tup [.int (i : Nat), x])) { s with heap := h'', toks := tk + 1 } :=
      I.turnedNew (ch := [e, it]) (fun b ob hb q => (sb.2 b (fun z => hb (by simp [z]))).trans (hk b ob (fun z => hb (by simp [z])) (fun z => hb (by simp [z])) q)) hf (Nat.le_refl _) new
    refine ⟨.ref s.heap.objs.size, _, I1, rfl, ⟨_, x, rfl, I.hok.fresh (Nat.le_refl _), rfl, fun ys hy => by rw [I.tuple_inj hy hq]; exact hx⟩, ⟨⟨y, ?_⟩, hst.1.at fun o q => (sb.2 it (Ne.symm hne)).trans q, hne⟩, fun b hb => ?_⟩
    · rw [show ((i + 1 : Nat) : Int) = (i : Int) + 1 by omega]
      exact he'
    · have hlt2 : b < s.heap.objs.size := by
        rcases (show b = e ∨ b = it by simpa using hb) with z | z
        · rw [z]; exact hel
        · rw [z]; exact hil
      rw [upd_ne (Nat.ne_of_lt hlt2)]
      exact (hf b hb).1
  done := by
    intro X hP hw hK hc i pins s σ H Er I hf st hg
    subst hP hw hK
    obtain ⟨⟨old, he⟩, hit, hne⟩ := st
    obtain ⟨xs, hq, hx⟩ := hg
    obtain ⟨its, rv, p, hz⟩ := I.tuple hq
    have hl := rv.length
    have ht : s.heap.IsTuple a its.toArray := p
    obtain ⟨f0, f1, f2, f3, f4, f5⟩ := hf it (by simp)
    have hT : s.TypeIs (.ref e) "enumerate" := ⟨_, he, rfl⟩
    unfold pyNext
    refine wpAny_bind (wpAny_attempt (wpAny_callSpecial?_slot (name := Str.ofString "__next__") hT F.slot_enumerate_next (wpAny_call_entry F.slot_enumerate_next hT F.entry_enumerate_next ?_ (F.args_enumerate_next_1 _))))
    show wpAny _ _ (field (.ref e) 2 >>= _) _ _ _
    refine wpAny_bind (wpAny_field he rfl (x := .ref it) rfl (wpAny_bind (wpAny_nextOf_tuple_end (I.ok.hd hc) hit ht (by simp; omega) fun h' x hx1 hx2 => ?_)))
    obtain ⟨o, ho, hco⟩ := hx2
    exact wpAny_bind (wpAny_isInstance (T := "StopIteration") (b := true) ⟨o, ho, hco⟩ isSubtype_stop (wpAny_pure ⟨rfl, I.turned (t' := s.toks) (fun b o hb q => hx1 b o hb q) f0 f1 f3 f4 f5⟩))
  self := fun A i s Q Er st h => let ⟨⟨_, he⟩, _⟩ := st; wpAny_pyIter_enum he h
def iEnumA (K : PySem.W.Frag) (ta : TA) : TI := fun σ H R => ta σ H fun vs H1 => ∃ a xs, vs = [.ref a] ∧ (SqL K H1 a xs ∧ R (Ite K a) H1 ∨ SqT K H1 a xs ∧ R (IteT K a) H1)
theorem pi_enumA {X : Cx} {e : Expr} {ta : TA} {p pos tpos : Pos} {elts : List Expr} {kk : Nat} (hg : Gl X "enumerate") (hm : X.mg "enumerate" = none) (ha : PA X [e] ta) (hs : starEach [e] X.env = [(false, eval e X.env)] := by rfl) :
    PI X (.Tuple elts kk tpos) (.Call (.Name "enumerate" p) [e] [] pos) (iEnumA X.K ta) := by
  refine ⟨fun pins s σ H R I h => PyProof.Rows.Call_ (ld_blt I hg hm PyProof.Rows.boot_enumerate (PyProof.Rows.callWith_type1 (thn (ha.run pos pins s σ H _ I h) fun us s1 ⟨vs, H1, I1, r1, q1⟩ => ?_) hs rfl))⟩
  obtain ⟨a, xs, rfl, q1⟩ := q1
  obtain ⟨u, rfl, ru⟩ := Vals.one r1
  cases ru
  have fresh : ∀ b, b ∈ [s1.heap.objs.size + 1, s1.heap.objs.size] → FpOk X pins H1 b := fun b hb => by
    have hle : s1.heap.objs.size ≤ b := by
      rcases (show b = s1.heap.objs.size + 1 ∨ b = s1.heap.objs.size by simpa using hb) with z | z
      · rw [z]; exact Nat.le_add_right _ _
      · rw [z]; exact Nat.le_refl _
    exact I1.fpOk hle (I1.hok.fresh hle)
  rcases q1 with ⟨hq, q⟩ | ⟨hq, q⟩
  · obtain ⟨its, rv, pl, _⟩ := I1.list hq
    refine call_enumerate_list pl.isList fun h' he hit _ hk => wpAny_pyIter_enum he ?_
    exact ⟨_, _, _, _, H1, rfl, I1.kept (t' := s1.toks) hk, turn_enum a (s1.heap.objs.size + 1) s1.heap.objs.size, ⟨⟨.none, he⟩, hit, Nat.succ_ne_self _⟩, fresh, q⟩
  · obtain ⟨its, rv, pl, _⟩ := I1.tuple hq
    refine call_enumT (show s1.heap.IsTuple a its.toArray from pl) fun h' he hit hk => wpAny_pyIter_enum he ?_
    exact ⟨_, _, _, _, H1, rfl, I1.kept (t' := s1.toks) hk, turn_enumT a (s1.heap.objs.size + 1) s1.heap.objs.size, ⟨⟨.none, he⟩, hit, Nat.succ_ne_self _⟩, fresh, q⟩
/-! several targets -/
def tGsD (K : PySem.W.Frag) (mg : Str → Option Value) (m : Mds) (ts : List Nat) (g : List D → Env → Res Env) : TGs := fun vs σ H Q => ∃ S0 H0 S F ρ ds, StF K mg m S0 H0 S F σ ρ H ∧ RepL K mg S vs ds ∧ (match g ds ρ with
  | .ok ρ1 => ∀ σ1 S1 F1 H1, StF K mg m S0 H0 S1 F1 σ1 ρ1 H1 → Step S H S1 H1 → (σ1.length = σ.length ∧ ∀ j, j ∉ ts → σ1[j]? = σ[j]?) → Q σ1 H1
  | _ => False)
structure JGs (X : Cx) (m : Mds) (ts : List Nat) (es : List Expr) (g : List D → Env → Res Env) : Prop where
  pgs : PGs X es (tGsD X.K X.mg m ts g)
def gs0 : List D → Env → Res Env := fun ds ρ => match ds with
  | [] => .ok ρ
  | _ => .er
def gsC (g : D → Env → Res Env) (r : List D → Env → Res Env) : List D → Env → Res Env := fun ds ρ => match ds with
  | d :: ds => (match g d ρ with
    | .ok ρ1 => r ds ρ1
    | _ => .er)
  | [] => .er
def gT (r : List D → Env → Res Env) : D → Env → Res Env := fun d ρ => match d with
  | .tup ds => r ds ρ
  | _ => .er
section
variable {X : Cx} {E : WX} {m : Mds} {ts us : List Nat} {tg e : Expr} {es elts : List Expr} {g : D → Env → Res Env} {r : List D → Env → Res Env} {fs : Env → Res (List D)} {p pos tpos : Pos} {kk : Nat}
theorem jgs_nil : JGs X m [] [] gs0 := by
  refine ⟨⟨fun pins s σ H vs uv Q I rv h => pgs_nil.run pins s σ H vs uv Q I rv ?_⟩⟩
  obtain ⟨S0, H0, S, F, ρ, ds, st, rd, q⟩ := h
  match ds, rd, q with
  | [], rd, q => exact ⟨rd.nil_iff.mpr rfl, q σ S F H st (Step.refl st.1.sub) ⟨rfl, fun _ _ => rfl⟩⟩
  | _ :: _, _, q => exact q.elim
theorem jgs_cons (h1 : JG X m ts e g) (h2 : JGs X m us es r) (hs : (assignEach (e :: es) X.env).map (·.2) = assign e X.env :: (assignEach es X.env).map (·.2) := by rfl) : JGs X m (ts ++ us) (e :: es) (gsC g r) := by
  refine ⟨⟨fun pins s σ H vs uv Q I rv h => (pgs_cons h1.pg h2.pgs hs).run pins s σ H vs uv Q I rv ?_⟩⟩
  obtain ⟨S0, H0, S, F, ρ, ds, st, rd, q⟩ := h
  match ds, rd, q with
  | [], _, q => exact q.elim
  | d :: ds, rd, q =>
    match vs, rd with
    | [], rd => have := rd.len; simp at this
    | v :: vs, rd =>
      refine ⟨v, vs, rfl, S0, H0, S, F, ρ, d, st, rd.head, ?_⟩
      unfold gsC at q
      simp only at q
      cases eg : g d ρ with
      | ok ρ1 =>
        rw [eg] at q
        simp only at q
        refine fun σ1 S1 F1 H1 st1 s1 fr1 => ⟨S0, H0, S1, F1, ρ1, ds, st1, rd.tail.mono s1.ss, ?_⟩
        cases er : r ds ρ1 with
        | ok ρ2 =>
          rw [er] at q
          refine fun σ2 S2 F2 H2 st2 s2 fr2 => q σ2 S2 F2 H2 st2 (s1.trans s2) ⟨fr2.1.trans fr1.1, fun j hj => ?_⟩
          rw [List.mem_append, not_or] at hj
          exact (fr2.2 j hj.2).trans (fr1.2 j hj.1)
        | ex c fs => rw [er] at q; exact q.elim
        | er => rw [er] at q; exact q.elim
      | ex c fs => rw [eg] at q; exact q.elim
      | er => rw [eg] at q; exact q.elim
/-- (a, b, ..) takes a tuple of that length -/
theorem jg_tup (h : JGs X m ts es r) (hr : ∀ ds ρ ρ1, r ds ρ = .ok ρ1 → ds.length = es.length) (hc : X.calm = true := by rfl) (hn : (assignEach es X.env).length = es.length := by rfl) (hst : (assignEach es X.env).findIdx? (·.1) = none := by rfl) : JG X m ts (.Tuple es kk tpos) (gT r) := by
  refine ⟨⟨fun pins s σ H v u Q I rv hq => (pg_tup hc h.pgs hn hst).run pins s σ H v u Q I rv ?_⟩⟩
  obtain ⟨S0, H0, S, F, ρ, d, st, rd, q⟩ := hq
  cases d with
  | tup ds =>
    obtain ⟨a, vs, rfl, ha, rs⟩ := rd.of_tup
    have q : (match r ds ρ with
      | .ok ρ1 => ∀ σ1 S1 F1 H1, StF X.K X.mg m S0 H0 S1 F1 σ1 ρ1 H1 → Step S H S1 H1 → (σ1.length = σ.length ∧ ∀ j, j ∉ ts → σ1[j]? = σ[j]?) → Q σ1 H1
      | _ => False) := q
    cases er : r ds ρ with
    | ok ρ1 => exact ⟨a, vs, rfl, same_t st.1.sub ha, by rw [rs.len]; exact hr ds ρ ρ1 er, S0, H0, S, F, ρ, ds, st, rs, q⟩
    | ex c fs => rw [er] at q; exact q.elim
    | er => rw [er] at q; exact q.elim
  | _ => exact q.elim
theorem gs0_len (ds : List D) (ρ ρ1 : Env) (h : gs0 ds ρ = .ok ρ1) : ds.length = 0 := by
  cases ds with
  | nil => rfl
  | cons d ds => cases h
theorem gsC_len {n : Nat} {g : D → Env → Res Env} {r : List D → Env → Res Env} (hr : ∀ ds ρ ρ1, r ds ρ = .ok ρ1 → ds.length = n) (ds : List D) (ρ ρ1 : Env) (h : gsC g r ds ρ = .ok ρ1) : ds.length = n + 1 := by
  cases ds with
  | nil => cases h
  | cons d ds =>
    unfold gsC at h
    simp only at h
    split at h
    · rw [List.length_cons, hr ds _ _ h]
    · cases h
theorem jg_tup2 {a b : Expr} {ga gb : D → Env → Res Env} (h1 : JG X m ts a ga) (h2 : JG X m us b gb) (hc : X.calm = true := by rfl) (ha : (assignEach [a, b] X.env).map (·.2) = assign a X.env :: (assignEach [b] X.env).map (·.2) := by rfl) (hb : (assignEach [b] X.env).map (·.2) = assign b X.env :: (assignEach [] X.env).map (·.2) := by rfl)
    (hn : (assignEach [a, b] X.env).length = 2 := by rfl) (hst : (assignEach [a, b] X.env).findIdx? (·.1) = none := by rfl) : JG X m (ts ++ (us ++ [])) (.Tuple [a, b] kk tpos) (gT (gsC ga (gsC gb gs0))) :=
  jg_tup (jgs_cons h1 (jgs_cons h2 jgs_nil hb) ha) (gsC_len (gsC_len gs0_len)) hc hn hst
/-! enumerate, zip -/
def enumD (i : Nat) : List D → List D
  | [] => []
  | x :: xs => .tup [.int (i : Nat), x] :: enumD (i + 1) xs
theorem enumD_length : ∀ {xs : List D} {i : Nat}, (enumD i xs).length = xs.length
  | [], _ => rfl
  | x :: xs, i => by unfold enumD; rw [List.length_cons, List.length_cons, enumD_length]
theorem enumD_at : ∀ {xs : List D} {i j : Nat}, (enumD i xs)[j]? = (xs[j]?).map fun x => .tup [.int ((i + j : Nat) : Int), x]
  | [], _, _ => by simp [enumD]
  | x :: xs, i, 0 => by simp [enumD]
  | x :: xs, i, j + 1 => by
    unfold enumD
    rw [List.getElem?_cons_succ, List.getElem?_cons_succ, enumD_at, show i + 1 + j = i + (j + 1) by omega]
def dEnum : List D → Res (List D)
  | [d] => (asL d).bind fun xs => .ok (enumD 0 xs)
  | _ => .er
def fEnum (fs : Env → Res (List D)) : Env → Res (List D) := fun ρ => (fs ρ).bind dEnum
theorem walk_e {K : PySem.W.Frag} {mg : Str → Option Value} {S : Hp} {a : Addr} {vs : List V} {ds : List D} (r : RepL K mg S vs ds) (h : SqL K S a vs) : WalkD K mg (Ite K a) S (enumD 0 ds) where
  go := fun i d S1 H1 e s1 s2 => by
    rw [enumD_at, Nat.zero_add] at e
    cases ed : ds[i]? with
    | none => rw [ed] at e; cases e
    | some d0 =>
      rw [ed] at e
      cases e
      obtain ⟨v, ev, rv⟩ := r.get ed
      refine ⟨⟨vs, v, same_l s2 (same_l s1 h), ev⟩, fun x H2 ⟨T, y, e1, hT, e2, hy⟩ => ?_⟩
      subst e1 e2
      have := hy vs (same_l s2 (same_l s1 h))
      rw [ev] at this
      cases this
      have st := Step.laid (o := HO.tup [.int (i : Nat), v]) s2 hT
      exact ⟨_, st, Rep.tupL (.inl (.inl upd_same)) (.cons (.int _) (.cons ((rv.mono s1).mono st.ss) .nil))⟩
  stop := fun S1 H1 s1 s2 => ⟨vs, same_l s2 (same_l s1 h), by rw [enumD_length]; exact Nat.le_of_eq r.len⟩
theorem walk_eT {K : PySem.W.Frag} {mg : Str → Option Value} {S : Hp} {a : Addr} {vs : List V} {ds : List D} (r : RepL K mg S vs ds) (h : SqT K S a vs) : WalkD K mg (IteT K a) S (enumD 0 ds) where
  go := fun i d S1 H1 e s1 s2 => by
    rw [enumD_at, Nat.zero_add] at e
    cases ed : ds[i]? with
    | none => rw [ed] at e; cases e
    | some d0 =>
      rw [ed] at e
      cases e
      obtain ⟨v, ev, rv⟩ := r.get ed
      refine ⟨⟨vs, v, same_t s2 (same_t s1 h), ev⟩, fun x H2 ⟨T, y, e1, hT, e2, hy⟩ => ?_⟩
      subst e1 e2
      have := hy vs (same_t s2 (same_t s1 h))
      rw [ev] at this
      cases this
      have st := Step.laid (o := HO.tup [.int (i : Nat), v]) s2 hT
      exact ⟨_, st, Rep.tupL (.inl (.inl upd_same)) (.cons (.int _) (.cons ((rv.mono s1).mono st.ss) .nil))⟩
  stop := fun S1 H1 s1 s2 => ⟨vs, same_t s2 (same_t s1 h), by rw [enumD_length]; exact Nat.le_of_eq r.len⟩
theorem dEnum_ok {ds xs : List D} (h : dEnum ds = .ok xs) : ∃ d ys, ds = [d] ∧ asL d = .ok ys ∧ xs = enumD 0 ys := by
  unfold dEnum at h
  split at h
  · rename_i d
    cases e : asL d with
    | ok ys => rw [e] at h; cases h; exact ⟨d, ys, rfl, e, rfl⟩
    | ex c fs => rw [e] at h; cases h
    | er => rw [e] at h; cases h
  · cases h
theorem asL_ex {d : D} {c : Str} {fs : List (Str × D)} : asL d ≠ .ex c fs := by
  cases d <;> exact fun z => nomatch z
theorem dEnum_ex {ds : List D} {c : Str} {fs : List (Str × D)} : dEnum ds ≠ .ex c fs := by
  unfold dEnum
  split
  · rename_i d
    cases e : asL d with
    | ok ys => exact fun z => nomatch z
    | ex c fs => exact absurd e asL_ex
    | er => exact fun z => nomatch z
  · exact fun z => nomatch z
theorem ji_enum (ha : JA X E m [e] fs) (hm : X.mg "enumerate" = none) (hg : Gl X "enumerate" := by rfl) (hs : starEach [e] X.env = [(false, eval e X.env)] := by rfl) : JI X E m (.Tuple elts kk tpos) (.Call (.Name "enumerate" p) [e] [] pos) (fEnum fs) := by
  refine ⟨⟨fun pins s σ H R I h => (pi_enumA hg hm ha.pa hs).run pins s σ H R I ?_⟩⟩
  obtain ⟨S, ρ, hm, hp⟩ := h
  refine ⟨S, ρ, hm, (PostW.bind hp).imp fun ds S1 H1 s1 k vs rv => ?_⟩
  obtain ⟨xs, e, k⟩ := PostW.okOf k fun _ _ => dEnum_ex
  obtain ⟨d, ys, rfl, ey, rfl⟩ := dEnum_ok e
  obtain ⟨v, rfl, rd⟩ := repl1 rv
  cases d with
  | lst xs =>
    cases ey
    obtain ⟨a, vs, rfl, ha, rv⟩ := rd.of_lst
    exact ⟨a, vs, rfl, .inl ⟨.inl (.inl (s1.sub _ _ ha)), k S1 H1 (Step.refl s1.sub) _ (walk_e rv (.inl (.inl ha)))⟩⟩
  | frl xs =>
    cases ey
    obtain ⟨a, vs, rfl, ha, rv⟩ := rd.of_frl
    exact ⟨a, vs, rfl, .inl ⟨same_l s1.sub ha, k S1 H1 (Step.refl s1.sub) _ (walk_e rv ha)⟩⟩
  | tup xs =>
    cases ey
    obtain ⟨a, vs, rfl, ha, rv⟩ := rd.of_tup
    exact ⟨a, vs, rfl, .inr ⟨same_t s1.sub ha, k S1 H1 (Step.refl s1.sub) _ (walk_eT rv ha)⟩⟩
  | _ => cases ey
end
end Da
namespace Da
open PySem PySem.Spec L2
/-! ### expressions that change an own list: xs.pop(i) -/
def tX (K : PySem.W.Frag) (mg : Str → Option Value) (m : Mds) (f : Env → Res (D × Env)) : TE := fun σ H Q => ∃ S0 H0 S F ρ, StF K mg m S0 H0 S F σ ρ H ∧ (match f ρ with
  | .ok (d, ρ1) => ∀ v S1 F1 H1, StF K mg m S0 H0 S1 F1 σ ρ1 H1 → Rep K mg S1 v d → Q v H1
  | _ => False)
structure JX (X : Cx) (m : Mds) (e : Expr) (f : Env → Res (D × Env)) : Prop where
  pe : PE X e (tX X.K X.mg m f)
def fPop (i : Nat) (f : Env → Res D) : Env → Res (D × Env) := fun ρ => match ρ[i]? with
  | some (some (.lst xs)) => (match f ρ with
    | .ok (.int z) => (match ixN xs.length z with
      | some k => (match xs[k]? with
        | some y => if szOk xs.length = true then .ok (y, ρ.set i (some (.lst (xs.eraseIdx k)))) else .er
        | none => .er)
      | none => .er)
    | _ => .er)
  | _ => .er
def fPop0 (i : Nat) : Env → Res (D × Env) := fun ρ => match ρ[i]? with
  | some (some (.lst xs)) => (match xs[xs.length - 1]? with
    | some y => .ok (y, ρ.set i (some (.lst xs.dropLast)))
    | none => .er)
  | _ => .er
def fSetX (i : Nat) (f : Env → Res (D × Env)) : FS := fun ρ => match f ρ with
  | .ok (d, ρ1) => .ok (.nx (ρ1.set i (some d)))
  | _ => .er
def fDropX (f : Env → Res (D × Env)) : FS := fun ρ => match f ρ with
  | .ok (_, ρ1) => .ok (.nx ρ1)
  | _ => .er
def fAppX (i : Nat) (f : Env → Res (D × Env)) : FS := fun ρ => match ρ[i]? with
  | some (some (.lst _)) => (match f ρ with
    | .ok (d, ρ1) => (match ρ1[i]? with
      | some (some (.lst xs)) => if szOk (xs.length + 1) = true then .ok (.nx (ρ1.set i (some (.lst (xs ++ [d]))))) else .er
      | _ => .er)
    | _ => .er)
  | _ => .er
theorem Same.ref_eq {a b : Addr} {σ : L2.St} {i : Nat} (h : σ[i]? = some (some (V.ref a))) (k : σ[i]? = some (some (V.ref b))) : b = a := by
  rw [h] at k
  injection k with z; injection z with z; injection z with z
  exact z.symm
theorem ix_fits {n : Nat} {z : Int} {k : Nat} (h : ixN n z = some k) (hn : n ≤ sizeLine) : -(2 ^ 63) ≤ z ∧ z < 2 ^ 63 := by
  obtain ⟨_, _, h1, h2⟩ := ixN_seq h
  rw [sizeLine_eq] at hn
  omega
section
variable {X : Cx} {E : WX} {L : Lp} {m : Mds} {e : Expr} {f : Env → Res D} {fx : Env → Res (D × Env)} {x : Str} {pos p1 p2 p3 : Pos}
theorem jx_pop (i : Nat) (he : JE X EF m .sh e f) (hmd : mdAt m i = .ow := by rfl) (hl : i < m.length := by decide) (hN : X.N[i]? = some x := by rfl) (hv : Vis X.env.scope x := by first | exact Or.inl rfl | exact Or.inr (Or.inl rfl) | exact Or.inr (Or.inr rfl))
    (hd : (x == ("__debug__" : Str)) = false := by decide) (hcd : (x == ("__classdict__" : Str)) = false := by decide)
    (hpe : ∀ {to te : TE}, PE X (.Name x p1) to → PE X e te → PE X (.Call (.Attribute (.Name x p1) "pop" p2) [e] [] p3) (tBM X.K "list" rPopAt to (tCons te tNil)) := by
      intro to te ho he
      exact pe_bm PySem.F.plainAttrs_list PySem.F.slot_list_pop PySem.F.type_list_pop mt_popAt ho (pa_cons he pa_nil)) :
    JX X m (.Call (.Attribute (.Name x p1) "pop" p2) [e] [] p3) (fPop i f) := by
  refine ⟨⟨fun pins s σ H Q I h => (hpe (pe_var hN hv hd hcd) he.pe).run pins s σ H Q I ?_⟩⟩
  obtain ⟨S0, H0, S, Fp, ρ, st, p⟩ := h
  unfold fPop at p
  split at p
  · rename_i d ρ1 er
    split at er
    · rename_i xs exs
      obtain ⟨pa, vs, ds, eds, e1, e2, e3, e4, e5⟩ := st.own hmd exs
      cases eds
      refine ⟨_, e2, .inl ⟨rfl, vs, .inl (.inl e4)⟩, S, ρ, st.envM, ?_⟩
      split at er
      · rename_i z ez
        rw [ez]
        intro v S1 H1 fp s1 o _ _
        cases o.1
        split at er
        · rename_i k ek
          split at er
          · rename_i y ey
            split at er
            rotate_left
            · cases er
            rename_i hz0
            cases er
            obtain ⟨qa, ws, ds1, eds, q1, q2, q3, q4, q5⟩ := (st.step s1).own hmd exs
            cases eds
            obtain rfl := Same.ref_eq e2 q2
            obtain ⟨w, ew, rw'⟩ := q5.get ey
            obtain ⟨b1, b2⟩ := ix_fits ek (szOk_ok hz0)
            exact ⟨_, ws, z, k, w, rfl, rfl, q4, b1, b2, by rw [q5.len]; exact (ixN_seq ek).1, ew, p w S1 Fp _ ((st.step s1).write hl hmd exs q1 q2 q3 q4 (q5.eraseIdx k)) rw'⟩
          · cases er
        · cases er
      · cases er
    · cases er
  · exact p.elim
theorem jx_pop0 (i : Nat) (hmd : mdAt m i = .ow := by rfl) (hl : i < m.length := by decide) (hN : X.N[i]? = some x := by rfl) (hv : Vis X.env.scope x := by first | exact Or.inl rfl | exact Or.inr (Or.inl rfl) | exact Or.inr (Or.inr rfl))
    (hd : (x == ("__debug__" : Str)) = false := by decide) (hcd : (x == ("__classdict__" : Str)) = false := by decide)
    (hpe : ∀ {to : TE}, PE X (.Name x p1) to → PE X (.Call (.Attribute (.Name x p1) "pop" p2) [] [] p3) (tBM0 X.K "list" rPop to) := by
      intro to ho
      exact pe_bm0 PySem.F.plainAttrs_list PySem.F.slot_list_pop PySem.F.type_list_pop mt_pop ho) :
    JX X m (.Call (.Attribute (.Name x p1) "pop" p2) [] [] p3) (fPop0 i) := by
  refine ⟨⟨fun pins s σ H Q I h => (hpe (pe_var hN hv hd hcd)).run pins s σ H Q I ?_⟩⟩
  obtain ⟨S0, H0, S, Fp, ρ, st, p⟩ := h
  unfold fPop0 at p
  split at p
  · rename_i d ρ1 er
    split at er
    · rename_i xs exs
      obtain ⟨pa, vs, ds, eds, e1, e2, e3, e4, e5⟩ := st.own hmd exs
      cases eds
      split at er
      · rename_i y ey
        cases er
        obtain ⟨w, ew, rw'⟩ := e5.get ey
        rw [← e5.len] at ew
        exact ⟨_, e2, .inl ⟨rfl, vs, .inl (.inl e4)⟩, _, vs, w, rfl, rfl, e4, ew, p w S Fp _ (st.write hl hmd exs e1 e2 e3 e4 e5.dropLast) rw'⟩
      · cases er
    · cases er
  · exact p.elim
theorem js_setX (i : Nat) {pos' : Pos} (he : JX X m e fx) (hN : X.N.Nodup) (hl : i < m.length := by decide) (hi : X.N[i]? = some x := by rfl) (hx : Loc X.env.scope x := by first | exact Or.inl rfl | exact Or.inr rfl)
    (hs : swapsWith e (some (.Name x pos')) pos.line X.env = pure false := by rfl) (hf : X.fn x = true ∨ X.env.scope.names.lookup x = some .local := by first | exact .inl rfl | exact .inr rfl) :
    JS X E L m (m.set i .sh) (.Assign [.Name x pos'] e pos) (fSetX i fx) := by
  refine ⟨PSimp (ps_set hN hi hx he.pe hs hf) fun D σ H h => ?_⟩
  obtain ⟨S0, H0, ρ, ⟨S, Fp, st⟩, p⟩ := h
  unfold fSetX at p
  split at p
  · rename_i d ρ1 er
    refine ⟨S0, H0, S, Fp, ρ, st, ?_⟩
    try rw [er]
    intro v S1 F1 H1 st1 rd
    exact p _ _ (StF.stM (st1.set hl ⟨rd, rfl⟩ List.nodup_nil (fun a z => nomatch z) fun j e' hj ej a ha z => nomatch z))
  · exact p.elim
theorem js_dropX (he : JX X m e fx) (hs : swapsWith e none pos.line X.env = pure false := by rfl) : JS X E L m m (.Expr e pos) (fDropX fx) := by
  refine ⟨PSimp (ps_expr he.pe hs) fun D σ H h => ?_⟩
  obtain ⟨S0, H0, ρ, ⟨S, Fp, st⟩, p⟩ := h
  unfold fDropX at p
  split at p
  · rename_i d ρ1 er
    refine ⟨S0, H0, S, Fp, ρ, st, ?_⟩
    try rw [er]
    intro v S1 F1 H1 st1 rd
    exact p _ _ st1.stM
  · exact p.elim
theorem js_appX (i : Nat) (he : JX X m e fx) (hmd : mdAt m i = .ow := by rfl) (hl : i < m.length := by decide) (hN : X.N[i]? = some x := by rfl) (hv : Vis X.env.scope x := by first | exact Or.inl rfl | exact Or.inr (Or.inl rfl) | exact Or.inr (Or.inr rfl))
    (hd : (x == ("__debug__" : Str)) = false := by decide) (hcd : (x == ("__classdict__" : Str)) = false := by decide)
    (hs : swapsWith (.Call (.Attribute (.Name x p1) "append" p2) [e] [] p3) none pos.line X.env = pure false := by rfl)
    (hpe : ∀ {to te : TE}, PE X (.Name x p1) to → PE X e te → PE X (.Call (.Attribute (.Name x p1) "append" p2) [e] [] p3) (tBM X.K "list" rAppend to (tCons te tNil)) := by
      intro to te ho he
      exact pe_bm PySem.F.plainAttrs_list PySem.F.slot_list_append PySem.F.type_list_append mt_append ho (pa_cons he pa_nil)) :
    JS X E L m m (.Expr (.Call (.Attribute (.Name x p1) "append" p2) [e] [] p3) pos) (fAppX i fx) := by
  refine ⟨PSimp (ps_expr (hpe (pe_var hN hv hd hcd) he.pe) hs) fun D σ H h => ?_⟩
  obtain ⟨S0, H0, ρ, ⟨S, Fp, st⟩, p⟩ := h
  unfold fAppX at p
  split at p
  · rename_i xs0 exs0
    obtain ⟨pa, vs, ds, eds, e1, e2, e3, e4, e5⟩ := st.own hmd exs0
    refine ⟨_, e2, .inl ⟨rfl, vs, .inl (.inl e4)⟩, S0, H0, S, Fp, ρ, st, ?_⟩
    split at p
    · rename_i d ρ1 er
      intro v S1 F1 H1 st1 rd
      split at p
      · rename_i xs exs
        split at p
        · rename_i hz
          obtain ⟨qa, ws, ds1, eds1, q1, q2, q3, q4, q5⟩ := st1.own hmd exs
          cases eds1
          obtain rfl := Same.ref_eq e2 q2
          exact ⟨_, ws, v, rfl, rfl, q4, by rw [q5.len]; exact szOk_lt hz, p _ _ (st1.write hl hmd exs q1 q2 q3 q4 (q5.snoc rd)).stM⟩
        · exact p.elim
      · exact p.elim
    · exact p.elim
  · exact p.elim
/-- tg = e: any target -/
def fAsg (f : Env → Res D) (g : D → Env → Res Env) : FS := fun ρ => lift (f ρ) ρ fun d => match g d ρ with
  | .ok ρ1 => .ok (.nx ρ1)
  | _ => .er
theorem js_asg {tg : Expr} {ts : List Nat} {g : D → Env → Res Env} (he : JE X E m .sh e f) (hg : JG X m ts tg g) (hs : swapsWithSole [tg] e pos.line X.env = pure false := by rfl) (hw : swappedStores [tg] e X.env = pure none := by rfl)
    (h1 : (assignEach [tg] X.env).map (·.2) = [assign tg X.env] := by rfl) : JS X E L m m (.Assign [tg] e pos) (fAsg f g) := by
  refine ⟨PSimp (ps_asg he.pe hg.pg hs hw h1) fun D σ H h => ?_⟩
  obtain ⟨S0, H0, ρ, ⟨S, Fp, st⟩, p⟩ := h
  refine ⟨S, ρ, st.envM, (lift_post st p).post fun d v S1 H1 s1 r k => ?_⟩
  refine ⟨S0, H0, S1, Fp, ρ, d, st.step s1, r, ?_⟩
  split at k
  · rename_i ρ1 eg
    try rw [eg]
    exact fun σ1 S2 F1 H2 st2 _ _ => k _ _ st2.stM
  · exact k.elim
end
end Da
namespace Da
open PySem PySem.Spec L2
/-! ### facts for plain proofs -/
/-- whole numbers from naturals -/
def nat (i : Nat) : D := .int (i : Int)
theorem nat_eq {i : Nat} : D.int (i : Int) = nat i := rfl
theorem rng_zero {n : Nat} : rng 0 n = (List.range n).map nat := by
  unfold rng
  refine List.map_congr_left fun i _ => ?_
  rw [Int.zero_add]
  rfl
@[simp] theorem rng0_length {lo : Int} {n : Nat} : (rng lo n).length = n := rng_length
theorem szOk_small {n : Nat} (h : n ≤ 1000000) : szOk n = true := szOk_yes h
@[simp] theorem dList_lst {xs : List D} : dList (.lst xs) = .ok (.lst xs) := rfl
@[simp] theorem dList_tup {xs : List D} : dList (.tup xs) = .ok (.lst xs) := rfl
@[simp] theorem dTuple_lst {xs : List D} : dTuple (.lst xs) = .ok (.tup xs) := rfl
@[simp] theorem dTuple_tup {xs : List D} : dTuple (.tup xs) = .ok (.tup xs) := rfl
@[simp] theorem fTupleR1_ap {f : Env → Res D} {ρ : Env} {j : Int} (h : f ρ = .ok (.int j)) (h0 : 0 ≤ j) (h1 : j ≤ 1000000) : fTupleR1 f ρ = .ok (.tup ((List.range j.toNat).map nat)) := by
  unfold fTupleR1
  rw [h]
  show (if rgnOk 0 j = true then Res.ok (D.tup (rng 0 (j - 0).toNat)) else .er) = _
  rw [if_pos (show rgnOk 0 j = true from stuck_iff.mpr ⟨stuck_iff.mpr (by omega), by omega⟩), rng_zero, Int.sub_zero]
theorem fListR1_ap {f : Env → Res D} {ρ : Env} {j : Int} (h : f ρ = .ok (.int j)) (h0 : 0 ≤ j) (h1 : j ≤ 1000000) : fListR1 f ρ = .ok (.lst ((List.range j.toNat).map nat)) := by
  unfold fListR1
  rw [h]
  show (if rgnOk 0 j = true then Res.ok (D.lst (rng 0 (j - 0).toNat)) else .er) = _
  rw [if_pos (show rgnOk 0 j = true from stuck_iff.mpr ⟨stuck_iff.mpr (by omega), by omega⟩), rng_zero, Int.sub_zero]
/-- a range as it is walked -/
theorem fR1_ok {fs : Env → Res (List D)} {ρ : Env} {n : Nat} (h : fs ρ = .ok [.int (n : Int)]) (h1 : n ≤ 1000000) : fR1 fs ρ = .ok (rng 0 n) := by
  unfold fR1
  rw [h]
  show gRng1 [.int (n : Int)] = _
  rw [gRng1_int (by omega) (by omega)]
  rfl
/-! comprehensions -/
theorem lcGo_map {α : Type} {g : D → Env → Res Env} {c : Env → Res Bool} {f : Env → Res D} {ρ : Env} {k : α → D} {h : α → D} {e : α → Env} : ∀ {ys : List α}, (∀ y ∈ ys, g (k y) ρ = .ok (e y) ∧ c (e y) = .ok true ∧ f (e y) = .ok (h y)) → lcGo g c f ρ (ys.map k) = .ok (ys.map h)
  | [], _ => rfl
  | y :: ys, H => by
    obtain ⟨h1, h2, h3⟩ := H y List.mem_cons_self
    rw [List.map_cons, List.map_cons]
    unfold lcGo
    rw [h1]
    simp only [h2, h3, if_true, lcGo_map fun z hz => H z (List.mem_cons_of_mem _ hz)]
/-- over things told by k, without a test, a name as the target -/
theorem fLc_map {α : Type} {vs : List Nat} {it : Env → Res (List D)} {i : Nat} {f : Env → Res D} {ρ : Env} {k : α → D} {h : α → D} {ys : List α} (hi : it ρ = .ok (ys.map k)) (hz : ys.length ≤ 1000000) (H : ∀ y ∈ ys, f ((wipeD ρ vs).set i (some (k y))) = .ok (h y)) : fLc vs it (gN i) fYes f ρ = .ok (.lst (ys.map h)) := by
  unfold fLc
  rw [hi]
  show (if szOk (ys.map k).length = true then _ else _) = _
  rw [if_pos (by rw [List.length_map]; exact szOk_yes hz), lcGo_map (e := fun y => (wipeD ρ vs).set i (some (k y))) (h := h) fun y hy => ⟨rfl, rfl, H y hy⟩]
  rfl
@[simp] theorem wipeD_one {ρ : Env} {i : Nat} : wipeD ρ [i] = ρ.set i none := rfl
@[simp] theorem fSc_int {f : Env → Res D} {ρ : Env} {j : Int} (h : f ρ = .ok (.int j)) : fSc f ρ = .ok (.int j) := by unfold fSc; rw [h]; rfl
@[simp] theorem fNx_ok {α : Type} {f : Env → Res α} {ρ : Env} {d : α} (h : f ρ = .ok d) : fNx f ρ = .ok d := by unfold fNx; rw [h]
/-! equal data -/
theorem pys_ints : ∀ ns : List Int, D.pys (ns.map D.int) = some (ns.map PyData.int)
  | [] => rfl
  | n :: ns => by
    rw [List.map_cons, List.map_cons]
    unfold D.pys
    rw [pys_ints ns]
    rfl
theorem shaped_tup {ns : List Int} : SeqAt.shaped (.tuple (ns.map PyData.int)) = true := by
  have h := PySem.W.shaped_ints ns
  unfold SeqAt.shaped at h ⊢
  simp only [PyData.canLay0, PyData.depth] at h ⊢
  exact h
theorem eqv_ints : ∀ a b : List Int, PyData.eqvAll (a.map PyData.int) (b.map PyData.int) = decide (a = b)
  | [], [] => by simp [PyData.eqvAll]
  | [], _ :: _ => by simp [PyData.eqvAll]
  | _ :: _, [] => by simp [PyData.eqvAll]
  | x :: a, y :: b => by
    rw [List.map_cons, List.map_cons, PyData.eqvAll, eqv_ints a b]
    simp only [PyData.eqv, List.cons.injEq]
    by_cases hx : x = y
    · by_cases hb : a = b <;> simp [hx, hb]
    · simp [hx]
theorem py_lst {ns : List Int} : D.py (.lst (ns.map D.int)) = some (.list (ns.map PyData.int)) := by unfold D.py; rw [pys_ints]
theorem py_tup {ns : List Int} : D.py (.tup (ns.map D.int)) = some (.tuple (ns.map PyData.int)) := by unfold D.py; rw [pys_ints]
theorem eqD_lst {a b : List Int} : eqD (.lst (a.map D.int)) (.lst (b.map D.int)) = .ok (decide (a = b)) := by
  unfold eqD
  rw [py_lst, py_lst]
  simp only [PySem.W.shaped_ints, Bool.and_self, if_true, PyData.eqv, eqv_ints]
theorem eqD_tup {a b : List Int} : eqD (.tup (a.map D.int)) (.tup (b.map D.int)) = .ok (decide (a = b)) := by
  unfold eqD
  rw [py_tup, py_tup]
  simp only [shaped_tup, Bool.and_self, if_true, PyData.eqv, eqv_ints]
/-- the same thing -/
theorem eqD_self {d : D} {a : PyData} (h : D.py d = some a) (hs : SeqAt.shaped a = true) : eqD d d = .ok true := by
  unfold eqD
  rw [h]
  simp only [hs, Bool.and_self, if_true]
  rw [SeqAt.eqv_refl _ (SeqAt.canLay_of_shaped hs)]
/-! sorted whole numbers -/
theorem en_ints {ns : List Int} : (ns.map D.int).map D.en = ns.map PyData.int := by
  rw [List.map_map]
  rfl
theorem srt_ints (ns : List Int) : SrtOk (ns.map D.int) := by
  refine ⟨⟨_, pys_ints ns⟩, ?_, ?_, fun d hd => ?_⟩
  · rw [en_ints]
    exact PySem.W.AllAlike.of fun _ _ => by simp [PySem.W.alike]
  · rw [en_ints]
    exact PySem.W.Sortable.others fun _ => ⟨(fun z => nomatch z), (fun xs z => nomatch z)⟩
  · obtain ⟨n, _, rfl⟩ := List.mem_map.mp hd
    show PyData.depth (.int n) ≤ 20
    simp [PyData.depth]
def leI (x y : Int) : Bool := decide (x ≤ y)
theorem leD_int {x y : Int} : leD (.int x) (.int y) = leI x y := by
  have := congrFun (congrFun (PySem.W.dataLe_int (fun b : Int => b)) x) y
  exact this
theorem sort_ints (ns : List Int) : (ns.map D.int).mergeSort leD = (ns.mergeSort leI).map D.int := by
  exact (List.map_mergeSort (r := leI) (s := leD) (f := D.int) (l := ns) (fun a _ b _ => (leD_int).symm)).symm
theorem dSorted_lst {ns : List Int} : dSorted (.lst (ns.map D.int)) = .ok (.lst ((ns.mergeSort leI).map D.int)) := by
  show (if srtOk (ns.map D.int) = true then _ else _) = _
  rw [if_pos (show srtOk (ns.map D.int) = true from stuck_iff.mpr (srt_ints ns)), sort_ints]
theorem dSorted_tup {ns : List Int} : dSorted (.tup (ns.map D.int)) = .ok (.lst ((ns.mergeSort leI).map D.int)) := by
  show (if srtOk (ns.map D.int) = true then _ else _) = _
  rw [if_pos (show srtOk (ns.map D.int) = true from stuck_iff.mpr (srt_ints ns)), sort_ints]
/-- 0, 1, .. n - 1 -/
def upto (n : Nat) : List Int := (List.range n).map fun (i : Nat) => (i : Int)
theorem upto_nat {n : Nat} : (List.range n).map nat = (upto n).map D.int := by unfold upto; rw [List.map_map]; rfl
theorem upto_length {n : Nat} : (upto n).length = n := by unfold upto; rw [List.length_map, List.length_range]
theorem upto_at {n i : Nat} (h : i < n) : (upto n)[i]? = some (i : Int) := by unfold upto; rw [List.getElem?_map, List.getElem?_range h]; rfl
theorem mem_upto {n : Nat} {x : Int} : x ∈ upto n ↔ 0 ≤ x ∧ x < n := by
  unfold upto
  rw [List.mem_map]
  constructor
  · rintro ⟨i, hi, rfl⟩
    have := List.mem_range.mp hi
    omega
  · intro h
    exact ⟨x.toNat, List.mem_range.mpr (by omega), by omega⟩
theorem upto_pw {n : Nat} : (upto n).Pairwise (· ≤ ·) := by
  unfold upto
  rw [List.pairwise_map]
  exact List.pairwise_lt_range.imp fun h => by omega
theorem upto_nodup {n : Nat} : (upto n).Nodup := by
  unfold upto
  rw [List.Nodup, List.pairwise_map]
  exact List.pairwise_lt_range.imp fun h z => by omega
theorem sort_perm {ns : List Int} {n : Nat} (h : ns.Perm (upto n)) : ns.mergeSort leI = upto n := by
  refine PySem.W.Srt.one _ _ ((List.mergeSort_perm _ _).trans h) ?_ upto_pw
  refine (List.pairwise_mergeSort (fun a b c h1 h2 => ?_) (fun a b => ?_) ns).imp fun h => ?_
  · have h1 := of_decide_eq_true h1
    have h2 := of_decide_eq_true h2
    exact decide_eq_true (Int.le_trans h1 h2)
  · unfold leI
    simp
    omega
  · exact of_decide_eq_true h
end Da
namespace Kx
open PySem PySem.Spec L2 Da
/-! ### the text -/
def top (i : Nat) : Stmt := PySem.Challenge.pw_nobadday_k07_permutations.main.body.getD i (.Pass ⟨0, 0, 0, 0⟩)
abbrev s_frozen : Stmt := top 1
abbrev s_is_number : Stmt := top 2
abbrev s_is_perm : Stmt := top 4
abbrev s_identity : Stmt := top 5
abbrev s_composed : Stmt := top 6
abbrev s_inverse : Stmt := top 7
abbrev s_law_whole : Stmt := top 9
abbrev s_law_cell : Stmt := top 10
abbrev s_law_digits : Stmt := top 11
abbrev s_law_day : Stmt := top 12
abbrev s_law_same : Stmt := top 13
abbrev s_law_is_perm : Stmt := top 14
abbrev s_law : Stmt := top 15
/-- what stands behind the top -/
structure Txt (K : PySem.W.Frag) (mg : Str → Option Value) : Prop where
  d_frozen : DefAt K mg "frozen" "frozen" s_frozen ["value"]
  d_is_number : DefAt K mg "is_number" "is_number" s_is_number ["value"]
  d_is_perm : DefAt K mg "is_perm" "is_perm" s_is_perm ["value", "size"]
  d_identity : DefAt K mg "identity" "identity" s_identity ["size"]
  d_composed : DefAt K mg "composed" "composed" s_composed ["one", "two"]
  d_inverse : DefAt K mg "inverse" "inverse" s_inverse ["perm"]
  d_law_whole : DefAt K mg "_law_whole" "_law_whole" s_law_whole ["value"]
  d_law_cell : DefAt K mg "_law_cell" "_law_cell" s_law_cell ["script", "k"]
  d_law_digits : DefAt K mg "_law_digits" "_law_digits" s_law_digits ["cell", "sizes"]
  d_law_day : DefAt K mg "_law_day" "_law_day" s_law_day ["size", "row"]
  d_law_same : DefAt K mg "_law_same" "_law_same" s_law_same ["value", "due"]
  d_law_is_perm : DefAt K mg "_law_is_perm" "_law_is_perm" s_law_is_perm ["row", "size"]
  z_all : mg "all" = none
  z_bool : mg "bool" = none
  z_enumerate : mg "enumerate" = none
  z_int : mg "int" = none
  z_isinstance : mg "isinstance" = none
  z_len : mg "len" = none
  z_list : mg "list" = none
  z_range : mg "range" = none
  z_sorted : mg "sorted" = none
  z_str : mg "str" = none
  z_tuple : mg "tuple" = none
/-! frozen -/
theorem sc_frozen : FnScope ["value", "item"] ["value"] (defScope s_frozen) := ⟨rfl, rfl, rfl, by decide +kernel, rfl, by decide +kernel, by decide +kernel⟩
def F_frozen (rec : List D → Res D) : FS := (fSeq (fIfS (fTr (f1 (dIsi2 "list" "tuple") (fV 0))) (fRet (fOn (on1 dTuple) (fA (fLc [1] (fL (fV 0)) (gN 1) fYes (fOn (chk 1 rec) (fA (fV 1) fA0))) fA0))) fNext)
    (fRet (fV 0)))
def r_frozen : Nat → List D → Res D
  | 0 => fun _ => .er
  | n + 1 => runF 2 .sh (F_frozen (r_frozen n))
def m_frozen : List D → Res D := r_frozen 6
theorem okr_frozen {P : Program} {w : World} {K : PySem.W.Frag} {mg : Str → Option Value} {base : Heap} (T : Txt K mg) : ∀ n, Keeps P w K mg base "frozen" (0 + n) ["value"] 1 .sh (r_frozen n)
  | 0 => keeps_er T.d_frozen
  | n + 1 => by
    have IH := okr_frozen (P := P) (w := w) (base := base) T n
    exact keeps_of T.d_frozen sc_frozen (by decide) fun f cdv A outer s H E hr =>
    (js_cons (js_if (jt_tr (je_isi2 "list" "tuple" T.z_isinstance T.z_list T.z_tuple (je_var 0))) (js_one (js_ret (je_tuple T.z_tuple (ja_cons (je_share (je_lc sc_frozen [("item", 1)] (ji_seq (je_var 0)) (fun _ _ _ _ _ => (jg_name 1 sc_frozen.nd)) (fun _ _ _ _ _ => jts_nil) (fun _ _ _ _ _ => (je_call IH (hr.mono (Nat.le_refl _)) takesF (ja_cons (je_var 1) ja_nil))))) ja_nil)))) js_nil)
    (js_one (js_retV 0)))
theorem ok_frozen {P : Program} {w : World} {K : PySem.W.Frag} {mg : Str → Option Value} {base : Heap} (T : Txt K mg) : Keeps P w K mg base "frozen" 6 ["value"] 1 .sh m_frozen := okr_frozen T 6
/-! is_number -/
theorem sc_is_number : FnScope ["value"] ["value"] (defScope s_is_number) := ⟨rfl, rfl, rfl, by decide +kernel, rfl, by decide +kernel, by decide +kernel⟩
def F_is_number : FS := (fRet (fBv (fAnd (fB (f1 (dIsi "int") (fV 0))) (fB (fBv (fNot (fB (f1 (dIsi "bool") (fV 0)))))))))
def m_is_number : List D → Res D := runF 1 .sh F_is_number
theorem ok_is_number {P : Program} {w : World} {K : PySem.W.Frag} {mg : Str → Option Value} {base : Heap} (T : Txt K mg) : Keeps P w K mg base "is_number" 1 ["value"] 1 .sh m_is_number :=
  keeps_of T.d_is_number sc_is_number (by decide) fun f cdv A outer s H E hr =>
    (js_one (js_ret (je_and (je_isi "int" T.z_isinstance T.z_int (je_var 0)) (je_last (je_not (je_isi "bool" T.z_isinstance T.z_bool (je_var 0)))))))
/-! is_perm -/
theorem sc_is_perm : FnScope ["value", "size", "item"] ["value", "size"] (defScope s_is_perm) := ⟨rfl, rfl, rfl, by decide +kernel, rfl, by decide +kernel, by decide +kernel⟩
def F_is_perm : FS := (fSeq (fSet 0 (fOn (chk 1 m_frozen) (fA (fV 0) fA0)))
    (fSeq (fIfS (fOr (fB (f2 dNe (fOn (on1 dLen) (fA (fV 0) fA0)) (fV 1))) (fNot (fTr (fOn (on1 dAll) (fA (fLc [2] (fL (fV 0)) (gN 2) fYes (fOn (chk 1 m_is_number) (fA (fV 2) fA0))) fA0))))) (fRet (fC (.bl false))) fNext)
    (fRet (f2 dEq (fOn (on1 dSorted) (fA (fV 0) fA0)) (fListR1 (fV 1))))))
def m_is_perm : List D → Res D := runF 3 .sh F_is_perm
theorem ok_is_perm {P : Program} {w : World} {K : PySem.W.Frag} {mg : Str → Option Value} {base : Heap} (T : Txt K mg) : Keeps P w K mg base "is_perm" 7 ["value", "size"] 2 .sh m_is_perm :=
  keeps_of T.d_is_perm sc_is_perm (by decide) fun f cdv A outer s H E hr =>
    (js_cons (js_set 0 (je_call (ok_frozen T) (hr.mono (by decide)) (takes_of rfl rfl rfl rfl) (ja_cons (je_var 0) ja_nil)) sc_is_perm.nd)
    (js_cons (js_if (JW.jt (jw_or (jt_ne hr (je_len T.z_len (ja_cons (je_var 0) ja_nil)) (je_var 1)) (jw_or1 (jt_not (jt_tr (je_all T.z_all (ja_cons (je_share (je_lc sc_is_perm [("item", 2)] (ji_seq (je_var 0)) (fun _ _ _ _ _ => (jg_name 2 sc_is_perm.nd)) (fun _ _ _ _ _ => jts_nil) (fun _ _ _ _ _ => (je_call (ok_is_number T) (hr.mono (by decide)) takesF (ja_cons (je_var 2) ja_nil))))) ja_nil))))))) (js_one (js_ret je_bl)) js_nil)
    (js_one (js_ret (je_eq hr (je_share (je_sorted hr T.z_sorted (ja_cons (je_var 0) ja_nil))) (je_share (je_listR1 (md := .ow) T.z_list T.z_range (je_var 1))))))))
/-! identity -/
theorem sc_identity : FnScope ["size"] ["size"] (defScope s_identity) := ⟨rfl, rfl, rfl, by decide +kernel, rfl, by decide +kernel, by decide +kernel⟩
def F_identity : FS := (fRet (fTupleR1 (fV 0)))
def m_identity : List D → Res D := runF 1 .sh F_identity
theorem ok_identity {P : Program} {w : World} {K : PySem.W.Frag} {mg : Str → Option Value} {base : Heap} (T : Txt K mg) : Keeps P w K mg base "identity" 1 ["size"] 1 .sh m_identity :=
  keeps_of T.d_identity sc_identity (by decide) fun f cdv A outer s H E hr =>
    (js_one (js_ret (je_tupleR1 T.z_tuple T.z_range (je_var 0))))
/-! composed -/
theorem sc_composed : FnScope ["one", "two", "item"] ["one", "two"] (defScope s_composed) := ⟨rfl, rfl, rfl, by decide +kernel, rfl, by decide +kernel, by decide +kernel⟩
def F_composed : FS := (fRet (fOn (on1 dTuple) (fA (fLc [2] (fL (fV 0)) (gN 2) fYes (f2 dIx (fV 1) (fV 2))) fA0)))
def m_composed : List D → Res D := runF 3 .sh F_composed
theorem ok_composed {P : Program} {w : World} {K : PySem.W.Frag} {mg : Str → Option Value} {base : Heap} (T : Txt K mg) : Keeps P w K mg base "composed" 1 ["one", "two"] 2 .sh m_composed :=
  keeps_of T.d_composed sc_composed (by decide) fun f cdv A outer s H E hr =>
    (js_one (js_ret (je_tuple T.z_tuple (ja_cons (je_share (je_lc sc_composed [("item", 2)] (ji_seq (je_var 0)) (fun _ _ _ _ _ => (jg_name 2 sc_composed.nd)) (fun _ _ _ _ _ => jts_nil) (fun _ _ _ _ _ => (je_item (je_var 1) (je_var 2))))) ja_nil))))
/-! inverse -/
theorem sc_inverse : FnScope ["perm", "places", "k", "item"] ["perm"] (defScope s_inverse) := ⟨rfl, rfl, rfl, by decide +kernel, rfl, by decide +kernel, by decide +kernel⟩
def F_inverse : FS := (fSeq (fSet 1 (fLc [3] (fL (fV 0)) (gN 3) fYes (fC (.int 0))))
    (fSeq (fFor (fEnum (fA (fV 0) fA0)) (gT (gsC (gN 2) (gsC (gN 3) gs0))) (fSetIx 1 (fV 2) (fV 3)))
    (fRet (fOn (on1 dTuple) (fA (fV 1) fA0)))))
def m_inverse : List D → Res D := runF 4 .sh F_inverse
theorem ok_inverse {P : Program} {w : World} {K : PySem.W.Frag} {mg : Str → Option Value} {base : Heap} (T : Txt K mg) : Keeps P w K mg base "inverse" 1 ["perm"] 1 .sh m_inverse :=
  keeps_of T.d_inverse sc_inverse (by decide) fun f cdv A outer s H E hr =>
    (js_cons (js_setLc 1 sc_inverse [("item", 3)] (ji_seq (je_var 0)) (fun _ _ _ _ _ => (jg_name 3 sc_inverse.nd)) (fun _ _ _ _ _ => jts_nil) (fun _ _ _ _ _ => je_int))
    (js_cons (js_for (ji_enum (ja_cons (je_var 0) ja_nil) T.z_enumerate) (jg_tup2 (jg_name 2 sc_inverse.nd) (jg_name 3 sc_inverse.nd)) (js_one (js_setix 1 (je_var 2) (je_var 3))) (passes_of rfl))
    (js_one (js_weak1 (m := [.sh, .ow, .sh, .sh]) (m1 := [.sh, .sh, .sh, .sh]) (js_ret (je_tuple T.z_tuple (ja_cons (je_var 1) ja_nil)))))))
/-! _law_whole -/
theorem sc_law_whole : FnScope ["value"] ["value"] (defScope s_law_whole) := ⟨rfl, rfl, rfl, by decide +kernel, rfl, by decide +kernel, by decide +kernel⟩
theorem ok_law_whole {P : Program} {w : World} {K : PySem.W.Frag} {mg : Str → Option Value} {base : Heap} (T : Txt K mg) : Keeps P w K mg base "_law_whole" 1 ["value"] 1 .sh m_law_whole :=
  keeps_of T.d_law_whole sc_law_whole (by decide) fun f cdv A outer s H E hr =>
    (js_one (js_ret (je_and (je_isi "int" T.z_isinstance T.z_int (je_var 0)) (je_last (je_not (je_isi "bool" T.z_isinstance T.z_bool (je_var 0)))))))
/-! _law_cell -/
theorem sc_law_cell : FnScope ["script", "k", "seed", "cell"] ["script", "k"] (defScope s_law_cell) := ⟨rfl, rfl, rfl, by decide +kernel, rfl, by decide +kernel, by decide +kernel⟩
theorem ok_law_cell {P : Program} {w : World} {K : PySem.W.Frag} {mg : Str → Option Value} {base : Heap} (T : Txt K mg) : Keeps P w K mg base "_law_cell" 1 ["script", "k"] 2 .sh m_law_cell :=
  keeps_of T.d_law_cell sc_law_cell (by decide) fun f cdv A outer s H E hr =>
    (js_cons (js_if (jt_lt (je_var 1) (je_len T.z_len (ja_cons (je_var 0) ja_nil))) (js_one (js_ret (je_item (je_var 0) (je_var 1)))) js_nil)
    (js_cons (js_set 2 je_int sc_law_cell.nd)
    (js_cons (js_for (ji_seq (je_var 0)) (jg_name 3 sc_law_cell.nd) (js_one (js_set 2 (je_mod (je_int_ T.z_int (ja_cons (je_add (je_mulI (je_var 2) je_int) (je_mod (je_int_ T.z_int (ja_cons (je_var 3) ja_nil)) je_int)) ja_nil)) je_int) sc_law_cell.nd)) (passes_of rfl))
    (js_one (js_ret (je_mod (je_int_ T.z_int (ja_cons (je_mulI (je_mulI (je_add (je_var 2) je_int) (je_add (je_var 1) je_int)) je_int) ja_nil)) je_int))))))
/-! _law_digits -/
theorem sc_law_digits : FnScope ["cell", "sizes", "row", "rest", "seed", "k", "size", "twice"] ["cell", "sizes"] (defScope s_law_digits) := ⟨rfl, rfl, rfl, by decide +kernel, rfl, by decide +kernel, by decide +kernel⟩
theorem ok_law_digits {P : Program} {w : World} {K : PySem.W.Frag} {mg : Str → Option Value} {base : Heap} (T : Txt K mg) : Keeps P w K mg base "_law_digits" 1 ["cell", "sizes"] 2 .ow m_law_digits :=
  keeps_of T.d_law_digits sc_law_digits (by decide) fun f cdv A outer s H E hr =>
    (js_cons (js_set 2 (je_lst (md := .ow) ja_nil) sc_law_digits.nd)
    (js_cons (js_set 3 (je_int_ T.z_int (ja_cons (je_var 0) ja_nil)) sc_law_digits.nd)
    (js_cons (js_if (jt_ge (je_var 3) (je_pow je_int je_int)) (js_cons (js_set 3 (je_sub (je_var 3) (je_pow je_int je_int)) sc_law_digits.nd)
    (js_cons (js_for (ji_seq (je_var 1)) (jg_name 6 sc_law_digits.nd) (js_cons (js_app 2 (je_mod (je_int_ T.z_int (ja_cons (je_var 3) ja_nil)) (je_var 6)))
    (js_one (js_set 3 (je_div (je_int_ T.z_int (ja_cons (je_var 3) ja_nil)) (je_var 6)) sc_law_digits.nd))) (passes_of rfl))
    (js_one (js_retV 2)))) js_nil)
    (js_cons (js_set 4 (je_mod (je_int_ T.z_int (ja_cons (je_var 3) ja_nil)) je_int) sc_law_digits.nd)
    (js_cons (js_for (ji_range1 (ja_cons (je_len T.z_len (ja_cons (je_var 1) ja_nil)) ja_nil) T.z_range) (jg_name 5 sc_law_digits.nd) (js_cons (js_set 4 (je_mod (je_int_ T.z_int (ja_cons (je_add (je_add (je_mulI (je_var 4) je_int) (je_mulI je_int (je_var 5))) je_int) ja_nil)) je_int) sc_law_digits.nd)
    (js_cons (js_set 7 (je_mod (je_int_ T.z_int (ja_cons (je_mulI (je_var 4) (je_add (je_div (je_var 4) je_int) je_int)) ja_nil)) je_int) sc_law_digits.nd)
    (js_one (js_app 2 (je_mod (je_div (je_var 7) je_int) (je_item (je_var 1) (je_var 5))))))) (passes_of rfl))
    (js_one (js_retV 2)))))))
/-! _law_day -/
theorem sc_law_day : FnScope ["size", "row", "left", "day", "k"] ["size", "row"] (defScope s_law_day) := ⟨rfl, rfl, rfl, by decide +kernel, rfl, by decide +kernel, by decide +kernel⟩
def F_law_day : FS := (fSeq (fSet 2 (fLc [4] (fR1 (fA (fV 0) fA0)) (gN 4) fYes (fV 4)))
    (fSeq (fSet 3 (fOn gLstD fA0))
    (fSeq (fFor (fR1 (fA (fV 0) fA0)) (gN 4) (fAppX 3 (fPop 2 (f2 dMod (fOn (on1 dInt) (fA (f2 dIx (fV 1) (fV 4)) fA0)) (fSc (fOn (on1 dLen) (fA (fV 2) fA0)))))))
    (fRet (fOn (on1 dTuple) (fA (fV 3) fA0))))))
def m_law_day : List D → Res D := runF 5 .sh F_law_day
theorem ok_law_day {P : Program} {w : World} {K : PySem.W.Frag} {mg : Str → Option Value} {base : Heap} (T : Txt K mg) : Keeps P w K mg base "_law_day" 1 ["size", "row"] 2 .sh m_law_day :=
  keeps_of T.d_law_day sc_law_day (by decide) fun f cdv A outer s H E hr =>
    (js_cons (js_setLc 2 sc_law_day [("k", 4)] (ji_range1 (ja_cons (je_var 0) ja_nil) T.z_range) (fun _ _ _ _ _ => (jg_name 4 sc_law_day.nd)) (fun _ _ _ _ _ => jts_nil) (fun _ _ _ _ _ => (je_var 4)))
    (js_cons (js_set 3 (je_lst (md := .ow) ja_nil) sc_law_day.nd)
    (js_cons (js_for (ji_range1 (ja_cons (je_var 0) ja_nil) T.z_range) (jg_name 4 sc_law_day.nd) (js_one (js_appX 3 (jx_pop 2 (je_mod (je_int_ T.z_int (ja_cons (je_item (je_var 1) (je_var 4)) ja_nil)) (je_borrow (m1 := [.sh, .sh, .sh, .sh, .sh]) (je_len T.z_len (ja_cons (je_var 2) ja_nil))))))) (passes_of rfl))
    (js_one (js_weak1 (m := [.sh, .sh, .ow, .ow, .sh]) (m1 := [.sh, .sh, .ow, .sh, .sh]) (js_ret (je_tuple T.z_tuple (ja_cons (je_var 3) ja_nil))))))))
/-! _law_same -/
theorem sc_law_same : FnScope ["value", "due", "k"] ["value", "due"] (defScope s_law_same) := ⟨rfl, rfl, rfl, by decide +kernel, rfl, by decide +kernel, by decide +kernel⟩
def F_law_same (rec : List D → Res D) : FS := (fSeq (fIfS (fOr (fTr (f1 (dIsi "tuple") (fV 1))) (fTr (f1 (dIsi "list") (fV 1)))) (fSeq (fIfS (fOr (fNot (fTr (f1 (dIsi "tuple") (fV 0)))) (fB (f2 dNe (fOn (on1 dLen) (fA (fV 0) fA0)) (fOn (on1 dLen) (fA (fV 1) fA0))))) (fRet (fC (.bl false))) fNext)
    (fSeq (fFor (fR1 (fA (fOn (on1 dLen) (fA (fV 1) fA0)) fA0)) (gN 2) (fIfS (fNot (fTr (fOn (chk 2 rec) (fA (f2 dIx (fV 0) (fV 2)) (fA (f2 dIx (fV 1) (fV 2)) fA0))))) (fRet (fC (.bl false))) fNext))
    (fRet (fC (.bl true))))) fNext)
    (fSeq (fIfS (fB (f1 dIsN (fV 1))) (fRet (f1 dIsN (fV 0))) fNext)
    (fSeq (fIfS (fB (f1 (dIsB true) (fV 1))) (fRet (f1 (dIsB true) (fV 0))) fNext)
    (fSeq (fIfS (fB (f1 (dIsB false) (fV 1))) (fRet (f1 (dIsB false) (fV 0))) fNext)
    (fSeq (fIfS (fTr (f1 (dIsi "str") (fV 1))) (fRet (fBv (fAnd (fB (f1 (dIsi "str") (fV 0))) (fB (f2 dEq (fV 0) (fV 1)))))) fNext)
    (fRet (fBv (fAnd (fB (fOn (chk 1 m_law_whole) (fA (fV 0) fA0))) (fB (f2 dEq (fV 0) (fV 1)))))))))))
def r_law_same : Nat → List D → Res D
  | 0 => fun _ => .er
  | n + 1 => runF 3 .sh (F_law_same (r_law_same n))
def m_law_same : List D → Res D := r_law_same 6
theorem okr_law_same {P : Program} {w : World} {K : PySem.W.Frag} {mg : Str → Option Value} {base : Heap} (T : Txt K mg) : ∀ n, Keeps P w K mg base "_law_same" (1 + n) ["value", "due"] 2 .sh (r_law_same n)
  | 0 => keeps_er T.d_law_same
  | n + 1 => by
    have IH := okr_law_same (P := P) (w := w) (base := base) T n
    exact keeps_of T.d_law_same sc_law_same (by decide) fun f cdv A outer s H E hr =>
    (js_cons (js_if (JW.jt (jw_or (jt_tr (je_isi "tuple" T.z_isinstance T.z_tuple (je_var 1))) (jw_or1 (jt_tr (je_isi "list" T.z_isinstance T.z_list (je_var 1)))))) (js_cons (js_if (JW.jt (jw_or (jt_not (jt_tr (je_isi "tuple" T.z_isinstance T.z_tuple (je_var 0)))) (jw_or1 (jt_ne hr (je_len T.z_len (ja_cons (je_var 0) ja_nil)) (je_len T.z_len (ja_cons (je_var 1) ja_nil)))))) (js_one (js_ret je_bl)) js_nil)
    (js_cons (js_for (ji_range1 (ja_cons (je_len T.z_len (ja_cons (je_var 1) ja_nil)) ja_nil) T.z_range) (jg_name 2 sc_law_same.nd) (js_one (js_if (jt_not (jt_tr (je_call IH (hr.mono (Nat.le_refl _)) (takes_of rfl rfl rfl rfl) (ja_cons (je_item (je_var 0) (je_var 2)) (ja_cons (je_item (je_var 1) (je_var 2)) ja_nil))))) (js_one (js_ret je_bl)) js_nil)) (passes_of rfl))
    (js_one (js_ret je_bl)))) js_nil)
    (js_cons (js_if (jt_isN (je_var 1)) (js_one (js_ret (je_isN (je_var 0)))) js_nil)
    (js_cons (js_if (jt_isB (je_var 1)) (js_one (js_ret (je_isB (je_var 0)))) js_nil)
    (js_cons (js_if (jt_isB (je_var 1)) (js_one (js_ret (je_isB (je_var 0)))) js_nil)
    (js_cons (js_if (jt_tr (je_isi "str" T.z_isinstance T.z_str (je_var 1))) (js_one (js_ret (je_and (je_isi "str" T.z_isinstance T.z_str (je_var 0)) (je_last (je_eq hr (je_var 0) (je_var 1)))))) js_nil)
    (js_one (js_ret (je_and (je_call (ok_law_whole T) (hr.mono (Nat.le_trans (show 1 ≤ 1 by decide) (Nat.le_add_right 1 n))) (takes_of rfl rfl rfl rfl) (ja_cons (je_var 0) ja_nil)) (je_last (je_eq hr (je_var 0) (je_var 1)))))))))))
theorem ok_law_same {P : Program} {w : World} {K : PySem.W.Frag} {mg : Str → Option Value} {base : Heap} (T : Txt K mg) : Keeps P w K mg base "_law_same" 7 ["value", "due"] 2 .sh m_law_same := okr_law_same T 6
/-! _law_is_perm -/
theorem sc_law_is_perm : FnScope ["row", "size", "k"] ["row", "size"] (defScope s_law_is_perm) := ⟨rfl, rfl, rfl, by decide +kernel, rfl, by decide +kernel, by decide +kernel⟩
def F_law_is_perm : FS := (fSeq (fIfS (fB (f2 dNe (fOn (on1 dLen) (fA (fV 0) fA0)) (fV 1))) (fRet (fC (.bl false))) fNext)
    (fRet (f2 dEq (fOn (on1 dSorted) (fA (fV 0) fA0)) (fLc [2] (fR1 (fA (fV 1) fA0)) (gN 2) fYes (fV 2)))))
def m_law_is_perm : List D → Res D := runF 3 .sh F_law_is_perm
theorem ok_law_is_perm {P : Program} {w : World} {K : PySem.W.Frag} {mg : Str → Option Value} {base : Heap} (T : Txt K mg) : Keeps P w K mg base "_law_is_perm" 1 ["row", "size"] 2 .sh m_law_is_perm :=
  keeps_of T.d_law_is_perm sc_law_is_perm (by decide) fun f cdv A outer s H E hr =>
    (js_cons (js_if (jt_ne hr (je_len T.z_len (ja_cons (je_var 0) ja_nil)) (je_var 1)) (js_one (js_ret je_bl)) js_nil)
    (js_one (js_ret (je_eq hr (je_share (je_sorted hr T.z_sorted (ja_cons (je_var 0) ja_nil))) (je_share (je_lc sc_law_is_perm [("k", 2)] (ji_range1 (ja_cons (je_var 1) ja_nil) T.z_range) (fun _ _ _ _ _ => (jg_name 2 sc_law_is_perm.nd)) (fun _ _ _ _ _ => jts_nil) (fun _ _ _ _ _ => (je_var 2))))))))
/-! law -/
theorem sc_law : FnScope ["script", "size", "rows", "one", "two", "handed", "back", "k", "turn", "row", "mine", "at", "copy", "told", "right", "other"] ["script"] (defScope s_law) := ⟨rfl, rfl, rfl, by decide +kernel, rfl, by decide +kernel, by decide +kernel⟩
def F_law : FS := (fSeq (fSet 1 (f2 dAdd (fC (.int 1)) (f2 dIx (fOn (chk 2 m_law_digits) (fA (fOn (chk 2 m_law_cell) (fA (fV 0) (fA (fC (.int 0)) fA0))) (fA (fOn gLstD (fA (fC (.int 24)) fA0)) fA0))) (fC (.int 0)))))
    (fSeq (fSet 2 (fLc [7] (fR1 (fA (fC (.int 3)) fA0)) (gN 7) fYes (fOn (chk 2 m_law_day) (fA (fV 1) (fA (fOn (chk 2 m_law_digits) (fA (fOn (chk 2 m_law_cell) (fA (fV 0) (fA (f2 dAdd (fC (.int 1)) (fV 7)) fA0))) (fA (f2 dRep (fOn gLstD (fA (fC (.int 24)) fA0)) (fC (.int 24))) fA0))) fA0)))))
    (fSeq (fSet 3 (f2 dIx (fV 2) (fC (.int 0))))
    (fSeq (fSet 4 (f2 dIx (fV 2) (fC (.int 1))))
    (fSeq (fIfS (fNot (fTr (fOn (chk 2 m_law_same) (fA (fOn (chk 1 m_identity) (fA (fV 1) fA0)) (fA (fLc [7] (fR1 (fA (fV 1) fA0)) (gN 7) fYes (fV 7)) fA0))))) (fRet (fC (.bl false))) fNext)
    (fSeq (fSet 5 (fOn gLstD (fA (fOn (on1 dList) (fA (fV 3) fA0)) (fA (fOn (on1 dList) (fA (fV 4) fA0)) fA0))))
    (fSeq (fIfS (fNot (fTr (fOn (chk 2 m_law_same) (fA (fOn (chk 2 m_composed) (fA (f2 dIx (fV 5) (fC (.int 0))) (fA (f2 dIx (fV 5) (fC (.int 1))) fA0))) (fA (fLc [7] (fR1 (fA (fV 1) fA0)) (gN 7) fYes (f2 dIx (fV 4) (f2 dIx (fV 3) (fV 7)))) fA0))))) (fRet (fC (.bl false))) fNext)
    (fSeq (fIfS (fNot (fTr (fOn (chk 2 m_law_same) (fA (fOn (chk 2 m_composed) (fA (fV 4) (fA (fV 3) fA0))) (fA (fLc [7] (fR1 (fA (fV 1) fA0)) (gN 7) fYes (f2 dIx (fV 3) (f2 dIx (fV 4) (fV 7)))) fA0))))) (fRet (fC (.bl false))) fNext)
    (fSeq (fSet 6 (fLc [7] (fR1 (fA (fV 1) fA0)) (gN 7) fYes (fC .non)))
    (fSeq (fFor (fR1 (fA (fV 1) fA0)) (gN 7) (fSetIx 6 (fV 7) (f2 dIx (fV 3) (fV 7))))
    (fSeq (fIfS (fOr (fNot (fNx (fTr (fOn (chk 2 m_law_same) (fA (fOn (chk 1 m_inverse) (fA (f2 dIx (fV 5) (fC (.int 0))) fA0)) (fA (fV 6) fA0)))))) (fOr (fNot (fNx (fTr (fOn (chk 2 m_law_same) (fA (fOn (chk 1 m_inverse) (fA (fV 3) fA0)) (fA (fV 6) fA0)))))) (fNx (fB (f2 dNe (fV 5) (fOn gLstD (fA (fOn (on1 dList) (fA (fV 3) fA0)) (fA (fOn (on1 dList) (fA (fV 4) fA0)) fA0)))))))) (fRet (fC (.bl false))) fNext)
    (fSeq (fIfS (fOr (fB (f2 dNe (fOn (chk 2 m_composed) (fA (fV 3) (fA (fOn (chk 1 m_inverse) (fA (fV 3) fA0)) fA0))) (fOn (chk 1 m_identity) (fA (fV 1) fA0)))) (fB (f2 dNe (fOn (chk 2 m_composed) (fA (fOn (chk 1 m_inverse) (fA (fV 3) fA0)) (fA (fV 3) fA0))) (fOn (chk 1 m_identity) (fA (fV 1) fA0))))) (fRet (fC (.bl false))) fNext)
    (fSeq (fIfS (fB (f2 dNe (fOn (chk 2 m_composed) (fA (fOn (chk 2 m_composed) (fA (fV 3) (fA (fV 4) fA0))) (fA (f2 dIx (fV 2) (fC (.int 2))) fA0))) (fOn (chk 2 m_composed) (fA (fV 3) (fA (fOn (chk 2 m_composed) (fA (fV 4) (fA (f2 dIx (fV 2) (fC (.int 2))) fA0))) fA0))))) (fRet (fC (.bl false))) fNext)
    (fSeq (fFor (fR1 (fA (fC (.int 4)) fA0)) (gN 8) (fSeq (fSet 9 (fOn (chk 2 m_law_digits) (fA (fOn (chk 2 m_law_cell) (fA (fV 0) (fA (f2 dAdd (fC (.int 4)) (fV 8)) fA0))) (fA (fOn gLstD (fA (fC (.int 6)) (fA (fC (.int 24)) (fA (fC (.int 30)) (fA (fC (.int 24)) fA0))))) fA0))))
    (fSeq (fSet 10 (fOn (on1 dList) (fA (f2 dIx (fV 2) (f2 dMod (fV 8) (fC (.int 3)))) fA0)))
    (fSeq (fSet 11 (f2 dMod (f2 dIx (fV 9) (fC (.int 1))) (fV 1)))
    (fSeq (fIfS (fB (f2 dEq (f2 dIx (fV 9) (fC (.int 0))) (fC (.int 0)))) (fSetIx 10 (f2 dIx (fV 10) (f2 dMod (f2 dIx (fV 9) (fC (.int 3))) (fV 1))) (fV 11)) fNext)
    (fSeq (fIfS (fB (f2 dEq (f2 dIx (fV 9) (fC (.int 0))) (fC (.int 1)))) (fSetIx 10 (f2 dSub (f2 dIx (fV 9) (fC (.int 2))) (fC (.int 3))) (fV 11)) fNext)
    (fSeq (fIfS (fB (f2 dEq (f2 dIx (fV 9) (fC (.int 0))) (fC (.int 2)))) (fSet 10 (f2 dAddL (fV 10) (fOn gLstD (fA (f2 dIx (fV 9) (fC (.int 2))) fA0)))) fNext)
    (fSeq (fIfS (fB (f2 dEq (f2 dIx (fV 9) (fC (.int 0))) (fC (.int 3)))) (fSet 10 (f2 dAddL (fCut dCut (fV 10) fNoI (fSoI (fV 11))) (fCut dCut (fV 10) (fSoI (f2 dAdd (fV 11) (fC (.int 1)))) fNoI))) fNext)
    (fSeq (fIfS (fB (f2 dEq (f2 dIx (fV 9) (fC (.int 0))) (fC (.int 4)))) (fSetIx 10 (f2 dSub (f2 dIx (fV 10) (fV 11)) (fV 1)) (fV 11)) fNext)
    (fSeq (fSet 12 (fOn (on1 dList) (fA (fV 10) fA0)))
    (fSeq (fSet 13 (fOn (chk 2 m_is_perm) (fA (fV 10) (fA (fV 1) fA0))))
    (fSeq (fSet 14 (fOn (chk 2 m_law_is_perm) (fA (fV 12) (fA (fV 1) fA0))))
    (fSeq (fIfS (fOr (fAnd (fTr (fV 14)) (fB (f1 (dNot1 (dIsB true)) (fV 13)))) (fOr (fAnd (fNot (fTr (fV 14))) (fB (f1 (dNot1 (dIsB false)) (fV 13)))) (fB (f2 dNe (fV 10) (fV 12))))) (fRet (fC (.bl false))) fNext)
    (fSeq (fSet 15 (f2 dAdd (fC (.int 1)) (f2 dMod (f2 dAdd (fV 1) (f2 dMod (f2 dIx (fV 9) (fC (.int 2))) (fC (.int 23)))) (fC (.int 24)))))
    (fIfS (fOr (fB (f1 (dNot1 (dIsB true)) (fOn (chk 2 m_is_perm) (fA (f2 dIx (fV 2) (f2 dMod (fV 8) (fC (.int 3)))) (fA (fV 1) fA0))))) (fOr (fB (f1 (dNot1 (dIsB false)) (fOn (chk 2 m_is_perm) (fA (fOn (on1 dList) (fA (f2 dIx (fV 2) (f2 dMod (fV 8) (fC (.int 3)))) fA0)) (fA (fV 15) fA0))))) (fB (f1 (dNot1 (dIsB false)) (fOn (chk 2 m_is_perm) (fA (fOn gTupD fA0) (fA (fV 15) fA0))))))) (fRet (fC (.bl false))) fNext)))))))))))))))
    (fRet (fC (.bl true)))))))))))))))))
def m_law : List D → Res D := runF 16 .sh F_law
theorem okf_law {P : Program} {w : World} {K : PySem.W.Frag} {mg : Str → Option Value} {base : Heap} (T : Txt K mg) {f : Addr} {fd : FuncData} (Fn : Fun K "law" "law" s_law f fd) : FnOk P w K mg base (L2.CX P w) 8 f fd ["script"] (spD K mg 1 .sh m_law) :=
  fn_ok (m' := msh 16) Fn sc_law (by decide) fun cdv A outer s H E hr =>
    (js_cons (js_set 1 (je_add je_int (je_item (je_share (je_call (ok_law_digits T) (hr.mono (by decide)) (takes_of rfl rfl rfl rfl) (ja_cons (je_call (ok_law_cell T) (hr.mono (by decide)) (takes_of rfl rfl rfl rfl) (ja_cons (je_var 0) (ja_cons je_int ja_nil))) (ja_cons (je_share (je_lst (md := .ow) (ja_cons je_int ja_nil))) ja_nil)))) je_int)) sc_law.nd)
    (js_cons (js_setLc 2 sc_law [("k", 7)] (ji_range1 (ja_cons je_int ja_nil) T.z_range) (fun _ _ _ _ _ => (jg_name 7 sc_law.nd)) (fun _ _ _ _ _ => jts_nil) (fun _ _ _ _ _ => (je_call (ok_law_day T) (hr.mono (by decide)) takesF (ja_cons (je_var 1) (ja_cons (je_share (je_call (ok_law_digits T) (hr.mono (by decide)) takesF (ja_cons (je_call (ok_law_cell T) (hr.mono (by decide)) takesF (ja_cons (je_var 0) (ja_cons (je_add je_int (je_var 7)) ja_nil))) (ja_cons (je_share (je_rep (je_share (je_lst (md := .ow) (ja_cons je_int ja_nil))) je_int)) ja_nil)))) ja_nil)))))
    (js_cons (js_set 3 (je_itemO 2 je_int) sc_law.nd)
    (js_cons (js_set 4 (je_itemO 2 je_int) sc_law.nd)
    (js_cons (js_if (jt_not (jt_tr (je_call (ok_law_same T) (hr.mono (by decide)) (takes_of rfl rfl rfl rfl) (ja_cons (je_call (ok_identity T) (hr.mono (by decide)) (takes_of rfl rfl rfl rfl) (ja_cons (je_var 1) ja_nil)) (ja_cons (je_share (je_lc sc_law [("k", 7)] (ji_range1 (ja_cons (je_var 1) ja_nil) T.z_range) (fun _ _ _ _ _ => (jg_name 7 sc_law.nd)) (fun _ _ _ _ _ => jts_nil) (fun _ _ _ _ _ => (je_var 7)))) ja_nil))))) (js_one (js_ret je_bl)) js_nil)
    (js_cons (js_set 5 (je_lst (md := .ow) (ja_cons (je_share ((je_list (md := .ow)) T.z_list (ja_cons (je_var 3) ja_nil))) (ja_cons (je_share ((je_list (md := .ow)) T.z_list (ja_cons (je_var 4) ja_nil))) ja_nil))) sc_law.nd)
    (js_cons (js_if (jt_not (jt_tr (je_call (ok_law_same T) (hr.mono (by decide)) (takes_of rfl rfl rfl rfl) (ja_cons (je_call (ok_composed T) (hr.mono (by decide)) (takes_of rfl rfl rfl rfl) (ja_cons (je_itemO 5 je_int) (ja_cons (je_itemO 5 je_int) ja_nil))) (ja_cons (je_share (je_lc sc_law [("k", 7)] (ji_range1 (ja_cons (je_var 1) ja_nil) T.z_range) (fun _ _ _ _ _ => (jg_name 7 sc_law.nd)) (fun _ _ _ _ _ => jts_nil) (fun _ _ _ _ _ => (je_item (je_var 4) (je_item (je_var 3) (je_var 7)))))) ja_nil))))) (js_one (js_ret je_bl)) js_nil)
    (js_cons (js_if (jt_not (jt_tr (je_call (ok_law_same T) (hr.mono (by decide)) (takes_of rfl rfl rfl rfl) (ja_cons (je_call (ok_composed T) (hr.mono (by decide)) (takes_of rfl rfl rfl rfl) (ja_cons (je_var 4) (ja_cons (je_var 3) ja_nil))) (ja_cons (je_share (je_lc sc_law [("k", 7)] (ji_range1 (ja_cons (je_var 1) ja_nil) T.z_range) (fun _ _ _ _ _ => (jg_name 7 sc_law.nd)) (fun _ _ _ _ _ => jts_nil) (fun _ _ _ _ _ => (je_item (je_var 3) (je_item (je_var 4) (je_var 7)))))) ja_nil))))) (js_one (js_ret je_bl)) js_nil)
    (js_cons (js_setLc 6 sc_law [("k", 7)] (ji_range1 (ja_cons (je_var 1) ja_nil) T.z_range) (fun _ _ _ _ _ => (jg_name 7 sc_law.nd)) (fun _ _ _ _ _ => jts_nil) (fun _ _ _ _ _ => je_non))
    (js_cons (js_for (ji_range1 (ja_cons (je_var 1) ja_nil) T.z_range) (jg_name 7 sc_law.nd) (js_one (js_setix 6 (je_var 7) (je_item (je_var 3) (je_var 7)))) (passes_of rfl))
    (js_cons (js_if (JW.jt (jw_or (jt_not (jt_borrow (m1 := [.sh, .sh, .sh, .sh, .sh, .sh, .sh, .sh, .sh, .sh, .sh, .sh, .sh, .sh, .sh, .sh]) (jt_tr (je_call (ok_law_same T) (hr.mono (by decide)) (takes_of rfl rfl rfl rfl) (ja_cons (je_call (ok_inverse T) (hr.mono (by decide)) (takes_of rfl rfl rfl rfl) (ja_cons (je_item (je_var 5) je_int) ja_nil)) (ja_cons (je_var 6) ja_nil)))))) (jw_or (jt_not (jt_borrow (m1 := [.sh, .sh, .sh, .sh, .sh, .sh, .sh, .sh, .sh, .sh, .sh, .sh, .sh, .sh, .sh, .sh]) (jt_tr (je_call (ok_law_same T) (hr.mono (by decide)) (takes_of rfl rfl rfl rfl) (ja_cons (je_call (ok_inverse T) (hr.mono (by decide)) (takes_of rfl rfl rfl rfl) (ja_cons (je_var 3) ja_nil)) (ja_cons (je_var 6) ja_nil)))))) (jw_or1 (jt_borrow (m1 := [.sh, .sh, .sh, .sh, .sh, .sh, .sh, .sh, .sh, .sh, .sh, .sh, .sh, .sh, .sh, .sh]) (jt_ne hr (je_var 5) (je_share (je_lst (md := .ow) (ja_cons (je_share ((je_list (md := .ow)) T.z_list (ja_cons (je_var 3) ja_nil))) (ja_cons (je_share ((je_list (md := .ow)) T.z_list (ja_cons (je_var 4) ja_nil))) ja_nil)))))))))) (js_one (js_ret je_bl)) js_nil)
    (js_cons (js_if (JW.jt (jw_or (jt_ne hr (je_call (ok_composed T) (hr.mono (by decide)) (takes_of rfl rfl rfl rfl) (ja_cons (je_var 3) (ja_cons (je_call (ok_inverse T) (hr.mono (by decide)) (takes_of rfl rfl rfl rfl) (ja_cons (je_var 3) ja_nil)) ja_nil))) (je_call (ok_identity T) (hr.mono (by decide)) (takes_of rfl rfl rfl rfl) (ja_cons (je_var 1) ja_nil))) (jw_or1 (jt_ne hr (je_call (ok_composed T) (hr.mono (by decide)) (takes_of rfl rfl rfl rfl) (ja_cons (je_call (ok_inverse T) (hr.mono (by decide)) (takes_of rfl rfl rfl rfl) (ja_cons (je_var 3) ja_nil)) (ja_cons (je_var 3) ja_nil))) (je_call (ok_identity T) (hr.mono (by decide)) (takes_of rfl rfl rfl rfl) (ja_cons (je_var 1) ja_nil)))))) (js_one (js_ret je_bl)) js_nil)
    (js_cons (js_if (jt_ne hr (je_call (ok_composed T) (hr.mono (by decide)) (takes_of rfl rfl rfl rfl) (ja_cons (je_call (ok_composed T) (hr.mono (by decide)) (takes_of rfl rfl rfl rfl) (ja_cons (je_var 3) (ja_cons (je_var 4) ja_nil))) (ja_cons (je_itemO 2 je_int) ja_nil))) (je_call (ok_composed T) (hr.mono (by decide)) (takes_of rfl rfl rfl rfl) (ja_cons (je_var 3) (ja_cons (je_call (ok_composed T) (hr.mono (by decide)) (takes_of rfl rfl rfl rfl) (ja_cons (je_var 4) (ja_cons (je_itemO 2 je_int) ja_nil))) ja_nil)))) (js_one (js_ret je_bl)) js_nil)
    (js_cons (js_for (ji_range1 (ja_cons je_int ja_nil) T.z_range) (jg_name 8 sc_law.nd) (js_end (m1 := [.sh, .sh, .ow, .sh, .sh, .ow, .ow, .sh, .sh, .ow, .sh, .sh, .sh, .sh, .sh, .sh]) (m2 := [.sh, .sh, .ow, .sh, .sh, .ow, .ow, .sh, .sh, .sh, .sh, .sh, .sh, .sh, .sh, .sh]) (js_cons (js_set 9 (je_call (ok_law_digits T) (hr.mono (by decide)) (takes_of rfl rfl rfl rfl) (ja_cons (je_call (ok_law_cell T) (hr.mono (by decide)) (takes_of rfl rfl rfl rfl) (ja_cons (je_var 0) (ja_cons (je_add je_int (je_var 8)) ja_nil))) (ja_cons (je_share (je_lst (md := .ow) (ja_cons je_int (ja_cons je_int (ja_cons je_int (ja_cons je_int ja_nil)))))) ja_nil))) sc_law.nd)
    (js_cons (js_set 10 ((je_list (md := .ow)) T.z_list (ja_cons (je_itemO 2 (je_mod (je_var 8) je_int)) ja_nil)) sc_law.nd)
    (js_cons (js_set 11 (je_mod (je_itemO 9 je_int) (je_var 1)) sc_law.nd)
    (js_cons (js_if (jt_eq hr (je_itemO 9 je_int) je_int) (js_one (js_setix 10 (je_itemO 10 (je_mod (je_itemO 9 je_int) (je_var 1))) (je_var 11))) js_nil)
    (js_cons (js_if (jt_eq hr (je_itemO 9 je_int) je_int) (js_one (js_setix 10 (je_sub (je_itemO 9 je_int) je_int) (je_var 11))) js_nil)
    (js_cons (js_if (jt_eq hr (je_itemO 9 je_int) je_int) (js_one (js_weak1 (m := [.sh, .sh, .ow, .sh, .sh, .ow, .ow, .sh, .sh, .ow, .ow, .sh, .sh, .sh, .sh, .sh]) (m1 := [.sh, .sh, .ow, .sh, .sh, .ow, .ow, .sh, .sh, .ow, .sh, .sh, .sh, .sh, .sh, .sh]) (js_set 10 (je_addL (je_var 10) (je_share (je_lst (md := .ow) (ja_cons (je_itemO 9 je_int) ja_nil)))) sc_law.nd))) js_nil)
    (js_cons (js_if (jt_eq hr (je_itemO 9 je_int) je_int) (js_one (js_weak1 (m := [.sh, .sh, .ow, .sh, .sh, .ow, .ow, .sh, .sh, .ow, .ow, .sh, .sh, .sh, .sh, .sh]) (m1 := [.sh, .sh, .ow, .sh, .sh, .ow, .ow, .sh, .sh, .ow, .sh, .sh, .sh, .sh, .sh, .sh]) (js_set 10 (je_addL (je_cut (je_var 10) jo_none (jo_some (je_var 11))) (je_cut (je_var 10) (jo_some (je_add (je_var 11) je_int)) jo_none)) sc_law.nd))) js_nil)
    (js_cons (js_if (jt_eq hr (je_itemO 9 je_int) je_int) (js_one (js_setix 10 (je_sub (je_itemO 10 (je_var 11)) (je_var 1)) (je_var 11))) js_nil)
    (js_cons (js_weak1 (m := [.sh, .sh, .ow, .sh, .sh, .ow, .ow, .sh, .sh, .ow, .ow, .sh, .sh, .sh, .sh, .sh]) (m1 := [.sh, .sh, .ow, .sh, .sh, .ow, .ow, .sh, .sh, .ow, .sh, .sh, .sh, .sh, .sh, .sh]) (js_set 12 ((je_list (md := .ow)) T.z_list (ja_cons (je_var 10) ja_nil)) sc_law.nd))
    (js_cons (js_set 13 (je_call (ok_is_perm T) (hr.mono (by decide)) (takes_of rfl rfl rfl rfl) (ja_cons (je_var 10) (ja_cons (je_var 1) ja_nil))) sc_law.nd)
    (js_cons (js_weak1 (m := [.sh, .sh, .ow, .sh, .sh, .ow, .ow, .sh, .sh, .ow, .sh, .sh, .ow, .sh, .sh, .sh]) (m1 := [.sh, .sh, .ow, .sh, .sh, .ow, .ow, .sh, .sh, .ow, .sh, .sh, .sh, .sh, .sh, .sh]) (js_set 14 (je_call (ok_law_is_perm T) (hr.mono (by decide)) (takes_of rfl rfl rfl rfl) (ja_cons (je_var 12) (ja_cons (je_var 1) ja_nil))) sc_law.nd))
    (js_cons (js_if (JW.jt (jw_or (JW.jt (jw_and (jt_tr (je_var 14)) (jw_and1 (jt_notB (je_var 13))))) (jw_or (JW.jt (jw_and (jt_not (jt_tr (je_var 14))) (jw_and1 (jt_notB (je_var 13))))) (jw_or1 (jt_ne hr (je_var 10) (je_var 12)))))) (js_one (js_ret je_bl)) js_nil)
    (js_cons (js_set 15 (je_add je_int (je_mod (je_add (je_var 1) (je_mod (je_itemO 9 je_int) je_int)) je_int)) sc_law.nd)
    (js_one (js_if (JW.jt (jw_or (jt_notB (je_call (ok_is_perm T) (hr.mono (by decide)) (takes_of rfl rfl rfl rfl) (ja_cons (je_itemO 2 (je_mod (je_var 8) je_int)) (ja_cons (je_var 1) ja_nil)))) (jw_or (jt_notB (je_call (ok_is_perm T) (hr.mono (by decide)) (takes_of rfl rfl rfl rfl) (ja_cons (je_share ((je_list (md := .ow)) T.z_list (ja_cons (je_itemO 2 (je_mod (je_var 8) je_int)) ja_nil))) (ja_cons (je_var 15) ja_nil)))) (jw_or1 (jt_notB (je_call (ok_is_perm T) (hr.mono (by decide)) (takes_of rfl rfl rfl rfl) (ja_cons (je_tup ja_nil) (ja_cons (je_var 15) ja_nil)))))))) (js_one (js_ret je_bl)) js_nil)))))))))))))))) (passes_of rfl))
    (js_one (js_ret je_bl))))))))))))))))
end Kx
namespace Kx
open PySem PySem.Spec L2 Da
theorem fz_int {k : Nat} {i : Int} : r_frozen (k + 1) [.int i] = .ok (.int i) := by
  apply runF_rt
  simp [F_frozen]
theorem fz_lst {k : Nat} {ns : List Int} (hz : ns.length ≤ 1000000) : r_frozen (k + 2) [.lst (ns.map D.int)] = .ok (.tup (ns.map D.int)) := by
  apply runF_rt
  have h := fLc_map (vs := [1]) (it := fL (fV 0)) (i := 1) (f := fOn (chk 1 (r_frozen (k + 1))) (fA (fV 1) fA0)) (ρ := [some (.lst (ns.map D.int)), none]) (k := D.int) (h := D.int) (ys := ns) (by simp) hz (fun y _ => by simp [fz_int])
  simp [F_frozen, h]
theorem fz_tup {k : Nat} {ns : List Int} (hz : ns.length ≤ 1000000) : r_frozen (k + 2) [.tup (ns.map D.int)] = .ok (.tup (ns.map D.int)) := by
  apply runF_rt
  have h := fLc_map (vs := [1]) (it := fL (fV 0)) (i := 1) (f := fOn (chk 1 (r_frozen (k + 1))) (fA (fV 1) fA0)) (ρ := [some (.tup (ns.map D.int)), none]) (k := D.int) (h := D.int) (ys := ns) (by simp) hz (fun y _ => by simp [fz_int])
  simp [F_frozen, h]
theorem isnum_int {i : Int} : m_is_number [.int i] = .ok (.bl true) := by
  apply runF_rt
  simp [F_is_number]
theorem all_true {ns : List Int} : dAll (.lst (ns.map fun _ => D.bl true)) = .ok (.bl true) := by
  have e : (ns.map fun _ => D.bl true) = (ns.map fun _ => true).map D.bl := by rw [List.map_map]; rfl
  rw [e]
  show (match boolsD ((ns.map fun _ => true).map D.bl) with
    | some bs => Res.ok (D.bl (bs.all id))
    | none => .er) = _
  rw [boolsD_map]
  simp
def isP (ns : List Int) (n : Nat) : Bool := decide (ns.length = n) && decide (ns.mergeSort leI = upto n)
theorem isperm_ok {v : D} {ns : List Int} {n : Nat} (hv : v = .lst (ns.map D.int) ∨ v = .tup (ns.map D.int)) (hz : ns.length ≤ 1000000) (hn : n ≤ 1000000) : m_is_perm [v, .int n] = .ok (.bl (isP ns n)) := by
  have hf : m_frozen [v] = .ok (.tup (ns.map D.int)) := by
    rcases hv with rfl | rfl
    · exact fz_lst hz
    · exact fz_tup hz
  apply runF_rt
  have h := fLc_map (vs := [2]) (it := fL (fV 0)) (i := 2) (f := fOn (chk 1 m_is_number) (fA (fV 2) fA0)) (ρ := [some (.tup (ns.map D.int)), some (.int n), none]) (k := D.int) (h := fun _ => D.bl true) (ys := ns) (by simp) hz (fun y _ => by simp [isnum_int])
  have hr : fListR1 (fV 1) [some (.tup (ns.map D.int)), some (.int n), none] = .ok (.lst ((upto n).map D.int)) := by
    rw [fListR1_ap (j := (n : Int)) (by simp) (by omega) (by omega), ← upto_nat]
    rfl
  by_cases hl : ns.length = n
  · have q : ((ns.length : Int) == (n : Int)) = true := by simp [hl]
    simp [F_is_perm, hf, q, h, all_true, dSorted_tup, hr, dEq, eqD_lst, isP, hl]
  · have q : ((ns.length : Int) == (n : Int)) = false := by simp; omega
    simp [F_is_perm, hf, q, isP, hl]
theorem lawisperm_ok {ns : List Int} {n : Nat} (hz : ns.length ≤ 1000000) (hn : n ≤ 1000000) : m_law_is_perm [.lst (ns.map D.int), .int n] = .ok (.bl (isP ns n)) := by
  apply runF_rt
  have h := fLc_map (vs := [2]) (it := fR1 (fA (fV 1) fA0)) (i := 2) (f := fV 2) (ρ := [some (.lst (ns.map D.int)), some (.int n), none]) (k := nat) (h := nat) (ys := List.range n) (by rw [fR1_ok (n := n) (by simp) hn, rng_zero]) (by rw [List.length_range]; exact hn) (fun y _ => by simp)
  rw [upto_nat] at h
  by_cases hl : ns.length = n
  · have q : ((ns.length : Int) == (n : Int)) = true := by simp [hl]
    simp [-fR1_ap, F_law_is_perm, q, h, dSorted_lst, dEq, eqD_lst, isP, hl]
  · have q : ((ns.length : Int) == (n : Int)) = false := by simp; omega
    simp [F_law_is_perm, q, isP, hl]
theorem identity_ok {n : Nat} (hn : n ≤ 1000000) : m_identity [.int n] = .ok (.tup ((upto n).map D.int)) := by
  apply runF_rt
  have h := fTupleR1_ap (f := fV 0) (ρ := [some (.int n)]) (j := n) (by simp) (by omega) (by omega)
  simp [F_identity, h, ← upto_nat]
/-! law_same: the same values -/
theorem same_int {k : Nat} {i : Int} : r_law_same (k + 1) [.int i, .int i] = .ok (.bl true) := by
  apply runF_rt
  simp [F_law_same, law_whole_int, dIsN, dIsB]
theorem same_seq {v : D} {k : Nat} {ns : List Int} (hv : v = .lst (ns.map D.int) ∨ v = .tup (ns.map D.int)) (hz : ns.length ≤ 1000000) : r_law_same (k + 2) [.tup (ns.map D.int), v] = .ok (.bl true) := by
  apply runF_rt
  have key : (fun r => ∃ x, r = Res.ok (Fl.nx [some (.tup (ns.map D.int)), some v, x]))
      (fFor (fR1 (fA (fOn (on1 dLen) (fA (fV 1) fA0)) fA0)) (gN 2) (fIfS (fNot (fTr (fOn (chk 2 (r_law_same (k + 1))) (fA (f2 dIx (fV 0) (fV 2)) (fA (f2 dIx (fV 1) (fV 2)) fA0))))) (fRet (fC (.bl false))) fNext) [some (.tup (ns.map D.int)), some v, none]) := by
    rw [fFor_ap (xs := rng 0 ns.length) (fR1_ok (by rcases hv with rfl | rfl <;> simp) hz)]
    refine for_rng (Q := fun r => ∃ x, r = Res.ok (Fl.nx [some (.tup (ns.map D.int)), some v, x])) (fun _ ρ => ∃ x, ρ = [some (.tup (ns.map D.int)), some v, x]) ⟨none, rfl⟩ ?_ (fun ρ ⟨x, e⟩ => ⟨x, by rw [e]⟩)
    rintro i ρ hi ⟨x, rfl⟩
    refine ⟨_, rfl, ?_⟩
    have a := atI_map (f := D.int) (xs := ns) (j := i) hi
    rcases hv with rfl | rfl <;> simp [dIx_tup a, dIx_lst a, same_int]
  obtain ⟨x, e⟩ := key
  rcases hv with rfl | rfl <;> simp [-fR1_ap, F_law_same, e]
theorem perm_len {p : List Int} {n : Nat} (h : p.Perm (upto n)) : p.length = n := by rw [h.length_eq, upto_length]
theorem perm_mem {p : List Int} {n : Nat} {x : Int} (h : p.Perm (upto n)) : x ∈ p ↔ 0 ≤ x ∧ x < n := by rw [h.mem_iff, mem_upto]
theorem perm_nd {p : List Int} {n : Nat} (h : p.Perm (upto n)) : p.Nodup := h.nodup_iff.mpr upto_nodup
theorem ixN_ok {n : Nat} {z : Int} (h0 : 0 ≤ z) (h1 : z < n) : ixN n z = some z.toNat := by
  unfold ixN
  rw [if_pos h0, if_pos h1]
theorem erase_map {L : List Int} {k : Nat} : (L.map D.int).eraseIdx k = (L.eraseIdx k).map D.int := by
  rw [List.eraseIdx_eq_take_drop_succ, List.eraseIdx_eq_take_drop_succ, List.map_append, List.map_take, List.map_drop]
theorem take_out {L : List Int} {k : Nat} (hk : k < L.length) : (L[k] :: L.eraseIdx k).Perm L := by
  rw [List.eraseIdx_eq_take_drop_succ]
  have h := (List.perm_middle (a := L[k]) (l₁ := L.take k) (l₂ := L.drop (k + 1))).symm
  refine h.trans (List.Perm.of_eq ?_)
  rw [← List.drop_eq_getElem_cons hk, List.take_append_drop]
theorem fPop_ok {i : Nat} {f : Da.Env → Res D} {ρ : Da.Env} {L : List Int} {z : Int} (h1 : ρ[i]? = some (some (.lst (L.map D.int)))) (h2 : f ρ = .ok (.int z)) (h0 : 0 ≤ z) (hz : z < L.length) (hs : L.length ≤ 1000000) :
    fPop i f ρ = .ok (.int (L[z.toNat]'(by omega)), ρ.set i (some (.lst ((L.eraseIdx z.toNat).map D.int)))) := by
  unfold fPop
  rw [h1, h2]
  have e : ixN (L.map D.int).length z = some z.toNat := ixN_ok h0 (by rw [List.length_map]; exact hz)
  have e2 : (L.map D.int)[z.toNat]? = some (.int (L[z.toNat]'(by omega))) := by
    rw [List.getElem?_map, List.getElem?_eq_getElem (by omega)]
    rfl
  simp only [e, e2, szOk_yes (show (L.map D.int).length ≤ 1000000 by rw [List.length_map]; exact hs), if_true, erase_map]
theorem day_ok {n : Nat} {r : List Int} (hn : n ≤ 1000000) (hr : n ≤ r.length) (h0 : ∀ x ∈ r, 0 ≤ x) : ∃ p : List Int, m_law_day [.int n, .lst (r.map D.int)] = .ok (.tup (p.map D.int)) ∧ p.Perm (upto n) := by
  have h := fLc_map (vs := [4]) (it := fR1 (fA (fV 0) fA0)) (i := 4) (f := fV 4) (ρ := [some (.int n), some (.lst (r.map D.int)), none, none, none]) (k := nat) (h := nat) (ys := List.range n) (by rw [fR1_ok (n := n) (by simp) hn, rng_zero]) (by rw [List.length_range]; exact hn) (fun y _ => by simp)
  rw [upto_nat] at h
  have key : (fun o => ∃ (p : List Int) (l x : Option D), o = Res.ok (Fl.nx [some (.int n), some (.lst (r.map D.int)), l, some (.lst (p.map D.int)), x]) ∧ p.Perm (upto n))
      (fFor (fR1 (fA (fV 0) fA0)) (gN 4) (fAppX 3 (fPop 2 (f2 dMod (fOn (on1 dInt) (fA (f2 dIx (fV 1) (fV 4)) fA0)) (fSc (fOn (on1 dLen) (fA (fV 2) fA0)))))) [some (.int n), some (.lst (r.map D.int)), some (.lst ((upto n).map D.int)), some (.lst []), none]) := by
    rw [fFor_ap (xs := rng 0 n) (fR1_ok (by simp) hn)]
    refine for_rng (Q := fun o => ∃ (p : List Int) (l x : Option D), o = Res.ok (Fl.nx [some (.int n), some (.lst (r.map D.int)), l, some (.lst (p.map D.int)), x]) ∧ p.Perm (upto n))
      (fun i ρ => ∃ (L d : List Int) (x : Option D), ρ = [some (.int n), some (.lst (r.map D.int)), some (.lst (L.map D.int)), some (.lst (d.map D.int)), x] ∧ (d ++ L).Perm (upto n) ∧ d.length = i) ⟨upto n, [], none, rfl, List.Perm.refl _, rfl⟩ ?_ ?_
    · rintro i ρ hi ⟨L, d, x, rfl, hp, hd⟩
      have hl := hp.length_eq
      rw [List.length_append, upto_length] at hl
      have a := atI_map (f := D.int) (xs := r) (j := i) (by omega)
      have hri : 0 ≤ r[i]'(by omega) := h0 _ (List.getElem_mem _)
      refine ⟨_, rfl, ?_⟩
      have hz : 0 ≤ r[i]'(by omega) % (L.length : Int) ∧ r[i]'(by omega) % (L.length : Int) < L.length := ⟨Int.emod_nonneg _ (by omega), Int.emod_lt_of_pos _ (by omega)⟩
      have q := fPop_ok (i := 2) (f := f2 dMod (fOn (on1 dInt) (fA (f2 dIx (fV 1) (fV 4)) fA0)) (fSc (fOn (on1 dLen) (fA (fV 2) fA0)))) (ρ := [some (.int n), some (.lst (r.map D.int)), some (.lst (L.map D.int)), some (.lst (d.map D.int)), some (.int (0 + (i : Int)))]) (L := L) (z := r[i]'(by omega) % (L.length : Int)) rfl
        (by
          have e : fSc (fOn (on1 dLen) (fA (fV 2) fA0)) [some (.int n), some (.lst (r.map D.int)), some (.lst (L.map D.int)), some (.lst (d.map D.int)), some (.int (0 + (i : Int)))] = .ok (.int L.length) := fSc_int (by simp)
          simp [e, dIx_lst a, dMod_pos (show (0 : Int) < L.length by omega)]) hz.1 hz.2 (by omega)
      rw [Int.zero_add] at q ⊢
      have hs : szOk (d.length + 1) = true := szOk_yes (by omega)
      have e3 : fAppX 3 (fPop 2 (f2 dMod (fOn (on1 dInt) (fA (f2 dIx (fV 1) (fV 4)) fA0)) (fSc (fOn (on1 dLen) (fA (fV 2) fA0))))) [some (.int n), some (.lst (r.map D.int)), some (.lst (L.map D.int)), some (.lst (d.map D.int)), some (.int (i : Int))] = .ok (.nx [some (.int n), some (.lst (r.map D.int)), some (.lst ((L.eraseIdx (r[i]'(by omega) % (L.length : Int)).toNat).map D.int)), some (.lst ((d ++ [L[(r[i]'(by omega) % (L.length : Int)).toNat]'(by omega)]).map D.int)), some (.int (i : Int))]) := by
        simp [fAppX, q, hs]
      have e := take_out (L := L) (k := (r[i]'(by omega) % (L.length : Int)).toNat) (by omega)
      show Da.Turn _ _ (fAppX 3 _ [some (.int n), some (.lst (r.map D.int)), some (.lst (L.map D.int)), some (.lst (d.map D.int)), some (.int (i : Int))])
      rw [e3]
      refine ⟨_, _, _, rfl, ?_, by simp; omega⟩
      rw [List.append_assoc]
      exact (List.Perm.append_left d e).trans hp
    · rintro ρ ⟨L, d, x, rfl, hp, hd⟩
      have hl := hp.length_eq
      rw [List.length_append, upto_length] at hl
      have : L = [] := List.eq_nil_of_length_eq_zero (by omega)
      subst this
      rw [List.append_nil] at hp
      exact ⟨d, _, x, rfl, hp⟩
  obtain ⟨p, l, x, e, hp⟩ := key
  refine ⟨p, runF_rt ?_, hp⟩
  simp [-fR1_ap, F_law_day, h, e]
/-! composed, inverse -/
def cmp (p q : List Int) : List Int := p.map fun x => q.getD x.toNat 0
theorem ix_seq {b : D} {q : List Int} {x : Int} (hb : b = .lst (q.map D.int) ∨ b = .tup (q.map D.int)) (h0 : 0 ≤ x) (h1 : x < q.length) : dIx b (.int x) = .ok (.int (q.getD x.toNat 0)) := by
  have a := atI_map (f := D.int) (xs := q) (j := x.toNat) (by omega)
  rw [show ((x.toNat : Nat) : Int) = x by omega] at a
  have e : q[x.toNat]'(by omega) = q.getD x.toNat 0 := by rw [List.getD_eq_getElem?_getD, List.getElem?_eq_getElem (by omega)]; rfl
  rw [e] at a
  rcases hb with rfl | rfl
  · exact dIx_lst a
  · exact dIx_tup a
theorem seq_walk {a : D} {p : List Int} (ha : a = .lst (p.map D.int) ∨ a = .tup (p.map D.int)) : asL a = .ok (p.map D.int) := by rcases ha with rfl | rfl <;> rfl
theorem composed_ok {a b : D} {p q : List Int} (ha : a = .lst (p.map D.int) ∨ a = .tup (p.map D.int)) (hb : b = .lst (q.map D.int) ∨ b = .tup (q.map D.int)) (hz : p.length ≤ 1000000) (hp : ∀ x ∈ p, 0 ≤ x ∧ x < q.length) : m_composed [a, b] = .ok (.tup ((cmp p q).map D.int)) := by
  apply runF_rt
  have h := fLc_map (vs := [2]) (it := fL (fV 0)) (i := 2) (f := f2 dIx (fV 1) (fV 2)) (ρ := [some a, some b, none]) (k := D.int) (h := fun x => D.int (q.getD x.toNat 0)) (ys := p) (by simp [seq_walk ha]) hz (fun y hy => by simp [ix_seq hb (hp y hy).1 (hp y hy).2])
  simp [F_composed, h, cmp]
def inv (p : List Int) (n : Nat) : List Int := (List.range n).map fun (j : Nat) => ((p.idxOf (j : Int) : Nat) : Int)
theorem inv_at {p : List Int} {n j : Nat} (hj : j < n) : (inv p n)[j]? = some ((p.idxOf (j : Int) : Nat) : Int) := by unfold inv; rw [List.getElem?_map, List.getElem?_range hj]; rfl
theorem idx_at {p : List Int} (nd : p.Nodup) {k : Nat} (hk : k < p.length) : p.idxOf p[k] = k := List.Nodup.idxOf_getElem nd k hk
/-- a list filled by p's places is p's inverse -/
theorem fill_inv {p : List Int} {n : Nat} (hp : p.Perm (upto n)) {b : List D} (hl : b.length = n) (hb : ∀ (k : Nat) (x : Int), p[k]? = some x → b[x.toNat]? = some (nat k)) : b = (inv p n).map D.int := by
  refine List.ext_getElem? fun j => ?_
  rw [List.getElem?_map]
  by_cases hj : j < n
  · rw [inv_at hj]
    have hm : (j : Int) ∈ p := (perm_mem hp).mpr ⟨by omega, by omega⟩
    have hk : p.idxOf (j : Int) < p.length := List.idxOf_lt_length_of_mem hm
    have := hb (p.idxOf (j : Int)) (j : Int) (by rw [List.getElem?_eq_getElem hk, List.getElem_idxOf hk])
    rw [show ((j : Int)).toNat = j by omega] at this
    exact this
  · rw [List.getElem?_eq_none (by omega), List.getElem?_eq_none (by unfold inv; rw [List.length_map, List.length_range]; omega)]
    rfl
theorem inv_len {p : List Int} {n : Nat} : (inv p n).length = n := by unfold inv; rw [List.length_map, List.length_range]
theorem getD_at {q : List Int} {i : Nat} {x : Int} (h : q[i]? = some x) : q.getD i 0 = x := by rw [List.getD_eq_getElem?_getD, h]; rfl
theorem cmp_inv {p : List Int} {n : Nat} (hp : p.Perm (upto n)) : cmp p (inv p n) = upto n := by
  have hl := perm_len hp
  refine List.ext_getElem? fun k => ?_
  unfold cmp
  rw [List.getElem?_map]
  by_cases hk : k < n
  · rw [upto_at hk, List.getElem?_eq_getElem (by omega)]
    have hm := (perm_mem hp (x := p[k]'(by omega))).mp (List.getElem_mem _)
    have e := inv_at (p := p) (n := n) (j := (p[k]'(by omega)).toNat) (by omega)
    rw [show (((p[k]'(by omega)).toNat : Nat) : Int) = p[k]'(by omega) by omega, idx_at (perm_nd hp)] at e
    show some ((inv p n).getD (p[k]'(by omega)).toNat 0) = _
    rw [getD_at e]
  · rw [List.getElem?_eq_none (by omega), List.getElem?_eq_none (by rw [upto_length]; omega)]
    rfl
theorem inv_cmp {p : List Int} {n : Nat} (hp : p.Perm (upto n)) : cmp (inv p n) p = upto n := by
  have hl := perm_len hp
  refine List.ext_getElem? fun j => ?_
  unfold cmp
  rw [List.getElem?_map]
  by_cases hj : j < n
  · rw [upto_at hj, inv_at hj]
    have hm : (j : Int) ∈ p := (perm_mem hp).mpr ⟨by omega, by omega⟩
    have hk : p.idxOf (j : Int) < p.length := List.idxOf_lt_length_of_mem hm
    show some (p.getD (((p.idxOf (j : Int) : Nat) : Int)).toNat 0) = _
    rw [show (((p.idxOf (j : Int) : Nat) : Int)).toNat = p.idxOf (j : Int) by omega, getD_at (x := (j : Int)) (by rw [List.getElem?_eq_getElem hk, List.getElem_idxOf hk])]
  · rw [List.getElem?_eq_none (by rw [inv_len]; omega), List.getElem?_eq_none (by rw [upto_length]; omega)]
    rfl
theorem cmp_assoc {p q r : List Int} (hp : ∀ x ∈ p, 0 ≤ x ∧ x < q.length) : cmp (cmp p q) r = cmp p (cmp q r) := by
  unfold cmp
  rw [List.map_map]
  refine List.map_congr_left fun x hx => ?_
  have := hp x hx
  have hi : x.toNat < q.length := by omega
  show r.getD (q.getD x.toNat 0).toNat 0 = (q.map fun x => r.getD x.toNat 0).getD x.toNat 0
  rw [getD_at (q := q) (List.getElem?_eq_getElem hi), getD_at (q := q.map _) (by rw [List.getElem?_map, List.getElem?_eq_getElem hi]; rfl)]
/-- one place filled -/
theorem fill_step {p : List Int} {n i : Nat} (hp : p.Perm (upto n)) (hi : i < n) {b : List D} (hl : b.length = n) (hb : ∀ (k : Nat) (x : Int), k < i → p[k]? = some x → b[x.toNat]? = some (nat k)) {x : Int} (hx : p[i]? = some x) :
    (b.set x.toNat (nat i)).length = n ∧ ∀ (k : Nat) (y : Int), k < i + 1 → p[k]? = some y → (b.set x.toNat (nat i))[y.toNat]? = some (nat k) := by
  have hxm := (perm_mem hp).mp (List.mem_of_getElem? hx)
  refine ⟨by rw [List.length_set]; exact hl, fun k y hk hy => ?_⟩
  have hym := (perm_mem hp).mp (List.mem_of_getElem? hy)
  by_cases hki : k = i
  · subst hki
    rw [hx] at hy
    cases hy
    rw [List.getElem?_set_self (by omega)]
  · have hne : x.toNat ≠ y.toNat := fun z => by
      have hxy : x = y := by omega
      subst hxy
      obtain ⟨h1, e1⟩ := List.getElem?_eq_some_iff.mp hx
      obtain ⟨h2, e2⟩ := List.getElem?_eq_some_iff.mp hy
      have a1 := idx_at (perm_nd hp) h1
      have a2 := idx_at (perm_nd hp) h2
      rw [e1] at a1
      rw [e2] at a2
      omega
    rw [List.getElem?_set_ne hne]
    exact hb k y (by omega) hy
theorem inverse_ok {a : D} {p : List Int} {n : Nat} (ha : a = .lst (p.map D.int) ∨ a = .tup (p.map D.int)) (hp : p.Perm (upto n)) (hn : n ≤ 1000000) : m_inverse [a] = .ok (.tup ((inv p n).map D.int)) := by
  apply runF_rt
  have hl := perm_len hp
  have h := fLc_map (vs := [3]) (it := fL (fV 0)) (i := 3) (f := fC (.int 0)) (ρ := [some a, none, none, none]) (k := D.int) (h := fun _ => D.int 0) (ys := p) (by simp [seq_walk ha]) (by omega) (fun y hy => by simp)
  have key : (fun o => ∃ (b : List D) (x y : Option D), o = Res.ok (Fl.nx [some a, some (.lst b), x, y]) ∧ b = (inv p n).map D.int)
      (fFor (fEnum (fA (fV 0) fA0)) (gT (gsC (gN 2) (gsC (gN 3) gs0))) (fSetIx 1 (fV 2) (fV 3)) [some a, some (.lst (p.map fun _ => D.int 0)), none, none]) := by
    rw [fFor_ap (xs := enumD 0 (p.map D.int)) (by simp [fEnum, dEnum, seq_walk ha])]
    refine for_inv (Q := fun o => ∃ (b : List D) (x y : Option D), o = Res.ok (Fl.nx [some a, some (.lst b), x, y]) ∧ b = (inv p n).map D.int)
      (fun i ρ => ∃ (b : List D) (x y : Option D), ρ = [some a, some (.lst b), x, y] ∧ b.length = n ∧ ∀ (k : Nat) (z : Int), k < i → p[k]? = some z → b[z.toNat]? = some (nat k)) ⟨_, none, none, rfl, by rw [List.length_map]; exact hl, fun k z hk => by omega⟩ ?_ ?_
    · rintro i e ρ he ⟨b, x, y, rfl, hbl, hb⟩
      rw [enumD_at, List.getElem?_map, Nat.zero_add] at he
      cases ex : p[i]? with
      | none => rw [ex] at he; cases he
      | some v =>
        rw [ex] at he
        cases he
        have hi : i < n := by have := (List.getElem?_eq_some_iff.mp ex).1; omega
        have hv := (perm_mem hp).mp (List.mem_of_getElem? ex)
        obtain ⟨q1, q2⟩ := fill_step hp hi hbl hb ex
        refine ⟨[some a, some (.lst b), some (nat i), some (.int v)], rfl, ?_⟩
        have e3 : fSetIx 1 (fV 2) (fV 3) [some a, some (.lst b), some (nat i), some (.int v)] = .ok (.nx [some a, some (.lst (b.set v.toNat (nat i))), some (nat i), some (.int v)]) := by
          simp [fSetIx, ixN_ok hv.1 (show v < (b.length : Int) by omega)]
        rw [e3]
        exact ⟨_, _, _, rfl, q1, q2⟩
    · rintro ρ ⟨b, x, y, rfl, hbl, hb⟩
      refine ⟨b, x, y, rfl, fill_inv hp hbl fun k z hz => hb k z ?_ hz⟩
      rw [enumD_length, List.length_map]
      exact (List.getElem?_eq_some_iff.mp hz).1
  obtain ⟨b, x, y, e, rfl⟩ := key
  simp [F_inverse, h, e]
theorem rep24 : dRep (.lst [.int 24]) (.int 24) = .ok (.lst ((List.replicate 24 (24 : Int)).map D.int)) := by
  show (if repOk 1 24 = true then Res.ok (D.lst _) else .er) = _
  rw [if_pos (show repOk 1 24 = true from stuck_iff.mpr ⟨by omega, szOk_yes (by decide)⟩)]
  rfl
theorem drawn_day (cell : Int) {n : Nat} (hn : n ≤ 24) : ∃ (row p : List Int), m_law_digits [.int cell, .lst ((List.replicate 24 (24 : Int)).map D.int)] = .ok (.lst (row.map D.int)) ∧ m_law_day [.int n, .lst (row.map D.int)] = .ok (.tup (p.map D.int)) ∧ p.Perm (upto n) := by
  obtain ⟨row, er, hr⟩ := law_digits_ok cell (List.replicate 24 (24 : Int)) (fun s hs => by
    have := List.eq_of_mem_replicate hs
    subst this
    exact ⟨by omega, lt_lim (by omega)⟩) (by rw [List.length_replicate]; omega)
  have hl : row.length = 24 := by rw [hr.1, List.length_replicate]
  obtain ⟨p, e, hp⟩ := day_ok (n := n) (r := row) (by omega) (by omega) fun x hx => by
    obtain ⟨i, hi⟩ := List.mem_iff_getElem?.mp hx
    have hil := (List.getElem?_eq_some_iff.mp hi).1
    exact (hr.2 i 24 x (by rw [List.getElem?_replicate, if_pos (by omega)]) hi).1
  exact ⟨row, p, er, e, hp⟩
end Kx
namespace Kx
open PySem PySem.Spec L2 Da
theorem turn_nx {F G : FS} {ρ ρ' : Da.Env} {N : Da.Env → Prop} {Q : Res Fl → Prop} (h : F ρ = .ok (.nx ρ')) (k : Da.Turn N Q (G ρ')) : Da.Turn N Q (fSeq F G ρ) := by rw [fSeq_nx h]; exact k
theorem cut_map {ms : List Int} {lo hi : Option Int} : ∃ qs : List Int, cutD (ms.map D.int) lo hi = qs.map D.int ∧ qs.length ≤ ms.length := by
  unfold cutD
  refine ⟨((ms.drop _).take _), by rw [List.map_take, List.map_drop], ?_⟩
  rw [List.length_take, List.length_drop]
  omega
theorem pick3 {p0 p1 p2 : List Int} {n i : Nat} (h0 : p0.Perm (upto n)) (h1 : p1.Perm (upto n)) (h2 : p2.Perm (upto n)) (hi : i < 4) : ∃ p : List Int, dIx (.lst [.tup (p0.map D.int), .tup (p1.map D.int), .tup (p2.map D.int)]) (.int ((i : Int) % 3)) = .ok (.tup (p.map D.int)) ∧ p.Perm (upto n) := by
  have : i = 0 ∨ i = 1 ∨ i = 2 ∨ i = 3 := by omega
  rcases this with rfl | rfl | rfl | rfl
  · exact ⟨p0, rfl, h0⟩
  · exact ⟨p1, rfl, h1⟩
  · exact ⟨p2, rfl, h2⟩
  · exact ⟨p0, rfl, h0⟩
theorem isP_perm {p : List Int} {n : Nat} (h : p.Perm (upto n)) : isP p n = true := by
  unfold isP
  rw [sort_perm h]
  simp [perm_len h]
theorem isP_len {p : List Int} {n : Nat} (h : p.length ≠ n) : isP p n = false := by
  unfold isP
  simp [h]
theorem shaped_two (a b : List Int) : SeqAt.shaped (.list [.list (a.map PyData.int), .list (b.map PyData.int)]) = true := by
  have h1 := PySem.W.shaped_ints a
  have h2 := PySem.W.shaped_ints b
  unfold SeqAt.shaped at h1 h2 ⊢
  simp only [PyData.canLay0, PyData.canLayAll0, PyData.depth, PyData.depthAll, PySem.W.depth_ints, Bool.and_eq_true, decide_eq_true_iff] at h1 h2 ⊢
  exact ⟨⟨h1.1, h2.1, trivial⟩, by omega⟩
theorem law_true (ns : List Int) (h1 : ns.length ≤ 63) (h2 : ∀ x ∈ ns, Builtin.Int.intBits x ≤ 1048576) : m_law [.frl (ns.map D.int)] = .ok (.bl true) := by
  obtain ⟨c0, ec0⟩ := law_cell_ok ns 0 (by omega) (by omega)
  obtain ⟨row0, er0, hr0⟩ := law_digits_ok c0 [24] (fun s hs => by
    have : s = 24 := by simpa using hs
    subst this
    exact ⟨by omega, lt_lim (by omega)⟩) (by decide)
  obtain ⟨r0, rfl, hr⟩ : ∃ r0, row0 = [r0] ∧ 0 ≤ r0 ∧ r0 < 24 := by
    obtain ⟨hl, hd⟩ := hr0
    match row0, hl with
    | [r0], _ => exact ⟨r0, rfl, hd 0 _ _ rfl rfl⟩
  obtain ⟨n, hn⟩ : ∃ n : Nat, (n : Int) = 1 + r0 := ⟨(1 + r0).toNat, by omega⟩
  obtain ⟨c1, ec1⟩ := law_cell_ok ns 1 (by omega) (by omega)
  obtain ⟨c2, ec2⟩ := law_cell_ok ns 2 (by omega) (by omega)
  obtain ⟨c3, ec3⟩ := law_cell_ok ns 3 (by omega) (by omega)
  obtain ⟨w1, p0, ew1, ep0, hp0⟩ := drawn_day c1 (n := n) (by omega)
  obtain ⟨w2, p1, ew2, ep1, hp1⟩ := drawn_day c2 (n := n) (by omega)
  obtain ⟨w3, p2, ew3, ep2, hp2⟩ := drawn_day c3 (n := n) (by omega)
  have hl0 := perm_len hp0
  have hl1 := perm_len hp1
  have hl2 := perm_len hp2
  have r24 := rep24
  simp only [List.reduceReplicate, List.map_cons, List.map_nil] at ew1 ew2 ew3 r24
  simp only [List.map_cons, List.map_nil] at er0
  have in01 : ∀ x ∈ p0, 0 ≤ x ∧ x < p1.length := fun x hx => by rw [hl1]; exact (perm_mem hp0).mp hx
  have in10 : ∀ x ∈ p1, 0 ≤ x ∧ x < p0.length := fun x hx => by rw [hl0]; exact (perm_mem hp1).mp hx
  have in12 : ∀ x ∈ p1, 0 ≤ x ∧ x < p2.length := fun x hx => by rw [hl2]; exact (perm_mem hp1).mp hx
  generalize hA : D.frl (ns.map D.int) = A at ec0 ec1 ec2 ec3 ⊢
  generalize hP0 : D.tup (p0.map D.int) = P0 at ep0
  generalize hP1 : D.tup (p1.map D.int) = P1 at ep1
  generalize hP2 : D.tup (p2.map D.int) = P2 at ep2
  have seq0 : P0 = .lst (p0.map D.int) ∨ P0 = .tup (p0.map D.int) := .inr hP0.symm
  have seq1 : P1 = .lst (p1.map D.int) ∨ P1 = .tup (p1.map D.int) := .inr hP1.symm
  have seq2 : P2 = .lst (p2.map D.int) ∨ P2 = .tup (p2.map D.int) := .inr hP2.symm
  have li0 : dList P0 = .ok (.lst (p0.map D.int)) := by rw [← hP0]; rfl
  have li1 : dList P1 = .ok (.lst (p1.map D.int)) := by rw [← hP1]; rfl
  have rg : ∀ {ρ : Da.Env} {k : Nat} {j : Nat}, fA (fV k) fA0 ρ = .ok [.int (j : Int)] → j ≤ 1000000 → fR1 (fA (fV k) fA0) ρ = .ok ((List.range j).map nat) := fun h hj => by rw [fR1_ok h hj, rng_zero]
  have hn6 : n ≤ 1000000 := by omega
  apply runF_rt
  unfold F_law
  show fSeq _ _ [some A, none, none, none, none, none, none, none, none, none, none, none, none, none, none, none] = _
  refine (fSeq_nx (ρ' := [some A, some (.int n), none, none, none, none, none, none, none, none, none, none, none, none, none, none]) ?_).trans ?_
  · simp [ec0, er0, hn.symm, show dIx (.lst [.int r0]) (.int 0) = .ok (.int r0) from rfl]
  refine (fSeq_nx (ρ' := [some A, some (.int n), some (.lst [P0, P1, P2]), none, none, none, none, none, none, none, none, none, none, none, none, none]) ?_).trans ?_
  · have h := fLc_map (vs := [7]) (it := fR1 (fA (fC (.int 3)) fA0)) (i := 7) (f := fOn (chk 2 m_law_day) (fA (fV 1) (fA (fOn (chk 2 m_law_digits) (fA (fOn (chk 2 m_law_cell) (fA (fV 0) (fA (f2 dAdd (fC (.int 1)) (fV 7)) fA0))) (fA (f2 dRep (fOn gLstD (fA (fC (.int 24)) fA0)) (fC (.int 24))) fA0))) fA0))) (ρ := [some A, some (.int n), none, none, none, none, none, none, none, none, none, none, none, none, none, none]) (k := nat) (h := fun k => if k = 0 then P0 else if k = 1 then P1 else P2) (ys := List.range 3) (by rw [fR1_ok (n := 3) (by simp) (by omega), rng_zero]) (by decide) (fun y hy => by
      have hy := List.mem_range.mp hy
      have : y = 0 ∨ y = 1 ∨ y = 2 := by omega
      rcases this with rfl | rfl | rfl
      · simp [nat, ec1, r24, ew1, ep0]
      · simp [nat, ec2, r24, ew2, ep1]
      · simp [nat, ec3, r24, ew3, ep2])
    simp [-fR1_ap, h, List.range_succ]
  refine (fSeq_nx (ρ' := [some A, some (.int n), some (.lst [P0, P1, P2]), some P0, none, none, none, none, none, none, none, none, none, none, none, none]) ?_).trans ?_
  · simp [show dIx (.lst [P0, P1, P2]) (.int 0) = .ok P0 from rfl]
  refine (fSeq_nx (ρ' := [some A, some (.int n), some (.lst [P0, P1, P2]), some P0, some P1, none, none, none, none, none, none, none, none, none, none, none]) ?_).trans ?_
  · simp [show dIx (.lst [P0, P1, P2]) (.int 1) = .ok P1 from rfl]
  refine (fSeq_nx (ρ' := [some A, some (.int n), some (.lst [P0, P1, P2]), some P0, some P1, none, none, none, none, none, none, none, none, none, none, none]) ?_).trans ?_
  · have h := fLc_map (vs := [7]) (it := fR1 (fA (fV 1) fA0)) (i := 7) (f := fV 7) (ρ := [some A, some (.int n), some (.lst [P0, P1, P2]), some P0, some P1, none, none, none, none, none, none, none, none, none, none, none]) (k := nat) (h := nat) (ys := List.range n) (rg (by simp) hn6) (by rw [List.length_range]; exact hn6) (fun y hy => by simp)
    rw [upto_nat] at h
    have hs := same_seq (v := .lst ((upto n).map D.int)) (k := 4) (ns := upto n) (.inl rfl) (by rw [upto_length]; omega)
    have hs : m_law_same _ = _ := hs
    simp [-fR1_ap, identity_ok hn6, h, hs]
  refine (fSeq_nx (ρ' := [some A, some (.int n), some (.lst [P0, P1, P2]), some P0, some P1, some (.lst [.lst (p0.map D.int), .lst (p1.map D.int)]), none, none, none, none, none, none, none, none, none, none]) ?_).trans ?_
  · simp [li0, li1]
  refine (fSeq_nx (ρ' := [some A, some (.int n), some (.lst [P0, P1, P2]), some P0, some P1, some (.lst [.lst (p0.map D.int), .lst (p1.map D.int)]), none, none, none, none, none, none, none, none, none, none]) ?_).trans ?_
  · have h := fLc_map (vs := [7]) (it := fR1 (fA (fV 1) fA0)) (i := 7) (f := f2 dIx (fV 4) (f2 dIx (fV 3) (fV 7))) (ρ := [some A, some (.int n), some (.lst [P0, P1, P2]), some P0, some P1, some (.lst [.lst (p0.map D.int), .lst (p1.map D.int)]), none, none, none, none, none, none, none, none, none, none]) (k := nat) (h := fun y => D.int (p1.getD (p0.getD y 0).toNat 0)) (ys := List.range n) (rg (by simp) hn6) (by rw [List.length_range]; exact hn6) (fun y hy => by
      have hy := List.mem_range.mp hy
      have hm := in01 (p0.getD y 0) (by rw [getD_at (List.getElem?_eq_getElem (by omega))]; exact List.getElem_mem _)
      have e1 := ix_seq (b := P0) (q := p0) (x := (y : Int)) seq0 (by omega) (by omega)
      rw [show ((y : Int)).toNat = y by omega] at e1
      have e2 := ix_seq seq1 hm.1 hm.2
      simp only [List.getD_eq_getElem?_getD] at e1 e2 ⊢
      simp [nat, e1, e2])
    have e : ((List.range n).map fun y : Nat => D.int (p1.getD (p0.getD y 0).toNat 0)) = (cmp p0 p1).map D.int := by
      unfold cmp
      rw [List.map_map]
      refine List.ext_getElem? fun j => ?_
      rw [List.getElem?_map, List.getElem?_map]
      by_cases hj : j < n
      · rw [List.getElem?_range hj, List.getElem?_eq_getElem (by omega)]
        show some (D.int (p1.getD (p0.getD j 0).toNat 0)) = _
        rw [getD_at (q := p0) (i := j) (List.getElem?_eq_getElem (by omega))]
        rfl
      · rw [List.getElem?_eq_none (by rw [List.length_range]; omega), List.getElem?_eq_none (by omega)]
        rfl
    rw [e] at h
    have hs := same_seq (v := .lst ((cmp p0 p1).map D.int)) (k := 4) (ns := cmp p0 p1) (.inl rfl) (by unfold cmp; rw [List.length_map]; omega)
    have hs : m_law_same _ = _ := hs
    have hc := composed_ok (p := p0) (q := p1) (a := .lst (p0.map D.int)) (.inl rfl) (b := .lst (p1.map D.int)) (.inl rfl) (by omega) in01
    simp [-fR1_ap, h, hs, hc, show dIx (.lst [.lst (p0.map D.int), .lst (p1.map D.int)]) (.int 0) = .ok (.lst (p0.map D.int)) from rfl, show dIx (.lst [.lst (p0.map D.int), .lst (p1.map D.int)]) (.int 1) = .ok (.lst (p1.map D.int)) from rfl]
  refine (fSeq_nx (ρ' := [some A, some (.int n), some (.lst [P0, P1, P2]), some P0, some P1, some (.lst [.lst (p0.map D.int), .lst (p1.map D.int)]), none, none, none, none, none, none, none, none, none, none]) ?_).trans ?_
  · have h := fLc_map (vs := [7]) (it := fR1 (fA (fV 1) fA0)) (i := 7) (f := f2 dIx (fV 3) (f2 dIx (fV 4) (fV 7))) (ρ := [some A, some (.int n), some (.lst [P0, P1, P2]), some P0, some P1, some (.lst [.lst (p0.map D.int), .lst (p1.map D.int)]), none, none, none, none, none, none, none, none, none, none]) (k := nat) (h := fun y => D.int (p0.getD (p1.getD y 0).toNat 0)) (ys := List.range n) (rg (by simp) hn6) (by rw [List.length_range]; exact hn6) (fun y hy => by
      have hy := List.mem_range.mp hy
      have hm := in10 (p1.getD y 0) (by rw [getD_at (List.getElem?_eq_getElem (by omega))]; exact List.getElem_mem _)
      have e1 := ix_seq (b := P1) (q := p1) (x := (y : Int)) seq1 (by omega) (by omega)
      rw [show ((y : Int)).toNat = y by omega] at e1
      have e2 := ix_seq seq0 hm.1 hm.2
      simp only [List.getD_eq_getElem?_getD] at e1 e2 ⊢
      simp [nat, e1, e2])
    have e : ((List.range n).map fun y : Nat => D.int (p0.getD (p1.getD y 0).toNat 0)) = (cmp p1 p0).map D.int := by
      unfold cmp
      rw [List.map_map]
      refine List.ext_getElem? fun j => ?_
      rw [List.getElem?_map, List.getElem?_map]
      by_cases hj : j < n
      · rw [List.getElem?_range hj, List.getElem?_eq_getElem (by omega)]
        show some (D.int (p0.getD (p1.getD j 0).toNat 0)) = _
        rw [getD_at (q := p1) (i := j) (List.getElem?_eq_getElem (by omega))]
        rfl
      · rw [List.getElem?_eq_none (by rw [List.length_range]; omega), List.getElem?_eq_none (by omega)]
        rfl
    rw [e] at h
    have hs := same_seq (v := .lst ((cmp p1 p0).map D.int)) (k := 4) (ns := cmp p1 p0) (.inl rfl) (by unfold cmp; rw [List.length_map]; omega)
    have hs : m_law_same _ = _ := hs
    have hc := composed_ok (p := p1) (q := p0) (a := P1) seq1 (b := P0) seq0 (by omega) in10
    simp [-fR1_ap, h, hs, hc]
  refine (fSeq_nx (ρ' := [some A, some (.int n), some (.lst [P0, P1, P2]), some P0, some P1, some (.lst [.lst (p0.map D.int), .lst (p1.map D.int)]), some (.lst ((List.replicate n D.non))), none, none, none, none, none, none, none, none, none]) ?_).trans ?_
  · have h := fLc_map (vs := [7]) (it := fR1 (fA (fV 1) fA0)) (i := 7) (f := fC .non) (ρ := [some A, some (.int n), some (.lst [P0, P1, P2]), some P0, some P1, some (.lst [.lst (p0.map D.int), .lst (p1.map D.int)]), none, none, none, none, none, none, none, none, none, none]) (k := nat) (h := fun _ => D.non) (ys := List.range n) (rg (by simp) hn6) (by rw [List.length_range]; exact hn6) (fun y hy => by simp)
    have e : ((List.range n).map fun _ : Nat => D.non) = List.replicate n D.non := by rw [List.map_const', List.length_range]
    rw [e] at h
    simp [-fR1_ap, h]
  have key : (fun o => ∃ x : Option D, o = Res.ok (Fl.nx [some A, some (.int n), some (.lst [P0, P1, P2]), some P0, some P1, some (.lst [.lst (p0.map D.int), .lst (p1.map D.int)]), some (.lst ((inv p0 n).map D.int)), x, none, none, none, none, none, none, none, none])) (fFor (fR1 (fA (fV 1) fA0)) (gN 7) (fSetIx 6 (fV 7) (f2 dIx (fV 3) (fV 7))) [some A, some (.int n), some (.lst [P0, P1, P2]), some P0, some P1, some (.lst [.lst (p0.map D.int), .lst (p1.map D.int)]), some (.lst ((List.replicate n D.non))), none, none, none, none, none, none, none, none, none]) := by
    rw [fFor_ap (xs := rng 0 n) (fR1_ok (by simp) hn6)]
    refine for_rng (Q := fun o => ∃ x : Option D, o = Res.ok (Fl.nx [some A, some (.int n), some (.lst [P0, P1, P2]), some P0, some P1, some (.lst [.lst (p0.map D.int), .lst (p1.map D.int)]), some (.lst ((inv p0 n).map D.int)), x, none, none, none, none, none, none, none, none]))
      (fun i ρ => ∃ (b : List D) (x : Option D), ρ = [some A, some (.int n), some (.lst [P0, P1, P2]), some P0, some P1, some (.lst [.lst (p0.map D.int), .lst (p1.map D.int)]), some (.lst b), x, none, none, none, none, none, none, none, none] ∧ b.length = n ∧ ∀ (k : Nat) (z : Int), k < i → p0[k]? = some z → b[z.toNat]? = some (nat k)) ⟨_, none, rfl, List.length_replicate, fun k z hk => by omega⟩ ?_ ?_
    · rintro i ρ hi ⟨b, x, rfl, hbl, hb⟩
      have ex := List.getElem?_eq_getElem (l := p0) (i := i) (by omega)
      have hv := (perm_mem hp0).mp (List.mem_of_getElem? ex)
      obtain ⟨q1, q2⟩ := fill_step hp0 hi hbl hb ex
      rw [Int.zero_add]
      refine ⟨[some A, some (.int n), some (.lst [P0, P1, P2]), some P0, some P1, some (.lst [.lst (p0.map D.int), .lst (p1.map D.int)]), some (.lst b), some (nat i), none, none, none, none, none, none, none, none], rfl, ?_⟩
      have e1 := ix_seq (b := P0) (q := p0) (x := (i : Int)) seq0 (by omega) (by omega)
      rw [show ((i : Int)).toNat = i by omega, getD_at ex] at e1
      have e3 : fSetIx 6 (fV 7) (f2 dIx (fV 3) (fV 7)) [some A, some (.int n), some (.lst [P0, P1, P2]), some P0, some P1, some (.lst [.lst (p0.map D.int), .lst (p1.map D.int)]), some (.lst b), some (nat i), none, none, none, none, none, none, none, none] = .ok (.nx [some A, some (.int n), some (.lst [P0, P1, P2]), some P0, some P1, some (.lst [.lst (p0.map D.int), .lst (p1.map D.int)]), some (.lst (b.set (p0[i]'(by omega)).toNat (nat i))), some (nat i), none, none, none, none, none, none, none, none]) := by
        simp [fSetIx, nat, e1, ixN_ok hv.1 (show p0[i]'(by omega) < (b.length : Int) by omega)]
      rw [e3]
      exact ⟨_, _, rfl, q1, q2⟩
    · rintro ρ ⟨b, x, rfl, hbl, hb⟩
      have e := fill_inv hp0 hbl fun k z hz => hb k z (by have := (List.getElem?_eq_some_iff.mp hz).1; omega) hz
      subst e
      exact ⟨x, rfl⟩
  obtain ⟨x7, ekey⟩ := key
  refine (fSeq_nx ekey).trans ?_
  refine (fSeq_nx (ρ' := [some A, some (.int n), some (.lst [P0, P1, P2]), some P0, some P1, some (.lst [.lst (p0.map D.int), .lst (p1.map D.int)]), some (.lst ((inv p0 n).map D.int)), x7, none, none, none, none, none, none, none, none]) ?_).trans ?_
  · have hs := same_seq (v := .lst ((inv p0 n).map D.int)) (k := 4) (ns := inv p0 n) (.inl rfl) (by rw [inv_len]; omega)
    have hs : m_law_same _ = _ := hs
    have i1 := inverse_ok (a := .lst (p0.map D.int)) (.inl rfl) hp0 hn6
    have i2 := inverse_ok (a := P0) seq0 hp0 hn6
    have hd : eqD (.lst [.lst (p0.map D.int), .lst (p1.map D.int)]) (.lst [.lst (p0.map D.int), .lst (p1.map D.int)]) = .ok true := eqD_self (a := .list [.list (p0.map PyData.int), .list (p1.map PyData.int)]) (by simp [D.py, D.pys, pys_ints]) (shaped_two p0 p1)
    simp [fNx, i1, i2, hs, li0, li1, dNe, hd, show dIx (.lst [.lst (p0.map D.int), .lst (p1.map D.int)]) (.int 0) = .ok (.lst (p0.map D.int)) from rfl]
  refine (fSeq_nx (ρ' := [some A, some (.int n), some (.lst [P0, P1, P2]), some P0, some P1, some (.lst [.lst (p0.map D.int), .lst (p1.map D.int)]), some (.lst ((inv p0 n).map D.int)), x7, none, none, none, none, none, none, none, none]) ?_).trans ?_
  · have i2 := inverse_ok (a := P0) seq0 hp0 hn6
    have k1 := composed_ok (a := P0) (b := .tup ((inv p0 n).map D.int)) (p := p0) (q := inv p0 n) seq0 (.inr rfl) (by omega) (fun x hx => by rw [inv_len]; exact (perm_mem hp0).mp hx)
    have k2 := composed_ok (a := .tup ((inv p0 n).map D.int)) (b := P0) (p := inv p0 n) (q := p0) (.inr rfl) seq0 (by rw [inv_len]; omega) (fun x hx => by
      unfold inv at hx
      obtain ⟨j, hj, rfl⟩ := List.mem_map.mp hx
      have hj := List.mem_range.mp hj
      have hm : (j : Int) ∈ p0 := (perm_mem hp0).mpr ⟨by omega, by omega⟩
      have := List.idxOf_lt_length_of_mem hm
      exact ⟨by omega, by omega⟩)
    rw [cmp_inv hp0] at k1
    rw [inv_cmp hp0] at k2
    simp [i2, k1, k2, identity_ok hn6, dNe, eqD_tup]
  refine (fSeq_nx (ρ' := [some A, some (.int n), some (.lst [P0, P1, P2]), some P0, some P1, some (.lst [.lst (p0.map D.int), .lst (p1.map D.int)]), some (.lst ((inv p0 n).map D.int)), x7, none, none, none, none, none, none, none, none]) ?_).trans ?_
  · have k1 := composed_ok (a := P0) (b := P1) (p := p0) (q := p1) seq0 seq1 (by omega) in01
    have k2 := composed_ok (a := .tup ((cmp p0 p1).map D.int)) (b := P2) (p := cmp p0 p1) (q := p2) (.inr rfl) seq2 (by unfold cmp; rw [List.length_map]; omega) (fun x hx => by
      unfold cmp at hx
      obtain ⟨y, hy, rfl⟩ := List.mem_map.mp hx
      have := in01 y hy
      exact in12 _ (by rw [getD_at (List.getElem?_eq_getElem (by omega))]; exact List.getElem_mem _))
    have k3 := composed_ok (a := P1) (b := P2) (p := p1) (q := p2) seq1 seq2 (by omega) in12
    have k4 := composed_ok (a := P0) (b := .tup ((cmp p1 p2).map D.int)) (p := p0) (q := cmp p1 p2) seq0 (.inr rfl) (by omega) (fun x hx => by unfold cmp; rw [List.length_map]; exact in01 x hx)
    rw [cmp_assoc in01] at k2
    simp [k1, k2, k3, k4, dNe, eqD_tup, show dIx (.lst [P0, P1, P2]) (.int 2) = .ok P2 from rfl]
  refine seq_by (Q := fun r => r = .ok (.rt (.bl true))) (fun r => ∃ x, r = .ok (.nx x)) ?_ ?_
  · rw [fFor_ap (xs := rng 0 4) (fR1_ok (n := 4) (by simp) (by omega))]
    refine for_rng (Q := fun r => ∃ x, r = .ok (.nx x)) (fun _ ρ => ∃ a8 a9 a10 a11 a12 a13 a14 a15, ρ = [some A, some (.int n), some (.lst [P0, P1, P2]), some P0, some P1, some (.lst [.lst (p0.map D.int), .lst (p1.map D.int)]), some (.lst ((inv p0 n).map D.int)), x7, a8, a9, a10, a11, a12, a13, a14, a15]) ⟨_, _, _, _, _, _, _, _, rfl⟩ ?_ (fun ρ _ => ⟨ρ, rfl⟩)
    rintro i ρ hi ⟨a8, a9, a10, a11, a12, a13, a14, a15, rfl⟩
    rw [Int.zero_add]
    obtain ⟨ci, eci⟩ := law_cell_ok ns (4 + (i : Int)) (by omega) (by omega)
    rw [hA] at eci
    obtain ⟨row, er, hrow⟩ := law_digits_ok ci [6, 24, 30, 24] (by
      intro s hs
      simp at hs
      exact ⟨by omega, lt_lim (by omega)⟩) (by decide)
    obtain ⟨q0, q1, q2, q3, rfl, hq0, hq1, hq2, hq3⟩ : ∃ q0 q1 q2 q3 : Int, row = [q0, q1, q2, q3] ∧ (0 ≤ q0 ∧ q0 < 6) ∧ (0 ≤ q1 ∧ q1 < 24) ∧ (0 ≤ q2 ∧ q2 < 30) ∧ (0 ≤ q3 ∧ q3 < 24) := by
      obtain ⟨hl, hd⟩ := hrow
      match row, hl with
      | [q0, q1, q2, q3], _ => exact ⟨q0, q1, q2, q3, rfl, hd 0 _ _ rfl rfl, hd 1 _ _ rfl rfl, hd 2 _ _ rfl rfl, hd 3 _ _ rfl rfl⟩
    obtain ⟨pm, epm, hpm⟩ := pick3 hp0 hp1 hp2 hi
    rw [hP0, hP1, hP2] at epm
    have hlm := perm_len hpm
    have i0 : dIx (.lst [.int q0, .int q1, .int q2, .int q3]) (.int 0) = .ok (.int q0) := rfl
    have i1 : dIx (.lst [.int q0, .int q1, .int q2, .int q3]) (.int 1) = .ok (.int q1) := rfl
    have i2 : dIx (.lst [.int q0, .int q1, .int q2, .int q3]) (.int 2) = .ok (.int q2) := rfl
    have i3 : dIx (.lst [.int q0, .int q1, .int q2, .int q3]) (.int 3) = .ok (.int q3) := rfl
    simp only [List.map_cons, List.map_nil] at er
    refine ⟨_, rfl, ?_⟩
    refine turn_nx (ρ' := [some A, some (.int n), some (.lst [P0, P1, P2]), some P0, some P1, some (.lst [.lst (p0.map D.int), .lst (p1.map D.int)]), some (.lst ((inv p0 n).map D.int)), x7, some (.int (i : Int)), some (.lst [.int q0, .int q1, .int q2, .int q3]), a10, a11, a12, a13, a14, a15]) ?_ ?_
    · simp [eci, er]
    refine turn_nx (ρ' := [some A, some (.int n), some (.lst [P0, P1, P2]), some P0, some P1, some (.lst [.lst (p0.map D.int), .lst (p1.map D.int)]), some (.lst ((inv p0 n).map D.int)), x7, some (.int (i : Int)), some (.lst [.int q0, .int q1, .int q2, .int q3]), some (.lst (pm.map D.int)), a11, a12, a13, a14, a15]) ?_ ?_
    · simp [dMod_pos (i := (i : Int)) (j := 3) (by omega), epm]
    refine turn_nx (ρ' := [some A, some (.int n), some (.lst [P0, P1, P2]), some P0, some P1, some (.lst [.lst (p0.map D.int), .lst (p1.map D.int)]), some (.lst ((inv p0 n).map D.int)), x7, some (.int (i : Int)), some (.lst [.int q0, .int q1, .int q2, .int q3]), some (.lst (pm.map D.int)), some (.int (q1 % (n : Int))), a12, a13, a14, a15]) ?_ ?_
    · simp [i1, dMod_pos (i := q1) (j := (n : Int)) (by omega)]
    have hz : 0 ≤ q1 % (n : Int) ∧ q1 % (n : Int) < n := ⟨Int.emod_nonneg _ (by omega), Int.emod_lt_of_pos _ (by omega)⟩
    generalize hzz : q1 % (n : Int) = z at hz
    have chain : ∃ ms : List Int, ms.length ≤ 100 ∧ ∀ (N : Da.Env → Prop) (Q : Res Fl → Prop) (G : FS), Da.Turn N Q (G [some A, some (.int n), some (.lst [P0, P1, P2]), some P0, some P1, some (.lst [.lst (p0.map D.int), .lst (p1.map D.int)]), some (.lst ((inv p0 n).map D.int)), x7, some (.int (i : Int)), some (.lst [.int q0, .int q1, .int q2, .int q3]), some (.lst (ms.map D.int)), some (.int (z)), a12, a13, a14, a15]) → Da.Turn N Q ((fSeq (fIfS (fB (f2 dEq (f2 dIx (fV 9) (fC (.int 0))) (fC (.int 0)))) (fSetIx 10 (f2 dIx (fV 10) (f2 dMod (f2 dIx (fV 9) (fC (.int 3))) (fV 1))) (fV 11)) fNext)
        (fSeq (fIfS (fB (f2 dEq (f2 dIx (fV 9) (fC (.int 0))) (fC (.int 1)))) (fSetIx 10 (f2 dSub (f2 dIx (fV 9) (fC (.int 2))) (fC (.int 3))) (fV 11)) fNext)
        (fSeq (fIfS (fB (f2 dEq (f2 dIx (fV 9) (fC (.int 0))) (fC (.int 2)))) (fSet 10 (f2 dAddL (fV 10) (fOn gLstD (fA (f2 dIx (fV 9) (fC (.int 2))) fA0)))) fNext)
        (fSeq (fIfS (fB (f2 dEq (f2 dIx (fV 9) (fC (.int 0))) (fC (.int 3)))) (fSet 10 (f2 dAddL (fCut dCut (fV 10) fNoI (fSoI (fV 11))) (fCut dCut (fV 10) (fSoI (f2 dAdd (fV 11) (fC (.int 1)))) fNoI))) fNext)
        (fSeq (fIfS (fB (f2 dEq (f2 dIx (fV 9) (fC (.int 0))) (fC (.int 4)))) (fSetIx 10 (f2 dSub (f2 dIx (fV 10) (fV 11)) (fV 1)) (fV 11)) fNext)
        G))))) [some A, some (.int n), some (.lst [P0, P1, P2]), some P0, some P1, some (.lst [.lst (p0.map D.int), .lst (p1.map D.int)]), some (.lst ((inv p0 n).map D.int)), x7, some (.int (i : Int)), some (.lst [.int q0, .int q1, .int q2, .int q3]), some (.lst (pm.map D.int)), some (.int (z)), a12, a13, a14, a15]) := by
      have skip : ∀ (ms : List Int) (c : Int) (F : FS), ¬ q0 = c → fIfS (fB (f2 dEq (f2 dIx (fV 9) (fC (.int 0))) (fC (.int c)))) F fNext [some A, some (.int n), some (.lst [P0, P1, P2]), some P0, some P1, some (.lst [.lst (p0.map D.int), .lst (p1.map D.int)]), some (.lst ((inv p0 n).map D.int)), x7, some (.int (i : Int)), some (.lst [.int q0, .int q1, .int q2, .int q3]), some (.lst (ms.map D.int)), some (.int (z)), a12, a13, a14, a15] = .ok (.nx [some A, some (.int n), some (.lst [P0, P1, P2]), some P0, some P1, some (.lst [.lst (p0.map D.int), .lst (p1.map D.int)]), some (.lst ((inv p0 n).map D.int)), x7, some (.int (i : Int)), some (.lst [.int q0, .int q1, .int q2, .int q3]), some (.lst (ms.map D.int)), some (.int (z)), a12, a13, a14, a15]) := fun ms c F hc => by
        have : (q0 == c) = false := by simp [hc]
        simp [i0, this]
      have hzl : z < ((pm.map D.int).length : Int) := by rw [List.length_map]; omega
      by_cases d0 : q0 = 0
      · have hz3 : 0 ≤ q3 % (n : Int) ∧ q3 % (n : Int) < n := ⟨Int.emod_nonneg _ (by omega), Int.emod_lt_of_pos _ (by omega)⟩
        refine ⟨pm.set z.toNat (pm.getD (q3 % (n : Int)).toNat 0), by rw [List.length_set]; omega, fun N Q G k => ?_⟩
        refine turn_nx (ρ' := [some A, some (.int n), some (.lst [P0, P1, P2]), some P0, some P1, some (.lst [.lst (p0.map D.int), .lst (p1.map D.int)]), some (.lst ((inv p0 n).map D.int)), x7, some (.int (i : Int)), some (.lst [.int q0, .int q1, .int q2, .int q3]), some (.lst ((pm.set z.toNat (pm.getD (q3 % (n : Int)).toNat 0)).map D.int)), some (.int (z)), a12, a13, a14, a15]) ?_ ?_
        · have e1 := ix_seq (b := .lst (pm.map D.int)) (q := pm) (x := q3 % (n : Int)) (.inl rfl) hz3.1 (by omega)
          have d0b : (q0 == 0) = true := by simp [d0]
          simp [i0, i3, d0b, fSetIx, dMod_pos (i := q3) (j := (n : Int)) (by omega), e1, ixN_ok hz.1 (show z < (pm.length : Int) by omega), List.map_set]
        · exact turn_nx (skip _ 1 _ (by omega)) (turn_nx (skip _ 2 _ (by omega)) (turn_nx (skip _ 3 _ (by omega)) (turn_nx (skip _ 4 _ (by omega)) k)))
      by_cases d1 : q0 = 1
      · refine ⟨pm.set z.toNat (q2 - 3), by rw [List.length_set]; omega, fun N Q G k => ?_⟩
        refine turn_nx (skip _ 0 _ (by omega)) (turn_nx (ρ' := [some A, some (.int n), some (.lst [P0, P1, P2]), some P0, some P1, some (.lst [.lst (p0.map D.int), .lst (p1.map D.int)]), some (.lst ((inv p0 n).map D.int)), x7, some (.int (i : Int)), some (.lst [.int q0, .int q1, .int q2, .int q3]), some (.lst ((pm.set z.toNat (q2 - 3)).map D.int)), some (.int (z)), a12, a13, a14, a15]) ?_ ?_)
        · have d1b : (q0 == 1) = true := by simp [d1]
          simp [i0, i2, d1b, fSetIx, ixN_ok hz.1 (show z < (pm.length : Int) by omega), List.map_set]
        · exact turn_nx (skip _ 2 _ (by omega)) (turn_nx (skip _ 3 _ (by omega)) (turn_nx (skip _ 4 _ (by omega)) k))
      by_cases d2 : q0 = 2
      · refine ⟨pm ++ [q2], by rw [List.length_append]; simp; omega, fun N Q G k => ?_⟩
        refine turn_nx (skip _ 0 _ (by omega)) (turn_nx (skip _ 1 _ (by omega)) (turn_nx (ρ' := [some A, some (.int n), some (.lst [P0, P1, P2]), some P0, some P1, some (.lst [.lst (p0.map D.int), .lst (p1.map D.int)]), some (.lst ((inv p0 n).map D.int)), x7, some (.int (i : Int)), some (.lst [.int q0, .int q1, .int q2, .int q3]), some (.lst ((pm ++ [q2]).map D.int)), some (.int (z)), a12, a13, a14, a15]) ?_ ?_))
        · have hs : szOk (pm.length + 1) = true := szOk_yes (by omega)
          have d2b : (q0 == 2) = true := by simp [d2]
          simp [i0, i2, d2b, dAddL, hs]
        · exact turn_nx (skip _ 3 _ (by omega)) (turn_nx (skip _ 4 _ (by omega)) k)
      by_cases d3 : q0 = 3
      · obtain ⟨u1, eu1, hu1⟩ := cut_map (ms := pm) (lo := none) (hi := some z)
        obtain ⟨u2, eu2, hu2⟩ := cut_map (ms := pm) (lo := some (z + 1)) (hi := none)
        refine ⟨u1 ++ u2, by rw [List.length_append]; omega, fun N Q G k => ?_⟩
        refine turn_nx (skip _ 0 _ (by omega)) (turn_nx (skip _ 1 _ (by omega)) (turn_nx (skip _ 2 _ (by omega)) (turn_nx (ρ' := [some A, some (.int n), some (.lst [P0, P1, P2]), some P0, some P1, some (.lst [.lst (p0.map D.int), .lst (p1.map D.int)]), some (.lst ((inv p0 n).map D.int)), x7, some (.int (i : Int)), some (.lst [.int q0, .int q1, .int q2, .int q3]), some (.lst ((u1 ++ u2).map D.int)), some (.int (z)), a12, a13, a14, a15]) ?_ ?_)))
        · have hs : szOk (u1.length + u2.length) = true := szOk_yes (by omega)
          have d3b : (q0 == 3) = true := by simp [d3]
          simp [i0, d3b, fCut, fNoI, fSoI, dCut, eu1, eu2, dAddL, hs]
        · exact turn_nx (skip _ 4 _ (by omega)) k
      by_cases d4 : q0 = 4
      · refine ⟨pm.set z.toNat (pm.getD z.toNat 0 - n), by rw [List.length_set]; omega, fun N Q G k => ?_⟩
        refine turn_nx (skip _ 0 _ (by omega)) (turn_nx (skip _ 1 _ (by omega)) (turn_nx (skip _ 2 _ (by omega)) (turn_nx (skip _ 3 _ (by omega)) (turn_nx (ρ' := [some A, some (.int n), some (.lst [P0, P1, P2]), some P0, some P1, some (.lst [.lst (p0.map D.int), .lst (p1.map D.int)]), some (.lst ((inv p0 n).map D.int)), x7, some (.int (i : Int)), some (.lst [.int q0, .int q1, .int q2, .int q3]), some (.lst ((pm.set z.toNat (pm.getD z.toNat 0 - n)).map D.int)), some (.int (z)), a12, a13, a14, a15]) ?_ k))))
        have e1 := ix_seq (b := .lst (pm.map D.int)) (q := pm) (x := z) (.inl rfl) hz.1 (by omega)
        have d4b : (q0 == 4) = true := by simp [d4]
        simp [i0, d4b, fSetIx, e1, ixN_ok hz.1 (show z < (pm.length : Int) by omega), List.map_set]
      · exact ⟨pm, by omega, fun N Q G k => turn_nx (skip _ 0 _ (by omega)) (turn_nx (skip _ 1 _ (by omega)) (turn_nx (skip _ 2 _ (by omega)) (turn_nx (skip _ 3 _ (by omega)) (turn_nx (skip _ 4 _ (by omega)) k))))⟩
    obtain ⟨ms, hms, chain⟩ := chain
    refine chain _ _ _ ?_
    refine turn_nx (ρ' := [some A, some (.int n), some (.lst [P0, P1, P2]), some P0, some P1, some (.lst [.lst (p0.map D.int), .lst (p1.map D.int)]), some (.lst ((inv p0 n).map D.int)), x7, some (.int (i : Int)), some (.lst [.int q0, .int q1, .int q2, .int q3]), some (.lst (ms.map D.int)), some (.int z), some (.lst (ms.map D.int)), a13, a14, a15]) ?_ ?_
    · simp
    refine turn_nx (ρ' := [some A, some (.int n), some (.lst [P0, P1, P2]), some P0, some P1, some (.lst [.lst (p0.map D.int), .lst (p1.map D.int)]), some (.lst ((inv p0 n).map D.int)), x7, some (.int (i : Int)), some (.lst [.int q0, .int q1, .int q2, .int q3]), some (.lst (ms.map D.int)), some (.int z), some (.lst (ms.map D.int)), some (.bl (isP ms n)), a14, a15]) ?_ ?_
    · simp [isperm_ok (v := .lst (ms.map D.int)) (n := n) (.inl rfl) (show ms.length ≤ 1000000 by omega) hn6]
    refine turn_nx (ρ' := [some A, some (.int n), some (.lst [P0, P1, P2]), some P0, some P1, some (.lst [.lst (p0.map D.int), .lst (p1.map D.int)]), some (.lst ((inv p0 n).map D.int)), x7, some (.int (i : Int)), some (.lst [.int q0, .int q1, .int q2, .int q3]), some (.lst (ms.map D.int)), some (.int z), some (.lst (ms.map D.int)), some (.bl (isP ms n)), some (.bl (isP ms n)), a15]) ?_ ?_
    · simp [lawisperm_ok (ns := ms) (n := n) (by omega) hn6]
    refine turn_nx (ρ' := [some A, some (.int n), some (.lst [P0, P1, P2]), some P0, some P1, some (.lst [.lst (p0.map D.int), .lst (p1.map D.int)]), some (.lst ((inv p0 n).map D.int)), x7, some (.int (i : Int)), some (.lst [.int q0, .int q1, .int q2, .int q3]), some (.lst (ms.map D.int)), some (.int z), some (.lst (ms.map D.int)), some (.bl (isP ms n)), some (.bl (isP ms n)), a15]) ?_ ?_
    · cases isP ms n <;> simp [dNot1, dIsB, dNe, eqD_lst]
    obtain ⟨w, hw⟩ : ∃ w : Nat, (w : Int) = 1 + ((n : Int) + q2 % 23) % 24 := ⟨(1 + ((n : Int) + q2 % 23) % 24).toNat, by omega⟩
    refine turn_nx (ρ' := [some A, some (.int n), some (.lst [P0, P1, P2]), some P0, some P1, some (.lst [.lst (p0.map D.int), .lst (p1.map D.int)]), some (.lst ((inv p0 n).map D.int)), x7, some (.int (i : Int)), some (.lst [.int q0, .int q1, .int q2, .int q3]), some (.lst (ms.map D.int)), some (.int z), some (.lst (ms.map D.int)), some (.bl (isP ms n)), some (.bl (isP ms n)), some (.int w)]) ?_ ?_
    · simp [i2, dMod_pos (i := q2) (j := 23) (by omega), dMod_pos (i := (n : Int) + q2 % 23) (j := 24) (by omega), hw]
    have t1 := isperm_ok (v := .tup (pm.map D.int)) (n := n) (.inr rfl) (show pm.length ≤ 1000000 by omega) hn6
    rw [isP_perm hpm] at t1
    have t2 := isperm_ok (v := .lst (pm.map D.int)) (n := w) (.inl rfl) (show pm.length ≤ 1000000 by omega) (by omega)
    rw [isP_len (show pm.length ≠ w by omega)] at t2
    have t3 := isperm_ok (v := .tup []) (ns := []) (n := w) (.inr rfl) (by simp) (by omega)
    rw [isP_len (show ([] : List Int).length ≠ w by simp; omega)] at t3
    have gt : gTupD [] = .ok (.tup []) := gTupD_of (by simp)
    simp [dMod_pos (i := (i : Int)) (j := 3) (by omega), epm, t1, t2, t3, gt, dNot1, dIsB]
  · rintro o ⟨x, rfl⟩
    simp
end Kx
namespace Kx
open PySem PySem.Spec L2 Da
theorem all_mk {P : Program} {w : World} {K : PySem.W.Frag} {h : Heap} {mg : Str → Option Value} {fa : Addr} (X : K.In h) (G : h.Ns mainGlobals mg) (hfa : mg "law" = some (.ref fa))
    {f0 f1 f2 f3 f4 f5 f6 f7 f8 f9 f10 f11 f12 : Addr} {od0 an0 od1 an1 od2 an2 od3 an3 od4 an4 od5 an5 od6 an6 od7 an7 od8 an8 od9 an9 od10 an10 od11 an11 od12 an12 : Option Addr} {sl0 sl1 sl2 sl3 sl4 sl5 sl6 sl7 sl8 sl9 sl10 sl11 sl12 : Array (Option Value)} {oc0 kv0 dc0 pm0 cd0 ct0 oc1 kv1 dc1 pm1 cd1 ct1 oc2 kv2 dc2 pm2 cd2 ct2 oc3 kv3 dc3 pm3 cd3 ct3 oc4 kv4 dc4 pm4 cd4 ct4 oc5 kv5 dc5 pm5 cd5 ct5 oc6 kv6 dc6 pm6 cd6 ct6 oc7 kv7 dc7 pm7 cd7 ct7 oc8 kv8 dc8 pm8 cd8 ct8 oc9 kv9 dc9 pm9 cd9 ct9 oc10 kv10 dc10 pm10 cd10 ct10 oc11 kv11 dc11 pm11 cd11 ct11 oc12 kv12 dc12 pm12 cd12 ct12 : Value}
    (a0 : PySem.W.nsIn K mainGlobals "frozen" = some (some (.ref f0))) (l0 : K.lookup f0 = some ⟨oc0, od0, .func (PySem.W.fnOf "frozen" "frozen" (defArgs s_frozen) (defBody s_frozen) (defScope s_frozen) .none kv0 dc0 pm0 an0 cd0 ct0), sl0⟩) (c0 : PySem.W.codeIn K cd0 "frozen" = true) (k0 : PySem.W.keepIn K (.ref f0) = true)
    (a1 : PySem.W.nsIn K mainGlobals "is_number" = some (some (.ref f1))) (l1 : K.lookup f1 = some ⟨oc1, od1, .func (PySem.W.fnOf "is_number" "is_number" (defArgs s_is_number) (defBody s_is_number) (defScope s_is_number) .none kv1 dc1 pm1 an1 cd1 ct1), sl1⟩) (c1 : PySem.W.codeIn K cd1 "is_number" = true) (k1 : PySem.W.keepIn K (.ref f1) = true)
    (a2 : PySem.W.nsIn K mainGlobals "is_perm" = some (some (.ref f2))) (l2 : K.lookup f2 = some ⟨oc2, od2, .func (PySem.W.fnOf "is_perm" "is_perm" (defArgs s_is_perm) (defBody s_is_perm) (defScope s_is_perm) .none kv2 dc2 pm2 an2 cd2 ct2), sl2⟩) (c2 : PySem.W.codeIn K cd2 "is_perm" = true) (k2 : PySem.W.keepIn K (.ref f2) = true)
    (a3 : PySem.W.nsIn K mainGlobals "identity" = some (some (.ref f3))) (l3 : K.lookup f3 = some ⟨oc3, od3, .func (PySem.W.fnOf "identity" "identity" (defArgs s_identity) (defBody s_identity) (defScope s_identity) .none kv3 dc3 pm3 an3 cd3 ct3), sl3⟩) (c3 : PySem.W.codeIn K cd3 "identity" = true) (k3 : PySem.W.keepIn K (.ref f3) = true)
    (a4 : PySem.W.nsIn K mainGlobals "composed" = some (some (.ref f4))) (l4 : K.lookup f4 = some ⟨oc4, od4, .func (PySem.W.fnOf "composed" "composed" (defArgs s_composed) (defBody s_composed) (defScope s_composed) .none kv4 dc4 pm4 an4 cd4 ct4), sl4⟩) (c4 : PySem.W.codeIn K cd4 "composed" = true) (k4 : PySem.W.keepIn K (.ref f4) = true)
    (a5 : PySem.W.nsIn K mainGlobals "inverse" = some (some (.ref f5))) (l5 : K.lookup f5 = some ⟨oc5, od5, .func (PySem.W.fnOf "inverse" "inverse" (defArgs s_inverse) (defBody s_inverse) (defScope s_inverse) .none kv5 dc5 pm5 an5 cd5 ct5), sl5⟩) (c5 : PySem.W.codeIn K cd5 "inverse" = true) (k5 : PySem.W.keepIn K (.ref f5) = true)
    (a6 : PySem.W.nsIn K mainGlobals "_law_whole" = some (some (.ref f6))) (l6 : K.lookup f6 = some ⟨oc6, od6, .func (PySem.W.fnOf "_law_whole" "_law_whole" (defArgs s_law_whole) (defBody s_law_whole) (defScope s_law_whole) .none kv6 dc6 pm6 an6 cd6 ct6), sl6⟩) (c6 : PySem.W.codeIn K cd6 "_law_whole" = true) (k6 : PySem.W.keepIn K (.ref f6) = true)
    (a7 : PySem.W.nsIn K mainGlobals "_law_cell" = some (some (.ref f7))) (l7 : K.lookup f7 = some ⟨oc7, od7, .func (PySem.W.fnOf "_law_cell" "_law_cell" (defArgs s_law_cell) (defBody s_law_cell) (defScope s_law_cell) .none kv7 dc7 pm7 an7 cd7 ct7), sl7⟩) (c7 : PySem.W.codeIn K cd7 "_law_cell" = true) (k7 : PySem.W.keepIn K (.ref f7) = true)
    (a8 : PySem.W.nsIn K mainGlobals "_law_digits" = some (some (.ref f8))) (l8 : K.lookup f8 = some ⟨oc8, od8, .func (PySem.W.fnOf "_law_digits" "_law_digits" (defArgs s_law_digits) (defBody s_law_digits) (defScope s_law_digits) .none kv8 dc8 pm8 an8 cd8 ct8), sl8⟩) (c8 : PySem.W.codeIn K cd8 "_law_digits" = true) (k8 : PySem.W.keepIn K (.ref f8) = true)
    (a9 : PySem.W.nsIn K mainGlobals "_law_day" = some (some (.ref f9))) (l9 : K.lookup f9 = some ⟨oc9, od9, .func (PySem.W.fnOf "_law_day" "_law_day" (defArgs s_law_day) (defBody s_law_day) (defScope s_law_day) .none kv9 dc9 pm9 an9 cd9 ct9), sl9⟩) (c9 : PySem.W.codeIn K cd9 "_law_day" = true) (k9 : PySem.W.keepIn K (.ref f9) = true)
    (a10 : PySem.W.nsIn K mainGlobals "_law_same" = some (some (.ref f10))) (l10 : K.lookup f10 = some ⟨oc10, od10, .func (PySem.W.fnOf "_law_same" "_law_same" (defArgs s_law_same) (defBody s_law_same) (defScope s_law_same) .none kv10 dc10 pm10 an10 cd10 ct10), sl10⟩) (c10 : PySem.W.codeIn K cd10 "_law_same" = true) (k10 : PySem.W.keepIn K (.ref f10) = true)
    (a11 : PySem.W.nsIn K mainGlobals "_law_is_perm" = some (some (.ref f11))) (l11 : K.lookup f11 = some ⟨oc11, od11, .func (PySem.W.fnOf "_law_is_perm" "_law_is_perm" (defArgs s_law_is_perm) (defBody s_law_is_perm) (defScope s_law_is_perm) .none kv11 dc11 pm11 an11 cd11 ct11), sl11⟩) (c11 : PySem.W.codeIn K cd11 "_law_is_perm" = true) (k11 : PySem.W.keepIn K (.ref f11) = true)
    (a12 : PySem.W.nsIn K mainGlobals "law" = some (some (.ref f12))) (l12 : K.lookup f12 = some ⟨oc12, od12, .func (PySem.W.fnOf "law" "law" (defArgs s_law) (defBody s_law) (defScope s_law) .none kv12 dc12 pm12 an12 cd12 ct12), sl12⟩) (c12 : PySem.W.codeIn K cd12 "law" = true) (k12 : PySem.W.keepIn K (.ref f12) = true)
    (z0 : PySem.W.nsIn K mainGlobals "all" = some none)
    (z1 : PySem.W.nsIn K mainGlobals "bool" = some none)
    (z2 : PySem.W.nsIn K mainGlobals "enumerate" = some none)
    (z3 : PySem.W.nsIn K mainGlobals "int" = some none)
    (z4 : PySem.W.nsIn K mainGlobals "isinstance" = some none)
    (z5 : PySem.W.nsIn K mainGlobals "len" = some none)
    (z6 : PySem.W.nsIn K mainGlobals "list" = some none)
    (z7 : PySem.W.nsIn K mainGlobals "range" = some none)
    (z8 : PySem.W.nsIn K mainGlobals "sorted" = some none)
    (z9 : PySem.W.nsIn K mainGlobals "str" = some none)
    (z10 : PySem.W.nsIn K mainGlobals "tuple" = some none)
    : ∃ fd : FuncData, (∀ (s : Shared) (u : Value), BindsTo s fd ⟨[u], []⟩ [("script", u)]) ∧ ∀ base : Heap, K.In base → base.Ns mainGlobals mg → FnOk P w K mg base (L2.CX P w) 8 fa fd ["script"] (spLaw K) := by
  have e := hfa.symm.trans (PySem.W.mg_of X G a12)
  cases e
  have T : Txt K mg :=
    { d_frozen := defAt_mk X G a0 l0 c0 k0 fun _ _ _ _ _ _ us hl => match us, hl with | [_], _ => rfl
      d_is_number := defAt_mk X G a1 l1 c1 k1 fun _ _ _ _ _ _ us hl => match us, hl with | [_], _ => rfl
      d_is_perm := defAt_mk X G a2 l2 c2 k2 fun _ _ _ _ _ _ us hl => match us, hl with | [_, _], _ => rfl
      d_identity := defAt_mk X G a3 l3 c3 k3 fun _ _ _ _ _ _ us hl => match us, hl with | [_], _ => rfl
      d_composed := defAt_mk X G a4 l4 c4 k4 fun _ _ _ _ _ _ us hl => match us, hl with | [_, _], _ => rfl
      d_inverse := defAt_mk X G a5 l5 c5 k5 fun _ _ _ _ _ _ us hl => match us, hl with | [_], _ => rfl
      d_law_whole := defAt_mk X G a6 l6 c6 k6 fun _ _ _ _ _ _ us hl => match us, hl with | [_], _ => rfl
      d_law_cell := defAt_mk X G a7 l7 c7 k7 fun _ _ _ _ _ _ us hl => match us, hl with | [_, _], _ => rfl
      d_law_digits := defAt_mk X G a8 l8 c8 k8 fun _ _ _ _ _ _ us hl => match us, hl with | [_, _], _ => rfl
      d_law_day := defAt_mk X G a9 l9 c9 k9 fun _ _ _ _ _ _ us hl => match us, hl with | [_, _], _ => rfl
      d_law_same := defAt_mk X G a10 l10 c10 k10 fun _ _ _ _ _ _ us hl => match us, hl with | [_, _], _ => rfl
      d_law_is_perm := defAt_mk X G a11 l11 c11 k11 fun _ _ _ _ _ _ us hl => match us, hl with | [_, _], _ => rfl
      z_all := PySem.W.mg_none_of X G z0
      z_bool := PySem.W.mg_none_of X G z1
      z_enumerate := PySem.W.mg_none_of X G z2
      z_int := PySem.W.mg_none_of X G z3
      z_isinstance := PySem.W.mg_none_of X G z4
      z_len := PySem.W.mg_none_of X G z5
      z_list := PySem.W.mg_none_of X G z6
      z_range := PySem.W.mg_none_of X G z7
      z_sorted := PySem.W.mg_none_of X G z8
      z_str := PySem.W.mg_none_of X G z9
      z_tuple := PySem.W.mg_none_of X G z10 }
  exact ⟨_, fun s u => .of_eq rfl, fun base _ _ => law_imp (okf_law T (fun_mk (st := s_law) l12 c12 k12)) law_true⟩
end Kx
end
open PySem PySem.W PyProof.Rows
set_option maxRecDepth 100000 in
set_option maxHeartbeats 0 in
theorem PySem.Challenge.cw_nobadday_k07_permutations_holds : PySem.Challenge.rw_nobadday_k07_permutations.Holds := by
  w_on; o_law; k_head; (case hw => w_witness2)
  k_fill
  refine Da.walk_end (l := PySem.Challenge.rw_nobadday_k07_permutations) (k := 8) rfl rfl ⟨rfl, by decide, by decide⟩ (fun w h Y => PySem.W.kIn_of Y) ?F
  case F =>
    intro w mg fa h KX G hmg
    refine' Kx.all_mk KX G hmg ?a0 ?l0 ?c0 ?k0 ?a1 ?l1 ?c1 ?k1 ?a2 ?l2 ?c2 ?k2 ?a3 ?l3 ?c3 ?k3 ?a4 ?l4 ?c4 ?k4 ?a5 ?l5 ?c5 ?k5 ?a6 ?l6 ?c6 ?k6 ?a7 ?l7 ?c7 ?k7 ?a8 ?l8 ?c8 ?k8 ?a9 ?l9 ?c9 ?k9 ?a10 ?l10 ?c10 ?k10 ?a11 ?l11 ?c11 ?k11 ?a12 ?l12 ?c12 ?k12 ?z0 ?z1 ?z2 ?z3 ?z4 ?z5 ?z6 ?z7 ?z8 ?z9 ?z10
    (case a0 => k_is); (case l0 => k_is); (case c0 => k_is); (case k0 => k_is); (case a1 => k_is); (case l1 => k_is); (case c1 => k_is); (case k1 => k_is)
    (case a2 => k_is); (case l2 => k_is); (case c2 => k_is); (case k2 => k_is); (case a3 => k_is); (case l3 => k_is); (case c3 => k_is); (case k3 => k_is)
    (case a4 => k_is); (case l4 => k_is); (case c4 => k_is); (case k4 => k_is); (case a5 => k_is); (case l5 => k_is); (case c5 => k_is); (case k5 => k_is)
    (case a6 => k_is); (case l6 => k_is); (case c6 => k_is); (case k6 => k_is); (case a7 => k_is); (case l7 => k_is); (case c7 => k_is); (case k7 => k_is)
    (case a8 => k_is); (case l8 => k_is); (case c8 => k_is); (case k8 => k_is); (case a9 => k_is); (case l9 => k_is); (case c9 => k_is); (case k9 => k_is)
    (case a10 => k_is); (case l10 => k_is); (case c10 => k_is); (case k10 => k_is); (case a11 => k_is); (case l11 => k_is); (case c11 => k_is); (case k11 => k_is)
    (case a12 => k_is); (case l12 => k_is); (case c12 => k_is); (case k12 => k_is); (case z0 => k_is); (case z1 => k_is); (case z2 => k_is); (case z3 => k_is)
    (case z4 => k_is); (case z5 => k_is); (case z6 => k_is); (case z7 => k_is); (case z8 => k_is); (case z9 => k_is); (case z10 => k_is)
